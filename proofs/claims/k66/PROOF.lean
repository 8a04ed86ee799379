import PyProof.Rows.All
import Wide.All
import OpenK.AllK
import Wide.FinOn
import KE.KStateDown
import HandS.ForMost
import HandS.ForExc
import HandS.Walk
import HandS.Style
import HandS.IsInst
import HandS.Wide
import HandS.Strs
import HandS.TupSets
import HandS.ExcInit
import HandS.ExcIs
import HandS.ExcField
import HandS.Defaults
import HandS.Head0
import HandS.Head1
import HandS.Head2
import HandS.HeadEnd
import HandS.HeadHook1
import HandS.HeadHook2
import KE.BitLaws
import HandS.SetFor
import PyProof.Rows.SetFrom
import KE.KExcIs
import HandS.ExcValue
import PySem.Challenge.RW_bakeahead_k66_whole_doughs_against_all_p
set_option Elab.async false
set_option linter.all false
set_option maxRecDepth 100000
/-! ## M1 -/
/-! the mathematics: sums, prices, ladders, sets of days; no program in sight -/
namespace K66
/-! ### sums -/
def sumR (f : Nat → Int) (a : Nat) : Nat → Int
  | 0 => 0
  | m + 1 => sumR f a m + f (a + m)
theorem sumR_nonneg {f : Nat → Int} (h : ∀ i, 0 ≤ f i) (a : Nat) : ∀ m, 0 ≤ sumR f a m
  | 0 => Int.le_refl 0
  | m + 1 => Int.add_nonneg (sumR_nonneg h a m) (h _)
theorem sumR_split (f : Nat → Int) (a m : Nat) : ∀ k, sumR f a (m + k) = sumR f a m + sumR f (a + m) k
  | 0 => by simp [sumR]
  | k + 1 => by
    have ih := sumR_split f a m k
    show sumR f a (m + k) + f (a + (m + k)) = sumR f a m + (sumR f (a + m) k + f (a + m + k))
    rw [ih, Nat.add_assoc a m k]; omega
theorem sumR_le {f g : Nat → Int} (h : ∀ i, f i ≤ g i) (a : Nat) : ∀ m, sumR f a m ≤ sumR g a m
  | 0 => Int.le_refl 0
  | m + 1 => Int.add_le_add (sumR_le h a m) (h _)
theorem sumR_leW {f g : Nat → Int} (a : Nat) : ∀ m, (∀ i, a ≤ i → i < a + m → f i ≤ g i) → sumR f a m ≤ sumR g a m
  | 0, _ => Int.le_refl 0
  | m + 1, h => Int.add_le_add (sumR_leW a m fun i h1 h2 => h i h1 (by omega)) (h _ (by omega) (by omega))
theorem sumR_congr {f g : Nat → Int} (a : Nat) : ∀ m, (∀ i, a ≤ i → i < a + m → f i = g i) → sumR f a m = sumR g a m
  | 0, _ => rfl
  | m + 1, h => by
    have ih := sumR_congr a m fun i h1 h2 => h i h1 (by omega)
    show sumR f a m + f (a + m) = sumR g a m + g (a + m)
    rw [ih, h (a + m) (by omega) (by omega)]
theorem sumR_zero (a m : Nat) : sumR (fun _ => 0) a m = 0 := by
  induction m with
  | zero => rfl
  | succ m ih => show sumR _ a m + 0 = 0; rw [ih]; rfl
/-- the sum from a to b -/
def sumF (f : Nat → Int) (a b : Nat) : Int := sumR f a (b - a)
theorem sumF_cat (f : Nat → Int) {a b c : Nat} (h1 : a ≤ b) (h2 : b ≤ c) : sumF f a c = sumF f a b + sumF f b c := by
  unfold sumF
  have e : c - a = (b - a) + (c - b) := by omega
  have e2 : a + (b - a) = b := by omega
  rw [e, sumR_split, e2]
theorem sumF_nonneg {f : Nat → Int} (h : ∀ i, 0 ≤ f i) (a b : Nat) : 0 ≤ sumF f a b := sumR_nonneg h a _
theorem sumF_self (f : Nat → Int) (a : Nat) : sumF f a a = 0 := by unfold sumF; rw [Nat.sub_self]; rfl
theorem sumF_succ (f : Nat → Int) {a b : Nat} (h : a ≤ b) : sumF f a (b + 1) = sumF f a b + f b := by
  unfold sumF
  have e : b + 1 - a = (b - a) + 1 := by omega
  have e2 : a + (b - a) = b := by omega
  rw [e]
  show sumR f a (b - a) + f (a + (b - a)) = _
  rw [e2]

/-! ### the data -/
structure Row where
  want : Int
  loaf : Int
  keep : Int
  fine : Option Int
structure Dg where
  mix : Int
  dough : Int
  hold : Int
structure Bk where
  lights : List Int
  rows : List Row
  life : Option Int
def MOST : Int := 1000000000
def num (x : Int) : Prop := 0 ≤ x ∧ x ≤ MOST
def Row.ok (r : Row) : Prop := num r.want ∧ num r.loaf ∧ num r.keep ∧ ∀ f, r.fine = some f → num f
def Dg.ok (g : Dg) : Prop := num g.mix ∧ num g.dough ∧ num g.hold
def row0 : Row := ⟨0, 0, 0, none⟩
def dg0 : Dg := ⟨0, 0, 0⟩
structure Bk.ok (b : Bk) : Prop where
  pos : 1 ≤ b.lights.length
  most : b.lights.length ≤ 40
  len : b.rows.length = b.lights.length
  lightOk : ∀ x ∈ b.lights, num x
  rowOk : ∀ r ∈ b.rows, r.ok
  lifeOk : ∀ L, b.life = some L → 0 ≤ L ∧ L ≤ 40
structure DgOk (b : Bk) (g : List Dg) : Prop where
  len : g.length = b.lights.length
  ok : ∀ d ∈ g, d.ok
abbrev Bk.n (b : Bk) : Nat := b.lights.length
def Bk.row (b : Bk) (i : Nat) : Row := b.rows.getD i row0
def Bk.want (b : Bk) (i : Nat) : Int := (b.row i).want
def Bk.loaf (b : Bk) (i : Nat) : Int := (b.row i).loaf
def Bk.keep (b : Bk) (i : Nat) : Int := (b.row i).keep
def Bk.fine (b : Bk) (i : Nat) : Option Int := (b.row i).fine
def Bk.fineV (b : Bk) (i : Nat) : Int := (b.fine i).getD 0
def Bk.light (b : Bk) (i : Nat) : Int := b.lights.getD i 0
def gd (g : List Dg) (i : Nat) : Dg := g.getD i dg0
def mixD (g : List Dg) (i : Nat) : Int := (gd g i).mix
def holdD (g : List Dg) (i : Nat) : Int := (gd g i).hold
def tooLong (life : Option Int) (k : Nat) : Bool := match life with
  | none => false
  | some L => decide (L < (k : Int))
/-- all fines of the nights from d to s are there -/
def finesIn (b : Bk) (d : Nat) : Nat → Bool
  | 0 => true
  | m + 1 => finesIn b d m && (b.fine (d + m)).isSome
def Bk.price (b : Bk) (s d : Nat) : Option Int :=
  if s ≤ d then (if tooLong b.life (d - s) then none else some (b.loaf s + sumF b.keep s d))
  else (if finesIn b d (s - d) then some (b.loaf s + sumF b.fineV d s) else none)
def each (g : List Dg) (r s : Nat) : Int := (gd g r).dough + sumF (holdD g) r s
def Bk.cost (b : Bk) (g : List Dg) (r s d : Nat) : Option Int := if b.want d = 0 then some 0 else (b.price s d).map fun p => b.want d * p + b.want d * each g r s
def Bk.pair (b : Bk) (g : List Dg) (r s d : Nat) : Option Int := (b.price s d).map fun p => p + each g r s

section
variable {b : Bk} {g : List Dg}
theorem row_ok (h : b.ok) (i : Nat) : (b.row i).ok := by
  unfold Bk.row
  rw [List.getD_eq_getElem?_getD]
  cases e : b.rows[i]? with
  | none => exact ⟨⟨by decide, by decide⟩, ⟨by decide, by decide⟩, ⟨by decide, by decide⟩, fun f hf => by cases hf⟩
  | some r => exact h.rowOk r (List.mem_of_getElem? e)
theorem gd_ok (h : DgOk b g) (i : Nat) : (gd g i).ok := by
  unfold gd
  rw [List.getD_eq_getElem?_getD]
  cases e : g[i]? with
  | none => exact ⟨⟨by decide, by decide⟩, ⟨by decide, by decide⟩, ⟨by decide, by decide⟩⟩
  | some r => exact h.ok r (List.mem_of_getElem? e)
theorem want_nn (h : b.ok) (i : Nat) : 0 ≤ b.want i := (row_ok h i).1.1
theorem keep_nn (h : b.ok) (i : Nat) : 0 ≤ b.keep i := (row_ok h i).2.2.1.1
theorem fineV_nn (h : b.ok) (i : Nat) : 0 ≤ b.fineV i := by
  unfold Bk.fineV
  cases e : b.fine i with
  | none => exact Int.le_refl 0
  | some f => exact ((row_ok h i).2.2.2 f e).1
theorem light_num (h : b.ok) (i : Nat) : num (b.light i) := by
  unfold Bk.light
  rw [List.getD_eq_getElem?_getD]
  cases e : b.lights[i]? with
  | none => exact ⟨by decide, by decide⟩
  | some r => exact h.lightOk r (List.mem_of_getElem? e)
theorem light_nn (h : b.ok) (i : Nat) : 0 ≤ b.light i := (light_num h i).1
theorem mix_nn (h : DgOk b g) (i : Nat) : 0 ≤ mixD g i := (gd_ok h i).1.1
theorem hold_nn (h : DgOk b g) (i : Nat) : 0 ≤ holdD g i := (gd_ok h i).2.2.1

/-! ### crossing is never cheaper -/
theorem finesIn_all {d : Nat} : ∀ {m : Nat}, finesIn b d m = true → ∀ i, i < m → (b.fine (d + i)).isSome = true
  | 0, _, i, hi => absurd hi (Nat.not_lt_zero i)
  | m + 1, h, i, hi => by
    have h' : finesIn b d m = true ∧ (b.fine (d + m)).isSome = true := by simpa [finesIn] using h
    by_cases e : i = m
    · rw [e]; exact h'.2
    · exact finesIn_all h'.1 i (by omega)
theorem finesIn_of {d : Nat} : ∀ {m : Nat}, (∀ i, i < m → (b.fine (d + i)).isSome = true) → finesIn b d m = true
  | 0, _ => rfl
  | m + 1, h => by
    show (finesIn b d m && (b.fine (d + m)).isSome) = true
    rw [finesIn_of fun i hi => h i (by omega), h m (by omega)]; rfl
theorem finesIn_sub {d d' m m' : Nat} (h : finesIn b d m = true) (h1 : d ≤ d') (h2 : d' + m' ≤ d + m) : finesIn b d' m' = true :=
  finesIn_of fun i hi => by
    have := finesIn_all h (d' - d + i) (by omega)
    rw [show d + (d' - d + i) = d' + i by omega] at this
    exact this
theorem tooLong_mono {life : Option Int} {k k' : Nat} (h : tooLong life k = false) (l : k' ≤ k) : tooLong life k' = false := by
  unfold tooLong at *
  cases life with
  | none => rfl
  | some L =>
    simp only [decide_eq_false_iff_not] at *
    omega
theorem price_ahead {s d : Nat} (h : s ≤ d) {x : Int} : b.price s d = some x ↔ tooLong b.life (d - s) = false ∧ x = b.loaf s + sumF b.keep s d := by
  unfold Bk.price
  rw [if_pos h]
  cases tooLong b.life (d - s) with
  | true => simp
  | false => simp [eq_comm]
theorem price_late {s d : Nat} (h : d < s) {x : Int} : b.price s d = some x ↔ finesIn b d (s - d) = true ∧ x = b.loaf s + sumF b.fineV d s := by
  unfold Bk.price
  rw [if_neg (by omega)]
  cases finesIn b d (s - d) with
  | true => simp [eq_comm]
  | false => simp
theorem monge (hb : b.ok) {s s' d d' : Nat} {x y : Int} (hs : s < s') (hd : d < d') (h1 : b.price s' d = some x) (h2 : b.price s d' = some y) :
    ∃ u v, b.price s d = some u ∧ b.price s' d' = some v ∧ u + v ≤ x + y := by
  have kn := keep_nn hb
  have fn := fineV_nn hb
  by_cases c1 : s' ≤ d
  · -- both ahead
    obtain ⟨a1, rfl⟩ := (price_ahead c1).mp h1
    obtain ⟨a2, rfl⟩ := (price_ahead (by omega : s ≤ d')).mp h2
    refine ⟨_, _, (price_ahead (by omega : s ≤ d)).mpr ⟨tooLong_mono a2 (by omega), rfl⟩, (price_ahead (by omega : s' ≤ d')).mpr ⟨tooLong_mono a2 (by omega), rfl⟩, ?_⟩
    have e1 := sumF_cat b.keep (a := s) (b := s') (c := d) (by omega) (by omega)
    have e2 := sumF_cat b.keep (a := s) (b := s') (c := d') (by omega) (by omega)
    omega
  · have c1' : d < s' := by omega
    obtain ⟨a1, rfl⟩ := (price_late c1').mp h1
    by_cases c2 : s ≤ d
    · obtain ⟨a2, rfl⟩ := (price_ahead (by omega : s ≤ d')).mp h2
      have p1 := (price_ahead (b := b) c2).mpr ⟨tooLong_mono a2 (by omega), rfl⟩
      have e1 := sumF_cat b.keep (a := s) (b := d) (c := d') c2 (by omega)
      have n1 := sumF_nonneg kn d d'
      by_cases c3 : s' ≤ d'
      · refine ⟨_, _, p1, (price_ahead c3).mpr ⟨tooLong_mono a2 (by omega), rfl⟩, ?_⟩
        have e2 := sumF_cat b.keep (a := d) (b := s') (c := d') (by omega) c3
        have n2 := sumF_nonneg kn d s'
        have n3 := sumF_nonneg fn d s'
        omega
      · refine ⟨_, _, p1, (price_late (by omega : d' < s')).mpr ⟨finesIn_sub a1 (by omega) (by omega), rfl⟩, ?_⟩
        have e2 := sumF_cat b.fineV (a := d) (b := d') (c := s') (by omega) (by omega)
        have n2 := sumF_nonneg fn d d'
        omega
    · have c2' : d < s := by omega
      have p1 := (price_late (b := b) c2').mpr ⟨finesIn_sub a1 (Nat.le_refl d) (by omega), rfl⟩
      have e1 := sumF_cat b.fineV (a := d) (b := s) (c := s') (by omega) (by omega)
      by_cases c4 : s ≤ d'
      · obtain ⟨a2, rfl⟩ := (price_ahead c4).mp h2
        by_cases c3 : s' ≤ d'
        · refine ⟨_, _, p1, (price_ahead c3).mpr ⟨tooLong_mono a2 (by omega), rfl⟩, ?_⟩
          have e2 := sumF_cat b.keep (a := s) (b := s') (c := d') (by omega) c3
          have n2 := sumF_nonneg kn s s'
          have n3 := sumF_nonneg fn s s'
          omega
        · refine ⟨_, _, p1, (price_late (by omega : d' < s')).mpr ⟨finesIn_sub a1 (by omega) (by omega), rfl⟩, ?_⟩
          have e2 := sumF_cat b.fineV (a := s) (b := d') (c := s') c4 (by omega)
          have n2 := sumF_nonneg fn s d'
          have n3 := sumF_nonneg kn s d'
          omega
      · obtain ⟨a2, rfl⟩ := (price_late (by omega : d' < s)).mp h2
        refine ⟨_, _, p1, (price_late (by omega : d' < s')).mpr ⟨finesIn_sub a1 (by omega) (by omega), rfl⟩, ?_⟩
        have e2 := sumF_cat b.fineV (a := d') (b := s) (c := s') (by omega) (by omega)
        omega
theorem each_more {g : List Dg} {r s s' : Nat} (h1 : r ≤ s) (h2 : s ≤ s') : each g r s' = each g r s + sumF (holdD g) s s' := by
  unfold each
  rw [sumF_cat (holdD g) h1 h2]; omega
end
end K66

/-! ## M2 -/
/-! ladders, rows of least costs: what they are -/
namespace K66
def csum (c : Nat → Option Int) (a : Nat) : Nat → Option Int
  | 0 => some 0
  | m + 1 => match csum c a m, c (a + m) with
    | some x, some y => some (x + y)
    | _, _ => none
theorem csum_succ {c : Nat → Option Int} {a m : Nat} {x y : Int} (h1 : csum c a m = some x) (h2 : c (a + m) = some y) : csum c a (m + 1) = some (x + y) := by
  unfold csum; rw [h1, h2]
theorem csum_none {c : Nat → Option Int} {a m : Nat} (h2 : c (a + m) = none) : ∀ k, csum c a (m + 1 + k) = none
  | 0 => by
    show csum c a (m + 1) = none
    unfold csum; rw [h2]; cases csum c a m <;> rfl
  | k + 1 => by
    show csum c a (m + 1 + k + 1) = none
    unfold csum; rw [csum_none h2 k]
theorem csum_inv {c : Nat → Option Int} {a m : Nat} {z : Int} (h : csum c a (m + 1) = some z) : ∃ x y, csum c a m = some x ∧ c (a + m) = some y ∧ z = x + y := by
  unfold csum at h
  cases h1 : csum c a m with
  | none => rw [h1] at h; cases h
  | some x =>
    cases h2 : c (a + m) with
    | none => rw [h1, h2] at h; cases h
    | some y => rw [h1, h2] at h; exact ⟨x, y, rfl, rfl, (Option.some.inj h).symm⟩
abbrev at0 (xs : List Int) (i : Nat) : Int := xs.getD i 0
def ClimbsP (xs : List Int) (light : Int) (c : Nat → Option Int) (n : Nat) : Prop := ∀ a m y, 0 < m → a + m ≤ n → csum c a m = some y → at0 xs (a + m) ≤ at0 xs a + (light + y)
def RestsP (b : Bk) (xs : List Int) : Prop := ∀ j, j < b.n → b.want j = 0 → at0 xs (j + 1) ≤ at0 xs j
def HoldsP (b : Bk) (g : List Dg) (F xs : List Int) (r : Nat) : Prop :=
  (∀ j, j ≤ b.n → at0 F j ≤ at0 xs j ∧ at0 xs j ≤ at0 F j + mixD g r) ∧ RestsP b xs ∧ ∀ s, r ≤ s → s < b.n → ClimbsP xs (b.light s) (b.cost g r s) b.n
def LetP (b : Bk) (g : List Dg) (F : List Int) (M : List (List Int)) : Prop := RestsP b F ∧ ∀ r, r < b.n → HoldsP b g F (M.getD r []) r
structure LadOk (b : Bk) (F : List Int) (M : List (List Int)) : Prop where
  len : F.length = b.n + 1
  zero : at0 F 0 = 0
  many : M.length = b.n
  each : ∀ xs ∈ M, xs.length = b.n + 1
/-! ### rows -/
def lesserO (a b : Option Int) : Option Int := match a, b with
  | none, o => o
  | some x, none => some x
  | some x, some y => some (if y < x then y else x)
def addO (a b : Option Int) : Option Int := match a, b with
  | some x, some y => some (x + y)
  | _, _ => none
def unlitO (b : Bk) : Nat → Option Int
  | 0 => some 0
  | j + 1 => if b.want j = 0 then unlitO b j else none
def bestO (c kn : Nat → Option Int) : Nat → Option Int
  | 0 => none
  | d + 1 => addO (lesserO (bestO c kn d) (kn d)) (c d)
def litO (light : Int) (c kn : Nat → Option Int) : Nat → Option Int
  | 0 => none
  | j + 1 => addO (bestO c kn (j + 1)) (some light)
def cost0 (b : Bk) (s d : Nat) : Option Int := if b.want d = 0 then some 0 else (b.price s d).map fun p => b.want d * p
def rowO (b : Bk) : Nat → Nat → Option Int
  | 0, j => unlitO b j
  | k + 1, j => lesserO (rowO b k j) (litO (b.light k) (cost0 b k) (rowO b k) j)
/-! ### sets of days -/
def chosen (N n : Nat) : List Nat := (List.range n).filter fun d => decide (N / 2 ^ d % 2 = 1)
def IsBest (b : Bk) (g : List Dg) (M B : List Nat) (d : Nat) : Option Int → Prop
  | none => ∀ r ∈ M, ∀ s ∈ B, r ≤ s → b.pair g r s d = none
  | some t => (∃ r ∈ M, ∃ s ∈ B, r ≤ s ∧ b.pair g r s d = some t) ∧ ∀ r ∈ M, ∀ s ∈ B, r ≤ s → ∀ x, b.pair g r s d = some x → t ≤ x
def sumL (f : Nat → Int) (l : List Nat) : Int := (l.map f).sum
def wantT (b : Bk) (T : Nat → Int) (d : Nat) : Int := if b.want d = 0 then 0 else b.want d * T d
def IsSet (b : Bk) (g : List Dg) (M B : List Nat) : Option Int → Prop
  | none => ∃ d, d < b.n ∧ 0 < b.want d ∧ IsBest b g M B d none
  | some c => ∃ T : Nat → Int, (∀ d, d < b.n → 0 < b.want d → IsBest b g M B d (some (T d))) ∧ c = sumL (mixD g) M + sumL b.light B + sumR (wantT b T) 0 b.n
def IsLeast (b : Bk) (g : List Dg) (o : Option Int) : Prop :=
  (∀ t, o = some t → ∃ N1 N2, N1 < 2 ^ b.n ∧ N2 < 2 ^ b.n ∧ IsSet b g (chosen N1 b.n) (chosen N2 b.n) (some t)) ∧
  ∀ N1 N2, N1 < 2 ^ b.n → N2 < 2 ^ b.n → ∃ o', IsSet b g (chosen N1 b.n) (chosen N2 b.n) o' ∧ ∀ x, o' = some x → ∃ t, o = some t ∧ t ≤ x
end K66

/-! ## L1 -/
set_option maxHeartbeats 4000000
/-! the layer: what a reading evaluates to (Ev ..), statements over a heap that grows (Sx), promises (spOf), loops, comprehensions -/
namespace K66
open PySem PySem.Spec PyProof.Rows L2
/-! ### heaps that grow -/
def Ex (H H' : Hp) : Prop := ∀ a o, H a = some o → H' a = some o
theorem Ex.rfl {H : Hp} : Ex H H := fun _ _ h => h
theorem Ex.trans {H H1 H2 : Hp} (a : Ex H H1) (b : Ex H1 H2) : Ex H H2 := fun x o h => b x o (a x o h)
theorem Ex.new {H : Hp} {p : Addr} {o : HO} (h : H p = none) : Ex H (upd H p o) := fun a u e => by
  rw [upd_ne (ne_of_none e h)]; exact e
theorem Ex.mut {H H' : Hp} {p : Addr} {o : HO} (e : Ex H H') (h : H p = none) : Ex H (upd H' p o) := fun a u ha => by
  rw [upd_ne (ne_of_none ha h)]; exact e a u ha
theorem Ex.back {H H' : Hp} {p : Addr} (e : Ex H H') (h : H' p = none) : H p = none := by
  cases h1 : H p with
  | none => rfl
  | some o => rw [e p o h1] at h; cases h
theorem Ex.dom {H H' : Hp} (e : Ex H H') : ∀ a, H' a = none → H a = none := fun _ h => e.back h
theorem Ex.ne {H H' : Hp} {a p : Addr} {o : HO} (h : H' p = none) (e : Ex H H') (ha : H a = some o) : a ≠ p := ne_of_none (e a o ha) h
theorem sqL {K : PySem.W.Frag} {H : Hp} {a : Addr} {xs : List V} (h : H a = some (.lst xs)) : SqL K H a xs := .inl (.inl h)
theorem sqT {K : PySem.W.Frag} {H : Hp} {a : Addr} {xs : List V} (h : H a = some (.tup xs)) : SqT K H a xs := .inl (.inl h)
theorem szL {n : Nat} (h : n ≤ 100000) : n ≤ sizeLine := Nat.le_trans h (by decide)
theorem szl {n : Nat} (h : n < 100000) : n < sizeLine := Nat.lt_of_lt_of_le h (by decide)

/-! ### what is told of a value: by the heap ahead, the value, the heap behind -/
abbrev PP := Hp → V → Hp → Prop
class FP (P : PP) : Prop where
  fr : ∀ {H0 H1 : Hp} {v : V} {H2 H3 : Hp}, P H1 v H2 → (∀ a, H1 a = none → H0 a = none) → (∀ a o, H1 a = none → H2 a = some o → H3 a = some o) → P H0 v H3
theorem FP.up {P : PP} [FP P] {H1 H2 H3 : Hp} {v : V} (p : P H1 v H2) (e : Ex H2 H3) : P H1 v H3 := FP.fr p (fun _ h => h) fun a o _ h => e a o h
theorem FP.dn {P : PP} [FP P] {H0 H1 H2 : Hp} {v : V} (p : P H1 v H2) (e : Ex H0 H1) : P H0 v H2 := FP.fr p (fun _ h => e.back h) fun _ _ _ h => h
/-- what stays told as the heap grows, and told from an earlier heap -/
class UP (P : PP) : Prop where
  up : ∀ {H1 H2 H3 : Hp} {v : V}, P H1 v H2 → Ex H2 H3 → P H1 v H3
  dn : ∀ {H0 H1 H2 : Hp} {v : V}, P H1 v H2 → Ex H0 H1 → P H0 v H2
instance (priority := low) {P : PP} [FP P] : UP P := ⟨fun p e => FP.up p e, fun p e => FP.dn p e⟩
def Is (x : V) : PP := fun _ v _ => v = x
def NewL (xs : List V) : PP := fun H1 v H2 => ∃ p, v = .ref p ∧ H1 p = none ∧ H2 p = some (.lst xs)
def NewT (xs : List V) : PP := fun H1 v H2 => ∃ p, v = .ref p ∧ H1 p = none ∧ H2 p = some (.tup xs)
/-- a pure word of the value -/
def Some' (c : V → Prop) : PP := fun _ v _ => c v
def NewLs (n : Nat) (P : Nat → PP) : PP := fun H1 v H2 => ∃ p ys, v = .ref p ∧ H1 p = none ∧ H2 p = some (.lst ys) ∧ ys.length = n ∧ ∀ i y, ys[i]? = some y → P i H1 y H2
instance {x : V} : FP (Is x) := ⟨fun h _ _ => h⟩
instance {c : V → Prop} : FP (Some' c) := ⟨fun h _ _ => h⟩
instance {xs : List V} : FP (NewL xs) := ⟨fun ⟨p, h1, h2, h3⟩ d f => ⟨p, h1, d p h2, f p _ h2 h3⟩⟩
instance {xs : List V} : FP (NewT xs) := ⟨fun ⟨p, h1, h2, h3⟩ d f => ⟨p, h1, d p h2, f p _ h2 h3⟩⟩
instance {n : Nat} {P : Nat → PP} [∀ i, FP (P i)] : FP (NewLs n P) := ⟨fun ⟨p, ys, h1, h2, h3, h4, h5⟩ d f => ⟨p, ys, h1, d p h2, f p _ h2 h3, h4, fun i y hy => FP.fr (h5 i y hy) d f⟩⟩
instance {α : Sort _} {P : α → PP} [∀ x, FP (P x)] : FP (fun H1 v H2 => ∃ x, P x H1 v H2) := ⟨fun ⟨x, h⟩ d f => ⟨x, FP.fr h d f⟩⟩
instance {c : Prop} {P : PP} [FP P] : FP (fun H1 v H2 => c ∧ P H1 v H2) := ⟨fun ⟨x, h⟩ d f => ⟨x, FP.fr h d f⟩⟩
inductive PAll : List PP → Hp → List V → Hp → Prop where
  | nil {H1 H2} : PAll [] H1 [] H2
  | cons {P Ps H1 v vs H2} (h : P H1 v H2) (t : PAll Ps H1 vs H2) : PAll (P :: Ps) H1 (v :: vs) H2
class FPs (Ps : List PP) : Prop where
  all : ∀ P ∈ Ps, FP P
instance : FPs [] := ⟨fun _ h => by cases h⟩
instance {P : PP} {Ps : List PP} [h : FP P] [t : FPs Ps] : FPs (P :: Ps) := ⟨fun Q hq => by
  rcases List.mem_cons.mp hq with e | e
  · rw [e]; exact h
  · exact t.all Q e⟩
class UPs (Ps : List PP) : Prop where
  all : ∀ P ∈ Ps, UP P
instance : UPs [] := ⟨fun _ h => by cases h⟩
instance {P : PP} {Ps : List PP} [h : UP P] [t : UPs Ps] : UPs (P :: Ps) := ⟨fun Q hq => by
  rcases List.mem_cons.mp hq with e | e
  · rw [e]; exact h
  · exact t.all Q e⟩
theorem PAll.dn {Ps : List PP} {H0 H1 H2 : Hp} {vs : List V} (p : PAll Ps H1 vs H2) (h : ∀ P ∈ Ps, UP P) (e : Ex H0 H1) : PAll Ps H0 vs H2 := by
  induction p with
  | nil => exact .nil
  | cons q t ih => exact .cons (@UP.dn _ (h _ List.mem_cons_self) _ _ _ _ q e) (ih (fun P hp => h P (List.mem_cons_of_mem _ hp)) e)

/-! ### expressions -/
def Ev (te : TE) (σ : L2.St) (H : Hp) (P : PP) : Prop := ∀ H1, Ex H H1 → ∀ Q : VK, (∀ v H2, Ex H1 H2 → P H1 v H2 → Q v H2) → te σ H1 Q
def EvT (tt : TT) (σ : L2.St) (H : Hp) (b : Bool) : Prop := ∀ H1, Ex H H1 → ∀ Q : Bool → Hp → Prop, (∀ H2, Ex H1 H2 → Q b H2) → tt σ H1 Q
def EvA (ta : TA) (σ : L2.St) (H : Hp) (Ps : List PP) : Prop := ∀ H1, Ex H H1 → ∀ Q : List V → Hp → Prop, (∀ vs H2, Ex H1 H2 → PAll Ps H1 vs H2 → Q vs H2) → ta σ H1 Q
/-- the arguments' values are known -/
def EvX (ta : TA) (σ : L2.St) (H : Hp) (vs : List V) : Prop := ∀ H1, Ex H H1 → ∀ Q : List V → Hp → Prop, (∀ H2, Ex H1 H2 → Q vs H2) → ta σ H1 Q
def EvO (to : TO) (σ : L2.St) (H : Hp) (o : Option Int) : Prop := ∀ H1, Ex H H1 → ∀ Q : Option Int → Hp → Prop, (∀ H2, Ex H1 H2 → Q o H2) → to σ H1 Q
def EvG (g : TG) (x : V) (σ : L2.St) (H : Hp) (σ2 : L2.St) : Prop := ∀ H1, Ex H H1 → ∀ Q : L2.St → Hp → Prop, (∀ H2, Ex H1 H2 → Q σ2 H2) → g x σ H1 Q
section
variable {K : PySem.W.Frag} {σ σ2 : L2.St} {H H' : Hp} {ta tb tc te tx : TE} {t u : TT} {x y z v : V} {r : R2} {P : PP}
theorem Ev.mono (e : Ex H H') (h : Ev te σ H P) : Ev te σ H' P := fun H1 a Q q => h H1 (e.trans a) Q q
theorem EvT.mono {b : Bool} (e : Ex H H') (h : EvT t σ H b) : EvT t σ H' b := fun H1 a Q q => h H1 (e.trans a) Q q
theorem Ev.imp {P' : PP} (h : Ev te σ H P) (k : ∀ H1 v H2, Ex H H1 → Ex H1 H2 → P H1 v H2 → P' H1 v H2) : Ev te σ H P' := fun H1 a Q q => h H1 a Q fun v H2 e p => q v H2 e (k H1 v H2 a e p)
theorem Ev.eq (h : Ev te σ H (Is x)) (e : x = y) : Ev te σ H (Is y) := by rw [← e]; exact h
theorem EvT.eq {a b : Bool} (h : EvT t σ H a) (e : a = b) : EvT t σ H b := by rw [← e]; exact h
theorem ev_var {i : Nat} (h : σ[i]? = some (some v)) : Ev (tVar i) σ H (Is v) := fun H1 _ _ q => ⟨v, h, q v H1 Ex.rfl rfl⟩
theorem ev_c : Ev (tC v) σ H (Is v) := fun H1 _ _ q => q v H1 Ex.rfl rfl
/-- two operands that are known -/
theorem ev_op (ha : Ev ta σ H (Is x)) (hb : Ev tb σ H (Is y)) (hr : ∀ H1, Ex H H1 → ∀ Q : VK, (∀ v H2, Ex H1 H2 → P H1 v H2 → Q v H2) → r x y H1 Q) [UP P] : Ev (tOp r ta tb) σ H P := fun H1 e Q q =>
  ha H1 e _ fun v H2 e2 hv => hb H2 (e.trans e2) _ fun w H3 e3 hw => by
    have h1 : v = x := hv
    have h2 : w = y := hw
    subst h1 h2
    exact hr H3 ((e.trans e2).trans e3) Q fun v H4 e4 p => q v H4 ((e2.trans e3).trans e4) (UP.dn p (e2.trans e3))
/-- the first operand new -/
theorem ev_opN {Pa : PP} [UP Pa] (ha : Ev ta σ H Pa) (hb : Ev tb σ H (Is y)) (hr : ∀ H1 v H2, Ex H H1 → Ex H1 H2 → Pa H1 v H2 → ∀ Q : VK, (∀ z H3, Ex H2 H3 → P H2 z H3 → Q z H3) → r v y H2 Q) [UP P] : Ev (tOp r ta tb) σ H P := fun H1 e Q q =>
  ha H1 e _ fun v H2 e2 hv => hb H2 (e.trans e2) _ fun w H3 e3 hw => by
    have h2 : w = y := hw
    subst h2
    exact hr H1 v H3 e (e2.trans e3) (UP.up hv e3) Q fun v H4 e4 p => q v H4 ((e2.trans e3).trans e4) (UP.dn p (e2.trans e3))
/-- both new -/
theorem ev_opNN {Pa Pb : PP} [UP Pa] [UP Pb] (ha : Ev ta σ H Pa) (hb : Ev tb σ H Pb) (hr : ∀ H1 v w H2, Ex H H1 → Ex H1 H2 → Pa H1 v H2 → Pb H1 w H2 → ∀ Q : VK, (∀ z H3, Ex H2 H3 → P H2 z H3 → Q z H3) → r v w H2 Q) [UP P] : Ev (tOp r ta tb) σ H P := fun H1 e Q q =>
  ha H1 e _ fun v H2 e2 hv => hb H2 (e.trans e2) _ fun w H3 e3 hw => hr H1 v w H3 e (e2.trans e3) (UP.up hv e3) (UP.dn hw e2) Q fun v H4 e4 p => q v H4 ((e2.trans e3).trans e4) (UP.dn p (e2.trans e3))
theorem ev_un {r : V → Hp → VK → Prop} (ha : Ev ta σ H (Is x)) (hr : ∀ H1, Ex H H1 → ∀ Q : VK, (∀ v H2, Ex H1 H2 → P H1 v H2 → Q v H2) → r x H1 Q) [UP P] : Ev (tUn r ta) σ H P := fun H1 e Q q =>
  ha H1 e _ fun v H2 e2 hv => by
    have h1 : v = x := hv
    subst h1
    exact hr H2 (e.trans e2) Q fun v H4 e4 p => q v H4 (e2.trans e4) (UP.dn p e2)
theorem ev_I0 {g : Int → Int → V} {i j : Int} (ha : Ev ta σ H (Is (.int i))) (hb : Ev tb σ H (Is (.int j))) : Ev (tOp (rI0 g) ta tb) σ H (Is (g i j)) := ev_op ha hb fun H1 _ _ q => ⟨i, j, rfl, rfl, q _ H1 Ex.rfl rfl⟩
theorem ev_I {C : Int → Int → Prop} {g : Int → Int → V} {i j : Int} (ha : Ev ta σ H (Is (.int i))) (hb : Ev tb σ H (Is (.int j))) (hc : C i j) : Ev (tOp (rI C g) ta tb) σ H (Is (g i j)) := ev_op ha hb fun H1 _ _ q => ⟨i, j, rfl, rfl, hc, q _ H1 Ex.rfl rfl⟩
theorem ev_neg {i : Int} (ha : Ev ta σ H (Is (.int i))) : Ev (tUn (rU fun i => .int (-i)) ta) σ H (Is (.int (-i))) := ev_un ha fun H1 _ _ q => ⟨i, rfl, q _ H1 Ex.rfl rfl⟩
theorem ev_eq (ha : Ev ta σ H (Is x)) (hb : Ev tb σ H (Is y)) (h : scal x y = true) : Ev (tOp rEq ta tb) σ H (Is (.bl (decide (x = y)))) := ev_op ha hb fun H1 _ _ q => ⟨h, q _ H1 Ex.rfl rfl⟩
theorem ev_ne (ha : Ev ta σ H (Is x)) (hb : Ev tb σ H (Is y)) (h : scal x y = true) : Ev (tOp rNe ta tb) σ H (Is (.bl (!decide (x = y)))) := ev_op ha hb fun H1 _ _ q => ⟨h, q _ H1 Ex.rfl rfl⟩
def rIsN : R2 := fun x y H Q => y = .non ∧ Q (.bl (decide (x = .non))) H
def rNotN : R2 := fun x y H Q => y = .non ∧ Q (.bl (!decide (x = .non))) H
theorem ev_isN (ha : Ev ta σ H (Is x)) : Ev (tOp rIsN ta (tC .non)) σ H (Is (.bl (decide (x = .non)))) := ev_op ha ev_c fun H1 _ _ q => ⟨rfl, q _ H1 Ex.rfl rfl⟩
theorem ev_notN (ha : Ev ta σ H (Is x)) : Ev (tOp rNotN ta (tC .non)) σ H (Is (.bl (!decide (x = .non)))) := ev_op ha ev_c fun H1 _ _ q => ⟨rfl, q _ H1 Ex.rfl rfl⟩
theorem ev_isB {a b : Bool} (ha : Ev ta σ H (Is (.bl a))) (hb : Ev tb σ H (Is (.bl b))) : Ev (tOp rIsB ta tb) σ H (Is (.bl (decide (a = b)))) := ev_op ha hb fun H1 _ _ q => ⟨a, b, rfl, rfl, q _ H1 Ex.rfl rfl⟩
theorem ev_notB {a b : Bool} (ha : Ev ta σ H (Is (.bl a))) (hb : Ev tb σ H (Is (.bl b))) : Ev (tOp rNotB ta tb) σ H (Is (.bl (!decide (a = b)))) := ev_op ha hb fun H1 _ _ q => ⟨a, b, rfl, rfl, q _ H1 Ex.rfl rfl⟩
theorem ev_inL {p : Addr} {xs : List V} (ha : Ev ta σ H (Is x)) (hb : Ev tb σ H (Is (.ref p))) (h : H p = some (.lst xs)) (hx : flatV x = true) (hf : xs.all flatV = true) : Ev (tOp (rIn K false) ta tb) σ H (Is (.bl (inV x xs))) :=
  ev_op ha hb fun H1 e _ q => ⟨p, xs, rfl, .inl (sqL (e p _ h)), hx, hf, q _ H1 Ex.rfl rfl⟩
/-! items -/
theorem ev_ixL {p : Addr} {xs : List V} {i : Int} (h : H p = some (.lst xs)) (ha : Ev ta σ H (Is (.ref p))) (hb : Ev tb σ H (Is (.int i))) (hi : atI xs i = some v) : Ev (tOp (rIx K) ta tb) σ H (Is v) :=
  ev_op ha hb fun H1 e _ q => .inl ⟨p, xs, i, v, rfl, rfl, sqL (e p _ h), hi, q _ H1 Ex.rfl rfl⟩
theorem ev_ixT {p : Addr} {xs : List V} {i : Int} (h : H p = some (.tup xs)) (ha : Ev ta σ H (Is (.ref p))) (hb : Ev tb σ H (Is (.int i))) (hi : atI xs i = some v) : Ev (tOp (rIx K) ta tb) σ H (Is v) :=
  ev_op ha hb fun H1 e _ q => .inr (.inl ⟨p, xs, i, v, rfl, rfl, sqT (e p _ h), hi, q _ H1 Ex.rfl rfl⟩)
theorem ev_ixNL {xs : List V} {i : Int} (ha : Ev ta σ H (NewL xs)) (hb : Ev tb σ H (Is (.int i))) (hi : atI xs i = some v) : Ev (tOp (rIx K) ta tb) σ H (Is v) :=
  ev_opN ha hb fun H1 w H2 _ _ hp Q q => by
    obtain ⟨p, rfl, _, h⟩ := hp
    exact .inl ⟨p, xs, i, v, rfl, rfl, sqL h, hi, q _ H2 Ex.rfl rfl⟩
theorem ev_ixNT {xs : List V} {i : Int} (ha : Ev ta σ H (NewT xs)) (hb : Ev tb σ H (Is (.int i))) (hi : atI xs i = some v) : Ev (tOp (rIx K) ta tb) σ H (Is v) :=
  ev_opN ha hb fun H1 w H2 _ _ hp Q q => by
    obtain ⟨p, rfl, _, h⟩ := hp
    exact .inr (.inl ⟨p, xs, i, v, rfl, rfl, sqT h, hi, q _ H2 Ex.rfl rfl⟩)
/-! tests -/
theorem et_test {b : Bool} (h : Ev te σ H (Is (.bl b))) : EvT (tTest te) σ H b := fun H1 e _ q => h H1 e _ fun v H2 e2 hv => ⟨b, hv, q H2 e2⟩
theorem et_B {b : Bool} (h : Ev te σ H (Is (.bl b))) : EvT (tB te) σ H b := fun H1 e _ q => h H1 e _ fun v H2 e2 hv => ⟨b, hv, q H2 e2⟩
theorem et_and {a b : Bool} (h1 : EvT t σ H a) (h2 : a = true → EvT u σ H b) : EvT (tAnd t u) σ H (a && b) := fun H1 e Q q => h1 H1 e _ fun H2 e2 => by
  cases a with
  | true => show u σ H2 Q; exact h2 rfl H2 (e.trans e2) Q fun H3 e3 => q H3 (e2.trans e3)
  | false => show Q false H2; exact q H2 e2
theorem et_or {a b : Bool} (h1 : EvT t σ H a) (h2 : a = false → EvT u σ H b) : EvT (tOr t u) σ H (a || b) := fun H1 e Q q => h1 H1 e _ fun H2 e2 => by
  cases a with
  | true => show Q true H2; exact q H2 e2
  | false => show u σ H2 Q; exact h2 rfl H2 (e.trans e2) Q fun H3 e3 => q H3 (e2.trans e3)
theorem et_not {a : Bool} (h1 : EvT t σ H a) : EvT (tNot t) σ H (!a) := fun H1 e _ q => h1 H1 e _ fun H2 e2 => q H2 e2
theorem et_yes : EvT tYes σ H true := fun H1 _ _ q => q H1 Ex.rfl
theorem ev_andV {a b : Bool} (h1 : Ev ta σ H (Is (.bl a))) (h2 : a = true → Ev tb σ H (Is (.bl b))) : Ev (tAndV ta tb) σ H (Is (.bl (a && b))) := fun H1 e Q q => h1 H1 e _ fun v H2 e2 hv => ⟨a, hv, by
  cases a with
  | true => show tb σ H2 Q; exact h2 rfl H2 (e.trans e2) Q fun w H3 e3 hw => q w H3 (e2.trans e3) hw
  | false => show Q (.bl false) H2; exact q _ H2 e2 rfl⟩
theorem ev_orV {a b : Bool} (h1 : Ev ta σ H (Is (.bl a))) (h2 : a = false → Ev tb σ H (Is (.bl b))) : Ev (tOrV ta tb) σ H (Is (.bl (a || b))) := fun H1 e Q q => h1 H1 e _ fun v H2 e2 hv => ⟨a, hv, by
  cases a with
  | true => show Q (.bl true) H2; exact q _ H2 e2 rfl
  | false => show tb σ H2 Q; exact h2 rfl H2 (e.trans e2) Q fun w H3 e3 hw => q w H3 (e2.trans e3) hw⟩
theorem ev_notV {a : Bool} (h1 : Ev ta σ H (Is (.bl a))) : Ev (tNotV ta) σ H (Is (.bl (!a))) := fun H1 e _ q => h1 H1 e _ fun v H2 e2 hv => ⟨a, hv, q _ H2 e2 rfl⟩
theorem ev_if {b : Bool} [UP P] (h : EvT t σ H b) (h1 : b = true → Ev ta σ H P) (h2 : b = false → Ev tb σ H P) : Ev (tIf t ta tb) σ H P := fun H1 e Q q => h H1 e _ fun H2 e2 => by
  cases b with
  | true => show ta σ H2 Q; exact h1 rfl H2 (e.trans e2) Q fun v H3 e3 p => q v H3 (e2.trans e3) (UP.dn p e2)
  | false => show tb σ H2 Q; exact h2 rfl H2 (e.trans e2) Q fun v H3 e3 p => q v H3 (e2.trans e3) (UP.dn p e2)
/-- a <= b <= c -/
theorem ev_chain {r' : R2} {a b : Bool} (ha : Ev ta σ H (Is x)) (hb : Ev tb σ H (Is y)) (hc : Ev tc σ H (Is z)) (hr : ∀ H1, Ex H H1 → ∀ Q : VK, Q (.bl a) H1 → r x y H1 Q) (hr' : ∀ H1, Ex H H1 → ∀ Q : VK, Q (.bl b) H1 → r' y z H1 Q) :
    Ev (tChain r r' ta tb tc) σ H (Is (.bl (a && b))) := fun H1 e Q q => ha H1 e _ fun v H2 e2 hv => hb H2 (e.trans e2) _ fun w H3 e3 hw => by
  have h1 : v = x := hv
  have h2 : w = y := hw
  subst h1 h2
  refine hr H3 ((e.trans e2).trans e3) _ ⟨a, rfl, ?_⟩
  cases a with
  | true =>
    show tc σ H3 _
    refine hc H3 ((e.trans e2).trans e3) _ fun z' H4 e4 hz => ?_
    have h3 : z' = z := hz
    subst h3
    exact hr' H4 (((e.trans e2).trans e3).trans e4) _ (q _ H4 ((e2.trans e3).trans e4) rfl)
  | false =>
    show Q (.bl false) H3
    exact q _ H3 (e2.trans e3) rfl
/-! arguments -/
theorem ea_nil : EvA tNil σ H [] := fun H1 _ _ q => q [] H1 Ex.rfl .nil
theorem ea_cons {tr : TA} {Ps : List PP} [UP P] [hp : UPs Ps] (h : Ev te σ H P) (hr : EvA tr σ H Ps) : EvA (tCons te tr) σ H (P :: Ps) := fun H1 e _ q =>
  h H1 e _ fun v H2 e2 p => hr H2 (e.trans e2) _ fun vs H3 e3 ps => q _ H3 (e2.trans e3) (.cons (UP.up p e3) (ps.dn hp.all e2))
theorem ex_nil : EvX tNil σ H [] := fun H1 _ _ q => q H1 Ex.rfl
theorem ex_cons {tr : TA} {xs : List V} (h : Ev te σ H (Is x)) (hr : EvX tr σ H xs) : EvX (tCons te tr) σ H (x :: xs) := fun H1 e _ q =>
  h H1 e _ fun v H2 e2 p => by
    have h1 : v = x := p
    subst h1
    exact hr H2 (e.trans e2) _ fun H3 e3 => q H3 (e2.trans e3)
theorem eo_none : EvO tNoPart σ H none := fun H1 _ _ q => q H1 Ex.rfl
theorem eo_some {i : Int} (h : Ev te σ H (Is (.int i))) : EvO (tPart te) σ H (some i) := fun H1 e _ q => h H1 e _ fun v H2 e2 hv => ⟨i, hv, q H2 e2⟩
/-! displays, slices, built-ins -/
theorem ev_lst {ta : TA} {vs : List V} (h : EvX ta σ H vs) (hl : vs.length ≤ 100000) : Ev (tLst ta) σ H (NewL vs) := fun H1 e _ q =>
  h H1 e _ fun H2 e2 => ⟨szL hl, fun p hp => q _ _ (e2.trans (Ex.new hp)) ⟨p, rfl, e2.back hp, upd_same⟩⟩
theorem ev_tup {ta : TA} {vs : List V} (h : EvX ta σ H vs) (hl : vs.length ≤ 100000) : Ev (tTup ta) σ H (NewT vs) := fun H1 e _ q =>
  h H1 e _ fun H2 e2 => ⟨szL hl, fun p hp => q _ _ (e2.trans (Ex.new hp)) ⟨p, rfl, e2.back hp, upd_same⟩⟩
/-- a display of new things -/
def NewLA (Ps : List PP) : PP := fun H1 v H2 => ∃ p vs, v = .ref p ∧ H1 p = none ∧ H2 p = some (.lst vs) ∧ PAll Ps H1 vs H2
def NewTA (Ps : List PP) : PP := fun H1 v H2 => ∃ p vs, v = .ref p ∧ H1 p = none ∧ H2 p = some (.tup vs) ∧ PAll Ps H1 vs H2
theorem PAll.fr {Ps : List PP} {H0 H1 H2 H3 : Hp} {vs : List V} (p : PAll Ps H1 vs H2) (h : ∀ P ∈ Ps, FP P) (d : ∀ a, H1 a = none → H0 a = none) (f : ∀ a o, H1 a = none → H2 a = some o → H3 a = some o) : PAll Ps H0 vs H3 := by
  induction p with
  | nil => exact .nil
  | cons q t ih => exact .cons (@FP.fr _ (h _ List.mem_cons_self) _ _ _ _ _ q d f) (ih (fun P hp => h P (List.mem_cons_of_mem _ hp)) d f)
instance {Ps : List PP} [hp : FPs Ps] : FP (NewLA Ps) := ⟨fun ⟨p, vs, h1, h2, h3, h4⟩ d f => ⟨p, vs, h1, d p h2, f p _ h2 h3, h4.fr hp.all d f⟩⟩
instance {Ps : List PP} [hp : FPs Ps] : FP (NewTA Ps) := ⟨fun ⟨p, vs, h1, h2, h3, h4⟩ d f => ⟨p, vs, h1, d p h2, f p _ h2 h3, h4.fr hp.all d f⟩⟩
theorem PAll.len {Ps : List PP} {H1 H2 : Hp} {vs : List V} (p : PAll Ps H1 vs H2) : vs.length = Ps.length := by
  induction p with
  | nil => rfl
  | cons _ _ ih => rw [List.length_cons, List.length_cons, ih]
theorem ev_lstA {ta : TA} {Ps : List PP} [hp : FPs Ps] (h : EvA ta σ H Ps) (hl : Ps.length ≤ 100000) : Ev (tLst ta) σ H (NewLA Ps) := fun H1 e _ q =>
  h H1 e _ fun vs H2 e2 ps => ⟨szL (by rw [ps.len]; exact hl), fun p hp' => q _ _ (e2.trans (Ex.new hp')) ⟨p, vs, rfl, e2.back hp', upd_same, ps.fr hp.all (fun _ h => h) fun a o _ ha => Ex.new hp' a o ha⟩⟩
theorem ev_tupA {ta : TA} {Ps : List PP} [hp : FPs Ps] (h : EvA ta σ H Ps) (hl : Ps.length ≤ 100000) : Ev (tTup ta) σ H (NewTA Ps) := fun H1 e _ q =>
  h H1 e _ fun vs H2 e2 ps => ⟨szL (by rw [ps.len]; exact hl), fun p hp' => q _ _ (e2.trans (Ex.new hp')) ⟨p, vs, rfl, e2.back hp', upd_same, ps.fr hp.all (fun _ h => h) fun a o _ ha => Ex.new hp' a o ha⟩⟩
theorem ev_slL {tl th : TO} {a : Addr} {xs : List V} {lo hi : Option Int} (hs : H a = some (.lst xs)) (h : Ev te σ H (Is (.ref a))) (h1 : EvO tl σ H lo) (h2 : EvO th σ H hi) : Ev (tSl (rSlL K) te tl th) σ H (NewL (cutV xs lo hi)) := fun H1 e _ q =>
  h H1 e _ fun v H2 e2 hv => h1 H2 (e.trans e2) _ fun H3 e3 => h2 H3 ((e.trans e2).trans e3) _ fun H4 e4 => by
    have h' : v = .ref a := hv
    subst h'
    exact ⟨a, xs, rfl, sqL ((((e.trans e2).trans e3).trans e4) a _ hs), fun p hp => q _ _ (((e2.trans e3).trans e4).trans (Ex.new hp)) ⟨p, rfl, ((e2.trans e3).trans e4).back hp, upd_same⟩⟩
theorem ev_slNL {tl th : TO} {xs : List V} {lo hi : Option Int} (h : Ev te σ H (NewL xs)) (h1 : EvO tl σ H lo) (h2 : EvO th σ H hi) : Ev (tSl (rSlL K) te tl th) σ H (NewL (cutV xs lo hi)) := fun H1 e _ q =>
  h H1 e _ fun v H2 e2 hv => h1 H2 (e.trans e2) _ fun H3 e3 => h2 H3 ((e.trans e2).trans e3) _ fun H4 e4 => by
    obtain ⟨a, rfl, hn, hs⟩ := hv
    exact ⟨a, xs, rfl, sqL ((e3.trans e4) a _ hs), fun p hp => q _ _ (((e2.trans e3).trans e4).trans (Ex.new hp)) ⟨p, rfl, ((e2.trans e3).trans e4).back hp, upd_same⟩⟩
/-- a built-in's call, known arguments -/
theorem ev_cb {r : List V → Hp → VK → Prop} {ta : TA} {vs : List V} [UP P] (h : EvX ta σ H vs) (hr : ∀ H1, Ex H H1 → ∀ Q : VK, (∀ v H2, Ex H1 H2 → P H1 v H2 → Q v H2) → r vs H1 Q) : Ev (tCB r ta) σ H P := fun H1 e Q q =>
  h H1 e _ fun H2 e2 => hr H2 (e.trans e2) Q fun v H3 e3 p => q v H3 (e2.trans e3) (UP.dn p e2)
theorem ev_cbA {r : List V → Hp → VK → Prop} {ta : TA} {Ps : List PP} [UP P] (h : EvA ta σ H Ps) (hr : ∀ H1 vs H2, Ex H H1 → Ex H1 H2 → PAll Ps H1 vs H2 → ∀ Q : VK, (∀ v H3, Ex H2 H3 → P H2 v H3 → Q v H3) → r vs H2 Q) : Ev (tCB r ta) σ H P := fun H1 e Q q =>
  h H1 e _ fun vs H2 e2 ps => hr H1 vs H2 e e2 ps Q fun v H3 e3 p => q v H3 (e2.trans e3) (UP.dn p e2)
def rLenS (K : PySem.W.Frag) : List V → Hp → VK → Prop := fun xs H Q => ∃ p ys, xs = [.ref p] ∧ (SqL K H p ys ∨ SqT K H p ys) ∧ Q (.int ys.length) H
def rListS (K : PySem.W.Frag) : List V → Hp → VK → Prop := fun xs H Q => ∃ p ys, xs = [.ref p] ∧ (SqL K H p ys ∨ SqT K H p ys) ∧ ∀ l, H l = none → Q (.ref l) (upd H l (.lst ys))
def rTupS (K : PySem.W.Frag) : List V → Hp → VK → Prop := fun xs H Q => ∃ p ys, xs = [.ref p] ∧ ((SqL K H p ys ∧ ∀ l, H l = none → Q (.ref l) (upd H l (.tup ys))) ∨ (SqT K H p ys ∧ Q (.ref p) H))
def rIntS : List V → Hp → VK → Prop := fun xs H Q => (∃ i, xs = [.int i] ∧ Q (.int i) H) ∨ ∃ k, xs = [.bl k] ∧ Q (.int (if k then 1 else 0)) H
def rMax2 : List V → Hp → VK → Prop := fun xs H Q => ∃ i j, xs = [.int i, .int j] ∧ Q (.int (if j > i then j else i)) H
def rMin2 : List V → Hp → VK → Prop := fun xs H Q => ∃ i j, xs = [.int i, .int j] ∧ Q (.int (if j < i then j else i)) H
theorem ev_lenL {p : Addr} {xs : List V} (h : H p = some (.lst xs)) (ha : Ev ta σ H (Is (.ref p))) : Ev (tCB (rLenS K) (tCons ta tNil)) σ H (Is (.int (xs.length : Int))) := ev_cb (ex_cons ha ex_nil) fun H1 e _ q => ⟨p, xs, rfl, .inl (sqL (e p _ h)), q _ H1 Ex.rfl rfl⟩
theorem ev_lenT {p : Addr} {xs : List V} (h : H p = some (.tup xs)) (ha : Ev ta σ H (Is (.ref p))) : Ev (tCB (rLenS K) (tCons ta tNil)) σ H (Is (.int (xs.length : Int))) := ev_cb (ex_cons ha ex_nil) fun H1 e _ q => ⟨p, xs, rfl, .inr (sqT (e p _ h)), q _ H1 Ex.rfl rfl⟩
theorem ev_sum {ns : List Int} (ha : Ev ta σ H (NewL (ns.map V.int))) : Ev (tCB (rSum K) (tCons ta tNil)) σ H (Is (.int ns.sum)) := ev_cbA (ea_cons ha ea_nil) fun H1 vs H2 _ _ ps Q q => by
  cases ps with
  | cons h t =>
    cases t
    obtain ⟨p, rfl, _, hp⟩ := h
    exact ⟨p, ns, rfl, sqL hp, q _ H2 Ex.rfl rfl⟩
theorem ev_sumK {p : Addr} {ns : List Int} (h : H p = some (.lst (ns.map V.int))) (ha : Ev ta σ H (Is (.ref p))) : Ev (tCB (rSum K) (tCons ta tNil)) σ H (Is (.int ns.sum)) := ev_cb (ex_cons ha ex_nil) fun H1 e Q q => ⟨p, ns, rfl, sqL (e p _ h), q _ H1 Ex.rfl rfl⟩
theorem ev_all {bs : List Bool} (ha : Ev ta σ H (NewL (bs.map V.bl))) : Ev (tCB (rAll K) (tCons ta tNil)) σ H (Is (.bl (bs.all id))) := ev_cbA (ea_cons ha ea_nil) fun H1 vs H2 _ _ ps Q q => by
  cases ps with
  | cons h t =>
    cases t
    obtain ⟨p, rfl, _, hp⟩ := h
    exact ⟨p, bs, rfl, sqL hp, q _ H2 Ex.rfl rfl⟩
theorem ev_list {p : Addr} {xs : List V} (h : H p = some (.lst xs)) (ha : Ev ta σ H (Is (.ref p))) : Ev (tCB (rListS K) (tCons ta tNil)) σ H (NewL xs) := ev_cb (ex_cons ha ex_nil) fun H1 e _ q => ⟨p, xs, rfl, .inl (sqL (e p _ h)), fun l hl => q _ _ (Ex.new hl) ⟨l, rfl, hl, upd_same⟩⟩
theorem ev_intB {b : Bool} (ha : Ev ta σ H (Is (.bl b))) : Ev (tCB rIntS (tCons ta tNil)) σ H (Is (.int (if b then 1 else 0))) := ev_cb (ex_cons ha ex_nil) fun H1 e _ q => .inr ⟨b, rfl, q _ H1 Ex.rfl rfl⟩
theorem ev_max2 {i j : Int} (ha : Ev ta σ H (Is (.int i))) (hb : Ev tb σ H (Is (.int j))) : Ev (tCB rMax2 (tCons ta (tCons tb tNil))) σ H (Is (.int (if j > i then j else i))) := ev_cb (ex_cons ha (ex_cons hb ex_nil)) fun H1 e _ q => ⟨i, j, rfl, q _ H1 Ex.rfl rfl⟩
theorem ev_min2 {i j : Int} (ha : Ev ta σ H (Is (.int i))) (hb : Ev tb σ H (Is (.int j))) : Ev (tCB rMin2 (tCons ta (tCons tb tNil))) σ H (Is (.int (if j < i then j else i))) := ev_cb (ex_cons ha (ex_cons hb ex_nil)) fun H1 e _ q => ⟨i, j, rfl, q _ H1 Ex.rfl rfl⟩
theorem ev_isi {c w : V} {t' u' : Value} {b : Bool} (ha : Ev ta σ H (Is w)) (hc : ClsV c u') (ht : ∀ H1, Ex H H1 → TyX K H1 w t') (hk : PySem.W.kitOne K t' u' = some b) : Ev (tCB (rIsi K) (tCons ta (tCons (tC c) tNil))) σ H (Is (.bl b)) :=
  ev_cb (ex_cons ha (ex_cons ev_c ex_nil)) fun H1 e _ q => ⟨w, c, t', u', b, rfl, hc, ht H1 e, hk, q _ H1 Ex.rfl rfl⟩

/-! ### promises -/
/-- a def that only makes new things: Pre tells what it hands back -/
def spOf (Pre : List V → Hp → PP → Prop) : Sp := fun vs H Q _ => ∃ (H0 : Hp) (P : PP), Ex H0 H ∧ Pre vs H0 P ∧ ∀ v H', Ex H H' → P H v H' → Q v H'
theorem ev_call {Pre : List V → Hp → PP → Prop} {E : XK} {ta : TA} {vs : List V} [UP P] (ha : EvX ta σ H vs) (hs : Pre vs H P) : Ev (tCall (spOf Pre) [] E ta) σ H P := fun H1 e Q q =>
  ha H1 e _ fun H2 e2 => ⟨H, P, e.trans e2, by rw [List.append_nil]; exact hs, fun v H' e' p => q v H' (e2.trans e') (UP.dn p e2)⟩
theorem ev_callA {Pre : List V → Hp → PP → Prop} {E : XK} {ta : TA} {Ps : List PP} [UP P] (ha : EvA ta σ H Ps) (hs : ∀ H1 vs H2, Ex H H1 → Ex H1 H2 → PAll Ps H1 vs H2 → Pre vs H2 P) : Ev (tCall (spOf Pre) [] E ta) σ H P := fun H1 e Q q =>
  ha H1 e _ fun vs H2 e2 ps => ⟨H2, P, Ex.rfl, by rw [List.append_nil]; exact hs H1 vs H2 e e2 ps, fun v H' e' p => q v H' (e2.trans e') (UP.dn p e2)⟩

/-! ### targets -/
theorem eg_name {j : Nat} : EvG (gName j) x σ H (σ.set j (some x)) := fun H1 _ _ q => q H1 Ex.rfl
end
end K66

/-! ## L3 -/
set_option maxHeartbeats 4000000
namespace K66
open PySem PySem.Spec PyProof.Rows L2
/-! ### statements, over a heap that grows from H -/
def Sx (t : TS) (D : Ends) (σ : L2.St) (H : Hp) : Prop := ∀ H1, Ex H H1 → t D σ H1
section
variable {K : PySem.W.Frag} {σ σ2 : L2.St} {H H' : Hp} {ta tb tc te tx : TE} {t t1 t2 u : TS} {c : TT} {x y z v : V} {P : PP} {D : Ends}
theorem Sx.at (h : Sx t D σ H) : t D σ H := h H Ex.rfl
theorem Sx.mono (e : Ex H H') (h : Sx t D σ H) : Sx t D σ H' := fun H1 a => h H1 (e.trans a)
theorem x_next (k : ∀ H1, Ex H H1 → D.nx σ H1) : Sx tNext D σ H := k
theorem x_asg {i : Nat} [UP P] (h : Ev te σ H P) (k : ∀ v H1, Ex H H1 → P H v H1 → Sx u D (σ.set i (some v)) H1) : Sx (tSeq (tAsg te (gName i)) u) D σ H := fun H1 e =>
  h H1 e _ fun v H2 e2 p => k v H2 (e.trans e2) (UP.dn p e) H2 Ex.rfl
theorem x_set {i : Nat} (h : Ev te σ H (Is v)) (k : Sx u D (σ.set i (some v)) H) : Sx (tSeq (tAsg te (gName i)) u) D σ H := x_asg h fun w H1 e p => by
  have h1 : w = v := p
  subst h1
  exact k.mono e
theorem x_asgG {g : TG} [UP P] (h : Ev te σ H P) (k : ∀ v H1, Ex H H1 → P H v H1 → ∃ σ2, EvG g v σ H1 σ2 ∧ Sx u D σ2 H1) : Sx (tSeq (tAsg te g) u) D σ H := fun H1 e =>
  h H1 e _ fun v H2 e2 p => by
    obtain ⟨σ2, hg, hk⟩ := k v H2 (e.trans e2) (UP.dn p e)
    exact hg H2 Ex.rfl _ fun H3 e3 => hk H3 e3
theorem x_ret [UP P] (h : Ev te σ H P) (k : ∀ v H1, Ex H H1 → P H v H1 → D.rt v H1) : Sx (tSeq (tRet te) u) D σ H := fun H1 e =>
  h H1 e _ fun v H2 e2 p => k v H2 (e.trans e2) (UP.dn p e)
theorem x_if {b : Bool} (h : EvT c σ H b) (h1 : b = true → Sx t1 { D with nx := u D } σ H) (h2 : b = false → Sx t2 { D with nx := u D } σ H) : Sx (tSeq (tIfS c t1 t2) u) D σ H := fun H1 e =>
  h H1 e _ fun H2 e2 => by
    cases b with
    | true => exact h1 rfl H2 (e.trans e2)
    | false => exact h2 rfl H2 (e.trans e2)
theorem x_aug {i : Nat} {f : Int → Int → Int} {a b : Int} (hx : σ[i]? = some (some (.int a))) (h : Ev te σ H (Is (.int b))) (k : Sx u D (σ.set i (some (.int (f a b)))) H) : Sx (tSeq (tAug i te (ipI f)) u) D σ H := fun H1 e =>
  ⟨.int a, hx, h H1 e _ fun v H2 e2 hv => ⟨a, b, rfl, hv, k H2 (e.trans e2)⟩⟩
theorem x_drop [UP P] (h : Ev te σ H P) (k : ∀ v H1, Ex H H1 → P H v H1 → Sx u D σ H1) : Sx (tSeq (tDrop te) u) D σ H := fun H1 e =>
  h H1 e _ fun v H2 e2 p => k v H2 (e.trans e2) (UP.dn p e) H2 Ex.rfl
/-- an append to a list whose address is known -/
theorem x_app {l : Addr} {acc : List V} [UP P] (hl : H l = some (.lst acc)) (ho : Ev ta σ H (Is (.ref l))) (he : Ev te σ H P) (hz : acc.length < 100000) (k : ∀ v H1, Ex H H1 → P H v H1 → Sx u D σ (upd H1 l (.lst (acc ++ [v])))) :
    Sx (tSeq (tDrop (tBM K "list" rAppend ta (tCons te tNil))) u) D σ H := fun H1 e => ho H1 e _ fun w H2 e2 hw => by
  have h1 : w = .ref l := hw
  subst h1
  exact ⟨.inl ⟨rfl, acc, sqL ((e.trans e2) l _ hl)⟩, he H2 (e.trans e2) _ fun v H3 e3 p => ⟨l, acc, v, rfl, rfl, ((e.trans e2).trans e3) l _ hl, szl hz, k v H3 ((e.trans e2).trans e3) (UP.dn p (e.trans e2)) _ Ex.rfl⟩⟩
theorem x_brk (k : ∀ H1, Ex H H1 → D.bk σ H1) : Sx (tSeq tBreak u) D σ H := k

/-! ### targets: tuples -/
theorem eg_tup2 {T : Addr} {a b : V} {g1 g2 : TG} {σ1 : L2.St} (h : H T = some (.tup [a, b])) (h1 : EvG g1 a σ H σ1) (h2 : EvG g2 b σ1 H σ2) : EvG (gTup K 2 (gCons g1 (gCons g2 gNil))) (.ref T) σ H σ2 := fun H1 e Q q =>
  ⟨T, [a, b], rfl, sqT (e T _ h), rfl, a, [b], rfl, h1 H1 e _ fun H2 e2 => ⟨b, [], rfl, h2 H2 (e.trans e2) _ fun H3 e3 => ⟨rfl, q H3 (e2.trans e3)⟩⟩⟩
theorem eg_tup3 {T : Addr} {a b c : V} {g1 g2 g3 : TG} {σ1 σ3 : L2.St} (h : H T = some (.tup [a, b, c])) (h1 : EvG g1 a σ H σ1) (h2 : EvG g2 b σ1 H σ3) (h3 : EvG g3 c σ3 H σ2) : EvG (gTup K 3 (gCons g1 (gCons g2 (gCons g3 gNil)))) (.ref T) σ H σ2 := fun H1 e Q q =>
  ⟨T, [a, b, c], rfl, sqT (e T _ h), rfl, a, [b, c], rfl, h1 H1 e _ fun H2 e2 => ⟨b, [c], rfl, h2 H2 (e.trans e2) _ fun H3 e3 => ⟨c, [], rfl, h3 H3 ((e.trans e2).trans e3) _ fun H4 e4 => ⟨rfl, q H4 ((e2.trans e3).trans e4)⟩⟩⟩⟩
theorem eg_tup4 {T : Addr} {a b c d : V} {j1 j2 j3 j4 : Nat} (h : H T = some (.tup [a, b, c, d])) : EvG (gTup K 4 (gCons (gName j1) (gCons (gName j2) (gCons (gName j3) (gCons (gName j4) gNil))))) (.ref T) σ H ((((σ.set j1 (some a)).set j2 (some b)).set j3 (some c)).set j4 (some d)) := fun H1 e Q q =>
  ⟨T, [a, b, c, d], rfl, sqT (e T _ h), rfl, a, [b, c, d], rfl, b, [c, d], rfl, c, [d], rfl, d, [], rfl, rfl, q H1 Ex.rfl⟩
theorem eg_tup7 {T : Addr} {a1 a2 a3 a4 a5 a6 a7 : V} {j1 j2 j3 j4 j5 j6 j7 : Nat} (h : H T = some (.tup [a1, a2, a3, a4, a5, a6, a7])) : EvG (gTup K 7 (gCons (gName j1) (gCons (gName j2) (gCons (gName j3) (gCons (gName j4) (gCons (gName j5) (gCons (gName j6) (gCons (gName j7) gNil)))))))) (.ref T) σ H
    (((((((σ.set j1 (some a1)).set j2 (some a2)).set j3 (some a3)).set j4 (some a4)).set j5 (some a5)).set j6 (some a6)).set j7 (some a7)) := fun H1 e Q q =>
  ⟨T, [a1, a2, a3, a4, a5, a6, a7], rfl, sqT (e T _ h), rfl, a1, _, rfl, a2, _, rfl, a3, _, rfl, a4, _, rfl, a5, _, rfl, a6, _, rfl, a7, _, rfl, rfl, q H1 Ex.rfl⟩

/-! ### loops: W by the turn, the slots, the heap -/
/-- over a list -/
theorem x_forL {tl : TE} {g : TG} {tz : TS} [UP P] (h : Ev tl σ H P) (k : ∀ v H1, Ex H H1 → P H v H1 → ∃ (a : Addr) (xs : List V) (W : Nat → L2.St → Hp → Prop), v = .ref a ∧ H1 a = some (.lst xs) ∧ W 0 σ H1 ∧ (∀ i σ' H', W i σ' H' → H' a = some (.lst xs)) ∧
    (∀ i x σ' H', xs[i]? = some x → W i σ' H' → ∃ σ2, EvG g x σ' H' σ2 ∧ Sx t { D with nx := W (i + 1), ct := W (i + 1), bk := tz D } σ2 H') ∧ (∀ σ' H', W xs.length σ' H' → Sx tz D σ' H')) : Sx (tSeq (tFor (iList K tl) g t) tz) D σ H := fun H1 e =>
  h H1 e _ fun v H2 e2 p => by
    obtain ⟨a, xs, W, rfl, ha, w0, wl, ws, wd⟩ := k v H2 (e.trans e2) (UP.dn p e)
    exact ⟨a, rfl, ⟨xs, sqL ha⟩, for_list (D := { D with nx := tz D }) (xs := xs) W w0 (fun i σ' H' _ w => sqL (wl i σ' H' w)) (fun i x σ' H' hx w => by
      obtain ⟨σ2, hg, hk⟩ := ws i x σ' H' hx w
      exact hg H' Ex.rfl _ fun H3 e3 => hk H3 e3) fun σ' H' w => (wd σ' H' w).at⟩
/-- over range(lo, hi) -/
theorem x_forR2 {ta : TA} {j : Nat} {tz : TS} {lo hi : Int} (h : EvX ta σ H [.int lo, .int hi]) (hb : -100000 ≤ lo ∧ lo ≤ 100000 ∧ -100000 ≤ hi ∧ hi ≤ 100000) (W : Nat → L2.St → Hp → Prop) (w0 : ∀ H1, Ex H H1 → W 0 σ H1)
    (ws : ∀ (i : Nat) σ' H', lo + (i : Int) < hi → W i σ' H' → Sx t { D with nx := W (i + 1), ct := W (i + 1), bk := tz D } (σ'.set j (some (.int (lo + (i : Int))))) H') (wd : ∀ σ' H', W (hi - lo).toNat σ' H' → Sx tz D σ' H') :
    Sx (tSeq (tFor (iRng2 ta) (gName j) t) tz) D σ H := fun H1 e =>
  h H1 e _ fun H2 e2 => ⟨lo, hi, rfl, ⟨by omega, by omega, by omega, by omega⟩, for_range (D := { D with nx := tz D }) (lo := lo) (n := (hi - lo).toNat) W (w0 H2 (e.trans e2)) (fun i σ' H' hi w => (ws i σ' H' (by omega) w).at) fun σ' H' w => (wd σ' H' w).at⟩
theorem x_forR1 {ta : TA} {j : Nat} {tz : TS} {n : Nat} (h : EvX ta σ H [.int (n : Int)]) (hb : n ≤ 100000) (W : Nat → L2.St → Hp → Prop) (w0 : ∀ H1, Ex H H1 → W 0 σ H1)
    (ws : ∀ (i : Nat) σ' H', i < n → W i σ' H' → Sx t { D with nx := W (i + 1), ct := W (i + 1), bk := tz D } (σ'.set j (some (.int (i : Int)))) H') (wd : ∀ σ' H', W n σ' H' → Sx tz D σ' H') :
    Sx (tSeq (tFor (iRng1 ta) (gName j) t) tz) D σ H := fun H1 e =>
  h H1 e _ fun H2 e2 => ⟨(n : Int), rfl, by omega, by omega, for_range (D := { D with nx := tz D }) (lo := 0) (n := n) W (w0 H2 (e.trans e2)) (fun i σ' H' hi w => by
    have e0 : (0 : Int) + (i : Int) = (i : Int) := Int.zero_add _
    show t _ (σ'.set j (some (.int ((0 : Int) + (i : Int))))) H'
    rw [e0]
    exact (ws i σ' H' hi w).at) fun σ' H' w => (wd σ' H' w).at⟩
/-- over range(hi - 1, -1, -1) -/
theorem x_forDown {ta : TA} {j : Nat} {tz : TS} {n : Nat} (h : EvX ta σ H [.int ((n : Int) - 1), .int (-1), .int (-1)]) (hb : n ≤ 100000) (W : Nat → L2.St → Hp → Prop) (w0 : ∀ H1, Ex H H1 → W 0 σ H1)
    (ws : ∀ (i : Nat) σ' H', i < n → W i σ' H' → Sx t { D with nx := W (i + 1), ct := W (i + 1), bk := tz D } (σ'.set j (some (.int ((n - 1 - i : Nat) : Int)))) H') (wd : ∀ σ' H', W n σ' H' → Sx tz D σ' H')
    (hr : RgC ((n : Int) - 1) (-1) (-1) n) :
    Sx (tSeq (tFor (iRng3 ta) (gName j) t) tz) D σ H := fun H1 e =>
  h H1 e _ fun H2 e2 => ⟨(n : Int) - 1, -1, -1, n, rfl, hr, for_rangeC (D := { D with nx := tz D }) W (w0 H2 (e.trans e2)) (fun i σ' H' hi w => by
    have e0 : (n : Int) - 1 + (i : Nat) * (-1) = ((n - 1 - i : Nat) : Int) := by omega
    show t _ (σ'.set j (some (.int ((n : Int) - 1 + (i : Nat) * (-1))))) H'
    rw [e0]
    exact (ws i σ' H' hi w).at) fun σ' H' w => (wd σ' H' w).at⟩
/-- over enumerate(list) -/
theorem x_forE {ta : TA} {g : TG} {tz : TS} {a : Addr} {xs : List V} (ha : H a = some (.lst xs)) (h : EvX ta σ H [.ref a]) (W : Nat → L2.St → Hp → Prop) (w0 : ∀ H1, Ex H H1 → W 0 σ H1) (wl : ∀ i σ' H', W i σ' H' → H' a = some (.lst xs))
    (ws : ∀ (i : Nat) x σ' H' T H2, xs[i]? = some x → W i σ' H' → Ex H' H2 → H2 T = some (.tup [.int (i : Int), x]) → ∃ σ2, EvG g (.ref T) σ' H2 σ2 ∧ Sx t { D with nx := W (i + 1), ct := W (i + 1), bk := tz D } σ2 H2) (wd : ∀ σ' H', W xs.length σ' H' → Sx tz D σ' H') :
    Sx (tSeq (tFor (iEnum K ta) g t) tz) D σ H := fun H1 e =>
  h H1 e _ fun H2 e2 => ⟨a, xs, rfl, sqL ((e.trans e2) a _ ha), for_it (D := { D with nx := tz D }) (walk_enum (xs := xs)) W (w0 H2 (e.trans e2)) (fun i σ' H' _ w => sqL (wl i σ' H' w)) (fun i x σ' H' H3 hi w y => by
    obtain ⟨T, a1, b1, rfl, hT, rfl, h1, h2⟩ := y
    cases h1
    obtain ⟨σ2, hg, hk⟩ := ws i b1 σ' H' T _ h2 w (Ex.new hT) upd_same
    exact hg _ Ex.rfl _ fun H5 e5 => hk H5 e5) fun σ' H' w => (wd σ' H' w).at⟩
/-- over enumerate of a list that is new -/
theorem x_forEN {te : TE} {g : TG} {tz : TS} [UP P] (h : Ev te σ H P) (k : ∀ v H1, Ex H H1 → P H v H1 → ∃ (a : Addr) (xs : List V) (W : Nat → L2.St → Hp → Prop), v = .ref a ∧ H1 a = some (.lst xs) ∧ W 0 σ H1 ∧ (∀ i σ' H', W i σ' H' → H' a = some (.lst xs)) ∧
    (∀ (i : Nat) x σ' H' T H2, xs[i]? = some x → W i σ' H' → Ex H' H2 → H2 T = some (.tup [.int (i : Int), x]) → ∃ σ2, EvG g (.ref T) σ' H2 σ2 ∧ Sx t { D with nx := W (i + 1), ct := W (i + 1), bk := tz D } σ2 H2) ∧ (∀ σ' H', W xs.length σ' H' → Sx tz D σ' H')) :
    Sx (tSeq (tFor (iEnum K (tCons te tNil)) g t) tz) D σ H := fun H1 e =>
  h H1 e _ fun v H2 e2 p => by
    obtain ⟨a, xs, W, rfl, ha, w0, wl, ws, wd⟩ := k v H2 (e.trans e2) (UP.dn p e)
    exact ⟨a, xs, rfl, sqL ha, for_it (D := { D with nx := tz D }) (walk_enum (xs := xs)) W w0 (fun i σ' H' _ w => sqL (wl i σ' H' w)) (fun i x σ' H' H3 hi w y => by
      obtain ⟨T, a1, b1, rfl, hT, rfl, h1, h2⟩ := y
      cases h1
      obtain ⟨σ2, hg, hk⟩ := ws i b1 σ' H' T _ h2 w (Ex.new hT) upd_same
      exact hg _ Ex.rfl _ fun H5 e5 => hk H5 e5) fun σ' H' w => (wd σ' H' w).at⟩
/-- over zip of two lists, the second perhaps new -/
theorem x_forZ {tx te : TE} {g : TG} {tz : TS} {a : Addr} {xs : List V} [UP P] (ha : H a = some (.lst xs)) (h0 : Ev tx σ H (Is (.ref a))) (h : Ev te σ H P) (k : ∀ v H1, Ex H H1 → P H v H1 → ∃ (b : Addr) (ys : List V) (W : Nat → L2.St → Hp → Prop), v = .ref b ∧ H1 b = some (.lst ys) ∧ ys.length = xs.length ∧ W 0 σ H1 ∧ (∀ i σ' H', W i σ' H' → H' a = some (.lst xs) ∧ H' b = some (.lst ys)) ∧
    (∀ (i : Nat) x y σ' H' T H2, xs[i]? = some x → ys[i]? = some y → W i σ' H' → Ex H' H2 → H2 T = some (.tup [x, y]) → ∃ σ2, EvG g (.ref T) σ' H2 σ2 ∧ Sx t { D with nx := W (i + 1), ct := W (i + 1), bk := tz D } σ2 H2) ∧ (∀ σ' H', W xs.length σ' H' → Sx tz D σ' H')) :
    Sx (tSeq (tFor (iZip K (tCons tx (tCons te tNil))) g t) tz) D σ H := fun H1 e =>
  h0 H1 e _ fun v0 H0 e0 p0 => by
    have z0 : v0 = .ref a := p0
    subst z0
    refine h H0 (e.trans e0) _ fun v H2 e2 p => ?_
    obtain ⟨b, ys, W, rfl, hb, hl, w0, wl, ws, wd⟩ := k v H2 ((e.trans e0).trans e2) (UP.dn p (e.trans e0))
    exact ⟨a, b, xs, ys, rfl, sqL (((e.trans e0).trans e2) a _ ha), sqL hb, for_it (D := { D with nx := tz D }) (walk_zip (xs := xs) (ys := ys) (n := xs.length) (by omega)) W w0 (fun i σ' H' _ w => ⟨sqL (wl i σ' H' w).1, sqL (wl i σ' H' w).2⟩) (fun i x σ' H' H3 hi w y => by
      obtain ⟨T, a1, b1, rfl, hT, rfl, h1, h2⟩ := y
      obtain ⟨σ2, hg, hk⟩ := ws i a1 b1 σ' H' T _ h1 h2 w (Ex.new hT) upd_same
      exact hg _ Ex.rfl _ fun H5 e5 => hk H5 e5) fun σ' H' w => (wd σ' H' w).at⟩
/-- while, by a word that falls -/
theorem x_while {tz : TS} (W : Nat → L2.St → Hp → Prop) (m0 : Nat) (w0 : ∀ H1, Ex H H1 → W m0 σ H1)
    (ws : ∀ m σ' H', W m σ' H' → ∃ b, EvT c σ' H' b ∧ (b = true → ∃ N : L2.St → Hp → Prop, (∀ σ2 H2, N σ2 H2 → ∃ m', m' < m ∧ W m' σ2 H2) ∧ Sx t { D with nx := N, ct := N, bk := tz D } σ' H') ∧ (b = false → Sx tz D σ' H')) : Sx (tSeq (tWhile c t) tz) D σ H := fun H1 e =>
  ⟨W, ⟨m0, w0 H1 e⟩, fun m σ' H' hw => by
    obtain ⟨b, hb, h1, h2⟩ := ws m σ' H' hw
    refine hb H' Ex.rfl _ fun H2 e2 => ?_
    cases b with
    | true =>
      obtain ⟨N, hn, hk⟩ := h1 rfl
      exact ⟨N, hn, hk H2 e2⟩
    | false => exact h2 rfl H2 e2⟩

/-! ### comprehensions -/
/-- n items come from it; item i: Y i x by the heap at which it comes -/
def EvI (wi : TI) (σ : L2.St) (H : Hp) (n : Nat) (Yt : Nat → V → Hp → Prop) : Prop := ∀ H1, Ex H H1 → ∀ R : It → Hp → Prop, (∀ (J : It) (H2 : Hp) (G : Hp → Prop) (Y : Nat → Hp → V → Hp → Prop), Ex H1 H2 → Walk J n G Y → (∀ H', Ex H2 H' → G H') →
  (∀ i H3 x H4, i < n → Ex H2 H3 → Y i H3 x H4 → Ex H3 H4 ∧ Yt i x H4) → R J H2) → wi σ H1 R
theorem ei_list {tl : TE} {a : Addr} {xs : List V} (ha : H a = some (.lst xs)) (h : Ev tl σ H (Is (.ref a))) : EvI (iList K tl) σ H xs.length (fun i x _ => xs[i]? = some x) := fun H1 e R r =>
  h H1 e _ fun v H2 e2 p => by
    have z : v = .ref a := p
    subst z
    exact ⟨a, rfl, ⟨xs, sqL ((e.trans e2) a _ ha)⟩, r (Itl K a) H2 _ _ e2 (walk_list (xs := xs)) (fun H' e' => sqL (((e.trans e2).trans e') a _ ha)) fun i H3 x H4 _ _ ⟨y1, y2⟩ => ⟨by rw [y1]; exact Ex.rfl, y2⟩⟩
theorem ei_listN {tl : TE} {xs : List V} (h : Ev tl σ H (NewL xs)) : EvI (iList K tl) σ H xs.length (fun i x _ => xs[i]? = some x) := fun H1 e R r =>
  h H1 e _ fun v H2 e2 p => by
    obtain ⟨a, rfl, _, ha⟩ := p
    exact ⟨a, rfl, ⟨xs, sqL ha⟩, r (Itl K a) H2 _ _ e2 (walk_list (xs := xs)) (fun H' e' => sqL (e' a _ ha)) fun i H3 x H4 _ _ ⟨y1, y2⟩ => ⟨by rw [y1]; exact Ex.rfl, y2⟩⟩
theorem ei_tupN {tl : TE} {xs : List V} (h : Ev tl σ H (NewT xs)) : EvI (iTup K tl) σ H xs.length (fun i x _ => xs[i]? = some x) := fun H1 e R r =>
  h H1 e _ fun v H2 e2 p => by
    obtain ⟨a, rfl, _, ha⟩ := p
    exact ⟨a, rfl, ⟨xs, sqT ha⟩, r (Itt K a) H2 _ _ e2 (walk_tup (xs := xs)) (fun H' e' => sqT (e' a _ ha)) fun i H3 x H4 _ _ ⟨y1, y2⟩ => ⟨by rw [y1]; exact Ex.rfl, y2⟩⟩
theorem ei_tup {tl : TE} {a : Addr} {xs : List V} (ha : H a = some (.tup xs)) (h : Ev tl σ H (Is (.ref a))) : EvI (iTup K tl) σ H xs.length (fun i x _ => xs[i]? = some x) := fun H1 e R r =>
  h H1 e _ fun v H2 e2 p => by
    have z : v = .ref a := p
    subst z
    exact ⟨a, rfl, ⟨xs, sqT ((e.trans e2) a _ ha)⟩, r (Itt K a) H2 _ _ e2 (walk_tup (xs := xs)) (fun H' e' => sqT (((e.trans e2).trans e') a _ ha)) fun i H3 x H4 _ _ ⟨y1, y2⟩ => ⟨by rw [y1]; exact Ex.rfl, y2⟩⟩
theorem ei_rng1 {ta : TA} {n : Nat} (h : EvX ta σ H [.int (n : Int)]) (hb : n ≤ 100000) : EvI (iRng1 ta) σ H n (fun i x _ => x = .int (i : Int)) := fun H1 e R r =>
  h H1 e _ fun H2 e2 => ⟨(n : Int), rfl, by omega, by omega, r (Itr 0 (n : Int).toNat) H2 _ _ e2 (walk_range (lo := 0) (n := n)) (fun _ _ => trivial) fun i H3 x H4 _ _ ⟨y1, y2⟩ => ⟨by rw [y1]; exact Ex.rfl, by have y3 : x = V.int (0 + (i : Int)) := y2; rw [Int.zero_add] at y3; exact y3⟩⟩
theorem ei_rng2 {ta : TA} {lo hi : Int} (h : EvX ta σ H [.int lo, .int hi]) (hb : -100000 ≤ lo ∧ lo ≤ 100000 ∧ -100000 ≤ hi ∧ hi ≤ 100000) : EvI (iRng2 ta) σ H (hi - lo).toNat (fun i x _ => x = .int (lo + (i : Int))) := fun H1 e R r =>
  h H1 e _ fun H2 e2 => ⟨lo, hi, rfl, ⟨by omega, by omega, by omega, by omega⟩, r (Itr lo (hi - lo).toNat) H2 _ _ e2 (walk_range (lo := lo)) (fun _ _ => trivial) fun i H3 x H4 _ _ ⟨y1, y2⟩ => ⟨by rw [y1]; exact Ex.rfl, y2⟩⟩
theorem ei_enum {ta : TA} {a : Addr} {xs : List V} (ha : H a = some (.lst xs)) (h : EvX ta σ H [.ref a]) : EvI (iEnum K ta) σ H xs.length (fun i v H' => ∃ T x, v = .ref T ∧ H' T = some (.tup [.int (i : Int), x]) ∧ xs[i]? = some x) := fun H1 e R r =>
  h H1 e _ fun H2 e2 => ⟨a, xs, rfl, sqL ((e.trans e2) a _ ha), r (Ite K a) H2 _ _ e2 (walk_enum (xs := xs)) (fun H' e' => sqL (((e.trans e2).trans e') a _ ha)) fun i H3 v H4 _ _ y => by
    obtain ⟨T, a1, b1, rfl, hT, rfl, h1, h2⟩ := y
    cases h1
    exact ⟨Ex.new hT, T, b1, rfl, upd_same, h2⟩⟩
theorem ei_enumA {te : TE} [UP P] {xs : List V} (h : Ev te σ H P) (hp : ∀ H1 v H2, Ex H H1 → Ex H1 H2 → P H1 v H2 → ∃ a, v = .ref a ∧ H2 a = some (.lst xs)) : EvI (iEnum K (tCons te tNil)) σ H xs.length (fun i v H' => ∃ T x, v = .ref T ∧ H' T = some (.tup [.int (i : Int), x]) ∧ xs[i]? = some x) := fun H1 e R r =>
  h H1 e _ fun v0 H2 e2 p => by
    obtain ⟨a, rfl, ha⟩ := hp H1 v0 H2 e e2 p
    exact ⟨a, xs, rfl, sqL ha, r (Ite K a) H2 _ _ e2 (walk_enum (xs := xs)) (fun H' e' => sqL (e' a _ ha)) fun i H3 v H4 _ _ y => by
      obtain ⟨T, a1, b1, rfl, hT, rfl, h1, h2⟩ := y
      cases h1
      exact ⟨Ex.new hT, T, b1, rfl, upd_same, h2⟩⟩
theorem ei_zip {tx te : TE} {a b : Addr} {xs ys : List V} (ha : H a = some (.lst xs)) (hb : H b = some (.lst ys)) (hl : ys.length = xs.length) (h : Ev tx σ H (Is (.ref a))) (h2 : Ev te σ H (Is (.ref b))) :
    EvI (iZip K (tCons tx (tCons te tNil))) σ H xs.length (fun i v H' => ∃ T x y, v = .ref T ∧ H' T = some (.tup [x, y]) ∧ xs[i]? = some x ∧ ys[i]? = some y) := fun H1 e R r =>
  h H1 e _ fun v0 H0 e0 p0 => by
    have z0 : v0 = .ref a := p0
    subst z0
    refine h2 H0 (e.trans e0) _ fun v H2 e2 p => ?_
    have z1 : v = .ref b := p
    subst z1
    have e' := (e.trans e0).trans e2
    exact ⟨a, b, xs, ys, rfl, sqL (e' a _ ha), sqL (e' b _ hb), r (Itz K a b) H2 _ _ (e0.trans e2) (walk_zip (xs := xs) (ys := ys) (n := xs.length) (by omega)) (fun H' e3 => ⟨sqL ((e'.trans e3) a _ ha), sqL ((e'.trans e3) b _ hb)⟩) fun i H3 v H4 _ _ y => by
      obtain ⟨T, a1, b1, rfl, hT, rfl, h1, h2⟩ := y
      exact ⟨Ex.new hT, T, a1, b1, rfl, upd_same, h1, h2⟩⟩
/-- [te for g in wi]: the items told each by its own word -/
theorem ev_lc {wi : TI} {g : TG} {vs : List Nat} {n : Nat} {Yt : Nat → V → Hp → Prop} {R : Nat → PP} [∀ i, FP (R i)] (hi : EvI wi σ H n Yt) (hn : n ≤ 40000)
    (hs : ∀ i x H1, Ex H H1 → i < n → Yt i x H1 → ∃ σ2, EvG g x (wipe σ vs) H1 σ2 ∧ wipe σ2 vs = wipe σ vs ∧ Ev te σ2 H1 (R i)) : Ev (tLc wi g tYes te vs) σ H (NewLs n R) := fun H1 e Q q =>
  hi H1 e _ fun J H2 G Y e2 w hG hY D hD => by
    have base : Ex H2 (upd H2 D (.lst [])) := Ex.new hD
    refine lc_it w (fun i H' => Ex H2 H' ∧ ∃ ys, H' D = some (.lst ys) ∧ ys.length = i ∧ ∀ j y, ys[j]? = some y → R j (upd H2 D (.lst [])) y H') ⟨base, [], upd_same, rfl, fun j y h => by simp at h⟩ (fun i H' _ p => hG H' p.1) (fun i x H3 H4 hi p y => ?_) (fun H' p => ?_)
    · obtain ⟨p1, ys, p2, p3, p4⟩ := p
      obtain ⟨e4, hy⟩ := hY i H3 x H4 hi p1 y
      obtain ⟨σ2, hg, hw, hv⟩ := hs i x H4 ((e.trans e2).trans (p1.trans e4)) hi hy
      refine hg H4 Ex.rfl _ fun H5 e5 => ⟨hw, ?_⟩
      show te σ2 H5 _
      refine hv H5 e5 _ fun v H6 e6 pv => ⟨ys, (e4.trans (e5.trans e6)) D _ p2, szl (by omega), (p1.trans (e4.trans (e5.trans e6))).mut hD, ys ++ [v], upd_same, by simp [p3], fun j z hz => ?_⟩
      have e36 := e4.trans (e5.trans e6)
      have nD : ∀ a, upd H2 D (.lst []) a = none → a ≠ D := fun a ha hd => by rw [hd, upd_same] at ha; cases ha
      by_cases hj : j < ys.length
      · rw [List.getElem?_append_left hj] at hz
        refine FP.fr (p4 j z hz) (fun _ h => h) fun a o ha h => ?_
        rw [upd_ne (nD a ha)]
        exact e36 a o h
      · have hj2 : j = ys.length := by
          have := (List.getElem?_eq_some_iff.mp hz).1
          rw [List.length_append, List.length_singleton] at this
          omega
        subst hj2
        have ez : v = z := by simpa using hz
        subst ez
        rw [p3]
        refine FP.fr pv (fun a ha => ?_) fun a o ha h => ?_
        · by_cases hd : a = D
          · subst hd
            rw [(e4.trans e5) a _ p2] at ha
            cases ha
          · rw [upd_ne hd]
            exact (p1.trans (e4.trans e5)).back ha
        · have hd : a ≠ D := fun hd => by
            rw [hd, (e4.trans e5) D _ p2] at ha
            cases ha
          rw [upd_ne hd]
          exact h
    · obtain ⟨p1, ys, p2, p3, p4⟩ := p
      exact q _ H' (e2.trans p1) ⟨D, ys, rfl, e2.back hD, p2, p3, fun j y hy => FP.fr (p4 j y hy) (fun a ha => (e2.trans base).back ha) fun _ _ _ h => h⟩
theorem NewLs.eq {n : Nat} {f : Nat → V} {xs : List V} {H1 H2 : Hp} (h : NewLs n (fun i => Is (f i)) H1 v H2) (hl : xs.length = n) (hx : ∀ i, i < n → xs[i]? = some (f i)) : NewL xs H1 v H2 := by
  obtain ⟨p, ys, h1, h2, h3, h4, h5⟩ := h
  have e : ys = xs := by
    apply List.ext_getElem?
    intro i
    by_cases hi : i < n
    · rw [hx i hi, List.getElem?_eq_getElem (by omega)]
      have := h5 i ys[i] (List.getElem?_eq_getElem (by omega))
      exact congrArg some this
    · rw [List.getElem?_eq_none (by omega), List.getElem?_eq_none (by omega)]
  rw [e] at h3
  exact ⟨p, h1, h2, h3⟩
/-- .. of things that are known -/
theorem ev_lcX {wi : TI} {g : TG} {vs : List Nat} {Yt : Nat → V → Hp → Prop} {ys : List V} (hi : EvI wi σ H ys.length Yt) (hn : ys.length ≤ 40000)
    (hs : ∀ i x H1, Ex H H1 → i < ys.length → Yt i x H1 → ∃ σ2, EvG g x (wipe σ vs) H1 σ2 ∧ wipe σ2 vs = wipe σ vs ∧ ∀ y, ys[i]? = some y → Ev te σ2 H1 (Is y)) : Ev (tLc wi g tYes te vs) σ H (NewL ys) :=
  (ev_lc (R := fun i => Is (ys.getD i .non)) hi hn fun i x H1 e hi' hy => by
    obtain ⟨σ2, h1, h2, h3⟩ := hs i x H1 e hi' hy
    exact ⟨σ2, h1, h2, h3 _ (by rw [List.getD_eq_getElem?_getD, List.getElem?_eq_getElem hi']; rfl)⟩).imp fun H1 v H2 _ _ p => NewLs.eq p rfl fun i hi' => by
      rw [List.getD_eq_getElem?_getD, List.getElem?_eq_getElem hi']; rfl
end
end K66

/-! ## T0 -/
set_option maxHeartbeats 4000000
namespace K66
open PySem PySem.Spec PyProof.Rows L2
/-! ### the text by places -/
def top (i : Nat) : Stmt := PySem.Challenge.pw_bakeahead_k66_whole_doughs_against_all_p.main.body.getD i (.Pass ⟨0, 0, 0, 0⟩)
abbrev s_NoBakery_init : Stmt := inClass (top 2) 0
abbrev s_NoDoughs_init : Stmt := inClass (top 3) 0
abbrev s_TooMuch_init : Stmt := inClass (top 4) 0
abbrev s_is_whole : Stmt := top 10
abbrev s_is_within : Stmt := top 11
abbrev s_is_number : Stmt := top 12
abbrev s_is_day : Stmt := top 17
abbrev s_are_lights : Stmt := top 18
abbrev s_is_frame : Stmt := top 19
abbrev s_look_at_good : Stmt := top 20
abbrev s_look_at_bakery : Stmt := top 21
abbrev s_is_plain_one : Stmt := top 22
abbrev s_is_plain : Stmt := top 23
abbrev s_look_at_plain : Stmt := top 24
abbrev s_nights_ahead : Stmt := top 26
abbrev s_nights_behind : Stmt := top 27
abbrev s_price_of : Stmt := top 28
abbrev s_prices_from : Stmt := top 29
abbrev s_wants_from : Stmt := top 30
abbrev s_is_dough_day : Stmt := top 32
abbrev s_look_at_dough_list : Stmt := top 33
abbrev s_look_at_doughs : Stmt := top 34
abbrev s_dough_price : Stmt := top 35
abbrev s_dough_cost : Stmt := top 36
abbrev s_are_rungs : Stmt := top 38
abbrev s_is_ladder : Stmt := top 39
abbrev s_batch_costs : Stmt := top 40
abbrev s_climbs : Stmt := top 41
abbrev s_rests : Stmt := top 42
abbrev s_holds_for : Stmt := top 43
abbrev s_lets_ladder : Stmt := top 44
abbrev s_Climb_init : Stmt := inClass (top 47) 0
abbrev s_Climb_come_to : Stmt := inClass (top 47) 1
abbrev s_Climb_step : Stmt := inClass (top 47) 2
abbrev s_Climb_lots : Stmt := inClass (top 47) 3
abbrev s_cheapest_doughs : Stmt := top 48
abbrev s_lesser : Stmt := top 50
abbrev s_together : Stmt := top 51
abbrev s_unlit : Stmt := top 52
abbrev s_lit_row : Stmt := top 53
abbrev s_known_rows : Stmt := top 54
abbrev s_least_row : Stmt := top 55
abbrev s__law_cell_at : Stmt := top 57
abbrev s__law_numbers : Stmt := top 58
abbrev s__law_day : Stmt := top 59
abbrev s__law_bakery : Stmt := top 60
abbrev s__law_price : Stmt := top 61
abbrev s__law_doughs : Stmt := top 62
abbrev s__law_later : Stmt := top 63
abbrev s__law_dough : Stmt := top 64
abbrev s__law_chosen : Stmt := top 65
abbrev s__law_best_for : Stmt := top 66
abbrev s__law_set_cost : Stmt := top 67
abbrev s__law_least : Stmt := top 68
abbrev s__law_longer : Stmt := top 69
abbrev s__law_too_many : Stmt := top 70
abbrev s__law_no_doughs : Stmt := top 71
abbrev s__law_long_stretches : Stmt := top 72
abbrev s__law_thirteen : Stmt := top 73
abbrev s__law_late_rows : Stmt := top 74
abbrev s_law : Stmt := top 75
def d_NoDoughs_init : He.DefD := ⟨("NoDoughs", some "__init__"), "__init__", "NoDoughs.__init__", defArgs s_NoDoughs_init, defBody s_NoDoughs_init, defScope s_NoDoughs_init, [], []⟩
def d_is_whole : He.DefD := ⟨("is_whole", none), "is_whole", "is_whole", defArgs s_is_whole, defBody s_is_whole, defScope s_is_whole, [], []⟩
def d_is_within : He.DefD := ⟨("is_within", none), "is_within", "is_within", defArgs s_is_within, defBody s_is_within, defScope s_is_within, [], []⟩
def d_is_number : He.DefD := ⟨("is_number", none), "is_number", "is_number", defArgs s_is_number, defBody s_is_number, defScope s_is_number, [], []⟩
def d_is_day : He.DefD := ⟨("is_day", none), "is_day", "is_day", defArgs s_is_day, defBody s_is_day, defScope s_is_day, [], []⟩
def d_are_lights : He.DefD := ⟨("are_lights", none), "are_lights", "are_lights", defArgs s_are_lights, defBody s_are_lights, defScope s_are_lights, [], []⟩
def d_is_frame : He.DefD := ⟨("is_frame", none), "is_frame", "is_frame", defArgs s_is_frame, defBody s_is_frame, defScope s_is_frame, [], []⟩
def d_look_at_good : He.DefD := ⟨("look_at_good", none), "look_at_good", "look_at_good", defArgs s_look_at_good, defBody s_look_at_good, defScope s_look_at_good, [], []⟩
def d_look_at_bakery : He.DefD := ⟨("look_at_bakery", none), "look_at_bakery", "look_at_bakery", defArgs s_look_at_bakery, defBody s_look_at_bakery, defScope s_look_at_bakery, [], []⟩
def d_is_plain_one : He.DefD := ⟨("is_plain_one", none), "is_plain_one", "is_plain_one", defArgs s_is_plain_one, defBody s_is_plain_one, defScope s_is_plain_one, [], []⟩
def d_is_plain : He.DefD := ⟨("is_plain", none), "is_plain", "is_plain", defArgs s_is_plain, defBody s_is_plain, defScope s_is_plain, [], []⟩
def d_look_at_plain : He.DefD := ⟨("look_at_plain", none), "look_at_plain", "look_at_plain", defArgs s_look_at_plain, defBody s_look_at_plain, defScope s_look_at_plain, [], []⟩
def d_nights_ahead : He.DefD := ⟨("nights_ahead", none), "nights_ahead", "nights_ahead", defArgs s_nights_ahead, defBody s_nights_ahead, defScope s_nights_ahead, [], []⟩
def d_nights_behind : He.DefD := ⟨("nights_behind", none), "nights_behind", "nights_behind", defArgs s_nights_behind, defBody s_nights_behind, defScope s_nights_behind, [], []⟩
def d_price_of : He.DefD := ⟨("price_of", none), "price_of", "price_of", defArgs s_price_of, defBody s_price_of, defScope s_price_of, [], []⟩
def d_prices_from : He.DefD := ⟨("prices_from", none), "prices_from", "prices_from", defArgs s_prices_from, defBody s_prices_from, defScope s_prices_from, [], []⟩
def d_wants_from : He.DefD := ⟨("wants_from", none), "wants_from", "wants_from", defArgs s_wants_from, defBody s_wants_from, defScope s_wants_from, [], []⟩
def d_is_dough_day : He.DefD := ⟨("is_dough_day", none), "is_dough_day", "is_dough_day", defArgs s_is_dough_day, defBody s_is_dough_day, defScope s_is_dough_day, [], []⟩
def d_look_at_dough_list : He.DefD := ⟨("look_at_dough_list", none), "look_at_dough_list", "look_at_dough_list", defArgs s_look_at_dough_list, defBody s_look_at_dough_list, defScope s_look_at_dough_list, [], []⟩
def d_look_at_doughs : He.DefD := ⟨("look_at_doughs", none), "look_at_doughs", "look_at_doughs", defArgs s_look_at_doughs, defBody s_look_at_doughs, defScope s_look_at_doughs, [], []⟩
def d_dough_price : He.DefD := ⟨("dough_price", none), "dough_price", "dough_price", defArgs s_dough_price, defBody s_dough_price, defScope s_dough_price, [], []⟩
def d_dough_cost : He.DefD := ⟨("dough_cost", none), "dough_cost", "dough_cost", defArgs s_dough_cost, defBody s_dough_cost, defScope s_dough_cost, [], []⟩
def d_are_rungs : He.DefD := ⟨("are_rungs", none), "are_rungs", "are_rungs", defArgs s_are_rungs, defBody s_are_rungs, defScope s_are_rungs, [], []⟩
def d_is_ladder : He.DefD := ⟨("is_ladder", none), "is_ladder", "is_ladder", defArgs s_is_ladder, defBody s_is_ladder, defScope s_is_ladder, [], []⟩
def d_batch_costs : He.DefD := ⟨("batch_costs", none), "batch_costs", "batch_costs", defArgs s_batch_costs, defBody s_batch_costs, defScope s_batch_costs, [], []⟩
def d_climbs : He.DefD := ⟨("climbs", none), "climbs", "climbs", defArgs s_climbs, defBody s_climbs, defScope s_climbs, [], []⟩
def d_rests : He.DefD := ⟨("rests", none), "rests", "rests", defArgs s_rests, defBody s_rests, defScope s_rests, [], []⟩
def d_holds_for : He.DefD := ⟨("holds_for", none), "holds_for", "holds_for", defArgs s_holds_for, defBody s_holds_for, defScope s_holds_for, [], []⟩
def d_lets_ladder : He.DefD := ⟨("lets_ladder", none), "lets_ladder", "lets_ladder", defArgs s_lets_ladder, defBody s_lets_ladder, defScope s_lets_ladder, [], []⟩
def d_Climb_init : He.DefD := ⟨("Climb", some "__init__"), "__init__", "Climb.__init__", defArgs s_Climb_init, defBody s_Climb_init, defScope s_Climb_init, [], []⟩
def d_Climb_come_to : He.DefD := ⟨("Climb", some "come_to"), "come_to", "Climb.come_to", defArgs s_Climb_come_to, defBody s_Climb_come_to, defScope s_Climb_come_to, [], []⟩
def d_Climb_step : He.DefD := ⟨("Climb", some "step"), "step", "Climb.step", defArgs s_Climb_step, defBody s_Climb_step, defScope s_Climb_step, [], []⟩
def d_Climb_lots : He.DefD := ⟨("Climb", some "lots"), "lots", "Climb.lots", defArgs s_Climb_lots, defBody s_Climb_lots, defScope s_Climb_lots, [], []⟩
def d_cheapest_doughs : He.DefD := ⟨("cheapest_doughs", none), "cheapest_doughs", "cheapest_doughs", defArgs s_cheapest_doughs, defBody s_cheapest_doughs, defScope s_cheapest_doughs, [], []⟩
def d_lesser : He.DefD := ⟨("lesser", none), "lesser", "lesser", defArgs s_lesser, defBody s_lesser, defScope s_lesser, [], []⟩
def d_together : He.DefD := ⟨("together", none), "together", "together", defArgs s_together, defBody s_together, defScope s_together, [], []⟩
def d_unlit : He.DefD := ⟨("unlit", none), "unlit", "unlit", defArgs s_unlit, defBody s_unlit, defScope s_unlit, [], []⟩
def d_lit_row : He.DefD := ⟨("lit_row", none), "lit_row", "lit_row", defArgs s_lit_row, defBody s_lit_row, defScope s_lit_row, [], []⟩
def d_known_rows : He.DefD := ⟨("known_rows", none), "known_rows", "known_rows", defArgs s_known_rows, defBody s_known_rows, defScope s_known_rows, [], []⟩
def d_least_row : He.DefD := ⟨("least_row", none), "least_row", "least_row", defArgs s_least_row, defBody s_least_row, defScope s_least_row, [], []⟩
def d__law_cell_at : He.DefD := ⟨("_law_cell_at", none), "_law_cell_at", "_law_cell_at", defArgs s__law_cell_at, defBody s__law_cell_at, defScope s__law_cell_at, [], []⟩
def d__law_numbers : He.DefD := ⟨("_law_numbers", none), "_law_numbers", "_law_numbers", defArgs s__law_numbers, defBody s__law_numbers, defScope s__law_numbers, [], []⟩
def d__law_day : He.DefD := ⟨("_law_day", none), "_law_day", "_law_day", defArgs s__law_day, defBody s__law_day, defScope s__law_day, [], []⟩
def d__law_bakery : He.DefD := ⟨("_law_bakery", none), "_law_bakery", "_law_bakery", defArgs s__law_bakery, defBody s__law_bakery, defScope s__law_bakery, [], []⟩
def d__law_price : He.DefD := ⟨("_law_price", none), "_law_price", "_law_price", defArgs s__law_price, defBody s__law_price, defScope s__law_price, [], []⟩
def d__law_doughs : He.DefD := ⟨("_law_doughs", none), "_law_doughs", "_law_doughs", defArgs s__law_doughs, defBody s__law_doughs, defScope s__law_doughs, [], []⟩
def d__law_later : He.DefD := ⟨("_law_later", none), "_law_later", "_law_later", defArgs s__law_later, defBody s__law_later, defScope s__law_later, [], []⟩
def d__law_dough : He.DefD := ⟨("_law_dough", none), "_law_dough", "_law_dough", defArgs s__law_dough, defBody s__law_dough, defScope s__law_dough, [], []⟩
def d__law_chosen : He.DefD := ⟨("_law_chosen", none), "_law_chosen", "_law_chosen", defArgs s__law_chosen, defBody s__law_chosen, defScope s__law_chosen, [], []⟩
def d__law_best_for : He.DefD := ⟨("_law_best_for", none), "_law_best_for", "_law_best_for", defArgs s__law_best_for, defBody s__law_best_for, defScope s__law_best_for, [], []⟩
def d__law_set_cost : He.DefD := ⟨("_law_set_cost", none), "_law_set_cost", "_law_set_cost", defArgs s__law_set_cost, defBody s__law_set_cost, defScope s__law_set_cost, [], []⟩
def d__law_least : He.DefD := ⟨("_law_least", none), "_law_least", "_law_least", defArgs s__law_least, defBody s__law_least, defScope s__law_least, [], []⟩
def d__law_longer : He.DefD := ⟨("_law_longer", none), "_law_longer", "_law_longer", defArgs s__law_longer, defBody s__law_longer, defScope s__law_longer, [], []⟩
def d__law_too_many : He.DefD := ⟨("_law_too_many", none), "_law_too_many", "_law_too_many", defArgs s__law_too_many, defBody s__law_too_many, defScope s__law_too_many, [], []⟩
def d__law_no_doughs : He.DefD := ⟨("_law_no_doughs", none), "_law_no_doughs", "_law_no_doughs", defArgs s__law_no_doughs, defBody s__law_no_doughs, defScope s__law_no_doughs, [], []⟩
def d__law_long_stretches : He.DefD := ⟨("_law_long_stretches", none), "_law_long_stretches", "_law_long_stretches", defArgs s__law_long_stretches, defBody s__law_long_stretches, defScope s__law_long_stretches, [], []⟩
def d__law_thirteen : He.DefD := ⟨("_law_thirteen", none), "_law_thirteen", "_law_thirteen", defArgs s__law_thirteen, defBody s__law_thirteen, defScope s__law_thirteen, [], []⟩
def d__law_late_rows : He.DefD := ⟨("_law_late_rows", none), "_law_late_rows", "_law_late_rows", defArgs s__law_late_rows, defBody s__law_late_rows, defScope s__law_late_rows, [], []⟩
def d_law : He.DefD := ⟨("law", none), "law", "law", defArgs s_law, defBody s_law, defScope s_law, [], []⟩
def fnK_0 : List He.DefD := [d_NoDoughs_init, d_is_whole, d_is_within, d_is_number, d_is_day, d_are_lights, d_is_frame, d_look_at_good, d_look_at_bakery, d_is_plain_one, d_is_plain, d_look_at_plain, d_nights_ahead, d_nights_behind, d_price_of, d_prices_from]
def fnK_1 : List He.DefD := [d_wants_from, d_is_dough_day, d_look_at_dough_list, d_look_at_doughs, d_dough_price, d_dough_cost, d_are_rungs, d_is_ladder, d_batch_costs, d_climbs, d_rests, d_holds_for, d_lets_ladder, d_Climb_init, d_Climb_come_to, d_Climb_step]
def fnK_2 : List He.DefD := [d_Climb_lots, d_cheapest_doughs, d_lesser, d_together, d_unlit, d_lit_row, d_known_rows, d_least_row, d__law_cell_at, d__law_numbers, d__law_day, d__law_bakery, d__law_price, d__law_doughs, d__law_later, d__law_dough]
def fnK_3 : List He.DefD := [d__law_chosen, d__law_best_for, d__law_set_cost, d__law_least, d__law_longer, d__law_too_many, d__law_no_doughs, d__law_long_stretches, d__law_thirteen, d__law_late_rows, d_law]
def fnK : List He.DefD := fnK_0 ++ (fnK_1 ++ (fnK_2 ++ (fnK_3)))
def faK_0 : List He.Fa := [.glo "BakeError", .glo "NoBakery", .glo "NoDoughs", .glo "TooMuch", .glo "NoNumber", .glo "NotPlain", .glo "TooMany", .glo "is_whole", .glo "is_within", .glo "is_number", .glo "is_day", .glo "are_lights", .glo "is_frame", .glo "look_at_good", .glo "look_at_bakery", .glo "is_plain_one"]
def faK_1 : List He.Fa := [.glo "is_plain", .glo "look_at_plain", .glo "nights_ahead", .glo "nights_behind", .glo "price_of", .glo "prices_from", .glo "wants_from", .glo "is_dough_day", .glo "look_at_dough_list", .glo "look_at_doughs", .glo "dough_price", .glo "dough_cost", .glo "are_rungs", .glo "is_ladder", .glo "batch_costs", .glo "climbs"]
def faK_2 : List He.Fa := [.glo "rests", .glo "holds_for", .glo "lets_ladder", .glo "Climb", .glo "cheapest_doughs", .glo "lesser", .glo "together", .glo "unlit", .glo "lit_row", .glo "known_rows", .glo "least_row", .glo "_law_cell_at", .glo "_law_numbers", .glo "_law_day", .glo "_law_bakery", .glo "_law_price"]
def faK_3 : List He.Fa := [.glo "_law_doughs", .glo "_law_later", .glo "_law_dough", .glo "_law_chosen", .glo "_law_best_for", .glo "_law_set_cost", .glo "_law_least", .glo "_law_longer", .glo "_law_too_many", .glo "_law_no_doughs", .glo "_law_long_stretches", .glo "_law_thirteen", .glo "_law_late_rows", .glo "law", .free "len", .free "range"]
def faK_4 : List He.Fa := [.free "zip", .free "enumerate", .free "sum", .free "all", .free "sorted", .free "set", .free "list", .free "isinstance", .free "int", .free "min", .free "max", .free "tuple", .free "bool", .free "ValueError", .int "MOST" 1000000000, .int "MOST_DAYS" 40]
def faK_5 : List He.Fa := [.int "MOST_LIFE" 40, .int "MOST_GOODS" 2, .int "MOST_LADDER" 12, .cls "Climb", .mkr "Climb", .meth "Climb" "come_to", .meth "Climb" "step", .meth "Climb" "lots", .noat "Climb" "lights", .noat "Climb" "rows", .noat "Climb" "mixes", .noat "Climb" "batches", .noat "Climb" "free", .noat "Climb" "mixed", .noat "Climb" "free_from", .noat "Climb" "mixed_from"]
def faK_6 : List He.Fa := [.exc "TooMany", .exm "TooMany" "BakeError" true, .exm "NoDoughs" "BakeError" true, .keep "NoDoughs", .keep "BakeError"]
def faK : List He.Fa := faK_0 ++ (faK_1 ++ (faK_2 ++ (faK_3 ++ (faK_4 ++ (faK_5 ++ (faK_6))))))
/-! ### what the classes of errors must say -/
abbrev gA (K : PySem.W.Frag) (x : Str) : Addr := He.ga K x
def gvI : Option PySem.W.CFound → Bool
  | some (.val (.builtin "ValueError.__init__")) => true
  | _ => false
def oexB (K : PySem.W.Frag) (C : Addr) : Bool := match K.lookup C with
  | some ⟨.type "type", _, .cls cd, sl⟩ => (match cd.mro, sl.toList with
    | .ref C' :: bm, [_, _, _, _, some (.builtin n), _] => C' == C && n == "ValueError.__new__" && !cd.hasDel && cd.hasDict && PySem.HandSPX.refsVE bm
    | _, _ => false)
  | _ => false
def excB (K : PySem.W.Frag) (D : Addr) : Bool := decide (PySem.W.findIn K (.ref D) "__getattribute__" = some (some (.builtin "BaseException.__getattribute__"))) && (decide (PySem.W.findIn K (.ref D) "__getattr__" = some none) &&
  (decide (PySem.W.subIn K (.ref D) (.type "BaseException") = some true) && (PySem.W.hasDictIn K D && (decide (PySem.W.findIn K (.ref D) "__class__" = some (some (.builtin "object.__class__"))) &&
  (decide (PySem.W.specialIn K (.builtin "object.__class__") "__get__" = some (some (.builtin "getset_descriptor.__get__"))) && (decide (PySem.W.takesIn K (.builtin "object.__class__") = some true) && decide (PySem.W.mroIn K D (.type "object") = some true)))))))
def gsK : List (PySem.W.Frag → Bool) := [
  fun K => oexB K (gA K "NoDoughs"),
  fun K => decide (PySem.W.findIn K (.ref (gA K "NoDoughs")) "__setattr__" = some (some (.builtin "object.__setattr__"))),
  fun K => decide (PySem.W.subIn K (.ref (gA K "NoDoughs")) (.type "BaseException") = some true),
  fun K => decide (PySem.W.typeIn K (.ref (gA K "NoDoughs")) = some (.type "type")),
  fun K => decide (PySem.W.findIn K (.ref (gA K "NoDoughs")) "__init__" = some (some (.ref (He.fAd K ("NoDoughs", some "__init__"))))),
  fun K => decide (PySem.W.typeIn K (.ref (He.fAd K ("NoDoughs", some "__init__"))) = some (.type "function")),
  fun K => decide (PySem.W.findIn K (.ref (gA K "NoDoughs")) "day" = some none),
  fun K => PySem.W.readsIn K (gA K "BakeError") (.type "type"),
  fun K => decide (PySem.W.specialIn K (.ref (gA K "BakeError")) "__getattribute__" = some (some (.builtin "type.__getattribute__"))),
  fun K => gvI (PySem.W.findCls K (.ref (gA K "BakeError")) (.type "type") "__init__"),
  fun K => excB K (gA K "TooMany"),
  fun K => excB K (gA K "NoDoughs"),
  fun K => decide (PySem.W.kitAny K (.ref (gA K "TooMany")) [.ref (gA K "NoBakery"), .ref (gA K "NoDoughs"), .ref (gA K "NoNumber"), .ref (gA K "NotPlain"), .ref (gA K "TooMuch")] = some false),
  fun K => decide (PySem.W.kitOne K (.ref (gA K "TooMany")) (.ref (gA K "TooMany")) = some true),
  fun K => decide (PySem.W.kitOne K (.ref (gA K "TooMany")) (.type "ValueError") = some true),
  fun K => decide (PySem.W.kitOne K (.ref (gA K "NoDoughs")) (.ref (gA K "NoDoughs")) = some true)]
/-! ### the Hook -/
def asK (g : Addr → Option Obj) : Nat → List Addr
  | 0 => [mainGlobals, cStatics]
  | n + 1 => He.growD g (asK g n)
abbrev AlK : Type := He.AlD × Bool
def obsK (K : PySem.W.Frag) : AlK := (He.obsD faK fnK K, gsK.all fun b => b K)
def valK : AlK := (He.valD fnK, true)
def SaysK (K : PySem.W.Frag) : Prop := obsK K = valK
def obsKG (g : Addr → Option Obj) : AlK := obsK (He.frG g (asK g 4))
def hookK : PySem.W.Hook where
  α := AlK
  obs := fun s => obsKG s.heap.get?
  val := fun _ => valK
  says := fun _ h => ∃ K : PySem.W.Frag, K.In h ∧ SaysK K
  of := fun _ _ e => ⟨_, He.frG_in, e⟩
  keeps := fun _ _ _ ⟨K, hK, c⟩ k => ⟨K, PySem.W.Frag.In.keeps hK k, c⟩
theorem obsKG_eq {g : Addr → Option Obj} {s : Shared} (h : ∀ a, g a = s.heap.get? a) : obsKG g = hookK.obs s := by
  have e : g = s.heap.get? := funext h
  rw [e] <;> rfl
abbrev R : PySem.W.OpenRow := PySem.W.OpenLaw.row PySem.Challenge.rw_bakeahead_k66_whole_doughs_against_all_p
def ob (s : PySem.W.SharedT) : AlK := obsKG (HandSHeadRun.getT s)
theorem ob_eq (s : PySem.W.SharedT) : ob s = hookK.obs s.abs := obsKG_eq (HandSHeadRun.getT_eq s)
def namesK_0 : List PySem.Str := ["BakeError", "NoBakery", "NoDoughs", "TooMuch", "NoNumber", "NotPlain", "TooMany", "MOST", "is_whole", "is_within", "is_number", "MOST_DAYS", "MOST_LIFE", "MOST_GOODS", "is_day", "are_lights"]
def namesK_1 : List PySem.Str := ["is_frame", "look_at_good", "look_at_bakery", "is_plain_one", "is_plain", "look_at_plain", "nights_ahead", "nights_behind", "price_of", "prices_from", "wants_from", "is_dough_day", "look_at_dough_list", "look_at_doughs", "dough_price", "dough_cost"]
def namesK_2 : List PySem.Str := ["are_rungs", "is_ladder", "batch_costs", "climbs", "rests", "holds_for", "lets_ladder", "MOST_LADDER", "Climb", "cheapest_doughs", "lesser", "together", "unlit", "lit_row", "known_rows", "least_row"]
def namesK_3 : List PySem.Str := ["_law_cell_at", "_law_numbers", "_law_day", "_law_bakery", "_law_price", "_law_doughs", "_law_later", "_law_dough", "_law_chosen", "_law_best_for", "_law_set_cost", "_law_least", "_law_longer", "_law_too_many", "_law_no_doughs", "_law_long_stretches"]
def namesK_4 : List PySem.Str := ["_law_thirteen", "_law_late_rows"]
def namesK : List PySem.Str := namesK_0 ++ (namesK_1 ++ (namesK_2 ++ (namesK_3 ++ (namesK_4))))
/-! ### what every def's proof may lean on -/
structure Wd (K : PySem.W.Frag) (mg : Str → Option Value) : Prop where
  says : SaysK K
  g_BakeError : mg "BakeError" = some (.ref (gA K "BakeError"))
  g_NoBakery : mg "NoBakery" = some (.ref (gA K "NoBakery"))
  g_NoDoughs : mg "NoDoughs" = some (.ref (gA K "NoDoughs"))
  g_TooMuch : mg "TooMuch" = some (.ref (gA K "TooMuch"))
  g_NoNumber : mg "NoNumber" = some (.ref (gA K "NoNumber"))
  g_NotPlain : mg "NotPlain" = some (.ref (gA K "NotPlain"))
  g_TooMany : mg "TooMany" = some (.ref (gA K "TooMany"))
  g_is_whole : mg "is_whole" = some (.ref (gA K "is_whole"))
  g_is_within : mg "is_within" = some (.ref (gA K "is_within"))
  g_is_number : mg "is_number" = some (.ref (gA K "is_number"))
  g_is_day : mg "is_day" = some (.ref (gA K "is_day"))
  g_are_lights : mg "are_lights" = some (.ref (gA K "are_lights"))
  g_is_frame : mg "is_frame" = some (.ref (gA K "is_frame"))
  g_look_at_good : mg "look_at_good" = some (.ref (gA K "look_at_good"))
  g_look_at_bakery : mg "look_at_bakery" = some (.ref (gA K "look_at_bakery"))
  g_is_plain_one : mg "is_plain_one" = some (.ref (gA K "is_plain_one"))
  g_is_plain : mg "is_plain" = some (.ref (gA K "is_plain"))
  g_look_at_plain : mg "look_at_plain" = some (.ref (gA K "look_at_plain"))
  g_nights_ahead : mg "nights_ahead" = some (.ref (gA K "nights_ahead"))
  g_nights_behind : mg "nights_behind" = some (.ref (gA K "nights_behind"))
  g_price_of : mg "price_of" = some (.ref (gA K "price_of"))
  g_prices_from : mg "prices_from" = some (.ref (gA K "prices_from"))
  g_wants_from : mg "wants_from" = some (.ref (gA K "wants_from"))
  g_is_dough_day : mg "is_dough_day" = some (.ref (gA K "is_dough_day"))
  g_look_at_dough_list : mg "look_at_dough_list" = some (.ref (gA K "look_at_dough_list"))
  g_look_at_doughs : mg "look_at_doughs" = some (.ref (gA K "look_at_doughs"))
  g_dough_price : mg "dough_price" = some (.ref (gA K "dough_price"))
  g_dough_cost : mg "dough_cost" = some (.ref (gA K "dough_cost"))
  g_are_rungs : mg "are_rungs" = some (.ref (gA K "are_rungs"))
  g_is_ladder : mg "is_ladder" = some (.ref (gA K "is_ladder"))
  g_batch_costs : mg "batch_costs" = some (.ref (gA K "batch_costs"))
  g_climbs : mg "climbs" = some (.ref (gA K "climbs"))
  g_rests : mg "rests" = some (.ref (gA K "rests"))
  g_holds_for : mg "holds_for" = some (.ref (gA K "holds_for"))
  g_lets_ladder : mg "lets_ladder" = some (.ref (gA K "lets_ladder"))
  g_Climb : mg "Climb" = some (.ref (gA K "Climb"))
  g_cheapest_doughs : mg "cheapest_doughs" = some (.ref (gA K "cheapest_doughs"))
  g_lesser : mg "lesser" = some (.ref (gA K "lesser"))
  g_together : mg "together" = some (.ref (gA K "together"))
  g_unlit : mg "unlit" = some (.ref (gA K "unlit"))
  g_lit_row : mg "lit_row" = some (.ref (gA K "lit_row"))
  g_known_rows : mg "known_rows" = some (.ref (gA K "known_rows"))
  g_least_row : mg "least_row" = some (.ref (gA K "least_row"))
  g__law_cell_at : mg "_law_cell_at" = some (.ref (gA K "_law_cell_at"))
  g__law_numbers : mg "_law_numbers" = some (.ref (gA K "_law_numbers"))
  g__law_day : mg "_law_day" = some (.ref (gA K "_law_day"))
  g__law_bakery : mg "_law_bakery" = some (.ref (gA K "_law_bakery"))
  g__law_price : mg "_law_price" = some (.ref (gA K "_law_price"))
  g__law_doughs : mg "_law_doughs" = some (.ref (gA K "_law_doughs"))
  g__law_later : mg "_law_later" = some (.ref (gA K "_law_later"))
  g__law_dough : mg "_law_dough" = some (.ref (gA K "_law_dough"))
  g__law_chosen : mg "_law_chosen" = some (.ref (gA K "_law_chosen"))
  g__law_best_for : mg "_law_best_for" = some (.ref (gA K "_law_best_for"))
  g__law_set_cost : mg "_law_set_cost" = some (.ref (gA K "_law_set_cost"))
  g__law_least : mg "_law_least" = some (.ref (gA K "_law_least"))
  g__law_longer : mg "_law_longer" = some (.ref (gA K "_law_longer"))
  g__law_too_many : mg "_law_too_many" = some (.ref (gA K "_law_too_many"))
  g__law_no_doughs : mg "_law_no_doughs" = some (.ref (gA K "_law_no_doughs"))
  g__law_long_stretches : mg "_law_long_stretches" = some (.ref (gA K "_law_long_stretches"))
  g__law_thirteen : mg "_law_thirteen" = some (.ref (gA K "_law_thirteen"))
  g__law_late_rows : mg "_law_late_rows" = some (.ref (gA K "_law_late_rows"))
  g_law : mg "law" = some (.ref (gA K "law"))
  b_len : mg "len" = none
  b_range : mg "range" = none
  b_zip : mg "zip" = none
  b_enumerate : mg "enumerate" = none
  b_sum : mg "sum" = none
  b_all : mg "all" = none
  b_sorted : mg "sorted" = none
  b_set : mg "set" = none
  b_list : mg "list" = none
  b_isinstance : mg "isinstance" = none
  b_int : mg "int" = none
  b_min : mg "min" = none
  b_max : mg "max" = none
  b_tuple : mg "tuple" = none
  b_bool : mg "bool" = none
  b_ValueError : mg "ValueError" = none
  m_MOST : ∃ t, mg "MOST" = some (.int 1000000000 t)
  m_MOST_DAYS : ∃ t, mg "MOST_DAYS" = some (.int 40 t)
  m_MOST_LIFE : ∃ t, mg "MOST_LIFE" = some (.int 40 t)
  m_MOST_GOODS : ∃ t, mg "MOST_GOODS" = some (.int 2 t)
  m_MOST_LADDER : ∃ t, mg "MOST_LADDER" = some (.int 12 t)
theorem fact {K : PySem.W.Frag} (c : SaysK K) (i : Nat) {f : He.Fa} (h : faK[i]? = some f := by rfl) : f.ok K = true := He.SaysD.fact (fa := faK) (fn := fnK) (show He.SaysD faK fnK K from congrArg (fun z : AlK => z.1) c) i h
theorem defK {K : PySem.W.Frag} (c : SaysK K) (i : Nat) {d : He.DefD} (h : fnK[i]? = some d) : ∃ fd, FunD K d.name d.qual d.params d.body d.scope (d.dvs K) (d.kws K) (He.fAd K d.at_) fd := He.SaysD.def_ (fa := faK) (fn := fnK) (show He.SaysD faK fnK K from congrArg (fun z : AlK => z.1) c) i h
theorem gsat {K : PySem.W.Frag} (c : SaysK K) (i : Nat) {b : PySem.W.Frag → Bool} (h : gsK[i]? = some b := by rfl) : b K = true := List.all_eq_true.mp (show (gsK.all fun b => b K) = true from congrArg (fun z : AlK => z.2) c) b (List.mem_of_getElem? h)
theorem wd_of {K : PySem.W.Frag} {h : Heap} {mg : Str → Option Value} (X : K.In h) (G : h.Ns mainGlobals mg) (c : SaysK K) : Wd K mg := ⟨c, He.glo_ok X G (fact c 0 (f := .glo "BakeError") rfl), He.glo_ok X G (fact c 1 (f := .glo "NoBakery") rfl), He.glo_ok X G (fact c 2 (f := .glo "NoDoughs") rfl), He.glo_ok X G (fact c 3 (f := .glo "TooMuch") rfl), He.glo_ok X G (fact c 4 (f := .glo "NoNumber") rfl), He.glo_ok X G (fact c 5 (f := .glo "NotPlain") rfl), He.glo_ok X G (fact c 6 (f := .glo "TooMany") rfl), He.glo_ok X G (fact c 7 (f := .glo "is_whole") rfl), He.glo_ok X G (fact c 8 (f := .glo "is_within") rfl), He.glo_ok X G (fact c 9 (f := .glo "is_number") rfl), He.glo_ok X G (fact c 10 (f := .glo "is_day") rfl), He.glo_ok X G (fact c 11 (f := .glo "are_lights") rfl), He.glo_ok X G (fact c 12 (f := .glo "is_frame") rfl), He.glo_ok X G (fact c 13 (f := .glo "look_at_good") rfl), He.glo_ok X G (fact c 14 (f := .glo "look_at_bakery") rfl), He.glo_ok X G (fact c 15 (f := .glo "is_plain_one") rfl), He.glo_ok X G (fact c 16 (f := .glo "is_plain") rfl), He.glo_ok X G (fact c 17 (f := .glo "look_at_plain") rfl), He.glo_ok X G (fact c 18 (f := .glo "nights_ahead") rfl), He.glo_ok X G (fact c 19 (f := .glo "nights_behind") rfl), He.glo_ok X G (fact c 20 (f := .glo "price_of") rfl), He.glo_ok X G (fact c 21 (f := .glo "prices_from") rfl), He.glo_ok X G (fact c 22 (f := .glo "wants_from") rfl), He.glo_ok X G (fact c 23 (f := .glo "is_dough_day") rfl), He.glo_ok X G (fact c 24 (f := .glo "look_at_dough_list") rfl), He.glo_ok X G (fact c 25 (f := .glo "look_at_doughs") rfl), He.glo_ok X G (fact c 26 (f := .glo "dough_price") rfl), He.glo_ok X G (fact c 27 (f := .glo "dough_cost") rfl), He.glo_ok X G (fact c 28 (f := .glo "are_rungs") rfl), He.glo_ok X G (fact c 29 (f := .glo "is_ladder") rfl), He.glo_ok X G (fact c 30 (f := .glo "batch_costs") rfl), He.glo_ok X G (fact c 31 (f := .glo "climbs") rfl), He.glo_ok X G (fact c 32 (f := .glo "rests") rfl), He.glo_ok X G (fact c 33 (f := .glo "holds_for") rfl), He.glo_ok X G (fact c 34 (f := .glo "lets_ladder") rfl), He.glo_ok X G (fact c 35 (f := .glo "Climb") rfl), He.glo_ok X G (fact c 36 (f := .glo "cheapest_doughs") rfl), He.glo_ok X G (fact c 37 (f := .glo "lesser") rfl), He.glo_ok X G (fact c 38 (f := .glo "together") rfl), He.glo_ok X G (fact c 39 (f := .glo "unlit") rfl), He.glo_ok X G (fact c 40 (f := .glo "lit_row") rfl), He.glo_ok X G (fact c 41 (f := .glo "known_rows") rfl), He.glo_ok X G (fact c 42 (f := .glo "least_row") rfl), He.glo_ok X G (fact c 43 (f := .glo "_law_cell_at") rfl), He.glo_ok X G (fact c 44 (f := .glo "_law_numbers") rfl), He.glo_ok X G (fact c 45 (f := .glo "_law_day") rfl), He.glo_ok X G (fact c 46 (f := .glo "_law_bakery") rfl), He.glo_ok X G (fact c 47 (f := .glo "_law_price") rfl), He.glo_ok X G (fact c 48 (f := .glo "_law_doughs") rfl), He.glo_ok X G (fact c 49 (f := .glo "_law_later") rfl), He.glo_ok X G (fact c 50 (f := .glo "_law_dough") rfl), He.glo_ok X G (fact c 51 (f := .glo "_law_chosen") rfl), He.glo_ok X G (fact c 52 (f := .glo "_law_best_for") rfl), He.glo_ok X G (fact c 53 (f := .glo "_law_set_cost") rfl), He.glo_ok X G (fact c 54 (f := .glo "_law_least") rfl), He.glo_ok X G (fact c 55 (f := .glo "_law_longer") rfl), He.glo_ok X G (fact c 56 (f := .glo "_law_too_many") rfl), He.glo_ok X G (fact c 57 (f := .glo "_law_no_doughs") rfl), He.glo_ok X G (fact c 58 (f := .glo "_law_long_stretches") rfl), He.glo_ok X G (fact c 59 (f := .glo "_law_thirteen") rfl), He.glo_ok X G (fact c 60 (f := .glo "_law_late_rows") rfl), He.glo_ok X G (fact c 61 (f := .glo "law") rfl), He.free_ok X G (fact c 62 (f := .free "len") rfl), He.free_ok X G (fact c 63 (f := .free "range") rfl), He.free_ok X G (fact c 64 (f := .free "zip") rfl), He.free_ok X G (fact c 65 (f := .free "enumerate") rfl), He.free_ok X G (fact c 66 (f := .free "sum") rfl), He.free_ok X G (fact c 67 (f := .free "all") rfl), He.free_ok X G (fact c 68 (f := .free "sorted") rfl), He.free_ok X G (fact c 69 (f := .free "set") rfl), He.free_ok X G (fact c 70 (f := .free "list") rfl), He.free_ok X G (fact c 71 (f := .free "isinstance") rfl), He.free_ok X G (fact c 72 (f := .free "int") rfl), He.free_ok X G (fact c 73 (f := .free "min") rfl), He.free_ok X G (fact c 74 (f := .free "max") rfl), He.free_ok X G (fact c 75 (f := .free "tuple") rfl), He.free_ok X G (fact c 76 (f := .free "bool") rfl), He.free_ok X G (fact c 77 (f := .free "ValueError") rfl), He.int_ok X G (fact c 78 (f := .int "MOST" 1000000000) rfl), He.int_ok X G (fact c 79 (f := .int "MOST_DAYS" 40) rfl), He.int_ok X G (fact c 80 (f := .int "MOST_LIFE" 40) rfl), He.int_ok X G (fact c 81 (f := .int "MOST_GOODS" 2) rfl), He.int_ok X G (fact c 82 (f := .int "MOST_LADDER" 12) rfl)⟩
/-! ### a def that keeps a promise, by its name -/
structure Cal (P : Program) (w : World) (K : PySem.W.Frag) (mg : Str → Option Value) (base : Heap) (CX : CXT) (k : Nat) (x : Str) (ps : List Str) (sp : Sp) : Prop where
  ex : ∃ f fd, FnOk P w K mg base CX k f fd ps sp ∧ mg x = some (.ref f) ∧ PySem.W.keepIn K (.ref f) = true ∧ Binds K fd ps []
section
variable {X : Cx} {k : Nat} {x : Str} {ps : List Str} {sp : Sp} {p pos : Pos} {e : Expr} {es : List Expr} {t : TA}
theorem pe_cal (C : Cal X.prog X.w X.K X.mg X.base CX0 k x ps sp) (hr : Room k X.A) (hg : Gl X x) (ha : PA X (e :: es) t)
    (hdb : (x == ("__debug__" : Str)) = false := by decide) (he : starEach (e :: es) X.env = (false, eval e X.env) :: starEach es X.env := by rfl) (hpl : (backTo pos (starEach es X.env)).any (·.1) = false := by rfl) :
    PE X (.Call (.Name x p) (e :: es) [] pos) (tCall sp [] E0 t) := by
  obtain ⟨f, fd, F, hm, hk, hb⟩ := C.ex
  exact pe_call F hr hg hm hk hb .nil pass0 ha hdb he hpl
theorem pe_cal0 (C : Cal X.prog X.w X.K X.mg X.base CX0 k x ps sp) (hr : Room k X.A) (hg : Gl X x) (hdb : (x == ("__debug__" : Str)) = false := by decide) :
    PE X (.Call (.Name x p) [] [] pos) (tCall sp [] E0 tNil) := by
  obtain ⟨f, fd, F, hm, hk, hb⟩ := C.ex
  exact pe_call0 F hr hg hm hk hb .nil pass0 hdb
/-- .. of one that may raise, where it does not -/
theorem pe_calX (C : Cal X.prog X.w X.K X.mg X.base (L2.CX X.prog X.w) k x ps sp) (hr : Room k X.A) (hg : Gl X x) (ha : PA X (e :: es) t)
    (hdb : (x == ("__debug__" : Str)) = false := by decide) (he : starEach (e :: es) X.env = (false, eval e X.env) :: starEach es X.env := by rfl) (hpl : (backTo pos (starEach es X.env)).any (·.1) = false := by rfl) :
    PE X (.Call (.Name x p) (e :: es) [] pos) (tCall sp [] E0 t) := by
  obtain ⟨f, fd, F, hm, hk, hb⟩ := C.ex
  exact pe_call F hr hg hm hk hb .nil passL ha hdb he hpl
theorem pe_gi {i : Int} (h : ∃ t, X.mg x = some (.int i t)) (hg : Gl X x) (hdb : (x == ("__debug__" : Str)) = false := by decide) : PE X (.Name x pos) (tC (.int i)) := by
  obtain ⟨t, h⟩ := h
  exact pe_glob hg h ⟨t, rfl⟩ hdb
end
section
variable {P : Program} {w : World} {K : PySem.W.Frag} {mg : Str → Option Value} {base : Heap}
theorem cal_of {CX : CXT} {x : Str} {N ps : List Str} {k : Nat} {sp : Sp} (W : Wd K mg) (i : Nat) {d : He.DefD} (hd : fnK[i]? = some d) (hdf : d.dfl = [] := by rfl) (hx : mg x = some (.ref (He.fAd K d.at_))) (S : FnScope N ps d.scope) (len : ∀ vs H Q E, sp vs H Q E → vs.length = ps.length)
    (hb : ∀ (kV doc pm : Value) (an : Option Addr) (cdv ct : Value) (us : List Value), us.length = ps.length → bindArgs (PySem.W.fnOf d.name d.qual d.params d.body d.scope .none kV doc pm an cdv ct) ⟨us, []⟩ = pure (ps.zip us))
    (hbody : ∀ (f : Addr) (cdv : Value) (A : Around) (outer : List Env) (s : Shared) (H : Hp) (vs : List V) (Q : VK) (E : XK), Room k (A.deeper (envOfC d.qual d.scope s.heap.objs.size f cdv)) → sp vs H Q E →
      ∃ t, PSs (cxOf CX P w K mg base N d.qual d.scope f cdv A outer s H E) d.body t ∧ t { nx := fun _ H' => Q .non H', rt := Q } (start N vs) H) : Cal P w K mg base CX (k + 1) x ps sp := by
  obtain ⟨fd, F⟩ := defK W.says i hd
  have e : d.dvs K = [] := by unfold He.DefD.dvs; rw [hdf]; rfl
  rw [e] at F
  exact ⟨He.fAd K d.at_, fd, F.ok S len (fun cdv A outer s H vs Q E hr h => hbody _ cdv A outer s H vs Q E hr h), hx, F.kp, F.bindsN hb⟩
end
end K66

/-! ## S1 -/
set_option maxHeartbeats 4000000
namespace K66
open PySem PySem.Spec PyProof.Rows L2
abbrev rAddI : R2 := rI0 fun i j => .int (i + j)
abbrev rSubI : R2 := rI0 fun i j => .int (i - j)
abbrev rMulI : R2 := rI CMul fun i j => .int (i * j)
abbrev rModI : R2 := rI (fun _ j => 0 < j) fun i j => .int (i % j)
abbrev rDivI : R2 := rI CDiv fun i j => .int (i / j)
abbrev rDivW : R2 := rI CDivW fun i j => .int (i / j)
abbrev rPowI : R2 := rI CPow fun i j => .int (i ^ j.toNat)
abbrev rShlI : R2 := rI CPow fun i j => .int (i * 2 ^ j.toNat)
abbrev rShrI : R2 := rI (fun _ j => 0 ≤ j) fun i j => .int (i / 2 ^ j.toNat)
abbrev rAndI : R2 := rI0 fun i j => .int (Builtin.bitAnd i j)
abbrev rLtI : R2 := rI0 fun i j => .bl (decide (i < j))
abbrev rLeI : R2 := rI0 fun i j => .bl (decide (i ≤ j))
abbrev rGtI : R2 := rI0 fun i j => .bl (decide (j < i))
abbrev rGeI : R2 := rI0 fun i j => .bl (decide (j ≤ i))
abbrev rNegI : V → Hp → VK → Prop := rU fun i => .int (-i)
/-! ### the data in the heap -/
def vO : Option Int → V
  | none => .non
  | some i => .int i
def RowAt (H : Hp) (v : V) (r : Row) : Prop := ∃ t, v = .ref t ∧ H t = some (.tup [.int r.want, .int r.loaf, .int r.keep, vO r.fine])
def RowsAt (H : Hp) (p : Addr) (rs : List Row) : Prop := ∃ vs, H p = some (.lst vs) ∧ vs.length = rs.length ∧ ∀ i v, vs[i]? = some v → RowAt H v (rs.getD i row0)
def GoodAt (H : Hp) (p : Addr) (b : Bk) : Prop := ∃ pr, H p = some (.tup [.ref pr, vO b.life]) ∧ RowsAt H pr b.rows
def BkAt (H : Hp) (p : Addr) (b : Bk) : Prop := ∃ pl pgs pg, H p = some (.tup [.ref pl, .non, .ref pgs]) ∧ H pl = some (.lst (b.lights.map V.int)) ∧ H pgs = some (.lst [.ref pg]) ∧ GoodAt H pg b
def DgAt (H : Hp) (v : V) (g : Dg) : Prop := ∃ t, v = .ref t ∧ H t = some (.tup [.int g.mix, .int g.dough, .int g.hold])
def DgsAt (H : Hp) (p : Addr) (gs : List Dg) : Prop := ∃ vs, H p = some (.lst vs) ∧ vs.length = gs.length ∧ ∀ i v, vs[i]? = some v → DgAt H v (gs.getD i dg0)
section
variable {H H' : Hp} {p : Addr} {v : V} {b : Bk} {r : Row} {rs : List Row} {g : Dg} {gs : List Dg}
theorem RowAt.up (h : RowAt H v r) (e : Ex H H') : RowAt H' v r := let ⟨t, h1, h2⟩ := h; ⟨t, h1, e _ _ h2⟩
theorem RowsAt.up (h : RowsAt H p rs) (e : Ex H H') : RowsAt H' p rs := let ⟨vs, h1, h2, h3⟩ := h; ⟨vs, e _ _ h1, h2, fun i v hv => (h3 i v hv).up e⟩
theorem GoodAt.up (h : GoodAt H p b) (e : Ex H H') : GoodAt H' p b := let ⟨pr, h1, h2⟩ := h; ⟨pr, e _ _ h1, h2.up e⟩
theorem BkAt.up (h : BkAt H p b) (e : Ex H H') : BkAt H' p b := let ⟨pl, pgs, pg, h1, h2, h3, h4⟩ := h; ⟨pl, pgs, pg, e _ _ h1, e _ _ h2, e _ _ h3, h4.up e⟩
theorem DgAt.up (h : DgAt H v g) (e : Ex H H') : DgAt H' v g := let ⟨t, h1, h2⟩ := h; ⟨t, h1, e _ _ h2⟩
theorem DgsAt.up (h : DgsAt H p gs) (e : Ex H H') : DgsAt H' p gs := let ⟨vs, h1, h2, h3⟩ := h; ⟨vs, e _ _ h1, h2, fun i v hv => (h3 i v hv).up e⟩
theorem RowsAt.get (h : RowsAt H p rs) {i : Nat} (hi : i < rs.length) : ∃ vs t, H p = some (.lst vs) ∧ vs.length = rs.length ∧ vs[i]? = some (.ref t) ∧ H t = some (.tup [.int (rs.getD i row0).want, .int (rs.getD i row0).loaf, .int (rs.getD i row0).keep, vO (rs.getD i row0).fine]) := by
  obtain ⟨vs, h1, h2, h3⟩ := h
  have e : vs[i]? = some vs[i] := List.getElem?_eq_getElem (by omega)
  obtain ⟨t, q1, q2⟩ := h3 i _ e
  exact ⟨vs, t, h1, h2, by rw [e, q1], q2⟩
theorem DgsAt.get (h : DgsAt H p gs) {i : Nat} (hi : i < gs.length) : ∃ vs t, H p = some (.lst vs) ∧ vs.length = gs.length ∧ vs[i]? = some (.ref t) ∧ H t = some (.tup [.int (gs.getD i dg0).mix, .int (gs.getD i dg0).dough, .int (gs.getD i dg0).hold]) := by
  obtain ⟨vs, h1, h2, h3⟩ := h
  have e : vs[i]? = some vs[i] := List.getElem?_eq_getElem (by omega)
  obtain ⟨t, q1, q2⟩ := h3 i _ e
  exact ⟨vs, t, h1, h2, by rw [e, q1], q2⟩
end
/-- a truth, told classically -/
noncomputable def dec (p : Prop) : Bool := @decide p (Classical.propDecidable p)
theorem dec_t {p : Prop} (h : p) : dec p = true := by unfold dec; exact @decide_eq_true p (Classical.propDecidable p) h
theorem dec_f {p : Prop} (h : ¬ p) : dec p = false := by unfold dec; exact @decide_eq_false p (Classical.propDecidable p) h
/-! ### the promises, first part -/
section
def sp_is_whole (_K : PySem.W.Frag) : Sp := spOf fun vs H P => ∃ (i : Int), vs = [.int i] ∧ P = Is (.bl true)
def sp_is_within (_K : PySem.W.Frag) : Sp := spOf fun vs H P => ∃ (i : Int) (lo : Int) (hi : Int), vs = [.int i, .int lo, .int hi] ∧ P = Is (.bl (decide (lo ≤ i) && decide (i ≤ hi)))
def sp_is_number (_K : PySem.W.Frag) : Sp := spOf fun vs H P => ∃ (i : Int), vs = [.int i] ∧ num i ∧ P = Is (.bl true)
def sp_is_day (_K : PySem.W.Frag) : Sp := spOf fun vs H P => ∃ (v : V) (r : Row), vs = [v] ∧ RowAt H v r ∧ r.ok ∧ P = Is (.bl true)
def sp_are_lights (_K : PySem.W.Frag) : Sp := spOf fun vs H P => ∃ (p : Addr) (xs : List Int), vs = [.ref p] ∧ H p = some (.lst (xs.map V.int)) ∧ 1 ≤ xs.length ∧ xs.length ≤ 40 ∧ (∀ x ∈ xs, num x) ∧ P = Is (.bl true)
def sp_is_frame (_K : PySem.W.Frag) : Sp := spOf fun vs H P => ∃ (p : Addr) (b : Bk), vs = [.ref p] ∧ BkAt H p b ∧ b.ok ∧ P = Is (.bl true)
def sp_look_at_good (_K : PySem.W.Frag) : Sp := spOf fun vs H P => ∃ (k : Int) (pg : Addr) (b : Bk), vs = [.int k, .ref pg, .int (b.n : Int)] ∧ GoodAt H pg b ∧ b.ok ∧ P = Is .non
def sp_look_at_bakery (_K : PySem.W.Frag) : Sp := spOf fun vs H P => ∃ (p : Addr) (b : Bk), vs = [.ref p] ∧ BkAt H p b ∧ b.ok ∧ P = Is .non
def sp_is_plain_one (_K : PySem.W.Frag) : Sp := spOf fun vs H P => ∃ (p : Addr) (b : Bk), vs = [.ref p] ∧ BkAt H p b ∧ b.ok ∧ P = Is (.bl true)
def sp_is_plain (_K : PySem.W.Frag) : Sp := spOf fun vs H P => ∃ (p : Addr) (b : Bk), vs = [.ref p] ∧ BkAt H p b ∧ b.ok ∧ P = Is (.bl true)
def sp_look_at_plain (_K : PySem.W.Frag) : Sp := spOf fun vs H P => ∃ (p : Addr) (b : Bk), vs = [.ref p] ∧ BkAt H p b ∧ b.ok ∧ P = Is .non
def sp_nights_ahead (_K : PySem.W.Frag) : Sp := spOf fun vs H P => ∃ (pr : Addr) (b : Bk) (s : Nat) (d : Nat), vs = [.ref pr, vO b.life, .int (s : Nat), .int (d : Nat)] ∧ RowsAt H pr b.rows ∧ b.ok ∧ s ≤ d ∧ d < b.n ∧ P = Is (if tooLong b.life (d - s) then .non else .int (sumF b.keep s d))
def sp_nights_behind (_K : PySem.W.Frag) : Sp := spOf fun vs H P => ∃ (pr : Addr) (b : Bk) (s : Nat) (d : Nat), vs = [.ref pr, .int (s : Nat), .int (d : Nat)] ∧ RowsAt H pr b.rows ∧ b.ok ∧ d < s ∧ s < b.n ∧ P = Is (if finesIn b d (s - d) then .int (sumF b.fineV d s) else .non)
def sp_price_of (_K : PySem.W.Frag) : Sp := spOf fun vs H P => ∃ (pg : Addr) (b : Bk) (s : Nat) (d : Nat), vs = [.ref pg, .int (s : Nat), .int (d : Nat)] ∧ GoodAt H pg b ∧ b.ok ∧ s < b.n ∧ d < b.n ∧ P = Is (vO (b.price s d))
def sp_prices_from (_K : PySem.W.Frag) : Sp := spOf fun vs H P => ∃ (pg : Addr) (b : Bk) (s : Nat), vs = [.ref pg, .int (s : Nat)] ∧ GoodAt H pg b ∧ b.ok ∧ s < b.n ∧ P = NewL ((List.range b.n).map fun d => vO (b.price s d))

def sp_wants_from (_K : PySem.W.Frag) : Sp := spOf fun vs H P => ∃ (pg : Addr) (b : Bk) (s : Nat), vs = [.ref pg, .int (s : Nat)] ∧ GoodAt H pg b ∧ b.ok ∧ s < b.n ∧ P = NewL ((List.range b.n).map fun d => vO (cost0 b s d))
def sp_is_dough_day (_K : PySem.W.Frag) : Sp := spOf fun vs H P => ∃ (v : V) (g : Dg), vs = [v] ∧ DgAt H v g ∧ g.ok ∧ P = Is (.bl true)
def sp_dough_price (_K : PySem.W.Frag) : Sp := spOf fun vs H P => ∃ (pd : Addr) (gs : List Dg) (r : Nat) (s : Nat), vs = [.ref pd, .int (r : Nat), .int (s : Nat)] ∧ DgsAt H pd gs ∧ r < gs.length ∧ s < gs.length ∧ gs.length ≤ 40 ∧ P = Is (.int (each gs r s))
def sp_batch_costs (_K : PySem.W.Frag) : Sp := spOf fun vs H P => ∃ (pb : Addr) (b : Bk) (pd : Addr) (gs : List Dg) (r : Nat) (s : Nat), vs = [.ref pb, .ref pd, .int (r : Nat), .int (s : Nat)] ∧ BkAt H pb b ∧ b.ok ∧ DgsAt H pd gs ∧ DgOk b gs ∧ r < b.n ∧ s < b.n ∧ P = NewL ((List.range b.n).map fun d => vO (b.cost gs r s d))
end
end K66

/-! ## D1 -/
set_option maxHeartbeats 4000000
namespace K66
open PySem PySem.Spec PyProof.Rows L2
/-! is_whole -/
abbrev N_is_whole : List Str := ["thing"]
abbrev p_is_whole : List Str := ["thing"]
theorem sc_is_whole : FnScope N_is_whole p_is_whole (defScope s_is_whole) := ⟨rfl, rfl, rfl, by decide +kernel, rfl, by decide +kernel, by decide +kernel⟩
def t_is_whole (K : PySem.W.Frag) : TS := tSeq (tRet (tAndV (tCB (rIsi K) (tCons (tVar 0) (tCons (tC (.ty "int")) (tNil)))) (tNotV (tCB (rIsi K) (tCons (tVar 0) (tCons (tC (.ty "bool")) (tNil))))))) (tNext)
theorem der_is_whole {P : Program} {w : World} {K : PySem.W.Frag} {mg : Str → Option Value} {base : Heap} (W : Wd K mg)  {f : Addr} {cdv : Value} {A : Around} {outer : List Env} {s : Shared} {H : Hp} {E : XK} (hr : Room 0 (A.deeper (envOfC "is_whole" (defScope s_is_whole) s.heap.objs.size f cdv))) :
    PSs (cxOf CX0 P w K mg base N_is_whole "is_whole" (defScope s_is_whole) f cdv A outer s H E).nox (defBody s_is_whole) (t_is_whole K) :=
  pss_cons (ps_ret (pe_and (pe_callB call_isi (by rfl) W.b_isinstance (by decide +kernel) (pa_cons (pv 0) (pa_cons (pe_bltn (by rfl) W.b_int (by decide +kernel) rfl) (pa_nil)))) (pe_one (pe_not (pe_callB call_isi (by rfl) W.b_isinstance (by decide +kernel) (pa_cons (pv 0) (pa_cons (pe_bltn (by rfl) W.b_bool (by decide +kernel) rfl) (pa_nil)))))))) (pss_nil)
/-! is_within -/
abbrev N_is_within : List Str := ["thing", "least", "most"]
abbrev p_is_within : List Str := ["thing", "least", "most"]
theorem sc_is_within : FnScope N_is_within p_is_within (defScope s_is_within) := ⟨rfl, rfl, rfl, by decide +kernel, rfl, by decide +kernel, by decide +kernel⟩
def t_is_within (K : PySem.W.Frag) : TS := tSeq (tRet (tAndV (tCall (sp_is_whole K) [] E0 (tCons (tVar 0) (tNil))) (tChain rLeI rLeI (tVar 1) (tVar 0) (tVar 2)))) (tNext)
theorem der_is_within {P : Program} {w : World} {K : PySem.W.Frag} {mg : Str → Option Value} {base : Heap} (W : Wd K mg) (C_is_whole : Cal P w K mg base CX0 1 "is_whole" p_is_whole (sp_is_whole K)) {f : Addr} {cdv : Value} {A : Around} {outer : List Env} {s : Shared} {H : Hp} {E : XK} (hr : Room 1 (A.deeper (envOfC "is_within" (defScope s_is_within) s.heap.objs.size f cdv))) :
    PSs (cxOf CX0 P w K mg base N_is_within "is_within" (defScope s_is_within) f cdv A outer s H E).nox (defBody s_is_within) (t_is_within K) :=
  pss_cons (ps_ret (pe_and (pe_cal C_is_whole (hr.mono (by decide)) (by rfl) (pa_cons (pv 0) (pa_nil))) (pe_one (pe_chain op_le op_le (pv 1) (pv 0) (pv 2))))) (pss_nil)
/-! is_number -/
abbrev N_is_number : List Str := ["thing"]
abbrev p_is_number : List Str := ["thing"]
theorem sc_is_number : FnScope N_is_number p_is_number (defScope s_is_number) := ⟨rfl, rfl, rfl, by decide +kernel, rfl, by decide +kernel, by decide +kernel⟩
def t_is_number (K : PySem.W.Frag) : TS := tSeq (tRet (tCall (sp_is_within K) [] E0 (tCons (tVar 0) (tCons (tC (.int 0)) (tCons (tC (.int 1000000000)) (tNil)))))) (tNext)
theorem der_is_number {P : Program} {w : World} {K : PySem.W.Frag} {mg : Str → Option Value} {base : Heap} (W : Wd K mg) (C_is_within : Cal P w K mg base CX0 2 "is_within" p_is_within (sp_is_within K)) {f : Addr} {cdv : Value} {A : Around} {outer : List Env} {s : Shared} {H : Hp} {E : XK} (hr : Room 2 (A.deeper (envOfC "is_number" (defScope s_is_number) s.heap.objs.size f cdv))) :
    PSs (cxOf CX0 P w K mg base N_is_number "is_number" (defScope s_is_number) f cdv A outer s H E).nox (defBody s_is_number) (t_is_number K) :=
  pss_cons (ps_ret (pe_cal C_is_within (hr.mono (by decide)) (by rfl) (pa_cons (pv 0) (pa_cons (pe_int) (pa_cons (pe_gi W.m_MOST (by rfl)) (pa_nil)))))) (pss_nil)
/-! is_day -/
abbrev N_is_day : List Str := ["thing", "part"]
abbrev p_is_day : List Str := ["thing"]
theorem sc_is_day : FnScope N_is_day p_is_day (defScope s_is_day) := ⟨rfl, rfl, rfl, by decide +kernel, rfl, by decide +kernel, by decide +kernel⟩
def t_is_day (K : PySem.W.Frag) : TS := tSeq (tIfS (tOr (tNot (tB (tCB (rIsi K) (tCons (tVar 0) (tCons (tC (.ty "tuple")) (tNil)))))) (tTest (tOp rNe (tCB (rLenS K) (tCons (tVar 0) (tNil))) (tC (.int 4))))) (tSeq (tRet (tC (.bl false))) (tNext)) (tNext)) (tSeq (tRet (tAndV (tCB (rAll K) (tCons (tLc (iTup K (tSl (rSlT K) (tVar 0) tNoPart (tPart (tC (.int 3))))) (gName 1) (tYes) (tCall (sp_is_number K) [] E0 (tCons (tVar 1) (tNil))) [1]) (tNil))) (tOrV (tOp rIsN (tOp (rIx K) (tVar 0) (tC (.int 3))) (tC .non)) (tCall (sp_is_number K) [] E0 (tCons (tOp (rIx K) (tVar 0) (tC (.int 3))) (tNil)))))) (tNext))
theorem der_is_day {P : Program} {w : World} {K : PySem.W.Frag} {mg : Str → Option Value} {base : Heap} (W : Wd K mg) (C_is_number : Cal P w K mg base CX0 3 "is_number" p_is_number (sp_is_number K)) {f : Addr} {cdv : Value} {A : Around} {outer : List Env} {s : Shared} {H : Hp} {E : XK} (hr : Room 3 (A.deeper (envOfC "is_day" (defScope s_is_day) s.heap.objs.size f cdv))) :
    PSs (cxOf CX0 P w K mg base N_is_day "is_day" (defScope s_is_day) f cdv A outer s H E).nox (defBody s_is_day) (t_is_day K) :=
  pss_cons (ps_if (PW.pt (pw_or (pt_not (pt_val (pe_callB call_isi (by rfl) W.b_isinstance (by decide +kernel) (pa_cons (pv 0) (pa_cons (pe_bltn (by rfl) W.b_tuple (by decide +kernel) rfl) (pa_nil)))))) (pw_or1 (pt_cmpR op_ne (pe_callB call_len_seq (by rfl) W.b_len PySem.boot_len (pa_cons (pv 0) (pa_nil))) (pe_int) (nomark _))))) (pss_cons (ps_ret (pe_bl)) (pss_nil)) (pss_nil)) (pss_cons (ps_ret (pe_and (pe_callB (cr_all (by rfl)) (by rfl) W.b_all (by decide +kernel) (pa_cons (pe_lc (own := [("part", 1)]) (by rfl) sc_is_day.nd (pi_tup (pe_slice sl_tup (pv 0) po_none (po_some (pe_int)))) (blkOk_by (own := [("part", 1)]) (N := N_is_day) (sc := defScope s_is_day) (by decide +kernel)) (fun _ _ _ _ _ => pg_name (i := 1) sc_is_day.nd rfl (by first | exact Or.inl rfl | exact Or.inr rfl)) (fun _ _ _ _ _ => pts_nil) (fun _ _ _ _ _ => pe_cal C_is_number (hr.mono (by decide)) (by rfl) (pa_cons (pv 1) (pa_nil)))) (pa_nil))) (pe_one (pe_or (pe_cmpR op_isN (pe_ix ix_seq (pv 0) (pe_int) (fun _ _ => rfl)) (pe_non) (nomark _)) (pe_one (pe_cal C_is_number (hr.mono (by decide)) (by rfl) (pa_cons (pe_ix ix_seq (pv 0) (pe_int) (fun _ _ => rfl)) (pa_nil)))))))) (pss_nil))
/-! are_lights -/
abbrev N_are_lights : List Str := ["thing", "light"]
abbrev p_are_lights : List Str := ["thing"]
theorem sc_are_lights : FnScope N_are_lights p_are_lights (defScope s_are_lights) := ⟨rfl, rfl, rfl, by decide +kernel, rfl, by decide +kernel, by decide +kernel⟩
def t_are_lights (K : PySem.W.Frag) : TS := tSeq (tRet (tAndV (tCB (rIsi K) (tCons (tVar 0) (tCons (tC (.ty "list")) (tNil)))) (tAndV (tChain rLeI rLeI (tC (.int 1)) (tCB (rLenS K) (tCons (tVar 0) (tNil))) (tC (.int 40))) (tCB (rAll K) (tCons (tLc (iList K (tVar 0)) (gName 1) (tYes) (tCall (sp_is_number K) [] E0 (tCons (tVar 1) (tNil))) [1]) (tNil)))))) (tNext)
theorem der_are_lights {P : Program} {w : World} {K : PySem.W.Frag} {mg : Str → Option Value} {base : Heap} (W : Wd K mg) (C_is_number : Cal P w K mg base CX0 3 "is_number" p_is_number (sp_is_number K)) {f : Addr} {cdv : Value} {A : Around} {outer : List Env} {s : Shared} {H : Hp} {E : XK} (hr : Room 3 (A.deeper (envOfC "are_lights" (defScope s_are_lights) s.heap.objs.size f cdv))) :
    PSs (cxOf CX0 P w K mg base N_are_lights "are_lights" (defScope s_are_lights) f cdv A outer s H E).nox (defBody s_are_lights) (t_are_lights K) :=
  pss_cons (ps_ret (pe_and (pe_callB call_isi (by rfl) W.b_isinstance (by decide +kernel) (pa_cons (pv 0) (pa_cons (pe_bltn (by rfl) W.b_list (by decide +kernel) rfl) (pa_nil)))) (pe_and (pe_chain op_le op_le (pe_int) (pe_callB call_len_seq (by rfl) W.b_len PySem.boot_len (pa_cons (pv 0) (pa_nil))) (pe_gi W.m_MOST_DAYS (by rfl))) (pe_one (pe_callB (cr_all (by rfl)) (by rfl) W.b_all (by decide +kernel) (pa_cons (pe_lc (own := [("light", 1)]) (by rfl) sc_are_lights.nd (pi_list (pv 0)) (blkOk_by (own := [("light", 1)]) (N := N_are_lights) (sc := defScope s_are_lights) (by decide +kernel)) (fun _ _ _ _ _ => pg_name (i := 1) sc_are_lights.nd rfl (by first | exact Or.inl rfl | exact Or.inr rfl)) (fun _ _ _ _ _ => pts_nil) (fun _ _ _ _ _ => pe_cal C_is_number (hr.mono (by decide)) (by rfl) (pa_cons (pv 1) (pa_nil)))) (pa_nil))))))) (pss_nil)
/-! is_frame -/
abbrev N_is_frame : List Str := ["thing"]
abbrev p_is_frame : List Str := ["thing"]
theorem sc_is_frame : FnScope N_is_frame p_is_frame (defScope s_is_frame) := ⟨rfl, rfl, rfl, by decide +kernel, rfl, by decide +kernel, by decide +kernel⟩
def t_is_frame (K : PySem.W.Frag) : TS := tSeq (tIfS (tOr (tNot (tB (tCB (rIsi K) (tCons (tVar 0) (tCons (tC (.ty "tuple")) (tNil)))))) (tOr (tTest (tOp rNe (tCB (rLenS K) (tCons (tVar 0) (tNil))) (tC (.int 3)))) (tNot (tB (tCall (sp_are_lights K) [] E0 (tCons (tOp (rIx K) (tVar 0) (tC (.int 0))) (tNil))))))) (tSeq (tRet (tC (.bl false))) (tNext)) (tNext)) (tSeq (tIfS (tAnd (tTest (tOp rNotN (tOp (rIx K) (tVar 0) (tC (.int 1))) (tC .non))) (tNot (tB (tCall (sp_is_within K) [] E0 (tCons (tOp (rIx K) (tVar 0) (tC (.int 1))) (tCons (tC (.int 1)) (tCons (tC (.int 1000000000)) (tNil)))))))) (tSeq (tRet (tC (.bl false))) (tNext)) (tNext)) (tSeq (tRet (tAndV (tCB (rIsi K) (tCons (tOp (rIx K) (tVar 0) (tC (.int 2))) (tCons (tC (.ty "list")) (tNil)))) (tChain rLeI rLeI (tC (.int 1)) (tCB (rLenS K) (tCons (tOp (rIx K) (tVar 0) (tC (.int 2))) (tNil))) (tC (.int 2))))) (tNext)))
theorem der_is_frame {P : Program} {w : World} {K : PySem.W.Frag} {mg : Str → Option Value} {base : Heap} (W : Wd K mg) (C_are_lights : Cal P w K mg base CX0 4 "are_lights" p_are_lights (sp_are_lights K)) (C_is_within : Cal P w K mg base CX0 2 "is_within" p_is_within (sp_is_within K)) {f : Addr} {cdv : Value} {A : Around} {outer : List Env} {s : Shared} {H : Hp} {E : XK} (hr : Room 4 (A.deeper (envOfC "is_frame" (defScope s_is_frame) s.heap.objs.size f cdv))) :
    PSs (cxOf CX0 P w K mg base N_is_frame "is_frame" (defScope s_is_frame) f cdv A outer s H E).nox (defBody s_is_frame) (t_is_frame K) :=
  pss_cons (ps_if (PW.pt (pw_or (pt_not (pt_val (pe_callB call_isi (by rfl) W.b_isinstance (by decide +kernel) (pa_cons (pv 0) (pa_cons (pe_bltn (by rfl) W.b_tuple (by decide +kernel) rfl) (pa_nil)))))) (pw_or (pt_cmpR op_ne (pe_callB call_len_seq (by rfl) W.b_len PySem.boot_len (pa_cons (pv 0) (pa_nil))) (pe_int) (nomark _)) (pw_or1 (pt_not (pt_val (pe_cal C_are_lights (hr.mono (by decide)) (by rfl) (pa_cons (pe_ix ix_seq (pv 0) (pe_int) (fun _ _ => rfl)) (pa_nil))))))))) (pss_cons (ps_ret (pe_bl)) (pss_nil)) (pss_nil)) (pss_cons (ps_if (PW.pt (pw_and (pt_cmpR op_notN (pe_ix ix_seq (pv 0) (pe_int) (fun _ _ => rfl)) (pe_non) (nomark _)) (pw_and1 (pt_not (pt_val (pe_cal C_is_within (hr.mono (by decide)) (by rfl) (pa_cons (pe_ix ix_seq (pv 0) (pe_int) (fun _ _ => rfl)) (pa_cons (pe_int) (pa_cons (pe_gi W.m_MOST (by rfl)) (pa_nil)))))))))) (pss_cons (ps_ret (pe_bl)) (pss_nil)) (pss_nil)) (pss_cons (ps_ret (pe_and (pe_callB call_isi (by rfl) W.b_isinstance (by decide +kernel) (pa_cons (pe_ix ix_seq (pv 0) (pe_int) (fun _ _ => rfl)) (pa_cons (pe_bltn (by rfl) W.b_list (by decide +kernel) rfl) (pa_nil)))) (pe_one (pe_chain op_le op_le (pe_int) (pe_callB call_len_seq (by rfl) W.b_len PySem.boot_len (pa_cons (pe_ix ix_seq (pv 0) (pe_int) (fun _ _ => rfl)) (pa_nil))) (pe_gi W.m_MOST_GOODS (by rfl)))))) (pss_nil)))
/-! look_at_good -/
abbrev N_look_at_good : List Str := ["number", "good", "many", "day", "row"]
abbrev p_look_at_good : List Str := ["number", "good", "many"]
theorem sc_look_at_good : FnScope N_look_at_good p_look_at_good (defScope s_look_at_good) := ⟨rfl, rfl, rfl, by decide +kernel, rfl, by decide +kernel, by decide +kernel⟩
def t_look_at_good (K : PySem.W.Frag) : TS := tSeq (tIfS (tOr (tNot (tB (tCB (rIsi K) (tCons (tVar 1) (tCons (tC (.ty "tuple")) (tNil)))))) (tOr (tTest (tOp rNe (tCB (rLenS K) (tCons (tVar 1) (tNil))) (tC (.int 2)))) (tOr (tNot (tB (tCB (rIsi K) (tCons (tOp (rIx K) (tVar 1) (tC (.int 0))) (tCons (tC (.ty "list")) (tNil)))))) (tTest (tOp rNe (tCB (rLenS K) (tCons (tOp (rIx K) (tVar 1) (tC (.int 0))) (tNil))) (tVar 2)))))) (tSeq (tNever) (tNext)) (tNext)) (tSeq (tIfS (tAnd (tTest (tOp rNotN (tOp (rIx K) (tVar 1) (tC (.int 1))) (tC .non))) (tNot (tB (tCall (sp_is_within K) [] E0 (tCons (tOp (rIx K) (tVar 1) (tC (.int 1))) (tCons (tC (.int 0)) (tCons (tC (.int 40)) (tNil)))))))) (tSeq (tNever) (tNext)) (tNext)) (tSeq (tFor (iEnum K (tCons (tOp (rIx K) (tVar 1) (tC (.int 0))) (tNil))) (gTup K 2 (gCons (gName 3) (gCons (gName 4) (gNil)))) (tSeq (tIfS (tNot (tB (tCall (sp_is_day K) [] E0 (tCons (tVar 4) (tNil))))) (tSeq (tNever) (tNext)) (tNext)) (tNext))) (tNext)))
theorem der_look_at_good {P : Program} {w : World} {K : PySem.W.Frag} {mg : Str → Option Value} {base : Heap} (W : Wd K mg) (C_is_day : Cal P w K mg base CX0 4 "is_day" p_is_day (sp_is_day K)) (C_is_within : Cal P w K mg base CX0 2 "is_within" p_is_within (sp_is_within K)) {f : Addr} {cdv : Value} {A : Around} {outer : List Env} {s : Shared} {H : Hp} {E : XK} (hr : Room 4 (A.deeper (envOfC "look_at_good" (defScope s_look_at_good) s.heap.objs.size f cdv))) :
    PSs (cxOf CX0 P w K mg base N_look_at_good "look_at_good" (defScope s_look_at_good) f cdv A outer s H E).nox (defBody s_look_at_good) (t_look_at_good K) :=
  pss_cons (ps_if (PW.pt (pw_or (pt_not (pt_val (pe_callB call_isi (by rfl) W.b_isinstance (by decide +kernel) (pa_cons (pv 1) (pa_cons (pe_bltn (by rfl) W.b_tuple (by decide +kernel) rfl) (pa_nil)))))) (pw_or (pt_cmpR op_ne (pe_callB call_len_seq (by rfl) W.b_len PySem.boot_len (pa_cons (pv 1) (pa_nil))) (pe_int) (nomark _)) (pw_or (pt_not (pt_val (pe_callB call_isi (by rfl) W.b_isinstance (by decide +kernel) (pa_cons (pe_ix ix_seq (pv 1) (pe_int) (fun _ _ => rfl)) (pa_cons (pe_bltn (by rfl) W.b_list (by decide +kernel) rfl) (pa_nil)))))) (pw_or1 (pt_cmpR op_ne (pe_callB call_len_seq (by rfl) W.b_len PySem.boot_len (pa_cons (pe_ix ix_seq (pv 1) (pe_int) (fun _ _ => rfl)) (pa_nil))) (pv 2) (nomark _))))))) (pss_cons (ps_never) (pss_nil)) (pss_nil)) (pss_cons (ps_if (PW.pt (pw_and (pt_cmpR op_notN (pe_ix ix_seq (pv 1) (pe_int) (fun _ _ => rfl)) (pe_non) (nomark _)) (pw_and1 (pt_not (pt_val (pe_cal C_is_within (hr.mono (by decide)) (by rfl) (pa_cons (pe_ix ix_seq (pv 1) (pe_int) (fun _ _ => rfl)) (pa_cons (pe_int) (pa_cons (pe_gi W.m_MOST_LIFE (by rfl)) (pa_nil)))))))))) (pss_cons (ps_never) (pss_nil)) (pss_nil)) (pss_cons (ps_for PassesOwn.never (by rfl) (pi_enum (by rfl) W.b_enumerate (pa_cons (pe_ix ix_seq (pv 1) (pe_int) (fun _ _ => rfl)) (pa_nil))) (pg_tup (by rfl) (pgs_cons (pg_name (i := 3) sc_look_at_good.nd rfl (by first | exact Or.inl rfl | exact Or.inr rfl)) (pgs_cons (pg_name (i := 4) sc_look_at_good.nd rfl (by first | exact Or.inl rfl | exact Or.inr rfl)) (pgs_nil)))) (pss_cons (ps_if (pt_not (pt_val (pe_cal C_is_day (hr.mono (by decide)) (by rfl) (pa_cons (pv 4) (pa_nil))))) (pss_cons (ps_never) (pss_nil)) (pss_nil)) (pss_nil))) (pss_nil)))
/-! look_at_bakery -/
abbrev N_look_at_bakery : List Str := ["thing", "number", "good"]
abbrev p_look_at_bakery : List Str := ["thing"]
theorem sc_look_at_bakery : FnScope N_look_at_bakery p_look_at_bakery (defScope s_look_at_bakery) := ⟨rfl, rfl, rfl, by decide +kernel, rfl, by decide +kernel, by decide +kernel⟩
def t_look_at_bakery (K : PySem.W.Frag) : TS := tSeq (tIfS (tNot (tB (tCall (sp_is_frame K) [] E0 (tCons (tVar 0) (tNil))))) (tSeq (tNever) (tNext)) (tNext)) (tSeq (tFor (iEnum K (tCons (tOp (rIx K) (tVar 0) (tC (.int 2))) (tNil))) (gTup K 2 (gCons (gName 1) (gCons (gName 2) (gNil)))) (tSeq (tDrop (tCall (sp_look_at_good K) [] E0 (tCons (tVar 1) (tCons (tVar 2) (tCons (tCB (rLenS K) (tCons (tOp (rIx K) (tVar 0) (tC (.int 0))) (tNil))) (tNil)))))) (tNext))) (tNext))
theorem der_look_at_bakery {P : Program} {w : World} {K : PySem.W.Frag} {mg : Str → Option Value} {base : Heap} (W : Wd K mg) (C_is_frame : Cal P w K mg base CX0 5 "is_frame" p_is_frame (sp_is_frame K)) (C_look_at_good : Cal P w K mg base CX0 5 "look_at_good" p_look_at_good (sp_look_at_good K)) {f : Addr} {cdv : Value} {A : Around} {outer : List Env} {s : Shared} {H : Hp} {E : XK} (hr : Room 5 (A.deeper (envOfC "look_at_bakery" (defScope s_look_at_bakery) s.heap.objs.size f cdv))) :
    PSs (cxOf CX0 P w K mg base N_look_at_bakery "look_at_bakery" (defScope s_look_at_bakery) f cdv A outer s H E).nox (defBody s_look_at_bakery) (t_look_at_bakery K) :=
  pss_cons (ps_if (pt_not (pt_val (pe_cal C_is_frame (hr.mono (by decide)) (by rfl) (pa_cons (pv 0) (pa_nil))))) (pss_cons (ps_never) (pss_nil)) (pss_nil)) (pss_cons (ps_for PassesOwn.never (by rfl) (pi_enum (by rfl) W.b_enumerate (pa_cons (pe_ix ix_seq (pv 0) (pe_int) (fun _ _ => rfl)) (pa_nil))) (pg_tup (by rfl) (pgs_cons (pg_name (i := 1) sc_look_at_bakery.nd rfl (by first | exact Or.inl rfl | exact Or.inr rfl)) (pgs_cons (pg_name (i := 2) sc_look_at_bakery.nd rfl (by first | exact Or.inl rfl | exact Or.inr rfl)) (pgs_nil)))) (pss_cons (ps_expr (pe_cal C_look_at_good (hr.mono (by decide)) (by rfl) (pa_cons (pv 1) (pa_cons (pv 2) (pa_cons (pe_callB call_len_seq (by rfl) W.b_len PySem.boot_len (pa_cons (pe_ix ix_seq (pv 0) (pe_int) (fun _ _ => rfl)) (pa_nil))) (pa_nil)))))) (pss_nil))) (pss_nil))
/-! is_plain_one -/
abbrev N_is_plain_one : List Str := ["bakery"]
abbrev p_is_plain_one : List Str := ["bakery"]
theorem sc_is_plain_one : FnScope N_is_plain_one p_is_plain_one (defScope s_is_plain_one) := ⟨rfl, rfl, rfl, by decide +kernel, rfl, by decide +kernel, by decide +kernel⟩
def t_is_plain_one (K : PySem.W.Frag) : TS := tSeq (tRet (tAndV (tOp rIsN (tOp (rIx K) (tVar 0) (tC (.int 1))) (tC .non)) (tOp rEq (tCB (rLenS K) (tCons (tOp (rIx K) (tVar 0) (tC (.int 2))) (tNil))) (tC (.int 1))))) (tNext)
theorem der_is_plain_one {P : Program} {w : World} {K : PySem.W.Frag} {mg : Str → Option Value} {base : Heap} (W : Wd K mg)  {f : Addr} {cdv : Value} {A : Around} {outer : List Env} {s : Shared} {H : Hp} {E : XK} (hr : Room 0 (A.deeper (envOfC "is_plain_one" (defScope s_is_plain_one) s.heap.objs.size f cdv))) :
    PSs (cxOf CX0 P w K mg base N_is_plain_one "is_plain_one" (defScope s_is_plain_one) f cdv A outer s H E).nox (defBody s_is_plain_one) (t_is_plain_one K) :=
  pss_cons (ps_ret (pe_and (pe_cmpR op_isN (pe_ix ix_seq (pv 0) (pe_int) (fun _ _ => rfl)) (pe_non) (nomark _)) (pe_one (pe_cmpR op_eq (pe_callB call_len_seq (by rfl) W.b_len PySem.boot_len (pa_cons (pe_ix ix_seq (pv 0) (pe_int) (fun _ _ => rfl)) (pa_nil))) (pe_int) (nomark _))))) (pss_nil)
/-! is_plain -/
abbrev N_is_plain : List Str := ["bakery"]
abbrev p_is_plain : List Str := ["bakery"]
theorem sc_is_plain : FnScope N_is_plain p_is_plain (defScope s_is_plain) := ⟨rfl, rfl, rfl, by decide +kernel, rfl, by decide +kernel, by decide +kernel⟩
def t_is_plain (K : PySem.W.Frag) : TS := tSeq (tDrop (tCall (sp_look_at_bakery K) [] E0 (tCons (tVar 0) (tNil)))) (tSeq (tRet (tCall (sp_is_plain_one K) [] E0 (tCons (tVar 0) (tNil)))) (tNext))
theorem der_is_plain {P : Program} {w : World} {K : PySem.W.Frag} {mg : Str → Option Value} {base : Heap} (W : Wd K mg) (C_is_plain_one : Cal P w K mg base CX0 1 "is_plain_one" p_is_plain_one (sp_is_plain_one K)) (C_look_at_bakery : Cal P w K mg base CX0 6 "look_at_bakery" p_look_at_bakery (sp_look_at_bakery K)) {f : Addr} {cdv : Value} {A : Around} {outer : List Env} {s : Shared} {H : Hp} {E : XK} (hr : Room 6 (A.deeper (envOfC "is_plain" (defScope s_is_plain) s.heap.objs.size f cdv))) :
    PSs (cxOf CX0 P w K mg base N_is_plain "is_plain" (defScope s_is_plain) f cdv A outer s H E).nox (defBody s_is_plain) (t_is_plain K) :=
  pss_cons (ps_expr (pe_cal C_look_at_bakery (hr.mono (by decide)) (by rfl) (pa_cons (pv 0) (pa_nil)))) (pss_cons (ps_ret (pe_cal C_is_plain_one (hr.mono (by decide)) (by rfl) (pa_cons (pv 0) (pa_nil)))) (pss_nil))
/-! look_at_plain -/
abbrev N_look_at_plain : List Str := ["bakery"]
abbrev p_look_at_plain : List Str := ["bakery"]
theorem sc_look_at_plain : FnScope N_look_at_plain p_look_at_plain (defScope s_look_at_plain) := ⟨rfl, rfl, rfl, by decide +kernel, rfl, by decide +kernel, by decide +kernel⟩
def t_look_at_plain (K : PySem.W.Frag) : TS := tSeq (tIfS (tNot (tB (tCall (sp_is_plain K) [] E0 (tCons (tVar 0) (tNil))))) (tSeq (tNever) (tNext)) (tNext)) (tNext)
theorem der_look_at_plain {P : Program} {w : World} {K : PySem.W.Frag} {mg : Str → Option Value} {base : Heap} (W : Wd K mg) (C_is_plain : Cal P w K mg base CX0 7 "is_plain" p_is_plain (sp_is_plain K)) {f : Addr} {cdv : Value} {A : Around} {outer : List Env} {s : Shared} {H : Hp} {E : XK} (hr : Room 7 (A.deeper (envOfC "look_at_plain" (defScope s_look_at_plain) s.heap.objs.size f cdv))) :
    PSs (cxOf CX0 P w K mg base N_look_at_plain "look_at_plain" (defScope s_look_at_plain) f cdv A outer s H E).nox (defBody s_look_at_plain) (t_look_at_plain K) :=
  pss_cons (ps_if (pt_not (pt_val (pe_cal C_is_plain (hr.mono (by decide)) (by rfl) (pa_cons (pv 0) (pa_nil))))) (pss_cons (ps_never) (pss_nil)) (pss_nil)) (pss_nil)
/-! nights_ahead -/
abbrev N_nights_ahead : List Str := ["days", "life", "baked", "given", "want", "loaf", "keep", "fine"]
abbrev p_nights_ahead : List Str := ["days", "life", "baked", "given"]
theorem sc_nights_ahead : FnScope N_nights_ahead p_nights_ahead (defScope s_nights_ahead) := ⟨rfl, rfl, rfl, by decide +kernel, rfl, by decide +kernel, by decide +kernel⟩
def t_nights_ahead (K : PySem.W.Frag) : TS := tSeq (tIfS (tAnd (tTest (tOp rNotN (tVar 1) (tC .non))) (tTest (tOp rGtI (tOp rSubI (tVar 3) (tVar 2)) (tVar 1)))) (tSeq (tRet (tC .non)) (tNext)) (tNext)) (tSeq (tRet (tCB (rSum K) (tCons (tLc (iList K (tSl (rSlL K) (tVar 0) (tPart (tVar 2)) (tPart (tVar 3)))) (gTup K 4 (gCons (gName 4) (gCons (gName 5) (gCons (gName 6) (gCons (gName 7) (gNil)))))) (tYes) (tVar 6) [4, 5, 6, 7]) (tNil)))) (tNext))
theorem der_nights_ahead {P : Program} {w : World} {K : PySem.W.Frag} {mg : Str → Option Value} {base : Heap} (W : Wd K mg)  {f : Addr} {cdv : Value} {A : Around} {outer : List Env} {s : Shared} {H : Hp} {E : XK} (hr : Room 0 (A.deeper (envOfC "nights_ahead" (defScope s_nights_ahead) s.heap.objs.size f cdv))) :
    PSs (cxOf CX0 P w K mg base N_nights_ahead "nights_ahead" (defScope s_nights_ahead) f cdv A outer s H E).nox (defBody s_nights_ahead) (t_nights_ahead K) :=
  pss_cons (ps_if (PW.pt (pw_and (pt_cmpR op_notN (pv 1) (pe_non) (nomark _)) (pw_and1 (pt_cmpR op_gt (pe_op op_sub (pv 3) (pv 2)) (pv 1) (nomark _))))) (pss_cons (ps_ret (pe_non)) (pss_nil)) (pss_nil)) (pss_cons (ps_ret (pe_callB (cr_sum (by rfl)) (by rfl) W.b_sum (by decide +kernel) (pa_cons (pe_lc (own := [("want", 4), ("loaf", 5), ("keep", 6), ("fine", 7)]) (by rfl) sc_nights_ahead.nd (pi_list (pe_slice sl_list (pv 0) (po_some (pv 2)) (po_some (pv 3)))) (blkOk_by (own := [("want", 4), ("loaf", 5), ("keep", 6), ("fine", 7)]) (N := N_nights_ahead) (sc := defScope s_nights_ahead) (by decide +kernel)) (fun _ _ _ _ _ => pg_tup (by rfl) (pgs_cons (pg_name (i := 4) sc_nights_ahead.nd rfl (by first | exact Or.inl rfl | exact Or.inr rfl)) (pgs_cons (pg_name (i := 5) sc_nights_ahead.nd rfl (by first | exact Or.inl rfl | exact Or.inr rfl)) (pgs_cons (pg_name (i := 6) sc_nights_ahead.nd rfl (by first | exact Or.inl rfl | exact Or.inr rfl)) (pgs_cons (pg_name (i := 7) sc_nights_ahead.nd rfl (by first | exact Or.inl rfl | exact Or.inr rfl)) (pgs_nil)))))) (fun _ _ _ _ _ => pts_nil) (fun _ _ _ _ _ => pv 6)) (pa_nil)))) (pss_nil))
/-! nights_behind -/
abbrev N_nights_behind : List Str := ["days", "baked", "given", "fines", "want", "loaf", "keep", "fine"]
abbrev p_nights_behind : List Str := ["days", "baked", "given"]
theorem sc_nights_behind : FnScope N_nights_behind p_nights_behind (defScope s_nights_behind) := ⟨rfl, rfl, rfl, by decide +kernel, rfl, by decide +kernel, by decide +kernel⟩
def t_nights_behind (K : PySem.W.Frag) : TS := tSeq (tAsg (tLc (iList K (tSl (rSlL K) (tVar 0) (tPart (tVar 2)) (tPart (tVar 1)))) (gTup K 4 (gCons (gName 4) (gCons (gName 5) (gCons (gName 6) (gCons (gName 7) (gNil)))))) (tYes) (tVar 7) [4, 5, 6, 7]) (gName 3)) (tSeq (tIfS (tTest (tOp (rIn K false) (tC .non) (tVar 3))) (tSeq (tRet (tC .non)) (tNext)) (tNext)) (tSeq (tRet (tCB (rSum K) (tCons (tVar 3) (tNil)))) (tNext)))
theorem der_nights_behind {P : Program} {w : World} {K : PySem.W.Frag} {mg : Str → Option Value} {base : Heap} (W : Wd K mg)  {f : Addr} {cdv : Value} {A : Around} {outer : List Env} {s : Shared} {H : Hp} {E : XK} (hr : Room 0 (A.deeper (envOfC "nights_behind" (defScope s_nights_behind) s.heap.objs.size f cdv))) :
    PSs (cxOf CX0 P w K mg base N_nights_behind "nights_behind" (defScope s_nights_behind) f cdv A outer s H E).nox (defBody s_nights_behind) (t_nights_behind K) :=
  pss_cons (ps_setLc (i := 3) (own := [("want", 4), ("loaf", 5), ("keep", 6), ("fine", 7)]) (by rfl) sc_nights_behind.nd rfl rfl (sw_true rfl rfl rfl (by decide +kernel)) (pi_list (pe_slice sl_list (pv 0) (po_some (pv 2)) (po_some (pv 1)))) (blkOk_by (own := [("want", 4), ("loaf", 5), ("keep", 6), ("fine", 7)]) (N := N_nights_behind) (sc := defScope s_nights_behind) (by decide +kernel)) (fun _ _ _ _ _ => pg_tup (by rfl) (pgs_cons (pg_name (i := 4) sc_nights_behind.nd rfl (by first | exact Or.inl rfl | exact Or.inr rfl)) (pgs_cons (pg_name (i := 5) sc_nights_behind.nd rfl (by first | exact Or.inl rfl | exact Or.inr rfl)) (pgs_cons (pg_name (i := 6) sc_nights_behind.nd rfl (by first | exact Or.inl rfl | exact Or.inr rfl)) (pgs_cons (pg_name (i := 7) sc_nights_behind.nd rfl (by first | exact Or.inl rfl | exact Or.inr rfl)) (pgs_nil)))))) (fun _ _ _ _ _ => pts_nil) (fun _ _ _ _ _ => pv 7)) (pss_cons (ps_if (pt_cmpR op_in_seq (pe_non) (pv 3) (by rfl)) (pss_cons (ps_ret (pe_non)) (pss_nil)) (pss_nil)) (pss_cons (ps_ret (pe_callB (cr_sum (by rfl)) (by rfl) W.b_sum (by decide +kernel) (pa_cons (pv 3) (pa_nil)))) (pss_nil)))
/-! price_of -/
abbrev N_price_of : List Str := ["good", "baked", "given", "days", "life", "nights"]
abbrev p_price_of : List Str := ["good", "baked", "given"]
theorem sc_price_of : FnScope N_price_of p_price_of (defScope s_price_of) := ⟨rfl, rfl, rfl, by decide +kernel, rfl, by decide +kernel, by decide +kernel⟩
def t_price_of (K : PySem.W.Frag) : TS := tSeq (tAsg (tVar 0) (gTup K 2 (gCons (gName 3) (gCons (gName 4) (gNil))))) (tSeq (tIfS (tTest (tOp rLeI (tVar 1) (tVar 2))) (tSeq (tAsg (tCall (sp_nights_ahead K) [] E0 (tCons (tVar 3) (tCons (tVar 4) (tCons (tVar 1) (tCons (tVar 2) (tNil)))))) (gName 5)) (tNext)) (tSeq (tAsg (tCall (sp_nights_behind K) [] E0 (tCons (tVar 3) (tCons (tVar 1) (tCons (tVar 2) (tNil))))) (gName 5)) (tNext))) (tSeq (tIfS (tTest (tOp rIsN (tVar 5) (tC .non))) (tSeq (tRet (tC .non)) (tNext)) (tNext)) (tSeq (tRet (tOp rAddI (tOp (rIx K) (tOp (rIx K) (tVar 3) (tVar 1)) (tC (.int 1))) (tVar 5))) (tNext))))
theorem der_price_of {P : Program} {w : World} {K : PySem.W.Frag} {mg : Str → Option Value} {base : Heap} (W : Wd K mg) (C_nights_ahead : Cal P w K mg base CX0 1 "nights_ahead" p_nights_ahead (sp_nights_ahead K)) (C_nights_behind : Cal P w K mg base CX0 1 "nights_behind" p_nights_behind (sp_nights_behind K)) {f : Addr} {cdv : Value} {A : Around} {outer : List Env} {s : Shared} {H : Hp} {E : XK} (hr : Room 1 (A.deeper (envOfC "price_of" (defScope s_price_of) s.heap.objs.size f cdv))) :
    PSs (cxOf CX0 P w K mg base N_price_of "price_of" (defScope s_price_of) f cdv A outer s H E).nox (defBody s_price_of) (t_price_of K) :=
  pss_cons (ps_asg (pv 0) (pg_tup (by rfl) (pgs_cons (pg_name (i := 3) sc_price_of.nd rfl (by first | exact Or.inl rfl | exact Or.inr rfl)) (pgs_cons (pg_name (i := 4) sc_price_of.nd rfl (by first | exact Or.inl rfl | exact Or.inr rfl)) (pgs_nil))))) (pss_cons (ps_if (pt_cmpR op_le (pv 1) (pv 2) (nomark _)) (pss_cons (ps_set (i := 5) sc_price_of.nd rfl (by first | exact Or.inl rfl | exact Or.inr rfl) (pe_cal C_nights_ahead (hr.mono (by decide)) (by rfl) (pa_cons (pv 3) (pa_cons (pv 4) (pa_cons (pv 1) (pa_cons (pv 2) (pa_nil))))))) (pss_nil)) (pss_cons (ps_set (i := 5) sc_price_of.nd rfl (by first | exact Or.inl rfl | exact Or.inr rfl) (pe_cal C_nights_behind (hr.mono (by decide)) (by rfl) (pa_cons (pv 3) (pa_cons (pv 1) (pa_cons (pv 2) (pa_nil)))))) (pss_nil))) (pss_cons (ps_if (pt_cmpR op_isN (pv 5) (pe_non) (nomark _)) (pss_cons (ps_ret (pe_non)) (pss_nil)) (pss_nil)) (pss_cons (ps_ret (pe_op op_add (pe_ix ix_seq (pe_ix ix_seq (pv 3) (pv 1) (fun _ _ => rfl)) (pe_int) (fun _ _ => rfl)) (pv 5))) (pss_nil))))
/-! prices_from -/
abbrev N_prices_from : List Str := ["good", "baked", "given"]
abbrev p_prices_from : List Str := ["good", "baked"]
theorem sc_prices_from : FnScope N_prices_from p_prices_from (defScope s_prices_from) := ⟨rfl, rfl, rfl, by decide +kernel, rfl, by decide +kernel, by decide +kernel⟩
def t_prices_from (K : PySem.W.Frag) : TS := tSeq (tRet (tLc (iRng1 (tCons (tCB (rLenS K) (tCons (tOp (rIx K) (tVar 0) (tC (.int 0))) (tNil))) (tNil))) (gName 2) (tYes) (tCall (sp_price_of K) [] E0 (tCons (tVar 0) (tCons (tVar 1) (tCons (tVar 2) (tNil))))) [2])) (tNext)
theorem der_prices_from {P : Program} {w : World} {K : PySem.W.Frag} {mg : Str → Option Value} {base : Heap} (W : Wd K mg) (C_price_of : Cal P w K mg base CX0 2 "price_of" p_price_of (sp_price_of K)) {f : Addr} {cdv : Value} {A : Around} {outer : List Env} {s : Shared} {H : Hp} {E : XK} (hr : Room 2 (A.deeper (envOfC "prices_from" (defScope s_prices_from) s.heap.objs.size f cdv))) :
    PSs (cxOf CX0 P w K mg base N_prices_from "prices_from" (defScope s_prices_from) f cdv A outer s H E).nox (defBody s_prices_from) (t_prices_from K) :=
  pss_cons (ps_ret (pe_lc (own := [("given", 2)]) (by rfl) sc_prices_from.nd (pi_range1 (by rfl) W.b_range (pa_cons (pe_callB call_len_seq (by rfl) W.b_len PySem.boot_len (pa_cons (pe_ix ix_seq (pv 0) (pe_int) (fun _ _ => rfl)) (pa_nil))) (pa_nil))) (blkOk_by (own := [("given", 2)]) (N := N_prices_from) (sc := defScope s_prices_from) (by decide +kernel)) (fun _ _ _ _ _ => pg_name (i := 2) sc_prices_from.nd rfl (by first | exact Or.inl rfl | exact Or.inr rfl)) (fun _ _ _ _ _ => pts_nil) (fun _ _ _ _ _ => pe_cal C_price_of (hr.mono (by decide)) (by rfl) (pa_cons (pv 0) (pa_cons (pv 1) (pa_cons (pv 2) (pa_nil))))))) (pss_nil)
/-! wants_from -/
abbrev N_wants_from : List Str := ["good", "baked", "found", "row", "one"]
abbrev p_wants_from : List Str := ["good", "baked"]
theorem sc_wants_from : FnScope N_wants_from p_wants_from (defScope s_wants_from) := ⟨rfl, rfl, rfl, by decide +kernel, rfl, by decide +kernel, by decide +kernel⟩
def t_wants_from (K : PySem.W.Frag) : TS := tSeq (tAsg (tLst (tNil)) (gName 2)) (tSeq (tFor (iZip K (tCons (tOp (rIx K) (tVar 0) (tC (.int 0))) (tCons (tCall (sp_prices_from K) [] E0 (tCons (tVar 0) (tCons (tVar 1) (tNil)))) (tNil)))) (gTup K 2 (gCons (gName 3) (gCons (gName 4) (gNil)))) (tSeq (tIfS (tTest (tOp rEq (tOp (rIx K) (tVar 3) (tC (.int 0))) (tC (.int 0)))) (tSeq (tDrop (tBM K "list" rAppend (tVar 2) (tCons (tC (.int 0)) (tNil)))) (tNext)) (tSeq (tIfS (tTest (tOp rIsN (tVar 4) (tC .non))) (tSeq (tDrop (tBM K "list" rAppend (tVar 2) (tCons (tC .non) (tNil)))) (tNext)) (tSeq (tDrop (tBM K "list" rAppend (tVar 2) (tCons (tOp rMulI (tOp (rIx K) (tVar 3) (tC (.int 0))) (tVar 4)) (tNil)))) (tNext))) (tNext))) (tNext))) (tSeq (tRet (tVar 2)) (tNext)))
theorem der_wants_from {P : Program} {w : World} {K : PySem.W.Frag} {mg : Str → Option Value} {base : Heap} (W : Wd K mg) (C_prices_from : Cal P w K mg base CX0 3 "prices_from" p_prices_from (sp_prices_from K)) {f : Addr} {cdv : Value} {A : Around} {outer : List Env} {s : Shared} {H : Hp} {E : XK} (hr : Room 3 (A.deeper (envOfC "wants_from" (defScope s_wants_from) s.heap.objs.size f cdv))) :
    PSs (cxOf CX0 P w K mg base N_wants_from "wants_from" (defScope s_wants_from) f cdv A outer s H E).nox (defBody s_wants_from) (t_wants_from K) :=
  pss_cons (ps_set (i := 2) sc_wants_from.nd rfl (by first | exact Or.inl rfl | exact Or.inr rfl) (pe_lst (pa_nil))) (pss_cons (ps_for PassesOwn.never (by rfl) (pi_zip (by rfl) W.b_zip (pa_cons (pe_ix ix_seq (pv 0) (pe_int) (fun _ _ => rfl)) (pa_cons (pe_cal C_prices_from (hr.mono (by decide)) (by rfl) (pa_cons (pv 0) (pa_cons (pv 1) (pa_nil)))) (pa_nil)))) (pg_tup (by rfl) (pgs_cons (pg_name (i := 3) sc_wants_from.nd rfl (by first | exact Or.inl rfl | exact Or.inr rfl)) (pgs_cons (pg_name (i := 4) sc_wants_from.nd rfl (by first | exact Or.inl rfl | exact Or.inr rfl)) (pgs_nil)))) (pss_cons (ps_if (pt_cmpR op_eq (pe_ix ix_seq (pv 3) (pe_int) (fun _ _ => rfl)) (pe_int) (nomark _)) (pss_cons (ps_expr (pe_bm PySem.F.plainAttrs_list PySem.F.slot_list_append PySem.F.type_list_append mt_append (pv 2) (pa_cons (pe_int) (pa_nil)))) (pss_nil)) (pss_cons (ps_if (pt_cmpR op_isN (pv 4) (pe_non) (nomark _)) (pss_cons (ps_expr (pe_bm PySem.F.plainAttrs_list PySem.F.slot_list_append PySem.F.type_list_append mt_append (pv 2) (pa_cons (pe_non) (pa_nil)))) (pss_nil)) (pss_cons (ps_expr (pe_bm PySem.F.plainAttrs_list PySem.F.slot_list_append PySem.F.type_list_append mt_append (pv 2) (pa_cons (pe_op op_mul (pe_ix ix_seq (pv 3) (pe_int) (fun _ _ => rfl)) (pv 4)) (pa_nil)))) (pss_nil))) (pss_nil))) (pss_nil))) (pss_cons (ps_ret (pv 2)) (pss_nil)))
/-! is_dough_day -/
abbrev N_is_dough_day : List Str := ["thing", "part"]
abbrev p_is_dough_day : List Str := ["thing"]
theorem sc_is_dough_day : FnScope N_is_dough_day p_is_dough_day (defScope s_is_dough_day) := ⟨rfl, rfl, rfl, by decide +kernel, rfl, by decide +kernel, by decide +kernel⟩
def t_is_dough_day (K : PySem.W.Frag) : TS := tSeq (tRet (tAndV (tCB (rIsi K) (tCons (tVar 0) (tCons (tC (.ty "tuple")) (tNil)))) (tAndV (tOp rEq (tCB (rLenS K) (tCons (tVar 0) (tNil))) (tC (.int 3))) (tCB (rAll K) (tCons (tLc (iTup K (tVar 0)) (gName 1) (tYes) (tCall (sp_is_number K) [] E0 (tCons (tVar 1) (tNil))) [1]) (tNil)))))) (tNext)
theorem der_is_dough_day {P : Program} {w : World} {K : PySem.W.Frag} {mg : Str → Option Value} {base : Heap} (W : Wd K mg) (C_is_number : Cal P w K mg base CX0 3 "is_number" p_is_number (sp_is_number K)) {f : Addr} {cdv : Value} {A : Around} {outer : List Env} {s : Shared} {H : Hp} {E : XK} (hr : Room 3 (A.deeper (envOfC "is_dough_day" (defScope s_is_dough_day) s.heap.objs.size f cdv))) :
    PSs (cxOf CX0 P w K mg base N_is_dough_day "is_dough_day" (defScope s_is_dough_day) f cdv A outer s H E).nox (defBody s_is_dough_day) (t_is_dough_day K) :=
  pss_cons (ps_ret (pe_and (pe_callB call_isi (by rfl) W.b_isinstance (by decide +kernel) (pa_cons (pv 0) (pa_cons (pe_bltn (by rfl) W.b_tuple (by decide +kernel) rfl) (pa_nil)))) (pe_and (pe_cmpR op_eq (pe_callB call_len_seq (by rfl) W.b_len PySem.boot_len (pa_cons (pv 0) (pa_nil))) (pe_int) (nomark _)) (pe_one (pe_callB (cr_all (by rfl)) (by rfl) W.b_all (by decide +kernel) (pa_cons (pe_lc (own := [("part", 1)]) (by rfl) sc_is_dough_day.nd (pi_tup (pv 0)) (blkOk_by (own := [("part", 1)]) (N := N_is_dough_day) (sc := defScope s_is_dough_day) (by decide +kernel)) (fun _ _ _ _ _ => pg_name (i := 1) sc_is_dough_day.nd rfl (by first | exact Or.inl rfl | exact Or.inr rfl)) (fun _ _ _ _ _ => pts_nil) (fun _ _ _ _ _ => pe_cal C_is_number (hr.mono (by decide)) (by rfl) (pa_cons (pv 1) (pa_nil)))) (pa_nil))))))) (pss_nil)
/-! dough_price -/
abbrev N_dough_price : List Str := ["doughs", "mixed", "baked", "mix", "dough", "hold"]
abbrev p_dough_price : List Str := ["doughs", "mixed", "baked"]
theorem sc_dough_price : FnScope N_dough_price p_dough_price (defScope s_dough_price) := ⟨rfl, rfl, rfl, by decide +kernel, rfl, by decide +kernel, by decide +kernel⟩
def t_dough_price (K : PySem.W.Frag) : TS := tSeq (tRet (tOp rAddI (tOp (rIx K) (tOp (rIx K) (tVar 0) (tVar 1)) (tC (.int 1))) (tCB (rSum K) (tCons (tLc (iList K (tSl (rSlL K) (tVar 0) (tPart (tVar 1)) (tPart (tVar 2)))) (gTup K 3 (gCons (gName 3) (gCons (gName 4) (gCons (gName 5) (gNil))))) (tYes) (tVar 5) [3, 4, 5]) (tNil))))) (tNext)
theorem der_dough_price {P : Program} {w : World} {K : PySem.W.Frag} {mg : Str → Option Value} {base : Heap} (W : Wd K mg)  {f : Addr} {cdv : Value} {A : Around} {outer : List Env} {s : Shared} {H : Hp} {E : XK} (hr : Room 0 (A.deeper (envOfC "dough_price" (defScope s_dough_price) s.heap.objs.size f cdv))) :
    PSs (cxOf CX0 P w K mg base N_dough_price "dough_price" (defScope s_dough_price) f cdv A outer s H E).nox (defBody s_dough_price) (t_dough_price K) :=
  pss_cons (ps_ret (pe_op op_add (pe_ix ix_seq (pe_ix ix_seq (pv 0) (pv 1) (fun _ _ => rfl)) (pe_int) (fun _ _ => rfl)) (pe_callB (cr_sum (by rfl)) (by rfl) W.b_sum (by decide +kernel) (pa_cons (pe_lc (own := [("mix", 3), ("dough", 4), ("hold", 5)]) (by rfl) sc_dough_price.nd (pi_list (pe_slice sl_list (pv 0) (po_some (pv 1)) (po_some (pv 2)))) (blkOk_by (own := [("mix", 3), ("dough", 4), ("hold", 5)]) (N := N_dough_price) (sc := defScope s_dough_price) (by decide +kernel)) (fun _ _ _ _ _ => pg_tup (by rfl) (pgs_cons (pg_name (i := 3) sc_dough_price.nd rfl (by first | exact Or.inl rfl | exact Or.inr rfl)) (pgs_cons (pg_name (i := 4) sc_dough_price.nd rfl (by first | exact Or.inl rfl | exact Or.inr rfl)) (pgs_cons (pg_name (i := 5) sc_dough_price.nd rfl (by first | exact Or.inl rfl | exact Or.inr rfl)) (pgs_nil))))) (fun _ _ _ _ _ => pts_nil) (fun _ _ _ _ _ => pv 5)) (pa_nil))))) (pss_nil)
/-! batch_costs -/
abbrev N_batch_costs : List Str := ["bakery", "doughs", "mixed", "baked", "found", "each", "row", "cost"]
abbrev p_batch_costs : List Str := ["bakery", "doughs", "mixed", "baked"]
theorem sc_batch_costs : FnScope N_batch_costs p_batch_costs (defScope s_batch_costs) := ⟨rfl, rfl, rfl, by decide +kernel, rfl, by decide +kernel, by decide +kernel⟩
def t_batch_costs (K : PySem.W.Frag) : TS := tSeq (tAsg (tLst (tNil)) (gName 4)) (tSeq (tAsg (tCall (sp_dough_price K) [] E0 (tCons (tVar 1) (tCons (tVar 2) (tCons (tVar 3) (tNil))))) (gName 5)) (tSeq (tFor (iZip K (tCons (tOp (rIx K) (tOp (rIx K) (tOp (rIx K) (tVar 0) (tC (.int 2))) (tC (.int 0))) (tC (.int 0))) (tCons (tCall (sp_wants_from K) [] E0 (tCons (tOp (rIx K) (tOp (rIx K) (tVar 0) (tC (.int 2))) (tC (.int 0))) (tCons (tVar 3) (tNil)))) (tNil)))) (gTup K 2 (gCons (gName 6) (gCons (gName 7) (gNil)))) (tSeq (tIfS (tTest (tOp rNotN (tVar 7) (tC .non))) (tSeq (tAug 7 (tOp rMulI (tOp (rIx K) (tVar 6) (tC (.int 0))) (tVar 5)) (ipI fun i j => i + j)) (tNext)) (tNext)) (tSeq (tDrop (tBM K "list" rAppend (tVar 4) (tCons (tVar 7) (tNil)))) (tNext)))) (tSeq (tRet (tVar 4)) (tNext))))
theorem der_batch_costs {P : Program} {w : World} {K : PySem.W.Frag} {mg : Str → Option Value} {base : Heap} (W : Wd K mg) (C_dough_price : Cal P w K mg base CX0 1 "dough_price" p_dough_price (sp_dough_price K)) (C_wants_from : Cal P w K mg base CX0 4 "wants_from" p_wants_from (sp_wants_from K)) {f : Addr} {cdv : Value} {A : Around} {outer : List Env} {s : Shared} {H : Hp} {E : XK} (hr : Room 4 (A.deeper (envOfC "batch_costs" (defScope s_batch_costs) s.heap.objs.size f cdv))) :
    PSs (cxOf CX0 P w K mg base N_batch_costs "batch_costs" (defScope s_batch_costs) f cdv A outer s H E).nox (defBody s_batch_costs) (t_batch_costs K) :=
  pss_cons (ps_set (i := 4) sc_batch_costs.nd rfl (by first | exact Or.inl rfl | exact Or.inr rfl) (pe_lst (pa_nil))) (pss_cons (ps_set (i := 5) sc_batch_costs.nd rfl (by first | exact Or.inl rfl | exact Or.inr rfl) (pe_cal C_dough_price (hr.mono (by decide)) (by rfl) (pa_cons (pv 1) (pa_cons (pv 2) (pa_cons (pv 3) (pa_nil)))))) (pss_cons (ps_for PassesOwn.never (by rfl) (pi_zip (by rfl) W.b_zip (pa_cons (pe_ix ix_seq (pe_ix ix_seq (pe_ix ix_seq (pv 0) (pe_int) (fun _ _ => rfl)) (pe_int) (fun _ _ => rfl)) (pe_int) (fun _ _ => rfl)) (pa_cons (pe_cal C_wants_from (hr.mono (by decide)) (by rfl) (pa_cons (pe_ix ix_seq (pe_ix ix_seq (pv 0) (pe_int) (fun _ _ => rfl)) (pe_int) (fun _ _ => rfl)) (pa_cons (pv 3) (pa_nil)))) (pa_nil)))) (pg_tup (by rfl) (pgs_cons (pg_name (i := 6) sc_batch_costs.nd rfl (by first | exact Or.inl rfl | exact Or.inr rfl)) (pgs_cons (pg_name (i := 7) sc_batch_costs.nd rfl (by first | exact Or.inl rfl | exact Or.inr rfl)) (pgs_nil)))) (pss_cons (ps_if (pt_cmpR op_notN (pv 7) (pe_non) (nomark _)) (pss_cons (ps_aug (i := 7) sc_batch_costs.nd rfl (by first | exact Or.inl rfl | exact Or.inr rfl) (pe_op op_mul (pe_ix ix_seq (pv 6) (pe_int) (fun _ _ => rfl)) (pv 5)) ip_add) (pss_nil)) (pss_nil)) (pss_cons (ps_expr (pe_bm PySem.F.plainAttrs_list PySem.F.slot_list_append PySem.F.type_list_append mt_append (pv 4) (pa_cons (pv 7) (pa_nil)))) (pss_nil)))) (pss_cons (ps_ret (pv 4)) (pss_nil))))
end K66

/-! ## R1 -/
set_option maxHeartbeats 4000000
namespace K66
open PySem PySem.Spec PyProof.Rows L2
section
variable {K : PySem.W.Frag} {σ : L2.St} {H H' : Hp} {ta tb tc te tx : TE} {v : V} {vs : List V} {Q : VK} {E : XK}
theorem ev_slT {tl th : TO} {a : Addr} {xs : List V} {lo hi : Option Int} (hs : H a = some (.tup xs)) (hw : ¬ (HT.sIx xs.length 0 lo = 0 ∧ HT.sIx xs.length xs.length hi = xs.length)) (h : Ev te σ H (Is (.ref a))) (h1 : EvO tl σ H lo) (h2 : EvO th σ H hi) : Ev (tSl (rSlT K) te tl th) σ H (NewT (cutV xs lo hi)) := fun H1 e _ q =>
  h H1 e _ fun v H2 e2 hv => h1 H2 (e.trans e2) _ fun H3 e3 => h2 H3 ((e.trans e2).trans e3) _ fun H4 e4 => by
    have h' : v = .ref a := hv
    subst h'
    exact ⟨a, xs, rfl, sqT ((((e.trans e2).trans e3).trans e4) a _ hs), hw, fun p hp => q _ _ (((e2.trans e3).trans e4).trans (Ex.new hp)) ⟨p, rfl, ((e2.trans e3).trans e4).back hp, upd_same⟩⟩
abbrev DD (Q : VK) : Ends := { nx := fun _ H' => Q .non H', rt := Q }
/-- a test of which only one way is gone -/
theorem x_pass {c : TT} {t1 u : TS} {D : Ends} {b : Bool} (h : EvT c σ H b) (hb : b = false) (k : Sx u D σ H) : Sx (tSeq (tIfS c t1 tNext) u) D σ H := x_if h (fun z => by rw [hb] at z; cases z) fun _ => x_next k
theorem x_pass' {c : TT} {t1 u : TS} {D : Ends} (h : EvT c σ H false) (k : Sx u D σ H) : Sx (tSeq (tIfS c t1 tNext) u) D σ H := x_pass h rfl k
theorem x_fall {u : TS} {D : Ends} (k : Sx u D σ H) : Sx tNext { D with nx := u D } σ H := k
theorem isi_int {i : Int} (ha : Ev ta σ H (Is (.int i))) : Ev (tCB (rIsi K) (tCons ta (tCons (tC (.ty "int")) tNil))) σ H (Is (.bl true)) := ev_isi ha (.ty "int") (fun _ _ => .base (.int i)) (kit_ty (by decide +kernel))
theorem isi_intb {i : Int} (ha : Ev ta σ H (Is (.int i))) : Ev (tCB (rIsi K) (tCons ta (tCons (tC (.ty "bool")) tNil))) σ H (Is (.bl false)) := ev_isi ha (.ty "bool") (fun _ _ => .base (.int i)) (kit_ty (by decide +kernel))
theorem isi_tup {a : Addr} {xs : List V} (h : H a = some (.tup xs)) (ha : Ev ta σ H (Is (.ref a))) : Ev (tCB (rIsi K) (tCons ta (tCons (tC (.ty "tuple")) tNil))) σ H (Is (.bl true)) := ev_isi ha (.ty "tuple") (fun _ e => .base (.tup (e _ _ h))) (kit_ty (by decide +kernel))
theorem isi_lst {a : Addr} {xs : List V} (h : H a = some (.lst xs)) (ha : Ev ta σ H (Is (.ref a))) : Ev (tCB (rIsi K) (tCons ta (tCons (tC (.ty "list")) tNil))) σ H (Is (.bl true)) := ev_isi ha (.ty "list") (fun _ e => .base (.lst (e _ _ h))) (kit_ty (by decide +kernel))
theorem isi_nonlst (ha : Ev ta σ H (Is .non)) : Ev (tCB (rIsi K) (tCons ta (tCons (tC (.ty "list")) tNil))) σ H (Is (.bl false)) := ev_isi ha (.ty "list") (fun _ _ => .base .non) (kit_ty (by decide +kernel))
theorem ev_chI {i j k : Int} (ha : Ev ta σ H (Is (.int i))) (hb : Ev tb σ H (Is (.int j))) (hc : Ev tc σ H (Is (.int k))) : Ev (tChain rLeI rLeI ta tb tc) σ H (Is (.bl (decide (i ≤ j) && decide (j ≤ k)))) :=
  ev_chain ha hb hc (fun H1 _ Q q => ⟨_, _, rfl, rfl, q⟩) (fun H1 _ Q q => ⟨_, _, rfl, rfl, q⟩)
theorem eqI {i j : Int} : scal (.int i) (.int j) = true := rfl
/-! ### numbers -/
theorem rd_is_whole (h : sp_is_whole K vs H Q E) : t_is_whole K (DD Q) (start N_is_whole vs) H := by
  obtain ⟨H0, P, e0, ⟨i, rfl, rfl⟩, k⟩ := h
  exact Sx.at (x_ret (ev_andV (isi_int (ev_var rfl)) fun _ => ev_notV (isi_intb (ev_var rfl))) fun v H1 e p => k v H1 e p)
theorem rd_is_within (h : sp_is_within K vs H Q E) : t_is_within K (DD Q) (start N_is_within vs) H := by
  obtain ⟨H0, P, e0, ⟨i, lo, hi, rfl, rfl⟩, k⟩ := h
  exact Sx.at (x_ret (ev_andV (ev_call (ex_cons (ev_var rfl) ex_nil) ⟨i, rfl, rfl⟩) fun _ => ev_chI (ev_var rfl) (ev_var rfl) (ev_var rfl)) fun v H1 e p => k v H1 e p)
theorem num_b {i : Int} (h : num i) : (decide ((0 : Int) ≤ i) && decide (i ≤ 1000000000)) = true := by
  rw [decide_eq_true h.1, decide_eq_true (show i ≤ 1000000000 from h.2)]; rfl
theorem rd_is_number (h : sp_is_number K vs H Q E) : t_is_number K (DD Q) (start N_is_number vs) H := by
  obtain ⟨H0, P, e0, ⟨i, rfl, hn, rfl⟩, k⟩ := h
  exact Sx.at (x_ret (Ev.eq (ev_call (ex_cons (ev_var rfl) (ex_cons ev_c (ex_cons ev_c ex_nil))) ⟨i, 0, 1000000000, rfl, rfl⟩) (by rw [num_b hn])) fun v H1 e p => k v H1 e p)
theorem ev_num {i : Int} (hn : num i) (ha : Ev ta σ H (Is (.int i))) : Ev (tCall (sp_is_number K) [] E0 (tCons ta tNil)) σ H (Is (.bl true)) := ev_call (ex_cons ha ex_nil) ⟨i, rfl, hn, rfl⟩
/-- all([f(x) for x in a known list]): each True -/
theorem ev_allT {wi : TI} {g : TG} {ws : List Nat} {n : Nat} {Yt : Nat → V → Hp → Prop} (hi : EvI wi σ H n Yt) (hn : n ≤ 40000)
    (hs : ∀ i x H1, Ex H H1 → i < n → Yt i x H1 → ∃ σ2, EvG g x (wipe σ ws) H1 σ2 ∧ wipe σ2 ws = wipe σ ws ∧ Ev te σ2 H1 (Is (.bl true))) : Ev (tCB (rAll K) (tCons (tLc wi g tYes te ws) tNil)) σ H (Is (.bl true)) := by
  have e1 : (List.replicate n (V.bl true)).length = n := List.length_replicate
  have h := ev_all (K := K) (bs := List.replicate n true) (by
    rw [List.map_replicate]
    exact ev_lcX (ys := List.replicate n (V.bl true)) (by rw [e1]; exact hi) (by rw [e1]; exact hn) fun i x H1 e hi' hx => by
      rw [e1] at hi'
      obtain ⟨σ2, h1, h2, h3⟩ := hs i x H1 e hi' hx
      exact ⟨σ2, h1, h2, fun y hy => by
        rw [List.getElem?_replicate, if_pos hi'] at hy
        cases hy
        exact h3⟩)
  exact Ev.eq h (by rw [List.all_replicate]; cases n <;> rfl)
theorem x_retV {te : TE} {u : TS} {D : Ends} (v : V) (h : Ev te σ H (Is v)) (k : ∀ H1, Ex H H1 → D.rt v H1) : Sx (tSeq (tRet te) u) D σ H := x_ret h fun w H1 e p => by
  have z : w = v := p
  rw [z]; exact k H1 e
/-! ### bakeries -/
theorem rd_is_day (h : sp_is_day K vs H Q E) : t_is_day K (DD Q) (start N_is_day vs) H := by
  obtain ⟨H0, P, e0, ⟨v, r, rfl, hr, hok, rfl⟩, k⟩ := h
  obtain ⟨t, rfl, ht⟩ := hr.up e0
  refine Sx.at (x_pass (et_or (et_not (et_B (isi_tup ht (ev_var rfl)))) fun _ => et_test (ev_ne (ev_lenT ht (ev_var rfl)) ev_c eqI)) rfl ?_)
  refine x_retV (.bl true) (Ev.eq (ev_andV (b := true) (ev_allT (ei_tupN (xs := [.int r.want, .int r.loaf, .int r.keep]) (ev_slT ht (fun z => absurd z.2 (by show ¬ (3 : Nat) = 4; decide)) (ev_var rfl) eo_none (eo_some ev_c))) (by show (3 : Nat) ≤ 40000; decide) fun i x H1 e hi hx => ⟨_, eg_name, rfl, ?_⟩)
    fun _ => Ev.eq (ev_orV (b := true) (Ev.eq (ev_isN (ev_ixT ht (ev_var rfl) ev_c rfl)) rfl) fun hn => ?_) (by rw [Bool.or_true])) rfl) fun H1 e => k _ H1 e rfl
  · match i, hi with
    | 0, _ => obtain rfl := Option.some.inj hx; exact ev_num hok.1 (ev_var rfl)
    | 1, _ => obtain rfl := Option.some.inj hx; exact ev_num hok.2.1 (ev_var rfl)
    | 2, _ => obtain rfl := Option.some.inj hx; exact ev_num hok.2.2.1 (ev_var rfl)
  · have hf : ∃ f, r.fine = some f := by
      cases e : r.fine with
      | none => rw [e] at hn; exact absurd hn (by decide)
      | some f => exact ⟨f, rfl⟩
    obtain ⟨f, hf⟩ := hf
    exact ev_num (i := f) (hok.2.2.2 f hf) (ev_ixT ht (ev_var rfl) ev_c (by rw [hf]; rfl))
theorem rd_are_lights (h : sp_are_lights K vs H Q E) : t_are_lights K (DD Q) (start N_are_lights vs) H := by
  obtain ⟨H0, P, e0, ⟨p, xs, rfl, hp, h1, h2, hx, rfl⟩, k⟩ := h
  have hp := e0 _ _ hp
  have c1 : Ev (tChain rLeI rLeI (tC (.int 1)) (tCB (rLenS K) (tCons (tVar 0) tNil)) (tC (.int 40))) (start N_are_lights [.ref p]) H (Is (.bl true)) :=
    Ev.eq (ev_chI ev_c (ev_lenL hp (ev_var rfl)) ev_c) (by rw [decide_eq_true (by rw [List.length_map]; omega), decide_eq_true (by rw [List.length_map]; omega)]; rfl)
  refine Sx.at (x_ret (ev_andV (isi_lst hp (ev_var rfl)) fun _ => ev_andV c1 fun _ => ev_allT (ei_list hp (ev_var rfl)) (by rw [List.length_map]; omega) fun i x H1 e hi hx' => ⟨_, eg_name, rfl, ?_⟩) fun v H1 e p => k v H1 e p)
  · rw [List.getElem?_map] at hx'
    cases e : xs[i]? with
    | none => rw [e] at hx'; cases hx'
    | some u =>
      rw [e] at hx'
      obtain rfl := Option.some.inj hx'
      exact ev_num (hx u (List.mem_of_getElem? e)) (ev_var rfl)
theorem rd_is_frame (h : sp_is_frame K vs H Q E) : t_is_frame K (DD Q) (start N_is_frame vs) H := by
  obtain ⟨H0, P, e0, ⟨p, b, rfl, hb, hok, rfl⟩, k⟩ := h
  obtain ⟨pl, pgs, pg, hp, hl, hg, hgd⟩ := hb.up e0
  have c1 : Ev (tCall (sp_are_lights K) [] E0 (tCons (tOp (rIx K) (tVar 0) (tC (.int 0))) tNil)) (start N_is_frame [.ref p]) H (Is (.bl true)) :=
    ev_call (ex_cons (ev_ixT hp (ev_var rfl) ev_c rfl) ex_nil) ⟨pl, b.lights, rfl, hl, hok.pos, hok.most, hok.lightOk, rfl⟩
  refine Sx.at (x_pass (et_or (et_not (et_B (isi_tup hp (ev_var rfl)))) fun _ => et_or (et_test (ev_ne (ev_lenT hp (ev_var rfl)) ev_c eqI)) fun _ => et_not (et_B c1)) rfl ?_)
  refine x_pass (et_and (b := false) (et_test (ev_notN (ev_ixT hp (ev_var rfl) ev_c rfl))) fun z => absurd z (by decide)) rfl ?_
  exact x_retV (.bl true) (Ev.eq (ev_andV (isi_lst hg (ev_ixT hp (ev_var rfl) ev_c rfl)) fun _ => ev_chI ev_c (ev_lenL hg (ev_ixT hp (ev_var rfl) ev_c rfl)) ev_c) rfl) fun H1 e => k _ H1 e rfl
theorem rd_look_at_good (h : sp_look_at_good K vs H Q E) : t_look_at_good K (DD Q) (start N_look_at_good vs) H := by
  obtain ⟨H0, P, e0, ⟨n, pg, b, rfl, hb, hok, rfl⟩, k⟩ := h
  obtain ⟨pr, hp, hr⟩ := hb.up e0
  have hr' := hr
  obtain ⟨ws, h1, h2, h3⟩ := hr
  have g0 : Ev (tOp (rIx K) (tVar 1) (tC (.int 0))) (start N_look_at_good [.int n, .ref pg, .int (b.n : Int)]) H (Is (.ref pr)) := ev_ixT hp (ev_var rfl) ev_c rfl
  have hlen : (ws.length : Int) = (b.n : Int) := by rw [h2, hok.len]
  refine Sx.at (x_pass (et_or (et_not (et_B (isi_tup hp (ev_var rfl)))) fun _ => et_or (et_test (ev_ne (ev_lenT hp (ev_var rfl)) ev_c eqI)) fun _ => et_or (et_not (et_B (isi_lst h1 g0))) fun _ => et_test (ev_ne (ev_lenL h1 g0) (ev_var rfl) eqI)) ?_ ?_)
  · rw [hlen]; simp
  · refine x_pass (b := false) ?_ rfl ?_
    · cases e : b.life with
      | none => exact et_and (a := false) (b := false) (et_test (Ev.eq (ev_notN (ev_ixT hp (ev_var rfl) ev_c rfl)) (by rw [e]; rfl))) fun z => by cases z
      | some L =>
        have hL := hok.lifeOk L e
        exact EvT.eq (et_and (a := true) (b := false) (et_test (Ev.eq (ev_notN (ev_ixT hp (ev_var rfl) ev_c rfl)) (by rw [e]; rfl))) fun _ => EvT.eq (et_not (et_B (ev_call (ex_cons (ev_ixT hp (ev_var rfl) ev_c (by rw [e]; rfl)) (ex_cons ev_c (ex_cons ev_c ex_nil))) ⟨L, 0, 40, rfl, rfl⟩))) (by rw [decide_eq_true hL.1, decide_eq_true hL.2]; rfl)) rfl
    · refine x_forE h1 (ex_cons g0 ex_nil) (fun i σ' H' => Ex H H' ∧ ∃ o1 o2, σ' = [some (.int n), some (.ref pg), some (.int (b.n : Int)), o1, o2]) (fun H1 e => ⟨e, none, none, rfl⟩) (fun i σ' H' w => w.1 _ _ h1) (fun i x σ' H' T H2 hx ⟨e1, o1, o2, es⟩ e2 hT => ?_) (fun σ' H' ⟨e1, _⟩ => fun H1 e2 => k _ H1 (e1.trans e2) rfl)
      subst es
      refine ⟨_, eg_tup2 hT eg_name eg_name, ?_⟩
      have hi : i < b.rows.length := by rw [← h2]; exact (List.getElem?_eq_some_iff.mp hx).1
      have hrow := (h3 i x hx).up (e1.trans e2)
      refine x_pass (EvT.eq (et_not (et_B (ev_call (ex_cons (ev_var rfl) ex_nil) ⟨x, _, rfl, hrow, row_ok hok i, rfl⟩))) rfl) rfl ?_
      exact x_next fun H3 e3 => ⟨(e1.trans e2).trans e3, _, _, rfl⟩
theorem rd_look_at_bakery (h : sp_look_at_bakery K vs H Q E) : t_look_at_bakery K (DD Q) (start N_look_at_bakery vs) H := by
  obtain ⟨H0, P, e0, ⟨p, b, rfl, hb, hok, rfl⟩, k⟩ := h
  have hb := hb.up e0
  obtain ⟨pl, pgs, pg, hp, hl, hg, hgd⟩ := hb
  refine Sx.at (x_pass (et_not (et_B (ev_call (ex_cons (ev_var rfl) ex_nil) ⟨p, b, rfl, ⟨pl, pgs, pg, hp, hl, hg, hgd⟩, hok, rfl⟩))) rfl ?_)
  refine x_forE hg (ex_cons (ev_ixT hp (ev_var rfl) ev_c rfl) ex_nil) (fun i σ' H' => Ex H H' ∧ ∃ o1 o2, σ' = [some (.ref p), o1, o2]) (fun H1 e => ⟨e, none, none, rfl⟩) (fun i σ' H' w => w.1 _ _ hg) (fun i x σ' H' T H2 hx ⟨e1, o1, o2, es⟩ e2 hT => ?_) (fun σ' H' ⟨e1, _⟩ => fun H1 e2 => k _ H1 (e1.trans e2) rfl)
  subst es
  have e := e1.trans e2
  refine ⟨_, eg_tup2 hT eg_name eg_name, ?_⟩
  have hx' : x = .ref pg := by
    have hi := (List.getElem?_eq_some_iff.mp hx).1
    match i, hi with
    | 0, _ => exact (Option.some.inj hx).symm
  subst hx'
  refine x_drop (P := Is .non) (ev_call (vs := [.int (i : Int), .ref pg, .int (b.n : Int)]) (ex_cons (ev_var rfl) (ex_cons (ev_var rfl) (ex_cons (Ev.eq (ev_lenL (e _ _ hl) (ev_ixT (e _ _ hp) (ev_var rfl) ev_c rfl)) (by rw [List.length_map])) ex_nil))) ⟨_, pg, b, rfl, hgd.up e, hok, rfl⟩) fun v H3 e3 _ => ?_
  exact x_next fun H4 e4 => ⟨(e.trans e3).trans e4, _, _, rfl⟩
theorem rd_is_plain_one (h : sp_is_plain_one K vs H Q E) : t_is_plain_one K (DD Q) (start N_is_plain_one vs) H := by
  obtain ⟨H0, P, e0, ⟨p, b, rfl, hb, hok, rfl⟩, k⟩ := h
  obtain ⟨pl, pgs, pg, hp, hl, hg, hgd⟩ := hb.up e0
  exact Sx.at (x_retV (.bl true) (Ev.eq (ev_andV (ev_isN (ev_ixT hp (ev_var rfl) ev_c rfl)) fun _ => ev_eq (ev_lenL hg (ev_ixT hp (ev_var rfl) ev_c rfl)) ev_c eqI) rfl) fun H1 e => k _ H1 e rfl)
theorem rd_is_plain (h : sp_is_plain K vs H Q E) : t_is_plain K (DD Q) (start N_is_plain vs) H := by
  obtain ⟨H0, P, e0, ⟨p, b, rfl, hb, hok, rfl⟩, k⟩ := h
  have hb := hb.up e0
  refine Sx.at (x_drop (P := Is .non) (ev_call (ex_cons (ev_var rfl) ex_nil) ⟨p, b, rfl, hb, hok, rfl⟩) fun v H1 e1 _ => ?_)
  exact x_retV (.bl true) (ev_call (ex_cons (ev_var rfl) ex_nil) ⟨p, b, rfl, hb.up e1, hok, rfl⟩) fun H2 e => k _ H2 (e1.trans e) rfl
theorem rd_look_at_plain (h : sp_look_at_plain K vs H Q E) : t_look_at_plain K (DD Q) (start N_look_at_plain vs) H := by
  obtain ⟨H0, P, e0, ⟨p, b, rfl, hb, hok, rfl⟩, k⟩ := h
  have hb := hb.up e0
  exact Sx.at (x_pass (et_not (et_B (ev_call (ex_cons (ev_var rfl) ex_nil) ⟨p, b, rfl, hb, hok, rfl⟩))) rfl (x_next fun H1 e => k _ H1 e rfl))
/-! ### loaves -/
theorem cutV_nat {xs : List V} {s d : Nat} (h : s ≤ d) (hd : d ≤ xs.length) : (cutV xs (some (s : Int)) (some (d : Int))).length = d - s ∧ ∀ i, i < d - s → (cutV xs (some (s : Int)) (some (d : Int)))[i]? = xs[s + i]? := by
  have e : cutV xs (some (s : Int)) (some (d : Int)) = (xs.drop s).take (d - s) := by
    unfold cutV
    rw [HT.sIx_nat, HT.sIx_nat, Nat.min_eq_left (show s ≤ xs.length by omega), Nat.min_eq_left hd]
  rw [e]
  refine ⟨by rw [List.length_take, List.length_drop]; omega, fun i hi => ?_⟩
  rw [List.getElem?_take, if_pos hi, List.getElem?_drop]
theorem sum_range {f : Nat → Int} {a : Nat} : ∀ m, ((List.range m).map fun k => f (a + k)).sum = sumR f a m
  | 0 => rfl
  | m + 1 => by
    rw [List.range_succ, List.map_append, List.sum_append, sum_range m]
    show sumR f a m + ([f (a + m)] : List Int).sum = sumR f a m + f (a + m)
    simp
theorem range_get {α : Type} {m i : Nat} {f : Nat → α} {y : α} (h : ((List.range m).map f)[i]? = some y) : i < m ∧ y = f i := by
  rw [List.getElem?_map] at h
  by_cases hi : i < m
  · rw [List.getElem?_range hi] at h
    exact ⟨hi, (Option.some.inj h).symm⟩
  · rw [List.getElem?_eq_none (by rw [List.length_range]; omega)] at h
    cases h
theorem rd_nights_ahead (h : sp_nights_ahead K vs H Q E) : t_nights_ahead K (DD Q) (start N_nights_ahead vs) H := by
  obtain ⟨H0, P, e0, ⟨pr, b, s, d, rfl, hr, hok, hsd, hd, rfl⟩, k⟩ := h
  obtain ⟨ws, h1, h2, h3⟩ := hr.up e0
  have hlen : ws.length = b.n := by rw [h2, hok.len]
  obtain ⟨c1, c2⟩ := cutV_nat (xs := ws) hsd (by omega)
  refine Sx.at (x_if (b := tooLong b.life (d - s)) ?_ (fun hb => ?_) fun hb => ?_)
  · cases e : b.life with
    | none => exact et_and (a := false) (b := false) (et_test (Ev.eq (ev_notN (ev_var rfl)) rfl)) fun z => by cases z
    | some L =>
      exact EvT.eq (et_and (a := true) (et_test (Ev.eq (ev_notN (ev_var rfl)) rfl)) fun _ => et_test (ev_I0 (ev_I0 (ev_var rfl) (ev_var rfl)) (ev_var rfl))) (by
        show (true && decide (L < (d : Int) - (s : Int))) = decide (L < ((d - s : Nat) : Int))
        rw [Bool.true_and]
        congr 1
        have : (d : Int) - (s : Int) = ((d - s : Nat) : Int) := by omega
        rw [this])
  · exact x_retV .non ev_c fun H1 e => k _ H1 e (by show V.non = _; rw [if_pos hb])
  · refine x_fall (x_retV (.int (sumF b.keep s d)) (Ev.eq (ev_sum (ns := (List.range (d - s)).map fun i => b.keep (s + i)) ?_) (by rw [sum_range]; rfl)) fun H1 e => k _ H1 e (by show V.int _ = _; rw [hb]; rfl))
    rw [List.map_map]
    refine ev_lcX (Yt := fun i x _ => (cutV ws (some (s : Int)) (some (d : Int)))[i]? = some x) ?_ (by rw [List.length_map, List.length_range]; have hm : b.n ≤ 40 := hok.most; omega) fun i x H1 e hi hx => ?_
    · rw [List.length_map, List.length_range, ← c1]
      exact ei_listN (ev_slL h1 (ev_var rfl) (eo_some (ev_var rfl)) (eo_some (ev_var rfl)))
    · rw [List.length_map, List.length_range] at hi
      rw [c2 i hi] at hx
      obtain ⟨t, rfl, ht⟩ := (h3 (s + i) x hx).up e
      refine ⟨_, eg_tup4 ht, rfl, fun y hy => ?_⟩
      obtain ⟨_, rfl⟩ := range_get hy
      exact ev_var rfl
theorem inV_none {m d : Nat} {b : Bk} : inV .non ((List.range m).map fun i => vO (b.fine (d + i))) = !finesIn b d m := by
  induction m with
  | zero => rfl
  | succ m ih =>
    unfold inV at *
    rw [List.range_succ, List.map_append, List.any_append, ih]
    show (!finesIn b d m || ([vO (b.fine (d + m))] : List V).any fun y => eqV y .non) = !(finesIn b d m && (b.fine (d + m)).isSome)
    cases b.fine (d + m) with
    | none => cases finesIn b d m <;> rfl
    | some f => cases finesIn b d m <;> rfl
theorem flat_vO (o : Option Int) : flatV (vO o) = true := by cases o <;> rfl
theorem rd_nights_behind (h : sp_nights_behind K vs H Q E) : t_nights_behind K (DD Q) (start N_nights_behind vs) H := by
  obtain ⟨H0, P, e0, ⟨pr, b, s, d, rfl, hr, hok, hsd, hs, rfl⟩, k⟩ := h
  obtain ⟨ws, h1, h2, h3⟩ := hr.up e0
  have hm : b.n ≤ 40 := hok.most
  have hlen : ws.length = b.n := by rw [h2, hok.len]
  obtain ⟨c1, c2⟩ := cutV_nat (xs := ws) (Nat.le_of_lt hsd) (by omega)
  refine Sx.at (x_asg (P := NewL ((List.range (s - d)).map fun i => vO (b.fine (d + i)))) ?_ fun v H1 e1 p => ?_)
  · refine ev_lcX (Yt := fun i x _ => (cutV ws (some (d : Int)) (some (s : Int)))[i]? = some x) ?_ (by rw [List.length_map, List.length_range]; omega) fun i x H1 e hi hx => ?_
    · rw [List.length_map, List.length_range, ← c1]
      exact ei_listN (ev_slL h1 (ev_var rfl) (eo_some (ev_var rfl)) (eo_some (ev_var rfl)))
    · rw [List.length_map, List.length_range] at hi
      rw [c2 i hi] at hx
      obtain ⟨t, rfl, ht⟩ := (h3 (d + i) x hx).up e
      refine ⟨_, eg_tup4 ht, rfl, fun y hy => ?_⟩
      obtain ⟨_, rfl⟩ := range_get hy
      exact ev_var rfl
  · obtain ⟨q, rfl, hq, hl⟩ := p
    refine x_if (b := !finesIn b d (s - d)) (EvT.eq (et_test (ev_inL ev_c (ev_var rfl) hl rfl (by
      rw [List.all_map]
      exact List.all_eq_true.mpr fun i _ => flat_vO _))) inV_none) (fun hb => ?_) fun hb => ?_
    · exact x_retV .non ev_c fun H2 e => k _ H2 (e1.trans e) (by show V.non = _; rw [if_neg (by cases hf : finesIn b d (s - d) <;> simp_all)])
    · have hf : finesIn b d (s - d) = true := by cases hf : finesIn b d (s - d) <;> simp_all
      have el : (List.range (s - d)).map (fun i => vO (b.fine (d + i))) = ((List.range (s - d)).map fun i => b.fineV (d + i)).map V.int := by
        rw [List.map_map]
        refine List.map_congr_left fun i hi => ?_
        have h4 := finesIn_all hf i (List.mem_range.mp hi)
        show vO (b.fine (d + i)) = V.int ((b.fine (d + i)).getD 0)
        cases e : b.fine (d + i) with
        | none => rw [e] at h4; cases h4
        | some f => rfl
      rw [el] at hl
      exact x_fall (x_retV (.int (sumF b.fineV d s)) (Ev.eq (ev_sumK hl (ev_var rfl)) (by rw [sum_range]; rfl)) fun H2 e => k _ H2 (e1.trans e) (by show V.int _ = _; rw [if_pos hf]))
theorem rd_price_of (h : sp_price_of K vs H Q E) : t_price_of K (DD Q) (start N_price_of vs) H := by
  obtain ⟨H0, P, e0, ⟨pg, b, s, d, rfl, hg, hok, hs, hd, rfl⟩, k⟩ := h
  obtain ⟨pr, hp, hr⟩ := hg.up e0
  have hm : b.n ≤ 40 := hok.most
  obtain ⟨ws, t, h1, h2, h3, h4⟩ := hr.get (i := s) (by rw [hok.len]; exact hs)
  refine Sx.at (x_asgG (P := Is (.ref pg)) (ev_var rfl) fun v H1 e1 pv' => ?_)
  have z : v = .ref pg := pv'
  subst z
  refine ⟨_, eg_tup2 (e1 _ _ hp) eg_name eg_name, ?_⟩
  have key : ∀ o : Option Int, vO (b.price s d) = vO (o.map fun x => b.loaf s + x) → Sx (tSeq (tIfS (tTest (tOp rIsN (tVar 5) (tC .non))) (tSeq (tRet (tC .non)) (tNext)) (tNext)) (tSeq (tRet (tOp rAddI (tOp (rIx K) (tOp (rIx K) (tVar 3) (tVar 1)) (tC (.int 1))) (tVar 5))) (tNext))) (DD Q)
      [some (.ref pg), some (.int (s : Int)), some (.int (d : Int)), some (.ref pr), some (vO b.life), some (vO o)] H1 := fun o ho => by
    cases o with
    | none => exact x_if (b := true) (EvT.eq (et_test (ev_isN (ev_var rfl))) rfl) (fun _ => x_retV .non ev_c fun H2 e2 => k _ H2 (e1.trans e2) ho.symm) fun z => by cases z
    | some x => exact x_pass (et_test (ev_isN (ev_var rfl))) rfl (x_retV (.int (b.loaf s + x)) (ev_I0 (ev_ixT (e1 _ _ h4) (ev_ixL (e1 _ _ h1) (ev_var rfl) (ev_var rfl) (atI_nat h3)) ev_c rfl) (ev_var rfl)) fun H2 e2 => k _ H2 (e1.trans e2) ho.symm)
  by_cases hsd : s ≤ d
  · refine x_if (b := true) (EvT.eq (et_test (ev_I0 (ev_var rfl) (ev_var rfl))) (decide_eq_true (by omega))) (fun _ => ?_) fun z => by cases z
    refine x_set (v := vO (if tooLong b.life (d - s) then none else some (sumF b.keep s d))) (Ev.eq (ev_call (ex_cons (ev_var rfl) (ex_cons (ev_var rfl) (ex_cons (ev_var rfl) (ex_cons (ev_var rfl) ex_nil)))) ⟨pr, b, s, d, rfl, hr.up e1, hok, hsd, hd, rfl⟩) (by cases tooLong b.life (d - s) <;> rfl)) (x_next (key _ ?_))
    congr 1
    unfold Bk.price
    rw [if_pos hsd]
    cases tooLong b.life (d - s) <;> rfl
  · refine x_if (b := false) (EvT.eq (et_test (ev_I0 (ev_var rfl) (ev_var rfl))) (decide_eq_false (by omega))) (fun z => by cases z) fun _ => ?_
    refine x_set (v := vO (if finesIn b d (s - d) then some (sumF b.fineV d s) else none)) (Ev.eq (ev_call (ex_cons (ev_var rfl) (ex_cons (ev_var rfl) (ex_cons (ev_var rfl) ex_nil))) ⟨pr, b, s, d, rfl, hr.up e1, hok, by omega, hs, rfl⟩) (by cases finesIn b d (s - d) <;> rfl)) (x_next (key _ ?_))
    congr 1
    unfold Bk.price
    rw [if_neg hsd]
    cases finesIn b d (s - d) <;> rfl
theorem ev_price {b : Bk} {pg : Addr} {s d : Nat} (hg : GoodAt H pg b) (hok : b.ok) (hs : s < b.n) (hd : d < b.n) (ha : Ev ta σ H (Is (.ref pg))) (hb : Ev tb σ H (Is (.int (s : Int)))) (hc : Ev tc σ H (Is (.int (d : Int)))) :
    Ev (tCall (sp_price_of K) [] E0 (tCons ta (tCons tb (tCons tc tNil)))) σ H (Is (vO (b.price s d))) := ev_call (ex_cons ha (ex_cons hb (ex_cons hc ex_nil))) ⟨pg, b, s, d, rfl, hg, hok, hs, hd, rfl⟩
theorem rd_prices_from (h : sp_prices_from K vs H Q E) : t_prices_from K (DD Q) (start N_prices_from vs) H := by
  obtain ⟨H0, P, e0, ⟨pg, b, s, rfl, hg, hok, hs, rfl⟩, k⟩ := h
  have hg := hg.up e0
  have hg' := hg
  obtain ⟨pr, hp, ws, h1, h2, h3⟩ := hg
  have hm : b.n ≤ 40 := hok.most
  have hlen : ws.length = b.n := by rw [h2, hok.len]
  refine Sx.at (x_ret (P := NewL ((List.range b.n).map fun d => vO (b.price s d))) (ev_lcX (Yt := fun i x _ => x = .int (i : Int)) ?_ (by rw [List.length_map, List.length_range]; omega) fun i x H1 e hi hx => ?_) fun v H1 e p => k v H1 e p)
  · rw [List.length_map, List.length_range]
    exact ei_rng1 (ex_cons (Ev.eq (ev_lenL h1 (ev_ixT hp (ev_var rfl) ev_c rfl)) (by rw [hlen])) ex_nil) (by omega)
  · rw [List.length_map, List.length_range] at hi
    subst hx
    refine ⟨_, eg_name, rfl, fun y hy => ?_⟩
    obtain ⟨_, rfl⟩ := range_get hy
    exact ev_price (hg'.up e) hok hs hi (ev_var rfl) (ev_var rfl) (ev_var rfl)
theorem rows_want {b : Bk} {i : Nat} : (b.rows.getD i row0).want = b.want i := rfl
/-- the list that grows, and what stands still -/
theorem rd_wants_from (h : sp_wants_from K vs H Q E) : t_wants_from K (DD Q) (start N_wants_from vs) H := by
  obtain ⟨H0, P, e0, ⟨pg, b, s, rfl, hg, hok, hs, rfl⟩, k⟩ := h
  have hg := hg.up e0
  have hg' := hg
  obtain ⟨pr, hp, ws, h1, h2, h3⟩ := hg
  have hm : b.n ≤ 40 := hok.most
  have hlen : ws.length = b.n := by rw [h2, hok.len]
  refine Sx.at (x_asg (ev_lst ex_nil (Nat.zero_le _)) fun v H1 e1 p => ?_)
  obtain ⟨l, rfl, hl, hl1⟩ := p
  refine x_forZ (e1 _ _ h1) (ev_ixT (e1 _ _ hp) (ev_var rfl) ev_c rfl) (ev_call (P := NewL ((List.range b.n).map fun d => vO (b.price s d))) (ex_cons (ev_var rfl) (ex_cons (ev_var rfl) ex_nil)) ⟨pg, b, s, rfl, hg'.up e1, hok, hs, rfl⟩) fun v H2 e2 p2 => ?_
  obtain ⟨q, rfl, hq, hq2⟩ := p2
  have nlq : q ≠ l := (ne_of_none hl1 hq).symm
  refine ⟨q, _, fun i σ' H' => Ex H H' ∧ H' q = some (.lst ((List.range b.n).map fun d => vO (b.price s d))) ∧ H' l = some (.lst ((List.range i).map fun d => vO (cost0 b s d))) ∧ ∃ o1 o2, σ' = [some (.ref pg), some (.int (s : Int)), some (.ref l), o1, o2],
    rfl, hq2, by rw [List.length_map, List.length_range, hlen], ⟨e1.trans e2, hq2, e2 _ _ hl1, none, none, rfl⟩, fun i σ' H' w => ⟨w.1 _ _ h1, w.2.1⟩, fun i x y σ' H' T H3 hx hy ⟨w1, w2, w3, o1, o2, es⟩ e3 hT => ?_, fun σ' H' ⟨w1, w2, w3, o1, o2, es⟩ => ?_⟩
  · subst es
    obtain ⟨hi, rfl⟩ := range_get hy
    refine ⟨_, eg_tup2 hT eg_name eg_name, ?_⟩
    obtain ⟨t, rfl, ht⟩ := (h3 i x hx).up (w1.trans e3)
    have wt : Ev (tOp (rIx K) (tVar 3) (tC (.int 0))) [some (.ref pg), some (.int (s : Int)), some (.ref l), some (.ref t), some (vO (b.price s i))] H3 (Is (.int (b.want i))) := ev_ixT ht (ev_var rfl) ev_c rfl
    have fin : ∀ v H4, Ex H3 H4 → v = vO (cost0 b s i) → ∀ H5, Ex (upd H4 l (.lst ((List.range i).map (fun d => vO (cost0 b s d)) ++ [v]))) H5 → Ex H H5 ∧ H5 q = some (.lst ((List.range b.n).map fun d => vO (b.price s d))) ∧ H5 l = some (.lst ((List.range (i + 1)).map fun d => vO (cost0 b s d))) ∧
        ∃ o1 o2, ([some (.ref pg), some (.int (s : Int)), some (.ref l), some (.ref t), some (vO (b.price s i))] : L2.St) = [some (.ref pg), some (.int (s : Int)), some (.ref l), o1, o2] := fun v H4 e4 ev H5 e5 => by
      subst ev
      refine ⟨(((w1.trans e3).trans e4).mut hl).trans e5, e5 _ _ (by rw [upd_ne nlq]; exact e4 _ _ (e3 _ _ w2)), e5 _ _ (by rw [upd_same, List.range_succ, List.map_append]; rfl), _, _, rfl⟩
    have hz : ((List.range i).map fun d => vO (cost0 b s d)).length < 100000 := by rw [List.length_map, List.length_range]; omega
    by_cases hw : b.want i = 0
    · refine x_if (b := true) (EvT.eq (et_test (ev_eq wt ev_c eqI)) (decide_eq_true (by rw [hw]))) (fun _ => ?_) fun z => by cases z
      refine x_app (P := Is (.int 0)) (e3 _ _ w3) (ev_var rfl) ev_c hz fun v H4 e4 pv' => x_next (fun H5 e5 => fin v H4 e4 ?_ H5 e5)
      show v = _
      unfold cost0; rw [if_pos hw]; exact pv'
    · refine x_if (b := false) (EvT.eq (et_test (ev_eq wt ev_c eqI)) (decide_eq_false fun z => hw (by injection z))) (fun z => by cases z) fun _ => ?_
      cases ho : b.price s i with
      | none =>
        rw [ho] at fin
        refine x_if (b := true) (EvT.eq (et_test (ev_isN (ev_var rfl))) rfl) (fun _ => ?_) fun z => by cases z
        refine x_app (P := Is .non) (e3 _ _ w3) (ev_var rfl) ev_c hz fun v H4 e4 pv' => x_fall (x_fall (x_next fun H5 e5 => fin v H4 e4 ?_ H5 e5))
        show v = _
        unfold cost0; rw [if_neg hw, ho]; exact pv'
      | some x =>
        rw [ho] at fin wt
        refine x_if (b := false) (EvT.eq (et_test (ev_isN (ev_var rfl))) rfl) (fun z => by cases z) fun _ => ?_
        have hwn := (row_ok hok i).1
        refine x_app (P := Is (.int (b.want i * x))) (e3 _ _ w3) (ev_var rfl) (ev_I wt (ev_var rfl) (.inl ⟨by have := hwn.1; show -(2 ^ 64) < b.want i; unfold Bk.want; omega, by have := hwn.2; show b.want i < 2 ^ 64; unfold Bk.want MOST at *; omega⟩)) hz fun v H4 e4 pv' => x_fall (x_fall (x_next fun H5 e5 => fin v H4 e4 ?_ H5 e5))
        show v = _
        unfold cost0; rw [if_neg hw, ho]; exact pv'
  · subst es
    rw [hlen] at w3
    exact x_ret (P := Is (.ref l)) (ev_var rfl) fun v H4 e4 pv' => k v H4 (w1.trans e4) ⟨l, pv', hl, e4 _ _ w3⟩
/-! ### doughs -/
theorem rd_is_dough_day (h : sp_is_dough_day K vs H Q E) : t_is_dough_day K (DD Q) (start N_is_dough_day vs) H := by
  obtain ⟨H0, P, e0, ⟨v, g, rfl, hr, hok, rfl⟩, k⟩ := h
  obtain ⟨t, rfl, ht⟩ := hr.up e0
  refine Sx.at (x_retV (.bl true) (Ev.eq (ev_andV (isi_tup ht (ev_var rfl)) fun _ => ev_andV (ev_eq (ev_lenT ht (ev_var rfl)) ev_c eqI) fun _ => ev_allT (ei_tup ht (ev_var rfl)) (by show (3 : Nat) ≤ 40000; decide) fun i x H1 e hi hx => ⟨_, eg_name, rfl, ?_⟩) rfl) fun H1 e => k _ H1 e rfl)
  match i, hi with
  | 0, _ => obtain rfl := Option.some.inj hx; exact ev_num hok.1 (ev_var rfl)
  | 1, _ => obtain rfl := Option.some.inj hx; exact ev_num hok.2.1 (ev_var rfl)
  | 2, _ => obtain rfl := Option.some.inj hx; exact ev_num hok.2.2 (ev_var rfl)
theorem cutV_short {xs : List V} {s d : Nat} (h : d ≤ s) (hd : s ≤ xs.length) : (cutV xs (some (s : Int)) (some (d : Int))) = [] := by
  unfold cutV
  rw [HT.sIx_nat, HT.sIx_nat, Nat.min_eq_left hd, Nat.min_eq_left (show d ≤ xs.length by omega), show d - s = 0 by omega, List.take_zero]
theorem rd_dough_price (h : sp_dough_price K vs H Q E) : t_dough_price K (DD Q) (start N_dough_price vs) H := by
  obtain ⟨H0, P, e0, ⟨pd, gs, r, s, rfl, hg, hr, hs, hm, rfl⟩, k⟩ := h
  have hg := hg.up e0
  obtain ⟨ws, t, h1, h2, h3, h4⟩ := hg.get hr
  obtain ⟨ws', h1', _, h5⟩ := hg
  rw [h1] at h1'
  cases h1'
  have hc : ∀ i x, (cutV ws (some (r : Int)) (some (s : Int)))[i]? = some x → i < s - r ∧ ws[r + i]? = some x := fun i x hx => by
    by_cases hrs : r ≤ s
    · obtain ⟨c1, c2⟩ := cutV_nat (xs := ws) hrs (by omega)
      have hi : i < s - r := by rw [← c1]; exact (List.getElem?_eq_some_iff.mp hx).1
      rw [c2 i hi] at hx
      exact ⟨hi, hx⟩
    · rw [cutV_short (by omega) (by omega)] at hx
      simp at hx
  have hcl : (cutV ws (some (r : Int)) (some (s : Int))).length = s - r := by
    by_cases hrs : r ≤ s
    · exact (cutV_nat (xs := ws) hrs (by omega)).1
    · rw [cutV_short (by omega) (by omega)]; show 0 = s - r; omega
  have hl : ws.length ≤ 16777216 ∨ True := .inr trivial
  by_cases hbig : s - r ≤ 40000
  · refine Sx.at (x_retV (.int (each gs r s)) (Ev.eq (ev_I0 (ev_ixT h4 (ev_ixL h1 (ev_var rfl) (ev_var rfl) (atI_nat h3)) ev_c rfl) (ev_sum (ns := (List.range (s - r)).map fun i => holdD gs (r + i)) ?_)) (by rw [sum_range]; rfl)) fun H1 e => k _ H1 e rfl)
    rw [List.map_map]
    refine ev_lcX (Yt := fun i x _ => (cutV ws (some (r : Int)) (some (s : Int)))[i]? = some x) ?_ (by rw [List.length_map, List.length_range]; exact hbig) fun i x H1 e hi hx => ?_
    · rw [List.length_map, List.length_range, ← hcl]
      exact ei_listN (ev_slL h1 (ev_var rfl) (eo_some (ev_var rfl)) (eo_some (ev_var rfl)))
    · obtain ⟨hi', hx'⟩ := hc i x hx
      obtain ⟨t', rfl, ht'⟩ := (h5 (r + i) x hx').up e
      refine ⟨_, eg_tup3 ht' eg_name eg_name eg_name, rfl, fun y hy => ?_⟩
      obtain ⟨_, rfl⟩ := range_get hy
      exact ev_var rfl
  · exact absurd hbig (by omega)
/-- bakery[0], bakery[2][0], bakery[2][0][0] -/
theorem ev_bk0 {pb pl pgs : Addr} (hp : H pb = some (.tup [.ref pl, .non, .ref pgs])) (ha : Ev ta σ H (Is (.ref pb))) : Ev (tOp (rIx K) ta (tC (.int 0))) σ H (Is (.ref pl)) := ev_ixT hp ha ev_c rfl
theorem ev_bk20 {pb pl pgs pg : Addr} (hp : H pb = some (.tup [.ref pl, .non, .ref pgs])) (hg : H pgs = some (.lst [.ref pg])) (ha : Ev ta σ H (Is (.ref pb))) : Ev (tOp (rIx K) (tOp (rIx K) ta (tC (.int 2))) (tC (.int 0))) σ H (Is (.ref pg)) :=
  ev_ixL hg (ev_ixT hp ha ev_c rfl) ev_c rfl
theorem ev_bk200 {pb pl pgs pg pr : Addr} {lv : V} (hp : H pb = some (.tup [.ref pl, .non, .ref pgs])) (hg : H pgs = some (.lst [.ref pg])) (hd : H pg = some (.tup [.ref pr, lv])) (ha : Ev ta σ H (Is (.ref pb))) :
    Ev (tOp (rIx K) (tOp (rIx K) (tOp (rIx K) ta (tC (.int 2))) (tC (.int 0))) (tC (.int 0))) σ H (Is (.ref pr)) := ev_ixT hd (ev_bk20 hp hg ha) ev_c rfl
theorem rd_batch_costs (h : sp_batch_costs K vs H Q E) : t_batch_costs K (DD Q) (start N_batch_costs vs) H := by
  obtain ⟨H0, P, e0, ⟨pb, b, pd, gs, r, s, rfl, hb, hok, hgs, hgok, hr, hs, rfl⟩, k⟩ := h
  have hb := hb.up e0
  have hgs := hgs.up e0
  obtain ⟨pl, pgs, pg, hp, hpl, hpgs, hgd⟩ := hb
  have hgd' := hgd
  obtain ⟨pr, hpg, ws, h1, h2, h3⟩ := hgd
  have hm : b.n ≤ 40 := hok.most
  have hlen : ws.length = b.n := by rw [h2, hok.len]
  refine Sx.at (x_asg (ev_lst ex_nil (Nat.zero_le _)) fun v H1 e1 p => ?_)
  obtain ⟨l, rfl, hl, hl1⟩ := p
  refine x_set (v := .int (each gs r s)) (ev_call (ex_cons (ev_var rfl) (ex_cons (ev_var rfl) (ex_cons (ev_var rfl) ex_nil))) ⟨pd, gs, r, s, rfl, hgs.up e1, by rw [hgok.len]; exact hr, by rw [hgok.len]; exact hs, by rw [hgok.len]; exact hm, rfl⟩) ?_
  refine x_forZ (e1 _ _ h1) (ev_bk200 (e1 _ _ hp) (e1 _ _ hpgs) (e1 _ _ hpg) (ev_var rfl)) (ev_call (P := NewL ((List.range b.n).map fun d => vO (cost0 b s d))) (ex_cons (ev_bk20 (e1 _ _ hp) (e1 _ _ hpgs) (ev_var rfl)) (ex_cons (ev_var rfl) ex_nil)) ⟨pg, b, s, rfl, hgd'.up e1, hok, hs, rfl⟩) fun v H2 e2 p2 => ?_
  obtain ⟨q, rfl, hq, hq2⟩ := p2
  have nlq : q ≠ l := (ne_of_none hl1 hq).symm
  refine ⟨q, _, fun i σ' H' => Ex H H' ∧ H' q = some (.lst ((List.range b.n).map fun d => vO (cost0 b s d))) ∧ H' l = some (.lst ((List.range i).map fun d => vO (b.cost gs r s d))) ∧
    ∃ o1 o2, σ' = [some (.ref pb), some (.ref pd), some (.int (r : Int)), some (.int (s : Int)), some (.ref l), some (.int (each gs r s)), o1, o2],
    rfl, hq2, by rw [List.length_map, List.length_range, hlen], ⟨e1.trans e2, hq2, e2 _ _ hl1, none, none, rfl⟩, fun i σ' H' w => ⟨w.1 _ _ h1, w.2.1⟩, fun i x y σ' H' T H3 hx hy ⟨w1, w2, w3, o1, o2, es⟩ e3 hT => ?_, fun σ' H' ⟨w1, w2, w3, o1, o2, es⟩ => ?_⟩
  · subst es
    obtain ⟨hi, rfl⟩ := range_get hy
    refine ⟨_, eg_tup2 hT eg_name eg_name, ?_⟩
    obtain ⟨t, rfl, ht⟩ := (h3 i x hx).up (w1.trans e3)
    have hz : ((List.range i).map fun d => vO (b.cost gs r s d)).length < 100000 := by rw [List.length_map, List.length_range]; omega
    have key : ∀ u, Sx (tSeq (tDrop (tBM K "list" rAppend (tVar 4) (tCons (tVar 7) tNil))) tNext) { DD Q with nx := (fun σ' H' => Ex H H' ∧ H' q = some (.lst ((List.range b.n).map fun d => vO (cost0 b s d))) ∧ H' l = some (.lst ((List.range (i + 1)).map fun d => vO (b.cost gs r s d))) ∧
        ∃ o1 o2, σ' = [some (.ref pb), some (.ref pd), some (.int (r : Int)), some (.int (s : Int)), some (.ref l), some (.int (each gs r s)), o1, o2]), ct := (fun σ' H' => Ex H H' ∧ H' q = some (.lst ((List.range b.n).map fun d => vO (cost0 b s d))) ∧ H' l = some (.lst ((List.range (i + 1)).map fun d => vO (b.cost gs r s d))) ∧
        ∃ o1 o2, σ' = [some (.ref pb), some (.ref pd), some (.int (r : Int)), some (.int (s : Int)), some (.ref l), some (.int (each gs r s)), o1, o2]), bk := (tSeq (tRet (tVar 4)) tNext) (DD Q) }
        [some (.ref pb), some (.ref pd), some (.int (r : Int)), some (.int (s : Int)), some (.ref l), some (.int (each gs r s)), u, some (vO (b.cost gs r s i))] H3 := fun u => by
      refine x_app (P := Is (vO (b.cost gs r s i))) (e3 _ _ w3) (ev_var rfl) (ev_var rfl) hz fun v H4 e4 pv' => x_next fun H5 e5 => ?_
      have ev' : v = _ := pv'
      subst ev'
      exact ⟨(((w1.trans e3).trans e4).mut hl).trans e5, e5 _ _ (by rw [upd_ne nlq]; exact e4 _ _ (e3 _ _ w2)), e5 _ _ (by rw [upd_same, List.range_succ, List.map_append]; rfl), _, _, rfl⟩
    have hcost : b.cost gs r s i = (cost0 b s i).map fun c => c + b.want i * each gs r s := by
      unfold Bk.cost cost0
      by_cases hw : b.want i = 0
      · rw [if_pos hw, if_pos hw, hw]; simp
      · rw [if_neg hw, if_neg hw]
        cases b.price s i <;> rfl
    cases ho : cost0 b s i with
    | none =>
      rw [ho] at hcost
      refine x_if (b := false) (EvT.eq (et_test (ev_notN (ev_var rfl))) rfl) (fun z => by cases z) fun _ => x_fall ?_
      have z := key (some (.ref t))
      rw [hcost] at z
      exact z
    | some c =>
      rw [ho] at hcost
      have hwn := (row_ok hok i).1
      refine x_if (b := true) (EvT.eq (et_test (ev_notN (ev_var rfl))) rfl) (fun _ => ?_) fun z => by cases z
      refine x_aug (a := c) (b := b.want i * each gs r s) rfl (ev_I (i := b.want i) (j := each gs r s) (ev_ixT ht (ev_var rfl) ev_c rfl) (ev_var rfl) (.inl ⟨by have := hwn.1; show -(2 ^ 64) < b.want i; unfold Bk.want; omega, by have := hwn.2; show b.want i < 2 ^ 64; unfold Bk.want MOST at *; omega⟩)) (x_fall ?_)
      have z := key (some (.ref t))
      rw [hcost] at z
      exact z
  · subst es
    rw [hlen] at w3
    exact x_ret (P := Is (.ref l)) (ev_var rfl) fun v H4 e4 pv' => k v H4 (w1.trans e4) ⟨l, pv', hl, e4 _ _ w3⟩
end
end K66

/-! ## O1 -/
set_option maxHeartbeats 4000000
namespace K66
open PySem PySem.Spec PyProof.Rows L2
theorem ok_is_whole {P : Program} {w : World} {K : PySem.W.Frag} {mg : Str → Option Value} {base : Heap} (W : Wd K mg) : Cal P w K mg base CX0 1 "is_whole" p_is_whole (sp_is_whole K) :=
  cal_of (d := d_is_whole) W 1 rfl rfl W.g_is_whole sc_is_whole (fun vs H Q E h => by obtain ⟨_, _, _, ⟨_, e, _⟩, _⟩ := h; rw [e]; rfl) (fun _ _ _ _ _ _ us hl => match us, hl with | [_], _ => rfl)
    fun f cdv A outer s H vs Q E hr h => ⟨t_is_whole K, (der_is_whole W  hr).nox, rd_is_whole h⟩
theorem ok_is_within {P : Program} {w : World} {K : PySem.W.Frag} {mg : Str → Option Value} {base : Heap} (W : Wd K mg) : Cal P w K mg base CX0 2 "is_within" p_is_within (sp_is_within K) :=
  cal_of (d := d_is_within) W 2 rfl rfl W.g_is_within sc_is_within (fun vs H Q E h => by obtain ⟨_, _, _, ⟨_, _, _, e, _⟩, _⟩ := h; rw [e]; rfl) (fun _ _ _ _ _ _ us hl => match us, hl with | [_, _, _], _ => rfl)
    fun f cdv A outer s H vs Q E hr h => ⟨t_is_within K, (der_is_within W (ok_is_whole W) hr).nox, rd_is_within h⟩
theorem ok_is_number {P : Program} {w : World} {K : PySem.W.Frag} {mg : Str → Option Value} {base : Heap} (W : Wd K mg) : Cal P w K mg base CX0 3 "is_number" p_is_number (sp_is_number K) :=
  cal_of (d := d_is_number) W 3 rfl rfl W.g_is_number sc_is_number (fun vs H Q E h => by obtain ⟨_, _, _, ⟨_, e, _⟩, _⟩ := h; rw [e]; rfl) (fun _ _ _ _ _ _ us hl => match us, hl with | [_], _ => rfl)
    fun f cdv A outer s H vs Q E hr h => ⟨t_is_number K, (der_is_number W (ok_is_within W) hr).nox, rd_is_number h⟩
theorem ok_is_day {P : Program} {w : World} {K : PySem.W.Frag} {mg : Str → Option Value} {base : Heap} (W : Wd K mg) : Cal P w K mg base CX0 4 "is_day" p_is_day (sp_is_day K) :=
  cal_of (d := d_is_day) W 4 rfl rfl W.g_is_day sc_is_day (fun vs H Q E h => by obtain ⟨_, _, _, ⟨_, _, e, _⟩, _⟩ := h; rw [e]; rfl) (fun _ _ _ _ _ _ us hl => match us, hl with | [_], _ => rfl)
    fun f cdv A outer s H vs Q E hr h => ⟨t_is_day K, (der_is_day W (ok_is_number W) hr).nox, rd_is_day h⟩
theorem ok_are_lights {P : Program} {w : World} {K : PySem.W.Frag} {mg : Str → Option Value} {base : Heap} (W : Wd K mg) : Cal P w K mg base CX0 4 "are_lights" p_are_lights (sp_are_lights K) :=
  cal_of (d := d_are_lights) W 5 rfl rfl W.g_are_lights sc_are_lights (fun vs H Q E h => by obtain ⟨_, _, _, ⟨_, _, e, _⟩, _⟩ := h; rw [e]; rfl) (fun _ _ _ _ _ _ us hl => match us, hl with | [_], _ => rfl)
    fun f cdv A outer s H vs Q E hr h => ⟨t_are_lights K, (der_are_lights W (ok_is_number W) hr).nox, rd_are_lights h⟩
theorem ok_is_frame {P : Program} {w : World} {K : PySem.W.Frag} {mg : Str → Option Value} {base : Heap} (W : Wd K mg) : Cal P w K mg base CX0 5 "is_frame" p_is_frame (sp_is_frame K) :=
  cal_of (d := d_is_frame) W 6 rfl rfl W.g_is_frame sc_is_frame (fun vs H Q E h => by obtain ⟨_, _, _, ⟨_, _, e, _⟩, _⟩ := h; rw [e]; rfl) (fun _ _ _ _ _ _ us hl => match us, hl with | [_], _ => rfl)
    fun f cdv A outer s H vs Q E hr h => ⟨t_is_frame K, (der_is_frame W (ok_are_lights W) (ok_is_within W) hr).nox, rd_is_frame h⟩
theorem ok_look_at_good {P : Program} {w : World} {K : PySem.W.Frag} {mg : Str → Option Value} {base : Heap} (W : Wd K mg) : Cal P w K mg base CX0 5 "look_at_good" p_look_at_good (sp_look_at_good K) :=
  cal_of (d := d_look_at_good) W 7 rfl rfl W.g_look_at_good sc_look_at_good (fun vs H Q E h => by obtain ⟨_, _, _, ⟨_, _, _, e, _⟩, _⟩ := h; rw [e]; rfl) (fun _ _ _ _ _ _ us hl => match us, hl with | [_, _, _], _ => rfl)
    fun f cdv A outer s H vs Q E hr h => ⟨t_look_at_good K, (der_look_at_good W (ok_is_day W) (ok_is_within W) hr).nox, rd_look_at_good h⟩
theorem ok_look_at_bakery {P : Program} {w : World} {K : PySem.W.Frag} {mg : Str → Option Value} {base : Heap} (W : Wd K mg) : Cal P w K mg base CX0 6 "look_at_bakery" p_look_at_bakery (sp_look_at_bakery K) :=
  cal_of (d := d_look_at_bakery) W 8 rfl rfl W.g_look_at_bakery sc_look_at_bakery (fun vs H Q E h => by obtain ⟨_, _, _, ⟨_, _, e, _⟩, _⟩ := h; rw [e]; rfl) (fun _ _ _ _ _ _ us hl => match us, hl with | [_], _ => rfl)
    fun f cdv A outer s H vs Q E hr h => ⟨t_look_at_bakery K, (der_look_at_bakery W (ok_is_frame W) (ok_look_at_good W) hr).nox, rd_look_at_bakery h⟩
theorem ok_is_plain_one {P : Program} {w : World} {K : PySem.W.Frag} {mg : Str → Option Value} {base : Heap} (W : Wd K mg) : Cal P w K mg base CX0 1 "is_plain_one" p_is_plain_one (sp_is_plain_one K) :=
  cal_of (d := d_is_plain_one) W 9 rfl rfl W.g_is_plain_one sc_is_plain_one (fun vs H Q E h => by obtain ⟨_, _, _, ⟨_, _, e, _⟩, _⟩ := h; rw [e]; rfl) (fun _ _ _ _ _ _ us hl => match us, hl with | [_], _ => rfl)
    fun f cdv A outer s H vs Q E hr h => ⟨t_is_plain_one K, (der_is_plain_one W  hr).nox, rd_is_plain_one h⟩
theorem ok_is_plain {P : Program} {w : World} {K : PySem.W.Frag} {mg : Str → Option Value} {base : Heap} (W : Wd K mg) : Cal P w K mg base CX0 7 "is_plain" p_is_plain (sp_is_plain K) :=
  cal_of (d := d_is_plain) W 10 rfl rfl W.g_is_plain sc_is_plain (fun vs H Q E h => by obtain ⟨_, _, _, ⟨_, _, e, _⟩, _⟩ := h; rw [e]; rfl) (fun _ _ _ _ _ _ us hl => match us, hl with | [_], _ => rfl)
    fun f cdv A outer s H vs Q E hr h => ⟨t_is_plain K, (der_is_plain W (ok_is_plain_one W) (ok_look_at_bakery W) hr).nox, rd_is_plain h⟩
theorem ok_look_at_plain {P : Program} {w : World} {K : PySem.W.Frag} {mg : Str → Option Value} {base : Heap} (W : Wd K mg) : Cal P w K mg base CX0 8 "look_at_plain" p_look_at_plain (sp_look_at_plain K) :=
  cal_of (d := d_look_at_plain) W 11 rfl rfl W.g_look_at_plain sc_look_at_plain (fun vs H Q E h => by obtain ⟨_, _, _, ⟨_, _, e, _⟩, _⟩ := h; rw [e]; rfl) (fun _ _ _ _ _ _ us hl => match us, hl with | [_], _ => rfl)
    fun f cdv A outer s H vs Q E hr h => ⟨t_look_at_plain K, (der_look_at_plain W (ok_is_plain W) hr).nox, rd_look_at_plain h⟩
theorem ok_nights_ahead {P : Program} {w : World} {K : PySem.W.Frag} {mg : Str → Option Value} {base : Heap} (W : Wd K mg) : Cal P w K mg base CX0 1 "nights_ahead" p_nights_ahead (sp_nights_ahead K) :=
  cal_of (d := d_nights_ahead) W 12 rfl rfl W.g_nights_ahead sc_nights_ahead (fun vs H Q E h => by obtain ⟨_, _, _, ⟨_, _, _, _, e, _⟩, _⟩ := h; rw [e]; rfl) (fun _ _ _ _ _ _ us hl => match us, hl with | [_, _, _, _], _ => rfl)
    fun f cdv A outer s H vs Q E hr h => ⟨t_nights_ahead K, (der_nights_ahead W  hr).nox, rd_nights_ahead h⟩
theorem ok_nights_behind {P : Program} {w : World} {K : PySem.W.Frag} {mg : Str → Option Value} {base : Heap} (W : Wd K mg) : Cal P w K mg base CX0 1 "nights_behind" p_nights_behind (sp_nights_behind K) :=
  cal_of (d := d_nights_behind) W 13 rfl rfl W.g_nights_behind sc_nights_behind (fun vs H Q E h => by obtain ⟨_, _, _, ⟨_, _, _, _, e, _⟩, _⟩ := h; rw [e]; rfl) (fun _ _ _ _ _ _ us hl => match us, hl with | [_, _, _], _ => rfl)
    fun f cdv A outer s H vs Q E hr h => ⟨t_nights_behind K, (der_nights_behind W  hr).nox, rd_nights_behind h⟩
theorem ok_price_of {P : Program} {w : World} {K : PySem.W.Frag} {mg : Str → Option Value} {base : Heap} (W : Wd K mg) : Cal P w K mg base CX0 2 "price_of" p_price_of (sp_price_of K) :=
  cal_of (d := d_price_of) W 14 rfl rfl W.g_price_of sc_price_of (fun vs H Q E h => by obtain ⟨_, _, _, ⟨_, _, _, _, e, _⟩, _⟩ := h; rw [e]; rfl) (fun _ _ _ _ _ _ us hl => match us, hl with | [_, _, _], _ => rfl)
    fun f cdv A outer s H vs Q E hr h => ⟨t_price_of K, (der_price_of W (ok_nights_ahead W) (ok_nights_behind W) hr).nox, rd_price_of h⟩
theorem ok_prices_from {P : Program} {w : World} {K : PySem.W.Frag} {mg : Str → Option Value} {base : Heap} (W : Wd K mg) : Cal P w K mg base CX0 3 "prices_from" p_prices_from (sp_prices_from K) :=
  cal_of (d := d_prices_from) W 15 rfl rfl W.g_prices_from sc_prices_from (fun vs H Q E h => by obtain ⟨_, _, _, ⟨_, _, _, e, _⟩, _⟩ := h; rw [e]; rfl) (fun _ _ _ _ _ _ us hl => match us, hl with | [_, _], _ => rfl)
    fun f cdv A outer s H vs Q E hr h => ⟨t_prices_from K, (der_prices_from W (ok_price_of W) hr).nox, rd_prices_from h⟩
theorem ok_wants_from {P : Program} {w : World} {K : PySem.W.Frag} {mg : Str → Option Value} {base : Heap} (W : Wd K mg) : Cal P w K mg base CX0 4 "wants_from" p_wants_from (sp_wants_from K) :=
  cal_of (d := d_wants_from) W 16 rfl rfl W.g_wants_from sc_wants_from (fun vs H Q E h => by obtain ⟨_, _, _, ⟨_, _, _, e, _⟩, _⟩ := h; rw [e]; rfl) (fun _ _ _ _ _ _ us hl => match us, hl with | [_, _], _ => rfl)
    fun f cdv A outer s H vs Q E hr h => ⟨t_wants_from K, (der_wants_from W (ok_prices_from W) hr).nox, rd_wants_from h⟩
theorem ok_is_dough_day {P : Program} {w : World} {K : PySem.W.Frag} {mg : Str → Option Value} {base : Heap} (W : Wd K mg) : Cal P w K mg base CX0 4 "is_dough_day" p_is_dough_day (sp_is_dough_day K) :=
  cal_of (d := d_is_dough_day) W 17 rfl rfl W.g_is_dough_day sc_is_dough_day (fun vs H Q E h => by obtain ⟨_, _, _, ⟨_, _, e, _⟩, _⟩ := h; rw [e]; rfl) (fun _ _ _ _ _ _ us hl => match us, hl with | [_], _ => rfl)
    fun f cdv A outer s H vs Q E hr h => ⟨t_is_dough_day K, (der_is_dough_day W (ok_is_number W) hr).nox, rd_is_dough_day h⟩
theorem ok_dough_price {P : Program} {w : World} {K : PySem.W.Frag} {mg : Str → Option Value} {base : Heap} (W : Wd K mg) : Cal P w K mg base CX0 1 "dough_price" p_dough_price (sp_dough_price K) :=
  cal_of (d := d_dough_price) W 20 rfl rfl W.g_dough_price sc_dough_price (fun vs H Q E h => by obtain ⟨_, _, _, ⟨_, _, _, _, e, _⟩, _⟩ := h; rw [e]; rfl) (fun _ _ _ _ _ _ us hl => match us, hl with | [_, _, _], _ => rfl)
    fun f cdv A outer s H vs Q E hr h => ⟨t_dough_price K, (der_dough_price W  hr).nox, rd_dough_price h⟩
theorem ok_batch_costs {P : Program} {w : World} {K : PySem.W.Frag} {mg : Str → Option Value} {base : Heap} (W : Wd K mg) : Cal P w K mg base CX0 5 "batch_costs" p_batch_costs (sp_batch_costs K) :=
  cal_of (d := d_batch_costs) W 24 rfl rfl W.g_batch_costs sc_batch_costs (fun vs H Q E h => by obtain ⟨_, _, _, ⟨_, _, _, _, _, _, e, _⟩, _⟩ := h; rw [e]; rfl) (fun _ _ _ _ _ _ us hl => match us, hl with | [_, _, _, _], _ => rfl)
    fun f cdv A outer s H vs Q E hr h => ⟨t_batch_costs K, (der_batch_costs W (ok_dough_price W) (ok_wants_from W) hr).nox, rd_batch_costs h⟩
end K66

/-! ## S2 -/
set_option maxHeartbeats 4000000
namespace K66
open PySem PySem.Spec PyProof.Rows L2
def LadAt (H : Hp) (p : Addr) (F : List Int) (M : List (List Int)) : Prop := ∃ pf pm ms, H p = some (.tup [.ref pf, .ref pm]) ∧ H pf = some (.lst (F.map V.int)) ∧ H pm = some (.lst ms) ∧ ms.length = M.length ∧
  ∀ i v, ms[i]? = some v → ∃ q, v = .ref q ∧ H q = some (.lst ((M.getD i []).map V.int))
theorem LadAt.up {H H' : Hp} {p : Addr} {F : List Int} {M : List (List Int)} (h : LadAt H p F M) (e : Ex H H') : LadAt H' p F M :=
  let ⟨pf, pm, ms, h1, h2, h3, h4, h5⟩ := h
  ⟨pf, pm, ms, e _ _ h1, e _ _ h2, e _ _ h3, h4, fun i v hv => let ⟨q, q1, q2⟩ := h5 i v hv; ⟨q, q1, e _ _ q2⟩⟩
/-! ### the promises, second part: ladders looked at, rows -/
def sp_are_rungs (_K : PySem.W.Frag) : Sp := spOf fun vs H P => ∃ (p : Addr) (xs : List Int), vs = [.ref p, .int (xs.length : Int)] ∧ H p = some (.lst (xs.map V.int)) ∧ xs.length ≤ 100 ∧ P = Is (.bl true)
def sp_is_ladder (_K : PySem.W.Frag) : Sp := spOf fun vs H P => ∃ (pb : Addr) (b : Bk) (p : Addr) (F : List Int) (M : List (List Int)), vs = [.ref pb, .ref p] ∧ BkAt H pb b ∧ b.ok ∧ LadAt H p F M ∧ LadOk b F M ∧ P = Is (.bl true)
def sp_climbs (_K : PySem.W.Frag) : Sp := spOf fun vs H P => ∃ (p : Addr) (xs : List Int) (light : Int) (q : Addr) (n : Nat) (c : Nat → Option Int), vs = [.ref p, .int light, .ref q] ∧ H p = some (.lst (xs.map V.int)) ∧ xs.length = n + 1 ∧ n ≤ 40 ∧
  H q = some (.lst ((List.range n).map fun d => vO (c d))) ∧ P = Is (.bl (dec (ClimbsP xs light c n)))
def sp_rests (_K : PySem.W.Frag) : Sp := spOf fun vs H P => ∃ (p : Addr) (xs : List Int) (pb : Addr) (b : Bk), vs = [.ref p, .ref pb] ∧ H p = some (.lst (xs.map V.int)) ∧ BkAt H pb b ∧ b.ok ∧ xs.length = b.n + 1 ∧ P = Is (.bl (dec (RestsP b xs)))
def sp_holds_for (_K : PySem.W.Frag) : Sp := spOf fun vs H P => ∃ (pb : Addr) (b : Bk) (pd : Addr) (g : List Dg) (p : Addr) (F : List Int) (M : List (List Int)) (r : Nat), vs = [.ref pb, .ref pd, .ref p, .int (r : Int)] ∧ BkAt H pb b ∧ b.ok ∧ DgsAt H pd g ∧ DgOk b g ∧ LadAt H p F M ∧ LadOk b F M ∧ r < b.n ∧
  P = Is (.bl (dec (HoldsP b g F (M.getD r []) r)))
def sp_lets_ladder (_K : PySem.W.Frag) : Sp := spOf fun vs H P => ∃ (pb : Addr) (b : Bk) (pd : Addr) (g : List Dg) (p : Addr) (F : List Int) (M : List (List Int)), vs = [.ref pb, .ref pd, .ref p] ∧ BkAt H pb b ∧ b.ok ∧ DgsAt H pd g ∧ DgOk b g ∧ LadAt H p F M ∧ LadOk b F M ∧
  P = Is (.bl (dec (LetP b g F M)))
def sp_lesser (_K : PySem.W.Frag) : Sp := spOf fun vs H P => ∃ (x : Option Int) (y : Option Int), vs = [vO x, vO y] ∧ P = Is (vO (lesserO x y))
def sp_together (_K : PySem.W.Frag) : Sp := spOf fun vs H P => ∃ (x : Option Int) (y : Option Int), vs = [vO x, vO y] ∧ P = Is (vO (addO x y))
def sp_unlit (_K : PySem.W.Frag) : Sp := spOf fun vs H P => ∃ (pg : Addr) (b : Bk), vs = [.ref pg] ∧ GoodAt H pg b ∧ b.ok ∧ P = NewL ((List.range (b.n + 1)).map fun j => vO (unlitO b j))
def sp_lit_row (_K : PySem.W.Frag) : Sp := spOf fun vs H P => ∃ (light : Int) (q : Addr) (p : Addr) (n : Nat) (c : Nat → Option Int) (kn : Nat → Option Int), vs = [.int light, .ref q, .ref p] ∧ n ≤ 40 ∧ H q = some (.lst ((List.range n).map fun d => vO (c d))) ∧
  H p = some (.lst ((List.range (n + 1)).map fun d => vO (kn d))) ∧ P = NewL ((List.range (n + 1)).map fun j => vO (litO light c kn j))
def sp_known_rows (_K : PySem.W.Frag) : Sp := spOf fun vs H P => ∃ (pb : Addr) (b : Bk), vs = [.ref pb] ∧ BkAt H pb b ∧ b.ok ∧ P = NewLs (b.n + 1) fun k => NewL ((List.range (b.n + 1)).map fun j => vO (rowO b k j))
def sp_least_row (_K : PySem.W.Frag) : Sp := spOf fun vs H P => ∃ (pb : Addr) (b : Bk), vs = [.ref pb] ∧ BkAt H pb b ∧ b.ok ∧ P = NewL ((List.range (b.n + 1)).map fun j => vO (rowO b j j))
/-! ### doughs that are looked at: they stand, or the error goes out -/
abbrev p_look_at_doughs : List Str := ["bakery", "thing"]
def Bad (K : PySem.W.Frag) (vs : List V) (H : Hp) (E : XK) : Prop := ∃ (pb : Addr) (b : Bk) (x : V), vs = [.ref pb, x] ∧ BkAt H pb b ∧ b.ok ∧ (x = .non ∨ ∃ (p : Addr) (ws : List V), x = .ref p ∧ H p = some (.lst ws) ∧ ws.length ≠ b.n) ∧
  ∀ (d : Addr) (H' : Hp), Ex H H' → H d = none → H' d = some (.xd [("day", .non)]) → E (.ref (gA K "NoDoughs")) (some d) H'
def spGood : Sp := spOf fun vs H P => ∃ (pb : Addr) (b : Bk) (pd : Addr) (g : List Dg), vs = [.ref pb, .ref pd] ∧ BkAt H pb b ∧ b.ok ∧ DgsAt H pd g ∧ DgOk b g ∧ P = Is .non
def sp_look_at_doughs (K : PySem.W.Frag) : Sp := fun vs H Q E => spGood vs H Q E ∨ Bad K vs H E
def sp_look_at_dough_list (K : PySem.W.Frag) : Sp := fun vs H Q E => spGood vs H Q E ∨ Bad K vs H E
theorem ev_look {K : PySem.W.Frag} {σ : L2.St} {H : Hp} {ta tb : TE} {pb pd : Addr} {b : Bk} {g : List Dg} {E : XK} (hb : BkAt H pb b) (hok : b.ok) (hd : DgsAt H pd g) (hgok : DgOk b g) (ha : Ev ta σ H (Is (.ref pb))) (hc : Ev tb σ H (Is (.ref pd))) :
    Ev (tCall (sp_look_at_doughs K) [] E (tCons ta (tCons tb tNil))) σ H (Is .non) := fun H1 e Q q =>
  ha H1 e _ fun v H2 e2 p => by
    have z : v = .ref pb := p
    subst z
    refine hc H2 (e.trans e2) _ fun w H3 e3 p' => .inl ?_
    have z' : w = .ref pd := p'
    subst z'
    exact ⟨H3, Is .non, Ex.rfl, ⟨pb, b, pd, g, rfl, hb.up ((e.trans e2).trans e3), hok, hd.up ((e.trans e2).trans e3), hgok, rfl⟩, fun v H' e' p => q v H' ((e2.trans e3).trans e') p⟩
end K66

/-! ## D2 -/
set_option maxHeartbeats 4000000
namespace K66
open PySem PySem.Spec PyProof.Rows L2
/-! lesser -/
abbrev N_lesser : List Str := ["one", "other"]
abbrev p_lesser : List Str := ["one", "other"]
theorem sc_lesser : FnScope N_lesser p_lesser (defScope s_lesser) := ⟨rfl, rfl, rfl, by decide +kernel, rfl, by decide +kernel, by decide +kernel⟩
def t_lesser (K : PySem.W.Frag) : TS := tSeq (tIfS (tOr (tTest (tOp rIsN (tVar 0) (tC .non))) (tTest (tOp rIsN (tVar 1) (tC .non)))) (tSeq (tRet (tIf (tTest (tOp rIsN (tVar 0) (tC .non))) (tVar 1) (tVar 0))) (tNext)) (tNext)) (tSeq (tRet (tCB (rMin2) (tCons (tVar 0) (tCons (tVar 1) (tNil))))) (tNext))
theorem der_lesser {P : Program} {w : World} {K : PySem.W.Frag} {mg : Str → Option Value} {base : Heap} (W : Wd K mg)  {f : Addr} {cdv : Value} {A : Around} {outer : List Env} {s : Shared} {H : Hp} {E : XK} (hr : Room 0 (A.deeper (envOfC "lesser" (defScope s_lesser) s.heap.objs.size f cdv))) :
    PSs (cxOf CX0 P w K mg base N_lesser "lesser" (defScope s_lesser) f cdv A outer s H E).nox (defBody s_lesser) (t_lesser K) :=
  pss_cons (ps_if (PW.pt (pw_or (pt_cmpR op_isN (pv 0) (pe_non) (nomark _)) (pw_or1 (pt_cmpR op_isN (pv 1) (pe_non) (nomark _))))) (pss_cons (ps_ret (pe_ifExp (pt_cmpR op_isN (pv 0) (pe_non) (nomark _)) (pv 1) (pv 0))) (pss_nil)) (pss_nil)) (pss_cons (ps_ret (pe_callB (call_min2 (by rfl)) (by rfl) W.b_min (by decide +kernel) (pa_cons (pv 0) (pa_cons (pv 1) (pa_nil))))) (pss_nil))
/-! together -/
abbrev N_together : List Str := ["one", "other"]
abbrev p_together : List Str := ["one", "other"]
theorem sc_together : FnScope N_together p_together (defScope s_together) := ⟨rfl, rfl, rfl, by decide +kernel, rfl, by decide +kernel, by decide +kernel⟩
def t_together (K : PySem.W.Frag) : TS := tSeq (tIfS (tOr (tTest (tOp rIsN (tVar 0) (tC .non))) (tTest (tOp rIsN (tVar 1) (tC .non)))) (tSeq (tRet (tC .non)) (tNext)) (tNext)) (tSeq (tRet (tOp rAddI (tVar 0) (tVar 1))) (tNext))
theorem der_together {P : Program} {w : World} {K : PySem.W.Frag} {mg : Str → Option Value} {base : Heap} (W : Wd K mg)  {f : Addr} {cdv : Value} {A : Around} {outer : List Env} {s : Shared} {H : Hp} {E : XK} (hr : Room 0 (A.deeper (envOfC "together" (defScope s_together) s.heap.objs.size f cdv))) :
    PSs (cxOf CX0 P w K mg base N_together "together" (defScope s_together) f cdv A outer s H E).nox (defBody s_together) (t_together K) :=
  pss_cons (ps_if (PW.pt (pw_or (pt_cmpR op_isN (pv 0) (pe_non) (nomark _)) (pw_or1 (pt_cmpR op_isN (pv 1) (pe_non) (nomark _))))) (pss_cons (ps_ret (pe_non)) (pss_nil)) (pss_nil)) (pss_cons (ps_ret (pe_op op_add (pv 0) (pv 1))) (pss_nil))
/-! unlit -/
abbrev N_unlit : List Str := ["good", "found", "want", "loaf", "keep", "fine"]
abbrev p_unlit : List Str := ["good"]
theorem sc_unlit : FnScope N_unlit p_unlit (defScope s_unlit) := ⟨rfl, rfl, rfl, by decide +kernel, rfl, by decide +kernel, by decide +kernel⟩
def t_unlit (K : PySem.W.Frag) : TS := tSeq (tAsg (tLst (tCons (tC (.int 0)) (tNil))) (gName 1)) (tSeq (tFor (iList K (tOp (rIx K) (tVar 0) (tC (.int 0)))) (gTup K 4 (gCons (gName 2) (gCons (gName 3) (gCons (gName 4) (gCons (gName 5) (gNil)))))) (tSeq (tDrop (tBM K "list" rAppend (tVar 1) (tCons (tIf (tTest (tOp rEq (tVar 2) (tC (.int 0)))) (tOp (rIx K) (tVar 1) (tUn rNegI (tC (.int 1)))) (tC .non)) (tNil)))) (tNext))) (tSeq (tRet (tVar 1)) (tNext)))
theorem der_unlit {P : Program} {w : World} {K : PySem.W.Frag} {mg : Str → Option Value} {base : Heap} (W : Wd K mg)  {f : Addr} {cdv : Value} {A : Around} {outer : List Env} {s : Shared} {H : Hp} {E : XK} (hr : Room 0 (A.deeper (envOfC "unlit" (defScope s_unlit) s.heap.objs.size f cdv))) :
    PSs (cxOf CX0 P w K mg base N_unlit "unlit" (defScope s_unlit) f cdv A outer s H E).nox (defBody s_unlit) (t_unlit K) :=
  pss_cons (ps_set (i := 1) sc_unlit.nd rfl (by first | exact Or.inl rfl | exact Or.inr rfl) (pe_lst (pa_cons (pe_int) (pa_nil)))) (pss_cons (ps_for PassesOwn.never (by rfl) (pi_list (pe_ix ix_seq (pv 0) (pe_int) (fun _ _ => rfl))) (pg_tup (by rfl) (pgs_cons (pg_name (i := 2) sc_unlit.nd rfl (by first | exact Or.inl rfl | exact Or.inr rfl)) (pgs_cons (pg_name (i := 3) sc_unlit.nd rfl (by first | exact Or.inl rfl | exact Or.inr rfl)) (pgs_cons (pg_name (i := 4) sc_unlit.nd rfl (by first | exact Or.inl rfl | exact Or.inr rfl)) (pgs_cons (pg_name (i := 5) sc_unlit.nd rfl (by first | exact Or.inl rfl | exact Or.inr rfl)) (pgs_nil)))))) (pss_cons (ps_expr (pe_bm PySem.F.plainAttrs_list PySem.F.slot_list_append PySem.F.type_list_append mt_append (pv 1) (pa_cons (pe_ifExp (pt_cmpR op_eq (pv 2) (pe_int) (nomark _)) (pe_ix ix_seq (pv 1) (pe_un un_neg (pe_int)) (fun _ _ => rfl)) (pe_non)) (pa_nil)))) (pss_nil))) (pss_cons (ps_ret (pv 1)) (pss_nil)))
/-! lit_row -/
abbrev N_lit_row : List Str := ["light", "costs", "known", "found", "best", "day", "cost"]
abbrev p_lit_row : List Str := ["light", "costs", "known"]
theorem sc_lit_row : FnScope N_lit_row p_lit_row (defScope s_lit_row) := ⟨rfl, rfl, rfl, by decide +kernel, rfl, by decide +kernel, by decide +kernel⟩
def t_lit_row (K : PySem.W.Frag) : TS := tSeq (tAsg (tLst (tCons (tC .non) (tNil))) (gName 3)) (tSeq (tAsg (tC .non) (gName 4)) (tSeq (tFor (iEnum K (tCons (tVar 1) (tNil))) (gTup K 2 (gCons (gName 5) (gCons (gName 6) (gNil)))) (tSeq (tAsg (tCall (sp_together K) [] E0 (tCons (tCall (sp_lesser K) [] E0 (tCons (tVar 4) (tCons (tOp (rIx K) (tVar 2) (tVar 5)) (tNil)))) (tCons (tVar 6) (tNil)))) (gName 4)) (tSeq (tDrop (tBM K "list" rAppend (tVar 3) (tCons (tCall (sp_together K) [] E0 (tCons (tVar 4) (tCons (tVar 0) (tNil)))) (tNil)))) (tNext)))) (tSeq (tRet (tVar 3)) (tNext))))
theorem der_lit_row {P : Program} {w : World} {K : PySem.W.Frag} {mg : Str → Option Value} {base : Heap} (W : Wd K mg) (C_lesser : Cal P w K mg base CX0 1 "lesser" p_lesser (sp_lesser K)) (C_together : Cal P w K mg base CX0 1 "together" p_together (sp_together K)) {f : Addr} {cdv : Value} {A : Around} {outer : List Env} {s : Shared} {H : Hp} {E : XK} (hr : Room 1 (A.deeper (envOfC "lit_row" (defScope s_lit_row) s.heap.objs.size f cdv))) :
    PSs (cxOf CX0 P w K mg base N_lit_row "lit_row" (defScope s_lit_row) f cdv A outer s H E).nox (defBody s_lit_row) (t_lit_row K) :=
  pss_cons (ps_set (i := 3) sc_lit_row.nd rfl (by first | exact Or.inl rfl | exact Or.inr rfl) (pe_lst (pa_cons (pe_non) (pa_nil)))) (pss_cons (ps_set (i := 4) sc_lit_row.nd rfl (by first | exact Or.inl rfl | exact Or.inr rfl) (pe_non)) (pss_cons (ps_for PassesOwn.never (by rfl) (pi_enum (by rfl) W.b_enumerate (pa_cons (pv 1) (pa_nil))) (pg_tup (by rfl) (pgs_cons (pg_name (i := 5) sc_lit_row.nd rfl (by first | exact Or.inl rfl | exact Or.inr rfl)) (pgs_cons (pg_name (i := 6) sc_lit_row.nd rfl (by first | exact Or.inl rfl | exact Or.inr rfl)) (pgs_nil)))) (pss_cons (ps_set (i := 4) sc_lit_row.nd rfl (by first | exact Or.inl rfl | exact Or.inr rfl) (pe_cal C_together (hr.mono (by decide)) (by rfl) (pa_cons (pe_cal C_lesser (hr.mono (by decide)) (by rfl) (pa_cons (pv 4) (pa_cons (pe_ix ix_seq (pv 2) (pv 5) (fun _ _ => rfl)) (pa_nil)))) (pa_cons (pv 6) (pa_nil))))) (pss_cons (ps_expr (pe_bm PySem.F.plainAttrs_list PySem.F.slot_list_append PySem.F.type_list_append mt_append (pv 3) (pa_cons (pe_cal C_together (hr.mono (by decide)) (by rfl) (pa_cons (pv 4) (pa_cons (pv 0) (pa_nil)))) (pa_nil)))) (pss_nil)))) (pss_cons (ps_ret (pv 3)) (pss_nil))))
/-! known_rows -/
abbrev N_known_rows : List Str := ["bakery", "good", "rows", "day", "light", "own", "one", "other"]
abbrev p_known_rows : List Str := ["bakery"]
theorem sc_known_rows : FnScope N_known_rows p_known_rows (defScope s_known_rows) := ⟨rfl, rfl, rfl, by decide +kernel, rfl, by decide +kernel, by decide +kernel⟩
def t_known_rows (K : PySem.W.Frag) : TS := tSeq (tAsg (tOp (rIx K) (tOp (rIx K) (tVar 0) (tC (.int 2))) (tC (.int 0))) (gName 1)) (tSeq (tAsg (tLst (tCons (tCall (sp_unlit K) [] E0 (tCons (tVar 1) (tNil))) (tNil))) (gName 2)) (tSeq (tFor (iEnum K (tCons (tOp (rIx K) (tVar 0) (tC (.int 0))) (tNil))) (gTup K 2 (gCons (gName 3) (gCons (gName 4) (gNil)))) (tSeq (tAsg (tCall (sp_lit_row K) [] E0 (tCons (tVar 4) (tCons (tCall (sp_wants_from K) [] E0 (tCons (tVar 1) (tCons (tVar 3) (tNil)))) (tCons (tOp (rIx K) (tVar 2) (tUn rNegI (tC (.int 1)))) (tNil))))) (gName 5)) (tSeq (tDrop (tBM K "list" rAppend (tVar 2) (tCons (tLc (iZip K (tCons (tOp (rIx K) (tVar 2) (tUn rNegI (tC (.int 1)))) (tCons (tVar 5) (tNil)))) (gTup K 2 (gCons (gName 6) (gCons (gName 7) (gNil)))) (tYes) (tCall (sp_lesser K) [] E0 (tCons (tVar 6) (tCons (tVar 7) (tNil)))) [6, 7]) (tNil)))) (tNext)))) (tSeq (tRet (tVar 2)) (tNext))))
theorem der_known_rows {P : Program} {w : World} {K : PySem.W.Frag} {mg : Str → Option Value} {base : Heap} (W : Wd K mg) (C_lesser : Cal P w K mg base CX0 1 "lesser" p_lesser (sp_lesser K)) (C_lit_row : Cal P w K mg base CX0 2 "lit_row" p_lit_row (sp_lit_row K)) (C_unlit : Cal P w K mg base CX0 1 "unlit" p_unlit (sp_unlit K)) (C_wants_from : Cal P w K mg base CX0 4 "wants_from" p_wants_from (sp_wants_from K)) {f : Addr} {cdv : Value} {A : Around} {outer : List Env} {s : Shared} {H : Hp} {E : XK} (hr : Room 4 (A.deeper (envOfC "known_rows" (defScope s_known_rows) s.heap.objs.size f cdv))) :
    PSs (cxOf CX0 P w K mg base N_known_rows "known_rows" (defScope s_known_rows) f cdv A outer s H E).nox (defBody s_known_rows) (t_known_rows K) :=
  pss_cons (ps_set (i := 1) sc_known_rows.nd rfl (by first | exact Or.inl rfl | exact Or.inr rfl) (pe_ix ix_seq (pe_ix ix_seq (pv 0) (pe_int) (fun _ _ => rfl)) (pe_int) (fun _ _ => rfl))) (pss_cons (ps_set (i := 2) sc_known_rows.nd rfl (by first | exact Or.inl rfl | exact Or.inr rfl) (pe_lst (pa_cons (pe_cal C_unlit (hr.mono (by decide)) (by rfl) (pa_cons (pv 1) (pa_nil))) (pa_nil)))) (pss_cons (ps_for PassesOwn.never (by rfl) (pi_enum (by rfl) W.b_enumerate (pa_cons (pe_ix ix_seq (pv 0) (pe_int) (fun _ _ => rfl)) (pa_nil))) (pg_tup (by rfl) (pgs_cons (pg_name (i := 3) sc_known_rows.nd rfl (by first | exact Or.inl rfl | exact Or.inr rfl)) (pgs_cons (pg_name (i := 4) sc_known_rows.nd rfl (by first | exact Or.inl rfl | exact Or.inr rfl)) (pgs_nil)))) (pss_cons (ps_set (i := 5) sc_known_rows.nd rfl (by first | exact Or.inl rfl | exact Or.inr rfl) (pe_cal C_lit_row (hr.mono (by decide)) (by rfl) (pa_cons (pv 4) (pa_cons (pe_cal C_wants_from (hr.mono (by decide)) (by rfl) (pa_cons (pv 1) (pa_cons (pv 3) (pa_nil)))) (pa_cons (pe_ix ix_seq (pv 2) (pe_un un_neg (pe_int)) (fun _ _ => rfl)) (pa_nil)))))) (pss_cons (ps_expr (pe_bm PySem.F.plainAttrs_list PySem.F.slot_list_append PySem.F.type_list_append mt_append (pv 2) (pa_cons (pe_lc (own := [("one", 6), ("other", 7)]) (by rfl) sc_known_rows.nd (pi_zip (by rfl) W.b_zip (pa_cons (pe_ix ix_seq (pv 2) (pe_un un_neg (pe_int)) (fun _ _ => rfl)) (pa_cons (pv 5) (pa_nil)))) (blkOk_by (own := [("one", 6), ("other", 7)]) (N := N_known_rows) (sc := defScope s_known_rows) (by decide +kernel)) (fun _ _ _ _ _ => pg_tup (by rfl) (pgs_cons (pg_name (i := 6) sc_known_rows.nd rfl (by first | exact Or.inl rfl | exact Or.inr rfl)) (pgs_cons (pg_name (i := 7) sc_known_rows.nd rfl (by first | exact Or.inl rfl | exact Or.inr rfl)) (pgs_nil)))) (fun _ _ _ _ _ => pts_nil) (fun _ _ _ _ _ => pe_cal C_lesser (hr.mono (by decide)) (by rfl) (pa_cons (pv 6) (pa_cons (pv 7) (pa_nil))))) (pa_nil)))) (pss_nil)))) (pss_cons (ps_ret (pv 2)) (pss_nil))))
/-! least_row -/
abbrev N_least_row : List Str := ["bakery", "many", "row"]
abbrev p_least_row : List Str := ["bakery"]
theorem sc_least_row : FnScope N_least_row p_least_row (defScope s_least_row) := ⟨rfl, rfl, rfl, by decide +kernel, rfl, by decide +kernel, by decide +kernel⟩
def t_least_row (K : PySem.W.Frag) : TS := tSeq (tDrop (tCall (sp_look_at_plain K) [] E0 (tCons (tVar 0) (tNil)))) (tSeq (tRet (tLc (iEnum K (tCons (tCall (sp_known_rows K) [] E0 (tCons (tVar 0) (tNil))) (tNil))) (gTup K 2 (gCons (gName 1) (gCons (gName 2) (gNil)))) (tYes) (tOp (rIx K) (tVar 2) (tVar 1)) [1, 2])) (tNext))
theorem der_least_row {P : Program} {w : World} {K : PySem.W.Frag} {mg : Str → Option Value} {base : Heap} (W : Wd K mg) (C_known_rows : Cal P w K mg base CX0 5 "known_rows" p_known_rows (sp_known_rows K)) (C_look_at_plain : Cal P w K mg base CX0 8 "look_at_plain" p_look_at_plain (sp_look_at_plain K)) {f : Addr} {cdv : Value} {A : Around} {outer : List Env} {s : Shared} {H : Hp} {E : XK} (hr : Room 8 (A.deeper (envOfC "least_row" (defScope s_least_row) s.heap.objs.size f cdv))) :
    PSs (cxOf CX0 P w K mg base N_least_row "least_row" (defScope s_least_row) f cdv A outer s H E).nox (defBody s_least_row) (t_least_row K) :=
  pss_cons (ps_expr (pe_cal C_look_at_plain (hr.mono (by decide)) (by rfl) (pa_cons (pv 0) (pa_nil)))) (pss_cons (ps_ret (pe_lc (own := [("many", 1), ("row", 2)]) (by rfl) sc_least_row.nd (pi_enum (by rfl) W.b_enumerate (pa_cons (pe_cal C_known_rows (hr.mono (by decide)) (by rfl) (pa_cons (pv 0) (pa_nil))) (pa_nil))) (blkOk_by (own := [("many", 1), ("row", 2)]) (N := N_least_row) (sc := defScope s_least_row) (by decide +kernel)) (fun _ _ _ _ _ => pg_tup (by rfl) (pgs_cons (pg_name (i := 1) sc_least_row.nd rfl (by first | exact Or.inl rfl | exact Or.inr rfl)) (pgs_cons (pg_name (i := 2) sc_least_row.nd rfl (by first | exact Or.inl rfl | exact Or.inr rfl)) (pgs_nil)))) (fun _ _ _ _ _ => pts_nil) (fun _ _ _ _ _ => pe_ix ix_seq (pv 2) (pv 1) (fun _ _ => rfl)))) (pss_nil))
/-! are_rungs -/
abbrev N_are_rungs : List Str := ["thing", "many", "one"]
abbrev p_are_rungs : List Str := ["thing", "many"]
theorem sc_are_rungs : FnScope N_are_rungs p_are_rungs (defScope s_are_rungs) := ⟨rfl, rfl, rfl, by decide +kernel, rfl, by decide +kernel, by decide +kernel⟩
def t_are_rungs (K : PySem.W.Frag) : TS := tSeq (tRet (tAndV (tCB (rIsi K) (tCons (tVar 0) (tCons (tC (.ty "list")) (tNil)))) (tAndV (tOp rEq (tCB (rLenS K) (tCons (tVar 0) (tNil))) (tVar 1)) (tCB (rAll K) (tCons (tLc (iList K (tVar 0)) (gName 2) (tYes) (tCall (sp_is_whole K) [] E0 (tCons (tVar 2) (tNil))) [2]) (tNil)))))) (tNext)
theorem der_are_rungs {P : Program} {w : World} {K : PySem.W.Frag} {mg : Str → Option Value} {base : Heap} (W : Wd K mg) (C_is_whole : Cal P w K mg base CX0 1 "is_whole" p_is_whole (sp_is_whole K)) {f : Addr} {cdv : Value} {A : Around} {outer : List Env} {s : Shared} {H : Hp} {E : XK} (hr : Room 1 (A.deeper (envOfC "are_rungs" (defScope s_are_rungs) s.heap.objs.size f cdv))) :
    PSs (cxOf CX0 P w K mg base N_are_rungs "are_rungs" (defScope s_are_rungs) f cdv A outer s H E).nox (defBody s_are_rungs) (t_are_rungs K) :=
  pss_cons (ps_ret (pe_and (pe_callB call_isi (by rfl) W.b_isinstance (by decide +kernel) (pa_cons (pv 0) (pa_cons (pe_bltn (by rfl) W.b_list (by decide +kernel) rfl) (pa_nil)))) (pe_and (pe_cmpR op_eq (pe_callB call_len_seq (by rfl) W.b_len PySem.boot_len (pa_cons (pv 0) (pa_nil))) (pv 1) (nomark _)) (pe_one (pe_callB (cr_all (by rfl)) (by rfl) W.b_all (by decide +kernel) (pa_cons (pe_lc (own := [("one", 2)]) (by rfl) sc_are_rungs.nd (pi_list (pv 0)) (blkOk_by (own := [("one", 2)]) (N := N_are_rungs) (sc := defScope s_are_rungs) (by decide +kernel)) (fun _ _ _ _ _ => pg_name (i := 2) sc_are_rungs.nd rfl (by first | exact Or.inl rfl | exact Or.inr rfl)) (fun _ _ _ _ _ => pts_nil) (fun _ _ _ _ _ => pe_cal C_is_whole (hr.mono (by decide)) (by rfl) (pa_cons (pv 2) (pa_nil)))) (pa_nil))))))) (pss_nil)
/-! is_ladder -/
abbrev N_is_ladder : List Str := ["bakery", "thing", "many", "rungs"]
abbrev p_is_ladder : List Str := ["bakery", "thing"]
theorem sc_is_ladder : FnScope N_is_ladder p_is_ladder (defScope s_is_ladder) := ⟨rfl, rfl, rfl, by decide +kernel, rfl, by decide +kernel, by decide +kernel⟩
def t_is_ladder (K : PySem.W.Frag) : TS := tSeq (tAsg (tCB (rLenS K) (tCons (tOp (rIx K) (tVar 0) (tC (.int 0))) (tNil))) (gName 2)) (tSeq (tIfS (tOr (tNot (tB (tCB (rIsi K) (tCons (tVar 1) (tCons (tC (.ty "tuple")) (tNil)))))) (tOr (tTest (tOp rNe (tCB (rLenS K) (tCons (tVar 1) (tNil))) (tC (.int 2)))) (tOr (tNot (tB (tCall (sp_are_rungs K) [] E0 (tCons (tOp (rIx K) (tVar 1) (tC (.int 0))) (tCons (tOp rAddI (tVar 2) (tC (.int 1))) (tNil)))))) (tTest (tOp rNe (tOp (rIx K) (tOp (rIx K) (tVar 1) (tC (.int 0))) (tC (.int 0))) (tC (.int 0))))))) (tSeq (tRet (tC (.bl false))) (tNext)) (tNext)) (tSeq (tIfS (tOr (tNot (tB (tCB (rIsi K) (tCons (tOp (rIx K) (tVar 1) (tC (.int 1))) (tCons (tC (.ty "list")) (tNil)))))) (tTest (tOp rNe (tCB (rLenS K) (tCons (tOp (rIx K) (tVar 1) (tC (.int 1))) (tNil))) (tVar 2)))) (tSeq (tRet (tC (.bl false))) (tNext)) (tNext)) (tSeq (tRet (tCB (rAll K) (tCons (tLc (iList K (tOp (rIx K) (tVar 1) (tC (.int 1)))) (gName 3) (tYes) (tCall (sp_are_rungs K) [] E0 (tCons (tVar 3) (tCons (tOp rAddI (tVar 2) (tC (.int 1))) (tNil)))) [3]) (tNil)))) (tNext))))
theorem der_is_ladder {P : Program} {w : World} {K : PySem.W.Frag} {mg : Str → Option Value} {base : Heap} (W : Wd K mg) (C_are_rungs : Cal P w K mg base CX0 2 "are_rungs" p_are_rungs (sp_are_rungs K)) {f : Addr} {cdv : Value} {A : Around} {outer : List Env} {s : Shared} {H : Hp} {E : XK} (hr : Room 2 (A.deeper (envOfC "is_ladder" (defScope s_is_ladder) s.heap.objs.size f cdv))) :
    PSs (cxOf CX0 P w K mg base N_is_ladder "is_ladder" (defScope s_is_ladder) f cdv A outer s H E).nox (defBody s_is_ladder) (t_is_ladder K) :=
  pss_cons (ps_set (i := 2) sc_is_ladder.nd rfl (by first | exact Or.inl rfl | exact Or.inr rfl) (pe_callB call_len_seq (by rfl) W.b_len PySem.boot_len (pa_cons (pe_ix ix_seq (pv 0) (pe_int) (fun _ _ => rfl)) (pa_nil)))) (pss_cons (ps_if (PW.pt (pw_or (pt_not (pt_val (pe_callB call_isi (by rfl) W.b_isinstance (by decide +kernel) (pa_cons (pv 1) (pa_cons (pe_bltn (by rfl) W.b_tuple (by decide +kernel) rfl) (pa_nil)))))) (pw_or (pt_cmpR op_ne (pe_callB call_len_seq (by rfl) W.b_len PySem.boot_len (pa_cons (pv 1) (pa_nil))) (pe_int) (nomark _)) (pw_or (pt_not (pt_val (pe_cal C_are_rungs (hr.mono (by decide)) (by rfl) (pa_cons (pe_ix ix_seq (pv 1) (pe_int) (fun _ _ => rfl)) (pa_cons (pe_op op_add (pv 2) (pe_int)) (pa_nil)))))) (pw_or1 (pt_cmpR op_ne (pe_ix ix_seq (pe_ix ix_seq (pv 1) (pe_int) (fun _ _ => rfl)) (pe_int) (fun _ _ => rfl)) (pe_int) (nomark _))))))) (pss_cons (ps_ret (pe_bl)) (pss_nil)) (pss_nil)) (pss_cons (ps_if (PW.pt (pw_or (pt_not (pt_val (pe_callB call_isi (by rfl) W.b_isinstance (by decide +kernel) (pa_cons (pe_ix ix_seq (pv 1) (pe_int) (fun _ _ => rfl)) (pa_cons (pe_bltn (by rfl) W.b_list (by decide +kernel) rfl) (pa_nil)))))) (pw_or1 (pt_cmpR op_ne (pe_callB call_len_seq (by rfl) W.b_len PySem.boot_len (pa_cons (pe_ix ix_seq (pv 1) (pe_int) (fun _ _ => rfl)) (pa_nil))) (pv 2) (nomark _))))) (pss_cons (ps_ret (pe_bl)) (pss_nil)) (pss_nil)) (pss_cons (ps_ret (pe_callB (cr_all (by rfl)) (by rfl) W.b_all (by decide +kernel) (pa_cons (pe_lc (own := [("rungs", 3)]) (by rfl) sc_is_ladder.nd (pi_list (pe_ix ix_seq (pv 1) (pe_int) (fun _ _ => rfl))) (blkOk_by (own := [("rungs", 3)]) (N := N_is_ladder) (sc := defScope s_is_ladder) (by decide +kernel)) (fun _ _ _ _ _ => pg_name (i := 3) sc_is_ladder.nd rfl (by first | exact Or.inl rfl | exact Or.inr rfl)) (fun _ _ _ _ _ => pts_nil) (fun _ _ _ _ _ => pe_cal C_are_rungs (hr.mono (by decide)) (by rfl) (pa_cons (pv 3) (pa_cons (pe_op op_add (pv 2) (pe_int)) (pa_nil))))) (pa_nil)))) (pss_nil))))
/-! climbs -/
abbrev N_climbs : List Str := ["rungs", "light", "costs", "first", "total", "last"]
abbrev p_climbs : List Str := ["rungs", "light", "costs"]
theorem sc_climbs : FnScope N_climbs p_climbs (defScope s_climbs) := ⟨rfl, rfl, rfl, by decide +kernel, rfl, by decide +kernel, by decide +kernel⟩
def t_climbs (K : PySem.W.Frag) : TS := tSeq (tFor (iRng1 (tCons (tCB (rLenS K) (tCons (tVar 2) (tNil))) (tNil))) (gName 3) (tSeq (tAsg (tVar 1) (gName 4)) (tSeq (tFor (iRng2 (tCons (tVar 3) (tCons (tCB (rLenS K) (tCons (tVar 2) (tNil))) (tNil)))) (gName 5) (tSeq (tIfS (tTest (tOp rIsN (tOp (rIx K) (tVar 2) (tVar 5)) (tC .non))) (tSeq (tBreak) (tNext)) (tNext)) (tSeq (tAug 4 (tOp (rIx K) (tVar 2) (tVar 5)) (ipI fun i j => i + j)) (tSeq (tIfS (tTest (tOp rGtI (tOp (rIx K) (tVar 0) (tOp rAddI (tVar 5) (tC (.int 1)))) (tOp rAddI (tOp (rIx K) (tVar 0) (tVar 3)) (tVar 4)))) (tSeq (tRet (tC (.bl false))) (tNext)) (tNext)) (tNext))))) (tNext)))) (tSeq (tRet (tC (.bl true))) (tNext))
theorem der_climbs {P : Program} {w : World} {K : PySem.W.Frag} {mg : Str → Option Value} {base : Heap} (W : Wd K mg)  {f : Addr} {cdv : Value} {A : Around} {outer : List Env} {s : Shared} {H : Hp} {E : XK} (hr : Room 0 (A.deeper (envOfC "climbs" (defScope s_climbs) s.heap.objs.size f cdv))) :
    PSs (cxOf CX0 P w K mg base N_climbs "climbs" (defScope s_climbs) f cdv A outer s H E).nox (defBody s_climbs) (t_climbs K) :=
  pss_cons (ps_for PassesOwn.never (by rfl) (pi_range1 (by rfl) W.b_range (pa_cons (pe_callB call_len_seq (by rfl) W.b_len PySem.boot_len (pa_cons (pv 2) (pa_nil))) (pa_nil))) (pg_name (i := 3) sc_climbs.nd rfl (by first | exact Or.inl rfl | exact Or.inr rfl)) (pss_cons (ps_set (i := 4) sc_climbs.nd rfl (by first | exact Or.inl rfl | exact Or.inr rfl) (pv 1)) (pss_cons (ps_for PassesOwn.never (by rfl) (pi_range2 (by rfl) W.b_range (pa_cons (pv 3) (pa_cons (pe_callB call_len_seq (by rfl) W.b_len PySem.boot_len (pa_cons (pv 2) (pa_nil))) (pa_nil)))) (pg_name (i := 5) sc_climbs.nd rfl (by first | exact Or.inl rfl | exact Or.inr rfl)) (pss_cons (ps_if (pt_cmpR op_isN (pe_ix ix_seq (pv 2) (pv 5) (fun _ _ => rfl)) (pe_non) (nomark _)) (pss_cons (ps_break) (pss_nil)) (pss_nil)) (pss_cons (ps_aug (i := 4) sc_climbs.nd rfl (by first | exact Or.inl rfl | exact Or.inr rfl) (pe_ix ix_seq (pv 2) (pv 5) (fun _ _ => rfl)) ip_add) (pss_cons (ps_if (pt_cmpR op_gt (pe_ix ix_seq (pv 0) (pe_op op_add (pv 5) (pe_int)) (fun _ _ => rfl)) (pe_op op_add (pe_ix ix_seq (pv 0) (pv 3) (fun _ _ => rfl)) (pv 4)) (nomark _)) (pss_cons (ps_ret (pe_bl)) (pss_nil)) (pss_nil)) (pss_nil))))) (pss_nil)))) (pss_cons (ps_ret (pe_bl)) (pss_nil))
/-! rests -/
abbrev N_rests : List Str := ["rungs", "bakery", "day", "row"]
abbrev p_rests : List Str := ["rungs", "bakery"]
theorem sc_rests : FnScope N_rests p_rests (defScope s_rests) := ⟨rfl, rfl, rfl, by decide +kernel, rfl, by decide +kernel, by decide +kernel⟩
def t_rests (K : PySem.W.Frag) : TS := tSeq (tFor (iEnum K (tCons (tOp (rIx K) (tOp (rIx K) (tOp (rIx K) (tVar 1) (tC (.int 2))) (tC (.int 0))) (tC (.int 0))) (tNil))) (gTup K 2 (gCons (gName 2) (gCons (gName 3) (gNil)))) (tSeq (tIfS (tAnd (tTest (tOp rEq (tOp (rIx K) (tVar 3) (tC (.int 0))) (tC (.int 0)))) (tTest (tOp rGtI (tOp (rIx K) (tVar 0) (tOp rAddI (tVar 2) (tC (.int 1)))) (tOp (rIx K) (tVar 0) (tVar 2))))) (tSeq (tRet (tC (.bl false))) (tNext)) (tNext)) (tNext))) (tSeq (tRet (tC (.bl true))) (tNext))
theorem der_rests {P : Program} {w : World} {K : PySem.W.Frag} {mg : Str → Option Value} {base : Heap} (W : Wd K mg)  {f : Addr} {cdv : Value} {A : Around} {outer : List Env} {s : Shared} {H : Hp} {E : XK} (hr : Room 0 (A.deeper (envOfC "rests" (defScope s_rests) s.heap.objs.size f cdv))) :
    PSs (cxOf CX0 P w K mg base N_rests "rests" (defScope s_rests) f cdv A outer s H E).nox (defBody s_rests) (t_rests K) :=
  pss_cons (ps_for PassesOwn.never (by rfl) (pi_enum (by rfl) W.b_enumerate (pa_cons (pe_ix ix_seq (pe_ix ix_seq (pe_ix ix_seq (pv 1) (pe_int) (fun _ _ => rfl)) (pe_int) (fun _ _ => rfl)) (pe_int) (fun _ _ => rfl)) (pa_nil))) (pg_tup (by rfl) (pgs_cons (pg_name (i := 2) sc_rests.nd rfl (by first | exact Or.inl rfl | exact Or.inr rfl)) (pgs_cons (pg_name (i := 3) sc_rests.nd rfl (by first | exact Or.inl rfl | exact Or.inr rfl)) (pgs_nil)))) (pss_cons (ps_if (PW.pt (pw_and (pt_cmpR op_eq (pe_ix ix_seq (pv 3) (pe_int) (fun _ _ => rfl)) (pe_int) (nomark _)) (pw_and1 (pt_cmpR op_gt (pe_ix ix_seq (pv 0) (pe_op op_add (pv 2) (pe_int)) (fun _ _ => rfl)) (pe_ix ix_seq (pv 0) (pv 2) (fun _ _ => rfl)) (nomark _))))) (pss_cons (ps_ret (pe_bl)) (pss_nil)) (pss_nil)) (pss_nil))) (pss_cons (ps_ret (pe_bl)) (pss_nil))
/-! holds_for -/
abbrev N_holds_for : List Str := ["bakery", "doughs", "ladder", "mixed", "free", "rungs", "one", "other", "baked"]
abbrev p_holds_for : List Str := ["bakery", "doughs", "ladder", "mixed"]
theorem sc_holds_for : FnScope N_holds_for p_holds_for (defScope s_holds_for) := ⟨rfl, rfl, rfl, by decide +kernel, rfl, by decide +kernel, by decide +kernel⟩
def t_holds_for (K : PySem.W.Frag) : TS := tSeq (tAsg (tOp (rIx K) (tVar 2) (tC (.int 0))) (gName 4)) (tSeq (tAsg (tOp (rIx K) (tOp (rIx K) (tVar 2) (tC (.int 1))) (tVar 3)) (gName 5)) (tSeq (tFor (iZip K (tCons (tVar 4) (tCons (tVar 5) (tNil)))) (gTup K 2 (gCons (gName 6) (gCons (gName 7) (gNil)))) (tSeq (tIfS (tOr (tTest (tOp rGtI (tVar 6) (tVar 7))) (tTest (tOp rGtI (tVar 7) (tOp rAddI (tVar 6) (tOp (rIx K) (tOp (rIx K) (tVar 1) (tVar 3)) (tC (.int 0))))))) (tSeq (tRet (tC (.bl false))) (tNext)) (tNext)) (tNext))) (tSeq (tIfS (tNot (tB (tCall (sp_rests K) [] E0 (tCons (tVar 5) (tCons (tVar 0) (tNil)))))) (tSeq (tRet (tC (.bl false))) (tNext)) (tNext)) (tSeq (tFor (iRng2 (tCons (tVar 3) (tCons (tCB (rLenS K) (tCons (tOp (rIx K) (tVar 0) (tC (.int 0))) (tNil))) (tNil)))) (gName 8) (tSeq (tIfS (tNot (tB (tCall (sp_climbs K) [] E0 (tCons (tVar 5) (tCons (tOp (rIx K) (tOp (rIx K) (tVar 0) (tC (.int 0))) (tVar 8)) (tCons (tCall (sp_batch_costs K) [] E0 (tCons (tVar 0) (tCons (tVar 1) (tCons (tVar 3) (tCons (tVar 8) (tNil)))))) (tNil))))))) (tSeq (tRet (tC (.bl false))) (tNext)) (tNext)) (tNext))) (tSeq (tRet (tC (.bl true))) (tNext))))))
theorem der_holds_for {P : Program} {w : World} {K : PySem.W.Frag} {mg : Str → Option Value} {base : Heap} (W : Wd K mg) (C_batch_costs : Cal P w K mg base CX0 5 "batch_costs" p_batch_costs (sp_batch_costs K)) (C_climbs : Cal P w K mg base CX0 1 "climbs" p_climbs (sp_climbs K)) (C_rests : Cal P w K mg base CX0 1 "rests" p_rests (sp_rests K)) {f : Addr} {cdv : Value} {A : Around} {outer : List Env} {s : Shared} {H : Hp} {E : XK} (hr : Room 5 (A.deeper (envOfC "holds_for" (defScope s_holds_for) s.heap.objs.size f cdv))) :
    PSs (cxOf CX0 P w K mg base N_holds_for "holds_for" (defScope s_holds_for) f cdv A outer s H E).nox (defBody s_holds_for) (t_holds_for K) :=
  pss_cons (ps_set (i := 4) sc_holds_for.nd rfl (by first | exact Or.inl rfl | exact Or.inr rfl) (pe_ix ix_seq (pv 2) (pe_int) (fun _ _ => rfl))) (pss_cons (ps_set (i := 5) sc_holds_for.nd rfl (by first | exact Or.inl rfl | exact Or.inr rfl) (pe_ix ix_seq (pe_ix ix_seq (pv 2) (pe_int) (fun _ _ => rfl)) (pv 3) (fun _ _ => rfl))) (pss_cons (ps_for PassesOwn.never (by rfl) (pi_zip (by rfl) W.b_zip (pa_cons (pv 4) (pa_cons (pv 5) (pa_nil)))) (pg_tup (by rfl) (pgs_cons (pg_name (i := 6) sc_holds_for.nd rfl (by first | exact Or.inl rfl | exact Or.inr rfl)) (pgs_cons (pg_name (i := 7) sc_holds_for.nd rfl (by first | exact Or.inl rfl | exact Or.inr rfl)) (pgs_nil)))) (pss_cons (ps_if (PW.pt (pw_or (pt_cmpR op_gt (pv 6) (pv 7) (nomark _)) (pw_or1 (pt_cmpR op_gt (pv 7) (pe_op op_add (pv 6) (pe_ix ix_seq (pe_ix ix_seq (pv 1) (pv 3) (fun _ _ => rfl)) (pe_int) (fun _ _ => rfl))) (nomark _))))) (pss_cons (ps_ret (pe_bl)) (pss_nil)) (pss_nil)) (pss_nil))) (pss_cons (ps_if (pt_not (pt_val (pe_cal C_rests (hr.mono (by decide)) (by rfl) (pa_cons (pv 5) (pa_cons (pv 0) (pa_nil)))))) (pss_cons (ps_ret (pe_bl)) (pss_nil)) (pss_nil)) (pss_cons (ps_for PassesOwn.never (by rfl) (pi_range2 (by rfl) W.b_range (pa_cons (pv 3) (pa_cons (pe_callB call_len_seq (by rfl) W.b_len PySem.boot_len (pa_cons (pe_ix ix_seq (pv 0) (pe_int) (fun _ _ => rfl)) (pa_nil))) (pa_nil)))) (pg_name (i := 8) sc_holds_for.nd rfl (by first | exact Or.inl rfl | exact Or.inr rfl)) (pss_cons (ps_if (pt_not (pt_val (pe_cal C_climbs (hr.mono (by decide)) (by rfl) (pa_cons (pv 5) (pa_cons (pe_ix ix_seq (pe_ix ix_seq (pv 0) (pe_int) (fun _ _ => rfl)) (pv 8) (fun _ _ => rfl)) (pa_cons (pe_cal C_batch_costs (hr.mono (by decide)) (by rfl) (pa_cons (pv 0) (pa_cons (pv 1) (pa_cons (pv 3) (pa_cons (pv 8) (pa_nil)))))) (pa_nil))))))) (pss_cons (ps_ret (pe_bl)) (pss_nil)) (pss_nil)) (pss_nil))) (pss_cons (ps_ret (pe_bl)) (pss_nil))))))
/-! lets_ladder -/
abbrev N_lets_ladder : List Str := ["bakery", "doughs", "thing", "mixed"]
abbrev p_lets_ladder : List Str := ["bakery", "doughs", "thing"]
theorem sc_lets_ladder : FnScope N_lets_ladder p_lets_ladder (defScope s_lets_ladder) := ⟨rfl, rfl, rfl, by decide +kernel, rfl, by decide +kernel, by decide +kernel⟩
def t_lets_ladder (K : PySem.W.Frag) : TS := tSeq (tDrop (tCall (sp_look_at_doughs K) [] E0 (tCons (tVar 0) (tCons (tVar 1) (tNil))))) (tSeq (tIfS (tOr (tNot (tB (tCall (sp_is_ladder K) [] E0 (tCons (tVar 0) (tCons (tVar 2) (tNil)))))) (tNot (tB (tCall (sp_rests K) [] E0 (tCons (tOp (rIx K) (tVar 2) (tC (.int 0))) (tCons (tVar 0) (tNil))))))) (tSeq (tRet (tC (.bl false))) (tNext)) (tNext)) (tSeq (tRet (tCB (rAll K) (tCons (tLc (iRng1 (tCons (tCB (rLenS K) (tCons (tOp (rIx K) (tVar 0) (tC (.int 0))) (tNil))) (tNil))) (gName 3) (tYes) (tCall (sp_holds_for K) [] E0 (tCons (tVar 0) (tCons (tVar 1) (tCons (tVar 2) (tCons (tVar 3) (tNil)))))) [3]) (tNil)))) (tNext)))
theorem der_lets_ladder {P : Program} {w : World} {K : PySem.W.Frag} {mg : Str → Option Value} {base : Heap} (W : Wd K mg) (C_holds_for : Cal P w K mg base CX0 6 "holds_for" p_holds_for (sp_holds_for K)) (C_is_ladder : Cal P w K mg base CX0 3 "is_ladder" p_is_ladder (sp_is_ladder K)) (C_look_at_doughs : Cal P w K mg base (L2.CX P w) 9 "look_at_doughs" p_look_at_doughs (sp_look_at_doughs K)) (C_rests : Cal P w K mg base CX0 1 "rests" p_rests (sp_rests K)) {f : Addr} {cdv : Value} {A : Around} {outer : List Env} {s : Shared} {H : Hp} {E : XK} (hr : Room 9 (A.deeper (envOfC "lets_ladder" (defScope s_lets_ladder) s.heap.objs.size f cdv))) :
    PSs (cxOf CX0 P w K mg base N_lets_ladder "lets_ladder" (defScope s_lets_ladder) f cdv A outer s H E).nox (defBody s_lets_ladder) (t_lets_ladder K) :=
  pss_cons (ps_expr (pe_calX C_look_at_doughs (hr.mono (by decide)) (by rfl) (pa_cons (pv 0) (pa_cons (pv 1) (pa_nil))))) (pss_cons (ps_if (PW.pt (pw_or (pt_not (pt_val (pe_cal C_is_ladder (hr.mono (by decide)) (by rfl) (pa_cons (pv 0) (pa_cons (pv 2) (pa_nil)))))) (pw_or1 (pt_not (pt_val (pe_cal C_rests (hr.mono (by decide)) (by rfl) (pa_cons (pe_ix ix_seq (pv 2) (pe_int) (fun _ _ => rfl)) (pa_cons (pv 0) (pa_nil))))))))) (pss_cons (ps_ret (pe_bl)) (pss_nil)) (pss_nil)) (pss_cons (ps_ret (pe_callB (cr_all (by rfl)) (by rfl) W.b_all (by decide +kernel) (pa_cons (pe_lc (own := [("mixed", 3)]) (by rfl) sc_lets_ladder.nd (pi_range1 (by rfl) W.b_range (pa_cons (pe_callB call_len_seq (by rfl) W.b_len PySem.boot_len (pa_cons (pe_ix ix_seq (pv 0) (pe_int) (fun _ _ => rfl)) (pa_nil))) (pa_nil))) (blkOk_by (own := [("mixed", 3)]) (N := N_lets_ladder) (sc := defScope s_lets_ladder) (by decide +kernel)) (fun _ _ _ _ _ => pg_name (i := 3) sc_lets_ladder.nd rfl (by first | exact Or.inl rfl | exact Or.inr rfl)) (fun _ _ _ _ _ => pts_nil) (fun _ _ _ _ _ => pe_cal C_holds_for (hr.mono (by decide)) (by rfl) (pa_cons (pv 0) (pa_cons (pv 1) (pa_cons (pv 2) (pa_cons (pv 3) (pa_nil))))))) (pa_nil)))) (pss_nil)))
end K66

/-! ## R2 -/
set_option maxHeartbeats 4000000
namespace K66
open PySem PySem.Spec PyProof.Rows L2
section
variable {K : PySem.W.Frag} {σ : L2.St} {H H' : Hp} {ta tb tc te tx : TE} {v : V} {vs : List V} {Q : VK} {E : XK}
theorem at_int {xs : List Int} {i : Nat} (h : i < xs.length) : (xs.map V.int)[i]? = some (.int (at0 xs i)) := by
  rw [List.getElem?_map, List.getElem?_eq_getElem h]
  show some (V.int xs[i]) = some (V.int (xs.getD i 0))
  rw [List.getD_eq_getElem?_getD, List.getElem?_eq_getElem h]; rfl
theorem atI_int {xs : List Int} {i : Nat} (h : i < xs.length) : atI (xs.map V.int) (i : Int) = some (.int (at0 xs i)) := atI_nat (at_int h)
theorem atI_int1 {xs : List Int} {i : Nat} (h : i + 1 < xs.length) : atI (xs.map V.int) ((i : Int) + 1) = some (.int (at0 xs (i + 1))) := atI_int (i := i + 1) h
theorem range_at {α : Type} {m i : Nat} {f : Nat → α} (h : i < m) : ((List.range m).map f)[i]? = some (f i) := by
  rw [List.getElem?_map, List.getElem?_range h]; rfl
theorem atI_range {m i : Nat} {f : Nat → V} (h : i < m) : atI ((List.range m).map f) (i : Int) = some (f i) := atI_nat (range_at h)
/-- all([f(i) ..]) -/
theorem ev_allF {wi : TI} {g : TG} {ws : List Nat} {n : Nat} {Yt : Nat → V → Hp → Prop} (f : Nat → Bool) (hi : EvI wi σ H n Yt) (hn : n ≤ 40000)
    (hs : ∀ i x H1, Ex H H1 → i < n → Yt i x H1 → ∃ σ2, EvG g x (wipe σ ws) H1 σ2 ∧ wipe σ2 ws = wipe σ ws ∧ Ev te σ2 H1 (Is (.bl (f i)))) : Ev (tCB (rAll K) (tCons (tLc wi g tYes te ws) tNil)) σ H (Is (.bl (((List.range n).map f).all id))) := by
  refine ev_all (bs := (List.range n).map f) ?_
  rw [List.map_map]
  refine ev_lcX (Yt := Yt) (by rw [List.length_map, List.length_range]; exact hi) (by rw [List.length_map, List.length_range]; exact hn) fun i x H1 e hi' hx => ?_
  rw [List.length_map, List.length_range] at hi'
  obtain ⟨σ2, h1, h2, h3⟩ := hs i x H1 e hi' hx
  exact ⟨σ2, h1, h2, fun y hy => by
    obtain ⟨_, rfl⟩ := range_get hy
    exact h3⟩
/-! ### rows -/
theorem rd_lesser (h : sp_lesser K vs H Q E) : t_lesser K (DD Q) (start N_lesser vs) H := by
  obtain ⟨H0, P, e0, ⟨x, y, rfl, rfl⟩, k⟩ := h
  cases x with
  | none => exact Sx.at (x_if (b := true) (EvT.eq (et_or (a := true) (b := true) (EvT.eq (et_test (ev_isN (ev_var rfl))) rfl) fun z => by cases z) rfl) (fun _ => x_retV (vO y) (ev_if (b := true) (EvT.eq (et_test (ev_isN (ev_var rfl))) rfl) (fun _ => ev_var rfl) fun z => by cases z) fun H1 e => k _ H1 e rfl) fun z => by cases z)
  | some x => cases y with
    | none => exact Sx.at (x_if (b := true) (EvT.eq (et_or (a := false) (b := true) (EvT.eq (et_test (ev_isN (ev_var rfl))) rfl) fun _ => EvT.eq (et_test (ev_isN (ev_var rfl))) rfl) rfl) (fun _ => x_retV (.int x) (ev_if (b := false) (EvT.eq (et_test (ev_isN (ev_var rfl))) rfl) (fun z => by cases z) fun _ => ev_var rfl) fun H1 e => k _ H1 e rfl) fun z => by cases z)
    | some y => exact Sx.at (x_pass (b := false) (EvT.eq (et_or (a := false) (b := false) (EvT.eq (et_test (ev_isN (ev_var rfl))) rfl) fun _ => EvT.eq (et_test (ev_isN (ev_var rfl))) rfl) rfl) rfl (x_retV (.int (if y < x then y else x)) (ev_min2 (ev_var rfl) (ev_var rfl)) fun H1 e => k _ H1 e rfl))
theorem rd_together (h : sp_together K vs H Q E) : t_together K (DD Q) (start N_together vs) H := by
  obtain ⟨H0, P, e0, ⟨x, y, rfl, rfl⟩, k⟩ := h
  cases x with
  | none => exact Sx.at (x_if (b := true) (EvT.eq (et_or (a := true) (b := true) (EvT.eq (et_test (ev_isN (ev_var rfl))) rfl) fun z => by cases z) rfl) (fun _ => x_retV .non ev_c fun H1 e => k _ H1 e rfl) fun z => by cases z)
  | some x => cases y with
    | none => exact Sx.at (x_if (b := true) (EvT.eq (et_or (a := false) (b := true) (EvT.eq (et_test (ev_isN (ev_var rfl))) rfl) fun _ => EvT.eq (et_test (ev_isN (ev_var rfl))) rfl) rfl) (fun _ => x_retV .non ev_c fun H1 e => k _ H1 e rfl) fun z => by cases z)
    | some y => exact Sx.at (x_pass (b := false) (EvT.eq (et_or (a := false) (b := false) (EvT.eq (et_test (ev_isN (ev_var rfl))) rfl) fun _ => EvT.eq (et_test (ev_isN (ev_var rfl))) rfl) rfl) rfl (x_retV (.int (x + y)) (ev_I0 (ev_var rfl) (ev_var rfl)) fun H1 e => k _ H1 e rfl))
theorem ev_lesser {x y : Option Int} (ha : Ev ta σ H (Is (vO x))) (hb : Ev tb σ H (Is (vO y))) : Ev (tCall (sp_lesser K) [] E0 (tCons ta (tCons tb tNil))) σ H (Is (vO (lesserO x y))) := ev_call (ex_cons ha (ex_cons hb ex_nil)) ⟨x, y, rfl, rfl⟩
theorem ev_together {x y : Option Int} (ha : Ev ta σ H (Is (vO x))) (hb : Ev tb σ H (Is (vO y))) : Ev (tCall (sp_together K) [] E0 (tCons ta (tCons tb tNil))) σ H (Is (vO (addO x y))) := ev_call (ex_cons ha (ex_cons hb ex_nil)) ⟨x, y, rfl, rfl⟩
theorem range_snoc {n : Nat} {f : Nat → V} : (List.range (n + 1)).map f = (List.range n).map f ++ [f n] := by rw [List.range_succ, List.map_append]; rfl
theorem rd_unlit (h : sp_unlit K vs H Q E) : t_unlit K (DD Q) (start N_unlit vs) H := by
  obtain ⟨H0, P, e0, ⟨pg, b, rfl, hg, hok, rfl⟩, k⟩ := h
  obtain ⟨pr, hp, ws, h1, h2, h3⟩ := hg.up e0
  have hm : b.n ≤ 40 := hok.most
  have hlen : ws.length = b.n := by rw [h2, hok.len]
  refine Sx.at (x_asg (ev_lst (ex_cons ev_c ex_nil) (by show 1 ≤ 100000; decide)) fun v H1 e1 p => ?_)
  obtain ⟨l, rfl, hl, hl1⟩ := p
  refine x_forL (P := Is (.ref pr)) (ev_ixT (e1 _ _ hp) (ev_var rfl) ev_c rfl) fun v H2 e2 pv' => ?_
  have z : v = .ref pr := pv'
  subst z
  refine ⟨pr, ws, fun i σ' H' => Ex H H' ∧ H' l = some (.lst ((List.range (i + 1)).map fun j => vO (unlitO b j))) ∧ ∃ o1 o2 o3 o4, σ' = [some (.ref pg), some (.ref l), o1, o2, o3, o4], rfl, e2 _ _ (e1 _ _ h1),
    ⟨e1.trans e2, e2 _ _ hl1, none, none, none, none, rfl⟩, fun i σ' H' w => w.1 _ _ h1, fun i x σ' H' hx ⟨w1, w2, o1, o2, o3, o4, es⟩ => ?_, fun σ' H' ⟨w1, w2, o1, o2, o3, o4, es⟩ => ?_⟩
  · subst es
    obtain ⟨t, rfl, ht⟩ := (h3 i x hx).up w1
    have hi : i < b.n := by rw [← hlen]; exact (List.getElem?_eq_some_iff.mp hx).1
    refine ⟨_, eg_tup4 ht, ?_⟩
    refine x_app (P := Is (vO (unlitO b (i + 1)))) w2 (ev_var rfl) (ev_if (b := decide (V.int (b.want i) = V.int 0)) (et_test (ev_eq (ev_var rfl) ev_c eqI)) (fun hb => ?_) fun hb => ?_) (by rw [List.length_map, List.length_range]; omega) fun v H4 e4 pv' => x_next fun H5 e5 => ?_
    · have hw : b.want i = 0 := by have := of_decide_eq_true hb; injection this
      refine ev_ixL w2 (ev_var rfl) (ev_neg ev_c) ?_
      rw [range_snoc]
      have := atI_last ((List.range i).map fun j => vO (unlitO b j)) (vO (unlitO b i))
      show _ = some (vO (if b.want i = 0 then unlitO b i else none))
      rw [if_pos hw]
      exact this
    · have hw : ¬ b.want i = 0 := fun z => by rw [z] at hb; exact absurd hb (by decide)
      refine Ev.eq ev_c ?_
      show V.non = vO (if b.want i = 0 then unlitO b i else none)
      rw [if_neg hw]; rfl
    · have ev' : v = _ := pv'
      subst ev'
      exact ⟨((w1.trans e4).mut hl).trans e5, e5 _ _ (by rw [upd_same, range_snoc (n := i + 1)]), _, _, _, _, rfl⟩
  · subst es
    rw [hlen] at w2
    exact x_ret (P := Is (.ref l)) (ev_var rfl) fun v H4 e4 pv' => k v H4 (w1.trans e4) ⟨l, pv', hl, e4 _ _ w2⟩
theorem rd_lit_row (h : sp_lit_row K vs H Q E) : t_lit_row K (DD Q) (start N_lit_row vs) H := by
  obtain ⟨H0, P, e0, ⟨light, q, p, n, c, kn, rfl, hn, hq, hp, rfl⟩, k⟩ := h
  have hq := e0 _ _ hq
  have hp := e0 _ _ hp
  have hlen : ((List.range n).map fun d => vO (c d)).length = n := by rw [List.length_map, List.length_range]
  refine Sx.at (x_asg (ev_lst (ex_cons ev_c ex_nil) (by show 1 ≤ 100000; decide)) fun v H1 e1 pp => ?_)
  obtain ⟨l, rfl, hl, hl1⟩ := pp
  refine x_set (v := .non) ev_c ?_
  refine x_forE (e1 _ _ hq) (ex_cons (ev_var rfl) ex_nil) (fun i σ' H' => Ex H H' ∧ H' l = some (.lst ((List.range (i + 1)).map fun j => vO (litO light c kn j))) ∧ ∃ o1 o2, σ' = [some (.int light), some (.ref q), some (.ref p), some (.ref l), some (vO (bestO c kn i)), o1, o2])
    (fun H2 e2 => ⟨e1.trans e2, e2 _ _ hl1, none, none, rfl⟩) (fun i σ' H' w => w.1 _ _ hq) (fun i x σ' H' T H2 hx ⟨w1, w2, o1, o2, es⟩ e2 hT => ?_) fun σ' H' ⟨w1, w2, o1, o2, es⟩ => ?_
  · subst es
    obtain ⟨hi, rfl⟩ := range_get hx
    refine ⟨_, eg_tup2 hT eg_name eg_name, ?_⟩
    refine x_set (v := vO (bestO c kn (i + 1))) (ev_together (ev_lesser (ev_var rfl) (ev_ixL ((w1.trans e2) _ _ hp) (ev_var rfl) (ev_var rfl) (atI_range (by omega)))) (ev_var rfl)) ?_
    refine x_app (P := Is (vO (litO light c kn (i + 1)))) (e2 _ _ w2) (ev_var rfl) (ev_together (y := some light) (ev_var rfl) (ev_var rfl)) (by rw [List.length_map, List.length_range]; omega) fun v H4 e4 pv' => x_next fun H5 e5 => ?_
    have ev' : v = _ := pv'
    subst ev'
    exact ⟨(((w1.trans e2).trans e4).mut hl).trans e5, e5 _ _ (by rw [upd_same, range_snoc (n := i + 1)]), _, _, rfl⟩
  · subst es
    rw [hlen] at w2
    exact x_ret (P := Is (.ref l)) (ev_var rfl) fun v H4 e4 pv' => k v H4 (w1.trans e4) ⟨l, pv', hl, e4 _ _ w2⟩
/-- rows: a list that grows of new lists -/
theorem rd_known_rows (h : sp_known_rows K vs H Q E) : t_known_rows K (DD Q) (start N_known_rows vs) H := by
  obtain ⟨H0, P, e0, ⟨pb, b, rfl, hb, hok, rfl⟩, k⟩ := h
  have hb := hb.up e0
  obtain ⟨pl, pgs, pg, hp, hpl, hpgs, hgd⟩ := hb
  have hm : b.n ≤ 40 := hok.most
  refine Sx.at (x_set (v := .ref pg) (ev_bk20 hp hpgs (ev_var rfl)) ?_)
  refine x_asg (P := NewLA [NewL ((List.range (b.n + 1)).map fun j => vO (unlitO b j))]) (ev_lstA (ea_cons (ev_call (ex_cons (ev_var rfl) ex_nil) ⟨pg, b, rfl, hgd, hok, rfl⟩) ea_nil) (by show 1 ≤ 100000; decide)) fun v H1 e1 pp => ?_
  obtain ⟨l, ws, rfl, hl, hl1, pa⟩ := pp
  cases pa with
  | cons h0 t =>
    cases t
    rename_i w0
    obtain ⟨q0, rfl, hq0, hq1⟩ := h0
    refine x_forE (e1 _ _ hpl) (ex_cons (ev_bk0 (e1 _ _ hp) (ev_var rfl)) ex_nil) (fun i σ' H' => Ex H H' ∧ (∃ ys, H' l = some (.lst ys) ∧ ys.length = i + 1 ∧ ∀ j y, ys[j]? = some y → ∃ q, y = .ref q ∧ q ≠ l ∧ H q = none ∧ H' q = some (.lst ((List.range (b.n + 1)).map fun m => vO (rowO b j m)))) ∧
      ∃ o1 o2 o3, σ' = [some (.ref pb), some (.ref pg), some (.ref l), o1, o2, o3, none, none]) (fun H2 e2 => ?_) (fun i σ' H' w => w.1 _ _ hpl) (fun i x σ' H' T H2 hx ⟨w1, ⟨ys, y1, y2, y3⟩, o1, o2, o3, es⟩ e2 hT => ?_) fun σ' H' ⟨w1, ⟨ys, y1, y2, y3⟩, o1, o2, o3, es⟩ => ?_
    · refine ⟨e1.trans e2, ⟨[.ref q0], e2 _ _ hl1, rfl, fun j y hy => ?_⟩, none, none, none, rfl⟩
      match j, (List.getElem?_eq_some_iff.mp hy).1 with
      | 0, _ =>
        obtain rfl := Option.some.inj hy
        refine ⟨q0, rfl, fun z => ?_, hq0, e2 _ _ hq1⟩
        have hq2 := hq1
        rw [z, hl1] at hq2
        have hq3 : ([V.ref q0] : List V) = (List.range (b.n + 1)).map fun j => vO (unlitO b j) := by injection hq2 with h; injection h
        have hq4 : ([V.ref q0] : List V)[0]? = ((List.range (b.n + 1)).map fun j => vO (unlitO b j))[0]? := by rw [hq3]
        rw [range_at (Nat.succ_pos _)] at hq4
        exact absurd (Option.some.inj hq4) (by intro z; cases z)
    · subst es
      have hi : i < b.lights.length := by have := (List.getElem?_eq_some_iff.mp hx).1; rw [List.length_map] at this; exact this
      have hx' : x = .int (b.light i) := by
        rw [List.getElem?_map, List.getElem?_eq_getElem hi] at hx
        have := (Option.some.inj hx).symm
        rw [this]
        unfold Bk.light
        rw [List.getD_eq_getElem?_getD, List.getElem?_eq_getElem hi]; rfl
      subst hx'
      refine ⟨_, eg_tup2 hT eg_name eg_name, ?_⟩
      have e := w1.trans e2
      obtain ⟨q, hyq, hql, hqn, hqv⟩ := y3 i ys[i] (List.getElem?_eq_getElem (by omega))
      have last : atI ys (-1) = some (.ref q) := by
        obtain ⟨zs, z, hz⟩ : ∃ zs z, ys = zs ++ [z] := ⟨ys.dropLast, ys.getLast (by intro z; rw [z] at y2; cases y2), (List.dropLast_concat_getLast _).symm⟩
        have hl2 : zs.length = i := by rw [hz, List.length_append, List.length_singleton] at y2; omega
        have : z = .ref q := by rw [← hyq]; simp [hz, ← hl2]
        rw [hz, this]
        exact atI_last zs _
      -- own = lit_row(light, wants_from(good, day), rows[-1])
      refine x_asg (P := NewL ((List.range (b.n + 1)).map fun j => vO (litO (b.light i) (cost0 b i) (rowO b i) j))) (ev_callA (ea_cons (P := Is (.int (b.light i))) (ev_var rfl) (ea_cons (ev_call (P := NewL ((List.range b.n).map fun d => vO (cost0 b i d))) (ex_cons (ev_var rfl) (ex_cons (ev_var rfl) ex_nil)) ⟨pg, b, i, rfl, hgd.up e, hok, hi, rfl⟩) (ea_cons (P := Is (.ref q)) (ev_ixL (e2 _ _ y1) (ev_var rfl) (ev_neg ev_c) last) ea_nil))) fun H3 us H4 e3 e4 pa => ?_) fun v H3 e3 pp => ?_
      · cases pa with
        | cons a1 pa =>
          cases pa with
          | cons a2 pa =>
            cases pa with
            | cons a3 pa =>
              cases pa
              obtain ⟨qc, rfl, _, hqc⟩ := a2
              have z1 : _ = V.int (b.light i) := a1
              have z3 : _ = V.ref q := a3
              subst z1 z3
              exact ⟨b.light i, qc, q, b.n, _, _, rfl, hm, hqc, (e3.trans e4) _ _ (e2 _ _ hqv), rfl⟩
      · obtain ⟨ow, rfl, how, how1⟩ := pp
        have e13 := e2.trans e3
        refine x_app (P := NewL ((List.range (b.n + 1)).map fun j => vO (rowO b (i + 1) j))) (e3 _ _ (e2 _ _ y1)) (ev_var rfl) (ev_lcX (Yt := fun j v H' => ∃ T x y, v = .ref T ∧ H' T = some (.tup [x, y]) ∧ ((List.range (b.n + 1)).map fun m => vO (rowO b i m))[j]? = some x ∧ ((List.range (b.n + 1)).map fun m => vO (litO (b.light i) (cost0 b i) (rowO b i) m))[j]? = some y) ?_ (by rw [List.length_map, List.length_range]; omega) fun j v H4 e4 hj hy => ?_) (by have hm' : b.lights.length ≤ 40 := hok.most; rw [y2]; omega) fun v H4 e4 pp => x_next fun H5 e5 => ?_
        · have hz := ei_zip (K := K) (e13 _ _ hqv) how1 (by rw [List.length_map, List.length_map]) (ev_ixL (K := K) (e13 _ _ y1) (σ := [some (V.ref pb), some (V.ref pg), some (V.ref l), some (V.int (i : Int)), some (V.int (b.light i)), some (V.ref ow), none, none]) (ev_var (i := 2) rfl) (ev_neg ev_c) last) (ev_var (i := 5) rfl)
          rw [List.length_map, List.length_range] at hz ⊢
          exact hz
        · obtain ⟨T', x', y', rfl, hT', hx', hy'⟩ := hy
          obtain ⟨_, rfl⟩ := range_get hx'
          obtain ⟨_, rfl⟩ := range_get hy'
          refine ⟨_, eg_tup2 hT' eg_name eg_name, rfl, fun z hz => ?_⟩
          obtain ⟨_, rfl⟩ := range_get hz
          exact ev_lesser (ev_var rfl) (ev_var rfl)
        · obtain ⟨qn, rfl, hqn', hqn1⟩ := pp
          have e14 := (e2.trans e3).trans e4
          have nln : qn ≠ l := fun z => by rw [z, e13 _ _ y1] at hqn'; cases hqn'
          refine ⟨((w1.trans e14).mut hl).trans e5, ⟨ys ++ [.ref qn], e5 _ _ upd_same, by rw [List.length_append, y2]; rfl, fun j y hy => ?_⟩, _, _, _, rfl⟩
          by_cases hj : j < ys.length
          · rw [List.getElem?_append_left hj] at hy
            obtain ⟨r, z1, z2, z3, z4⟩ := y3 j y hy
            exact ⟨r, z1, z2, z3, e5 _ _ (by rw [upd_ne z2]; exact e14 _ _ z4)⟩
          · have hj2 : j = ys.length := by
              have := (List.getElem?_eq_some_iff.mp hy).1
              rw [List.length_append, List.length_singleton] at this
              omega
            subst hj2
            have ez : V.ref qn = y := by simpa using hy
            subst ez
            rw [y2]
            exact ⟨qn, rfl, nln, (w1.trans e13).back hqn', e5 _ _ (by rw [upd_ne nln]; exact hqn1)⟩
    · subst es
      have hlen : (b.lights.map V.int).length = b.n := by rw [List.length_map]
      rw [hlen] at y2
      exact x_ret (P := Is (.ref l)) (ev_var rfl) fun v H4 e4 pv' => k v H4 (w1.trans e4) ⟨l, ys, pv', hl, e4 _ _ y1, y2, fun j y hy => by
        obtain ⟨r, z1, z2, z3, z4⟩ := y3 j y hy
        exact ⟨r, z1, z3, e4 _ _ z4⟩⟩
theorem rd_least_row (h : sp_least_row K vs H Q E) : t_least_row K (DD Q) (start N_least_row vs) H := by
  obtain ⟨H0, P, e0, ⟨pb, b, rfl, hb, hok, rfl⟩, k⟩ := h
  have hb := hb.up e0
  have hm : b.n ≤ 40 := hok.most
  refine Sx.at (x_drop (P := Is .non) (ev_call (ex_cons (ev_var rfl) ex_nil) ⟨pb, b, rfl, hb, hok, rfl⟩) fun v H1 e1 _ => ?_)
  have hb := hb.up e1
  -- the rows, each told: the comprehension walks a list whose items are only told when it is made
  refine x_ret (P := NewL ((List.range (b.n + 1)).map fun j => vO (rowO b j j))) (fun H2 e2 Q' q' => ?_) fun v H2 e2 p => k v H2 (e1.trans e2) ⟨_, p.choose_spec.1, e1.back p.choose_spec.2.1, p.choose_spec.2.2⟩
  have hr : Ev (tCall (sp_known_rows K) [] E0 (tCons (tVar 0) tNil)) (start N_least_row [.ref pb]) H1 (NewLs (b.n + 1) fun k => NewL ((List.range (b.n + 1)).map fun j => vO (rowO b k j))) := ev_call (ex_cons (ev_var rfl) ex_nil) ⟨pb, b, rfl, hb, hok, rfl⟩
  refine hr H2 e2 _ fun v0 H3 e3 p3 => ?_
  obtain ⟨l, ys, rfl, hl, hl1, y2, y3⟩ := p3
  have hlc := ev_lcX (σ := start N_least_row [.ref pb]) (te := tOp (rIx K) (tVar 2) (tVar 1)) (g := gTup K 2 (gCons (gName 1) (gCons (gName 2) gNil))) (vs := [1, 2]) (wi := iEnum K (tCons (tC (.ref l)) tNil)) (ys := (List.range (b.n + 1)).map fun j => vO (rowO b j j)) (H := H3)
    (Yt := fun i v H' => ∃ T x, v = .ref T ∧ H' T = some (.tup [.int (i : Int), x]) ∧ ys[i]? = some x) (by
      have hz := ei_enum (K := K) (σ := start N_least_row [.ref pb]) hl1 (ex_cons (ev_c (v := .ref l)) ex_nil)
      rw [y2] at hz
      rw [List.length_map, List.length_range]
      exact hz) (by rw [List.length_map, List.length_range]; omega) (fun i x H4 e4 hi hy => by
      obtain ⟨T, x', rfl, hT, hx'⟩ := hy
      rw [List.length_map, List.length_range] at hi
      obtain ⟨qr, rfl, hqn, hq⟩ := y3 i x' hx'
      refine ⟨_, eg_tup2 hT eg_name eg_name, rfl, fun y hy => ?_⟩
      obtain ⟨_, rfl⟩ := range_get hy
      exact ev_ixL (e4 _ _ hq) (ev_var rfl) (ev_var rfl) (atI_range hi))
  refine hlc H3 Ex.rfl Q' fun v H4 e4 p4 => ?_
  obtain ⟨q, rfl, hq, hq1⟩ := p4
  exact q' _ _ (e3.trans e4) ⟨q, rfl, e3.back hq, hq1⟩
/-! ### ladders -/
theorem rd_are_rungs (h : sp_are_rungs K vs H Q E) : t_are_rungs K (DD Q) (start N_are_rungs vs) H := by
  obtain ⟨H0, P, e0, ⟨p, xs, rfl, hp, hm, rfl⟩, k⟩ := h
  have hp := e0 _ _ hp
  refine Sx.at (x_retV (.bl true) (ev_andV (a := true) (b := true) (isi_lst hp (ev_var rfl)) fun _ => ev_andV (a := true) (b := true) (Ev.eq (ev_eq (ev_lenL hp (ev_var rfl)) (ev_var rfl) eqI) ?_) fun _ => ev_allT (ei_list hp (ev_var rfl)) (by rw [List.length_map]; omega) fun i x H1 e hi hx' => ⟨_, eg_name, rfl, ?_⟩) fun H1 e => k _ H1 e rfl)
  · rw [List.length_map, decide_eq_true rfl]
  · rw [List.getElem?_map] at hx'
    cases e : xs[i]? with
    | none => rw [e] at hx'; cases hx'
    | some u =>
      rw [e] at hx'
      obtain rfl := Option.some.inj hx'
      exact ev_call (ex_cons (ev_var rfl) ex_nil) ⟨u, rfl, rfl⟩
theorem LadOk.row {b : Bk} {F : List Int} {M : List (List Int)} (h : LadOk b F M) {r : Nat} (hr : r < b.n) : (M.getD r []).length = b.n + 1 := by
  have hr' : r < M.length := by rw [h.many]; exact hr
  rw [List.getD_eq_getElem?_getD, List.getElem?_eq_getElem hr']
  exact h.each _ (List.getElem_mem hr')
theorem rd_is_ladder (h : sp_is_ladder K vs H Q E) : t_is_ladder K (DD Q) (start N_is_ladder vs) H := by
  obtain ⟨H0, P, e0, ⟨pb, b, p, F, M, rfl, hb, hok, hl, lo, rfl⟩, k⟩ := h
  obtain ⟨pl, pgs, pg, hp, hpl, hpgs, hgd⟩ := hb.up e0
  obtain ⟨pf, pm, ms, l1, l2, l3, l4, l5⟩ := hl.up e0
  have hm : b.n ≤ 40 := hok.most
  refine Sx.at (x_set (v := .int (b.n : Int)) (Ev.eq (ev_lenL hpl (ev_bk0 hp (ev_var rfl))) (by rw [List.length_map])) ?_)
  have rung : ∀ {σ : L2.St} {H' : Hp} {q : Addr} {xs : List Int} {te : TE}, σ[2]? = some (some (V.int (b.n : Int))) → Ev te σ H' (Is (.ref q)) → H' q = some (.lst (xs.map V.int)) → xs.length = b.n + 1 →
      Ev (tCall (sp_are_rungs K) [] E0 (tCons te (tCons (tOp rAddI (tVar 2) (tC (.int 1))) tNil))) σ H' (Is (.bl true)) := fun hs ha hq hx =>
    ev_call (ex_cons ha (ex_cons (Ev.eq (ev_I0 (ev_var hs) ev_c) rfl) ex_nil)) ⟨_, _, by rw [hx]; rfl, hq, by omega, rfl⟩
  have i0 : atI (F.map V.int) 0 = some (.int 0) := by have := atI_int (xs := F) (i := 0) (by rw [lo.len]; omega); rw [lo.zero] at this; exact this
  refine x_pass (b := false) (EvT.eq (et_or (a := false) (b := false) (EvT.eq (et_not (et_B (isi_tup l1 (ev_var rfl)))) rfl) fun _ => EvT.eq (et_or (a := false) (b := false) (EvT.eq (et_test (ev_ne (ev_lenT l1 (ev_var rfl)) ev_c eqI)) rfl) fun _ => EvT.eq (et_or (a := false) (b := false) (EvT.eq (et_not (et_B (rung rfl (ev_ixT l1 (ev_var rfl) ev_c rfl) l2 lo.len))) rfl) fun _ =>
    EvT.eq (et_test (ev_ne (ev_ixL l2 (ev_ixT l1 (ev_var rfl) ev_c rfl) ev_c i0) ev_c eqI)) rfl) rfl) rfl) rfl) rfl ?_
  have hml : (ms.length : Int) = (b.n : Int) := by rw [l4, lo.many]
  refine x_pass (b := false) (EvT.eq (et_or (a := false) (b := false) (EvT.eq (et_not (et_B (isi_lst l3 (ev_ixT l1 (ev_var rfl) ev_c rfl)))) rfl) fun _ => EvT.eq (et_test (ev_ne (ev_lenL l3 (ev_ixT l1 (ev_var rfl) ev_c rfl)) (ev_var rfl) eqI)) (by rw [hml]; simp)) rfl) rfl ?_
  refine x_retV (.bl true) (ev_allT (ei_list l3 (ev_ixT l1 (ev_var rfl) ev_c rfl)) (by rw [l4, lo.many]; omega) fun i x H1 e hi hx => ⟨_, eg_name, rfl, ?_⟩) fun H1 e => k _ H1 e rfl
  obtain ⟨q, rfl, hq⟩ := l5 i x hx
  exact rung rfl (ev_var rfl) (e _ _ hq) (lo.row (by rw [l4, lo.many] at hi; exact hi))
theorem rd_climbs (h : sp_climbs K vs H Q E) : t_climbs K (DD Q) (start N_climbs vs) H := by
  obtain ⟨H0, P, e0, ⟨p, xs, light, q, n, c, rfl, hp, hxl, hn, hq, rfl⟩, k⟩ := h
  have hp := e0 _ _ hp
  have hq := e0 _ _ hq
  have hlen : ((List.range n).map fun d => vO (c d)).length = n := by rw [List.length_map, List.length_range]
  have lenE : ∀ {σ : L2.St} {H' : Hp}, Ex H H' → σ[2]? = some (some (V.ref q)) → Ev (tCB (rLenS K) (tCons (tVar 2) tNil)) σ H' (Is (.int (n : Int))) := fun e hs => Ev.eq (ev_lenL (e _ _ hq) (ev_var hs)) (by rw [hlen])
  refine Sx.at (x_forR1 (n := n) (ex_cons (lenE Ex.rfl rfl) ex_nil) (by omega) (fun i σ' H' => Ex H H' ∧ (∃ o3 o4 o5, σ' = [some (.ref p), some (.int light), some (.ref q), o3, o4, o5]) ∧ ∀ a, a < i → ∀ m y, 0 < m → a + m ≤ n → csum c a m = some y → at0 xs (a + m) ≤ at0 xs a + (light + y))
    (fun H1 e1 => ⟨e1, ⟨none, none, none, rfl⟩, fun a ha => absurd ha (Nat.not_lt_zero a)⟩) (fun i σ' H' hi ⟨w1, ⟨o3, o4, o5, es⟩, w2⟩ => ?_) fun σ' H' ⟨w1, _, w2⟩ => ?_)
  · subst es
    refine x_set (v := .int light) (ev_var rfl) ?_
    refine x_forR2 (lo := (i : Int)) (hi := (n : Int)) (ex_cons (ev_var rfl) (ex_cons (lenE w1 rfl) ex_nil)) ⟨by omega, by omega, by omega, by omega⟩ (fun j σ' H' => Ex H H' ∧ i + j ≤ n ∧ (∃ y o5, csum c i j = some y ∧ σ' = [some (.ref p), some (.int light), some (.ref q), some (.int (i : Int)), some (.int (light + y)), o5]) ∧
      ∀ m y, 0 < m → m ≤ j → csum c i m = some y → at0 xs (i + m) ≤ at0 xs i + (light + y)) (fun H1 e1 => ⟨w1.trans e1, by omega, ⟨0, o5, rfl, by rw [Int.add_zero]; rfl⟩, fun m y h1 h2 => absurd h1 (by omega)⟩) (fun j σ' H' hj ⟨v1, v0, ⟨y, o5', hy, es⟩, v2⟩ => ?_) fun σ' H' ⟨v1, v0, ⟨y, o5', hy, es⟩, v2⟩ => ?_
    · subst es
      have hij : i + j < n := by omega
      have ei : (i : Int) + (j : Int) = ((i + j : Nat) : Int) := by omega
      have cost : ∀ {σ : L2.St} {H'' : Hp}, Ex H H'' → σ[2]? = some (some (V.ref q)) → σ[5]? = some (some (V.int ((i : Int) + (j : Int)))) → Ev (tOp (rIx K) (tVar 2) (tVar 5)) σ H'' (Is (vO (c (i + j)))) := fun e h1 h2 =>
        ev_ixL (e _ _ hq) (ev_var h1) (ev_var h2) (by rw [ei]; exact atI_range hij)
      cases hc : c (i + j) with
      | none =>
        rw [hc] at cost
        refine x_if (b := true) (EvT.eq (et_test (ev_isN (cost v1 rfl rfl))) rfl) (fun _ => ?_) fun z => by cases z
        refine x_brk fun H1 e1 => ⟨v1.trans e1, ⟨_, _, _, rfl⟩, fun a ha m y' h1 h2 h3 => ?_⟩
        by_cases hai : a < i
        · exact w2 a hai m y' h1 h2 h3
        · have : a = i := by omega
          subst this
          by_cases hmj : m ≤ j
          · exact v2 m y' h1 hmj h3
          · have := csum_none hc (m - (j + 1))
            rw [show j + 1 + (m - (j + 1)) = m by omega, h3] at this
            cases this
      | some z =>
        rw [hc] at cost
        have hcs := csum_succ hy hc
        refine x_pass (b := false) (EvT.eq (et_test (ev_isN (cost v1 rfl rfl))) rfl) rfl ?_
        refine x_aug (a := light + y) (b := z) rfl (cost v1 rfl rfl) ?_
        refine x_if (b := decide (at0 xs i + (light + y + z) < at0 xs (i + j + 1))) (EvT.eq (et_test (ev_I0 (i := at0 xs (i + j + 1)) (j := at0 xs i + (light + y + z)) (ev_ixL (v1 _ _ hp) (ev_var rfl) (ev_I0 (ev_var rfl) ev_c) (by rw [ei]; exact atI_int1 (by omega))) (ev_I0 (ev_ixL (v1 _ _ hp) (ev_var rfl) (ev_var rfl) (atI_int (by omega))) (ev_var rfl)))) rfl) (fun hb => ?_) fun hb => ?_
        · have hlt := of_decide_eq_true hb
          refine x_retV (.bl false) ev_c fun H1 e1 => k _ H1 (v1.trans e1) ?_
          show V.bl false = _
          rw [dec_f fun hP => ?_]
          have := hP i (j + 1) (y + z) (by omega) (by omega) hcs
          rw [show i + (j + 1) = i + j + 1 by omega] at this
          omega
        · have hle := of_decide_eq_false hb
          refine x_fall (x_next fun H1 e1 => ⟨v1.trans e1, by omega, ⟨y + z, _, hcs, by rw [Int.add_assoc]; rfl⟩, fun m y' h1 h2 h3 => ?_⟩)
          by_cases hmj : m ≤ j
          · exact v2 m y' h1 hmj h3
          · have : m = j + 1 := by omega
            subst this
            rw [hcs] at h3
            obtain rfl := Option.some.inj h3
            rw [show i + (j + 1) = i + j + 1 by omega]
            omega
    · subst es
      refine x_next fun H1 e1 => ⟨v1.trans e1, ⟨_, _, _, rfl⟩, fun a ha m y' h1 h2 h3 => ?_⟩
      by_cases hai : a < i
      · exact w2 a hai m y' h1 h2 h3
      · have : a = i := by omega
        subst this
        exact v2 m y' h1 (by omega) h3
  · refine x_retV (.bl true) ev_c fun H1 e1 => k _ H1 (w1.trans e1) ?_
    show V.bl true = _
    rw [dec_t (p := ClimbsP xs light c n) fun a m y h1 h2 h3 => w2 a (by omega) m y h1 h2 h3]
theorem rd_rests (h : sp_rests K vs H Q E) : t_rests K (DD Q) (start N_rests vs) H := by
  obtain ⟨H0, P, e0, ⟨p, xs, pb, b, rfl, hp, hb, hok, hxl, rfl⟩, k⟩ := h
  have hp := e0 _ _ hp
  obtain ⟨pl, pgs, pg, hpb, hpl, hpgs, pr, hpg, ws, h1, h2, h3⟩ := hb.up e0
  have hlen : ws.length = b.n := by rw [h2, hok.len]
  refine Sx.at (x_forE h1 (ex_cons (ev_bk200 hpb hpgs hpg (ev_var rfl)) ex_nil) (fun i σ' H' => Ex H H' ∧ (∃ o2 o3, σ' = [some (.ref p), some (.ref pb), o2, o3]) ∧ ∀ j, j < i → b.want j = 0 → at0 xs (j + 1) ≤ at0 xs j)
    (fun H1 e1 => ⟨e1, ⟨none, none, rfl⟩, fun j hj => absurd hj (Nat.not_lt_zero j)⟩) (fun i σ' H' w => w.1 _ _ h1) (fun i x σ' H' T H2 hx ⟨w1, ⟨o2, o3, es⟩, w2⟩ e2 hT => ?_) fun σ' H' ⟨w1, _, w2⟩ => ?_)
  · subst es
    refine ⟨_, eg_tup2 hT eg_name eg_name, ?_⟩
    have e := w1.trans e2
    obtain ⟨t, rfl, ht⟩ := (h3 i x hx).up e
    have hi : i < b.n := by rw [← hlen]; exact (List.getElem?_eq_some_iff.mp hx).1
    refine x_if (b := decide (V.int (b.want i) = V.int 0) && decide (at0 xs i < at0 xs (i + 1))) (et_and (et_test (ev_eq (ev_ixT ht (ev_var rfl) ev_c rfl) ev_c eqI)) fun _ => et_test (ev_I0 (ev_ixL (e _ _ hp) (ev_var rfl) (ev_I0 (ev_var rfl) ev_c) (atI_int1 (by omega))) (ev_ixL (e _ _ hp) (ev_var rfl) (ev_var rfl) (atI_int (by omega))))) (fun hb => ?_) fun hb => ?_
    · rw [Bool.and_eq_true] at hb
      have hw : b.want i = 0 := by have := of_decide_eq_true hb.1; injection this
      have hlt := of_decide_eq_true hb.2
      refine x_retV (.bl false) ev_c fun H3 e3 => k _ H3 (e.trans e3) ?_
      show V.bl false = _
      rw [dec_f (p := RestsP b xs) fun hP => ?_]
      have := hP i hi hw
      omega
    · refine x_fall (x_next fun H3 e3 => ⟨e.trans e3, ⟨_, _, rfl⟩, fun j hj hw => ?_⟩)
      by_cases hji : j < i
      · exact w2 j hji hw
      · have : j = i := by omega
        subst this
        rw [Bool.and_eq_false_iff] at hb
        rcases hb with hb | hb
        · exact absurd (by rw [hw]) (of_decide_eq_false hb)
        · have := of_decide_eq_false hb; omega
  · rw [hlen] at w2
    refine x_retV (.bl true) ev_c fun H3 e3 => k _ H3 (w1.trans e3) ?_
    show V.bl true = _
    rw [dec_t (p := RestsP b xs) w2]
theorem ev_lightAt {b : Bk} {pb pl pgs : Addr} {i : Nat} (hp : H pb = some (.tup [.ref pl, .non, .ref pgs])) (hpl : H pl = some (.lst (b.lights.map V.int))) (hi : i < b.n) (ha : Ev ta σ H (Is (.ref pb))) (hc : Ev tb σ H (Is (.int (i : Int)))) :
    Ev (tOp (rIx K) (tOp (rIx K) ta (tC (.int 0))) tb) σ H (Is (.int (b.light i))) := ev_ixL hpl (ev_bk0 hp ha) hc (atI_int hi)
theorem rd_holds_for (h : sp_holds_for K vs H Q E) : t_holds_for K (DD Q) (start N_holds_for vs) H := by
  obtain ⟨H0, P, e0, ⟨pb, b, pd, g, p, F, M, r, rfl, hb, hok, hd, hgok, hl, lo, hr, rfl⟩, k⟩ := h
  have hb := hb.up e0
  have hd := hd.up e0
  have hb' := hb
  obtain ⟨pl, pgs, pg, hpb, hpl, hpgs, hgd⟩ := hb'
  obtain ⟨pf, pm, ms, l1, l2, l3, l4, l5⟩ := hl.up e0
  have hm : b.n ≤ 40 := hok.most
  have hxl := lo.row hr
  generalize hxs : M.getD r [] = xs at *
  have hmr : r < ms.length := by rw [l4, lo.many]; exact hr
  obtain ⟨q, hq0, hq⟩ := l5 r ms[r] (List.getElem?_eq_getElem hmr)
  rw [hxs] at hq
  refine Sx.at (x_set (v := .ref pf) (ev_ixT l1 (ev_var rfl) ev_c rfl) (x_set (v := .ref q) (ev_ixL l3 (ev_ixT l1 (ev_var rfl) ev_c rfl) (ev_var rfl) (atI_nat (by rw [List.getElem?_eq_getElem hmr, hq0]))) ?_))
  obtain ⟨dws, dt, d1, d2, d3, d4⟩ := hd.get (i := r) (by rw [hgok.len]; exact hr)
  refine x_forZ (P := Is (.ref q)) l2 (ev_var rfl) (ev_var rfl) fun v H1 e1 pv' => ?_
  have z : v = .ref q := pv'
  subst z
  refine ⟨q, _, fun i σ' H' => Ex H H' ∧ (∃ o6 o7, σ' = [some (.ref pb), some (.ref pd), some (.ref p), some (.int (r : Int)), some (.ref pf), some (.ref q), o6, o7, none]) ∧ ∀ j, j < i → at0 F j ≤ at0 xs j ∧ at0 xs j ≤ at0 F j + mixD g r, rfl, e1 _ _ hq, by rw [List.length_map, List.length_map, hxl, lo.len],
    ⟨e1, ⟨none, none, rfl⟩, fun j hj => absurd hj (Nat.not_lt_zero j)⟩, fun i σ' H' w => ⟨w.1 _ _ l2, w.1 _ _ hq⟩, fun i x y σ' H' T H2 hx hy ⟨w1, ⟨o6, o7, es⟩, w2⟩ e2 hT => ?_, fun σ' H' ⟨w1, ⟨o6, o7, es⟩, w2⟩ => ?_⟩
  · subst es
    have hi : i < F.length := by have := (List.getElem?_eq_some_iff.mp hx).1; rw [List.length_map] at this; exact this
    rw [at_int hi] at hx
    rw [at_int (by rw [hxl, ← lo.len]; exact hi)] at hy
    obtain rfl := Option.some.inj hx
    obtain rfl := Option.some.inj hy
    refine ⟨_, eg_tup2 hT eg_name eg_name, ?_⟩
    have e := w1.trans e2
    refine x_if (b := decide (at0 xs i < at0 F i) || decide (at0 F i + mixD g r < at0 xs i)) (et_or (et_test (ev_I0 (ev_var rfl) (ev_var rfl))) fun _ => et_test (ev_I0 (ev_var rfl) (ev_I0 (ev_var rfl) (ev_ixT (e _ _ d4) (ev_ixL (e _ _ d1) (ev_var rfl) (ev_var rfl) (atI_nat d3)) ev_c rfl)))) (fun hb => ?_) fun hb => ?_
    · refine x_retV (.bl false) ev_c fun H3 e3 => k _ H3 (e.trans e3) ?_
      show V.bl false = _
      rw [dec_f (p := HoldsP b g F xs r) fun hP => ?_]
      have := hP.1 i (by rw [lo.len] at hi; omega)
      rw [Bool.or_eq_true] at hb
      rcases hb with hb | hb <;> have := of_decide_eq_true hb <;> omega
    · refine x_fall (x_next fun H3 e3 => ⟨e.trans e3, ⟨_, _, rfl⟩, fun j hj => ?_⟩)
      by_cases hji : j < i
      · exact w2 j hji
      · have : j = i := by omega
        subst this
        rw [Bool.or_eq_false_iff] at hb
        have h1 := of_decide_eq_false hb.1
        have h2 := of_decide_eq_false hb.2
        omega
  · subst es
    rw [List.length_map, lo.len] at w2
    have c1 : ∀ {σ : L2.St}, σ[5]? = some (some (V.ref q)) → σ[0]? = some (some (V.ref pb)) → Ev (tCall (sp_rests K) [] E0 (tCons (tVar 5) (tCons (tVar 0) tNil))) σ H' (Is (.bl (dec (RestsP b xs)))) := fun s1 s2 => ev_call (ex_cons (ev_var s1) (ex_cons (ev_var s2) ex_nil)) ⟨q, xs, pb, b, rfl, w1 _ _ hq, hb.up w1, hok, hxl, rfl⟩
    by_cases hR : RestsP b xs
    · rw [dec_t hR] at c1
      refine x_pass (b := false) (EvT.eq (et_not (et_B (c1 rfl rfl))) rfl) rfl ?_
      refine x_forR2 (lo := (r : Int)) (hi := (b.n : Int)) (ex_cons (ev_var rfl) (ex_cons (Ev.eq (ev_lenL (w1 _ _ hpl) (ev_bk0 (w1 _ _ hpb) (ev_var rfl))) (by rw [List.length_map])) ex_nil)) ⟨by omega, by omega, by omega, by omega⟩ (fun i σ' H2 => Ex H H2 ∧ (∃ o8, σ' = [some (.ref pb), some (.ref pd), some (.ref p), some (.int (r : Int)), some (.ref pf), some (.ref q), o6, o7, o8]) ∧
        ∀ s, r ≤ s → s < r + i → ClimbsP xs (b.light s) (b.cost g r s) b.n) (fun H1 e1 => ⟨w1.trans e1, ⟨none, rfl⟩, fun s h1 h2 => absurd h1 (by omega)⟩) (fun i σ' H2 hi ⟨v1, ⟨o8, es⟩, v2⟩ => ?_) fun σ' H2 ⟨v1, _, v2⟩ => ?_
      · subst es
        have hri : r + i < b.n := by omega
        have ei : (r : Int) + (i : Int) = ((r + i : Nat) : Int) := by omega
        have c2 : Ev (tCall (sp_climbs K) [] E0 (tCons (tVar 5) (tCons (tOp (rIx K) (tOp (rIx K) (tVar 0) (tC (.int 0))) (tVar 8)) (tCons (tCall (sp_batch_costs K) [] E0 (tCons (tVar 0) (tCons (tVar 1) (tCons (tVar 3) (tCons (tVar 8) tNil))))) tNil))))
            [some (.ref pb), some (.ref pd), some (.ref p), some (.int (r : Int)), some (.ref pf), some (.ref q), o6, o7, some (.int ((r : Int) + (i : Int)))] H2 (Is (.bl (dec (ClimbsP xs (b.light (r + i)) (b.cost g r (r + i)) b.n)))) :=
          ev_callA (ea_cons (P := Is (.ref q)) (ev_var rfl) (ea_cons (P := Is (.int (b.light (r + i)))) (ev_lightAt (v1 _ _ hpb) (v1 _ _ hpl) hri (ev_var rfl) (ev_var (by rw [← ei]; rfl))) (ea_cons (ev_call (P := NewL ((List.range b.n).map fun d => vO (b.cost g r (r + i) d))) (vs := [.ref pb, .ref pd, .int (r : Int), .int ((r + i : Nat) : Int)]) (ex_cons (ev_var rfl) (ex_cons (ev_var rfl) (ex_cons (ev_var rfl) (ex_cons (ev_var (by rw [← ei]; rfl)) ex_nil))))
            ⟨pb, b, pd, g, r, r + i, rfl, hb.up v1, hok, hd.up v1, hgok, hr, hri, rfl⟩) ea_nil))) fun H3 us H4 e3 e4 pa => by
            cases pa with
            | cons a1 pa =>
              cases pa with
              | cons a2 pa =>
                cases pa with
                | cons a3 pa =>
                  cases pa
                  obtain ⟨qc, rfl, _, hqc⟩ := a3
                  have z1 : _ = V.ref q := a1
                  have z2 : _ = V.int (b.light (r + i)) := a2
                  subst z1 z2
                  exact ⟨q, xs, _, qc, b.n, _, rfl, ((v1.trans e3).trans e4) _ _ hq, hxl, hm, hqc, rfl⟩
        by_cases hC : ClimbsP xs (b.light (r + i)) (b.cost g r (r + i)) b.n
        · rw [dec_t hC] at c2
          refine x_pass (b := false) (EvT.eq (et_not (et_B c2)) rfl) rfl (x_next fun H3 e3 => ⟨v1.trans e3, ⟨_, rfl⟩, fun s h1 h2 => ?_⟩)
          by_cases hs : s < r + i
          · exact v2 s h1 hs
          · have : s = r + i := by omega
            rw [this]; exact hC
        · rw [dec_f hC] at c2
          refine x_if (b := true) (EvT.eq (et_not (et_B c2)) rfl) (fun _ => ?_) fun z => by cases z
          refine x_retV (.bl false) ev_c fun H3 e3 => k _ H3 (v1.trans e3) ?_
          show V.bl false = _
          rw [dec_f (p := HoldsP b g F xs r) fun hP => hC (hP.2.2 (r + i) (by omega) hri)]
      · refine x_retV (.bl true) ev_c fun H3 e3 => k _ H3 (v1.trans e3) ?_
        show V.bl true = _
        rw [dec_t (p := HoldsP b g F xs r) ⟨fun j hj => w2 j (by omega), hR, fun s h1 h2 => v2 s h1 (by omega)⟩]
    · rw [dec_f hR] at c1
      refine x_if (b := true) (EvT.eq (et_not (et_B (c1 rfl rfl))) rfl) (fun _ => ?_) fun z => by cases z
      refine x_retV (.bl false) ev_c fun H3 e3 => k _ H3 (w1.trans e3) ?_
      show V.bl false = _
      rw [dec_f (p := HoldsP b g F xs r) fun hP => hR hP.2.1]
theorem all_dec {n : Nat} {p : Nat → Prop} : (((List.range n).map fun r => dec (p r)).all id) = dec (∀ r, r < n → p r) := by
  by_cases h : ∀ r, r < n → p r
  · rw [dec_t h, List.all_map, List.all_eq_true]
    exact fun r hr => dec_t (h r (List.mem_range.mp hr))
  · rw [dec_f h]
    cases e : ((List.range n).map fun r => dec (p r)).all id with
    | false => rfl
    | true =>
      rw [List.all_map, List.all_eq_true] at e
      refine absurd (fun r hr => ?_) h
      have := e r (List.mem_range.mpr hr)
      by_cases hp : p r
      · exact hp
      · have z : dec (p r) = true := this
        rw [dec_f hp] at z; cases z
theorem rd_lets_ladder (h : sp_lets_ladder K vs H Q E) : t_lets_ladder K (DD Q) (start N_lets_ladder vs) H := by
  obtain ⟨H0, P, e0, ⟨pb, b, pd, g, p, F, M, rfl, hb, hok, hd, hgok, hl, lo, rfl⟩, k⟩ := h
  have hb := hb.up e0
  have hd := hd.up e0
  have hl := hl.up e0
  have hm : b.n ≤ 40 := hok.most
  have hm' : b.lights.length ≤ 40 := hok.most
  refine Sx.at (x_drop (P := Is .non) (ev_look hb hok hd hgok (ev_var rfl) (ev_var rfl)) fun v H1 e1 _ => ?_)
  have hb := hb.up e1
  have hd := hd.up e1
  have hl := hl.up e1
  have hb' := hb
  obtain ⟨pl, pgs, pg, hpb, hpl, hpgs, hgd⟩ := hb'
  have hl' := hl
  obtain ⟨pf, pm, ms, l1, l2, l3, l4, l5⟩ := hl'
  have c0 : Ev (tCall (sp_is_ladder K) [] E0 (tCons (tVar 0) (tCons (tVar 2) tNil))) (start N_lets_ladder [.ref pb, .ref pd, .ref p]) H1 (Is (.bl true)) := ev_call (ex_cons (ev_var rfl) (ex_cons (ev_var rfl) ex_nil)) ⟨pb, b, p, F, M, rfl, hb, hok, hl, lo, rfl⟩
  have c1 : Ev (tCall (sp_rests K) [] E0 (tCons (tOp (rIx K) (tVar 2) (tC (.int 0))) (tCons (tVar 0) tNil))) (start N_lets_ladder [.ref pb, .ref pd, .ref p]) H1 (Is (.bl (dec (RestsP b F)))) := ev_call (ex_cons (ev_ixT l1 (ev_var rfl) ev_c rfl) (ex_cons (ev_var rfl) ex_nil)) ⟨pf, F, pb, b, rfl, l2, hb, hok, lo.len, rfl⟩
  by_cases hR : RestsP b F
  · rw [dec_t hR] at c1
    refine x_pass (b := false) (EvT.eq (et_or (a := false) (b := false) (EvT.eq (et_not (et_B c0)) rfl) fun _ => EvT.eq (et_not (et_B c1)) rfl) rfl) rfl ?_
    refine x_retV (.bl (dec (∀ r, r < b.n → HoldsP b g F (M.getD r []) r))) (Ev.eq (ev_allF (Yt := fun i x _ => x = .int (i : Int)) (fun r => dec (HoldsP b g F (M.getD r []) r)) (ei_rng1 (ex_cons (Ev.eq (ev_lenL hpl (ev_bk0 hpb (ev_var rfl))) (by rw [List.length_map])) ex_nil) (by omega)) (by omega) fun i x H2 e2 hi hx => ⟨_, eg_name, rfl, ?_⟩) (by rw [all_dec])) fun H2 e2 => k _ H2 (e1.trans e2) ?_
    · subst hx
      exact ev_call (ex_cons (ev_var rfl) (ex_cons (ev_var rfl) (ex_cons (ev_var rfl) (ex_cons (ev_var rfl) ex_nil)))) ⟨pb, b, pd, g, p, F, M, i, rfl, hb.up e2, hok, hd.up e2, hgok, hl.up e2, lo, hi, rfl⟩
    · show V.bl _ = V.bl _
      congr 1
      by_cases hA : ∀ r, r < b.n → HoldsP b g F (M.getD r []) r
      · rw [dec_t hA, dec_t (p := LetP b g F M) ⟨hR, hA⟩]
      · rw [dec_f hA, dec_f (p := LetP b g F M) fun z => hA z.2]
  · rw [dec_f hR] at c1
    refine x_if (b := true) (EvT.eq (et_or (a := false) (b := true) (EvT.eq (et_not (et_B c0)) rfl) fun _ => EvT.eq (et_not (et_B c1)) rfl) rfl) (fun _ => ?_) fun z => by cases z
    refine x_retV (.bl false) ev_c fun H2 e2 => k _ H2 (e1.trans e2) ?_
    show V.bl false = _
    rw [dec_f (p := LetP b g F M) fun z => hR z.1]
end
end K66

/-! ## O2 -/
set_option maxHeartbeats 4000000
namespace K66
open PySem PySem.Spec PyProof.Rows L2
theorem ok_lesser {P : Program} {w : World} {K : PySem.W.Frag} {mg : Str → Option Value} {base : Heap} (W : Wd K mg) : Cal P w K mg base CX0 1 "lesser" p_lesser (sp_lesser K) :=
  cal_of (d := d_lesser) W 34 rfl rfl W.g_lesser sc_lesser (fun vs H Q E h => by obtain ⟨_, _, _, ⟨_, _, e, _⟩, _⟩ := h; rw [e]; rfl) (fun _ _ _ _ _ _ us hl => match us, hl with | [_, _], _ => rfl)
    fun f cdv A outer s H vs Q E hr h => ⟨t_lesser K, (der_lesser W  hr).nox, rd_lesser h⟩
theorem ok_together {P : Program} {w : World} {K : PySem.W.Frag} {mg : Str → Option Value} {base : Heap} (W : Wd K mg) : Cal P w K mg base CX0 1 "together" p_together (sp_together K) :=
  cal_of (d := d_together) W 35 rfl rfl W.g_together sc_together (fun vs H Q E h => by obtain ⟨_, _, _, ⟨_, _, e, _⟩, _⟩ := h; rw [e]; rfl) (fun _ _ _ _ _ _ us hl => match us, hl with | [_, _], _ => rfl)
    fun f cdv A outer s H vs Q E hr h => ⟨t_together K, (der_together W  hr).nox, rd_together h⟩
theorem ok_unlit {P : Program} {w : World} {K : PySem.W.Frag} {mg : Str → Option Value} {base : Heap} (W : Wd K mg) : Cal P w K mg base CX0 1 "unlit" p_unlit (sp_unlit K) :=
  cal_of (d := d_unlit) W 36 rfl rfl W.g_unlit sc_unlit (fun vs H Q E h => by obtain ⟨_, _, _, ⟨_, _, e, _⟩, _⟩ := h; rw [e]; rfl) (fun _ _ _ _ _ _ us hl => match us, hl with | [_], _ => rfl)
    fun f cdv A outer s H vs Q E hr h => ⟨t_unlit K, (der_unlit W  hr).nox, rd_unlit h⟩
theorem ok_lit_row {P : Program} {w : World} {K : PySem.W.Frag} {mg : Str → Option Value} {base : Heap} (W : Wd K mg) : Cal P w K mg base CX0 2 "lit_row" p_lit_row (sp_lit_row K) :=
  cal_of (d := d_lit_row) W 37 rfl rfl W.g_lit_row sc_lit_row (fun vs H Q E h => by obtain ⟨_, _, _, ⟨_, _, _, _, _, _, e, _⟩, _⟩ := h; rw [e]; rfl) (fun _ _ _ _ _ _ us hl => match us, hl with | [_, _, _], _ => rfl)
    fun f cdv A outer s H vs Q E hr h => ⟨t_lit_row K, (der_lit_row W (ok_lesser W) (ok_together W) hr).nox, rd_lit_row h⟩
theorem ok_known_rows {P : Program} {w : World} {K : PySem.W.Frag} {mg : Str → Option Value} {base : Heap} (W : Wd K mg) : Cal P w K mg base CX0 5 "known_rows" p_known_rows (sp_known_rows K) :=
  cal_of (d := d_known_rows) W 38 rfl rfl W.g_known_rows sc_known_rows (fun vs H Q E h => by obtain ⟨_, _, _, ⟨_, _, e, _⟩, _⟩ := h; rw [e]; rfl) (fun _ _ _ _ _ _ us hl => match us, hl with | [_], _ => rfl)
    fun f cdv A outer s H vs Q E hr h => ⟨t_known_rows K, (der_known_rows W (ok_lesser W) (ok_lit_row W) (ok_unlit W) (ok_wants_from W) hr).nox, rd_known_rows h⟩
theorem ok_least_row {P : Program} {w : World} {K : PySem.W.Frag} {mg : Str → Option Value} {base : Heap} (W : Wd K mg) : Cal P w K mg base CX0 9 "least_row" p_least_row (sp_least_row K) :=
  cal_of (d := d_least_row) W 39 rfl rfl W.g_least_row sc_least_row (fun vs H Q E h => by obtain ⟨_, _, _, ⟨_, _, e, _⟩, _⟩ := h; rw [e]; rfl) (fun _ _ _ _ _ _ us hl => match us, hl with | [_], _ => rfl)
    fun f cdv A outer s H vs Q E hr h => ⟨t_least_row K, (der_least_row W (ok_known_rows W) (ok_look_at_plain W) hr).nox, rd_least_row h⟩
theorem ok_are_rungs {P : Program} {w : World} {K : PySem.W.Frag} {mg : Str → Option Value} {base : Heap} (W : Wd K mg) : Cal P w K mg base CX0 2 "are_rungs" p_are_rungs (sp_are_rungs K) :=
  cal_of (d := d_are_rungs) W 22 rfl rfl W.g_are_rungs sc_are_rungs (fun vs H Q E h => by obtain ⟨_, _, _, ⟨_, _, e, _⟩, _⟩ := h; rw [e]; rfl) (fun _ _ _ _ _ _ us hl => match us, hl with | [_, _], _ => rfl)
    fun f cdv A outer s H vs Q E hr h => ⟨t_are_rungs K, (der_are_rungs W (ok_is_whole W) hr).nox, rd_are_rungs h⟩
theorem ok_is_ladder {P : Program} {w : World} {K : PySem.W.Frag} {mg : Str → Option Value} {base : Heap} (W : Wd K mg) : Cal P w K mg base CX0 3 "is_ladder" p_is_ladder (sp_is_ladder K) :=
  cal_of (d := d_is_ladder) W 23 rfl rfl W.g_is_ladder sc_is_ladder (fun vs H Q E h => by obtain ⟨_, _, _, ⟨_, _, _, _, _, e, _⟩, _⟩ := h; rw [e]; rfl) (fun _ _ _ _ _ _ us hl => match us, hl with | [_, _], _ => rfl)
    fun f cdv A outer s H vs Q E hr h => ⟨t_is_ladder K, (der_is_ladder W (ok_are_rungs W) hr).nox, rd_is_ladder h⟩
theorem ok_climbs {P : Program} {w : World} {K : PySem.W.Frag} {mg : Str → Option Value} {base : Heap} (W : Wd K mg) : Cal P w K mg base CX0 1 "climbs" p_climbs (sp_climbs K) :=
  cal_of (d := d_climbs) W 25 rfl rfl W.g_climbs sc_climbs (fun vs H Q E h => by obtain ⟨_, _, _, ⟨_, _, _, _, _, _, e, _⟩, _⟩ := h; rw [e]; rfl) (fun _ _ _ _ _ _ us hl => match us, hl with | [_, _, _], _ => rfl)
    fun f cdv A outer s H vs Q E hr h => ⟨t_climbs K, (der_climbs W  hr).nox, rd_climbs h⟩
theorem ok_rests {P : Program} {w : World} {K : PySem.W.Frag} {mg : Str → Option Value} {base : Heap} (W : Wd K mg) : Cal P w K mg base CX0 1 "rests" p_rests (sp_rests K) :=
  cal_of (d := d_rests) W 26 rfl rfl W.g_rests sc_rests (fun vs H Q E h => by obtain ⟨_, _, _, ⟨_, _, _, _, e, _⟩, _⟩ := h; rw [e]; rfl) (fun _ _ _ _ _ _ us hl => match us, hl with | [_, _], _ => rfl)
    fun f cdv A outer s H vs Q E hr h => ⟨t_rests K, (der_rests W  hr).nox, rd_rests h⟩
theorem ok_holds_for {P : Program} {w : World} {K : PySem.W.Frag} {mg : Str → Option Value} {base : Heap} (W : Wd K mg) : Cal P w K mg base CX0 6 "holds_for" p_holds_for (sp_holds_for K) :=
  cal_of (d := d_holds_for) W 27 rfl rfl W.g_holds_for sc_holds_for (fun vs H Q E h => by obtain ⟨_, _, _, ⟨_, _, _, _, _, _, _, _, e, _⟩, _⟩ := h; rw [e]; rfl) (fun _ _ _ _ _ _ us hl => match us, hl with | [_, _, _, _], _ => rfl)
    fun f cdv A outer s H vs Q E hr h => ⟨t_holds_for K, (der_holds_for W (ok_batch_costs W) (ok_climbs W) (ok_rests W) hr).nox, rd_holds_for h⟩
end K66

/-! ## S3 -/
set_option maxHeartbeats 4000000
namespace K66
open PySem PySem.Spec PyProof.Rows L2
def NumsP (sizes : List Int) : PP := fun H1 v H2 => ∃ ds : List Int, (ds.length = sizes.length ∧ ∀ i, i < sizes.length → 0 ≤ at0 ds i ∧ at0 ds i < at0 sizes i) ∧ NewL (ds.map V.int) H1 v H2
instance {sizes : List Int} : FP (NumsP sizes) := ⟨fun ⟨ds, h, p⟩ d f => ⟨ds, h, FP.fr p d f⟩⟩
def rowV (r : Row) : List V := [.int r.want, .int r.loaf, .int r.keep, vO r.fine]
def DayP : PP := fun H1 v H2 => ∃ (light : Int) (r : Row), (num light ∧ r.ok) ∧ NewTA [Is (.int light), NewT (rowV r)] H1 v H2
instance : FP DayP := ⟨fun ⟨l, r, h, p⟩ d f => ⟨l, r, h, FP.fr p d f⟩⟩
def AtBk (most : Nat) : PP := fun _ v H2 => ∃ (b : Bk) (pb : Addr), b.ok ∧ b.n ≤ most ∧ v = .ref pb ∧ BkAt H2 pb b
instance {m : Nat} : UP (AtBk m) := ⟨fun ⟨b, pb, h1, h2, h3, h4⟩ e => ⟨b, pb, h1, h2, h3, h4.up e⟩, fun h _ => h⟩
def AtDg (n : Nat) : PP := fun _ v H2 => ∃ (g : List Dg) (p : Addr), g.length = n ∧ (∀ x ∈ g, x.ok) ∧ v = .ref p ∧ DgsAt H2 p g
instance {n : Nat} : UP (AtDg n) := ⟨fun ⟨b, pb, h1, h2, h3, h4⟩ e => ⟨b, pb, h1, h2, h3, h4.up e⟩, fun h _ => h⟩
def AtTwo (m : Nat) : PP := fun _ v H2 => ∃ (T : Addr) (b : Bk) (pb : Addr) (g : List Dg) (pd : Addr), v = .ref T ∧ H2 T = some (.tup [.ref pb, .ref pd]) ∧ b.ok ∧ b.n = m ∧ DgOk b g ∧ BkAt H2 pb b ∧ DgsAt H2 pd g
instance {m : Nat} : UP (AtTwo m) := ⟨fun ⟨T, b, pb, g, pd, h1, h2, h3, h4, h5, h6, h7⟩ e => ⟨T, b, pb, g, pd, h1, e _ _ h2, h3, h4, h5, h6.up e, h7.up e⟩, fun h _ => h⟩
def natsV (l : List Nat) : List V := l.map fun (d : Nat) => V.int (d : Int)
def isInt (v : V) : Prop := ∃ i : Int, v = .int i
/-! ### the promises, third part: the law's own defs -/
def sp__law_cell_at (K : PySem.W.Frag) : Sp := spOf fun vs H P => ∃ (a : Addr) (ns : List Int) (k : Nat), vs = [.ref a, .int (k : Int)] ∧ SqL K H a (ns.map V.int) ∧ ns.length ≤ 63 ∧ P = Some' isInt
def sp__law_numbers (_K : PySem.W.Frag) : Sp := spOf fun vs H P => ∃ (c : Int) (salt : Int) (p : Addr) (sizes : List Int), vs = [.int c, .int salt, .ref p] ∧ H p = some (.lst (sizes.map V.int)) ∧ (0 ≤ salt ∧ salt ≤ 100000) ∧ sizes.length ≤ 20 ∧ (∀ x ∈ sizes, 0 < x ∧ x < 1073741824) ∧ P = NumsP sizes
def sp__law_day (_K : PySem.W.Frag) : Sp := spOf fun vs H P => ∃ (p : Addr) (ds : List Int) (late : Bool), vs = [.ref p, .bl late] ∧ H p = some (.lst (ds.map V.int)) ∧ ds.length = 7 ∧ (∀ i, i < 5 → num (at0 ds i)) ∧ P = DayP
def sp__law_bakery (K : PySem.W.Frag) : Sp := spOf fun vs H P => ∃ (a : Addr) (ns : List Int) (salt : Int), vs = [.ref a, .int 5, .int salt] ∧ SqL K H a (ns.map V.int) ∧ ns.length ≤ 63 ∧ (0 ≤ salt ∧ salt ≤ 90000) ∧ P = AtBk 4
def sp__law_price (_K : PySem.W.Frag) : Sp := spOf fun vs H P => ∃ (pg : Addr) (b : Bk) (s : Nat) (d : Nat), vs = [.ref pg, .int (s : Int), .int (d : Int)] ∧ GoodAt H pg b ∧ b.ok ∧ s < b.n ∧ d < b.n ∧ P = Is (vO (b.price s d))
def sp__law_doughs (K : PySem.W.Frag) : Sp := spOf fun vs H P => ∃ (a : Addr) (ns : List Int) (n : Nat) (salt : Int), vs = [.ref a, .int (n : Int), .int salt] ∧ SqL K H a (ns.map V.int) ∧ ns.length ≤ 63 ∧ n ≤ 40 ∧ (0 ≤ salt ∧ salt ≤ 90000) ∧ P = AtDg n
def sp__law_later (_K : PySem.W.Frag) : Sp := spOf fun vs H P => ∃ (c : Int), vs = [.int c] ∧ P = Some' isInt
def sp__law_dough (_K : PySem.W.Frag) : Sp := spOf fun vs H P => ∃ (pd : Addr) (gs : List Dg) (r : Nat) (s : Nat), vs = [.ref pd, .int (r : Int), .int (s : Int)] ∧ DgsAt H pd gs ∧ r ≤ s ∧ s < gs.length ∧ gs.length ≤ 40 ∧ P = Is (.int (each gs r s))
def sp__law_chosen (_K : PySem.W.Frag) : Sp := spOf fun vs H P => ∃ (N : Nat) (n : Nat), vs = [.int (N : Int), .int (n : Int)] ∧ n ≤ 40 ∧ P = NewL (natsV (chosen N n))
def sp__law_best_for (_K : PySem.W.Frag) : Sp := spOf fun vs H P => ∃ (pb : Addr) (b : Bk) (pd : Addr) (g : List Dg) (pm : Addr) (M : List Nat) (pq : Addr) (B : List Nat) (d : Nat), vs = [.ref pb, .ref pd, .ref pm, .ref pq, .int (d : Int)] ∧ BkAt H pb b ∧ b.ok ∧ DgsAt H pd g ∧ DgOk b g ∧
  H pm = some (.lst (natsV M)) ∧ H pq = some (.lst (natsV B)) ∧ (∀ r ∈ M, r < b.n) ∧ (∀ s ∈ B, s < b.n) ∧ d < b.n ∧ P = Some' fun v => ∃ o, v = vO o ∧ IsBest b g M B d o
def sp__law_set_cost (_K : PySem.W.Frag) : Sp := spOf fun vs H P => ∃ (pb : Addr) (b : Bk) (pd : Addr) (g : List Dg) (pm : Addr) (M : List Nat) (pq : Addr) (B : List Nat), vs = [.ref pb, .ref pd, .ref pm, .ref pq] ∧ BkAt H pb b ∧ b.ok ∧ DgsAt H pd g ∧ DgOk b g ∧
  H pm = some (.lst (natsV M)) ∧ H pq = some (.lst (natsV B)) ∧ (∀ r ∈ M, r < b.n) ∧ (∀ s ∈ B, s < b.n) ∧ M.length ≤ 40 ∧ B.length ≤ 40 ∧ P = Some' fun v => ∃ o, v = vO o ∧ IsSet b g M B o
def sp__law_least (_K : PySem.W.Frag) : Sp := spOf fun vs H P => ∃ (pb : Addr) (b : Bk) (pd : Addr) (g : List Dg), vs = [.ref pb, .ref pd] ∧ BkAt H pb b ∧ b.ok ∧ DgsAt H pd g ∧ DgOk b g ∧ b.n ≤ 4 ∧ P = Some' fun v => ∃ o, v = vO o ∧ IsLeast b g o
def sp__law_longer (_K : PySem.W.Frag) : Sp := spOf fun vs H P => ∃ (pb : Addr) (b : Bk) (pd : Addr) (g : List Dg) (m : Nat), vs = [.ref pb, .ref pd, .int (m : Int)] ∧ BkAt H pb b ∧ b.ok ∧ DgsAt H pd g ∧ DgOk b g ∧ 1 ≤ m ∧ m ≤ 40 ∧ P = AtTwo m
end K66

/-! ## D3 -/
set_option maxHeartbeats 4000000
namespace K66
open PySem PySem.Spec PyProof.Rows L2
/-! _law_cell_at -/
abbrev N__law_cell_at : List Str := ["_law_script", "_law_k"]
abbrev p__law_cell_at : List Str := ["_law_script", "_law_k"]
theorem sc__law_cell_at : FnScope N__law_cell_at p__law_cell_at (defScope s__law_cell_at) := ⟨rfl, rfl, rfl, by decide +kernel, rfl, by decide +kernel, by decide +kernel⟩
def t__law_cell_at (K : PySem.W.Frag) : TS := tSeq (tIfS (tTest (tOp rLtI (tVar 1) (tCB (rLenS K) (tCons (tVar 0) (tNil))))) (tSeq (tRet (tOp (rIx K) (tVar 0) (tVar 1))) (tNext)) (tNext)) (tSeq (tRet (tC (.int 0))) (tNext))
theorem der__law_cell_at {P : Program} {w : World} {K : PySem.W.Frag} {mg : Str → Option Value} {base : Heap} (W : Wd K mg)  {f : Addr} {cdv : Value} {A : Around} {outer : List Env} {s : Shared} {H : Hp} {E : XK} (hr : Room 0 (A.deeper (envOfC "_law_cell_at" (defScope s__law_cell_at) s.heap.objs.size f cdv))) :
    PSs (cxOf CX0 P w K mg base N__law_cell_at "_law_cell_at" (defScope s__law_cell_at) f cdv A outer s H E).nox (defBody s__law_cell_at) (t__law_cell_at K) :=
  pss_cons (ps_if (pt_cmpR op_lt (pv 1) (pe_callB call_len_seq (by rfl) W.b_len PySem.boot_len (pa_cons (pv 0) (pa_nil))) (nomark _)) (pss_cons (ps_ret (pe_ix ix_seq (pv 0) (pv 1) (fun _ _ => rfl))) (pss_nil)) (pss_nil)) (pss_cons (ps_ret (pe_int)) (pss_nil))
/-! _law_numbers -/
abbrev N__law_numbers : List Str := ["_law_cell", "_law_salt", "_law_sizes", "_law_number", "_law_left", "_law_found", "_law_k", "_law_one"]
abbrev p__law_numbers : List Str := ["_law_cell", "_law_salt", "_law_sizes"]
theorem sc__law_numbers : FnScope N__law_numbers p__law_numbers (defScope s__law_numbers) := ⟨rfl, rfl, rfl, by decide +kernel, rfl, by decide +kernel, by decide +kernel⟩
def t__law_numbers (K : PySem.W.Frag) : TS := tSeq (tAsg (tCB (rMax2) (tCons (tVar 0) (tCons (tOp rSubI (tUn rNegI (tC (.int 1))) (tVar 0)) (tNil)))) (gName 3)) (tSeq (tAsg (tVar 3) (gName 4)) (tSeq (tAsg (tLst (tNil)) (gName 5)) (tSeq (tFor (iRng1 (tCons (tCB (rLenS K) (tCons (tVar 2) (tNil))) (tNil))) (gName 6) (tSeq (tIfS (tAnd (tTest (tOp rGeI (tVar 3) (tOp rPowI (tC (.int 10)) (tC (.int 18))))) (tTest (tOp rGtI (tVar 4) (tC (.int 0))))) (tSeq (tDrop (tBM K "list" rAppend (tVar 5) (tCons (tOp rModI (tVar 4) (tOp (rIx K) (tVar 2) (tVar 6))) (tNil)))) (tSeq (tAsg (tOp rDivI (tVar 4) (tOp (rIx K) (tVar 2) (tVar 6))) (gName 4)) (tNext))) (tSeq (tAsg (tOp rModI (tOp rPowI (tOp rAddI (tOp rAddI (tOp rModI (tVar 3) (tC (.int 2147483629))) (tOp rMulI (tC (.int 7919)) (tVar 1))) (tC (.int 1))) (tC (.int 3))) (tC (.int 2147483647))) (gName 7)) (tSeq (tAsg (tOp rModI (tOp rMulI (tOp rAddI (tVar 7) (tOp rMulI (tC (.int 104729)) (tOp rAddI (tVar 6) (tC (.int 1))))) (tOp rAddI (tVar 6) (tC (.int 3)))) (tC (.int 2147483629))) (gName 7)) (tSeq (tAsg (tOp rModI (tOp rMulI (tOp rModI (tOp rPowI (tVar 7) (tC (.int 5))) (tC (.int 2147483647))) (tC (.int 48271))) (tC (.int 2147483629))) (gName 7)) (tSeq (tDrop (tBM K "list" rAppend (tVar 5) (tCons (tOp rModI (tOp rDivI (tVar 7) (tC (.int 16))) (tOp (rIx K) (tVar 2) (tVar 6))) (tNil)))) (tNext)))))) (tNext))) (tSeq (tRet (tVar 5)) (tNext)))))
theorem der__law_numbers {P : Program} {w : World} {K : PySem.W.Frag} {mg : Str → Option Value} {base : Heap} (W : Wd K mg)  {f : Addr} {cdv : Value} {A : Around} {outer : List Env} {s : Shared} {H : Hp} {E : XK} (hr : Room 0 (A.deeper (envOfC "_law_numbers" (defScope s__law_numbers) s.heap.objs.size f cdv))) :
    PSs (cxOf CX0 P w K mg base N__law_numbers "_law_numbers" (defScope s__law_numbers) f cdv A outer s H E).nox (defBody s__law_numbers) (t__law_numbers K) :=
  pss_cons (ps_set (i := 3) sc__law_numbers.nd rfl (by first | exact Or.inl rfl | exact Or.inr rfl) (pe_callB (call_max2 (by rfl)) (by rfl) W.b_max (by decide +kernel) (pa_cons (pv 0) (pa_cons (pe_op op_sub (pe_un un_neg (pe_int)) (pv 0)) (pa_nil))))) (pss_cons (ps_set (i := 4) sc__law_numbers.nd rfl (by first | exact Or.inl rfl | exact Or.inr rfl) (pv 3)) (pss_cons (ps_set (i := 5) sc__law_numbers.nd rfl (by first | exact Or.inl rfl | exact Or.inr rfl) (pe_lst (pa_nil))) (pss_cons (ps_for PassesOwn.never (by rfl) (pi_range1 (by rfl) W.b_range (pa_cons (pe_callB call_len_seq (by rfl) W.b_len PySem.boot_len (pa_cons (pv 2) (pa_nil))) (pa_nil))) (pg_name (i := 6) sc__law_numbers.nd rfl (by first | exact Or.inl rfl | exact Or.inr rfl)) (pss_cons (ps_if (PW.pt (pw_and (pt_cmpR op_ge (pv 3) (pe_op op_pow (pe_int) (pe_int)) (nomark _)) (pw_and1 (pt_cmpR op_gt (pv 4) (pe_int) (nomark _))))) (pss_cons (ps_expr (pe_bm PySem.F.plainAttrs_list PySem.F.slot_list_append PySem.F.type_list_append mt_append (pv 5) (pa_cons (pe_op op_mod (pv 4) (pe_ix ix_seq (pv 2) (pv 6) (fun _ _ => rfl))) (pa_nil)))) (pss_cons (ps_set (i := 4) sc__law_numbers.nd rfl (by first | exact Or.inl rfl | exact Or.inr rfl) (pe_op op_fdiv (pv 4) (pe_ix ix_seq (pv 2) (pv 6) (fun _ _ => rfl)))) (pss_nil))) (pss_cons (ps_set (i := 7) sc__law_numbers.nd rfl (by first | exact Or.inl rfl | exact Or.inr rfl) (pe_op op_mod (pe_op op_pow (pe_op op_add (pe_op op_add (pe_op op_mod (pv 3) (pe_int)) (pe_op op_mul (pe_int) (pv 1))) (pe_int)) (pe_int)) (pe_int))) (pss_cons (ps_set (i := 7) sc__law_numbers.nd rfl (by first | exact Or.inl rfl | exact Or.inr rfl) (pe_op op_mod (pe_op op_mul (pe_op op_add (pv 7) (pe_op op_mul (pe_int) (pe_op op_add (pv 6) (pe_int)))) (pe_op op_add (pv 6) (pe_int))) (pe_int))) (pss_cons (ps_set (i := 7) sc__law_numbers.nd rfl (by first | exact Or.inl rfl | exact Or.inr rfl) (pe_op op_mod (pe_op op_mul (pe_op op_mod (pe_op op_pow (pv 7) (pe_int)) (pe_int)) (pe_int)) (pe_int))) (pss_cons (ps_expr (pe_bm PySem.F.plainAttrs_list PySem.F.slot_list_append PySem.F.type_list_append mt_append (pv 5) (pa_cons (pe_op op_mod (pe_op op_fdiv (pv 7) (pe_int)) (pe_ix ix_seq (pv 2) (pv 6) (fun _ _ => rfl))) (pa_nil)))) (pss_nil)))))) (pss_nil))) (pss_cons (ps_ret (pv 5)) (pss_nil)))))
/-! _law_day -/
abbrev N__law_day : List Str := ["_law_digits", "_law_late", "_law_want", "_law_loaf", "_law_keep", "_law_fine", "_law_light", "_law_none", "_law_far"]
abbrev p__law_day : List Str := ["_law_digits", "_law_late"]
theorem sc__law_day : FnScope N__law_day p__law_day (defScope s__law_day) := ⟨rfl, rfl, rfl, by decide +kernel, rfl, by decide +kernel, by decide +kernel⟩
def t__law_day (K : PySem.W.Frag) : TS := tSeq (tAsg (tVar 0) (gLst K 7 (gCons (gName 2) (gCons (gName 3) (gCons (gName 4) (gCons (gName 5) (gCons (gName 6) (gCons (gName 7) (gCons (gName 8) (gNil)))))))))) (tSeq (tRet (tTup (tCons (tVar 6) (tCons (tTup (tCons (tOp rMulI (tVar 2) (tCB (rIntS) (tCons (tOp rGtI (tVar 7) (tC (.int 0))) (tNil)))) (tCons (tVar 3) (tCons (tVar 4) (tCons (tOp (rIx K) (tLst (tCons (tC .non) (tCons (tVar 5) (tNil)))) (tCB (rIntS) (tCons (tAndV (tVar 1) (tOp rGtI (tVar 8) (tC (.int 1)))) (tNil)))) (tNil)))))) (tNil))))) (tNext))
theorem der__law_day {P : Program} {w : World} {K : PySem.W.Frag} {mg : Str → Option Value} {base : Heap} (W : Wd K mg)  {f : Addr} {cdv : Value} {A : Around} {outer : List Env} {s : Shared} {H : Hp} {E : XK} (hr : Room 0 (A.deeper (envOfC "_law_day" (defScope s__law_day) s.heap.objs.size f cdv))) :
    PSs (cxOf CX0 P w K mg base N__law_day "_law_day" (defScope s__law_day) f cdv A outer s H E).nox (defBody s__law_day) (t__law_day K) :=
  pss_cons (ps_asg (pv 0) (pg_lst (by rfl) (pgs_cons (pg_name (i := 2) sc__law_day.nd rfl (by first | exact Or.inl rfl | exact Or.inr rfl)) (pgs_cons (pg_name (i := 3) sc__law_day.nd rfl (by first | exact Or.inl rfl | exact Or.inr rfl)) (pgs_cons (pg_name (i := 4) sc__law_day.nd rfl (by first | exact Or.inl rfl | exact Or.inr rfl)) (pgs_cons (pg_name (i := 5) sc__law_day.nd rfl (by first | exact Or.inl rfl | exact Or.inr rfl)) (pgs_cons (pg_name (i := 6) sc__law_day.nd rfl (by first | exact Or.inl rfl | exact Or.inr rfl)) (pgs_cons (pg_name (i := 7) sc__law_day.nd rfl (by first | exact Or.inl rfl | exact Or.inr rfl)) (pgs_cons (pg_name (i := 8) sc__law_day.nd rfl (by first | exact Or.inl rfl | exact Or.inr rfl)) (pgs_nil)))))))))) (pss_cons (ps_ret (pe_tup (pa_cons (pv 6) (pa_cons (pe_tup (pa_cons (pe_op op_mul (pv 2) (pe_callTy call_int1 (by rfl) W.b_int (by decide +kernel) (pa_cons (pe_cmpR op_gt (pv 7) (pe_int) (nomark _)) (pa_nil)))) (pa_cons (pv 3) (pa_cons (pv 4) (pa_cons (pe_ix ix_seq (pe_lst (pa_cons (pe_non) (pa_cons (pv 5) (pa_nil)))) (pe_callTy call_int1 (by rfl) W.b_int (by decide +kernel) (pa_cons (pe_and (pv 1) (pe_one (pe_cmpR op_gt (pv 8) (pe_int) (nomark _)))) (pa_nil))) (fun _ _ => rfl)) (pa_nil)))))) (pa_nil))))) (pss_nil))
/-! _law_bakery -/
abbrev N__law_bakery : List Str := ["_law_script", "_law_upto", "_law_salt", "_law_head", "_law_sizes", "_law_lights", "_law_days", "_law_k", "_law_light", "_law_day_here"]
abbrev p__law_bakery : List Str := ["_law_script", "_law_upto", "_law_salt"]
theorem sc__law_bakery : FnScope N__law_bakery p__law_bakery (defScope s__law_bakery) := ⟨rfl, rfl, rfl, by decide +kernel, rfl, by decide +kernel, by decide +kernel⟩
def t__law_bakery (K : PySem.W.Frag) : TS := tSeq (tAsg (tCall (sp__law_numbers K) [] E0 (tCons (tCall (sp__law_cell_at K) [] E0 (tCons (tVar 0) (tCons (tC (.int 0)) (tNil)))) (tCons (tVar 2) (tCons (tLst (tCons (tC (.int 3)) (tCons (tC (.int 12)) (tCons (tC (.int 2)) (tNil))))) (tNil))))) (gName 3)) (tSeq (tAsg (tOp rCat (tOp (rIx K) (tLst (tCons (tLst (tCons (tC (.int 5)) (tCons (tC (.int 6)) (tCons (tC (.int 4)) (tCons (tC (.int 4)) (tCons (tC (.int 13)) (tNil))))))) (tCons (tOp rRep (tLst (tCons (tOp rAddI (tOp rPowI (tC (.int 10)) (tC (.int 9))) (tC (.int 1))) (tNil))) (tC (.int 5))) (tNil)))) (tCB (rIntS) (tCons (tOp rEq (tOp (rIx K) (tVar 3) (tC (.int 0))) (tC (.int 0))) (tNil)))) (tLst (tCons (tC (.int 4)) (tCons (tC (.int 5)) (tNil))))) (gName 4)) (tSeq (tAsg (tLst (tNil)) (gName 5)) (tSeq (tAsg (tLst (tNil)) (gName 6)) (tSeq (tFor (iRng2 (tCons (tC (.int 1)) (tCons (tCB (rMax2) (tCons (tC (.int 2)) (tCons (tCB (rMin2) (tCons (tVar 1) (tCons (tCB (rLenS K) (tCons (tVar 0) (tNil))) (tNil)))) (tNil)))) (tNil)))) (gName 7) (tSeq (tAsg (tCall (sp__law_day K) [] E0 (tCons (tCall (sp__law_numbers K) [] E0 (tCons (tCall (sp__law_cell_at K) [] E0 (tCons (tVar 0) (tCons (tVar 7) (tNil)))) (tCons (tOp rAddI (tVar 2) (tVar 7)) (tCons (tVar 4) (tNil))))) (tCons (tOp rEq (tOp (rIx K) (tVar 3) (tC (.int 2))) (tC (.int 1))) (tNil)))) (gTup K 2 (gCons (gName 8) (gCons (gName 9) (gNil))))) (tSeq (tDrop (tBM K "list" rAppend (tVar 5) (tCons (tVar 8) (tNil)))) (tSeq (tDrop (tBM K "list" rAppend (tVar 6) (tCons (tVar 9) (tNil)))) (tNext))))) (tSeq (tRet (tTup (tCons (tVar 5) (tCons (tC .non) (tCons (tLst (tCons (tTup (tCons (tVar 6) (tCons (tOp (rIx K) (tLst (tCons (tC .non) (tCons (tC .non) (tCons (tC (.int 0)) (tCons (tC (.int 1)) (tCons (tC (.int 2)) (tCons (tC (.int 3)) (tCons (tC (.int 4)) (tCons (tC (.int 5)) (tCons (tC (.int 7)) (tCons (tC (.int 11)) (tCons (tC (.int 23)) (tCons (tC (.int 40)) (tNil)))))))))))))) (tOp (rIx K) (tVar 3) (tC (.int 1)))) (tNil)))) (tNil))) (tNil)))))) (tNext))))))
theorem der__law_bakery {P : Program} {w : World} {K : PySem.W.Frag} {mg : Str → Option Value} {base : Heap} (W : Wd K mg) (C__law_cell_at : Cal P w K mg base CX0 1 "_law_cell_at" p__law_cell_at (sp__law_cell_at K)) (C__law_day : Cal P w K mg base CX0 1 "_law_day" p__law_day (sp__law_day K)) (C__law_numbers : Cal P w K mg base CX0 1 "_law_numbers" p__law_numbers (sp__law_numbers K)) {f : Addr} {cdv : Value} {A : Around} {outer : List Env} {s : Shared} {H : Hp} {E : XK} (hr : Room 1 (A.deeper (envOfC "_law_bakery" (defScope s__law_bakery) s.heap.objs.size f cdv))) :
    PSs (cxOf CX0 P w K mg base N__law_bakery "_law_bakery" (defScope s__law_bakery) f cdv A outer s H E).nox (defBody s__law_bakery) (t__law_bakery K) :=
  pss_cons (ps_set (i := 3) sc__law_bakery.nd rfl (by first | exact Or.inl rfl | exact Or.inr rfl) (pe_cal C__law_numbers (hr.mono (by decide)) (by rfl) (pa_cons (pe_cal C__law_cell_at (hr.mono (by decide)) (by rfl) (pa_cons (pv 0) (pa_cons (pe_int) (pa_nil)))) (pa_cons (pv 2) (pa_cons (pe_lst (pa_cons (pe_int) (pa_cons (pe_int) (pa_cons (pe_int) (pa_nil))))) (pa_nil)))))) (pss_cons (ps_set (i := 4) sc__law_bakery.nd rfl (by first | exact Or.inl rfl | exact Or.inr rfl) (pe_op op_cat (pe_ix ix_seq (pe_lst (pa_cons (pe_lst (pa_cons (pe_int) (pa_cons (pe_int) (pa_cons (pe_int) (pa_cons (pe_int) (pa_cons (pe_int) (pa_nil))))))) (pa_cons (pe_op op_rep (pe_lst (pa_cons (pe_op op_add (pe_op op_pow (pe_int) (pe_int)) (pe_int)) (pa_nil))) (pe_int)) (pa_nil)))) (pe_callTy call_int1 (by rfl) W.b_int (by decide +kernel) (pa_cons (pe_cmpR op_eq (pe_ix ix_seq (pv 3) (pe_int) (fun _ _ => rfl)) (pe_int) (nomark _)) (pa_nil))) (fun _ _ => rfl)) (pe_lst (pa_cons (pe_int) (pa_cons (pe_int) (pa_nil)))))) (pss_cons (ps_set (i := 5) sc__law_bakery.nd rfl (by first | exact Or.inl rfl | exact Or.inr rfl) (pe_lst (pa_nil))) (pss_cons (ps_set (i := 6) sc__law_bakery.nd rfl (by first | exact Or.inl rfl | exact Or.inr rfl) (pe_lst (pa_nil))) (pss_cons (ps_for PassesOwn.never (by rfl) (pi_range2 (by rfl) W.b_range (pa_cons (pe_int) (pa_cons (pe_callB (call_max2 (by rfl)) (by rfl) W.b_max (by decide +kernel) (pa_cons (pe_int) (pa_cons (pe_callB (call_min2 (by rfl)) (by rfl) W.b_min (by decide +kernel) (pa_cons (pv 1) (pa_cons (pe_callB call_len_seq (by rfl) W.b_len PySem.boot_len (pa_cons (pv 0) (pa_nil))) (pa_nil)))) (pa_nil)))) (pa_nil)))) (pg_name (i := 7) sc__law_bakery.nd rfl (by first | exact Or.inl rfl | exact Or.inr rfl)) (pss_cons (ps_asg (pe_cal C__law_day (hr.mono (by decide)) (by rfl) (pa_cons (pe_cal C__law_numbers (hr.mono (by decide)) (by rfl) (pa_cons (pe_cal C__law_cell_at (hr.mono (by decide)) (by rfl) (pa_cons (pv 0) (pa_cons (pv 7) (pa_nil)))) (pa_cons (pe_op op_add (pv 2) (pv 7)) (pa_cons (pv 4) (pa_nil))))) (pa_cons (pe_cmpR op_eq (pe_ix ix_seq (pv 3) (pe_int) (fun _ _ => rfl)) (pe_int) (nomark _)) (pa_nil)))) (pg_tup (by rfl) (pgs_cons (pg_name (i := 8) sc__law_bakery.nd rfl (by first | exact Or.inl rfl | exact Or.inr rfl)) (pgs_cons (pg_name (i := 9) sc__law_bakery.nd rfl (by first | exact Or.inl rfl | exact Or.inr rfl)) (pgs_nil))))) (pss_cons (ps_expr (pe_bm PySem.F.plainAttrs_list PySem.F.slot_list_append PySem.F.type_list_append mt_append (pv 5) (pa_cons (pv 8) (pa_nil)))) (pss_cons (ps_expr (pe_bm PySem.F.plainAttrs_list PySem.F.slot_list_append PySem.F.type_list_append mt_append (pv 6) (pa_cons (pv 9) (pa_nil)))) (pss_nil))))) (pss_cons (ps_ret (pe_tup (pa_cons (pv 5) (pa_cons (pe_non) (pa_cons (pe_lst (pa_cons (pe_tup (pa_cons (pv 6) (pa_cons (pe_ix ix_seq (pe_lst (pa_cons (pe_non) (pa_cons (pe_non) (pa_cons (pe_int) (pa_cons (pe_int) (pa_cons (pe_int) (pa_cons (pe_int) (pa_cons (pe_int) (pa_cons (pe_int) (pa_cons (pe_int) (pa_cons (pe_int) (pa_cons (pe_int) (pa_cons (pe_int) (pa_nil)))))))))))))) (pe_ix ix_seq (pv 3) (pe_int) (fun _ _ => rfl)) (fun _ _ => rfl)) (pa_nil)))) (pa_nil))) (pa_nil)))))) (pss_nil))))))
/-! _law_price -/
abbrev N__law_price : List Str := ["_law_good", "_law_baked", "_law_given", "_law_days", "_law_life", "_law_fines", "_law_row"]
abbrev p__law_price : List Str := ["_law_good", "_law_baked", "_law_given"]
theorem sc__law_price : FnScope N__law_price p__law_price (defScope s__law_price) := ⟨rfl, rfl, rfl, by decide +kernel, rfl, by decide +kernel, by decide +kernel⟩
def t__law_price (K : PySem.W.Frag) : TS := tSeq (tAsg (tVar 0) (gTup K 2 (gCons (gName 3) (gCons (gName 4) (gNil))))) (tSeq (tIfS (tTest (tOp rGtI (tVar 1) (tVar 2))) (tSeq (tAsg (tLc (iList K (tSl (rSlL K) (tVar 3) (tPart (tVar 2)) (tPart (tVar 1)))) (gName 6) (tYes) (tOp (rIx K) (tVar 6) (tC (.int 3))) [6]) (gName 5)) (tSeq (tRet (tIf (tTest (tOp (rIn K false) (tC .non) (tVar 5))) (tC .non) (tOp rAddI (tOp (rIx K) (tOp (rIx K) (tVar 3) (tVar 1)) (tC (.int 1))) (tCB (rSum K) (tCons (tVar 5) (tNil)))))) (tNext))) (tNext)) (tSeq (tIfS (tAnd (tTest (tOp rNotN (tVar 4) (tC .non))) (tTest (tOp rGtI (tOp rSubI (tVar 2) (tVar 1)) (tVar 4)))) (tSeq (tRet (tC .non)) (tNext)) (tNext)) (tSeq (tRet (tOp rAddI (tOp (rIx K) (tOp (rIx K) (tVar 3) (tVar 1)) (tC (.int 1))) (tCB (rSum K) (tCons (tLc (iList K (tSl (rSlL K) (tVar 3) (tPart (tVar 1)) (tPart (tVar 2)))) (gName 6) (tYes) (tOp (rIx K) (tVar 6) (tC (.int 2))) [6]) (tNil))))) (tNext))))
theorem der__law_price {P : Program} {w : World} {K : PySem.W.Frag} {mg : Str → Option Value} {base : Heap} (W : Wd K mg)  {f : Addr} {cdv : Value} {A : Around} {outer : List Env} {s : Shared} {H : Hp} {E : XK} (hr : Room 0 (A.deeper (envOfC "_law_price" (defScope s__law_price) s.heap.objs.size f cdv))) :
    PSs (cxOf CX0 P w K mg base N__law_price "_law_price" (defScope s__law_price) f cdv A outer s H E).nox (defBody s__law_price) (t__law_price K) :=
  pss_cons (ps_asg (pv 0) (pg_tup (by rfl) (pgs_cons (pg_name (i := 3) sc__law_price.nd rfl (by first | exact Or.inl rfl | exact Or.inr rfl)) (pgs_cons (pg_name (i := 4) sc__law_price.nd rfl (by first | exact Or.inl rfl | exact Or.inr rfl)) (pgs_nil))))) (pss_cons (ps_if (pt_cmpR op_gt (pv 1) (pv 2) (nomark _)) (pss_cons (ps_setLc (i := 5) (own := [("_law_row", 6)]) (by rfl) sc__law_price.nd rfl rfl (sw_true rfl rfl rfl (by decide +kernel)) (pi_list (pe_slice sl_list (pv 3) (po_some (pv 2)) (po_some (pv 1)))) (blkOk_by (own := [("_law_row", 6)]) (N := N__law_price) (sc := defScope s__law_price) (by decide +kernel)) (fun _ _ _ _ _ => pg_name (i := 6) sc__law_price.nd rfl (by first | exact Or.inl rfl | exact Or.inr rfl)) (fun _ _ _ _ _ => pts_nil) (fun _ _ _ _ _ => pe_ix ix_seq (pv 6) (pe_int) (fun _ _ => rfl))) (pss_cons (ps_ret (pe_ifExp (pt_cmpR op_in_seq (pe_non) (pv 5) (by rfl)) (pe_non) (pe_op op_add (pe_ix ix_seq (pe_ix ix_seq (pv 3) (pv 1) (fun _ _ => rfl)) (pe_int) (fun _ _ => rfl)) (pe_callB (cr_sum (by rfl)) (by rfl) W.b_sum (by decide +kernel) (pa_cons (pv 5) (pa_nil)))))) (pss_nil))) (pss_nil)) (pss_cons (ps_if (PW.pt (pw_and (pt_cmpR op_notN (pv 4) (pe_non) (nomark _)) (pw_and1 (pt_cmpR op_gt (pe_op op_sub (pv 2) (pv 1)) (pv 4) (nomark _))))) (pss_cons (ps_ret (pe_non)) (pss_nil)) (pss_nil)) (pss_cons (ps_ret (pe_op op_add (pe_ix ix_seq (pe_ix ix_seq (pv 3) (pv 1) (fun _ _ => rfl)) (pe_int) (fun _ _ => rfl)) (pe_callB (cr_sum (by rfl)) (by rfl) W.b_sum (by decide +kernel) (pa_cons (pe_lc (own := [("_law_row", 6)]) (by rfl) sc__law_price.nd (pi_list (pe_slice sl_list (pv 3) (po_some (pv 1)) (po_some (pv 2)))) (blkOk_by (own := [("_law_row", 6)]) (N := N__law_price) (sc := defScope s__law_price) (by decide +kernel)) (fun _ _ _ _ _ => pg_name (i := 6) sc__law_price.nd rfl (by first | exact Or.inl rfl | exact Or.inr rfl)) (fun _ _ _ _ _ => pts_nil) (fun _ _ _ _ _ => pe_ix ix_seq (pv 6) (pe_int) (fun _ _ => rfl))) (pa_nil))))) (pss_nil))))
/-! _law_doughs -/
abbrev N__law_doughs : List Str := ["_law_script", "_law_many", "_law_salt", "_law_wide", "_law_found", "_law_day_here", "_law_cell", "_law_digits"]
abbrev p__law_doughs : List Str := ["_law_script", "_law_many", "_law_salt"]
theorem sc__law_doughs : FnScope N__law_doughs p__law_doughs (defScope s__law_doughs) := ⟨rfl, rfl, rfl, by decide +kernel, rfl, by decide +kernel, by decide +kernel⟩
def t__law_doughs (K : PySem.W.Frag) : TS := tSeq (tAsg (tOp rEq (tOp (rIx K) (tCall (sp__law_numbers K) [] E0 (tCons (tCall (sp__law_cell_at K) [] E0 (tCons (tVar 0) (tCons (tC (.int 0)) (tNil)))) (tCons (tVar 2) (tCons (tLst (tCons (tC (.int 3)) (tNil))) (tNil))))) (tC (.int 0))) (tC (.int 0))) (gName 3)) (tSeq (tAsg (tLst (tNil)) (gName 4)) (tSeq (tFor (iRng1 (tCons (tVar 1) (tNil))) (gName 5) (tSeq (tAsg (tCall (sp__law_later K) [] E0 (tCons (tCall (sp__law_cell_at K) [] E0 (tCons (tVar 0) (tCons (tOp rAddI (tC (.int 1)) (tVar 5)) (tNil)))) (tNil))) (gName 6)) (tSeq (tAsg (tCall (sp__law_numbers K) [] E0 (tCons (tVar 6) (tCons (tOp rAddI (tOp rAddI (tVar 2) (tC (.int 40))) (tVar 5)) (tCons (tOp (rIx K) (tLst (tCons (tLst (tCons (tC (.int 13)) (tCons (tC (.int 5)) (tCons (tC (.int 4)) (tNil))))) (tCons (tOp rRep (tLst (tCons (tOp rAddI (tOp rPowI (tC (.int 10)) (tC (.int 9))) (tC (.int 1))) (tNil))) (tC (.int 3))) (tNil)))) (tCB (rIntS) (tCons (tVar 3) (tNil)))) (tNil))))) (gName 7)) (tSeq (tDrop (tBM K "list" rAppend (tVar 4) (tCons (tCB (rTupS K) (tCons (tVar 7) (tNil))) (tNil)))) (tNext))))) (tSeq (tRet (tVar 4)) (tNext))))
theorem der__law_doughs {P : Program} {w : World} {K : PySem.W.Frag} {mg : Str → Option Value} {base : Heap} (W : Wd K mg) (C__law_cell_at : Cal P w K mg base CX0 1 "_law_cell_at" p__law_cell_at (sp__law_cell_at K)) (C__law_later : Cal P w K mg base CX0 1 "_law_later" p__law_later (sp__law_later K)) (C__law_numbers : Cal P w K mg base CX0 1 "_law_numbers" p__law_numbers (sp__law_numbers K)) {f : Addr} {cdv : Value} {A : Around} {outer : List Env} {s : Shared} {H : Hp} {E : XK} (hr : Room 1 (A.deeper (envOfC "_law_doughs" (defScope s__law_doughs) s.heap.objs.size f cdv))) :
    PSs (cxOf CX0 P w K mg base N__law_doughs "_law_doughs" (defScope s__law_doughs) f cdv A outer s H E).nox (defBody s__law_doughs) (t__law_doughs K) :=
  pss_cons (ps_set (i := 3) sc__law_doughs.nd rfl (by first | exact Or.inl rfl | exact Or.inr rfl) (pe_cmpR op_eq (pe_ix ix_seq (pe_cal C__law_numbers (hr.mono (by decide)) (by rfl) (pa_cons (pe_cal C__law_cell_at (hr.mono (by decide)) (by rfl) (pa_cons (pv 0) (pa_cons (pe_int) (pa_nil)))) (pa_cons (pv 2) (pa_cons (pe_lst (pa_cons (pe_int) (pa_nil))) (pa_nil))))) (pe_int) (fun _ _ => rfl)) (pe_int) (nomark _))) (pss_cons (ps_set (i := 4) sc__law_doughs.nd rfl (by first | exact Or.inl rfl | exact Or.inr rfl) (pe_lst (pa_nil))) (pss_cons (ps_for PassesOwn.never (by rfl) (pi_range1 (by rfl) W.b_range (pa_cons (pv 1) (pa_nil))) (pg_name (i := 5) sc__law_doughs.nd rfl (by first | exact Or.inl rfl | exact Or.inr rfl)) (pss_cons (ps_set (i := 6) sc__law_doughs.nd rfl (by first | exact Or.inl rfl | exact Or.inr rfl) (pe_cal C__law_later (hr.mono (by decide)) (by rfl) (pa_cons (pe_cal C__law_cell_at (hr.mono (by decide)) (by rfl) (pa_cons (pv 0) (pa_cons (pe_op op_add (pe_int) (pv 5)) (pa_nil)))) (pa_nil)))) (pss_cons (ps_set (i := 7) sc__law_doughs.nd rfl (by first | exact Or.inl rfl | exact Or.inr rfl) (pe_cal C__law_numbers (hr.mono (by decide)) (by rfl) (pa_cons (pv 6) (pa_cons (pe_op op_add (pe_op op_add (pv 2) (pe_int)) (pv 5)) (pa_cons (pe_ix ix_seq (pe_lst (pa_cons (pe_lst (pa_cons (pe_int) (pa_cons (pe_int) (pa_cons (pe_int) (pa_nil))))) (pa_cons (pe_op op_rep (pe_lst (pa_cons (pe_op op_add (pe_op op_pow (pe_int) (pe_int)) (pe_int)) (pa_nil))) (pe_int)) (pa_nil)))) (pe_callTy call_int1 (by rfl) W.b_int (by decide +kernel) (pa_cons (pv 3) (pa_nil))) (fun _ _ => rfl)) (pa_nil)))))) (pss_cons (ps_expr (pe_bm PySem.F.plainAttrs_list PySem.F.slot_list_append PySem.F.type_list_append mt_append (pv 4) (pa_cons (pe_callTy call_tuple_of (by rfl) W.b_tuple (by decide +kernel) (pa_cons (pv 7) (pa_nil))) (pa_nil)))) (pss_nil))))) (pss_cons (ps_ret (pv 4)) (pss_nil))))
/-! _law_later -/
abbrev N__law_later : List Str := ["_law_cell"]
abbrev p__law_later : List Str := ["_law_cell"]
theorem sc__law_later : FnScope N__law_later p__law_later (defScope s__law_later) := ⟨rfl, rfl, rfl, by decide +kernel, rfl, by decide +kernel, by decide +kernel⟩
def t__law_later (K : PySem.W.Frag) : TS := tSeq (tRet (tOp rDivW (tVar 0) (tOp (rIx K) (tLst (tCons (tC (.int 1)) (tCons (tOp rPowI (tC (.int 10)) (tC (.int 45))) (tNil)))) (tCB (rIntS) (tCons (tOp rGeI (tVar 0) (tOp rPowI (tC (.int 10)) (tC (.int 63)))) (tNil)))))) (tNext)
theorem der__law_later {P : Program} {w : World} {K : PySem.W.Frag} {mg : Str → Option Value} {base : Heap} (W : Wd K mg)  {f : Addr} {cdv : Value} {A : Around} {outer : List Env} {s : Shared} {H : Hp} {E : XK} (hr : Room 0 (A.deeper (envOfC "_law_later" (defScope s__law_later) s.heap.objs.size f cdv))) :
    PSs (cxOf CX0 P w K mg base N__law_later "_law_later" (defScope s__law_later) f cdv A outer s H E).nox (defBody s__law_later) (t__law_later K) :=
  pss_cons (ps_ret (pe_op op_fdivW (pv 0) (pe_ix ix_seq (pe_lst (pa_cons (pe_int) (pa_cons (pe_op op_pow (pe_int) (pe_int)) (pa_nil)))) (pe_callTy call_int1 (by rfl) W.b_int (by decide +kernel) (pa_cons (pe_cmpR op_ge (pv 0) (pe_op op_pow (pe_int) (pe_int)) (nomark _)) (pa_nil))) (fun _ _ => rfl)))) (pss_nil)
/-! _law_dough -/
abbrev N__law_dough : List Str := ["_law_doughs_here", "_law_mixed", "_law_baked", "_law_each", "_law_night"]
abbrev p__law_dough : List Str := ["_law_doughs_here", "_law_mixed", "_law_baked"]
theorem sc__law_dough : FnScope N__law_dough p__law_dough (defScope s__law_dough) := ⟨rfl, rfl, rfl, by decide +kernel, rfl, by decide +kernel, by decide +kernel⟩
def t__law_dough (K : PySem.W.Frag) : TS := tSeq (tAsg (tOp (rIx K) (tOp (rIx K) (tVar 0) (tVar 1)) (tC (.int 1))) (gName 3)) (tSeq (tFor (iRng2 (tCons (tVar 1) (tCons (tVar 2) (tNil)))) (gName 4) (tSeq (tAsg (tOp rAddI (tVar 3) (tOp (rIx K) (tOp (rIx K) (tVar 0) (tVar 4)) (tC (.int 2)))) (gName 3)) (tNext))) (tSeq (tRet (tVar 3)) (tNext)))
theorem der__law_dough {P : Program} {w : World} {K : PySem.W.Frag} {mg : Str → Option Value} {base : Heap} (W : Wd K mg)  {f : Addr} {cdv : Value} {A : Around} {outer : List Env} {s : Shared} {H : Hp} {E : XK} (hr : Room 0 (A.deeper (envOfC "_law_dough" (defScope s__law_dough) s.heap.objs.size f cdv))) :
    PSs (cxOf CX0 P w K mg base N__law_dough "_law_dough" (defScope s__law_dough) f cdv A outer s H E).nox (defBody s__law_dough) (t__law_dough K) :=
  pss_cons (ps_set (i := 3) sc__law_dough.nd rfl (by first | exact Or.inl rfl | exact Or.inr rfl) (pe_ix ix_seq (pe_ix ix_seq (pv 0) (pv 1) (fun _ _ => rfl)) (pe_int) (fun _ _ => rfl))) (pss_cons (ps_for PassesOwn.never (by rfl) (pi_range2 (by rfl) W.b_range (pa_cons (pv 1) (pa_cons (pv 2) (pa_nil)))) (pg_name (i := 4) sc__law_dough.nd rfl (by first | exact Or.inl rfl | exact Or.inr rfl)) (pss_cons (ps_set (i := 3) sc__law_dough.nd rfl (by first | exact Or.inl rfl | exact Or.inr rfl) (pe_op op_add (pv 3) (pe_ix ix_seq (pe_ix ix_seq (pv 0) (pv 4) (fun _ _ => rfl)) (pe_int) (fun _ _ => rfl)))) (pss_nil))) (pss_cons (ps_ret (pv 3)) (pss_nil)))
/-! _law_chosen -/
abbrev N__law_chosen : List Str := ["_law_number", "_law_many", "_law_day_here"]
abbrev p__law_chosen : List Str := ["_law_number", "_law_many"]
theorem sc__law_chosen : FnScope N__law_chosen p__law_chosen (defScope s__law_chosen) := ⟨rfl, rfl, rfl, by decide +kernel, rfl, by decide +kernel, by decide +kernel⟩
def t__law_chosen (K : PySem.W.Frag) : TS := tSeq (tRet (tLc (iRng1 (tCons (tVar 1) (tNil))) (gName 2) (tTest (tOp rEq (tOp rAndI (tOp rShrI (tVar 0) (tVar 2)) (tC (.int 1))) (tC (.int 1)))) (tVar 2) [2])) (tNext)
theorem der__law_chosen {P : Program} {w : World} {K : PySem.W.Frag} {mg : Str → Option Value} {base : Heap} (W : Wd K mg)  {f : Addr} {cdv : Value} {A : Around} {outer : List Env} {s : Shared} {H : Hp} {E : XK} (hr : Room 0 (A.deeper (envOfC "_law_chosen" (defScope s__law_chosen) s.heap.objs.size f cdv))) :
    PSs (cxOf CX0 P w K mg base N__law_chosen "_law_chosen" (defScope s__law_chosen) f cdv A outer s H E).nox (defBody s__law_chosen) (t__law_chosen K) :=
  pss_cons (ps_ret (pe_lc (own := [("_law_day_here", 2)]) (by rfl) sc__law_chosen.nd (pi_range1 (by rfl) W.b_range (pa_cons (pv 1) (pa_nil))) (blkOk_by (own := [("_law_day_here", 2)]) (N := N__law_chosen) (sc := defScope s__law_chosen) (by decide +kernel)) (fun _ _ _ _ _ => pg_name (i := 2) sc__law_chosen.nd rfl (by first | exact Or.inl rfl | exact Or.inr rfl)) (fun _ _ _ _ _ => pts_one (pt_cmpR op_eq (pe_op op_and (pe_op op_shr (pv 0) (pv 2)) (pe_int)) (pe_int) (nomark _))) (fun _ _ _ _ _ => pv 2))) (pss_nil)
/-! _law_best_for -/
abbrev N__law_best_for : List Str := ["_law_bakery_here", "_law_doughs_here", "_law_mixing", "_law_baking", "_law_given", "_law_best", "_law_baked", "_law_each", "_law_mixed", "_law_total"]
abbrev p__law_best_for : List Str := ["_law_bakery_here", "_law_doughs_here", "_law_mixing", "_law_baking", "_law_given"]
theorem sc__law_best_for : FnScope N__law_best_for p__law_best_for (defScope s__law_best_for) := ⟨rfl, rfl, rfl, by decide +kernel, rfl, by decide +kernel, by decide +kernel⟩
def t__law_best_for (K : PySem.W.Frag) : TS := tSeq (tAsg (tC .non) (gName 5)) (tSeq (tFor (iList K (tVar 3)) (gName 6) (tSeq (tAsg (tCall (sp__law_price K) [] E0 (tCons (tOp (rIx K) (tOp (rIx K) (tVar 0) (tC (.int 2))) (tC (.int 0))) (tCons (tVar 6) (tCons (tVar 4) (tNil))))) (gName 7)) (tSeq (tFor (iList K (tVar 2)) (gName 8) (tSeq (tIfS (tAnd (tTest (tOp rNotN (tVar 7) (tC .non))) (tTest (tOp rLeI (tVar 8) (tVar 6)))) (tSeq (tAsg (tOp rAddI (tVar 7) (tCall (sp__law_dough K) [] E0 (tCons (tVar 1) (tCons (tVar 8) (tCons (tVar 6) (tNil)))))) (gName 9)) (tSeq (tIfS (tOr (tTest (tOp rIsN (tVar 5) (tC .non))) (tTest (tOp rLtI (tVar 9) (tVar 5)))) (tSeq (tAsg (tVar 9) (gName 5)) (tNext)) (tNext)) (tNext))) (tNext)) (tNext))) (tNext)))) (tSeq (tRet (tVar 5)) (tNext)))
theorem der__law_best_for {P : Program} {w : World} {K : PySem.W.Frag} {mg : Str → Option Value} {base : Heap} (W : Wd K mg) (C__law_dough : Cal P w K mg base CX0 1 "_law_dough" p__law_dough (sp__law_dough K)) (C__law_price : Cal P w K mg base CX0 1 "_law_price" p__law_price (sp__law_price K)) {f : Addr} {cdv : Value} {A : Around} {outer : List Env} {s : Shared} {H : Hp} {E : XK} (hr : Room 1 (A.deeper (envOfC "_law_best_for" (defScope s__law_best_for) s.heap.objs.size f cdv))) :
    PSs (cxOf CX0 P w K mg base N__law_best_for "_law_best_for" (defScope s__law_best_for) f cdv A outer s H E).nox (defBody s__law_best_for) (t__law_best_for K) :=
  pss_cons (ps_set (i := 5) sc__law_best_for.nd rfl (by first | exact Or.inl rfl | exact Or.inr rfl) (pe_non)) (pss_cons (ps_for PassesOwn.never (by rfl) (pi_list (pv 3)) (pg_name (i := 6) sc__law_best_for.nd rfl (by first | exact Or.inl rfl | exact Or.inr rfl)) (pss_cons (ps_set (i := 7) sc__law_best_for.nd rfl (by first | exact Or.inl rfl | exact Or.inr rfl) (pe_cal C__law_price (hr.mono (by decide)) (by rfl) (pa_cons (pe_ix ix_seq (pe_ix ix_seq (pv 0) (pe_int) (fun _ _ => rfl)) (pe_int) (fun _ _ => rfl)) (pa_cons (pv 6) (pa_cons (pv 4) (pa_nil)))))) (pss_cons (ps_for PassesOwn.never (by rfl) (pi_list (pv 2)) (pg_name (i := 8) sc__law_best_for.nd rfl (by first | exact Or.inl rfl | exact Or.inr rfl)) (pss_cons (ps_if (PW.pt (pw_and (pt_cmpR op_notN (pv 7) (pe_non) (nomark _)) (pw_and1 (pt_cmpR op_le (pv 8) (pv 6) (nomark _))))) (pss_cons (ps_set (i := 9) sc__law_best_for.nd rfl (by first | exact Or.inl rfl | exact Or.inr rfl) (pe_op op_add (pv 7) (pe_cal C__law_dough (hr.mono (by decide)) (by rfl) (pa_cons (pv 1) (pa_cons (pv 8) (pa_cons (pv 6) (pa_nil))))))) (pss_cons (ps_if (PW.pt (pw_or (pt_cmpR op_isN (pv 5) (pe_non) (nomark _)) (pw_or1 (pt_cmpR op_lt (pv 9) (pv 5) (nomark _))))) (pss_cons (ps_set (i := 5) sc__law_best_for.nd rfl (by first | exact Or.inl rfl | exact Or.inr rfl) (pv 9)) (pss_nil)) (pss_nil)) (pss_nil))) (pss_nil)) (pss_nil))) (pss_nil)))) (pss_cons (ps_ret (pv 5)) (pss_nil)))
/-! _law_set_cost -/
abbrev N__law_set_cost : List Str := ["_law_bakery_here", "_law_doughs_here", "_law_mixing", "_law_baking", "_law_total", "_law_given", "_law_row", "_law_each", "_law_day_here"]
abbrev p__law_set_cost : List Str := ["_law_bakery_here", "_law_doughs_here", "_law_mixing", "_law_baking"]
theorem sc__law_set_cost : FnScope N__law_set_cost p__law_set_cost (defScope s__law_set_cost) := ⟨rfl, rfl, rfl, by decide +kernel, rfl, by decide +kernel, by decide +kernel⟩
def t__law_set_cost (K : PySem.W.Frag) : TS := tSeq (tAsg (tOp rAddI (tCB (rSum K) (tCons (tLc (iList K (tVar 2)) (gName 8) (tYes) (tOp (rIx K) (tOp (rIx K) (tVar 1) (tVar 8)) (tC (.int 0))) [8]) (tNil))) (tCB (rSum K) (tCons (tLc (iList K (tVar 3)) (gName 8) (tYes) (tOp (rIx K) (tOp (rIx K) (tVar 0) (tC (.int 0))) (tVar 8)) [8]) (tNil)))) (gName 4)) (tSeq (tFor (iEnum K (tCons (tOp (rIx K) (tOp (rIx K) (tOp (rIx K) (tVar 0) (tC (.int 2))) (tC (.int 0))) (tC (.int 0))) (tNil))) (gTup K 2 (gCons (gName 5) (gCons (gName 6) (gNil)))) (tSeq (tIfS (tTest (tOp rGtI (tOp (rIx K) (tVar 6) (tC (.int 0))) (tC (.int 0)))) (tSeq (tAsg (tCall (sp__law_best_for K) [] E0 (tCons (tVar 0) (tCons (tVar 1) (tCons (tVar 2) (tCons (tVar 3) (tCons (tVar 5) (tNil))))))) (gName 7)) (tSeq (tIfS (tTest (tOp rIsN (tVar 7) (tC .non))) (tSeq (tRet (tC .non)) (tNext)) (tNext)) (tSeq (tAsg (tOp rAddI (tVar 4) (tOp rMulI (tOp (rIx K) (tVar 6) (tC (.int 0))) (tVar 7))) (gName 4)) (tNext)))) (tNext)) (tNext))) (tSeq (tRet (tVar 4)) (tNext)))
theorem der__law_set_cost {P : Program} {w : World} {K : PySem.W.Frag} {mg : Str → Option Value} {base : Heap} (W : Wd K mg) (C__law_best_for : Cal P w K mg base CX0 2 "_law_best_for" p__law_best_for (sp__law_best_for K)) {f : Addr} {cdv : Value} {A : Around} {outer : List Env} {s : Shared} {H : Hp} {E : XK} (hr : Room 2 (A.deeper (envOfC "_law_set_cost" (defScope s__law_set_cost) s.heap.objs.size f cdv))) :
    PSs (cxOf CX0 P w K mg base N__law_set_cost "_law_set_cost" (defScope s__law_set_cost) f cdv A outer s H E).nox (defBody s__law_set_cost) (t__law_set_cost K) :=
  pss_cons (ps_set (i := 4) sc__law_set_cost.nd rfl (by first | exact Or.inl rfl | exact Or.inr rfl) (pe_op op_add (pe_callB (cr_sum (by rfl)) (by rfl) W.b_sum (by decide +kernel) (pa_cons (pe_lc (own := [("_law_day_here", 8)]) (by rfl) sc__law_set_cost.nd (pi_list (pv 2)) (blkOk_by (own := [("_law_day_here", 8)]) (N := N__law_set_cost) (sc := defScope s__law_set_cost) (by decide +kernel)) (fun _ _ _ _ _ => pg_name (i := 8) sc__law_set_cost.nd rfl (by first | exact Or.inl rfl | exact Or.inr rfl)) (fun _ _ _ _ _ => pts_nil) (fun _ _ _ _ _ => pe_ix ix_seq (pe_ix ix_seq (pv 1) (pv 8) (fun _ _ => rfl)) (pe_int) (fun _ _ => rfl))) (pa_nil))) (pe_callB (cr_sum (by rfl)) (by rfl) W.b_sum (by decide +kernel) (pa_cons (pe_lc (own := [("_law_day_here", 8)]) (by rfl) sc__law_set_cost.nd (pi_list (pv 3)) (blkOk_by (own := [("_law_day_here", 8)]) (N := N__law_set_cost) (sc := defScope s__law_set_cost) (by decide +kernel)) (fun _ _ _ _ _ => pg_name (i := 8) sc__law_set_cost.nd rfl (by first | exact Or.inl rfl | exact Or.inr rfl)) (fun _ _ _ _ _ => pts_nil) (fun _ _ _ _ _ => pe_ix ix_seq (pe_ix ix_seq (pv 0) (pe_int) (fun _ _ => rfl)) (pv 8) (fun _ _ => rfl))) (pa_nil))))) (pss_cons (ps_for PassesOwn.never (by rfl) (pi_enum (by rfl) W.b_enumerate (pa_cons (pe_ix ix_seq (pe_ix ix_seq (pe_ix ix_seq (pv 0) (pe_int) (fun _ _ => rfl)) (pe_int) (fun _ _ => rfl)) (pe_int) (fun _ _ => rfl)) (pa_nil))) (pg_tup (by rfl) (pgs_cons (pg_name (i := 5) sc__law_set_cost.nd rfl (by first | exact Or.inl rfl | exact Or.inr rfl)) (pgs_cons (pg_name (i := 6) sc__law_set_cost.nd rfl (by first | exact Or.inl rfl | exact Or.inr rfl)) (pgs_nil)))) (pss_cons (ps_if (pt_cmpR op_gt (pe_ix ix_seq (pv 6) (pe_int) (fun _ _ => rfl)) (pe_int) (nomark _)) (pss_cons (ps_set (i := 7) sc__law_set_cost.nd rfl (by first | exact Or.inl rfl | exact Or.inr rfl) (pe_cal C__law_best_for (hr.mono (by decide)) (by rfl) (pa_cons (pv 0) (pa_cons (pv 1) (pa_cons (pv 2) (pa_cons (pv 3) (pa_cons (pv 5) (pa_nil)))))))) (pss_cons (ps_if (pt_cmpR op_isN (pv 7) (pe_non) (nomark _)) (pss_cons (ps_ret (pe_non)) (pss_nil)) (pss_nil)) (pss_cons (ps_set (i := 4) sc__law_set_cost.nd rfl (by first | exact Or.inl rfl | exact Or.inr rfl) (pe_op op_add (pv 4) (pe_op op_mul (pe_ix ix_seq (pv 6) (pe_int) (fun _ _ => rfl)) (pv 7)))) (pss_nil)))) (pss_nil)) (pss_nil))) (pss_cons (ps_ret (pv 4)) (pss_nil)))
/-! _law_least -/
abbrev N__law_least : List Str := ["_law_bakery_here", "_law_doughs_here", "_law_many", "_law_best", "_law_one", "_law_other", "_law_cost"]
abbrev p__law_least : List Str := ["_law_bakery_here", "_law_doughs_here"]
theorem sc__law_least : FnScope N__law_least p__law_least (defScope s__law_least) := ⟨rfl, rfl, rfl, by decide +kernel, rfl, by decide +kernel, by decide +kernel⟩
def t__law_least (K : PySem.W.Frag) : TS := tSeq (tAsg (tCB (rLenS K) (tCons (tOp (rIx K) (tVar 0) (tC (.int 0))) (tNil))) (gName 2)) (tSeq (tAsg (tC .non) (gName 3)) (tSeq (tFor (iRng1 (tCons (tOp rShlI (tC (.int 1)) (tVar 2)) (tNil))) (gName 4) (tSeq (tFor (iRng1 (tCons (tOp rShlI (tC (.int 1)) (tVar 2)) (tNil))) (gName 5) (tSeq (tAsg (tCall (sp__law_set_cost K) [] E0 (tCons (tVar 0) (tCons (tVar 1) (tCons (tCall (sp__law_chosen K) [] E0 (tCons (tVar 4) (tCons (tVar 2) (tNil)))) (tCons (tCall (sp__law_chosen K) [] E0 (tCons (tVar 5) (tCons (tVar 2) (tNil)))) (tNil)))))) (gName 6)) (tSeq (tIfS (tAnd (tTest (tOp rNotN (tVar 6) (tC .non))) (tOr (tTest (tOp rIsN (tVar 3) (tC .non))) (tTest (tOp rLtI (tVar 6) (tVar 3))))) (tSeq (tAsg (tVar 6) (gName 3)) (tNext)) (tNext)) (tNext)))) (tNext))) (tSeq (tRet (tVar 3)) (tNext))))
theorem der__law_least {P : Program} {w : World} {K : PySem.W.Frag} {mg : Str → Option Value} {base : Heap} (W : Wd K mg) (C__law_chosen : Cal P w K mg base CX0 1 "_law_chosen" p__law_chosen (sp__law_chosen K)) (C__law_set_cost : Cal P w K mg base CX0 3 "_law_set_cost" p__law_set_cost (sp__law_set_cost K)) {f : Addr} {cdv : Value} {A : Around} {outer : List Env} {s : Shared} {H : Hp} {E : XK} (hr : Room 3 (A.deeper (envOfC "_law_least" (defScope s__law_least) s.heap.objs.size f cdv))) :
    PSs (cxOf CX0 P w K mg base N__law_least "_law_least" (defScope s__law_least) f cdv A outer s H E).nox (defBody s__law_least) (t__law_least K) :=
  pss_cons (ps_set (i := 2) sc__law_least.nd rfl (by first | exact Or.inl rfl | exact Or.inr rfl) (pe_callB call_len_seq (by rfl) W.b_len PySem.boot_len (pa_cons (pe_ix ix_seq (pv 0) (pe_int) (fun _ _ => rfl)) (pa_nil)))) (pss_cons (ps_set (i := 3) sc__law_least.nd rfl (by first | exact Or.inl rfl | exact Or.inr rfl) (pe_non)) (pss_cons (ps_for PassesOwn.never (by rfl) (pi_range1 (by rfl) W.b_range (pa_cons (pe_op op_shl (pe_int) (pv 2)) (pa_nil))) (pg_name (i := 4) sc__law_least.nd rfl (by first | exact Or.inl rfl | exact Or.inr rfl)) (pss_cons (ps_for PassesOwn.never (by rfl) (pi_range1 (by rfl) W.b_range (pa_cons (pe_op op_shl (pe_int) (pv 2)) (pa_nil))) (pg_name (i := 5) sc__law_least.nd rfl (by first | exact Or.inl rfl | exact Or.inr rfl)) (pss_cons (ps_set (i := 6) sc__law_least.nd rfl (by first | exact Or.inl rfl | exact Or.inr rfl) (pe_cal C__law_set_cost (hr.mono (by decide)) (by rfl) (pa_cons (pv 0) (pa_cons (pv 1) (pa_cons (pe_cal C__law_chosen (hr.mono (by decide)) (by rfl) (pa_cons (pv 4) (pa_cons (pv 2) (pa_nil)))) (pa_cons (pe_cal C__law_chosen (hr.mono (by decide)) (by rfl) (pa_cons (pv 5) (pa_cons (pv 2) (pa_nil)))) (pa_nil))))))) (pss_cons (ps_if (PW.pt (pw_and (pt_cmpR op_notN (pv 6) (pe_non) (nomark _)) (pw_and1 (PW.pt (pw_or (pt_cmpR op_isN (pv 3) (pe_non) (nomark _)) (pw_or1 (pt_cmpR op_lt (pv 6) (pv 3) (nomark _)))))))) (pss_cons (ps_set (i := 3) sc__law_least.nd rfl (by first | exact Or.inl rfl | exact Or.inr rfl) (pv 6)) (pss_nil)) (pss_nil)) (pss_nil)))) (pss_nil))) (pss_cons (ps_ret (pv 3)) (pss_nil))))
/-! _law_longer -/
abbrev N__law_longer : List Str := ["_law_bakery_here", "_law_doughs_here", "_law_many", "_law_days", "_law_life", "_law_longer_here"]
abbrev p__law_longer : List Str := ["_law_bakery_here", "_law_doughs_here", "_law_many"]
theorem sc__law_longer : FnScope N__law_longer p__law_longer (defScope s__law_longer) := ⟨rfl, rfl, rfl, by decide +kernel, rfl, by decide +kernel, by decide +kernel⟩
def t__law_longer (K : PySem.W.Frag) : TS := tSeq (tAsg (tOp (rIx K) (tOp (rIx K) (tVar 0) (tC (.int 2))) (tC (.int 0))) (gTup K 2 (gCons (gName 3) (gCons (gName 4) (gNil))))) (tSeq (tAsg (tTup (tCons (tSl (rSlL K) (tOp rRep (tOp (rIx K) (tVar 0) (tC (.int 0))) (tVar 2)) tNoPart (tPart (tVar 2))) (tCons (tC .non) (tCons (tLst (tCons (tTup (tCons (tSl (rSlL K) (tOp rRep (tVar 3) (tVar 2)) tNoPart (tPart (tVar 2))) (tCons (tVar 4) (tNil)))) (tNil))) (tNil))))) (gName 5)) (tSeq (tRet (tTup (tCons (tVar 5) (tCons (tSl (rSlL K) (tOp rRep (tVar 1) (tVar 2)) tNoPart (tPart (tVar 2))) (tNil))))) (tNext)))
theorem der__law_longer {P : Program} {w : World} {K : PySem.W.Frag} {mg : Str → Option Value} {base : Heap} (W : Wd K mg)  {f : Addr} {cdv : Value} {A : Around} {outer : List Env} {s : Shared} {H : Hp} {E : XK} (hr : Room 0 (A.deeper (envOfC "_law_longer" (defScope s__law_longer) s.heap.objs.size f cdv))) :
    PSs (cxOf CX0 P w K mg base N__law_longer "_law_longer" (defScope s__law_longer) f cdv A outer s H E).nox (defBody s__law_longer) (t__law_longer K) :=
  pss_cons (ps_asg (pe_ix ix_seq (pe_ix ix_seq (pv 0) (pe_int) (fun _ _ => rfl)) (pe_int) (fun _ _ => rfl)) (pg_tup (by rfl) (pgs_cons (pg_name (i := 3) sc__law_longer.nd rfl (by first | exact Or.inl rfl | exact Or.inr rfl)) (pgs_cons (pg_name (i := 4) sc__law_longer.nd rfl (by first | exact Or.inl rfl | exact Or.inr rfl)) (pgs_nil))))) (pss_cons (ps_set (i := 5) sc__law_longer.nd rfl (by first | exact Or.inl rfl | exact Or.inr rfl) (pe_tup (pa_cons (pe_slice sl_list (pe_op op_rep (pe_ix ix_seq (pv 0) (pe_int) (fun _ _ => rfl)) (pv 2)) po_none (po_some (pv 2))) (pa_cons (pe_non) (pa_cons (pe_lst (pa_cons (pe_tup (pa_cons (pe_slice sl_list (pe_op op_rep (pv 3) (pv 2)) po_none (po_some (pv 2))) (pa_cons (pv 4) (pa_nil)))) (pa_nil))) (pa_nil)))))) (pss_cons (ps_ret (pe_tup (pa_cons (pv 5) (pa_cons (pe_slice sl_list (pe_op op_rep (pv 1) (pv 2)) po_none (po_some (pv 2))) (pa_nil))))) (pss_nil)))
end K66

/-! ## R3 -/
set_option maxHeartbeats 4000000
namespace K66
open PySem PySem.Spec PyProof.Rows L2
section
variable {K : PySem.W.Frag} {σ : L2.St} {H H' : Hp} {ta tb tc te tx : TE} {v : V} {vs : List V} {Q : VK} {E : XK}
theorem sqL_up {K : PySem.W.Frag} {H H' : Hp} {a : Addr} {xs : List V} (h : SqL K H a xs) (e : Ex H H') : SqL K H' a xs := by
  rcases h with (h | ⟨o, h⟩) | h
  · exact .inl (.inl (e _ _ h))
  · exact .inl (.inr ⟨o, e _ _ h⟩)
  · exact .inr h
theorem ev_lenS {p : Addr} {xs : List V} (h : SqL K H p xs) (ha : Ev ta σ H (Is (.ref p))) : Ev (tCB (rLenS K) (tCons ta tNil)) σ H (Is (.int (xs.length : Int))) := ev_cb (ex_cons ha ex_nil) fun H1 e _ q => ⟨p, xs, rfl, .inl (sqL_up h e), q _ H1 Ex.rfl rfl⟩
theorem ev_ixS {p : Addr} {xs : List V} {i : Int} {v : V} (h : SqL K H p xs) (ha : Ev ta σ H (Is (.ref p))) (hb : Ev tb σ H (Is (.int i))) (hi : atI xs i = some v) : Ev (tOp (rIx K) ta tb) σ H (Is v) :=
  ev_op ha hb fun H1 e _ q => .inl ⟨p, xs, i, v, rfl, rfl, sqL_up h e, hi, q _ H1 Ex.rfl rfl⟩
theorem ev_repL {p : Addr} {xs : List V} {k : Int} (h : H p = some (.lst xs)) (ha : Ev ta σ H (Is (.ref p))) (hb : Ev tb σ H (Is (.int k))) (h1 : -(2 ^ 63) ≤ k ∧ k < 2 ^ 63) (hz : xs.length * k.toNat ≤ sizeLine) : Ev (tOp rRep ta tb) σ H (NewL (List.replicate k.toNat xs).flatten) :=
  ev_op ha hb fun H1 e _ q => ⟨p, k, xs, rfl, rfl, e _ _ h, h1.1, h1.2, hz, fun l hl => q _ _ (Ex.new hl) ⟨l, rfl, hl, upd_same⟩⟩
theorem ev_repN {xs : List V} {k : Int} (ha : Ev ta σ H (NewL xs)) (hb : Ev tb σ H (Is (.int k))) (h1 : -(2 ^ 63) ≤ k ∧ k < 2 ^ 63) (hz : xs.length * k.toNat ≤ sizeLine) : Ev (tOp rRep ta tb) σ H (NewL (List.replicate k.toNat xs).flatten) :=
  ev_opN ha hb fun H1 w H2 _ _ hp Q q => by
    obtain ⟨p, rfl, _, h⟩ := hp
    exact ⟨p, k, xs, rfl, rfl, h, h1.1, h1.2, hz, fun l hl => q _ _ (Ex.new hl) ⟨l, rfl, hl, upd_same⟩⟩
theorem ev_catN {xs ys : List V} (ha : Ev ta σ H (NewL xs)) (hb : Ev tb σ H (NewL ys)) (hz : xs.length + ys.length ≤ sizeLine) : Ev (tOp rCat ta tb) σ H (NewL (xs ++ ys)) :=
  ev_opNN ha hb fun H1 v w H2 _ _ hp hq Q q => by
    obtain ⟨p, rfl, _, h⟩ := hp
    obtain ⟨p', rfl, _, h'⟩ := hq
    exact ⟨p, p', xs, ys, rfl, rfl, h, h', hz, fun l hl => q _ _ (Ex.new hl) ⟨l, rfl, hl, upd_same⟩⟩
theorem rd__law_cell_at (h : sp__law_cell_at K vs H Q E) : t__law_cell_at K (DD Q) (start N__law_cell_at vs) H := by
  obtain ⟨H0, P, e0, ⟨a, ns, k', rfl, hs, hm, rfl⟩, k⟩ := h
  have hs := sqL_up hs e0
  refine Sx.at (x_if (b := decide ((k' : Int) < (ns.map V.int).length)) (et_test (ev_I0 (ev_var rfl) (ev_lenS hs (ev_var rfl)))) (fun hb => ?_) fun hb => ?_)
  · have hk : k' < ns.length := by have := of_decide_eq_true hb; rw [List.length_map] at this; omega
    exact x_retV (.int (at0 ns k')) (ev_ixS hs (ev_var rfl) (ev_var rfl) (atI_int hk)) fun H1 e => k _ H1 e ⟨_, rfl⟩
  · exact x_fall (x_retV (.int 0) ev_c fun H1 e => k _ H1 e ⟨_, rfl⟩)
/-- a whole number in bounds -/
def Bnd (B : Int) : PP := Some' fun v => ∃ i : Int, v = .int i ∧ 0 ≤ i ∧ i < B
instance {B : Int} : FP (Bnd B) := inferInstanceAs (FP (Some' _))
theorem bnd_of {i B : Int} (h : Ev te σ H (Is (.int i))) (h0 : 0 ≤ i) (h1 : i < B) : Ev te σ H (Bnd B) := h.imp fun _ v _ _ _ p => ⟨i, p, h0, h1⟩
theorem bnd_mod {i B : Int} (ha : Ev ta σ H (Is (.int i))) (hb : Ev tb σ H (Is (.int B))) (h : 0 < B) : Ev (tOp rModI ta tb) σ H (Bnd B) := bnd_of (ev_I ha hb h) (Int.emod_nonneg _ (by omega)) (Int.emod_lt_of_pos _ h)
theorem rd__law_numbers (h : sp__law_numbers K vs H Q E) : t__law_numbers K (DD Q) (start N__law_numbers vs) H := by
  obtain ⟨H0, P, e0, ⟨c, salt, p, sizes, rfl, hp, hsalt, hlen, hpos, rfl⟩, k⟩ := h
  have hp := e0 _ _ hp
  obtain ⟨N, hN, hN0⟩ : ∃ N : Int, N = (if -1 - c > c then -1 - c else c) ∧ 0 ≤ N := ⟨_, rfl, by split <;> omega⟩
  refine Sx.at (x_set (v := .int N) (Ev.eq (ev_max2 (ev_var rfl) (ev_I0 (ev_neg ev_c) (ev_var rfl))) (by rw [hN])) (x_set (v := .int N) (ev_var rfl) ?_))
  refine x_asg (ev_lst ex_nil (Nat.zero_le _)) fun v H1 e1 pp => ?_
  obtain ⟨l, rfl, hl, hl1⟩ := pp
  have npl : p ≠ l := ne_of_none hp hl
  refine x_forR1 (n := sizes.length) (ex_cons (Ev.eq (ev_lenL (e1 _ _ hp) (ev_var rfl)) (by rw [List.length_map])) ex_nil) (by omega) (fun i σ' H' => Ex H H' ∧ ∃ (ds : List Int) (left : Int), H' l = some (.lst (ds.map V.int)) ∧ ds.length = i ∧ (∀ j, j < i → 0 ≤ at0 ds j ∧ at0 ds j < at0 sizes j) ∧ 0 ≤ left ∧
    ∃ o6 o7, σ' = [some (.int c), some (.int salt), some (.ref p), some (.int N), some (.int left), some (.ref l), o6, o7]) (fun H2 e2 => ⟨e1.trans e2, [], N, e2 _ _ hl1, rfl, fun j hj => absurd hj (Nat.not_lt_zero j), hN0, none, none, rfl⟩)
    (fun i σ' H' hi ⟨w1, ds, left, w2, w3, w4, w5, o6, o7, es⟩ => ?_) fun σ' H' ⟨w1, ds, left, w2, w3, w4, w5, o6, o7, es⟩ => ?_
  · subst es
    have hsz := hpos (at0 sizes i) (by rw [show at0 sizes i = sizes[i] by rw [at0, List.getD_eq_getElem?_getD, List.getElem?_eq_getElem hi]; rfl]; exact List.getElem_mem hi)
    have size : ∀ {σ : L2.St} {H'' : Hp}, Ex H H'' → σ[2]? = some (some (V.ref p)) → σ[6]? = some (some (V.int (i : Int))) → Ev (tOp (rIx K) (tVar 2) (tVar 6)) σ H'' (Is (.int (at0 sizes i))) := fun e h1 h2 => ev_ixL (e _ _ hp) (ev_var h1) (ev_var h2) (atI_int hi)
    have grow : ∀ (d : Int), 0 ≤ d → d < at0 sizes i → ∀ j, j < i + 1 → 0 ≤ at0 (ds ++ [d]) j ∧ at0 (ds ++ [d]) j < at0 sizes j := fun d h1 h2 j hj => by
      by_cases hji : j < ds.length
      · have e : at0 (ds ++ [d]) j = at0 ds j := by rw [at0, at0, List.getD_eq_getElem?_getD, List.getD_eq_getElem?_getD, List.getElem?_append_left hji]
        rw [e]; exact w4 j (by omega)
      · have hj2 : j = ds.length := by omega
        have e : at0 (ds ++ [d]) j = d := by rw [at0, List.getD_eq_getElem?_getD, hj2]; simp
        rw [e, show j = i by omega]; exact ⟨h1, h2⟩
    have zl : (ds.map V.int).length < 100000 := by rw [List.length_map]; omega
    have ap : ∀ (d : Int), ds.map V.int ++ [V.int d] = (ds ++ [d]).map V.int := fun d => by rw [List.map_append]; rfl
    refine x_if (b := decide ((10 : Int) ^ (18 : Int).toNat ≤ N) && decide ((0 : Int) < left)) (et_and (et_test (ev_I0 (ev_var rfl) (ev_I ev_c ev_c ⟨by decide, by decide, by decide⟩))) fun _ => et_test (ev_I0 (ev_var rfl) ev_c)) (fun _ => ?_) fun _ => ?_
    · refine x_app (P := Is (.int (left % at0 sizes i))) w2 (ev_var rfl) (ev_I (ev_var rfl) (size w1 rfl rfl) hsz.1) zl fun v H2 e2 pp => ?_
      have ev : v = _ := pp
      subst ev
      have e3 : Ex H (upd H2 l (.lst (ds.map V.int ++ [.int (left % at0 sizes i)]))) := (w1.trans e2).mut hl
      refine x_set (v := .int (left / at0 sizes i)) (ev_I (ev_var rfl) (size e3 rfl rfl) hsz) (x_next fun H3 e4 => ⟨e3.trans e4, ds ++ [left % at0 sizes i], left / at0 sizes i, e4 _ _ (by rw [upd_same, ap]), by rw [List.length_append, w3]; rfl, grow _ (Int.emod_nonneg _ (by omega)) (Int.emod_lt_of_pos _ hsz.1), Int.ediv_nonneg w5 (by omega), _, _, rfl⟩)
    · have m1 : ∀ x : Int, 0 ≤ x % 2147483629 ∧ x % 2147483629 < 2147483629 := fun x => ⟨Int.emod_nonneg _ (by decide), Int.emod_lt_of_pos _ (by decide)⟩
      have m2 : ∀ x : Int, 0 ≤ x % 2147483647 ∧ x % 2147483647 < 2147483647 := fun x => ⟨Int.emod_nonneg _ (by decide), Int.emod_lt_of_pos _ (by decide)⟩
      refine x_asg (P := Bnd 2147483647) (bnd_mod (i := (N % 2147483629 + 7919 * salt + 1) ^ (3 : Int).toNat) (ev_I (ev_I0 (ev_I0 (ev_I (ev_var rfl) ev_c (by decide)) (ev_I ev_c (ev_var rfl) (.inl ⟨by decide, by decide⟩))) ev_c) ev_c ⟨by decide, by decide, by have := m1 N; omega⟩) ev_c (by decide)) fun v H2 e2 pp => ?_
      obtain ⟨x1, rfl, hx1, hx1'⟩ := pp
      refine x_asg (P := Bnd 2147483629) (bnd_mod (i := (x1 + 104729 * ((i : Int) + 1)) * ((i : Int) + 3)) (ev_I (ev_I0 (ev_var rfl) (ev_I ev_c (ev_I0 (ev_var rfl) ev_c) (.inl ⟨by decide, by decide⟩))) (ev_I0 (ev_var rfl) ev_c) (.inl ⟨by omega, by omega⟩)) ev_c (by decide)) fun v H3 e3 pp => ?_
      obtain ⟨x2, rfl, hx2, hx2'⟩ := pp
      refine x_asg (P := Bnd 2147483629) (bnd_mod (i := x2 ^ (5 : Int).toNat % 2147483647 * 48271) (ev_I (ev_I (ev_I (ev_var rfl) ev_c ⟨by decide, by decide, by omega⟩) ev_c (by decide)) ev_c (.inl ⟨by have := m2 (x2 ^ (5 : Int).toNat); omega, by have := m2 (x2 ^ (5 : Int).toNat); omega⟩)) ev_c (by decide)) fun v H4 e4 pp => ?_
      obtain ⟨x3, rfl, hx3, hx3'⟩ := pp
      have e24 := (e2.trans e3).trans e4
      refine x_app (P := Is (.int (x3 / 16 % at0 sizes i))) (e24 _ _ w2) (ev_var rfl) (ev_I (ev_I (ev_var rfl) ev_c ⟨by decide, by decide⟩) (size (w1.trans e24) rfl rfl) hsz.1) zl fun v H5 e5 pp => ?_
      have ev : v = _ := pp
      subst ev
      have e6 : Ex H (upd H5 l (.lst (ds.map V.int ++ [.int (x3 / 16 % at0 sizes i)]))) := ((w1.trans e24).trans e5).mut hl
      exact x_next fun H6 e7 => ⟨e6.trans e7, ds ++ [x3 / 16 % at0 sizes i], left, e7 _ _ (by rw [upd_same, ap]), by rw [List.length_append, w3]; rfl, grow _ (Int.emod_nonneg _ (by omega)) (Int.emod_lt_of_pos _ hsz.1), w5, _, _, rfl⟩
  · subst es
    exact x_ret (P := Is (.ref l)) (ev_var rfl) fun v H4 e4 pv' => k v H4 (w1.trans e4) ⟨ds, ⟨w3, w4⟩, l, pv', hl, e4 _ _ w2⟩
theorem eg_lst7 {T : Addr} {a1 a2 a3 a4 a5 a6 a7 : V} {j1 j2 j3 j4 j5 j6 j7 : Nat} (h : H T = some (.lst [a1, a2, a3, a4, a5, a6, a7])) : EvG (gLst K 7 (gCons (gName j1) (gCons (gName j2) (gCons (gName j3) (gCons (gName j4) (gCons (gName j5) (gCons (gName j6) (gCons (gName j7) gNil)))))))) (.ref T) σ H
    (((((((σ.set j1 (some a1)).set j2 (some a2)).set j3 (some a3)).set j4 (some a4)).set j5 (some a5)).set j6 (some a6)).set j7 (some a7)) := fun H1 e Q q =>
  ⟨T, [a1, a2, a3, a4, a5, a6, a7], rfl, sqL (e T _ h), rfl, a1, _, rfl, a2, _, rfl, a3, _, rfl, a4, _, rfl, a5, _, rfl, a6, _, rfl, a7, _, rfl, rfl, q H1 Ex.rfl⟩
theorem rd__law_day (h : sp__law_day K vs H Q E) : t__law_day K (DD Q) (start N__law_day vs) H := by
  obtain ⟨H0, P, e0, ⟨p, ds, late, rfl, hp, hl, hn, rfl⟩, k⟩ := h
  have hp := e0 _ _ hp
  obtain ⟨d0, d1, d2, d3, d4, d5, d6, rfl⟩ : ∃ d0 d1 d2 d3 d4 d5 d6, ds = [d0, d1, d2, d3, d4, d5, d6] := by
    match ds, hl with
    | [d0, d1, d2, d3, d4, d5, d6], _ => exact ⟨_, _, _, _, _, _, _, rfl⟩
  have n0 : num d0 := hn 0 (by decide)
  have n1 : num d1 := hn 1 (by decide)
  have n2 : num d2 := hn 2 (by decide)
  have n3 : num d3 := hn 3 (by decide)
  have n4 : num d4 := hn 4 (by decide)
  refine Sx.at (x_asgG (P := Is (.ref p)) (ev_var rfl) fun v H1 e1 pv' => ?_)
  have z : v = .ref p := pv'
  subst z
  refine ⟨_, eg_lst7 (e1 _ _ hp), ?_⟩
  refine x_ret (P := NewTA [Is (.int d4), NewT (rowV ⟨d0 * (if decide (0 < d5) then 1 else 0), d1, d2, if late && decide (1 < d6) then some d3 else none⟩)]) ?_ fun v H2 e2 pp => k v H2 (e1.trans e2) ⟨d4, _, ⟨n4, ?_⟩, UP.dn pp e1⟩
  · refine ev_tupA (ea_cons (ev_var rfl) (ea_cons (ev_tup (ex_cons (ev_I (ev_var rfl) (ev_intB (ev_I0 (ev_var rfl) ev_c)) (.inl ⟨by have := n0.1; omega, by have := n0.2; unfold MOST at this; omega⟩)) (ex_cons (ev_var rfl) (ex_cons (ev_var rfl) (ex_cons (ev_ixNL (ev_lst (ex_cons ev_c (ex_cons (ev_var rfl) ex_nil)) (by show 2 ≤ 100000; decide)) (ev_intB (ev_andV (ev_var rfl) fun _ => ev_I0 (ev_var rfl) ev_c)) ?_) ex_nil)))) (by show 4 ≤ 100000; decide)) ea_nil)) (by show 2 ≤ 100000; decide)
    show atI [V.non, V.int d3] (if (late && decide (1 < d6)) = true then 1 else 0) = some (vO (if (late && decide (1 < d6)) = true then some d3 else none))
    cases late && decide (1 < d6) <;> rfl
  · refine ⟨?_, n1, n2, fun f hf => ?_⟩
    · show num (d0 * (if decide (0 < d5) = true then 1 else 0))
      cases decide (0 < d5)
      · exact ⟨by simp, by simp [MOST]⟩
      · simpa using n0
    · have hf' : (if (late && decide (1 < d6)) = true then some d3 else none) = some f := hf
      cases hb : late && decide (1 < d6) with
      | true => rw [hb] at hf'; obtain rfl := Option.some.inj hf'; exact n3
      | false => rw [hb] at hf'; cases hf'
/-- the sizes of a day's digits -/
def Sz (sz : List Int) : Prop := sz = [5, 6, 4, 4, 13] ++ [4, 5] ∨ sz = List.replicate 5 1000000001 ++ [4, 5]
theorem Sz.ok {sz : List Int} (h : Sz sz) : sz.length = 7 ∧ (∀ x ∈ sz, 0 < x ∧ x < 1073741824) ∧ ∀ i, i < 5 → at0 sz i ≤ MOST + 1 := by
  rcases h with rfl | rfl
  · exact ⟨rfl, by decide, by decide⟩
  · exact ⟨rfl, by decide, by decide⟩
theorem ev_cell {a : Addr} {ns : List Int} {k : Nat} (hs : SqL K H a (ns.map V.int)) (hm : ns.length ≤ 63) (ha : Ev ta σ H (Is (.ref a))) (hb : Ev tb σ H (Is (.int (k : Int)))) : Ev (tCall (sp__law_cell_at K) [] E0 (tCons ta (tCons tb tNil))) σ H (Some' isInt) :=
  ev_call (ex_cons ha (ex_cons hb ex_nil)) ⟨a, ns, k, rfl, hs, hm, rfl⟩
/-- _law_numbers of some number and a list that is known -/
theorem ev_nums {p : Addr} {sz : List Int} {salt : Int} (hp : H p = some (.lst (sz.map V.int))) (hs : 0 ≤ salt ∧ salt ≤ 100000) (hl : sz.length ≤ 20) (hx : ∀ x ∈ sz, 0 < x ∧ x < 1073741824) (ha : Ev ta σ H (Some' isInt)) (hb : Ev tb σ H (Is (.int salt))) (hc : Ev tc σ H (Is (.ref p))) :
    Ev (tCall (sp__law_numbers K) [] E0 (tCons ta (tCons tb (tCons tc tNil)))) σ H (NumsP sz) :=
  ev_callA (ea_cons ha (ea_cons hb (ea_cons hc ea_nil))) fun H1 vs H2 e1 e2 pa => by
    cases pa with
    | cons a1 pa => cases pa with
      | cons a2 pa => cases pa with
        | cons a3 pa =>
          cases pa
          obtain ⟨c, rfl⟩ := a1
          have z2 : _ = V.int salt := a2
          have z3 : _ = V.ref p := a3
          subst z2 z3
          exact ⟨c, salt, p, sz, rfl, (e1.trans e2) _ _ hp, hs, hl, hx, rfl⟩
/-- .. and a new list -/
theorem ev_numsN {sz : List Int} {salt : Int} (hs : 0 ≤ salt ∧ salt ≤ 100000) (hl : sz.length ≤ 20) (hx : ∀ x ∈ sz, 0 < x ∧ x < 1073741824) (ha : Ev ta σ H (Some' isInt)) (hb : Ev tb σ H (Is (.int salt))) (hc : Ev tc σ H (NewL (sz.map V.int))) :
    Ev (tCall (sp__law_numbers K) [] E0 (tCons ta (tCons tb (tCons tc tNil)))) σ H (NumsP sz) :=
  ev_callA (ea_cons ha (ea_cons hb (ea_cons hc ea_nil))) fun H1 vs H2 e1 e2 pa => by
    cases pa with
    | cons a1 pa => cases pa with
      | cons a2 pa => cases pa with
        | cons a3 pa =>
          cases pa
          obtain ⟨c, rfl⟩ := a1
          have z2 : _ = V.int salt := a2
          subst z2
          obtain ⟨p, rfl, _, hp⟩ := a3
          exact ⟨c, salt, p, sz, rfl, hp, hs, hl, hx, rfl⟩
/-- a pick of two new lists -/
def PickP (xs ys : List V) : PP := fun H1 v H2 => ∃ zs, (zs = xs ∨ zs = ys) ∧ NewL zs H1 v H2
instance {xs ys : List V} : FP (PickP xs ys) := ⟨fun ⟨z, h, p⟩ d f => ⟨z, h, FP.fr p d f⟩⟩
theorem ev_opF {r : R2} {x y : V} {P Pa : PP} [UP Pa] [UP P] (ha : Ev ta σ H Pa) (hb : Ev tb σ H (Is y)) (hr : ∀ H1 v H2, Ex H H1 → Ex H1 H2 → Pa H1 v H2 → ∀ Q : VK, (∀ z H3, Ex H2 H3 → P H1 z H3 → Q z H3) → r v y H2 Q) : Ev (tOp r ta tb) σ H P := fun H1 e Q q =>
  ha H1 e _ fun v H2 e2 hv => hb H2 (e.trans e2) _ fun w H3 e3 hw => by
    have h2 : w = y := hw
    subst h2
    exact hr H1 v H3 e (e2.trans e3) (UP.up hv e3) Q fun v H4 e4 p => q v H4 ((e2.trans e3).trans e4) p
theorem ev_pick {xs ys : List V} {b : Bool} (ha : Ev ta σ H (NewL xs)) (hb : Ev tb σ H (NewL ys)) (hc : Ev tc σ H (Is (.bl b))) : Ev (tOp (rIx K) (tLst (tCons ta (tCons tb tNil))) (tCB rIntS (tCons tc tNil))) σ H (PickP xs ys) :=
  ev_opF (x := .non) (ev_lstA (ea_cons ha (ea_cons hb ea_nil)) (by show 2 ≤ 100000; decide)) (ev_intB hc) fun H1 v H2 e1 e2 pp Q q => by
    obtain ⟨p, us, rfl, hp, hp1, pa⟩ := pp
    cases pa with
    | cons a1 pa => cases pa with
      | cons a2 pa =>
        cases pa
        obtain ⟨q1, rfl, hn1, hq1⟩ := a1
        obtain ⟨q2, rfl, hn2, hq2⟩ := a2
        cases b with
        | true => exact .inl ⟨p, _, _, .ref q2, rfl, rfl, sqL hp1, rfl, q _ H2 Ex.rfl ⟨ys, .inr rfl, q2, rfl, hn2, hq2⟩⟩
        | false => exact .inl ⟨p, _, _, .ref q1, rfl, rfl, sqL hp1, rfl, q _ H2 Ex.rfl ⟨xs, .inl rfl, q1, rfl, hn1, hq1⟩⟩
end
end K66

/-! ## R4 -/
set_option maxHeartbeats 4000000
namespace K66
open PySem PySem.Spec PyProof.Rows L2
section
variable {K : PySem.W.Frag} {σ : L2.St} {H H' : Hp} {ta tb tc te tx : TE} {v : V} {vs : List V} {Q : VK} {E : XK}
theorem RowAt.mut {H : Hp} {v : V} {r : Row} {l : Addr} {xs ys : List V} (h : RowAt H v r) (hl : H l = some (.lst xs)) : RowAt (upd H l (.lst ys)) v r := by
  obtain ⟨t, rfl, ht⟩ := h
  exact ⟨t, rfl, by rw [upd_ne (fun e => by rw [e, hl] at ht; cases ht)]; exact ht⟩
theorem DgAt.mut {H : Hp} {v : V} {r : Dg} {l : Addr} {xs ys : List V} (h : DgAt H v r) (hl : H l = some (.lst xs)) : DgAt (upd H l (.lst ys)) v r := by
  obtain ⟨t, rfl, ht⟩ := h
  exact ⟨t, rfl, by rw [upd_ne (fun e => by rw [e, hl] at ht; cases ht)]; exact ht⟩
theorem ev_pow9 : Ev (tOp rAddI (tOp rPowI (tC (.int 10)) (tC (.int 9))) (tC (.int 1))) σ H (Is (.int 1000000001)) := Ev.eq (ev_I0 (ev_I ev_c ev_c ⟨by decide, by decide, by decide⟩) ev_c) rfl
theorem ev_catA {Pa : PP} {ys : List V} [UP Pa] {P : PP} [UP P] (ha : Ev ta σ H Pa) (hb : Ev tb σ H (NewL ys)) (hP : ∀ H1 v H2, Ex H1 H2 → Pa H1 v H2 → ∃ p zs, v = .ref p ∧ H2 p = some (.lst zs) ∧ zs.length + ys.length ≤ sizeLine ∧ ∀ w H3, NewL (zs ++ ys) H2 w H3 → P H2 w H3) : Ev (tOp rCat ta tb) σ H P :=
  ev_opNN ha hb fun H1 v w H2 _ e12 hp hq Q q => by
    obtain ⟨p, zs, rfl, h, hz, hw⟩ := hP H1 v H2 e12 hp
    obtain ⟨p', rfl, _, h'⟩ := hq
    exact ⟨p, p', zs, ys, rfl, rfl, h, h', hz, fun l hl => q _ _ (Ex.new hl) (hw _ _ ⟨l, rfl, hl, upd_same⟩)⟩
def SizeP : PP := fun H1 v H2 => ∃ sz : List Int, Sz sz ∧ NewL (sz.map V.int) H1 v H2
instance : FP SizeP := ⟨fun ⟨z, h, p⟩ d f => ⟨z, h, FP.fr p d f⟩⟩
theorem ev_day {sz : List Int} {late : Bool} (hsz : Sz sz) (ha : Ev ta σ H (NumsP sz)) (hb : Ev tb σ H (Is (.bl late))) : Ev (tCall (sp__law_day K) [] E0 (tCons ta (tCons tb tNil))) σ H DayP :=
  ev_callA (ea_cons ha (ea_cons hb ea_nil)) fun H1 vs H2 e1 e2 pa => by
    cases pa with
    | cons a1 pa => cases pa with
      | cons a2 pa =>
        cases pa
        have z2 : _ = V.bl late := a2
        subst z2
        obtain ⟨ds, ⟨hl, hd⟩, p, rfl, _, hp⟩ := a1
        have ok := hsz.ok
        exact ⟨p, ds, late, rfl, hp, by rw [hl, ok.1], fun i hi => ⟨(hd i (by omega)).1, by have h1 := (hd i (by omega)).2; have h2 := ok.2.2 i hi; omega⟩, rfl⟩
theorem getD_app {α : Type} {xs : List α} {x d : α} {i : Nat} (h : i < xs.length) : (xs ++ [x]).getD i d = xs.getD i d := by
  rw [List.getD_eq_getElem?_getD, List.getD_eq_getElem?_getD, List.getElem?_append_left h]
theorem getD_end {α : Type} {xs : List α} {x d : α} {i : Nat} (h : i = xs.length) : (xs ++ [x]).getD i d = x := by
  rw [List.getD_eq_getElem?_getD, h]; simp
theorem snoc_get {α : Type} {xs : List α} {x y : α} {i : Nat} (h : (xs ++ [x])[i]? = some y) : (i < xs.length ∧ xs[i]? = some y) ∨ (i = xs.length ∧ y = x) := by
  have hi := (List.getElem?_eq_some_iff.mp h).1
  rw [List.length_append, List.length_singleton] at hi
  by_cases c : i < xs.length
  · rw [List.getElem?_append_left c] at h; exact .inl ⟨c, h⟩
  · have e : i = xs.length := by omega
    subst e
    simp at h
    exact .inr ⟨rfl, h.symm⟩
theorem rd__law_bakery (h : sp__law_bakery K vs H Q E) : t__law_bakery K (DD Q) (start N__law_bakery vs) H := by
  obtain ⟨H0, P, e0, ⟨a, ns, salt, rfl, hs, hm, hsalt, rfl⟩, k⟩ := h
  have hs := sqL_up hs e0
  refine Sx.at (x_asg (P := NumsP [3, 12, 2]) (ev_numsN (by omega) (by decide) (by decide) (ev_cell (k := 0) hs hm (ev_var rfl) ev_c) (ev_var rfl) (ev_lst (ex_cons ev_c (ex_cons ev_c (ex_cons ev_c ex_nil))) (by show 3 ≤ 100000; decide))) fun v H1 e1 pp => ?_)
  obtain ⟨hd, ⟨hdl, hdb⟩, hp, rfl, _, hh⟩ := pp
  obtain ⟨h0, h1, h2, rfl⟩ : ∃ h0 h1 h2, hd = [h0, h1, h2] := by
    match hd, hdl with
    | [h0, h1, h2], _ => exact ⟨_, _, _, rfl⟩
  have b1 : 0 ≤ h1 ∧ h1 < 12 := hdb 1 (by decide)
  refine x_asg (P := SizeP) ?_ fun v H2 e2 pp => ?_
  · refine ev_catA (ys := [4, 5].map V.int) (Pa := PickP ([5, 6, 4, 4, 13].map V.int) ((List.replicate 5 1000000001).map V.int)) (ev_pick (b := decide (V.int h0 = V.int 0)) (ev_lst (ex_cons ev_c (ex_cons ev_c (ex_cons ev_c (ex_cons ev_c (ex_cons ev_c ex_nil))))) (by show 5 ≤ 100000; decide)) (ev_repN (xs := [.int 1000000001]) (k := 5) (ev_lst (ex_cons ev_pow9 ex_nil) (by show 1 ≤ 100000; decide)) ev_c (by decide) (by show 5 ≤ sizeLine; decide)) (ev_eq (ev_ixL hh (ev_var rfl) ev_c rfl) ev_c eqI)) (ev_lst (ex_cons ev_c (ex_cons ev_c ex_nil)) (by show 2 ≤ 100000; decide)) fun H3 v H4 _ pp => ?_
    obtain ⟨zs, hz, p, rfl, _, hp⟩ := pp
    rcases hz with rfl | rfl
    · exact ⟨p, _, rfl, hp, by decide, fun w H5 pw => ⟨_, .inl rfl, pw⟩⟩
    · exact ⟨p, _, rfl, hp, by decide, fun w H5 pw => ⟨_, .inr rfl, pw⟩⟩
  obtain ⟨sz, hsz, q, rfl, _, hq⟩ := pp
  have ok := hsz.ok
  refine x_asg (ev_lst ex_nil (Nat.zero_le _)) fun v H3 e3 pp => ?_
  obtain ⟨l, rfl, hl, hl1⟩ := pp
  refine x_asg (ev_lst ex_nil (Nat.zero_le _)) fun v H4 e4 pp => ?_
  obtain ⟨g, rfl, hg, hg1⟩ := pp
  have nlg : l ≠ g := ne_of_none hl1 hg
  have hgH2 : H2 g = none := e3.back hg
  have e12 := e1.trans e2
  have hcount : ∃ N : Nat, N = (max 2 (min 5 ns.length)) ∧ 2 ≤ N ∧ N ≤ 5 := ⟨_, rfl, by omega, by omega⟩
  obtain ⟨N, hN, hN2, hN5⟩ := hcount
  refine x_forR2 (lo := 1) (hi := (N : Int)) (ex_cons ev_c (ex_cons (Ev.eq (ev_max2 ev_c (ev_min2 (ev_var rfl) (ev_lenS (sqL_up hs (e12.trans (e3.trans e4))) (ev_var rfl)))) ?_) ex_nil)) (by omega)
    (fun i σ' H' => Ex H2 H' ∧ ∃ (ls : List Int) (rs : List Row) (ws : List V), H' l = some (.lst (ls.map V.int)) ∧ H' g = some (.lst ws) ∧ ls.length = i ∧ rs.length = i ∧ ws.length = i ∧ (∀ x ∈ ls, num x) ∧ (∀ r ∈ rs, r.ok) ∧ (∀ j v, ws[j]? = some v → RowAt H' v (rs.getD j row0)) ∧
      ∃ o7 o8 o9, σ' = [some (.ref a), some (.int 5), some (.int salt), some (.ref hp), some (.ref q), some (.ref l), some (.ref g), o7, o8, o9])
    (fun H5 e5 => ⟨(e3.trans e4).trans e5, [], [], [], e5 _ _ (e4 _ _ hl1), e5 _ _ hg1, rfl, rfl, rfl, (fun x hx => by cases hx), (fun x hx => by cases hx), (fun j v hv => by simp at hv), none, none, none, rfl⟩)
    (fun i σ' H' hi ⟨w1, ls, rs, ws, w2, w3, w4, w5, w6, w7, w8, w9, o7, o8, o9, es⟩ => ?_) fun σ' H' ⟨w1, ls, rs, ws, w2, w3, w4, w5, w6, w7, w8, w9, o7, o8, o9, es⟩ => ?_
  · rw [hN]
    show V.int _ = V.int _
    congr 1
    rw [List.length_map]
    split <;> split <;> omega
  · subst es
    have ei : (1 : Int) + (i : Int) = ((1 + i : Nat) : Int) := by omega
    rw [ei]
    refine x_asgG (P := DayP) (ev_day hsz (late := decide (V.int h2 = V.int 1)) (ev_nums (salt := salt + ((1 + i : Nat) : Int)) (w1 _ _ hq) (by omega) (by omega) ok.2.1 (ev_cell (k := 1 + i) (sqL_up hs (e12.trans w1)) hm (ev_var rfl) (ev_var rfl)) (ev_I0 (ev_var rfl) (ev_var rfl)) (ev_var rfl)) (ev_eq (ev_ixL (w1 _ _ (e2 _ _ hh)) (ev_var rfl) ev_c rfl) ev_c eqI)) fun v H5 e5 pp => ?_
    obtain ⟨light, r, ⟨hlight, hr⟩, T, us, rfl, _, hT, pa⟩ := pp
    cases pa with
    | cons a1 pa => cases pa with
      | cons a2 pa =>
        cases pa
        have z1 : _ = V.int light := a1
        subst z1
        obtain ⟨t, rfl, _, ht⟩ := a2
        refine ⟨_, eg_tup2 hT eg_name eg_name, ?_⟩
        refine x_app (P := Is (.int light)) (e5 _ _ w2) (ev_var rfl) (ev_var rfl) (by rw [List.length_map]; omega) fun v H6 e6 pp => ?_
        have ev : v = _ := pp
        subst ev
        have w36 : upd H6 l (.lst (ls.map V.int ++ [.int light])) g = some (.lst ws) := by rw [upd_ne nlg.symm]; exact e6 _ _ (e5 _ _ w3)
        refine x_app (P := Is (.ref t)) w36 (ev_var rfl) (ev_var rfl) (by omega) fun v H7 e7 pp => ?_
        have ev : v = _ := pp
        subst ev
        refine x_next fun H8 e8 => ⟨?_, ls ++ [light], rs ++ [r], ws ++ [.ref t], ?_, e8 _ _ upd_same, by simp [w4], by simp [w5], by simp [w6], ?_, ?_, ?_, _, _, _, rfl⟩
        · exact ((((w1.trans e5).trans e6).mut hl).trans e7 |>.mut hgH2).trans e8
        · refine e8 _ _ ?_
          rw [upd_ne nlg, List.map_append]
          exact e7 _ _ upd_same
        · intro x hx
          rcases List.mem_append.mp hx with h | h
          · exact w7 x h
          · rw [List.mem_singleton.mp h]; exact hlight
        · intro x hx
          rcases List.mem_append.mp hx with h | h
          · exact w8 x h
          · rw [List.mem_singleton.mp h]; exact hr
        · intro j v hv
          rcases snoc_get hv with ⟨hj, hv⟩ | ⟨hj, rfl⟩
          · rw [getD_app (by omega)]
            exact (((((w9 j v hv).up (e5.trans e6)).mut (e6 _ _ (e5 _ _ w2))).up e7).mut (e7 _ _ w36)).up e8
          · rw [getD_end (by omega)]
            have h1 : RowAt H5 (.ref t) r := ⟨t, rfl, ht⟩
            exact ((((h1.up e6).mut (e6 _ _ (e5 _ _ w2))).up e7).mut (e7 _ _ w36)).up e8
  · subst es
    obtain ⟨L, hL, hLok⟩ : ∃ L : Option Int, atI [.non, .non, .int 0, .int 1, .int 2, .int 3, .int 4, .int 5, .int 7, .int 11, .int 23, .int 40] h1 = some (vO L) ∧ ∀ x, L = some x → 0 ≤ x ∧ x ≤ 40 := by
      have : h1 = 0 ∨ h1 = 1 ∨ h1 = 2 ∨ h1 = 3 ∨ h1 = 4 ∨ h1 = 5 ∨ h1 = 6 ∨ h1 = 7 ∨ h1 = 8 ∨ h1 = 9 ∨ h1 = 10 ∨ h1 = 11 := by omega
      rcases this with rfl | rfl | rfl | rfl | rfl | rfl | rfl | rfl | rfl | rfl | rfl | rfl
      · exact ⟨none, rfl, fun x hx => by cases hx⟩
      · exact ⟨none, rfl, fun x hx => by cases hx⟩
      · exact ⟨some 0, rfl, fun x hx => by cases hx; decide⟩
      · exact ⟨some 1, rfl, fun x hx => by cases hx; decide⟩
      · exact ⟨some 2, rfl, fun x hx => by cases hx; decide⟩
      · exact ⟨some 3, rfl, fun x hx => by cases hx; decide⟩
      · exact ⟨some 4, rfl, fun x hx => by cases hx; decide⟩
      · exact ⟨some 5, rfl, fun x hx => by cases hx; decide⟩
      · exact ⟨some 7, rfl, fun x hx => by cases hx; decide⟩
      · exact ⟨some 11, rfl, fun x hx => by cases hx; decide⟩
      · exact ⟨some 23, rfl, fun x hx => by cases hx; decide⟩
      · exact ⟨some 40, rfl, fun x hx => by cases hx; decide⟩
    have hn1 : ((N : Int) - 1).toNat = N - 1 := by omega
    rw [hn1] at w4 w5 w6
    refine x_ret (P := NewTA [Is (.ref l), Is .non, NewLA [NewTA [Is (.ref g), Is (vO L)]]]) (ev_tupA (ea_cons (ev_var rfl) (ea_cons ev_c (ea_cons (ev_lstA (ea_cons (ev_tupA (ea_cons (ev_var rfl) (ea_cons (ev_ixNL (ev_lst (ex_cons ev_c (ex_cons ev_c (ex_cons ev_c (ex_cons ev_c (ex_cons ev_c (ex_cons ev_c (ex_cons ev_c (ex_cons ev_c (ex_cons ev_c (ex_cons ev_c (ex_cons ev_c (ex_cons ev_c ex_nil)))))))))))) (by show 12 ≤ 100000; decide)) (ev_ixL (w1 _ _ (e2 _ _ hh)) (ev_var rfl) ev_c rfl) hL) ea_nil)) (by show 2 ≤ 100000; decide)) ea_nil) (by show 1 ≤ 100000; decide)) ea_nil))) (by show 3 ≤ 100000; decide)) fun v H5 e5 pp => ?_
    obtain ⟨T, us, rfl, hTn, hT, pa⟩ := pp
    cases pa with
    | cons a1 pa => cases pa with
      | cons a2 pa => cases pa with
        | cons a3 pa =>
          cases pa
          have z1 : _ = V.ref l := a1
          have z2 : _ = V.non := a2
          subst z1 z2
          obtain ⟨G, us2, rfl, _, hG, pb⟩ := a3
          cases pb with
          | cons c1 pb =>
            cases pb
            obtain ⟨D, us3, rfl, _, hD, pc⟩ := c1
            cases pc with
            | cons d1 pc => cases pc with
              | cons d2 pc =>
                cases pc
                have z3 : _ = V.ref g := d1
                have z4 : _ = vO L := d2
                subst z3 z4
                exact k _ H5 ((e12.trans w1).trans e5) ⟨⟨ls, rs, L⟩, T, ⟨by show 1 ≤ ls.length; omega, by show ls.length ≤ 40; omega, by show rs.length = ls.length; omega, w7, w8, hLok⟩, by show ls.length ≤ 4; omega, rfl, l, G, D, hT, e5 _ _ w2, hG, g, hD, ws, e5 _ _ w3, by show ws.length = rs.length; omega, fun j v hv => (w9 j v hv).up e5⟩
end
end K66

/-! ## R5 -/
set_option maxHeartbeats 4000000
namespace K66
open PySem PySem.Spec PyProof.Rows L2
section
variable {K : PySem.W.Frag} {σ : L2.St} {H H' : Hp} {ta tb tc te tx : TE} {v : V} {vs : List V} {Q : VK} {E : XK}
theorem rd__law_price (h : sp__law_price K vs H Q E) : t__law_price K (DD Q) (start N__law_price vs) H := by
  obtain ⟨H0, P, e0, ⟨pg, b, s, d, rfl, hg, hok, hs, hd, rfl⟩, k⟩ := h
  obtain ⟨pr, hp, hr⟩ := hg.up e0
  obtain ⟨ws', t', q1, q2, q3, q4⟩ := hr.get (i := s) (by rw [hok.len]; exact hs)
  obtain ⟨ws, h1, h2, h3⟩ := hr
  have hm : b.n ≤ 40 := hok.most
  have hlen : ws.length = b.n := by rw [h2, hok.len]
  have : ws' = ws := by rw [h1] at q1; injection q1 with q1; injection q1 with q1; exact q1.symm
  subst this
  refine Sx.at (x_asgG (P := Is (.ref pg)) (ev_var rfl) fun v H1 e1 pv' => ?_)
  have z : v = .ref pg := pv'
  subst z
  refine ⟨_, eg_tup2 (e1 _ _ hp) eg_name eg_name, ?_⟩
  by_cases hsd : d < s
  · obtain ⟨c1, c2⟩ := cutV_nat (xs := ws') (Nat.le_of_lt hsd) (by omega)
    refine x_if (b := true) (EvT.eq (et_test (ev_I0 (ev_var rfl) (ev_var rfl))) (decide_eq_true (by omega))) (fun _ => ?_) fun z => by cases z
    refine x_asg (P := NewL ((List.range (s - d)).map fun i => vO (b.fine (d + i)))) ?_ fun v H2 e2 p => ?_
    · refine ev_lcX (Yt := fun i x _ => (cutV ws' (some (d : Int)) (some (s : Int)))[i]? = some x) ?_ (by rw [List.length_map, List.length_range]; omega) fun i x H2 e hi hx => ?_
      · rw [List.length_map, List.length_range, ← c1]
        exact ei_listN (ev_slL (e1 _ _ h1) (ev_var rfl) (eo_some (ev_var rfl)) (eo_some (ev_var rfl)))
      · rw [List.length_map, List.length_range] at hi
        rw [c2 i hi] at hx
        obtain ⟨t, rfl, ht⟩ := (h3 (d + i) x hx).up (e1.trans e)
        refine ⟨_, eg_name, rfl, fun y hy => ?_⟩
        obtain ⟨_, rfl⟩ := range_get hy
        exact ev_ixT ht (ev_var rfl) ev_c rfl
    obtain ⟨q, rfl, hq, hl⟩ := p
    have tst : EvT (tTest (tOp (rIn K false) (tC .non) (tVar 5))) [some (.ref pg), some (.int (s : Int)), some (.int (d : Int)), some (.ref pr), some (vO b.life), some (.ref q), none] H2 (!finesIn b d (s - d)) := EvT.eq (et_test (ev_inL ev_c (ev_var rfl) hl rfl (by
      rw [List.all_map]
      exact List.all_eq_true.mpr fun i _ => flat_vO _))) inV_none
    refine x_retV (vO (b.price s d)) (ev_if tst (fun hb => ?_) fun hb => ?_) fun H3 e3 => k _ H3 ((e1.trans e2).trans e3) rfl
    · have hf : finesIn b d (s - d) = false := by cases hf : finesIn b d (s - d) <;> simp_all
      refine Ev.eq ev_c ?_
      unfold Bk.price
      rw [if_neg (by omega), hf]; rfl
    · have hf : finesIn b d (s - d) = true := by cases hf : finesIn b d (s - d) <;> simp_all
      have el : (List.range (s - d)).map (fun i => vO (b.fine (d + i))) = ((List.range (s - d)).map fun i => b.fineV (d + i)).map V.int := by
        rw [List.map_map]
        refine List.map_congr_left fun i hi => ?_
        have h4 := finesIn_all hf i (List.mem_range.mp hi)
        show vO (b.fine (d + i)) = V.int ((b.fine (d + i)).getD 0)
        cases e : b.fine (d + i) with
        | none => rw [e] at h4; cases h4
        | some f => rfl
      rw [el] at hl
      refine Ev.eq (ev_I0 (i := b.loaf s) (j := sumF b.fineV d s) (ev_ixT ((e1.trans e2) _ _ q4) (ev_ixL ((e1.trans e2) _ _ h1) (ev_var rfl) (ev_var rfl) (atI_nat q3)) ev_c rfl) (Ev.eq (ev_sumK hl (ev_var rfl)) (by rw [sum_range]; rfl))) ?_
      unfold Bk.price
      rw [if_neg (by omega), hf]; rfl
  · obtain ⟨c1, c2⟩ := cutV_nat (xs := ws') (s := s) (d := d) (by omega) (by omega)
    refine x_if (b := false) (EvT.eq (et_test (ev_I0 (ev_var rfl) (ev_var rfl))) (decide_eq_false (by omega))) (fun z => by cases z) fun _ => ?_
    refine x_fall ?_
    refine x_if (b := tooLong b.life (d - s)) ?_ (fun hb => ?_) fun hb => ?_
    · cases e : b.life with
      | none => exact et_and (a := false) (b := false) (et_test (Ev.eq (ev_notN (ev_var rfl)) rfl)) fun z => by cases z
      | some L =>
        exact EvT.eq (et_and (a := true) (et_test (Ev.eq (ev_notN (ev_var rfl)) rfl)) fun _ => et_test (ev_I0 (ev_I0 (ev_var rfl) (ev_var rfl)) (ev_var rfl))) (by
          show (true && decide (L < (d : Int) - (s : Int))) = decide (L < ((d - s : Nat) : Int))
          rw [Bool.true_and]
          congr 1
          have : (d : Int) - (s : Int) = ((d - s : Nat) : Int) := by omega
          rw [this])
    · refine x_retV .non ev_c fun H2 e => k _ H2 (e1.trans e) ?_
      show V.non = _
      unfold Bk.price
      rw [if_pos (by omega), hb]; rfl
    · refine x_fall (x_retV (vO (b.price s d)) (Ev.eq (ev_I0 (i := b.loaf s) (j := sumF b.keep s d) (ev_ixT (e1 _ _ q4) (ev_ixL (e1 _ _ h1) (ev_var rfl) (ev_var rfl) (atI_nat q3)) ev_c rfl) (Ev.eq (ev_sum (ns := (List.range (d - s)).map fun i => b.keep (s + i)) ?_) (by rw [sum_range]; rfl))) ?_) fun H2 e => k _ H2 (e1.trans e) rfl)
      · rw [List.map_map]
        refine ev_lcX (Yt := fun i x _ => (cutV ws' (some (s : Int)) (some (d : Int)))[i]? = some x) ?_ (by rw [List.length_map, List.length_range]; omega) fun i x H2 e hi hx => ?_
        · rw [List.length_map, List.length_range, ← c1]
          exact ei_listN (ev_slL (e1 _ _ h1) (ev_var rfl) (eo_some (ev_var rfl)) (eo_some (ev_var rfl)))
        · rw [List.length_map, List.length_range] at hi
          rw [c2 i hi] at hx
          obtain ⟨t, rfl, ht⟩ := (h3 (s + i) x hx).up (e1.trans e)
          refine ⟨_, eg_name, rfl, fun y hy => ?_⟩
          obtain ⟨_, rfl⟩ := range_get hy
          exact ev_ixT ht (ev_var rfl) ev_c rfl
      · unfold Bk.price
        rw [if_pos (by omega), hb]; rfl
theorem rd__law_later (h : sp__law_later K vs H Q E) : t__law_later K (DD Q) (start N__law_later vs) H := by
  obtain ⟨H0, P, e0, ⟨c, rfl, rfl⟩, k⟩ := h
  refine Sx.at (x_ret (P := Some' isInt) ?_ fun v H1 e p => k v H1 e p)
  have hd : ∃ d : Int, d = (10 : Int) ^ (45 : Int).toNat ∧ 0 < d ∧ d.natAbs.log2 < 9000 := ⟨_, rfl, by decide, by decide +kernel⟩
  obtain ⟨d, hd, hd0, hd1⟩ := hd
  have h1 : ∀ b : Bool, ∃ j : Int, atI [V.int 1, V.int d] (if b then 1 else 0) = some (.int j) ∧ CDivW c j := fun b => by
    cases b with
    | true => exact ⟨d, rfl, hd0, hd1⟩
    | false => exact ⟨1, rfl, by decide, by decide +kernel⟩
  obtain ⟨j, hj, hc⟩ := h1 (decide ((10 : Int) ^ (63 : Int).toNat ≤ c))
  exact (ev_I (g := fun i j => .int (i / j)) (ev_var rfl) (ev_ixNL (ev_lst (ex_cons ev_c (ex_cons (x := .int d) (Ev.eq (ev_I ev_c ev_c ⟨by decide, by decide, by decide⟩) (by rw [hd])) ex_nil)) (by show 2 ≤ 100000; decide)) (ev_intB (ev_I0 (ev_var rfl) (ev_I ev_c ev_c ⟨by decide, by decide, by decide⟩))) hj) hc).imp fun _ v _ _ _ p => ⟨_, p⟩
theorem rd__law_dough (h : sp__law_dough K vs H Q E) : t__law_dough K (DD Q) (start N__law_dough vs) H := by
  obtain ⟨H0, P, e0, ⟨pd, gs, r, s, rfl, hd, hrs, hs, hm, rfl⟩, k⟩ := h
  have hd := hd.up e0
  obtain ⟨ws, t, h1, h2, h3, h4⟩ := hd.get (i := r) (by omega)
  refine Sx.at (x_set (v := .int (gd gs r).dough) (ev_ixT h4 (ev_ixL h1 (ev_var rfl) (ev_var rfl) (atI_nat h3)) ev_c rfl) ?_)
  refine x_forR2 (lo := (r : Int)) (hi := (s : Int)) (ex_cons (ev_var rfl) (ex_cons (ev_var rfl) ex_nil)) (by omega)
    (fun i σ' H' => Ex H H' ∧ ∃ o4, σ' = [some (.ref pd), some (.int (r : Int)), some (.int (s : Int)), some (.int ((gd gs r).dough + sumR (holdD gs) r i)), o4])
    (fun H1 e1 => ⟨e1, none, by show _ = [_, _, _, some (V.int (_ + 0)), _]; rw [Int.add_zero]; rfl⟩) (fun i σ' H' hi ⟨w1, o4, es⟩ => ?_) fun σ' H' ⟨w1, o4, es⟩ => ?_
  · subst es
    obtain ⟨ws, t, h1, h2, h3, h4⟩ := (hd.up w1).get (i := r + i) (by omega)
    have ei : (r : Int) + (i : Int) = ((r + i : Nat) : Int) := by omega
    rw [ei]
    refine x_set (ev_I0 (j := holdD gs (r + i)) (ev_var rfl) (ev_ixT h4 (ev_ixL h1 (ev_var rfl) (ev_var rfl) (atI_nat h3)) ev_c rfl)) (x_next fun H1 e1 => ⟨w1.trans e1, some (.int ((r + i : Nat) : Int)), ?_⟩)
    rw [Int.add_assoc]; rfl
  · subst es
    have en : ((s : Int) - (r : Int)).toNat = s - r := by omega
    rw [en]
    exact x_retV _ (ev_var rfl) fun H1 e1 => k _ H1 (w1.trans e1) rfl
theorem rd__law_chosen (h : sp__law_chosen K vs H Q E) : t__law_chosen K (DD Q) (start N__law_chosen vs) H := by
  obtain ⟨H0, P, e0, ⟨N, n, rfl, hm, rfl⟩, k⟩ := h
  refine Sx.at (x_ret (P := NewL (natsV (chosen N n))) ?_ fun v H1 e1 p => k v H1 e1 p)
  intro H00 e00 Q' q'
  have ex0 : EvX (tCons (tVar 1) tNil) [some (.int (N : Int)), some (.int (n : Int)), none] H [.int (n : Int)] := ex_cons (ev_var rfl) ex_nil
  unfold tLc iRng1
  refine ex0 H00 e00 _ fun H1 e01 => ⟨(n : Int), rfl, by omega, by omega, ?_⟩
  have q : ∀ (v : V) (H2 : Hp), Ex H1 H2 → NewL (natsV (chosen N n)) H1 v H2 → Q' v H2 := fun v H2 e p => q' v H2 (e01.trans e) (UP.dn p e01)
  intro D hD
  have base : Ex H1 (upd H1 D (.lst [])) := Ex.new hD
  refine lc_it (walk_range (lo := 0) (n := n)) (fun i H' => Ex H1 H' ∧ H' D = some (.lst (natsV (chosen N i)))) ⟨base, upd_same⟩ (fun i H' _ p => trivial) (fun i x H3 H4 hi p y => ?_) (fun H' p => q _ H' p.1 ⟨D, rfl, hD, p.2⟩)
  obtain ⟨p1, p2⟩ := p
  obtain ⟨y1, y2⟩ := y
  subst y1
  have y3 : x = V.int (i : Int) := by have y3 : x = V.int (0 + (i : Int)) := y2; rw [Int.zero_add] at y3; exact y3
  subst y3
  have hsplit : chosen N (i + 1) = chosen N i ++ if N / 2 ^ i % 2 = 1 then [i] else [] := by
    unfold chosen
    rw [List.range_succ, List.filter_append]
    congr 1
    by_cases c : N / 2 ^ i % 2 = 1 <;> simp [c]
  have hll : (natsV (chosen N i)).length ≤ i := by
    unfold natsV chosen
    rw [List.length_map]
    exact Nat.le_trans (List.length_filter_le _ _) (by rw [List.length_range]; exact Nat.le_refl _)
  have tst : EvT (tTest (tOp rEq (tOp rAndI (tOp rShrI (tVar 0) (tVar 2)) (tC (.int 1))) (tC (.int 1)))) [some (.int (N : Int)), some (.int (n : Int)), some (.int (i : Int))] H4 (decide (N / 2 ^ i % 2 = 1)) := by
    refine EvT.eq (et_test (ev_eq (Ev.eq (ev_I0 (i := (N : Int) / 2 ^ i) (j := 1) (Ev.eq (ev_I (ev_var rfl) (ev_var rfl) (by show (0 : Int) ≤ (i : Int); omega)) (by rw [Int.toNat_natCast])) ev_c) (by rw [bitAnd_m1])) ev_c eqI)) ?_
    have e : (N : Int) / 2 ^ i % 2 = ((N / 2 ^ i % 2 : Nat) : Int) := by push_cast; rfl
    rw [e]
    by_cases c : N / 2 ^ i % 2 = 1
    · rw [decide_eq_true c, c]; rfl
    · rw [decide_eq_false c]
      exact decide_eq_false fun z => c (by injection z with z; omega)
  refine eg_name H4 Ex.rfl _ fun H5 e5 => ⟨rfl, ?_⟩
  refine tst H5 e5 _ fun H6 e6 => ?_
  have e36 := e5.trans e6
  by_cases c : N / 2 ^ i % 2 = 1
  · rw [decide_eq_true c, if_pos rfl]
    refine ev_var (σ := [some (.int (N : Int)), some (.int (n : Int)), some (.int (i : Int))]) (i := 2) rfl H6 Ex.rfl _ fun v H7 e7 pv => ?_
    have z : v = .int (i : Int) := pv
    subst z
    refine ⟨_, (e36.trans e7) _ _ p2, szl (by omega), ((p1.trans e36).trans e7).mut hD, ?_⟩
    rw [hsplit, if_pos c]
    show upd H7 D _ D = some (.lst ((chosen N i ++ [i]).map _))
    rw [List.map_append]
    exact upd_same
  · rw [decide_eq_false c, if_neg (by decide)]
    refine ⟨p1.trans e36, ?_⟩
    rw [hsplit, if_neg c, List.append_nil]
    exact e36 _ _ p2
end
end K66

/-! ## R6 -/
set_option maxHeartbeats 4000000
namespace K66
open PySem PySem.Spec PyProof.Rows L2
section
variable {K : PySem.W.Frag} {σ : L2.St} {H H' : Hp} {ta tb tc te tx : TE} {v : V} {vs : List V} {Q : VK} {E : XK}
/-- _law_numbers of a known number and a new list of one of two sorts -/
theorem ev_numsPick {xs ys : List Int} {salt c : Int} (hs : 0 ≤ salt ∧ salt ≤ 100000) (hl : xs.length ≤ 20 ∧ ys.length ≤ 20) (hx : (∀ x ∈ xs, 0 < x ∧ x < 1073741824) ∧ ∀ x ∈ ys, 0 < x ∧ x < 1073741824) (ha : Ev ta σ H (Is (.int c))) (hb : Ev tb σ H (Is (.int salt))) (hc : Ev tc σ H (PickP (xs.map V.int) (ys.map V.int))) :
    Ev (tCall (sp__law_numbers K) [] E0 (tCons ta (tCons tb (tCons tc tNil)))) σ H (fun H1 v H2 => ∃ zs, (zs = xs ∨ zs = ys) ∧ NumsP zs H1 v H2) := fun H1 e Q q =>
  ha H1 e _ fun v1 H2 e2 p1 => hb H2 (e.trans e2) _ fun v2 H3 e3 p2 => hc H3 ((e.trans e2).trans e3) _ fun v3 H4 e4 p3 => by
    have z1 : v1 = V.int c := p1
    have z2 : v2 = V.int salt := p2
    subst z1 z2
    obtain ⟨zs, hz, p, rfl, _, hp⟩ := p3
    have e14 := (e2.trans e3).trans e4
    rcases hz with rfl | rfl
    · exact ⟨H4, _, Ex.rfl, ⟨c, salt, p, xs, rfl, hp, hs, hl.1, hx.1, rfl⟩, fun v H' e' pv => q v H' (e14.trans e') ⟨xs, .inl rfl, UP.dn pv e14⟩⟩
    · exact ⟨H4, _, Ex.rfl, ⟨c, salt, p, ys, rfl, hp, hs, hl.2, hx.2, rfl⟩, fun v H' e' pv => q v H' (e14.trans e') ⟨ys, .inr rfl, UP.dn pv e14⟩⟩
theorem ev_tupL {p : Addr} {xs : List V} (h : H p = some (.lst xs)) (ha : Ev ta σ H (Is (.ref p))) : Ev (tCB (rTupS K) (tCons ta tNil)) σ H (NewT xs) := ev_cb (ex_cons ha ex_nil) fun H1 e _ q => ⟨p, xs, rfl, .inl ⟨sqL (e _ _ h), fun l hl => q _ _ (Ex.new hl) ⟨l, rfl, hl, upd_same⟩⟩⟩
theorem ev_ixI (ha : Ev ta σ H (NumsP [3])) (hb : Ev tb σ H (Is (.int 0))) : Ev (tOp (rIx K) ta tb) σ H (Some' isInt) :=
  ev_opN ha hb fun H1 w H2 _ _ hp Q q => by
    obtain ⟨ds, ⟨hl, _⟩, p, rfl, _, h⟩ := hp
    match ds, hl with
    | [d], _ => exact .inl ⟨p, [.int d], 0, .int d, rfl, rfl, sqL h, rfl, q _ H2 Ex.rfl ⟨d, rfl⟩⟩
theorem ev_eqB {j : Int} (ha : Ev ta σ H (Some' isInt)) (hb : Ev tb σ H (Is (.int j))) : Ev (tOp rEq ta tb) σ H (Some' fun v => ∃ b : Bool, v = .bl b) :=
  ev_opN ha hb fun H1 w H2 _ _ hp Q q => by
    obtain ⟨i, rfl⟩ := hp
    exact ⟨rfl, q _ H2 Ex.rfl ⟨_, rfl⟩⟩
theorem ev_ixP {xs : List V} {P : PP} [UP P] {i : Int} {w : V} (ha : Ev ta σ H (NewL xs)) (hb : Ev tb σ H (Is (.int i))) (hi : atI xs i = some w) : Ev (tOp (rIx K) ta tb) σ H (Is w) := ev_ixNL ha hb hi
theorem rd__law_doughs (h : sp__law_doughs K vs H Q E) : t__law_doughs K (DD Q) (start N__law_doughs vs) H := by
  obtain ⟨H0, P, e0, ⟨a, ns, n, salt, rfl, hs, hm, hn, hsalt, rfl⟩, k⟩ := h
  have hs := sqL_up hs e0
  refine Sx.at (x_asg (P := Some' fun v => ∃ b : Bool, v = .bl b) ?_ fun v H1 e1 pp => ?_)
  · exact ev_eqB (ev_ixI (ev_numsN (sz := [3]) (salt := salt) (by omega) (by decide) (by decide) (ev_cell (k := 0) hs hm (ev_var rfl) ev_c) (ev_var rfl) (ev_lst (ex_cons ev_c ex_nil) (by show 1 ≤ 100000; decide))) ev_c) ev_c
  obtain ⟨wide, rfl⟩ := pp
  refine x_asg (ev_lst ex_nil (Nat.zero_le _)) fun v H2 e2 pp => ?_
  obtain ⟨l, rfl, hl, hl1⟩ := pp
  refine x_forR1 (n := n) (ex_cons (ev_var rfl) ex_nil) (by omega)
    (fun i σ' H' => Ex H1 H' ∧ ∃ (gs : List Dg) (ws : List V), H' l = some (.lst ws) ∧ gs.length = i ∧ ws.length = i ∧ (∀ r ∈ gs, r.ok) ∧ (∀ j v, ws[j]? = some v → DgAt H' v (gs.getD j dg0)) ∧
      ∃ o5 o6 o7, σ' = [some (.ref a), some (.int (n : Int)), some (.int salt), some (.bl wide), some (.ref l), o5, o6, o7])
    (fun H3 e3 => ⟨e2.trans e3, [], [], e3 _ _ hl1, rfl, rfl, (fun x hx => by cases hx), (fun j v hv => by simp at hv), none, none, none, rfl⟩)
    (fun i σ' H' hi ⟨w1, gs, ws, w2, w3, w4, w5, w6, o5, o6, o7, es⟩ => ?_) fun σ' H' ⟨w1, gs, ws, w2, w3, w4, w5, w6, o5, o6, o7, es⟩ => ?_
  · subst es
    refine x_asg (P := Some' isInt) (ev_callA (ea_cons (ev_cell (k := 1 + i) (sqL_up hs (e1.trans w1)) hm (ev_var rfl) (Ev.eq (ev_I0 ev_c (ev_var rfl)) (by show V.int (1 + (i : Int)) = V.int ((1 + i : Nat) : Int); rw [show ((1 + i : Nat) : Int) = 1 + (i : Int) by omega]))) ea_nil) fun H3 vs H4 _ _ pa => ?_) fun v H3 e3 pp => ?_
    · cases pa with
      | cons a1 pa =>
        cases pa
        obtain ⟨c, rfl⟩ := a1
        exact ⟨c, rfl, rfl⟩
    obtain ⟨c, rfl⟩ := pp
    refine x_asg (ev_numsPick (xs := [13, 5, 4]) (ys := [1000000001, 1000000001, 1000000001]) (salt := salt + 40 + i) (by omega) (by decide) (by decide) (ev_var rfl) (ev_I0 (ev_I0 (ev_var rfl) ev_c) (ev_var rfl)) (ev_pick (ev_lst (ex_cons ev_c (ex_cons ev_c (ex_cons ev_c ex_nil))) (by show 3 ≤ 100000; decide)) (ev_repN (xs := [.int 1000000001]) (k := 3) (ev_lst (ex_cons ev_pow9 ex_nil) (by show 1 ≤ 100000; decide)) ev_c (by decide) (by show 3 ≤ sizeLine; decide)) (ev_var rfl))) fun v H4 e4 pp => ?_
    obtain ⟨zs, hz, ds, ⟨hdl, hd⟩, p, rfl, _, hp⟩ := pp
    have h3 : zs.length = 3 ∧ ∀ i, i < 3 → at0 zs i ≤ MOST + 1 := by
      rcases hz with rfl | rfl
      · exact ⟨rfl, by decide⟩
      · exact ⟨rfl, by decide⟩
    obtain ⟨d0, d1, d2, rfl⟩ : ∃ d0 d1 d2, ds = [d0, d1, d2] := by
      match ds, hdl.trans h3.1 with
      | [d0, d1, d2], _ => exact ⟨_, _, _, rfl⟩
    have hn : ∀ i, i < 3 → num (at0 [d0, d1, d2] i) := fun i hi => ⟨(hd i (by omega)).1, by have h1 := (hd i (by omega)).2; have h2 := h3.2 i hi; omega⟩
    have e34 := e3.trans e4
    refine x_app (P := NewT [.int d0, .int d1, .int d2]) (e34 _ _ w2) (ev_var rfl) (ev_tupL hp (ev_var rfl)) (by omega) fun v H5 e5 pp => ?_
    obtain ⟨t, rfl, _, ht⟩ := pp
    refine x_next fun H6 e6 => ⟨(((w1.trans e34).trans e5).mut (hl)).trans e6, gs ++ [⟨d0, d1, d2⟩], ws ++ [.ref t], e6 _ _ upd_same, by simp [w3], by simp [w4], ?_, ?_, _, _, _, rfl⟩
    · intro x hx
      rcases List.mem_append.mp hx with h | h
      · exact w5 x h
      · rw [List.mem_singleton.mp h]; exact ⟨hn 0 (by decide), hn 1 (by decide), hn 2 (by decide)⟩
    · intro j v hv
      rcases snoc_get hv with ⟨hj, hv⟩ | ⟨hj, rfl⟩
      · rw [getD_app (by omega)]
        exact (((w6 j v hv).up (e34.trans e5)).mut (e5 _ _ (e34 _ _ w2))).up e6
      · rw [getD_end (by omega)]
        have h1 : DgAt H5 (.ref t) ⟨d0, d1, d2⟩ := ⟨t, rfl, ht⟩
        exact (h1.mut (e5 _ _ (e34 _ _ w2))).up e6
  · subst es
    exact x_ret (P := Is (.ref l)) (ev_var rfl) fun v H3 e3 pv => k v H3 ((e1.trans w1).trans e3) ⟨gs, l, w3, w5, pv, ws, e3 _ _ w2, by rw [w4, w3], fun j v hv => (w6 j v hv).up e3⟩
end
end K66

/-! ## R7 -/
set_option maxHeartbeats 4000000
namespace K66
open PySem PySem.Spec PyProof.Rows L2
section
variable {K : PySem.W.Frag} {σ : L2.St} {H H' : Hp} {ta tb tc te tx : TE} {v : V} {vs : List V} {Q : VK} {E : XK}
/-- the best of the pairs for which S holds -/
def BestOf (b : Bk) (g : List Dg) (d : Nat) (S : Nat → Nat → Prop) : Option Int → Prop
  | none => ∀ r s, S r s → r ≤ s → b.pair g r s d = none
  | some t => (∃ r s, S r s ∧ r ≤ s ∧ b.pair g r s d = some t) ∧ ∀ r s, S r s → r ≤ s → ∀ x, b.pair g r s d = some x → t ≤ x
theorem BestOf.same {b : Bk} {g : List Dg} {d : Nat} {S S' : Nat → Nat → Prop} {o : Option Int} (h : BestOf b g d S o) (e : ∀ r s, S r s ↔ S' r s) : BestOf b g d S' o := by
  have : S = S' := funext fun r => funext fun s => propext (e r s)
  rw [← this]; exact h
theorem BestOf.skip {b : Bk} {g : List Dg} {d : Nat} {S : Nat → Nat → Prop} {r0 s0 : Nat} {o : Option Int} (h : BestOf b g d S o) (hn : r0 ≤ s0 → b.pair g r0 s0 d = none) : BestOf b g d (fun r s => S r s ∨ (r = r0 ∧ s = s0)) o := by
  cases o with
  | none => rintro r s (c | ⟨rfl, rfl⟩) l
            · exact h r s c l
            · exact hn l
  | some t =>
    obtain ⟨⟨r, s, h1, h2, h3⟩, h4⟩ := h
    refine ⟨⟨r, s, .inl h1, h2, h3⟩, ?_⟩
    rintro r s (c | ⟨rfl, rfl⟩) l x hx
    · exact h4 r s c l x hx
    · rw [hn l] at hx; cases hx
theorem BestOf.take {b : Bk} {g : List Dg} {d : Nat} {S : Nat → Nat → Prop} {r0 s0 : Nat} {o : Option Int} {y : Int} (h : BestOf b g d S o) (hl : r0 ≤ s0) (hy : b.pair g r0 s0 d = some y) (hb : ∀ t, o = some t → y < t) : BestOf b g d (fun r s => S r s ∨ (r = r0 ∧ s = s0)) (some y) := by
  refine ⟨⟨r0, s0, .inr ⟨rfl, rfl⟩, hl, hy⟩, ?_⟩
  rintro r s (c | ⟨rfl, rfl⟩) l x hx
  · cases o with
    | none => rw [h r s c l] at hx; cases hx
    | some t => have := h.2 r s c l x hx; have := hb t rfl; omega
  · rw [hy] at hx; injection hx with hx; omega
theorem BestOf.keep {b : Bk} {g : List Dg} {d : Nat} {S : Nat → Nat → Prop} {r0 s0 : Nat} {t y : Int} (h : BestOf b g d S (some t)) (hy : b.pair g r0 s0 d = some y) (hb : t ≤ y) : BestOf b g d (fun r s => S r s ∨ (r = r0 ∧ s = s0)) (some t) := by
  obtain ⟨⟨r, s, h1, h2, h3⟩, h4⟩ := h
  refine ⟨⟨r, s, .inl h1, h2, h3⟩, ?_⟩
  rintro r s (c | ⟨rfl, rfl⟩) l x hx
  · exact h4 r s c l x hx
  · rw [hy] at hx; injection hx with hx; omega
theorem natsV_get {l : List Nat} {i : Nat} {x : V} (h : (natsV l)[i]? = some x) : ∃ r, l[i]? = some r ∧ x = .int (r : Int) := by
  unfold natsV at h
  rw [List.getElem?_map] at h
  cases e : l[i]? with
  | none => rw [e] at h; cases h
  | some r => rw [e] at h; injection h with h; exact ⟨r, rfl, h.symm⟩
theorem natsV_len {l : List Nat} : (natsV l).length = l.length := by unfold natsV; rw [List.length_map]
theorem rd__law_best_for (h : sp__law_best_for K vs H Q E) : t__law_best_for K (DD Q) (start N__law_best_for vs) H := by
  obtain ⟨H0, P, e0, ⟨pb, b, pd, g, pm, M, pq, B, d, rfl, hb, hok, hg, hgok, hpm, hpq, hM, hB, hd, rfl⟩, k⟩ := h
  have hb := hb.up e0
  have hg := hg.up e0
  have hpm := e0 _ _ hpm
  have hpq := e0 _ _ hpq
  refine Sx.at (x_set (v := .non) ev_c ?_)
  refine x_forL (P := Is (.ref pq)) (ev_var rfl) fun v H1 e1 pp => ⟨pq, natsV B, fun i σ' H' => Ex H H' ∧ ∃ (o : Option Int) (o6 o7 o8 o9 : Option V), BestOf b g d (fun r s => r ∈ M ∧ s ∈ B.take i) o ∧ σ' = [some (.ref pb), some (.ref pd), some (.ref pm), some (.ref pq), some (.int (d : Int)), some (vO o), o6, o7, o8, o9], pp, e1 _ _ hpq,
    ⟨e1, none, none, none, none, none, (fun r s h => by simp at h), rfl⟩, fun i σ' H' w => w.1 _ _ hpq, fun i x σ' H' hx ⟨w1, o, o6, o7, o8, o9, w2, es⟩ => ?_, fun σ' H' ⟨w1, o, o6, o7, o8, o9, w2, es⟩ => ?_⟩
  · subst es
    obtain ⟨s, hs, rfl⟩ := natsV_get hx
    have hsB : s ∈ B := List.mem_of_getElem? hs
    have hs' := hB s hsB
    refine ⟨_, eg_name, ?_⟩
    obtain ⟨pl, pgs, pg, q1, q2, q3, q4⟩ := hb.up w1
    refine x_set (v := vO (b.price s d)) (ev_call (ex_cons (ev_bk20 q1 q3 (ev_var rfl)) (ex_cons (ev_var rfl) (ex_cons (ev_var rfl) ex_nil))) ⟨pg, b, s, d, rfl, q4, hok, hs', hd, rfl⟩) ?_
    refine x_forL (P := Is (.ref pm)) (ev_var rfl) fun v H2 e2 pp => ⟨pm, natsV M, fun j σ' H'' => Ex H' H'' ∧ ∃ (o : Option Int) (o8 o9 : Option V), BestOf b g d (fun r s' => (r ∈ M ∧ s' ∈ B.take i) ∨ (r ∈ M.take j ∧ s' = s)) o ∧ σ' = [some (.ref pb), some (.ref pd), some (.ref pm), some (.ref pq), some (.int (d : Int)), some (vO o), some (.int (s : Int)), some (vO (b.price s d)), o8, o9], pp, (w1.trans e2) _ _ hpm,
      ⟨e2, o, o8, o9, w2.same fun r s' => by simp, rfl⟩, fun i σ' H'' w => (w1.trans w.1) _ _ hpm, fun j x σ' H'' hx ⟨u1, o, o8, o9, u2, es⟩ => ?_, fun σ' H'' ⟨u1, o, o8, o9, u2, es⟩ => ?_⟩
    · subst es
      obtain ⟨r, hr, rfl⟩ := natsV_get hx
      have hr' := hM r (List.mem_of_getElem? hr)
      refine ⟨_, eg_name, ?_⟩
      have hjM : j < M.length := (List.getElem?_eq_some_iff.mp hr).1
      have htake : ∀ r' s', (((r' ∈ M ∧ s' ∈ B.take i) ∨ (r' ∈ M.take j ∧ s' = s)) ∨ (r' = r ∧ s' = s)) ↔ ((r' ∈ M ∧ s' ∈ B.take i) ∨ (r' ∈ M.take (j + 1) ∧ s' = s)) := fun r' s' => by
        rw [List.take_add_one, hr]
        simp only [Option.toList, List.mem_append, List.mem_singleton]
        constructor
        · rintro ((h | ⟨h1, h2⟩) | ⟨h1, h2⟩)
          · exact .inl h
          · exact .inr ⟨.inl h1, h2⟩
          · exact .inr ⟨.inr h1, h2⟩
        · rintro (h | ⟨h1 | h1, h2⟩)
          · exact .inl (.inl h)
          · exact .inl (.inr ⟨h1, h2⟩)
          · exact .inr ⟨h1, h2⟩
      cases hp : b.price s d with
      | none =>
        exact x_pass (et_and (a := false) (b := false) (EvT.eq (et_test (ev_notN (ev_var rfl))) rfl) fun z => by cases z) rfl (x_next fun H3 e3 => ⟨u1.trans e3, o, _, _, (u2.skip (r0 := r) (s0 := s) fun _ => by unfold Bk.pair; rw [hp]; rfl).same htake, rfl⟩)
      | some y =>
        by_cases hrs : r ≤ s
        · have hpair : b.pair g r s d = some (y + each g r s) := by unfold Bk.pair; rw [hp]; rfl
          refine x_if (b := true) (EvT.eq (et_and (a := true) (EvT.eq (et_test (ev_notN (ev_var rfl))) rfl) fun _ => et_test (ev_I0 (ev_var rfl) (ev_var rfl))) (by rw [Bool.true_and]; exact decide_eq_true (by omega))) (fun _ => ?_) fun z => by cases z
          refine x_set (v := .int (y + each g r s)) (ev_I0 (ev_var rfl) (ev_call (ex_cons (ev_var rfl) (ex_cons (ev_var rfl) (ex_cons (ev_var rfl) ex_nil))) ⟨pd, g, r, s, rfl, hg.up (w1.trans u1), hrs, by rw [hgok.len]; exact hs', by rw [hgok.len]; exact hok.most, rfl⟩)) ?_
          cases o with
          | none =>
            refine x_if (b := true) (EvT.eq (et_or (a := true) (b := true) (EvT.eq (et_test (ev_isN (ev_var rfl))) rfl) fun z => by cases z) rfl) (fun _ => ?_) fun z => by cases z
            refine x_set (v := vO (some (y + each g r s))) (ev_var rfl) ?_
            exact x_fall (x_fall (x_next fun H4 e4 => ⟨u1.trans e4, some (y + each g r s), _, _, (u2.take hrs hpair fun t ht => by cases ht).same htake, rfl⟩))
          | some t =>
            refine x_if (b := decide (y + each g r s < t)) (EvT.eq (et_or (a := false) (EvT.eq (et_test (ev_isN (ev_var rfl))) rfl) fun _ => et_test (ev_I0 (ev_var rfl) (ev_var rfl))) rfl) (fun hlt => ?_) fun hlt => ?_
            · refine x_set (v := vO (some (y + each g r s))) (ev_var rfl) ?_
              exact x_fall (x_fall (x_next fun H4 e4 => ⟨u1.trans e4, some (y + each g r s), _, _, (u2.take hrs hpair fun t' ht => by injection ht with ht; have := of_decide_eq_true hlt; omega).same htake, rfl⟩))
            · exact x_fall (x_fall (x_next fun H4 e4 => ⟨u1.trans e4, some t, _, _, (u2.keep hpair (by have := of_decide_eq_false hlt; omega)).same htake, rfl⟩))
        · refine x_pass (EvT.eq (et_and (a := true) (EvT.eq (et_test (ev_notN (ev_var rfl))) rfl) fun _ => et_test (ev_I0 (ev_var rfl) (ev_var rfl))) (by rw [Bool.true_and])) (decide_eq_false (by omega)) (x_next fun H3 e3 => ⟨u1.trans e3, o, _, _, (u2.skip (r0 := r) (s0 := s) fun h => absurd h hrs).same htake, rfl⟩)
    · subst es
      refine x_next fun H3 e3 => ⟨(w1.trans u1).trans e3, o, _, _, _, _, u2.same fun r s' => ?_, rfl⟩
      rw [List.take_add_one, hs, show (natsV M).length = M.length from natsV_len, List.take_length]
      simp only [Option.toList, List.mem_append, List.mem_singleton]
      constructor
      · rintro (⟨h1, h2⟩ | ⟨h1, h2⟩)
        · exact ⟨h1, .inl h2⟩
        · exact ⟨h1, .inr h2⟩
      · rintro ⟨h1, h2 | h2⟩
        · exact .inl ⟨h1, h2⟩
        · exact .inr ⟨h1, h2⟩
  · subst es
    rw [show (natsV B).length = B.length from natsV_len, List.take_length] at w2
    refine x_retV (vO o) (ev_var rfl) fun H2 e2 => k _ H2 (w1.trans e2) ⟨o, rfl, ?_⟩
    cases o with
    | none => exact fun r hr s hs l => w2 r s ⟨hr, hs⟩ l
    | some t =>
      obtain ⟨⟨r, s, ⟨h1, h2⟩, h3, h4⟩, h5⟩ := w2
      exact ⟨⟨r, h1, s, h2, h3, h4⟩, fun r hr s hs l x hx => h5 r s ⟨hr, hs⟩ l x hx⟩
end
end K66

/-! ## R8 -/
set_option maxHeartbeats 4000000
namespace K66
open PySem PySem.Spec PyProof.Rows L2
section
variable {K : PySem.W.Frag} {σ : L2.St} {H H' : Hp} {ta tb tc te tx : TE} {v : V} {vs : List V} {Q : VK} {E : XK}
theorem ev_sumOver {wi : TI} {g : TG} {ws : List Nat} {M : List Nat} {f : Nat → Int} (hM : M.length ≤ 40) (hi : EvI wi σ H M.length (fun i x _ => (natsV M)[i]? = some x)) (hs : ∀ r, r ∈ M → ∀ H1, Ex H H1 → ∃ σ2, EvG g (.int (r : Int)) (wipe σ ws) H1 σ2 ∧ wipe σ2 ws = wipe σ ws ∧ Ev te σ2 H1 (Is (.int (f r)))) :
    Ev (tCB (rSum K) (tCons (tLc wi g tYes te ws) tNil)) σ H (Is (.int (sumL f M))) := by
  refine ev_sum (ns := M.map f) ?_
  rw [List.map_map]
  refine ev_lcX (Yt := fun i x _ => (natsV M)[i]? = some x) (by rw [List.length_map]; exact hi) (by rw [List.length_map]; omega) fun i x H1 e hi' hx => ?_
  obtain ⟨r, hr, rfl⟩ := natsV_get hx
  obtain ⟨σ2, h1, h2, h3⟩ := hs r (List.mem_of_getElem? hr) H1 e
  refine ⟨σ2, h1, h2, fun y hy => ?_⟩
  rw [List.getElem?_map, hr] at hy
  cases hy
  exact h3
theorem rd__law_set_cost (h : sp__law_set_cost K vs H Q E) : t__law_set_cost K (DD Q) (start N__law_set_cost vs) H := by
  obtain ⟨H0, P, e0, ⟨pb, b, pd, g, pm, M, pq, B, rfl, hb, hok, hg, hgok, hpm, hpq, hM, hB, hMl, hBl, rfl⟩, k⟩ := h
  have hb := hb.up e0
  have hg := hg.up e0
  have hpm := e0 _ _ hpm
  have hpq := e0 _ _ hpq
  have hb' := hb
  obtain ⟨pl, pgs, pg, q1, q2, q3, pr, q4, vr, q5, q6, q7⟩ := hb
  have hmost := hok.most
  refine Sx.at (x_set (v := .int (sumL (mixD g) M + sumL b.light B)) (ev_I0 (ev_sumOver (f := mixD g) hMl (by rw [← natsV_len (l := M)]; exact ei_list hpm (ev_var rfl)) fun r hr H1 e => ⟨_, eg_name, rfl, ?_⟩) (ev_sumOver (f := b.light) hBl (by rw [← natsV_len (l := B)]; exact ei_list hpq (ev_var rfl)) fun r hr H1 e => ⟨_, eg_name, rfl, ?_⟩)) ?_)
  · obtain ⟨ws, t, h1, h2, h3, h4⟩ := (hg.up e).get (i := r) (by rw [hgok.len]; exact hM r hr)
    exact ev_ixT h4 (ev_ixL h1 (ev_var rfl) (ev_var rfl) (atI_nat h3)) ev_c rfl
  · refine ev_ixL (e _ _ q2) (ev_bk0 (e _ _ q1) (ev_var rfl)) (ev_var rfl) (atI_nat ?_)
    have hr' : r < b.lights.length := hB r hr
    rw [List.getElem?_map, List.getElem?_eq_getElem hr', show b.light r = b.lights[r] by unfold Bk.light; rw [List.getD_eq_getElem?_getD, List.getElem?_eq_getElem hr']; rfl]
    rfl
  refine x_forEN (P := Is (.ref pr)) (ev_bk200 q1 q3 q4 (ev_var rfl)) fun v H1 e1 pp => ⟨pr, vr, fun i σ' H' => Ex H H' ∧ ∃ (T : Nat → Int) (o5 o6 o7 : Option V), (∀ d, d < i → 0 < b.want d → IsBest b g M B d (some (T d))) ∧
    σ' = [some (.ref pb), some (.ref pd), some (.ref pm), some (.ref pq), some (.int (sumL (mixD g) M + sumL b.light B + sumR (wantT b T) 0 i)), o5, o6, o7, none], pp, e1 _ _ q5,
    ⟨e1, fun _ => 0, none, none, none, fun d hd => absurd hd (Nat.not_lt_zero d), by show _ = [_, _, _, _, some (V.int (_ + 0)), _, _, _, _]; rw [Int.add_zero]; rfl⟩, fun i σ' H' w => w.1 _ _ q5, fun i x σ' H' T H2 hx ⟨w1, TT, o5, o6, o7, w2, es⟩ e2 hT => ?_, fun σ' H' ⟨w1, TT, o5, o6, o7, w2, es⟩ => ?_⟩
  · subst es
    have hi : i < vr.length := (List.getElem?_eq_some_iff.mp hx).1
    have hi' : i < b.n := by rw [q6, hok.len] at hi; exact hi
    obtain ⟨tr, rfl, ht⟩ := (q7 i x hx).up (w1.trans e2)
    refine ⟨_, eg_tup2 hT eg_name eg_name, ?_⟩
    have hstep : ∀ t : Int, (0 < b.want i → IsBest b g M B i (some t)) → (∀ d, d < i + 1 → 0 < b.want d → IsBest b g M B d (some (if d = i then t else TT d))) ∧ sumR (wantT b fun d => if d = i then t else TT d) 0 (i + 1) = sumR (wantT b TT) 0 i + wantT b (fun _ => t) i := fun t ht => by
      refine ⟨fun d hd hw => ?_, ?_⟩
      · by_cases c : d = i
        · subst c; rw [if_pos rfl]; exact ht hw
        · rw [if_neg c]; exact w2 d (by omega) hw
      · show sumR _ 0 i + wantT b _ (0 + i) = _
        rw [Nat.zero_add]
        congr 1
        · exact sumR_congr 0 i fun j _ hj => by unfold wantT; dsimp only; rw [if_neg (show ¬ j = i by omega)]
        · unfold wantT; dsimp only; rw [if_pos (show i = i from rfl)]
    by_cases hw : 0 < b.want i
    · refine x_if (b := true) (EvT.eq (et_test (ev_I0 (i := b.want i) (ev_ixT ht (ev_var rfl) ev_c rfl) ev_c)) (decide_eq_true hw)) (fun _ => ?_) fun z => by cases z
      refine x_asg (P := Some' fun v => ∃ o, v = vO o ∧ IsBest b g M B i o) (ev_call (ex_cons (ev_var rfl) (ex_cons (ev_var rfl) (ex_cons (ev_var rfl) (ex_cons (ev_var rfl) (ex_cons (ev_var rfl) ex_nil))))) ⟨pb, b, pd, g, pm, M, pq, B, i, rfl, hb'.up (w1.trans e2), hok, hg.up (w1.trans e2), hgok, (w1.trans e2) _ _ hpm, (w1.trans e2) _ _ hpq, hM, hB, hi', rfl⟩) fun v H3 e3 pp => ?_
      obtain ⟨o, rfl, ho⟩ := pp
      cases o with
      | none => exact x_if (b := true) (EvT.eq (et_test (ev_isN (ev_var rfl))) rfl) (fun _ => x_retV .non ev_c fun H4 e4 => k _ H4 ((w1.trans e2).trans (e3.trans e4)) ⟨none, rfl, i, hi', hw, ho⟩) fun z => by cases z
      | some t =>
        refine x_pass (et_test (ev_isN (ev_var rfl))) rfl ?_
        have hnum := (row_ok hok i).1
        refine x_set (v := .int (sumL (mixD g) M + sumL b.light B + sumR (wantT b TT) 0 i + b.want i * t)) (ev_I0 (ev_var rfl) (ev_I (i := b.want i) (j := t) (ev_ixT (e3 _ _ ht) (ev_var rfl) ev_c rfl) (ev_var rfl) (.inl ⟨by have := hnum.1; show _ < b.want i; unfold Bk.want; omega, by have := hnum.2; show b.want i < _; unfold Bk.want MOST at *; omega⟩))) ?_
        obtain ⟨s1, s2⟩ := hstep t fun _ => ho
        refine x_fall (x_next fun H4 e4 => ⟨(w1.trans e2).trans (e3.trans e4), _, some (.int (i : Int)), some (.ref tr), some (.int t), s1, ?_⟩)
        rw [s2, show wantT b (fun _ => t) i = b.want i * t by unfold wantT; rw [if_neg (by omega)], ← Int.add_assoc]
        rfl
    · refine x_pass (EvT.eq (et_test (ev_I0 (i := b.want i) (ev_ixT ht (ev_var rfl) ev_c rfl) ev_c)) (decide_eq_false hw)) rfl ?_
      obtain ⟨s1, s2⟩ := hstep 0 fun h => absurd h hw
      refine x_next fun H4 e4 => ⟨(w1.trans e2).trans e4, _, some (.int (i : Int)), some (.ref tr), o7, s1, ?_⟩
      rw [s2, show wantT b (fun _ => 0) i = 0 by unfold wantT; split <;> simp, Int.add_zero]
      rfl
  · subst es
    have en : vr.length = b.n := by rw [q6, hok.len]
    rw [en] at w2 ⊢
    exact x_retV _ (ev_var rfl) fun H2 e2 => k _ H2 (w1.trans e2) ⟨some _, rfl, TT, w2, rfl⟩
def LeastOf (b : Bk) (g : List Dg) (S : Nat → Nat → Prop) (o : Option Int) : Prop :=
  (∀ t, o = some t → ∃ N1 N2, S N1 N2 ∧ IsSet b g (chosen N1 b.n) (chosen N2 b.n) (some t)) ∧
  ∀ N1 N2, S N1 N2 → ∃ o', IsSet b g (chosen N1 b.n) (chosen N2 b.n) o' ∧ ∀ x, o' = some x → ∃ t, o = some t ∧ t ≤ x
theorem LeastOf.same {b : Bk} {g : List Dg} {S S' : Nat → Nat → Prop} {o : Option Int} (h : LeastOf b g S o) (e : ∀ r s, S r s ↔ S' r s) : LeastOf b g S' o := by
  have : S = S' := funext fun r => funext fun s => propext (e r s)
  rw [← this]; exact h
theorem LeastOf.skip {b : Bk} {g : List Dg} {S : Nat → Nat → Prop} {o o' : Option Int} {N1 N2 : Nat} (h : LeastOf b g S o) (hs : IsSet b g (chosen N1 b.n) (chosen N2 b.n) o') (hx : ∀ x, o' = some x → ∃ t, o = some t ∧ t ≤ x) : LeastOf b g (fun r s => S r s ∨ (r = N1 ∧ s = N2)) o := by
  refine ⟨fun t ht => ?_, ?_⟩
  · obtain ⟨a, c, h1, h2⟩ := h.1 t ht
    exact ⟨a, c, .inl h1, h2⟩
  · rintro a c (h1 | ⟨rfl, rfl⟩)
    · exact h.2 a c h1
    · exact ⟨o', hs, hx⟩
theorem LeastOf.take {b : Bk} {g : List Dg} {S : Nat → Nat → Prop} {o : Option Int} {y : Int} {N1 N2 : Nat} (h : LeastOf b g S o) (hs : IsSet b g (chosen N1 b.n) (chosen N2 b.n) (some y)) (hx : ∀ t, o = some t → y < t) : LeastOf b g (fun r s => S r s ∨ (r = N1 ∧ s = N2)) (some y) := by
  refine ⟨fun t ht => ?_, ?_⟩
  · injection ht with ht; subst ht
    exact ⟨N1, N2, .inr ⟨rfl, rfl⟩, hs⟩
  · rintro a c (h1 | ⟨rfl, rfl⟩)
    · obtain ⟨o', h2, h3⟩ := h.2 a c h1
      exact ⟨o', h2, fun x hx' => by obtain ⟨t, ht, hl⟩ := h3 x hx'; have := hx t ht; exact ⟨y, rfl, by omega⟩⟩
    · exact ⟨some y, hs, fun x hx' => by injection hx' with hx'; exact ⟨y, rfl, by omega⟩⟩
theorem chosen_lt {N n r : Nat} (h : r ∈ chosen N n) : r < n := List.mem_range.mp (List.mem_filter.mp h).1
theorem chosen_len {N n : Nat} : (chosen N n).length ≤ n := Nat.le_trans (List.length_filter_le _ _) (by rw [List.length_range]; exact Nat.le_refl _)
theorem ev_setcost {pb pd : Addr} {b : Bk} {g : List Dg} {ti tj tn : TE} {i j : Nat} (hb : BkAt H pb b) (hok : b.ok) (hg : DgsAt H pd g) (hgok : DgOk b g) (h1 : Ev ta σ H (Is (.ref pb))) (h2 : Ev tb σ H (Is (.ref pd))) (h3 : Ev ti σ H (Is (.int (i : Int)))) (h3' : Ev tj σ H (Is (.int (j : Int)))) (h4 : Ev tn σ H (Is (.int (b.n : Int)))) :
    Ev (tCall (sp__law_set_cost K) [] E0 (tCons ta (tCons tb (tCons (tCall (sp__law_chosen K) [] E0 (tCons ti (tCons tn tNil))) (tCons (tCall (sp__law_chosen K) [] E0 (tCons tj (tCons tn tNil))) tNil))))) σ H (Some' fun v => ∃ o, v = vO o ∧ IsSet b g (chosen i b.n) (chosen j b.n) o) := by
  have hm := hok.most
  have cs : ∀ {te : TE} {i : Nat}, Ev te σ H (Is (.int (i : Int))) → Ev (tCall (sp__law_chosen K) [] E0 (tCons te (tCons tn tNil))) σ H (NewL (natsV (chosen i b.n))) := fun {te i} h => ev_call (ex_cons h (ex_cons h4 ex_nil)) ⟨i, b.n, rfl, hm, rfl⟩
  refine ev_callA (ea_cons h1 (ea_cons h2 (ea_cons (cs h3) (ea_cons (cs h3') ea_nil)))) fun H1 vs H2 e1 e2 pa => ?_
  cases pa with
  | cons a1 pa => cases pa with
    | cons a2 pa => cases pa with
      | cons a3 pa => cases pa with
        | cons a4 pa =>
          cases pa
          have z1 : _ = V.ref pb := a1
          have z2 : _ = V.ref pd := a2
          subst z1 z2
          obtain ⟨pm, rfl, _, hm1⟩ := a3
          obtain ⟨pq, rfl, _, hq1⟩ := a4
          have hc1 : (chosen i b.n).length ≤ b.n := chosen_len
          have hc2 : (chosen j b.n).length ≤ b.n := chosen_len
          exact ⟨pb, b, pd, g, pm, chosen i b.n, pq, chosen j b.n, rfl, hb.up (e1.trans e2), hok, hg.up (e1.trans e2), hgok, hm1, hq1, fun r h => chosen_lt h, fun r h => chosen_lt h, Nat.le_trans hc1 hm, Nat.le_trans hc2 hm, rfl⟩
theorem rd__law_least (h : sp__law_least K vs H Q E) : t__law_least K (DD Q) (start N__law_least vs) H := by
  obtain ⟨H0, P, e0, ⟨pb, b, pd, g, rfl, hb, hok, hg, hgok, hm4, rfl⟩, k⟩ := h
  have hb := hb.up e0
  have hg := hg.up e0
  have hb' := hb
  obtain ⟨pl, pgs, pg, q1, q2, q3, q4⟩ := hb
  refine Sx.at (x_set (v := .int (b.n : Int)) (Ev.eq (ev_lenL q2 (ev_bk0 q1 (ev_var rfl))) (by rw [List.length_map])) (x_set (v := .non) ev_c ?_))
  have h16 : 2 ^ b.n ≤ 16 := Nat.pow_le_pow_right (by decide) hm4
  have shl : ∀ {σ : L2.St} {H : Hp}, σ[2]? = some (some (.int (b.n : Int))) → EvX (tCons (tOp rShlI (tC (.int 1)) (tVar 2)) tNil) σ H [.int ((2 ^ b.n : Nat) : Int)] := fun {σ H} h => ex_cons (Ev.eq (ev_I (C := CPow) ev_c (ev_var h) ⟨by omega, by omega, by decide⟩) (by rw [Int.toNat_natCast, Int.one_mul]; congr 1)) ex_nil
  refine x_forR1 (n := 2 ^ b.n) (shl rfl) (by omega) (fun i σ' H' => Ex H H' ∧ ∃ (o : Option Int) (o4 o5 o6 : Option V), LeastOf b g (fun r s => r < i ∧ s < 2 ^ b.n) o ∧ σ' = [some (.ref pb), some (.ref pd), some (.int (b.n : Int)), some (vO o), o4, o5, o6])
    (fun H1 e1 => ⟨e1, none, none, none, none, ⟨fun t ht => (by cases ht), fun a c h => absurd h.1 (Nat.not_lt_zero a)⟩, rfl⟩) (fun i σ' H' hi ⟨w1, o, o4, o5, o6, w2, es⟩ => ?_) fun σ' H' ⟨w1, o, o4, o5, o6, w2, es⟩ => ?_
  · subst es
    refine x_forR1 (n := 2 ^ b.n) (shl rfl) (by omega) (fun j σ' H' => Ex H H' ∧ ∃ (o : Option Int) (o5 o6 : Option V), LeastOf b g (fun r s => (r < i ∧ s < 2 ^ b.n) ∨ (r = i ∧ s < j)) o ∧ σ' = [some (.ref pb), some (.ref pd), some (.int (b.n : Int)), some (vO o), some (.int (i : Int)), o5, o6])
      (fun H1 e1 => ⟨w1.trans e1, o, o5, o6, w2.same fun r s => ⟨fun h => .inl h, fun h => h.elim id fun h => absurd h.2 (Nat.not_lt_zero s)⟩, rfl⟩) (fun j σ' H' hj ⟨w1, o, o5, o6, w2, es⟩ => ?_) fun σ' H' ⟨w1, o, o5, o6, w2, es⟩ => ?_
    · subst es
      have hstep : ∀ r s, (((r < i ∧ s < 2 ^ b.n) ∨ (r = i ∧ s < j)) ∨ (r = i ∧ s = j)) ↔ ((r < i ∧ s < 2 ^ b.n) ∨ (r = i ∧ s < j + 1)) := fun r s => by omega
      refine x_asg (ev_setcost (i := i) (j := j) (hb'.up w1) hok (hg.up w1) hgok (ev_var rfl) (ev_var rfl) (ev_var rfl) (ev_var rfl) (ev_var rfl)) fun v H1 e1 pp => ?_
      obtain ⟨c, rfl, hc⟩ := pp
      cases c with
      | none =>
        exact x_pass (et_and (a := false) (b := false) (EvT.eq (et_test (ev_notN (ev_var rfl))) rfl) fun z => by cases z) rfl (x_next fun H2 e2 => ⟨(w1.trans e1).trans e2, o, _, _, (w2.skip hc fun x hx => by cases hx).same hstep, rfl⟩)
      | some y =>
        cases o with
        | none =>
          refine x_if (b := true) (et_and (a := true) (b := true) (EvT.eq (et_test (ev_notN (ev_var rfl))) rfl) fun _ => et_or (a := true) (b := true) (EvT.eq (et_test (ev_isN (ev_var rfl))) rfl) fun z => by cases z) (fun _ => ?_) fun z => by cases z
          exact x_set (v := vO (some y)) (ev_var rfl) (x_fall (x_next fun H2 e2 => ⟨(w1.trans e1).trans e2, some y, _, _, (w2.take hc fun t ht => by cases ht).same hstep, rfl⟩))
        | some t =>
          refine x_if (b := decide (y < t)) (EvT.eq (et_and (a := true) (EvT.eq (et_test (ev_notN (ev_var rfl))) rfl) fun _ => et_or (a := false) (EvT.eq (et_test (ev_isN (ev_var rfl))) rfl) fun _ => et_test (ev_I0 (ev_var rfl) (ev_var rfl))) rfl) (fun hlt => ?_) fun hlt => ?_
          · exact x_set (v := vO (some y)) (ev_var rfl) (x_fall (x_next fun H2 e2 => ⟨(w1.trans e1).trans e2, some y, _, _, (w2.take hc fun t' ht => by injection ht with ht; have := of_decide_eq_true hlt; omega).same hstep, rfl⟩))
          · exact x_fall (x_next fun H2 e2 => ⟨(w1.trans e1).trans e2, some t, _, _, (w2.skip hc fun x hx => by injection hx with hx; have := of_decide_eq_false hlt; exact ⟨t, rfl, by omega⟩).same hstep, rfl⟩)
    · subst es
      exact x_next fun H2 e2 => ⟨w1.trans e2, o, _, _, _, w2.same fun r s => by omega, rfl⟩
  · subst es
    exact x_retV (vO o) (ev_var rfl) fun H2 e2 => k _ H2 (w1.trans e2) ⟨o, rfl, fun t ht => by
      obtain ⟨a, c, ⟨h1, h2⟩, h3⟩ := w2.1 t ht
      exact ⟨a, c, h1, h2, h3⟩, fun a c h1 h2 => w2.2 a c ⟨h1, h2⟩⟩
end
end K66

/-! ## R9 -/
set_option maxHeartbeats 4000000
namespace K66
open PySem PySem.Spec PyProof.Rows L2
section
variable {K : PySem.W.Frag} {σ : L2.St} {H H' : Hp} {ta tb tc te tx : TE} {v : V} {vs : List V} {Q : VK} {E : XK}
/-- two lists, item by item -/
def Two {α : Type} (R : V → α → Prop) (d : α) (vs : List V) (rs : List α) : Prop := vs.length = rs.length ∧ ∀ i v, vs[i]? = some v → R v (rs.getD i d)
theorem Two.app {α : Type} {R : V → α → Prop} {d : α} {vs ws : List V} {rs ss : List α} (h : Two R d vs rs) (h' : Two R d ws ss) : Two R d (vs ++ ws) (rs ++ ss) := by
  refine ⟨by rw [List.length_append, List.length_append, h.1, h'.1], fun i v hv => ?_⟩
  by_cases c : i < vs.length
  · rw [List.getElem?_append_left c] at hv
    rw [List.getD_eq_getElem?_getD, List.getElem?_append_left (by rw [← h.1]; exact c), ← List.getD_eq_getElem?_getD]
    exact h.2 i v hv
  · rw [List.getElem?_append_right (by omega)] at hv
    rw [List.getD_eq_getElem?_getD, List.getElem?_append_right (by rw [← h.1]; omega), ← List.getD_eq_getElem?_getD, ← h.1]
    exact h'.2 _ v hv
theorem Two.rep {α : Type} {R : V → α → Prop} {d : α} {vs : List V} {rs : List α} (h : Two R d vs rs) : ∀ m, Two R d (List.replicate m vs).flatten (List.replicate m rs).flatten
  | 0 => ⟨rfl, fun i v hv => by simp at hv⟩
  | m + 1 => by
    rw [List.replicate_succ, List.replicate_succ, List.flatten_cons, List.flatten_cons]
    exact h.app (Two.rep h m)
theorem Two.take {α : Type} {R : V → α → Prop} {d : α} {vs : List V} {rs : List α} (h : Two R d vs rs) (m : Nat) : Two R d (vs.take m) (rs.take m) := by
  refine ⟨by rw [List.length_take, List.length_take, h.1], fun i v hv => ?_⟩
  rw [List.getElem?_take] at hv
  by_cases c : i < m
  · rw [if_pos c] at hv
    rw [List.getD_eq_getElem?_getD, List.getElem?_take, if_pos c, ← List.getD_eq_getElem?_getD]
    exact h.2 i v hv
  · rw [if_neg c] at hv; cases hv
def lng {α : Type} (m : Nat) (xs : List α) : List α := ((List.replicate m xs).flatten).take m
theorem lng_len {α : Type} {m : Nat} {xs : List α} (h : 1 ≤ xs.length) : (lng m xs).length = m := by
  have e : ∀ k, ((List.replicate k xs).flatten).length = k * xs.length := fun k => by
    induction k with
    | zero => simp
    | succ k ih => rw [List.replicate_succ, List.flatten_cons, List.length_append, ih, Nat.succ_mul, Nat.add_comm]
  unfold lng
  rw [List.length_take, e]
  exact Nat.min_eq_left (Nat.le_mul_of_pos_right m h)
theorem lng_mem {α : Type} {m : Nat} {xs : List α} {x : α} (h : x ∈ lng m xs) : x ∈ xs := by
  have h1 := List.mem_of_mem_take h
  rw [List.mem_flatten] at h1
  obtain ⟨l, h2, h3⟩ := h1
  rw [List.eq_of_mem_replicate h2] at h3
  exact h3
theorem lng_map {α β : Type} {m : Nat} {xs : List α} {f : α → β} : (lng m xs).map f = lng m (xs.map f) := by
  unfold lng
  rw [List.map_take, List.map_flatten, List.map_replicate]
theorem cut_first {xs : List V} {m : Nat} (h : m ≤ xs.length) : cutV xs none (some (m : Int)) = xs.take m := by
  unfold cutV
  rw [HT.sIx_nat, HT.sIx_none, Nat.min_eq_left h]; rfl
theorem ev_lng {p : Addr} {xs : List V} {m : Nat} (hp : H p = some (.lst xs)) (h1 : 1 ≤ xs.length) (h4 : xs.length ≤ 40) (hm : m ≤ 40) (ha : Ev ta σ H (Is (.ref p))) (hb : Ev tb σ H (Is (.int (m : Int)))) (hc : Ev tc σ H (Is (.int (m : Int)))) : Ev (tSl (rSlL K) (tOp rRep ta tb) tNoPart (tPart tc)) σ H (NewL (lng m xs)) := by
  have h := ev_slNL (K := K) (ev_repL (k := (m : Int)) hp ha hb (by omega) (Nat.le_trans (Nat.mul_le_mul h4 (show (m : Int).toNat ≤ 40 by omega)) (by decide))) eo_none (eo_some hc)
  rw [Int.toNat_natCast] at h
  have hl : m ≤ ((List.replicate m xs).flatten).length := by
    have := lng_len (m := m) h1
    unfold lng at this
    rw [List.length_take] at this
    omega
  rw [cut_first hl] at h
  exact h
theorem getD_mem {α : Type} {xs : List α} {d : α} {i : Nat} (h : i < xs.length) : xs.getD i d ∈ xs := by
  rw [List.getD_eq_getElem?_getD, List.getElem?_eq_getElem h]; exact List.getElem_mem h
theorem rd__law_longer (h : sp__law_longer K vs H Q E) : t__law_longer K (DD Q) (start N__law_longer vs) H := by
  obtain ⟨H0, P, e0, ⟨pb, b, pd, g, m, rfl, hb, hok, hg, hgok, hm1, hm, rfl⟩, k⟩ := h
  obtain ⟨pl, pgs, pg, q1, q2, q3, pr, q4, vr, q5, q6⟩ := hb.up e0
  obtain ⟨vd, d1, d2⟩ := hg.up e0
  have hpos := hok.pos
  have hmost := hok.most
  have hvr : vr.length = b.lights.length := by rw [q6.1, hok.len]
  have hvd : vd.length = b.lights.length := by rw [d2.1, hgok.len]
  refine Sx.at (x_asgG (P := Is (.ref pg)) (ev_bk20 q1 q3 (ev_var rfl)) fun v H1 e1 pv' => ?_)
  have z : v = .ref pg := pv'
  subst z
  refine ⟨_, eg_tup2 (e1 _ _ q4) eg_name eg_name, ?_⟩
  refine x_asg (P := NewTA [NewL (lng m (b.lights.map V.int)), Is .non, NewLA [NewTA [NewL (lng m vr), Is (vO b.life)]]]) (ev_tupA (ea_cons (ev_lng (e1 _ _ q2) (by rw [List.length_map]; exact hpos) (by rw [List.length_map]; exact hmost) hm (ev_bk0 (e1 _ _ q1) (ev_var rfl)) (ev_var rfl) (ev_var rfl)) (ea_cons ev_c (ea_cons (ev_lstA (ea_cons (ev_tupA (ea_cons (ev_lng (e1 _ _ q5) (by omega) (by omega) hm (ev_var rfl) (ev_var rfl) (ev_var rfl)) (ea_cons (ev_var rfl) ea_nil)) (by show 2 ≤ 100000; decide)) ea_nil) (by show 1 ≤ 100000; decide)) ea_nil))) (by show 3 ≤ 100000; decide)) fun v H2 e2 pp => ?_
  obtain ⟨T, us, rfl, hTn, hT, pa⟩ := pp
  cases pa with
  | cons a1 pa => cases pa with
    | cons a2 pa => cases pa with
      | cons a3 pa =>
        cases pa
        obtain ⟨l, rfl, _, hl⟩ := a1
        have z2 : _ = V.non := a2
        subst z2
        obtain ⟨G, us2, rfl, _, hG, pb'⟩ := a3
        cases pb' with
        | cons c1 pb' =>
          cases pb'
          obtain ⟨D, us3, rfl, _, hD, pc⟩ := c1
          cases pc with
          | cons d1' pc => cases pc with
            | cons d2' pc =>
              cases pc
              obtain ⟨gg, rfl, _, hgg⟩ := d1'
              have z4 : _ = vO b.life := d2'
              subst z4
              refine x_ret (P := NewTA [Is (.ref T), NewL (lng m vd)]) (ev_tupA (ea_cons (ev_var rfl) (ea_cons (ev_lng ((e1.trans e2) _ _ d1) (by omega) (by omega) hm (ev_var rfl) (ev_var rfl) (ev_var rfl)) ea_nil)) (by show 2 ≤ 100000; decide)) fun v H3 e3 pp => ?_
              obtain ⟨TT, us4, rfl, _, hTT, pe⟩ := pp
              cases pe with
              | cons f1 pe => cases pe with
                | cons f2 pe =>
                  cases pe
                  have z5 : _ = V.ref T := f1
                  subst z5
                  obtain ⟨ld, rfl, _, hld⟩ := f2
                  have e13 := (e1.trans e2).trans e3
                  have l1 := lng_len (m := m) hpos
                  have l2 : (lng m b.rows).length = m := lng_len (by rw [hok.len]; exact hpos)
                  have l3 : (lng m g).length = m := lng_len (by rw [hgok.len]; exact hpos)
                  have w1 : Two (RowAt H) row0 (lng m vr) (lng m b.rows) := ((show Two (RowAt H) row0 vr b.rows from q6).rep m).take m
                  have w2 : Two (DgAt H) dg0 (lng m vd) (lng m g) := ((show Two (DgAt H) dg0 vd g from d2).rep m).take m
                  exact k _ H3 e13 ⟨TT, ⟨lng m b.lights, lng m b.rows, b.life⟩, T, lng m g, ld, rfl, hTT, ⟨by show 1 ≤ (lng m b.lights).length; omega, by show (lng m b.lights).length ≤ 40; omega, by show (lng m b.rows).length = (lng m b.lights).length; omega, fun x hx => hok.lightOk x (lng_mem hx), fun x hx => hok.rowOk x (lng_mem hx), hok.lifeOk⟩, l1, ⟨by show (lng m g).length = (lng m b.lights).length; omega, fun x hx => hgok.ok x (lng_mem hx)⟩,
                    ⟨l, G, D, e3 _ _ hT, by rw [show (Bk.mk (lng m b.lights) (lng m b.rows) b.life).lights = lng m b.lights from rfl, lng_map]; exact e3 _ _ hl, e3 _ _ hG, gg, e3 _ _ hD, lng m vr, e3 _ _ hgg, w1.1, fun i v hv => (w1.2 i v hv).up e13⟩, lng m vd, hld, w2.1, fun i v hv => (w2.2 i v hv).up e13⟩
end
end K66

/-! ## O3 -/
set_option maxHeartbeats 4000000
namespace K66
open PySem PySem.Spec PyProof.Rows L2
theorem ok__law_cell_at {P : Program} {w : World} {K : PySem.W.Frag} {mg : Str → Option Value} {base : Heap} (W : Wd K mg) : Cal P w K mg base CX0 1 "_law_cell_at" p__law_cell_at (sp__law_cell_at K) :=
  cal_of (d := d__law_cell_at) W 40 rfl rfl W.g__law_cell_at sc__law_cell_at (fun vs H Q E h => by obtain ⟨_, _, _, ⟨_, _, _, e, _⟩, _⟩ := h; rw [e]; rfl) (fun _ _ _ _ _ _ us hl => match us, hl with | [_, _], _ => rfl)
    fun f cdv A outer s H vs Q E hr h => ⟨t__law_cell_at K, (der__law_cell_at W  hr).nox, rd__law_cell_at h⟩
theorem ok__law_numbers {P : Program} {w : World} {K : PySem.W.Frag} {mg : Str → Option Value} {base : Heap} (W : Wd K mg) : Cal P w K mg base CX0 1 "_law_numbers" p__law_numbers (sp__law_numbers K) :=
  cal_of (d := d__law_numbers) W 41 rfl rfl W.g__law_numbers sc__law_numbers (fun vs H Q E h => by obtain ⟨_, _, _, ⟨_, _, _, _, e, _⟩, _⟩ := h; rw [e]; rfl) (fun _ _ _ _ _ _ us hl => match us, hl with | [_, _, _], _ => rfl)
    fun f cdv A outer s H vs Q E hr h => ⟨t__law_numbers K, (der__law_numbers W  hr).nox, rd__law_numbers h⟩
theorem ok__law_day {P : Program} {w : World} {K : PySem.W.Frag} {mg : Str → Option Value} {base : Heap} (W : Wd K mg) : Cal P w K mg base CX0 1 "_law_day" p__law_day (sp__law_day K) :=
  cal_of (d := d__law_day) W 42 rfl rfl W.g__law_day sc__law_day (fun vs H Q E h => by obtain ⟨_, _, _, ⟨_, _, _, e, _⟩, _⟩ := h; rw [e]; rfl) (fun _ _ _ _ _ _ us hl => match us, hl with | [_, _], _ => rfl)
    fun f cdv A outer s H vs Q E hr h => ⟨t__law_day K, (der__law_day W  hr).nox, rd__law_day h⟩
theorem ok__law_bakery {P : Program} {w : World} {K : PySem.W.Frag} {mg : Str → Option Value} {base : Heap} (W : Wd K mg) : Cal P w K mg base CX0 2 "_law_bakery" p__law_bakery (sp__law_bakery K) :=
  cal_of (d := d__law_bakery) W 43 rfl rfl W.g__law_bakery sc__law_bakery (fun vs H Q E h => by obtain ⟨_, _, _, ⟨_, _, _, e, _⟩, _⟩ := h; rw [e]; rfl) (fun _ _ _ _ _ _ us hl => match us, hl with | [_, _, _], _ => rfl)
    fun f cdv A outer s H vs Q E hr h => ⟨t__law_bakery K, (der__law_bakery W (ok__law_cell_at W) (ok__law_day W) (ok__law_numbers W) hr).nox, rd__law_bakery h⟩
theorem ok__law_price {P : Program} {w : World} {K : PySem.W.Frag} {mg : Str → Option Value} {base : Heap} (W : Wd K mg) : Cal P w K mg base CX0 1 "_law_price" p__law_price (sp__law_price K) :=
  cal_of (d := d__law_price) W 44 rfl rfl W.g__law_price sc__law_price (fun vs H Q E h => by obtain ⟨_, _, _, ⟨_, _, _, _, e, _⟩, _⟩ := h; rw [e]; rfl) (fun _ _ _ _ _ _ us hl => match us, hl with | [_, _, _], _ => rfl)
    fun f cdv A outer s H vs Q E hr h => ⟨t__law_price K, (der__law_price W  hr).nox, rd__law_price h⟩
theorem ok__law_later {P : Program} {w : World} {K : PySem.W.Frag} {mg : Str → Option Value} {base : Heap} (W : Wd K mg) : Cal P w K mg base CX0 1 "_law_later" p__law_later (sp__law_later K) :=
  cal_of (d := d__law_later) W 46 rfl rfl W.g__law_later sc__law_later (fun vs H Q E h => by obtain ⟨_, _, _, ⟨_, e, _⟩, _⟩ := h; rw [e]; rfl) (fun _ _ _ _ _ _ us hl => match us, hl with | [_], _ => rfl)
    fun f cdv A outer s H vs Q E hr h => ⟨t__law_later K, (der__law_later W  hr).nox, rd__law_later h⟩
theorem ok__law_doughs {P : Program} {w : World} {K : PySem.W.Frag} {mg : Str → Option Value} {base : Heap} (W : Wd K mg) : Cal P w K mg base CX0 2 "_law_doughs" p__law_doughs (sp__law_doughs K) :=
  cal_of (d := d__law_doughs) W 45 rfl rfl W.g__law_doughs sc__law_doughs (fun vs H Q E h => by obtain ⟨_, _, _, ⟨_, _, _, _, e, _⟩, _⟩ := h; rw [e]; rfl) (fun _ _ _ _ _ _ us hl => match us, hl with | [_, _, _], _ => rfl)
    fun f cdv A outer s H vs Q E hr h => ⟨t__law_doughs K, (der__law_doughs W (ok__law_cell_at W) (ok__law_later W) (ok__law_numbers W) hr).nox, rd__law_doughs h⟩
theorem ok__law_dough {P : Program} {w : World} {K : PySem.W.Frag} {mg : Str → Option Value} {base : Heap} (W : Wd K mg) : Cal P w K mg base CX0 1 "_law_dough" p__law_dough (sp__law_dough K) :=
  cal_of (d := d__law_dough) W 47 rfl rfl W.g__law_dough sc__law_dough (fun vs H Q E h => by obtain ⟨_, _, _, ⟨_, _, _, _, e, _⟩, _⟩ := h; rw [e]; rfl) (fun _ _ _ _ _ _ us hl => match us, hl with | [_, _, _], _ => rfl)
    fun f cdv A outer s H vs Q E hr h => ⟨t__law_dough K, (der__law_dough W  hr).nox, rd__law_dough h⟩
theorem ok__law_chosen {P : Program} {w : World} {K : PySem.W.Frag} {mg : Str → Option Value} {base : Heap} (W : Wd K mg) : Cal P w K mg base CX0 1 "_law_chosen" p__law_chosen (sp__law_chosen K) :=
  cal_of (d := d__law_chosen) W 48 rfl rfl W.g__law_chosen sc__law_chosen (fun vs H Q E h => by obtain ⟨_, _, _, ⟨_, _, e, _⟩, _⟩ := h; rw [e]; rfl) (fun _ _ _ _ _ _ us hl => match us, hl with | [_, _], _ => rfl)
    fun f cdv A outer s H vs Q E hr h => ⟨t__law_chosen K, (der__law_chosen W  hr).nox, rd__law_chosen h⟩
theorem ok__law_best_for {P : Program} {w : World} {K : PySem.W.Frag} {mg : Str → Option Value} {base : Heap} (W : Wd K mg) : Cal P w K mg base CX0 2 "_law_best_for" p__law_best_for (sp__law_best_for K) :=
  cal_of (d := d__law_best_for) W 49 rfl rfl W.g__law_best_for sc__law_best_for (fun vs H Q E h => by obtain ⟨_, _, _, ⟨_, _, _, _, _, _, _, _, _, e, _⟩, _⟩ := h; rw [e]; rfl) (fun _ _ _ _ _ _ us hl => match us, hl with | [_, _, _, _, _], _ => rfl)
    fun f cdv A outer s H vs Q E hr h => ⟨t__law_best_for K, (der__law_best_for W (ok__law_dough W) (ok__law_price W) hr).nox, rd__law_best_for h⟩
theorem ok__law_set_cost {P : Program} {w : World} {K : PySem.W.Frag} {mg : Str → Option Value} {base : Heap} (W : Wd K mg) : Cal P w K mg base CX0 3 "_law_set_cost" p__law_set_cost (sp__law_set_cost K) :=
  cal_of (d := d__law_set_cost) W 50 rfl rfl W.g__law_set_cost sc__law_set_cost (fun vs H Q E h => by obtain ⟨_, _, _, ⟨_, _, _, _, _, _, _, _, e, _⟩, _⟩ := h; rw [e]; rfl) (fun _ _ _ _ _ _ us hl => match us, hl with | [_, _, _, _], _ => rfl)
    fun f cdv A outer s H vs Q E hr h => ⟨t__law_set_cost K, (der__law_set_cost W (ok__law_best_for W) hr).nox, rd__law_set_cost h⟩
theorem ok__law_least {P : Program} {w : World} {K : PySem.W.Frag} {mg : Str → Option Value} {base : Heap} (W : Wd K mg) : Cal P w K mg base CX0 4 "_law_least" p__law_least (sp__law_least K) :=
  cal_of (d := d__law_least) W 51 rfl rfl W.g__law_least sc__law_least (fun vs H Q E h => by obtain ⟨_, _, _, ⟨_, _, _, _, e, _⟩, _⟩ := h; rw [e]; rfl) (fun _ _ _ _ _ _ us hl => match us, hl with | [_, _], _ => rfl)
    fun f cdv A outer s H vs Q E hr h => ⟨t__law_least K, (der__law_least W (ok__law_chosen W) (ok__law_set_cost W) hr).nox, rd__law_least h⟩
theorem ok__law_longer {P : Program} {w : World} {K : PySem.W.Frag} {mg : Str → Option Value} {base : Heap} (W : Wd K mg) : Cal P w K mg base CX0 1 "_law_longer" p__law_longer (sp__law_longer K) :=
  cal_of (d := d__law_longer) W 52 rfl rfl W.g__law_longer sc__law_longer (fun vs H Q E h => by obtain ⟨_, _, _, ⟨_, _, _, _, _, e, _⟩, _⟩ := h; rw [e]; rfl) (fun _ _ _ _ _ _ us hl => match us, hl with | [_, _, _], _ => rfl)
    fun f cdv A outer s H vs Q E hr h => ⟨t__law_longer K, (der__law_longer W  hr).nox, rd__law_longer h⟩
end K66

/-! ## KR -/
set_option maxHeartbeats 8000000
/-! three rules of our own: range(n) as a value, list of it, set of a list of ints -/
namespace K66
open PySem PySem.Spec PyProof.Rows L2
section
variable {X : Cx}
def rRange : List V → Hp → VK → Prop := fun vs H Q => ∃ j : Int, vs = [.int j] ∧ ∀ p, H p = none → Q (.ref p) (upd H p (.rng 0 j))
theorem cr_range1 : CallR X (.type "range") rRange := by
  rintro pins s σ H _ us Q I r ⟨j, rfl, q⟩
  obtain ⟨_, rfl, t, rfl⟩ := vals1 r
  refine call_range_1 ⟨.ref _, _, I.laid (o := .rng 0 j) (t' := s.toks + 1 + 1) (fun _ _ e => Heap.get?_push_of_some _ e) (Nat.le_refl _) ?_, rfl, q _ (I.hok.fresh (Nat.le_refl _))⟩
  exact ⟨s.toks, t, s.toks + 1, Heap.get?_push_size _ rfl⟩
def rListR : List V → Hp → VK → Prop := fun vs H Q => ∃ (p : Addr) (n : Nat), vs = [.ref p] ∧ H p = some (.rng 0 (n : Int)) ∧ n ≤ 1000 ∧ ∀ l, H l = none → Q (.ref l) (upd H l (.lst ((List.range n).map fun (i : Nat) => V.int (i : Int))))
theorem rng_size (n : Nat) : Builtin.Range.rangeSize 0 (n : Int) 1 = n := by
  unfold Builtin.Range.rangeSize
  by_cases h : n = 0
  · subst h; rfl
  · rw [if_pos (by decide)]
    first
    | omega
    | (split <;> omega)
theorem vals_of : ∀ {xs : List V} {us : List Value}, xs.length = us.length → (∀ (i : Nat) x u, xs[i]? = some x → us[i]? = some u → RelV x u) → Vals xs us
  | [], [], _, _ => .nil
  | [], u :: us, h, _ => by cases h
  | x :: xs, [], h, _ => by cases h
  | x :: xs, u :: us, h, k => .cons (k 0 x u rfl rfl) (vals_of (by simpa using h) fun i y v hy hv => k (i + 1) y v hy hv)
theorem cr_listRng (hc : X.calm = true) : CallR X (.type "list") rListR := by
  rintro pins s σ H _ us Q I r ⟨p, n, rfl, hp, hn, q⟩
  obtain ⟨_, rfl, rx⟩ := vals1 r
  cases rx
  obtain ⟨t, u, v, ho⟩ := I.hok p _ hp
  refine call_list_range (I.ok.hd hc) (show IsRange s.heap p 0 (n : Int) 1 t u v from ho) ?_ (rng_size n) (by omega) fun h' tk acc c' hk hl hi => ?_
  · unfold Builtin.Range.small
    have fl : ∀ k : Nat, k ≤ 1000 → Builtin.Range.rangeFitsLong (k : Int) = true := fun k hk => by
      unfold Builtin.Range.rangeFitsLong
      simp
      omega
    have f0 := fl 0 (by decide)
    have f1 := fl 1 (by decide)
    have fn := fl n hn
    have f2 : Builtin.Range.rangeFitsLong (Builtin.Range.rangeSize 0 (n : Int) 1) = true := by rw [rng_size]; exact fn
    simp only [Bool.and_eq_true, Bool.or_eq_true]
    exact ⟨⟨⟨⟨f0, fn⟩, f1⟩, f2⟩, .inr (by simpa using fn)⟩
  · have hv : Vals ((List.range n).map fun (i : Nat) => V.int (i : Int)) acc.toList := by
      refine vals_of (by rw [List.length_map, List.length_range, Array.length_toList, hi.1]) fun i x u hx hu => ?_
      rw [List.getElem?_map] at hx
      have hlt : i < n := by
        have := (List.getElem?_eq_some_iff.mp hu).1
        rw [Array.length_toList, hi.1] at this
        exact this
      rw [List.getElem?_range hlt] at hx
      obtain rfl : V.int (i : Int) = x := Option.some.inj hx
      obtain ⟨t', rfl⟩ := hi.2 i u (by rw [← Array.getElem?_toList]; exact hu)
      exact ⟨t', by rw [Int.zero_add, Int.mul_one]⟩
    exact ⟨.ref _, _, I.laid (t' := tk) hk (Nat.le_refl _) (show ObjOk X.prog X.w _ h' _ (.lst _) from ⟨by rw [List.length_map, List.length_range]; exact Nat.le_trans hn (by decide), acc.toList, c', hv, hl⟩), rfl, q _ (I.hok.fresh (Nat.le_refl _))⟩
end
end K66

/-! ## KR2 -/
set_option maxHeartbeats 8000000
/-! set(list of ints): what set() of the model does with a list, by the library's pieces -/
namespace K66
open PySem PySem.Spec PyProof.Rows L2
abbrev bare (w : World) : Obj := { cls := .type "set", dict := none, data := .set #[] 0 (.fresh 0 0 (!w.params.followText "set-order")) }
abbrev bareIn (w : World) (s : Shared) : Shared := { s with heap := s.heap.push (bare w) }
/-- what stands when the set of ns is made at a -/
def MadeSet (w : World) (s : Shared) (ns : List Int) (h : Heap) : Prop := ∃ c, c ≤ ns.length ∧ SetR w h s.heap.objs.size (fun j => decide (j ∈ ns)) c ∧ ∀ b o, s.heap.get? b = some o → h.get? b = some o
section
variable {P : Program} {w : World} {A : Around} {E : Value → Shared → Prop} {s : Shared} {l : Addr} {ns : List Int}
theorem set_init_list {its : Array Value} (hh : A.handled = none) (hl : s.heap.IsList l its) (hi : IntsAre its.toList ns) (hb : ns.length + 1 < scanBound) :
    wpAny (model P w) A.in1 (Builtin.«set.__init__» ⟨[.ref s.heap.objs.size, .ref l], []⟩)
      (fun fin s' => match fin with
        | .done f => wants (fun r s₂ => r = .none ∧ ∃ h tk, s₂ = { s with heap := h, toks := tk } ∧ MadeSet w s ns h) E (.ok f) s'
        | .again c' => c'.quiet = true ∧ codeAny (model P w) A c' (wants (fun r s₂ => r = .none ∧ ∃ h tk, s₂ = { s with heap := h, toks := tk } ∧ MadeSet w s ns h) E) s')
      (fun e s' => wants (fun r s₂ => r = .none ∧ ∃ h tk, s₂ = { s with heap := h, toks := tk } ∧ MadeSet w s ns h) E (.error e) s') (bareIn w s) := by
  have size : its.size = ns.length := by
    have q := IntsAre.length hi
    rwa [Array.length_toList] at q
  have lt : l < s.heap.objs.size := by
    obtain ⟨o, ho, _⟩ := hl
    exact Heap.lt_size ho
  have stands : (bareIn w s).heap.get? s.heap.objs.size = some (bare w) := Heap.get?_push_size _ rfl
  have big : (bareIn w s).heap.objs.size = s.heap.objs.size + 1 := Heap.size_push ..
  have list2 : (bareIn w s).heap.IsList l its := hl.push _
  obtain ⟨ol, hol, hcl, nl, hdl⟩ := list2
  obtain ⟨ocls, odict, odata, oslots⟩ := ol
  simp only at hcl hdl
  subst hcl; subst hdl
  have notSet := F.sub_list_set
  have notFro := F.sub_list_frozenset
  have notDict : (Value.type "list" == Value.type "dict") = false := by decide
  have again : (bareIn w s).heap.IsList l its := hl.push _
  unfold Builtin.«set.__init__» noKeywords Builtin.Frozenset.updateFrom
  generalize hPI : pyIter = PI
  wp_walk
  subst hPI
  refine wpAny_pyIter_list again (wpAny_bind (wpAny_runValue ?_))
  have calm3 : A.in1.in1.handled = none := by simp [hh]
  have off : l ≠ (bareIn w s).heap.objs.size := by rw [big]; exact Nat.ne_of_lt (Nat.lt_succ_of_lt lt)
  have fresh : s.heap.objs.size ∉ [(bareIn w s).heap.objs.size, l] := by
    rw [big]
    intro z
    rcases List.mem_cons.mp z with z | z
    · exact absurd z (Nat.ne_of_lt (Nat.lt_succ_self _))
    · exact absurd (List.mem_singleton.mp z) (Nat.ne_of_gt lt)
  refine set_update_ints ((Walks.list calm3 _ l off its).toS) s.heap.objs.size fresh ns size hb (fun i v hv => ?_) (its.size - 0) 0 _ (by omega) (Nat.zero_le _) ?_ ⟨0, Nat.le_refl 0, ?_⟩ ?_
  · have lt2 : i < ns.length := by rw [← size]; exact (Array.getElem?_eq_some_iff.mp hv).1
    obtain ⟨t, e⟩ := IntsAre.int_at hi i v (by rw [Array.getElem?_toList]; exact hv)
    exact ⟨ns[i], t, List.getElem?_eq_getElem lt2, by rw [e, List.getD_eq_getElem?_getD, List.getElem?_eq_getElem lt2] <;> rfl⟩
  · exact ⟨⟨_, Heap.get?_push_size _ rfl, rfl, rfl⟩, again.push _⟩
  · exact setR_new_at (Heap.get?_push_of_some _ stands)
  · intro s' c' hm hc' hS'
    rw [hm.eq_with]
    refine wpAny_pure (wpAny_pure ⟨rfl, s'.heap, s'.toks, rfl, c', by omega, hS', fun b o e => ?_⟩)
    have lt3 : b < s.heap.objs.size := Heap.lt_size e
    exact hm.heap b o (fun z => by
      rcases List.mem_cons.mp z with z | z
      · exact absurd z (Nat.ne_of_lt lt3)
      · exact absurd (List.mem_singleton.mp z) (by rw [big]; exact Nat.ne_of_lt (Nat.lt_succ_of_lt lt3))) (Heap.get?_push_of_some _ (Heap.get?_push_of_some _ e))
end
end K66

/-! ## KR3 -/
set_option maxHeartbeats 8000000
namespace K66
open PySem PySem.Spec PyProof.Rows L2
section
variable {P : Program} {w : World} {A : Around} {E : Value → Shared → Prop} {s : Shared} {l : Addr} {ns : List Int}
theorem call_set_ints {its : Array Value} {Q : Value → Shared → Prop} (hh : A.handled = none) (hl : s.heap.IsList l its) (hi : IntsAre its.toList ns) (hb : ns.length + 1 < scanBound)
    (hQ : ∀ h tk, MadeSet w s ns h → Q (.ref s.heap.objs.size) { s with heap := h, toks := tk }) : wpAny (model P w) A (call (.type "set") [.ref l]) Q E s := by
  have ⟨first, others, line⟩ := F.called_set.mro
  have made := F.called_set.made
  have under := F.called_set.sub
  have plainT := F.called_set.notType
  have may := F.called_set.canCreate
  have args := F.typeCall_set_1 (.ref l)
  refine wpAny_call (codeAny_of_tree (show wpAny _ _ (callAny (.type "set") _) _ _ _ from wpAny_pure ⟨Code.quiet_builtin _ (by decide +kernel), codeAny_builtin F.entry_type_call ?_⟩))
  rw [Around.under_plain (weight_type_call_type "set" [.ref l] []) rfl]
  repeat (any_goals first | assumption | wp_step)
  refine codeAny_mono (code_set_led1 (.ref l) (E := E) (Q₁ := fun a s₁ => a = .ref s.heap.objs.size ∧ s₁ = bareIn w s) ⟨rfl, rfl⟩) fun r s₁ hr => ?_
  match r, hr with
  | .error e, hr => exact hr
  | .ok (.ret obj), hr =>
    obtain ⟨rfl, rfl⟩ := hr
    have isSet : Shared.TypeIs (bareIn w s) (.ref s.heap.objs.size) "set" := ⟨_, Heap.get?_push_size _ rfl, rfl⟩
    have initAt := F.called_set.init.lookup
    have initTo := F.called_set.init.bind (.ref s.heap.objs.size)
    repeat (any_goals first | assumption | wp_step)
    refine codeAny_mono (codeAny_call_builtin (R := wants (fun r s₂ => r = .none ∧ ∃ h tk, s₂ = { s with heap := h, toks := tk } ∧ MadeSet w s ns h) E) F.called_set.init.plain F.entry_set_init (check_set_init_1 isSet (set_init_list (A := _) (by simp [hh]) hl hi hb))) fun r₂ s₂ h2 => ?_
    match r₂, h2 with
    | .error e, h2 => exact h2
    | .ok (.ret r), h2 =>
      obtain ⟨rfl, h', tk, rfl, m⟩ := h2
      repeat (any_goals first | assumption | wp_step)
      exact hQ _ _ m
end
section
variable {X : Cx}
def rSetI (w : World) (K : PySem.W.Frag) : List V → Hp → VK → Prop := fun vs H Q => ∃ (p : Addr) (ns : List Int), vs = [.ref p] ∧ SqL K H p (ns.map V.int) ∧ ns.length < 60 ∧ ∀ (a : Addr) (n : Nat), H a = none → n ≤ ns.length → Q (.ref a) (upd H a (SetO w a (fun j => decide (j ∈ ns)) n))
theorem cr_setI (hc : X.calm = true) : CallR X (.type "set") (rSetI X.w X.K) := by
  rintro pins s σ H _ us Q I r ⟨p, ns, rfl, hp, hn, q⟩
  obtain ⟨_, rfl, rx⟩ := vals1 r
  cases rx
  obtain ⟨its, rv, pl, hz⟩ := I.list hp
  refine call_set_ints (I.ok.hd hc) pl.isList (ints_of_vals rv) (by unfold scanBound; omega) fun h tk m => ?_
  obtain ⟨c, hcl, R, keeps⟩ := m
  exact ⟨.ref _, _, I.laid (t' := tk) keeps (Nat.le_refl _) (setO_new R), rfl, q _ c (I.hok.fresh (Nat.le_refl _)) hcl⟩
end
end K66

/-! ## S4 -/
set_option maxHeartbeats 4000000
namespace K66
open PySem PySem.Spec PyProof.Rows L2
structure Lot where
  r : Nat
  s : Nat
  d : Nat
  w : Int
def LotAt (H : Hp) (v : V) (l : Lot) : Prop := ∃ t, v = .ref t ∧ H t = some (.tup [.int (l.r : Int), .int (l.s : Int), .int (l.d : Int), .int l.w])
theorem LotAt.up {H H' : Hp} {v : V} {l : Lot} (h : LotAt H v l) (e : Ex H H') : LotAt H' v l := let ⟨t, h1, h2⟩ := h; ⟨t, h1, e _ _ h2⟩
def lot0 : Lot := ⟨0, 0, 0, 0⟩
def PlanAt (H : Hp) (p : Addr) (ls : List Lot) : Prop := ∃ vs, H p = some (.lst vs) ∧ Two (LotAt H) lot0 vs ls
theorem PlanAt.up {H H' : Hp} {p : Addr} {ls : List Lot} (h : PlanAt H p ls) (e : Ex H H') : PlanAt H' p ls := let ⟨vs, h1, h2, h3⟩ := h; ⟨vs, e _ _ h1, h2, fun i v hv => (h3 i v hv).up e⟩
structure LotOk (b : Bk) (l : Lot) : Prop where
  r : l.r < b.n
  s : l.s < b.n
  d : l.d < b.n
  w : num l.w
  price : ∃ p, b.price l.s l.d = some p
def lotVal (b : Bk) (g : List Dg) (l : Lot) : Int := l.w * (each g l.r l.s + (b.price l.s l.d).getD 0)
/-- each day of rs once -/
def onceOf (rs : List Nat) (n : Nat) : List Nat := (List.range n).filter fun r => decide (r ∈ rs)
def planCost (b : Bk) (g : List Dg) (ls : List Lot) : Int := (ls.map (lotVal b g)).sum + sumL (mixD g) (onceOf (ls.map (·.r)) b.n) + sumL b.light (onceOf (ls.map (·.s)) b.n)
def sp_dough_cost (_K : PySem.W.Frag) : Sp := spOf fun vs H P => ∃ (pb : Addr) (b : Bk) (pd : Addr) (g : List Dg) (pp : Addr) (ls : List Lot), vs = [.ref pb, .ref pd, .ref pp] ∧ BkAt H pb b ∧ b.ok ∧ DgsAt H pd g ∧ DgOk b g ∧ PlanAt H pp ls ∧ (∀ l ∈ ls, LotOk b l) ∧ ls.length ≤ 40 ∧ P = Is (.int (planCost b g ls))
end K66

/-! ## D4 -/
set_option maxHeartbeats 4000000
namespace K66
open PySem PySem.Spec PyProof.Rows L2
/-! dough_cost -/
abbrev N_dough_cost : List Str := ["bakery", "doughs", "plan", "total", "mixed", "baked", "given", "many", "day", "batch"]
abbrev p_dough_cost : List Str := ["bakery", "doughs", "plan"]
theorem sc_dough_cost : FnScope N_dough_cost p_dough_cost (defScope s_dough_cost) := ⟨rfl, rfl, rfl, by decide +kernel, rfl, by decide +kernel, by decide +kernel⟩
def t_dough_cost (w : World) (K : PySem.W.Frag) : TS := tSeq (tDrop (tCall (sp_look_at_doughs K) [] E0 (tCons (tVar 0) (tCons (tVar 1) (tNil))))) (tSeq (tAsg (tC (.int 0)) (gName 3)) (tSeq (tFor (iList K (tVar 2)) (gTup K 4 (gCons (gName 4) (gCons (gName 5) (gCons (gName 6) (gCons (gName 7) (gNil)))))) (tSeq (tAug 3 (tOp rMulI (tVar 7) (tOp rAddI (tCall (sp_dough_price K) [] E0 (tCons (tVar 1) (tCons (tVar 4) (tCons (tVar 5) (tNil))))) (tCall (sp_price_of K) [] E0 (tCons (tOp (rIx K) (tOp (rIx K) (tVar 0) (tC (.int 2))) (tC (.int 0))) (tCons (tVar 5) (tCons (tVar 6) (tNil))))))) (ipI fun i j => i + j)) (tNext))) (tSeq (tAug 3 (tCB (rSum K) (tCons (tLc (iList K (tCB (rSortedSet w) (tCons (tCB (rSetI w K) (tCons (tLc (iList K (tVar 2)) (gName 9) (tYes) (tOp (rIx K) (tVar 9) (tC (.int 0))) [9]) (tNil))) (tNil)))) (gName 8) (tYes) (tOp (rIx K) (tOp (rIx K) (tVar 1) (tVar 8)) (tC (.int 0))) [8]) (tNil))) (ipI fun i j => i + j)) (tSeq (tRet (tOp rAddI (tVar 3) (tCB (rSum K) (tCons (tLc (iList K (tCB (rSortedSet w) (tCons (tCB (rSetI w K) (tCons (tLc (iList K (tVar 2)) (gName 9) (tYes) (tOp (rIx K) (tVar 9) (tC (.int 1))) [9]) (tNil))) (tNil)))) (gName 8) (tYes) (tOp (rIx K) (tOp (rIx K) (tVar 0) (tC (.int 0))) (tVar 8)) [8]) (tNil))))) (tNext)))))
theorem der_dough_cost {P : Program} {w : World} {K : PySem.W.Frag} {mg : Str → Option Value} {base : Heap} (W : Wd K mg) (C_dough_price : Cal P w K mg base CX0 1 "dough_price" p_dough_price (sp_dough_price K)) (C_look_at_doughs : Cal P w K mg base (L2.CX P w) 9 "look_at_doughs" p_look_at_doughs (sp_look_at_doughs K)) (C_price_of : Cal P w K mg base CX0 2 "price_of" p_price_of (sp_price_of K)) {f : Addr} {cdv : Value} {A : Around} {outer : List Env} {s : Shared} {H : Hp} {E : XK} (hr : Room 9 (A.deeper (envOfC "dough_cost" (defScope s_dough_cost) s.heap.objs.size f cdv))) :
    PSs (cxOf CX0 P w K mg base N_dough_cost "dough_cost" (defScope s_dough_cost) f cdv A outer s H E).nox (defBody s_dough_cost) (t_dough_cost w K) :=
  pss_cons (ps_expr (pe_calX C_look_at_doughs (hr.mono (by decide)) (by rfl) (pa_cons (pv 0) (pa_cons (pv 1) (pa_nil))))) (pss_cons (ps_set (i := 3) sc_dough_cost.nd rfl (by first | exact Or.inl rfl | exact Or.inr rfl) (pe_int)) (pss_cons (ps_for PassesOwn.never (by rfl) (pi_list (pv 2)) (pg_tup (by rfl) (pgs_cons (pg_name (i := 4) sc_dough_cost.nd rfl (by first | exact Or.inl rfl | exact Or.inr rfl)) (pgs_cons (pg_name (i := 5) sc_dough_cost.nd rfl (by first | exact Or.inl rfl | exact Or.inr rfl)) (pgs_cons (pg_name (i := 6) sc_dough_cost.nd rfl (by first | exact Or.inl rfl | exact Or.inr rfl)) (pgs_cons (pg_name (i := 7) sc_dough_cost.nd rfl (by first | exact Or.inl rfl | exact Or.inr rfl)) (pgs_nil)))))) (pss_cons (ps_aug (i := 3) sc_dough_cost.nd rfl (by first | exact Or.inl rfl | exact Or.inr rfl) (pe_op op_mul (pv 7) (pe_op op_add (pe_cal C_dough_price (hr.mono (by decide)) (by rfl) (pa_cons (pv 1) (pa_cons (pv 4) (pa_cons (pv 5) (pa_nil))))) (pe_cal C_price_of (hr.mono (by decide)) (by rfl) (pa_cons (pe_ix ix_seq (pe_ix ix_seq (pv 0) (pe_int) (fun _ _ => rfl)) (pe_int) (fun _ _ => rfl)) (pa_cons (pv 5) (pa_cons (pv 6) (pa_nil))))))) ip_add) (pss_nil))) (pss_cons (ps_aug (i := 3) sc_dough_cost.nd rfl (by first | exact Or.inl rfl | exact Or.inr rfl) (pe_callB (cr_sum (by rfl)) (by rfl) W.b_sum (by decide +kernel) (pa_cons (pe_lc (own := [("day", 8)]) (by rfl) sc_dough_cost.nd (pi_list (pe_callB (cr_sortedSet (by rfl)) (by rfl) W.b_sorted (by decide +kernel) (pa_cons (pe_callTy (cr_setI (by rfl)) (by rfl) W.b_set (by decide +kernel) (pa_cons (pe_lc (own := [("batch", 9)]) (by rfl) sc_dough_cost.nd (pi_list (pv 2)) (blkOk_by (own := [("batch", 9)]) (N := N_dough_cost) (sc := defScope s_dough_cost) (by decide +kernel)) (fun _ _ _ _ _ => pg_name (i := 9) sc_dough_cost.nd rfl (by first | exact Or.inl rfl | exact Or.inr rfl)) (fun _ _ _ _ _ => pts_nil) (fun _ _ _ _ _ => pe_ix ix_seq (pv 9) (pe_int) (fun _ _ => rfl))) (pa_nil))) (pa_nil)))) (blkOk_by (own := [("day", 8)]) (N := N_dough_cost) (sc := defScope s_dough_cost) (by decide +kernel)) (fun _ _ _ _ _ => pg_name (i := 8) sc_dough_cost.nd rfl (by first | exact Or.inl rfl | exact Or.inr rfl)) (fun _ _ _ _ _ => pts_nil) (fun _ _ _ _ _ => pe_ix ix_seq (pe_ix ix_seq (pv 1) (pv 8) (fun _ _ => rfl)) (pe_int) (fun _ _ => rfl))) (pa_nil))) ip_add) (pss_cons (ps_ret (pe_op op_add (pv 3) (pe_callB (cr_sum (by rfl)) (by rfl) W.b_sum (by decide +kernel) (pa_cons (pe_lc (own := [("day", 8)]) (by rfl) sc_dough_cost.nd (pi_list (pe_callB (cr_sortedSet (by rfl)) (by rfl) W.b_sorted (by decide +kernel) (pa_cons (pe_callTy (cr_setI (by rfl)) (by rfl) W.b_set (by decide +kernel) (pa_cons (pe_lc (own := [("batch", 9)]) (by rfl) sc_dough_cost.nd (pi_list (pv 2)) (blkOk_by (own := [("batch", 9)]) (N := N_dough_cost) (sc := defScope s_dough_cost) (by decide +kernel)) (fun _ _ _ _ _ => pg_name (i := 9) sc_dough_cost.nd rfl (by first | exact Or.inl rfl | exact Or.inr rfl)) (fun _ _ _ _ _ => pts_nil) (fun _ _ _ _ _ => pe_ix ix_seq (pv 9) (pe_int) (fun _ _ => rfl))) (pa_nil))) (pa_nil)))) (blkOk_by (own := [("day", 8)]) (N := N_dough_cost) (sc := defScope s_dough_cost) (by decide +kernel)) (fun _ _ _ _ _ => pg_name (i := 8) sc_dough_cost.nd rfl (by first | exact Or.inl rfl | exact Or.inr rfl)) (fun _ _ _ _ _ => pts_nil) (fun _ _ _ _ _ => pe_ix ix_seq (pe_ix ix_seq (pv 0) (pe_int) (fun _ _ => rfl)) (pv 8) (fun _ _ => rfl))) (pa_nil))))) (pss_nil)))))
end K66

/-! ## R10 -/
set_option maxHeartbeats 4000000
namespace K66
open PySem PySem.Spec PyProof.Rows L2
theorem sorted_eq : ∀ {a b : List Int}, a.Pairwise (· < ·) → b.Pairwise (· < ·) → (∀ k, k ∈ a ↔ k ∈ b) → a = b
  | [], [], _, _, _ => rfl
  | [], y :: b, _, _, h => by have := (h y).mpr List.mem_cons_self; cases this
  | x :: a, [], _, _, h => by have := (h x).mp List.mem_cons_self; cases this
  | x :: a, y :: b, ha, hb, h => by
    have ha' := List.pairwise_cons.mp ha
    have hb' := List.pairwise_cons.mp hb
    have e : x = y := by
      have h1 := (h x).mp List.mem_cons_self
      have h2 := (h y).mpr List.mem_cons_self
      rcases List.mem_cons.mp h1 with e | e
      · exact e
      · rcases List.mem_cons.mp h2 with e2 | e2
        · exact e2.symm
        · have := hb'.1 x e
          have := ha'.1 y e2
          omega
    subst e
    congr 1
    refine sorted_eq ha'.2 hb'.2 fun k => ⟨fun hk => ?_, fun hk => ?_⟩
    · rcases List.mem_cons.mp ((h k).mp (List.mem_cons_of_mem _ hk)) with e | e
      · have := ha'.1 k hk; omega
      · exact e
    · rcases List.mem_cons.mp ((h k).mpr (List.mem_cons_of_mem _ hk)) with e | e
      · have := hb'.1 k hk; omega
      · exact e
section
variable {w : World} {K : PySem.W.Frag} {σ : L2.St} {H H' : Hp} {ta tb tc te tx : TE} {v : V} {vs : List V} {Q : VK} {E : XK}
def SetP (w : World) (ns : List Int) : PP := fun H1 v H2 => ∃ a c, v = .ref a ∧ H1 a = none ∧ H2 a = some (SetO w a (fun j => decide (j ∈ ns)) c) ∧ c ≤ ns.length
instance {ns : List Int} : FP (SetP w ns) := ⟨fun ⟨a, c, h1, h2, h3, h4⟩ d f => ⟨a, c, h1, d a h2, f a _ h2 h3, h4⟩⟩
theorem onceOf_int (rs : List Nat) (n : Nat) : natsV (onceOf rs n) = ((onceOf rs n).map fun (d : Nat) => (d : Int)).map V.int := by unfold natsV; rw [List.map_map]; rfl
theorem ev_once {rs : List Nat} {n : Nat} (h : Ev te σ H (NewL (natsV rs))) (hl : rs.length ≤ 40) (hn : ∀ r ∈ rs, r < n) : Ev (tCB (rSortedSet w) (tCons (tCB (rSetI w K) (tCons te tNil)) tNil)) σ H (NewL (natsV (onceOf rs n))) := by
  have h1 : Ev (tCB (rSetI w K) (tCons te tNil)) σ H (SetP w (rs.map fun (d : Nat) => (d : Int))) := ev_cbA (ea_cons h ea_nil) fun H1 vs H2 _ _ ps Q q => by
    cases ps with
    | cons h t =>
      cases t
      obtain ⟨p, rfl, _, hp⟩ := h
      exact ⟨p, rs.map fun (d : Nat) => (d : Int), rfl, sqL (by rw [hp]; unfold natsV; rw [List.map_map]; rfl), by rw [List.length_map]; omega, fun a c ha hc => q _ _ (Ex.new ha) ⟨a, c, rfl, ha, upd_same, hc⟩⟩
  refine ev_cbA (ea_cons h1 ea_nil) fun H1 vs H2 _ _ ps Q q => ?_
  cases ps with
  | cons h t =>
    cases t
    obtain ⟨a, c, rfl, _, ha, hc⟩ := h
    rw [List.length_map] at hc
    refine ⟨a, _, c, rfl, ha, by omega, fun ns p hs hm hl hp => q _ _ (Ex.new hp) ⟨p, rfl, hp, ?_⟩⟩
    rw [upd_same, onceOf_int]
    have e : ns = (onceOf rs n).map fun (d : Nat) => (d : Int) := by
      refine sorted_eq hs ?_ fun k => ?_
      · rw [List.pairwise_map]
        refine List.Pairwise.imp (fun {x y} (h : x < y) => by omega) (List.Pairwise.filter _ List.pairwise_lt_range)
      · rw [hm k]
        constructor
        · intro h
          obtain ⟨r, hr, e⟩ := List.mem_map.mp (of_decide_eq_true h)
          exact List.mem_map.mpr ⟨r, List.mem_filter.mpr ⟨List.mem_range.mpr (hn r hr), decide_eq_true hr⟩, e⟩
        · intro h
          obtain ⟨r, hr, e⟩ := List.mem_map.mp h
          exact decide_eq_true (List.mem_map.mpr ⟨r, of_decide_eq_true (List.mem_filter.mp hr).2, e⟩)
    rw [e]
theorem LotAt.get {H : Hp} {ls : List Lot} {ws : List V} {i : Nat} {x : V} (h : Two (LotAt H) lot0 ws ls) (hx : ws[i]? = some x) : ∃ l t, ls[i]? = some l ∧ x = .ref t ∧ H t = some (.tup [.int (l.r : Int), .int (l.s : Int), .int (l.d : Int), .int l.w]) := by
  have hi : i < ls.length := by rw [← h.1]; exact (List.getElem?_eq_some_iff.mp hx).1
  obtain ⟨t, rfl, ht⟩ := h.2 i x hx
  rw [List.getD_eq_getElem?_getD, List.getElem?_eq_getElem hi] at ht
  exact ⟨_, t, List.getElem?_eq_getElem hi, rfl, ht⟩
theorem ev_parts {pp : Addr} {ws : List V} {ls : List Lot} {k : Nat} {f : Lot → Nat} {a0 a1 a3 a4 a5 a6 a7 : Option V} (hp : H pp = some (.lst ws)) (h : Two (LotAt H) lot0 ws ls) (hl : ls.length ≤ 40) (hk : ∀ l : Lot, atI [V.int (l.r : Int), V.int (l.s : Int), V.int (l.d : Int), V.int l.w] (k : Int) = some (V.int (f l : Int))) :
    Ev (tLc (iList K (tVar 2)) (gName 9) tYes (tOp (rIx K) (tVar 9) (tC (.int (k : Int)))) [9]) [a0, a1, some (.ref pp), a3, a4, a5, a6, a7, none, none] H (NewL (natsV (ls.map f))) := by
  have el : (natsV (ls.map f)).length = ws.length := by rw [natsV_len, List.length_map, h.1]
  refine ev_lcX (Yt := fun i x _ => ws[i]? = some x) (by rw [el]; exact ei_list hp (ev_var rfl)) (by rw [el, h.1]; omega) fun i x H1 e hi hx => ?_
  obtain ⟨l, t, hl, rfl, ht⟩ := LotAt.get h hx
  refine ⟨_, eg_name, rfl, fun y hy => ?_⟩
  have hy' : y = .int (f l : Int) := by
    unfold natsV at hy
    rw [List.map_map, List.getElem?_map, hl] at hy
    exact (Option.some.inj hy).symm
  subst hy'
  exact ev_ixT (e _ _ ht) (ev_var rfl) ev_c (hk l)
theorem rd_dough_cost (h : sp_dough_cost K vs H Q E) : t_dough_cost w K (DD Q) (start N_dough_cost vs) H := by
  obtain ⟨H0, P, e0, ⟨pb, b, pd, g, pp, ls, rfl, hb, hok, hg, hgok, hp, hls, hl40, rfl⟩, k⟩ := h
  have hb := hb.up e0
  have hg := hg.up e0
  obtain ⟨ws, hp, htwo⟩ := hp.up e0
  have hb' := hb
  obtain ⟨pl, pgs, pg, q1, q2, q3, q4⟩ := hb
  have hmost := hok.most
  refine Sx.at (x_drop (ev_look hb' hok hg hgok (ev_var rfl) (ev_var rfl)) fun v H1 e1 _ => x_set (v := .int 0) ev_c ?_)
  refine x_forL (P := Is (.ref pp)) (ev_var rfl) fun v H2 e2 pv => ⟨pp, ws, fun i σ' H' => Ex H H' ∧ ∃ (o4 o5 o6 o7 : Option V), σ' = [some (.ref pb), some (.ref pd), some (.ref pp), some (.int (((ls.take i).map (lotVal b g)).sum)), o4, o5, o6, o7, none, none], pv, (e1.trans e2) _ _ hp, ⟨e1.trans e2, none, none, none, none, rfl⟩, fun i σ' H' w => w.1 _ _ hp,
    fun i x σ' H' hx ⟨w1, o4, o5, o6, o7, es⟩ => ?_, fun σ' H' ⟨w1, o4, o5, o6, o7, es⟩ => ?_⟩
  · subst es
    obtain ⟨l, t, hl, rfl, ht⟩ := LotAt.get htwo hx
    have lok := hls l (List.mem_of_getElem? hl)
    obtain ⟨p, hprice⟩ := lok.price
    refine ⟨_, eg_tup4 (w1 _ _ ht), ?_⟩
    have em : b.price l.s l.d = some p := hprice
    refine x_aug (f := fun i j => i + j) (b := lotVal b g l) rfl (Ev.eq (ev_I (i := l.w) (j := each g l.r l.s + p) (ev_var rfl) (ev_I0 (i := each g l.r l.s) (j := p) (ev_call (ex_cons (ev_var rfl) (ex_cons (ev_var rfl) (ex_cons (ev_var rfl) ex_nil))) ⟨pd, g, l.r, l.s, rfl, hg.up w1, by rw [hgok.len]; exact lok.r, by rw [hgok.len]; exact lok.s, by rw [hgok.len]; exact hmost, rfl⟩) (Ev.eq (ev_price (q4.up w1) hok lok.s lok.d (ev_bk20 (w1 _ _ q1) (w1 _ _ q3) (ev_var rfl)) (ev_var rfl) (ev_var rfl)) (by rw [em]; rfl))) (.inl ⟨by have := lok.w.1; omega, by have := lok.w.2; unfold MOST at this; omega⟩)) (by unfold lotVal; rw [em]; rfl)) ?_
    refine x_next fun H3 e3 => ⟨w1.trans e3, some (.int (l.r : Int)), some (.int (l.s : Int)), some (.int (l.d : Int)), some (.int l.w), ?_⟩
    rw [List.take_add_one, hl]
    show _ = [_, _, _, some (V.int ((ls.take i ++ [l]).map (lotVal b g)).sum), _, _, _, _, _, _]
    rw [List.map_append, List.sum_append]
    simp
  · subst es
    have en : ls.take ws.length = ls := by rw [htwo.1, List.take_length]
    rw [en]
    have htw : Two (LotAt H') lot0 ws ls := ⟨htwo.1, fun i v hv => (htwo.2 i v hv).up w1⟩
    have len1 : ∀ f : Lot → Nat, (ls.map f).length ≤ 40 := fun f => by rw [List.length_map]; exact hl40
    have once_lt : ∀ (rs : List Nat) r, r ∈ onceOf rs b.n → r < b.n := fun rs r h => List.mem_range.mp (List.mem_filter.mp h).1
    have once_len : ∀ rs : List Nat, (onceOf rs b.n).length ≤ 40 := fun rs => Nat.le_trans (List.length_filter_le _ _) (by rw [List.length_range]; exact hmost)
    have lots_r : ∀ r ∈ ls.map (·.r), r < b.n := fun r hr => by obtain ⟨l, hl, rfl⟩ := List.mem_map.mp hr; exact (hls l hl).r
    have lots_s : ∀ r ∈ ls.map (·.s), r < b.n := fun r hr => by obtain ⟨l, hl, rfl⟩ := List.mem_map.mp hr; exact (hls l hl).s
    refine x_aug (f := fun i j => i + j) rfl (ev_sumOver (M := onceOf (ls.map (·.r)) b.n) (f := mixD g) (once_len _) (by
      rw [← natsV_len (l := onceOf (ls.map (·.r)) b.n)]
      exact ei_listN (ev_once (ev_parts (w1 _ _ hp) htw hl40 (k := 0) (f := (·.r)) fun l => rfl) (len1 _) lots_r)) fun r hr H1 e => ⟨_, eg_name, rfl, ?_⟩) ?_
    · obtain ⟨ws, t, h1, h2, h3, h4⟩ := (hg.up (w1.trans e)).get (i := r) (by rw [hgok.len]; exact once_lt _ r hr)
      exact ev_ixT h4 (ev_ixL h1 (ev_var rfl) (ev_var rfl) (atI_nat h3)) ev_c rfl
    refine x_retV (.int (planCost b g ls)) (Ev.eq (ev_I0 (ev_var rfl) (ev_sumOver (M := onceOf (ls.map (·.s)) b.n) (f := b.light) (once_len _) (by
      rw [← natsV_len (l := onceOf (ls.map (·.s)) b.n)]
      exact ei_listN (ev_once (ev_parts (w1 _ _ hp) htw hl40 (k := 1) (f := (·.s)) fun l => rfl) (len1 _) lots_s)) fun r hr H1 e => ⟨_, eg_name, rfl, ?_⟩)) rfl) fun H3 e3 => k _ H3 (w1.trans e3) rfl
    · have hr' : r < b.lights.length := once_lt _ r hr
      refine ev_ixL ((w1.trans e) _ _ q2) (ev_bk0 ((w1.trans e) _ _ q1) (ev_var rfl)) (ev_var rfl) (atI_nat ?_)
      rw [List.getElem?_map, List.getElem?_eq_getElem hr', show b.light r = b.lights[r] by unfold Bk.light; rw [List.getD_eq_getElem?_getD, List.getElem?_eq_getElem hr']; rfl]
      rfl
end
end K66

/-! ## C0 -/
set_option maxHeartbeats 4000000
namespace K66
open PySem PySem.Spec PyProof.Rows L2
/-! methods of Climb, and how one is made -/
structure MCal (P : Program) (w : World) (K : PySem.W.Frag) (mg : Str → Option Value) (base : Heap) (k : Nat) (m : Str) (ps : List Str) (sp : Sp) : Prop where
  ex : ∃ f fd, FnOk P w K mg base CX0 k f fd ps sp ∧ Meth K (gA K "Climb") m f ∧ Binds K fd ps []
structure KCal (P : Program) (w : World) (K : PySem.W.Frag) (mg : Str → Option Value) (base : Heap) (k : Nat) (ps : List Str) (sp : Sp) : Prop where
  ex : ∃ f fd, FnOk P w K mg base CX0 k f fd ps sp ∧ Mk K (gA K "Climb") f ∧ mg "Climb" = some (.ref (gA K "Climb")) ∧ Binds K fd ps []
section
variable {X : Cx} {k : Nat} {m : Str} {ps : List Str} {sp : Sp} {p pos apos : Pos} {e o : Expr} {es : List Expr} {t : TA} {ta : TE}
theorem pe_mcal {pl : Sem Bool} (C : MCal X.prog X.w X.K X.mg X.base k m ps sp) (c : Cls X.K (gA X.K "Climb")) (hr : Room k X.A) (he : PE X o ta) (ha : PA X (e :: es) t)
    (hst : starEach (e :: es) X.env = (false, eval e X.env) :: starEach es X.env := by rfl) (hpl : (backTo pos (starEach es X.env)).any (·.1) = false := by rfl)
    (ht : eval (.Call (.Attribute o m apos) (e :: es) [] pos) X.env = (do
      let ov ← eval o X.env
      standAt apos.atName
      let (f, first) ← holding [ov] (getMethod ov m pl)
      callWith pos f first (backTo pos (starEach (e :: es) X.env)) (backToKw pos (keywordEach [] X.env))) := by rfl) :
    PE X (.Call (.Attribute o m apos) (e :: es) [] pos) (tMeth (gA X.K "Climb") m sp [] E0 ta t) := by
  obtain ⟨f, fd, F, hm, hb⟩ := C.ex
  exact pe_meth he c hm F hr hb .nil pass0 ha hst hpl ht
theorem pe_mcal0 {pl : Sem Bool} (C : MCal X.prog X.w X.K X.mg X.base k m ps sp) (c : Cls X.K (gA X.K "Climb")) (hr : Room k X.A) (he : PE X o ta)
    (ht : eval (.Call (.Attribute o m apos) [] [] pos) X.env = (do
      let ov ← eval o X.env
      standAt apos.atName
      let (f, first) ← holding [ov] (getMethod ov m pl)
      callWith pos f first (backTo pos (starEach [] X.env)) (backToKw pos (keywordEach [] X.env))) := by rfl) :
    PE X (.Call (.Attribute o m apos) [] [] pos) (tMeth (gA X.K "Climb") m sp [] E0 ta tNil) := by
  obtain ⟨f, fd, F, hm, hb⟩ := C.ex
  exact pe_meth0 he c hm F hr hb .nil pass0 ht
theorem pe_kcal (C : KCal X.prog X.w X.K X.mg X.base k ps sp) (hr : Room (k + 1) X.A) (hg : Gl X "Climb") (ha : PA X (e :: es) t)
    (he : starEach (e :: es) X.env = (false, eval e X.env) :: starEach es X.env := by rfl) (hpl : (backTo pos (starEach es X.env)).any (·.1) = false := by rfl) :
    PE X (.Call (.Name "Climb" p) (e :: es) [] pos) (tMake (gA X.K "Climb") sp [] E0 t) := by
  obtain ⟨f, fd, F, M, hm, hb⟩ := C.ex
  exact pe_make M F hr hg hm hb .nil pass0 ha (by decide) he hpl
end
section
variable {P : Program} {w : World} {K : PySem.W.Frag} {mg : Str → Option Value} {base : Heap}
theorem mcal_of {m : Str} {N ps : List Str} {k : Nat} {sp : Sp} (W : Wd K mg) (i : Nat) {d : He.DefD} (hd : fnK[i]? = some d) (hdf : d.dfl = [] := by rfl) (j : Nat) (hj : faK[j]? = some (.meth "Climb" m)) (ha : d.at_ = (("Climb" : Str), some m)) (S : FnScope N ps d.scope) (len : ∀ vs H Q E, sp vs H Q E → vs.length = ps.length)
    (hb : ∀ (kV doc pm : Value) (an : Option Addr) (cdv ct : Value) (us : List Value), us.length = ps.length → bindArgs (PySem.W.fnOf d.name d.qual d.params d.body d.scope .none kV doc pm an cdv ct) ⟨us, []⟩ = pure (ps.zip us))
    (hbody : ∀ (f : Addr) (cdv : Value) (A : Around) (outer : List Env) (s : Shared) (H : Hp) (vs : List V) (Q : VK) (E : XK), Room k (A.deeper (envOfC d.qual d.scope s.heap.objs.size f cdv)) → sp vs H Q E →
      ∃ t, PSs (cxOf CX0 P w K mg base N d.qual d.scope f cdv A outer s H E) d.body t ∧ t { nx := fun _ H' => Q .non H', rt := Q } (start N vs) H) : MCal P w K mg base (k + 1) m ps sp := by
  obtain ⟨fd, F⟩ := defK W.says i hd
  have e : d.dvs K = [] := by unfold He.DefD.dvs; rw [hdf]; rfl
  rw [e] at F
  refine ⟨He.fAd K d.at_, fd, F.ok S len (fun cdv A outer s H vs Q E hr h => hbody _ cdv A outer s H vs Q E hr h), ?_, F.bindsN hb⟩
  rw [ha]
  exact He.meth_ok (fact W.says j hj)
theorem kcal_of {N ps : List Str} {k : Nat} {sp : Sp} (W : Wd K mg) (i : Nat) {d : He.DefD} (hd : fnK[i]? = some d) (hdf : d.dfl = [] := by rfl) (j : Nat) (hj : faK[j]? = some (.mkr "Climb")) (ha : d.at_ = (("Climb" : Str), some ("__init__" : Str))) (S : FnScope N ps d.scope) (len : ∀ vs H Q E, sp vs H Q E → vs.length = ps.length)
    (hb : ∀ (kV doc pm : Value) (an : Option Addr) (cdv ct : Value) (us : List Value), us.length = ps.length → bindArgs (PySem.W.fnOf d.name d.qual d.params d.body d.scope .none kV doc pm an cdv ct) ⟨us, []⟩ = pure (ps.zip us))
    (hbody : ∀ (f : Addr) (cdv : Value) (A : Around) (outer : List Env) (s : Shared) (H : Hp) (vs : List V) (Q : VK) (E : XK), Room k (A.deeper (envOfC d.qual d.scope s.heap.objs.size f cdv)) → sp vs H Q E →
      ∃ t, PSs (cxOf CX0 P w K mg base N d.qual d.scope f cdv A outer s H E) d.body t ∧ t { nx := fun _ H' => Q .non H', rt := Q } (start N vs) H) : KCal P w K mg base (k + 1) ps sp := by
  obtain ⟨fd, F⟩ := defK W.says i hd
  have e : d.dvs K = [] := by unfold He.DefD.dvs; rw [hdf]; rfl
  rw [e] at F
  refine ⟨He.fAd K d.at_, fd, F.ok S len (fun cdv A outer s H vs Q E hr h => hbody _ cdv A outer s H vs Q E hr h), ?_, W.g_Climb, F.bindsN hb⟩
  rw [ha]
  exact He.mkr_ok (fact W.says j hj)
theorem cls_Climb (W : Wd K mg) : Cls K (gA K "Climb") := He.cls_ok (fact W.says 83 (f := .cls "Climb") rfl)
end
end K66

/-! ## S5 -/
set_option maxHeartbeats 4000000
namespace K66
open PySem PySem.Spec PyProof.Rows L2
inductive Cause where
  | rest (k : Nat)
  | batch (f s : Nat)
  | mixed (r : Nat)
  | free
def Cause.vals : Cause → List V
  | .rest k => [.str "rest", .int (k : Int)]
  | .batch f s => [.str "batch", .int (f : Int), .int (s : Int)]
  | .mixed r => [.str "mixed", .int (r : Int)]
  | .free => [.str "free"]
def CauseAt (H : Hp) (v : V) (c : Cause) : Prop := ∃ t, v = .ref t ∧ H t = some (.tup c.vals)
theorem CauseAt.up {H H' : Hp} {v : V} {c : Cause} (h : CauseAt H v c) (e : Ex H H') : CauseAt H' v c := let ⟨t, h1, h2⟩ := h; ⟨t, h1, e _ _ h2⟩
/-! ### the numbers and the causes -/
structure Tab where
  F : Nat → Int
  M : Nat → Nat → Int
  FC : Nat → Cause
  MC : Nat → Nat → Cause
/-- a cause that is told for a cost with r's dough at hand -/
def Expl (b : Bk) (g : List Dg) (M : Nat → Int) (r u : Nat) : Cause → Int → Prop
  | .rest k, t => u = k + 1 ∧ b.want k = 0 ∧ t = M k
  | .batch f s, t => r ≤ s ∧ s < b.n ∧ ∃ m y, 0 < m ∧ f + m = u ∧ csum (b.cost g r s) f m = some y ∧ t = M f + (b.light s + y)
  | _, _ => False
/-- of some candidates the least -/
def Least {α : Type} (S : α → Int → Prop) : Option (α × Int) → Prop
  | none => ∀ c t, ¬ S c t
  | some (c, t) => S c t ∧ ∀ c' t', S c' t' → t ≤ t'
def ComeOk (b : Bk) (g : List Dg) (M : Nat → Int) (r u : Nat) : Option (Cause × Int) → Prop := Least (Expl b g M r u)
def valO : Option (Cause × Int) → Option Int := fun o => o.map (·.2)
def CauseP : Option (Cause × Int) → PP
  | none => Is .non
  | some (c, _) => NewT c.vals
instance {o : Option (Cause × Int)} : FP (CauseP o) := by
  cases o with
  | none => exact inferInstanceAs (FP (Is _))
  | some p => exact inferInstanceAs (FP (NewT _))
def ComeP (b : Bk) (g : List Dg) (M : Nat → Int) (r u : Nat) : PP := fun H1 v H2 => ∃ o, ComeOk b g M r u o ∧ NewTA [Is (vO (valO o)), CauseP o] H1 v H2
instance {b : Bk} {g : List Dg} {M : Nat → Int} {r u : Nat} : FP (ComeP b g M r u) := ⟨fun ⟨o, h, p⟩ d f => ⟨o, h, FP.fr p d f⟩⟩
structure GoodV (b : Bk) (g : List Dg) (D : Tab) (v : Nat) : Prop where
  zero : v = 0 → D.F v = 0
  fexp : 0 < v → (∃ k, D.FC v = .rest k ∧ v = k + 1 ∧ b.want k = 0 ∧ D.F v = D.F k) ∨ ∃ r, r < b.n ∧ D.FC v = .mixed r ∧ D.F v = D.M r v ∧ Expl b g (D.M r) r v (D.MC r v) (D.M r v)
  mexp : ∀ r, r < b.n → (D.MC r v = .free ∧ D.M r v = D.F v + mixD g r) ∨ Expl b g (D.M r) r v (D.MC r v) (D.M r v)
  low : ∀ r, r < b.n → D.F v ≤ D.M r v
  high : ∀ r, r < b.n → D.M r v ≤ D.F v + mixD g r
  frest : ∀ k, v = k + 1 → b.want k = 0 → D.F v ≤ D.F k
  least : ∀ r, r < b.n → ∀ c t, Expl b g (D.M r) r v c t → D.M r v ≤ t
def Good (b : Bk) (g : List Dg) (D : Tab) (u : Nat) : Prop := ∀ v, v < u → GoodV b g D v
/-! ### a Climb in the heap -/
structure Lay where
  a : Addr
  dx : Addr
  pl : Addr
  pr : Addr
  pm : Addr
  pb : Addr
  FR : Addr
  FF : Addr
  MX : Addr
  MF : Addr
  mx : Nat → Addr
  mf : Nat → Addr
def Lay.fs (L : Lay) : List (Str × V) := [("lights", .ref L.pl), ("rows", .ref L.pr), ("mixes", .ref L.pm), ("batches", .ref L.pb), ("free", .ref L.FR), ("mixed", .ref L.MX), ("free_from", .ref L.FF), ("mixed_from", .ref L.MF)]
def BatchesAt (H : Hp) (p : Addr) (b : Bk) (g : List Dg) : Prop := ∃ us, H p = some (.lst us) ∧ us.length = b.n ∧ ∀ r, r < b.n → ∃ q ws, us[r]? = some (.ref q) ∧ H q = some (.lst ws) ∧ ws.length = b.n ∧
  ∀ s, s < b.n → ∃ q', ws[s]? = some (.ref q') ∧ H q' = some (.lst ((List.range b.n).map fun d => vO (b.cost g r s d)))
theorem BatchesAt.up {H H' : Hp} {p : Addr} {b : Bk} {g : List Dg} (h : BatchesAt H p b g) (e : Ex H H') : BatchesAt H' p b g :=
  let ⟨us, h1, h2, h3⟩ := h
  ⟨us, e _ _ h1, h2, fun r hr => let ⟨q, ws, q1, q2, q3, q4⟩ := h3 r hr; ⟨q, ws, q1, e _ _ q2, q3, fun s hs => let ⟨q', w1, w2⟩ := q4 s hs; ⟨q', w1, e _ _ w2⟩⟩⟩
structure ClimbK (K : PySem.W.Frag) : Prop where
  cls : Cls K (gA K "Climb")
  lights : NoAttr K (gA K "Climb") "lights"
  rows : NoAttr K (gA K "Climb") "rows"
  mixes : NoAttr K (gA K "Climb") "mixes"
  batches : NoAttr K (gA K "Climb") "batches"
  free : NoAttr K (gA K "Climb") "free"
  mixed : NoAttr K (gA K "Climb") "mixed"
  free_from : NoAttr K (gA K "Climb") "free_from"
  mixed_from : NoAttr K (gA K "Climb") "mixed_from"
structure Fix (K : PySem.W.Frag) (b : Bk) (g : List Dg) (L : Lay) (H : Hp) : Prop where
  kit : ClimbK K
  ins : H L.a = some (.ins (gA K "Climb") L.dx L.fs)
  lights : H L.pl = some (.lst (b.lights.map V.int))
  rows : RowsAt H L.pr b.rows
  mixes : H L.pm = some (.lst ((List.range b.n).map fun r => V.int (mixD g r)))
  batches : BatchesAt H L.pb b g
  MX : H L.MX = some (.lst ((List.range b.n).map fun r => V.ref (L.mx r)))
  MF : H L.MF = some (.lst ((List.range b.n).map fun r => V.ref (L.mf r)))
theorem Fix.up {K : PySem.W.Frag} {b : Bk} {g : List Dg} {L : Lay} {H H' : Hp} (h : Fix K b g L H) (e : Ex H H') : Fix K b g L H' := ⟨h.kit, e _ _ h.ins, e _ _ h.lights, h.rows.up e, e _ _ h.mixes, h.batches.up e, e _ _ h.MX, e _ _ h.MF⟩
/-- the lists that grow are of different places -/
structure Off (L : Lay) (n : Nat) : Prop where
  rf : L.FR ≠ L.FF
  rx : ∀ r, r < n → L.FR ≠ L.mx r
  ry : ∀ r, r < n → L.FR ≠ L.mf r
  fx : ∀ r, r < n → L.FF ≠ L.mx r
  fy : ∀ r, r < n → L.FF ≠ L.mf r
  xy : ∀ r q, r < n → q < n → L.mx r ≠ L.mf q
  xx : ∀ r q, r < n → q < n → L.mx r = L.mx q → r = q
  yy : ∀ r q, r < n → q < n → L.mf r = L.mf q → r = q
/-- Hs stands; the lists of S grow -/
structure Live (Hs : Hp) (S : Addr → Option (List V)) (H : Hp) : Prop where
  ex : Ex Hs H
  off : ∀ a xs, S a = some xs → Hs a = none
  at_ : ∀ a xs, S a = some xs → H a = some (.lst xs)
def numV (u : Nat) (f : Nat → Int) : List V := (List.range u).map fun i => V.int (f i)
structure Rep (L : Lay) (n : Nat) (D : Tab) (u w : Nat) (x : Nat → Nat) (S : Addr → Option (List V)) (Hs : Hp) : Prop where
  F : S L.FR = some (numV u D.F)
  FC : ∃ vs, S L.FF = some vs ∧ vs.length = w ∧ ∀ i v, 0 < i → vs[i]? = some v → CauseAt Hs v (D.FC i)
  M : ∀ r, r < n → S (L.mx r) = some (numV (x r) (D.M r))
  MC : ∀ r, r < n → ∃ vs, S (L.mf r) = some vs ∧ vs.length = x r ∧ ∀ i v, vs[i]? = some v → CauseAt Hs v (D.MC r i)
/-! ### promises -/
def sp_Climb_come_to (K : PySem.W.Frag) : Sp := spOf fun vs H P => ∃ (b : Bk) (g : List Dg) (L : Lay) (r : Nat) (u : Nat) (M : Nat → Int), vs = [.ref L.a, .int (r : Int), .int (u : Int)] ∧ b.ok ∧ DgOk b g ∧ Fix K b g L H ∧
  H (L.mx r) = some (.lst (numV u M)) ∧ r < b.n ∧ u ≤ b.n ∧ P = ComeP b g M r u
def sp_Climb_step (K : PySem.W.Frag) : Sp := fun vs H Q _ => ∃ (b : Bk) (g : List Dg) (L : Lay) (u : Nat) (D : Tab) (S : Addr → Option (List V)) (Hs : Hp), vs = [.ref L.a, .int (u : Int)] ∧ b.ok ∧ DgOk b g ∧ Fix K b g L Hs ∧ Off L b.n ∧ Live Hs S H ∧ u ≤ b.n ∧
  Rep L b.n D (max 1 u) (max 1 u) (fun _ => u) S Hs ∧ D.F 0 = 0 ∧ Good b g D u ∧
  ∀ (D' : Tab) (S' : Addr → Option (List V)) (Hs' H' : Hp), Ex Hs Hs' → Live Hs' S' H' → Rep L b.n D' (u + 1) (u + 1) (fun _ => u + 1) S' Hs' → D'.F 0 = 0 → Good b g D' (u + 1) → Q .non H'
/-- one lot for each want -/
structure IsPlan (b : Bk) (g : List Dg) (ls : List Lot) : Prop where
  ok : ∀ l ∈ ls, LotOk b l
  short : ls.length ≤ 40
  of : ∃ rs ss : Nat → Nat, ls.Perm (((List.range b.n).filter fun d => decide (0 < b.want d)).map fun d => ⟨rs d, ss d, d, b.want d⟩) ∧ ∀ d, d < b.n → 0 < b.want d → rs d ≤ ss d ∧ ss d < b.n ∧ ∃ p, b.price (ss d) d = some p
def PlanP (b : Bk) (g : List Dg) (c : Int) : PP := fun _ v H2 => ∃ p ls, v = .ref p ∧ PlanAt H2 p ls ∧ IsPlan b g ls ∧ planCost b g ls ≤ c
instance {b : Bk} {g : List Dg} {c : Int} : UP (PlanP b g c) := ⟨fun ⟨p, ls, h1, h2, h3⟩ e => ⟨p, ls, h1, h2.up e, h3⟩, fun h _ => h⟩
def sp_Climb_lots (K : PySem.W.Frag) : Sp := spOf fun vs H P => ∃ (b : Bk) (g : List Dg) (L : Lay) (D : Tab) (S : Addr → Option (List V)) (Hs : Hp), vs = [.ref L.a] ∧ b.ok ∧ DgOk b g ∧ b.n ≤ 12 ∧ Fix K b g L Hs ∧ Live Hs S H ∧
  Rep L b.n D (b.n + 1) (b.n + 1) (fun _ => b.n + 1) S Hs ∧ D.F 0 = 0 ∧ Good b g D (b.n + 1) ∧ P = PlanP b g (D.F b.n)
def sp_Climb_init (K : PySem.W.Frag) : Sp := fun vs H Q _ => ∃ (pb : Addr) (b : Bk) (pd : Addr) (g : List Dg) (a dx : Addr) (H0 : Hp), vs = [.ref a, .ref pb, .ref pd] ∧ BkAt H0 pb b ∧ b.ok ∧ DgsAt H0 pd g ∧ DgOk b g ∧ ClimbK K ∧ Ex H0 H ∧ H0 a = none ∧ H a = some (.ins (gA K "Climb") dx []) ∧
  ∀ (L : Lay) (D : Tab) (S : Addr → Option (List V)) (Hs H' : Hp), L.a = a → Ex H0 Hs → Fix K b g L Hs → Off L b.n → Live Hs S H' → Rep L b.n D 1 1 (fun _ => 0) S Hs → D.F 0 = 0 → Q .non H'
end K66

/-! ## D5 -/
set_option maxHeartbeats 4000000
namespace K66
open PySem PySem.Spec PyProof.Rows L2
/-! Climb.__init__ -/
abbrev N_Climb_init : List Str := ["self", "bakery", "doughs", "days", "mix", "dough", "hold", "mixed", "baked"]
abbrev p_Climb_init : List Str := ["self", "bakery", "doughs"]
theorem sc_Climb_init : FnScope N_Climb_init p_Climb_init (defScope s_Climb_init) := ⟨rfl, rfl, rfl, by decide +kernel, rfl, by decide +kernel, by decide +kernel⟩
def t_Climb_init (K : PySem.W.Frag) : TS := tSeq (sFld K (tVar 0) (tOp (rIx K) (tVar 1) (tC (.int 0))) "lights") (tSeq (sFld K (tVar 0) (tOp (rIx K) (tOp (rIx K) (tOp (rIx K) (tVar 1) (tC (.int 2))) (tC (.int 0))) (tC (.int 0))) "rows") (tSeq (sFld K (tVar 0) (tLc (iList K (tVar 2)) (gTup K 3 (gCons (gName 4) (gCons (gName 5) (gCons (gName 6) (gNil))))) (tYes) (tVar 4) [4, 5, 6]) "mixes") (tSeq (tAsg (tCB (rListR) (tCons (tCB rRange (tCons (tCB (rLenS K) (tCons (tFld K (tVar 0) "lights") (tNil))) (tNil))) (tNil))) (gName 3)) (tSeq (sFld K (tVar 0) (tLc (iList K (tVar 3)) (gName 7) (tYes) (tLc (iList K (tVar 3)) (gName 8) (tYes) (tCall (sp_batch_costs K) [] E0 (tCons (tVar 1) (tCons (tVar 2) (tCons (tVar 7) (tCons (tVar 8) (tNil)))))) [8]) [7]) "batches") (tSeq (sFld K (tVar 0) (tLst (tCons (tC (.int 0)) (tNil))) "free") (tSeq (sFld K (tVar 0) (tLc (iList K (tFld K (tVar 0) "mixes")) (gName 4) (tYes) (tLst (tNil)) [4]) "mixed") (tSeq (sFld K (tVar 0) (tLst (tCons (tC .non) (tNil))) "free_from") (tSeq (sFld K (tVar 0) (tLc (iList K (tFld K (tVar 0) "mixes")) (gName 4) (tYes) (tLst (tNil)) [4]) "mixed_from") (tNext)))))))))
theorem der_Climb_init {P : Program} {w : World} {K : PySem.W.Frag} {mg : Str → Option Value} {base : Heap} (W : Wd K mg) (C_batch_costs : Cal P w K mg base CX0 5 "batch_costs" p_batch_costs (sp_batch_costs K)) {f : Addr} {cdv : Value} {A : Around} {outer : List Env} {s : Shared} {H : Hp} {E : XK} (hr : Room 5 (A.deeper (envOfC "Climb.__init__" (defScope s_Climb_init) s.heap.objs.size f cdv))) :
    PSs (cxOf CX0 P w K mg base N_Climb_init "Climb.__init__" (defScope s_Climb_init) f cdv A outer s H E).nox (defBody s_Climb_init) (t_Climb_init K) :=
  pss_cons (ps_fld (pv 0) (pe_ix ix_seq (pv 1) (pe_int) (fun _ _ => rfl)) rfl) (pss_cons (ps_fld (pv 0) (pe_ix ix_seq (pe_ix ix_seq (pe_ix ix_seq (pv 1) (pe_int) (fun _ _ => rfl)) (pe_int) (fun _ _ => rfl)) (pe_int) (fun _ _ => rfl)) rfl) (pss_cons (ps_fld (pv 0) (pe_lc (own := [("mix", 4), ("dough", 5), ("hold", 6)]) (by rfl) sc_Climb_init.nd (pi_list (pv 2)) (blkOk_by (own := [("mix", 4), ("dough", 5), ("hold", 6)]) (N := N_Climb_init) (sc := defScope s_Climb_init) (by decide +kernel)) (fun _ _ _ _ _ => pg_tup (by rfl) (pgs_cons (pg_name (i := 4) sc_Climb_init.nd rfl (by first | exact Or.inl rfl | exact Or.inr rfl)) (pgs_cons (pg_name (i := 5) sc_Climb_init.nd rfl (by first | exact Or.inl rfl | exact Or.inr rfl)) (pgs_cons (pg_name (i := 6) sc_Climb_init.nd rfl (by first | exact Or.inl rfl | exact Or.inr rfl)) (pgs_nil))))) (fun _ _ _ _ _ => pts_nil) (fun _ _ _ _ _ => pv 4)) rfl) (pss_cons (ps_set (i := 3) sc_Climb_init.nd rfl (by first | exact Or.inl rfl | exact Or.inr rfl) (pe_callTy (cr_listRng (by rfl)) (by rfl) W.b_list (by decide +kernel) (pa_cons (pe_callTy cr_range1 (by rfl) W.b_range (by decide +kernel) (pa_cons (pe_callB call_len_seq (by rfl) W.b_len PySem.boot_len (pa_cons (pe_fld (pv 0) rfl) (pa_nil))) (pa_nil))) (pa_nil)))) (pss_cons (ps_fld (pv 0) (pe_lc (own := [("mixed", 7)]) (by rfl) sc_Climb_init.nd (pi_list (pv 3)) (blkOk_by (own := [("mixed", 7)]) (N := N_Climb_init) (sc := defScope s_Climb_init) (by decide +kernel)) (fun _ _ _ _ _ => pg_name (i := 7) sc_Climb_init.nd rfl (by first | exact Or.inl rfl | exact Or.inr rfl)) (fun _ _ _ _ _ => pts_nil) (fun _ _ _ _ _ => pe_lc (own := [("baked", 8)]) (by rfl) sc_Climb_init.nd (pi_list (pv 3)) (blkOk_by (own := [("baked", 8)]) (N := N_Climb_init) (sc := relS _ (defScope s_Climb_init)) (by decide +kernel)) (fun _ _ _ _ _ => pg_name (i := 8) sc_Climb_init.nd rfl (by first | exact Or.inl rfl | exact Or.inr rfl)) (fun _ _ _ _ _ => pts_nil) (fun _ _ _ _ _ => pe_cal C_batch_costs (hr.mono (by decide)) (by rfl) (pa_cons (pv 1) (pa_cons (pv 2) (pa_cons (pv 7) (pa_cons (pv 8) (pa_nil)))))))) rfl) (pss_cons (ps_fld (pv 0) (pe_lst (pa_cons (pe_int) (pa_nil))) rfl) (pss_cons (ps_fld (pv 0) (pe_lc (own := [("mix", 4)]) (by rfl) sc_Climb_init.nd (pi_list (pe_fld (pv 0) rfl)) (blkOk_by (own := [("mix", 4)]) (N := N_Climb_init) (sc := defScope s_Climb_init) (by decide +kernel)) (fun _ _ _ _ _ => pg_name (i := 4) sc_Climb_init.nd rfl (by first | exact Or.inl rfl | exact Or.inr rfl)) (fun _ _ _ _ _ => pts_nil) (fun _ _ _ _ _ => pe_lst (pa_nil))) rfl) (pss_cons (ps_fld (pv 0) (pe_lst (pa_cons (pe_non) (pa_nil))) rfl) (pss_cons (ps_fld (pv 0) (pe_lc (own := [("mix", 4)]) (by rfl) sc_Climb_init.nd (pi_list (pe_fld (pv 0) rfl)) (blkOk_by (own := [("mix", 4)]) (N := N_Climb_init) (sc := defScope s_Climb_init) (by decide +kernel)) (fun _ _ _ _ _ => pg_name (i := 4) sc_Climb_init.nd rfl (by first | exact Or.inl rfl | exact Or.inr rfl)) (fun _ _ _ _ _ => pts_nil) (fun _ _ _ _ _ => pe_lst (pa_nil))) rfl) (pss_nil)))))))))
/-! Climb.come_to -/
abbrev N_Climb_come_to : List Str := ["self", "mixed", "until", "best", "cause", "baked", "total", "first", "cost"]
abbrev p_Climb_come_to : List Str := ["self", "mixed", "until"]
theorem sc_Climb_come_to : FnScope N_Climb_come_to p_Climb_come_to (defScope s_Climb_come_to) := ⟨rfl, rfl, rfl, by decide +kernel, rfl, by decide +kernel, by decide +kernel⟩
def t_Climb_come_to (K : PySem.W.Frag) : TS := tSeq (tAsg (tC .non) (gName 3)) (tSeq (tAsg (tC .non) (gName 4)) (tSeq (tIfS (tAnd (tTest (tOp rGtI (tVar 2) (tC (.int 0)))) (tTest (tOp rEq (tOp (rIx K) (tOp (rIx K) (tFld K (tVar 0) "rows") (tOp rSubI (tVar 2) (tC (.int 1)))) (tC (.int 0))) (tC (.int 0))))) (tSeq (tAsg (tOp (rIx K) (tOp (rIx K) (tFld K (tVar 0) "mixed") (tVar 1)) (tOp rSubI (tVar 2) (tC (.int 1)))) (gName 3)) (tSeq (tAsg (tTup (tCons (tC (.str "rest")) (tCons (tOp rSubI (tVar 2) (tC (.int 1))) (tNil)))) (gName 4)) (tNext))) (tNext)) (tSeq (tFor (iRng2 (tCons (tVar 1) (tCons (tCB (rLenS K) (tCons (tFld K (tVar 0) "lights") (tNil))) (tNil)))) (gName 5) (tSeq (tAsg (tOp (rIx K) (tFld K (tVar 0) "lights") (tVar 5)) (gName 6)) (tSeq (tFor (iRng3 (tCons (tOp rSubI (tVar 2) (tC (.int 1))) (tCons (tUn rNegI (tC (.int 1))) (tCons (tUn rNegI (tC (.int 1))) (tNil))))) (gName 7) (tSeq (tAsg (tOp (rIx K) (tOp (rIx K) (tOp (rIx K) (tFld K (tVar 0) "batches") (tVar 1)) (tVar 5)) (tVar 7)) (gName 8)) (tSeq (tIfS (tTest (tOp rIsN (tVar 8) (tC .non))) (tSeq (tBreak) (tNext)) (tNext)) (tSeq (tAug 6 (tVar 8) (ipI fun i j => i + j)) (tSeq (tIfS (tOr (tTest (tOp rIsN (tVar 3) (tC .non))) (tTest (tOp rLtI (tOp rAddI (tOp (rIx K) (tOp (rIx K) (tFld K (tVar 0) "mixed") (tVar 1)) (tVar 7)) (tVar 6)) (tVar 3)))) (tSeq (tAsg (tOp rAddI (tOp (rIx K) (tOp (rIx K) (tFld K (tVar 0) "mixed") (tVar 1)) (tVar 7)) (tVar 6)) (gName 3)) (tSeq (tAsg (tTup (tCons (tC (.str "batch")) (tCons (tVar 7) (tCons (tVar 5) (tNil))))) (gName 4)) (tNext))) (tNext)) (tNext)))))) (tNext)))) (tSeq (tRet (tTup (tCons (tVar 3) (tCons (tVar 4) (tNil))))) (tNext)))))
theorem der_Climb_come_to {P : Program} {w : World} {K : PySem.W.Frag} {mg : Str → Option Value} {base : Heap} (W : Wd K mg)  {f : Addr} {cdv : Value} {A : Around} {outer : List Env} {s : Shared} {H : Hp} {E : XK} (hr : Room 0 (A.deeper (envOfC "Climb.come_to" (defScope s_Climb_come_to) s.heap.objs.size f cdv))) :
    PSs (cxOf CX0 P w K mg base N_Climb_come_to "Climb.come_to" (defScope s_Climb_come_to) f cdv A outer s H E).nox (defBody s_Climb_come_to) (t_Climb_come_to K) :=
  pss_cons (ps_set (i := 3) sc_Climb_come_to.nd rfl (by first | exact Or.inl rfl | exact Or.inr rfl) (pe_non)) (pss_cons (ps_set (i := 4) sc_Climb_come_to.nd rfl (by first | exact Or.inl rfl | exact Or.inr rfl) (pe_non)) (pss_cons (ps_if (PW.pt (pw_and (pt_cmpR op_gt (pv 2) (pe_int) (nomark _)) (pw_and1 (pt_cmpR op_eq (pe_ix ix_seq (pe_ix ix_seq (pe_fld (pv 0) rfl) (pe_op op_sub (pv 2) (pe_int)) (fun _ _ => rfl)) (pe_int) (fun _ _ => rfl)) (pe_int) (nomark _))))) (pss_cons (ps_set (i := 3) sc_Climb_come_to.nd rfl (by first | exact Or.inl rfl | exact Or.inr rfl) (pe_ix ix_seq (pe_ix ix_seq (pe_fld (pv 0) rfl) (pv 1) (fun _ _ => rfl)) (pe_op op_sub (pv 2) (pe_int)) (fun _ _ => rfl))) (pss_cons (ps_set (i := 4) sc_Climb_come_to.nd rfl (by first | exact Or.inl rfl | exact Or.inr rfl) (pe_tup (pa_cons (pe_str) (pa_cons (pe_op op_sub (pv 2) (pe_int)) (pa_nil))))) (pss_nil))) (pss_nil)) (pss_cons (ps_for PassesOwn.never (by rfl) (pi_range2 (by rfl) W.b_range (pa_cons (pv 1) (pa_cons (pe_callB call_len_seq (by rfl) W.b_len PySem.boot_len (pa_cons (pe_fld (pv 0) rfl) (pa_nil))) (pa_nil)))) (pg_name (i := 5) sc_Climb_come_to.nd rfl (by first | exact Or.inl rfl | exact Or.inr rfl)) (pss_cons (ps_set (i := 6) sc_Climb_come_to.nd rfl (by first | exact Or.inl rfl | exact Or.inr rfl) (pe_ix ix_seq (pe_fld (pv 0) rfl) (pv 5) (fun _ _ => rfl))) (pss_cons (ps_for PassesOwn.never (by rfl) (pi_range3 (by rfl) W.b_range (pa_cons (pe_op op_sub (pv 2) (pe_int)) (pa_cons (pe_un un_neg (pe_int)) (pa_cons (pe_un un_neg (pe_int)) (pa_nil))))) (pg_name (i := 7) sc_Climb_come_to.nd rfl (by first | exact Or.inl rfl | exact Or.inr rfl)) (pss_cons (ps_set (i := 8) sc_Climb_come_to.nd rfl (by first | exact Or.inl rfl | exact Or.inr rfl) (pe_ix ix_seq (pe_ix ix_seq (pe_ix ix_seq (pe_fld (pv 0) rfl) (pv 1) (fun _ _ => rfl)) (pv 5) (fun _ _ => rfl)) (pv 7) (fun _ _ => rfl))) (pss_cons (ps_if (pt_cmpR op_isN (pv 8) (pe_non) (nomark _)) (pss_cons (ps_break) (pss_nil)) (pss_nil)) (pss_cons (ps_aug (i := 6) sc_Climb_come_to.nd rfl (by first | exact Or.inl rfl | exact Or.inr rfl) (pv 8) ip_add) (pss_cons (ps_if (PW.pt (pw_or (pt_cmpR op_isN (pv 3) (pe_non) (nomark _)) (pw_or1 (pt_cmpR op_lt (pe_op op_add (pe_ix ix_seq (pe_ix ix_seq (pe_fld (pv 0) rfl) (pv 1) (fun _ _ => rfl)) (pv 7) (fun _ _ => rfl)) (pv 6)) (pv 3) (nomark _))))) (pss_cons (ps_set (i := 3) sc_Climb_come_to.nd rfl (by first | exact Or.inl rfl | exact Or.inr rfl) (pe_op op_add (pe_ix ix_seq (pe_ix ix_seq (pe_fld (pv 0) rfl) (pv 1) (fun _ _ => rfl)) (pv 7) (fun _ _ => rfl)) (pv 6))) (pss_cons (ps_set (i := 4) sc_Climb_come_to.nd rfl (by first | exact Or.inl rfl | exact Or.inr rfl) (pe_tup (pa_cons (pe_str) (pa_cons (pv 7) (pa_cons (pv 5) (pa_nil)))))) (pss_nil))) (pss_nil)) (pss_nil)))))) (pss_nil)))) (pss_cons (ps_ret (pe_tup (pa_cons (pv 3) (pa_cons (pv 4) (pa_nil))))) (pss_nil)))))
/-! Climb.step -/
abbrev N_Climb_step : List Str := ["self", "until", "come", "best", "cause", "mixed", "cost", "way", "begun"]
abbrev p_Climb_step : List Str := ["self", "until"]
theorem sc_Climb_step : FnScope N_Climb_step p_Climb_step (defScope s_Climb_step) := ⟨rfl, rfl, rfl, by decide +kernel, rfl, by decide +kernel, by decide +kernel⟩
def t_Climb_step (K : PySem.W.Frag) : TS := tSeq (tAsg (tLc (iRng1 (tCons (tCB (rLenS K) (tCons (tFld K (tVar 0) "mixes") (tNil))) (tNil))) (gName 5) (tYes) (tMeth (gA K "Climb") "come_to" (sp_Climb_come_to K) [] E0 (tVar 0) (tCons (tVar 5) (tCons (tVar 1) (tNil)))) [5]) (gName 2)) (tSeq (tIfS (tTest (tOp rGtI (tVar 1) (tC (.int 0)))) (tSeq (tAsg (tC .non) (gName 3)) (tSeq (tAsg (tC .non) (gName 4)) (tSeq (tIfS (tTest (tOp rEq (tOp (rIx K) (tOp (rIx K) (tFld K (tVar 0) "rows") (tOp rSubI (tVar 1) (tC (.int 1)))) (tC (.int 0))) (tC (.int 0)))) (tSeq (tAsg (tOp (rIx K) (tFld K (tVar 0) "free") (tOp rSubI (tVar 1) (tC (.int 1)))) (gName 3)) (tSeq (tAsg (tTup (tCons (tC (.str "rest")) (tCons (tOp rSubI (tVar 1) (tC (.int 1))) (tNil)))) (gName 4)) (tNext))) (tNext)) (tSeq (tFor (iEnum K (tCons (tVar 2) (tNil))) (gTup K 2 (gCons (gName 5) (gCons (gTup K 2 (gCons (gName 6) (gCons (gName 7) (gNil)))) (gNil)))) (tSeq (tIfS (tAnd (tTest (tOp rNotN (tVar 6) (tC .non))) (tOr (tTest (tOp rIsN (tVar 3) (tC .non))) (tTest (tOp rLtI (tVar 6) (tVar 3))))) (tSeq (tAsg (tVar 6) (gName 3)) (tSeq (tAsg (tTup (tCons (tC (.str "mixed")) (tCons (tVar 5) (tNil)))) (gName 4)) (tNext))) (tNext)) (tNext))) (tSeq (tDrop (tBM K "list" rAppend (tFld K (tVar 0) "free") (tCons (tVar 3) (tNil)))) (tSeq (tDrop (tBM K "list" rAppend (tFld K (tVar 0) "free_from") (tCons (tVar 4) (tNil)))) (tNext))))))) (tNext)) (tSeq (tFor (iEnum K (tCons (tVar 2) (tNil))) (gTup K 2 (gCons (gName 5) (gCons (gTup K 2 (gCons (gName 6) (gCons (gName 7) (gNil)))) (gNil)))) (tSeq (tAsg (tOp rAddI (tOp (rIx K) (tFld K (tVar 0) "free") (tVar 1)) (tOp (rIx K) (tFld K (tVar 0) "mixes") (tVar 5))) (gName 8)) (tSeq (tIfS (tOr (tTest (tOp rIsN (tVar 6) (tC .non))) (tTest (tOp rLtI (tVar 8) (tVar 6)))) (tSeq (tAsg (tVar 8) (gName 6)) (tSeq (tAsg (tTup (tCons (tC (.str "free")) (tNil))) (gName 7)) (tNext))) (tNext)) (tSeq (tDrop (tBM K "list" rAppend (tOp (rIx K) (tFld K (tVar 0) "mixed") (tVar 5)) (tCons (tVar 6) (tNil)))) (tSeq (tDrop (tBM K "list" rAppend (tOp (rIx K) (tFld K (tVar 0) "mixed_from") (tVar 5)) (tCons (tVar 7) (tNil)))) (tNext)))))) (tNext)))
theorem der_Climb_step {P : Program} {w : World} {K : PySem.W.Frag} {mg : Str → Option Value} {base : Heap} (W : Wd K mg) (C_come_to : MCal P w K mg base 1 "come_to" p_Climb_come_to (sp_Climb_come_to K)) {f : Addr} {cdv : Value} {A : Around} {outer : List Env} {s : Shared} {H : Hp} {E : XK} (hr : Room 1 (A.deeper (envOfC "Climb.step" (defScope s_Climb_step) s.heap.objs.size f cdv))) :
    PSs (cxOf CX0 P w K mg base N_Climb_step "Climb.step" (defScope s_Climb_step) f cdv A outer s H E).nox (defBody s_Climb_step) (t_Climb_step K) :=
  pss_cons (ps_setLc (i := 2) (own := [("mixed", 5)]) (by rfl) sc_Climb_step.nd rfl rfl (sw_true rfl rfl rfl (by decide +kernel)) (pi_range1 (by rfl) W.b_range (pa_cons (pe_callB call_len_seq (by rfl) W.b_len PySem.boot_len (pa_cons (pe_fld (pv 0) rfl) (pa_nil))) (pa_nil))) (blkOk_by (own := [("mixed", 5)]) (N := N_Climb_step) (sc := defScope s_Climb_step) (by decide +kernel)) (fun _ _ _ _ _ => pg_name (i := 5) sc_Climb_step.nd rfl (by first | exact Or.inl rfl | exact Or.inr rfl)) (fun _ _ _ _ _ => pts_nil) (fun _ _ _ _ _ => pe_mcal C_come_to (cls_Climb W) (hr.mono (by decide)) (pv 0) (pa_cons (pv 5) (pa_cons (pv 1) (pa_nil))))) (pss_cons (ps_if (pt_cmpR op_gt (pv 1) (pe_int) (nomark _)) (pss_cons (ps_set (i := 3) sc_Climb_step.nd rfl (by first | exact Or.inl rfl | exact Or.inr rfl) (pe_non)) (pss_cons (ps_set (i := 4) sc_Climb_step.nd rfl (by first | exact Or.inl rfl | exact Or.inr rfl) (pe_non)) (pss_cons (ps_if (pt_cmpR op_eq (pe_ix ix_seq (pe_ix ix_seq (pe_fld (pv 0) rfl) (pe_op op_sub (pv 1) (pe_int)) (fun _ _ => rfl)) (pe_int) (fun _ _ => rfl)) (pe_int) (nomark _)) (pss_cons (ps_set (i := 3) sc_Climb_step.nd rfl (by first | exact Or.inl rfl | exact Or.inr rfl) (pe_ix ix_seq (pe_fld (pv 0) rfl) (pe_op op_sub (pv 1) (pe_int)) (fun _ _ => rfl))) (pss_cons (ps_set (i := 4) sc_Climb_step.nd rfl (by first | exact Or.inl rfl | exact Or.inr rfl) (pe_tup (pa_cons (pe_str) (pa_cons (pe_op op_sub (pv 1) (pe_int)) (pa_nil))))) (pss_nil))) (pss_nil)) (pss_cons (ps_for PassesOwn.never (by rfl) (pi_enum (by rfl) W.b_enumerate (pa_cons (pv 2) (pa_nil))) (pg_tup (by rfl) (pgs_cons (pg_name (i := 5) sc_Climb_step.nd rfl (by first | exact Or.inl rfl | exact Or.inr rfl)) (pgs_cons (pg_tup (by rfl) (pgs_cons (pg_name (i := 6) sc_Climb_step.nd rfl (by first | exact Or.inl rfl | exact Or.inr rfl)) (pgs_cons (pg_name (i := 7) sc_Climb_step.nd rfl (by first | exact Or.inl rfl | exact Or.inr rfl)) (pgs_nil)))) (pgs_nil)))) (pss_cons (ps_if (PW.pt (pw_and (pt_cmpR op_notN (pv 6) (pe_non) (nomark _)) (pw_and1 (PW.pt (pw_or (pt_cmpR op_isN (pv 3) (pe_non) (nomark _)) (pw_or1 (pt_cmpR op_lt (pv 6) (pv 3) (nomark _)))))))) (pss_cons (ps_set (i := 3) sc_Climb_step.nd rfl (by first | exact Or.inl rfl | exact Or.inr rfl) (pv 6)) (pss_cons (ps_set (i := 4) sc_Climb_step.nd rfl (by first | exact Or.inl rfl | exact Or.inr rfl) (pe_tup (pa_cons (pe_str) (pa_cons (pv 5) (pa_nil))))) (pss_nil))) (pss_nil)) (pss_nil))) (pss_cons (ps_expr (pe_bm PySem.F.plainAttrs_list PySem.F.slot_list_append PySem.F.type_list_append mt_append (pe_fld (pv 0) rfl) (pa_cons (pv 3) (pa_nil)))) (pss_cons (ps_expr (pe_bm PySem.F.plainAttrs_list PySem.F.slot_list_append PySem.F.type_list_append mt_append (pe_fld (pv 0) rfl) (pa_cons (pv 4) (pa_nil)))) (pss_nil))))))) (pss_nil)) (pss_cons (ps_for PassesOwn.never (by rfl) (pi_enum (by rfl) W.b_enumerate (pa_cons (pv 2) (pa_nil))) (pg_tup (by rfl) (pgs_cons (pg_name (i := 5) sc_Climb_step.nd rfl (by first | exact Or.inl rfl | exact Or.inr rfl)) (pgs_cons (pg_tup (by rfl) (pgs_cons (pg_name (i := 6) sc_Climb_step.nd rfl (by first | exact Or.inl rfl | exact Or.inr rfl)) (pgs_cons (pg_name (i := 7) sc_Climb_step.nd rfl (by first | exact Or.inl rfl | exact Or.inr rfl)) (pgs_nil)))) (pgs_nil)))) (pss_cons (ps_set (i := 8) sc_Climb_step.nd rfl (by first | exact Or.inl rfl | exact Or.inr rfl) (pe_op op_add (pe_ix ix_seq (pe_fld (pv 0) rfl) (pv 1) (fun _ _ => rfl)) (pe_ix ix_seq (pe_fld (pv 0) rfl) (pv 5) (fun _ _ => rfl)))) (pss_cons (ps_if (PW.pt (pw_or (pt_cmpR op_isN (pv 6) (pe_non) (nomark _)) (pw_or1 (pt_cmpR op_lt (pv 8) (pv 6) (nomark _))))) (pss_cons (ps_set (i := 6) sc_Climb_step.nd rfl (by first | exact Or.inl rfl | exact Or.inr rfl) (pv 8)) (pss_cons (ps_set (i := 7) sc_Climb_step.nd rfl (by first | exact Or.inl rfl | exact Or.inr rfl) (pe_tup (pa_cons (pe_str) (pa_nil)))) (pss_nil))) (pss_nil)) (pss_cons (ps_expr (pe_bm PySem.F.plainAttrs_list PySem.F.slot_list_append PySem.F.type_list_append mt_append (pe_ix ix_seq (pe_fld (pv 0) rfl) (pv 5) (fun _ _ => rfl)) (pa_cons (pv 6) (pa_nil)))) (pss_cons (ps_expr (pe_bm PySem.F.plainAttrs_list PySem.F.slot_list_append PySem.F.type_list_append mt_append (pe_ix ix_seq (pe_fld (pv 0) rfl) (pv 5) (fun _ _ => rfl)) (pa_cons (pv 7) (pa_nil)))) (pss_nil)))))) (pss_nil)))
/-! Climb.lots -/
abbrev N_Climb_lots : List Str := ["self", "found", "until", "at", "cause", "given"]
abbrev p_Climb_lots : List Str := ["self"]
theorem sc_Climb_lots : FnScope N_Climb_lots p_Climb_lots (defScope s_Climb_lots) := ⟨rfl, rfl, rfl, by decide +kernel, rfl, by decide +kernel, by decide +kernel⟩
def t_Climb_lots (K : PySem.W.Frag) : TS := tSeq (tAsg (tLst (tNil)) (gName 1)) (tSeq (tAsg (tCB (rLenS K) (tCons (tFld K (tVar 0) "lights") (tNil))) (gName 2)) (tSeq (tAsg (tC .non) (gName 3)) (tSeq (tWhile (tOr (tTest (tOp rGtI (tVar 2) (tC (.int 0)))) (tTest (tOp rNotN (tVar 3) (tC .non)))) (tSeq (tIfS (tTest (tOp rIsN (tVar 3) (tC .non))) (tSeq (tAsg (tOp (rIx K) (tFld K (tVar 0) "free_from") (tVar 2)) (gName 4)) (tNext)) (tSeq (tAsg (tOp (rIx K) (tOp (rIx K) (tFld K (tVar 0) "mixed_from") (tVar 3)) (tVar 2)) (gName 4)) (tNext))) (tSeq (tIfS (tTest (tOp rEq (tOp (rIx K) (tVar 4) (tC (.int 0))) (tC (.str "rest")))) (tSeq (tAsg (tOp (rIx K) (tVar 4) (tC (.int 1))) (gName 2)) (tNext)) (tSeq (tIfS (tTest (tOp rEq (tOp (rIx K) (tVar 4) (tC (.int 0))) (tC (.str "mixed")))) (tSeq (tAsg (tOp (rIx K) (tVar 4) (tC (.int 1))) (gName 3)) (tNext)) (tSeq (tIfS (tTest (tOp rEq (tOp (rIx K) (tVar 4) (tC (.int 0))) (tC (.str "free")))) (tSeq (tAsg (tC .non) (gName 3)) (tNext)) (tSeq (tFor (iRng2 (tCons (tOp (rIx K) (tVar 4) (tC (.int 1))) (tCons (tVar 2) (tNil)))) (gName 5) (tSeq (tIfS (tTest (tOp rGtI (tOp (rIx K) (tOp (rIx K) (tFld K (tVar 0) "rows") (tVar 5)) (tC (.int 0))) (tC (.int 0)))) (tSeq (tDrop (tBM K "list" rAppend (tVar 1) (tCons (tTup (tCons (tVar 3) (tCons (tOp (rIx K) (tVar 4) (tC (.int 2))) (tCons (tVar 5) (tCons (tOp (rIx K) (tOp (rIx K) (tFld K (tVar 0) "rows") (tVar 5)) (tC (.int 0))) (tNil)))))) (tNil)))) (tNext)) (tNext)) (tNext))) (tSeq (tAsg (tOp (rIx K) (tVar 4) (tC (.int 1))) (gName 2)) (tNext)))) (tNext))) (tNext))) (tNext)))) (tSeq (tRet (tCB ((rSortU K 4 1000000001)) (tCons (tVar 1) (tNil)))) (tNext)))))
theorem der_Climb_lots {P : Program} {w : World} {K : PySem.W.Frag} {mg : Str → Option Value} {base : Heap} (W : Wd K mg)  {f : Addr} {cdv : Value} {A : Around} {outer : List Env} {s : Shared} {H : Hp} {E : XK} (hr : Room 0 (A.deeper (envOfC "Climb.lots" (defScope s_Climb_lots) s.heap.objs.size f cdv))) :
    PSs (cxOf CX0 P w K mg base N_Climb_lots "Climb.lots" (defScope s_Climb_lots) f cdv A outer s H E).nox (defBody s_Climb_lots) (t_Climb_lots K) :=
  pss_cons (ps_set (i := 1) sc_Climb_lots.nd rfl (by first | exact Or.inl rfl | exact Or.inr rfl) (pe_lst (pa_nil))) (pss_cons (ps_set (i := 2) sc_Climb_lots.nd rfl (by first | exact Or.inl rfl | exact Or.inr rfl) (pe_callB call_len_seq (by rfl) W.b_len PySem.boot_len (pa_cons (pe_fld (pv 0) rfl) (pa_nil)))) (pss_cons (ps_set (i := 3) sc_Climb_lots.nd rfl (by first | exact Or.inl rfl | exact Or.inr rfl) (pe_non)) (pss_cons (ps_while PassesOwn.never (PW.pt (pw_or (pt_cmpR op_gt (pv 2) (pe_int) (nomark _)) (pw_or1 (pt_cmpR op_notN (pv 3) (pe_non) (nomark _))))) (pss_cons (ps_if (pt_cmpR op_isN (pv 3) (pe_non) (nomark _)) (pss_cons (ps_set (i := 4) sc_Climb_lots.nd rfl (by first | exact Or.inl rfl | exact Or.inr rfl) (pe_ix ix_seq (pe_fld (pv 0) rfl) (pv 2) (fun _ _ => rfl))) (pss_nil)) (pss_cons (ps_set (i := 4) sc_Climb_lots.nd rfl (by first | exact Or.inl rfl | exact Or.inr rfl) (pe_ix ix_seq (pe_ix ix_seq (pe_fld (pv 0) rfl) (pv 3) (fun _ _ => rfl)) (pv 2) (fun _ _ => rfl))) (pss_nil))) (pss_cons (ps_if (pt_cmpR op_eq (pe_ix ix_seq (pv 4) (pe_int) (fun _ _ => rfl)) (pe_str) (nomark _)) (pss_cons (ps_set (i := 2) sc_Climb_lots.nd rfl (by first | exact Or.inl rfl | exact Or.inr rfl) (pe_ix ix_seq (pv 4) (pe_int) (fun _ _ => rfl))) (pss_nil)) (pss_cons (ps_if (pt_cmpR op_eq (pe_ix ix_seq (pv 4) (pe_int) (fun _ _ => rfl)) (pe_str) (nomark _)) (pss_cons (ps_set (i := 3) sc_Climb_lots.nd rfl (by first | exact Or.inl rfl | exact Or.inr rfl) (pe_ix ix_seq (pv 4) (pe_int) (fun _ _ => rfl))) (pss_nil)) (pss_cons (ps_if (pt_cmpR op_eq (pe_ix ix_seq (pv 4) (pe_int) (fun _ _ => rfl)) (pe_str) (nomark _)) (pss_cons (ps_set (i := 3) sc_Climb_lots.nd rfl (by first | exact Or.inl rfl | exact Or.inr rfl) (pe_non)) (pss_nil)) (pss_cons (ps_for PassesOwn.never (by rfl) (pi_range2 (by rfl) W.b_range (pa_cons (pe_ix ix_seq (pv 4) (pe_int) (fun _ _ => rfl)) (pa_cons (pv 2) (pa_nil)))) (pg_name (i := 5) sc_Climb_lots.nd rfl (by first | exact Or.inl rfl | exact Or.inr rfl)) (pss_cons (ps_if (pt_cmpR op_gt (pe_ix ix_seq (pe_ix ix_seq (pe_fld (pv 0) rfl) (pv 5) (fun _ _ => rfl)) (pe_int) (fun _ _ => rfl)) (pe_int) (nomark _)) (pss_cons (ps_expr (pe_bm PySem.F.plainAttrs_list PySem.F.slot_list_append PySem.F.type_list_append mt_append (pv 1) (pa_cons (pe_tup (pa_cons (pv 3) (pa_cons (pe_ix ix_seq (pv 4) (pe_int) (fun _ _ => rfl)) (pa_cons (pv 5) (pa_cons (pe_ix ix_seq (pe_ix ix_seq (pe_fld (pv 0) rfl) (pv 5) (fun _ _ => rfl)) (pe_int) (fun _ _ => rfl)) (pa_nil)))))) (pa_nil)))) (pss_nil)) (pss_nil)) (pss_nil))) (pss_cons (ps_set (i := 2) sc_Climb_lots.nd rfl (by first | exact Or.inl rfl | exact Or.inr rfl) (pe_ix ix_seq (pv 4) (pe_int) (fun _ _ => rfl))) (pss_nil)))) (pss_nil))) (pss_nil))) (pss_nil)))) (pss_cons (ps_ret (pe_callB (cr_sortT (d := 4) (B := 1000000001) (by decide)) (by rfl) W.b_sorted (by decide +kernel) (pa_cons (pv 1) (pa_nil)))) (pss_nil)))))
end K66

/-! ## R11 -/
set_option maxHeartbeats 4000000
namespace K66
open PySem PySem.Spec PyProof.Rows L2
/-! ### sums from the other end, least candidates -/
theorem csum_cons (c : Nat → Option Int) (a : Nat) : ∀ m, csum c a (m + 1) = addO (c a) (csum c (a + 1) m)
  | 0 => by
    show (match some 0, c (a + 0) with | some x, some y => some (x + y) | _, _ => none) = addO (c a) (some 0)
    rw [Nat.add_zero]
    cases c a with
    | none => rfl
    | some x => show some (0 + x) = some (x + 0); rw [Int.zero_add, Int.add_zero]
  | m + 1 => by
    have ih := csum_cons c a m
    show (match csum c a (m + 1), c (a + (m + 1)) with | some x, some y => some (x + y) | _, _ => none) = addO (c a) (match csum c (a + 1) m, c (a + 1 + m) with | some x, some y => some (x + y) | _, _ => none)
    rw [ih, show a + (m + 1) = a + 1 + m by omega]
    cases c a with
    | none => rfl
    | some x =>
      cases csum c (a + 1) m with
      | none => rfl
      | some y =>
        cases c (a + 1 + m) with
        | none => rfl
        | some z => show some (x + y + z) = some (x + (y + z)); rw [Int.add_assoc]
theorem csum_none' {c : Nat → Option Int} {a k m : Nat} (h : c k = none) (h1 : a ≤ k) (h2 : k < a + m) : csum c a m = none := by
  have e : m = (k - a) + 1 + (m - (k - a) - 1) := by omega
  rw [e]
  exact csum_none (by rw [show a + (k - a) = k by omega]; exact h) _
theorem Least.same {α : Type} {S S' : α → Int → Prop} {o : Option (α × Int)} (h : Least S o) (e : ∀ c t, S c t ↔ S' c t) : Least S' o := by
  have : S = S' := funext fun r => funext fun s => propext (e r s)
  rw [← this]; exact h
theorem Least.take {α : Type} {S S' : α → Int → Prop} {o : Option (α × Int)} {c0 : α} {t0 : Int} (h : Least S o) (e : ∀ c t, S' c t ↔ (S c t ∨ (c = c0 ∧ t = t0))) (hb : ∀ c t, o = some (c, t) → t0 ≤ t) : Least S' (some (c0, t0)) := by
  refine ⟨(e _ _).mpr (.inr ⟨rfl, rfl⟩), fun c t hc => ?_⟩
  rcases (e _ _).mp hc with h1 | ⟨_, rfl⟩
  · cases o with
    | none => exact absurd h1 (h c t)
    | some p => obtain ⟨c1, t1⟩ := p; have := hb c1 t1 rfl; have := h.2 c t h1; omega
  · omega
theorem Least.keep {α : Type} {S S' : α → Int → Prop} {c0 c1 : α} {t0 t1 : Int} (h : Least S (some (c1, t1))) (e : ∀ c t, S' c t ↔ (S c t ∨ (c = c0 ∧ t = t0))) (hb : t1 ≤ t0) : Least S' (some (c1, t1)) := by
  refine ⟨(e _ _).mpr (.inl h.1), fun c t hc => ?_⟩
  rcases (e _ _).mp hc with h1 | ⟨_, rfl⟩
  · exact h.2 c t h1
  · omega
/-- the candidates that were looked at -/
def Proc (r u j i : Nat) : Cause → Prop
  | .batch f s => s < r + j ∨ (s = r + j ∧ u ≤ f + i)
  | _ => True
def Cand (b : Bk) (g : List Dg) (M : Nat → Int) (r u j i : Nat) (c : Cause) (t : Int) : Prop := Expl b g M r u c t ∧ Proc r u j i c
section
variable {b : Bk} {g : List Dg} {M : Nat → Int} {r u j i : Nat}
theorem cand_start : ∀ {c : Cause} {t : Int}, Cand b g M r u 0 0 c t → ∃ k, c = .rest k ∧ u = k + 1 ∧ b.want k = 0 ∧ t = M k
  | .rest k, t, ⟨h1, _⟩ => ⟨k, rfl, h1⟩
  | .batch f s, t, ⟨⟨h1, h2, m, y, h3, h4, _⟩, h5⟩ => by
    rcases h5 with h5 | ⟨h5, h6⟩
    · omega
    · omega
theorem least_rest {k : Nat} (hu : u = k + 1) (hw : b.want k = 0) : Least (Cand b g M r u 0 0) (some (.rest k, M k)) :=
  ⟨⟨⟨hu, hw, rfl⟩, trivial⟩, fun c t h => by
    obtain ⟨k', rfl, h1, h2, rfl⟩ := cand_start h
    have : k' = k := by omega
    rw [this]; exact Int.le_refl _⟩
theorem least_no (h : ∀ k, u = k + 1 → b.want k ≠ 0) : Least (Cand b g M r u 0 0) none := fun c t hc => by
  obtain ⟨k', rfl, h1, h2, rfl⟩ := cand_start hc
  exact h k' h1 h2
/-- the next day of baking -/
theorem cand_next (hd : ∀ f m, u ≤ f + i ∨ 0 < m → f + m = u → ¬ u ≤ f + i → csum (b.cost g r (r + j)) f m = none) : ∀ c t, Cand b g M r u j i c t ↔ Cand b g M r u (j + 1) 0 c t
  | .rest k, t => ⟨fun h => ⟨h.1, trivial⟩, fun h => ⟨h.1, trivial⟩⟩
  | .mixed k, t => ⟨fun h => h.1.elim, fun h => h.1.elim⟩
  | .free, t => ⟨fun h => h.1.elim, fun h => h.1.elim⟩
  | .batch f s, t => by
    constructor
    · rintro ⟨h1, h2⟩
      refine ⟨h1, .inl ?_⟩
      rcases h2 with h2 | ⟨h2, _⟩ <;> omega
    · rintro ⟨h1, h2⟩
      refine ⟨h1, ?_⟩
      obtain ⟨h3, h4, m, y, h5, h6, h7, h8⟩ := h1
      by_cases hs : s < r + j
      · exact .inl hs
      · have es : s = r + j := by
          rcases h2 with h2 | ⟨h2, h9⟩
          · omega
          · omega
        refine .inr ⟨es, ?_⟩
        by_cases hf : u ≤ f + i
        · exact hf
        · subst es
          rw [hd f m (.inr h5) h6 hf] at h7
          cases h7
theorem cand_step {first : Nat} {y : Int} (hfi : first + (i + 1) = u) (hs : r + j < b.n) (hy : csum (b.cost g r (r + j)) first (i + 1) = some y) : ∀ c t, Cand b g M r u j (i + 1) c t ↔ (Cand b g M r u j i c t ∨ (c = .batch first (r + j) ∧ t = M first + (b.light (r + j) + y)))
  | .rest k, t => ⟨fun h => .inl ⟨h.1, trivial⟩, fun h => h.elim (fun h => ⟨h.1, trivial⟩) fun h => by cases h.1⟩
  | .mixed k, t => ⟨fun h => h.1.elim, fun h => h.elim (fun h => h.1.elim) fun h => by cases h.1⟩
  | .free, t => ⟨fun h => h.1.elim, fun h => h.elim (fun h => h.1.elim) fun h => by cases h.1⟩
  | .batch f s, t => by
    constructor
    · rintro ⟨h1, h2⟩
      rcases h2 with h2 | ⟨h2, h9⟩
      · exact .inl ⟨h1, .inl h2⟩
      · by_cases hf : u ≤ f + i
        · exact .inl ⟨h1, .inr ⟨h2, hf⟩⟩
        · obtain ⟨h3, h4, m, y', h5, h6, h7, h8⟩ := h1
          have ef : f = first := by omega
          have em : m = i + 1 := by omega
          subst ef em h2
          rw [hy] at h7
          injection h7 with h7
          subst h7
          exact .inr ⟨rfl, h8⟩
    · rintro (⟨h1, h2⟩ | ⟨h1, rfl⟩)
      · refine ⟨h1, ?_⟩
        rcases h2 with h2 | ⟨h2, h9⟩
        · exact .inl h2
        · exact .inr ⟨h2, by omega⟩
      · injection h1 with h1 h2
        subst h1 h2
        exact ⟨⟨by omega, hs, i + 1, y, by omega, hfi, hy, rfl⟩, .inr ⟨rfl, by omega⟩⟩
end
section
variable {K : PySem.W.Frag} {σ : L2.St} {H H' : Hp} {ta tb tc te tx : TE} {v : V} {vs : List V} {Q : VK} {E : XK} {b : Bk} {g : List Dg} {L : Lay}
theorem x_ifJ {t1 t2 u : TS} {c : TT} {D : Ends} {bb : Bool} (W : L2.St → Hp → Prop) (h : EvT c σ H bb) (h1 : (∀ σ' H', W σ' H' → Sx u D σ' H') → bb = true → Sx t1 { D with nx := u D } σ H) (h2 : (∀ σ' H', W σ' H' → Sx u D σ' H') → bb = false → Sx t2 { D with nx := u D } σ H) (kont : ∀ σ' H', W σ' H' → Sx u D σ' H') :
    Sx (tSeq (tIfS c t1 t2) u) D σ H := x_if h (h1 kont) (h2 kont)
theorem ev_fld {f : Str} {a C dx : Addr} {fs : List (Str × V)} (hi : H a = some (.ins C dx fs)) (c : Cls K C) (n : NoAttr K C f) (hl : fs.lookup f = some v) (ha : Ev ta σ H (Is (.ref a))) : Ev (tFld K ta f) σ H (Is v) := fun H1 e Q q =>
  ha H1 e _ fun w H2 e2 hw => by
    have z : w = .ref a := hw
    subst z
    exact ⟨a, C, dx, fs, v, rfl, (e.trans e2) _ _ hi, c, n, hl, q v H2 e2 rfl⟩
theorem fx_lights (h : Fix K b g L H) (hs : σ[0]? = some (some (.ref L.a))) : Ev (tFld K (tVar 0) "lights") σ H (Is (.ref L.pl)) := ev_fld h.ins h.kit.cls h.kit.lights rfl (ev_var hs)
theorem fx_rows (h : Fix K b g L H) (hs : σ[0]? = some (some (.ref L.a))) : Ev (tFld K (tVar 0) "rows") σ H (Is (.ref L.pr)) := ev_fld h.ins h.kit.cls h.kit.rows rfl (ev_var hs)
theorem fx_mixes (h : Fix K b g L H) (hs : σ[0]? = some (some (.ref L.a))) : Ev (tFld K (tVar 0) "mixes") σ H (Is (.ref L.pm)) := ev_fld h.ins h.kit.cls h.kit.mixes rfl (ev_var hs)
theorem fx_batches (h : Fix K b g L H) (hs : σ[0]? = some (some (.ref L.a))) : Ev (tFld K (tVar 0) "batches") σ H (Is (.ref L.pb)) := ev_fld h.ins h.kit.cls h.kit.batches rfl (ev_var hs)
theorem fx_free (h : Fix K b g L H) (hs : σ[0]? = some (some (.ref L.a))) : Ev (tFld K (tVar 0) "free") σ H (Is (.ref L.FR)) := ev_fld h.ins h.kit.cls h.kit.free rfl (ev_var hs)
theorem fx_mixed (h : Fix K b g L H) (hs : σ[0]? = some (some (.ref L.a))) : Ev (tFld K (tVar 0) "mixed") σ H (Is (.ref L.MX)) := ev_fld h.ins h.kit.cls h.kit.mixed rfl (ev_var hs)
theorem fx_ff (h : Fix K b g L H) (hs : σ[0]? = some (some (.ref L.a))) : Ev (tFld K (tVar 0) "free_from") σ H (Is (.ref L.FF)) := ev_fld h.ins h.kit.cls h.kit.free_from rfl (ev_var hs)
theorem fx_mf (h : Fix K b g L H) (hs : σ[0]? = some (some (.ref L.a))) : Ev (tFld K (tVar 0) "mixed_from") σ H (Is (.ref L.MF)) := ev_fld h.ins h.kit.cls h.kit.mixed_from rfl (ev_var hs)
theorem fx_want (h : Fix K b g L H) (hok : b.ok) (hs : σ[0]? = some (some (.ref L.a))) {i : Nat} (hi : i < b.n) (ha : Ev ta σ H (Is (.int (i : Int)))) : Ev (tOp (rIx K) (tOp (rIx K) (tFld K (tVar 0) "rows") ta) (tC (.int 0))) σ H (Is (.int (b.want i))) := by
  obtain ⟨ws, t, h1, h2, h3, h4⟩ := h.rows.get (i := i) (by rw [hok.len]; exact hi)
  exact ev_ixT h4 (ev_ixL h1 (fx_rows h hs) ha (atI_nat h3)) ev_c rfl
theorem fx_light (h : Fix K b g L H) (hs : σ[0]? = some (some (.ref L.a))) {i : Nat} (hi : i < b.n) (ha : Ev ta σ H (Is (.int (i : Int)))) : Ev (tOp (rIx K) (tFld K (tVar 0) "lights") ta) σ H (Is (.int (b.light i))) := ev_ixL h.lights (fx_lights h hs) ha (atI_int hi)
theorem fx_mx (h : Fix K b g L H) (hs : σ[0]? = some (some (.ref L.a))) {i : Nat} (hi : i < b.n) (ha : Ev ta σ H (Is (.int (i : Int)))) : Ev (tOp (rIx K) (tFld K (tVar 0) "mixed") ta) σ H (Is (.ref (L.mx i))) := ev_ixL h.MX (fx_mixed h hs) ha (atI_range hi)
theorem fx_mfi (h : Fix K b g L H) (hs : σ[0]? = some (some (.ref L.a))) {i : Nat} (hi : i < b.n) (ha : Ev ta σ H (Is (.int (i : Int)))) : Ev (tOp (rIx K) (tFld K (tVar 0) "mixed_from") ta) σ H (Is (.ref (L.mf i))) := ev_ixL h.MF (fx_mf h hs) ha (atI_range hi)
theorem fx_mix (h : Fix K b g L H) (hs : σ[0]? = some (some (.ref L.a))) {i : Nat} (hi : i < b.n) (ha : Ev ta σ H (Is (.int (i : Int)))) : Ev (tOp (rIx K) (tFld K (tVar 0) "mixes") ta) σ H (Is (.int (mixD g i))) := ev_ixL h.mixes (fx_mixes h hs) ha (atI_range hi)
theorem fx_cost (h : Fix K b g L H) (hs : σ[0]? = some (some (.ref L.a))) {r s d : Nat} (hr : r < b.n) (hs' : s < b.n) (hd : d < b.n) (ha : Ev ta σ H (Is (.int (r : Int)))) (hb : Ev tb σ H (Is (.int (s : Int)))) (hc : Ev tc σ H (Is (.int (d : Int)))) :
    Ev (tOp (rIx K) (tOp (rIx K) (tOp (rIx K) (tFld K (tVar 0) "batches") ta) tb) tc) σ H (Is (vO (b.cost g r s d))) := by
  obtain ⟨us, h1, h2, h3⟩ := h.batches
  obtain ⟨q, ws, q1, q2, q3, q4⟩ := h3 r hr
  obtain ⟨q', w1, w2⟩ := q4 s hs'
  exact ev_ixL w2 (ev_ixL q2 (ev_ixL h1 (fx_batches h hs) ha (atI_nat q1)) hb (atI_nat w1)) hc (atI_range hd)
theorem ev_less1 {k : Nat} (ha : Ev ta σ H (Is (.int ((k + 1 : Nat) : Int)))) : Ev (tOp rSubI ta (tC (.int 1))) σ H (Is (.int (k : Int))) := Ev.eq (ev_I0 ha ev_c) (by show V.int (((k + 1 : Nat) : Int) - 1) = V.int (k : Int); rw [show ((k + 1 : Nat) : Int) - 1 = (k : Int) by omega])
theorem numV_at {u i : Nat} {f : Nat → Int} (h : i < u) : atI (numV u f) (i : Int) = some (.int (f i)) := atI_range h
theorem rd_Climb_come_to (h : sp_Climb_come_to K vs H Q E) : t_Climb_come_to K (DD Q) (start N_Climb_come_to vs) H := by
  obtain ⟨H0, P, e0, ⟨b, g, L, r, u, M, rfl, hok, hgok, hf, hx, hr, hu, rfl⟩, k⟩ := h
  have hf := hf.up e0
  have hx := e0 _ _ hx
  have hmost := hok.most
  refine Sx.at (x_set (v := .non) ev_c (x_set (v := .non) ev_c ?_))
  refine x_ifJ (bb := dec (∃ k, u = k + 1 ∧ b.want k = 0)) (fun σ' H' => Ex H H' ∧ ∃ (o : Option (Cause × Int)) (v : V), CauseP o H v H' ∧ Least (Cand b g M r u 0 0) o ∧ σ' = [some (.ref L.a), some (.int (r : Int)), some (.int (u : Int)), some (vO (valO o)), some v, none, none, none, none]) ?_ (fun kont hb => ?_) (fun kont hb => ?_) fun σ' H' ⟨w1, o, v, w2, w3, es⟩ => ?_
  · cases u with
    | zero => exact EvT.eq (et_and (a := false) (b := false) (EvT.eq (et_test (ev_I0 (ev_var rfl) ev_c)) rfl) fun z => by cases z) (dec_f fun ⟨k, h, _⟩ => by cases h).symm
    | succ k' =>
      refine EvT.eq (et_and (a := true) (EvT.eq (et_test (ev_I0 (ev_var rfl) ev_c)) (decide_eq_true (by omega))) fun _ => et_test (ev_eq (fx_want hf hok rfl (i := k') (by omega) (ev_less1 (ev_var rfl))) ev_c eqI)) ?_
      rw [Bool.true_and, dec_int]
      by_cases hw : b.want k' = 0
      · rw [dec_t ⟨k', rfl, hw⟩, hw]; rfl
      · rw [dec_f fun ⟨k2, h, h'⟩ => hw (by injection h with h; rw [h]; exact h')]
        exact beq_eq_false_iff_ne.mpr hw
  · obtain ⟨k', hk, hw⟩ := Classical.byContradiction fun hn => by rw [dec_f hn] at hb; cases hb
    subst hk
    refine x_set (v := .int (M k')) (ev_ixL hx (fx_mx hf rfl hr (ev_var rfl)) (ev_less1 (ev_var rfl)) (numV_at (by omega))) ?_
    refine x_asg (P := CauseP (some (.rest k', M k'))) (ev_tup (ex_cons ev_c (ex_cons (ev_less1 (ev_var rfl)) ex_nil)) (by show 2 ≤ 100000; decide)) fun v H1 e1 pp => ?_
    exact x_next fun H2 e2 => (kont _ H2 ⟨e1.trans e2, some (.rest k', M k'), v, UP.up pp e2, least_rest rfl hw, rfl⟩).at
  · exact x_next fun H2 e2 => (kont _ H2 ⟨e2, none, .non, rfl, least_no (fun k' hk hw => by rw [dec_t ⟨k', hk, hw⟩] at hb; cases hb), rfl⟩).at
  · subst es
    have hnlen : ∀ {H'}, Ex H H' → EvX (tCons (tVar 1) (tCons (tCB (rLenS K) (tCons (tFld K (tVar 0) "lights") tNil)) tNil)) [some (.ref L.a), some (.int (r : Int)), some (.int (u : Int)), some (vO (valO o)), some v, none, none, none, none] H' [.int (r : Int), .int (b.n : Int)] := fun e => ex_cons (ev_var rfl) (ex_cons (Ev.eq (ev_lenL (e _ _ hf.lights) (fx_lights (hf.up e) rfl)) (by rw [List.length_map])) ex_nil)
    refine x_forR2 (lo := (r : Int)) (hi := (b.n : Int)) (hnlen w1) (by have : b.n ≤ 40 := hmost; omega)
      (fun j σ' H' => Ex H H' ∧ ∃ (o : Option (Cause × Int)) (v : V) (o5 o6 o7 o8 : Option V), CauseP o H v H' ∧ Least (Cand b g M r u j 0) o ∧ σ' = [some (.ref L.a), some (.int (r : Int)), some (.int (u : Int)), some (vO (valO o)), some v, o5, o6, o7, o8])
      (fun H2 e2 => ⟨w1.trans e2, o, v, none, none, none, none, UP.up w2 e2, w3, rfl⟩) (fun j σ' H' hj ⟨w1, o, v, o5, o6, o7, o8, w2, w3, es⟩ => ?_) fun σ' H' ⟨w1, o, v, o5, o6, o7, o8, w2, w3, es⟩ => ?_
    · subst es
      have hj' : r + j < b.n := by omega
      have ej : (r : Int) + (j : Int) = ((r + j : Nat) : Int) := by omega
      rw [ej]
      refine x_set (v := .int (b.light (r + j))) (fx_light (hf.up w1) rfl hj' (ev_var rfl)) ?_
      have rg : RgC ((u : Int) - 1) (-1) (-1) u := by
        have := RgC.neg (i := (u : Int) - 1) (j := -1) (by have : b.n ≤ 40 := hmost; omega) (by have : b.n ≤ 40 := hmost; omega) (by decide) (by decide)
        rw [show ((u : Int) - 1 - -1).toNat = u by omega] at this
        exact this
      refine x_forDown (n := u) (ex_cons (ev_I0 (ev_var rfl) ev_c) (ex_cons (ev_neg ev_c) (ex_cons (ev_neg ev_c) ex_nil))) (by have : b.n ≤ 40 := hmost; omega)
        (fun i σ' H' => Ex H H' ∧ ∃ (o : Option (Cause × Int)) (v : V) (y : Int) (o7 o8 : Option V), CauseP o H v H' ∧ Least (Cand b g M r u j i) o ∧ csum (b.cost g r (r + j)) (u - i) i = some y ∧ σ' = [some (.ref L.a), some (.int (r : Int)), some (.int (u : Int)), some (vO (valO o)), some v, some (.int ((r + j : Nat) : Int)), some (.int (b.light (r + j) + y)), o7, o8])
        (fun H2 e2 => ⟨w1.trans e2, o, v, 0, o7, o8, UP.up w2 e2, w3, rfl, by rw [Int.add_zero]; rfl⟩) (fun i σ' H' hi ⟨w1, o, v, y, o7, o8, w2, w3, w4, es⟩ => ?_) (fun σ' H' ⟨w1, o, v, y, o7, o8, w2, w3, w4, es⟩ => ?_) rg
      · subst es
        have hfirst : u - 1 - i < b.n := by omega
        refine x_set (v := vO (b.cost g r (r + j) (u - 1 - i))) (fx_cost (hf.up w1) rfl hr hj' hfirst (ev_var rfl) (ev_var rfl) (ev_var rfl)) ?_
        cases hc : b.cost g r (r + j) (u - 1 - i) with
        | none =>
          refine x_if (b := true) (EvT.eq (et_test (ev_isN (ev_var rfl))) rfl) (fun _ => ?_) fun z => by cases z
          refine x_brk fun H2 e2 => ⟨w1.trans e2, o, v, _, _, _, _, UP.up w2 e2, w3.same (cand_next fun f m _ h2 h3 => csum_none' hc (by omega) (by omega)), rfl⟩
        | some c =>
          refine x_pass (et_test (ev_isN (ev_var rfl))) rfl ?_
          refine x_aug (f := fun i j => i + j) rfl (ev_var rfl) ?_
          have hsum : csum (b.cost g r (r + j)) (u - 1 - i) (i + 1) = some (c + y) := by
            rw [csum_cons, hc, show u - 1 - i + 1 = u - i by omega, w4]; rfl
          have hst := cand_step (b := b) (g := g) (M := M) (r := r) (u := u) (j := j) (i := i) (first := u - 1 - i) (y := c + y) (by omega) hj' hsum
          have etot : b.light (r + j) + y + c = b.light (r + j) + (c + y) := by omega
          have hsum' : csum (b.cost g r (r + j)) (u - (i + 1)) (i + 1) = some (c + y) := by rw [show u - (i + 1) = u - 1 - i by omega]; exact hsum
          have val : ∀ {σ : L2.St}, σ[0]? = some (some (.ref L.a)) → σ[1]? = some (some (.int (r : Int))) → σ[7]? = some (some (.int ((u - 1 - i : Nat) : Int))) → σ[6]? = some (some (.int (b.light (r + j) + y + c))) → Ev (tOp rAddI (tOp (rIx K) (tOp (rIx K) (tFld K (tVar 0) "mixed") (tVar 1)) (tVar 7)) (tVar 6)) σ H' (Is (.int (M (u - 1 - i) + (b.light (r + j) + (c + y))))) := fun a0 a1 a7 a6 => Ev.eq (ev_I0 (ev_ixL (w1 _ _ hx) (fx_mx (hf.up w1) a0 hr (ev_var a1)) (ev_var a7) (numV_at (f := M) (show u - 1 - i < u by omega))) (ev_var a6)) (by show V.int _ = V.int _; rw [etot])
          cases o with
          | none =>
            refine x_if (b := true) (EvT.eq (et_or (a := true) (b := true) (EvT.eq (et_test (ev_isN (ev_var rfl))) rfl) fun z => by cases z) rfl) (fun _ => ?_) fun z => by cases z
            refine x_set (val rfl rfl rfl rfl) ?_
            refine x_asg (P := NewT (Cause.batch (u - 1 - i) (r + j)).vals) (ev_tup (ex_cons ev_c (ex_cons (ev_var rfl) (ex_cons (ev_var rfl) ex_nil))) (by show 3 ≤ 100000; decide)) fun v' H2 e2 pp => ?_
            refine x_fall (x_next fun H3 e3 => ⟨(w1.trans e2).trans e3, some (.batch (u - 1 - i) (r + j), M (u - 1 - i) + (b.light (r + j) + (c + y))), v', c + y, some (.int ((u - 1 - i : Nat) : Int)), some (vO (some c)), UP.up (UP.dn pp w1) e3, w3.take hst fun c t h => by (cases h), hsum', ?_⟩)
            rw [← etot]; rfl
          | some p =>
            obtain ⟨c1, t1⟩ := p
            refine x_if (b := decide (M (u - 1 - i) + (b.light (r + j) + (c + y)) < t1)) (EvT.eq (et_or (a := false) (EvT.eq (et_test (ev_isN (ev_var rfl))) rfl) fun _ => et_test (ev_I0 (val rfl rfl rfl rfl) (ev_var rfl))) rfl) (fun hlt => ?_) fun hlt => ?_
            · refine x_set (val rfl rfl rfl rfl) ?_
              refine x_asg (P := NewT (Cause.batch (u - 1 - i) (r + j)).vals) (ev_tup (ex_cons ev_c (ex_cons (ev_var rfl) (ex_cons (ev_var rfl) ex_nil))) (by show 3 ≤ 100000; decide)) fun v' H2 e2 pp => ?_
              refine x_fall (x_next fun H3 e3 => ⟨(w1.trans e2).trans e3, some (.batch (u - 1 - i) (r + j), M (u - 1 - i) + (b.light (r + j) + (c + y))), v', c + y, some (.int ((u - 1 - i : Nat) : Int)), some (vO (some c)), UP.up (UP.dn pp w1) e3, w3.take hst fun c t h => by (injection h with h; injection h with h h2; have := of_decide_eq_true hlt; omega), hsum', ?_⟩)
              rw [← etot]; rfl
            · refine x_fall (x_next fun H3 e3 => ⟨w1.trans e3, some (c1, t1), v, c + y, some (.int ((u - 1 - i : Nat) : Int)), some (vO (some c)), UP.up w2 e3, w3.keep hst (by have := of_decide_eq_false hlt; omega), hsum', ?_⟩)
              rw [← etot]; rfl
      · subst es
        exact x_next fun H2 e2 => ⟨w1.trans e2, o, v, _, _, _, _, UP.up w2 e2, w3.same (cand_next fun f m h1 h2 h3 => absurd (show u ≤ f + u by omega) h3), rfl⟩
    · subst es
      have hfin : Least (Expl b g M r u) o := w3.same fun c t => ⟨fun h => h.1, fun h => ⟨h, by
        cases c with
        | batch f s => exact .inl (by obtain ⟨_, h2, _⟩ := h; omega)
        | _ => trivial⟩⟩
      refine x_ret (P := NewT [vO (valO o), v]) (ev_tup (ex_cons (ev_var rfl) (ex_cons (ev_var rfl) ex_nil)) (by show 2 ≤ 100000; decide)) fun v' H2 e2 pp => ?_
      obtain ⟨p, rfl, hp, hp1⟩ := pp
      exact k _ H2 (w1.trans e2) ⟨o, hfin, p, _, rfl, w1.back hp, hp1, .cons rfl (.cons (UP.up w2 e2) .nil)⟩
end
end K66

/-! ## R12 -/
set_option maxHeartbeats 4000000
namespace K66
open PySem PySem.Spec PyProof.Rows L2
/-! ### lists that grow -/
def setS (S : Addr → Option (List V)) (a : Addr) (ys : List V) : Addr → Option (List V) := fun x => if x = a then some ys else S x
theorem setS_same {S : Addr → Option (List V)} {a : Addr} {ys : List V} : setS S a ys a = some ys := if_pos rfl
theorem setS_ne {S : Addr → Option (List V)} {a x : Addr} {ys : List V} (h : x ≠ a) : setS S a ys x = S x := if_neg h
section
variable {Hs H H' : Hp} {S : Addr → Option (List V)}
theorem Live.fwd (h : Live Hs S H) (e : Ex H H') : ∃ Hs', Ex Hs Hs' ∧ Live Hs' S H' ∧ ∀ a o, H' a = some o → S a = none → Hs' a = some o := by
  refine ⟨fun a => if (S a).isSome then none else H' a, fun a o ha => ?_, ⟨fun a o ha => ?_, fun a xs hs => ?_, fun a xs hs => e _ _ (h.at_ a xs hs)⟩, fun a o ha hs => ?_⟩
  · cases hs : S a with
    | none => simpa [hs] using e _ _ (h.ex _ _ ha)
    | some xs => rw [h.off a xs hs] at ha; cases ha
  · cases hs : S a with
    | none => simpa [hs] using ha
    | some xs => simp [hs] at ha
  · simp [hs]
  · simpa [hs] using ha
theorem Live.app (h : Live Hs S H) {a : Addr} {xs ys : List V} (hs : S a = some xs) : Live Hs (setS S a ys) (upd H a (.lst ys)) := by
  refine ⟨fun x o hx => ?_, fun x zs hz => ?_, fun x zs hz => ?_⟩
  · have : x ≠ a := fun e => by rw [e, h.off a xs hs] at hx; cases hx
    rw [upd_ne this]; exact h.ex x o hx
  · by_cases e : x = a
    · rw [e]; exact h.off a xs hs
    · rw [setS_ne e] at hz; exact h.off x zs hz
  · by_cases e : x = a
    · subst e
      rw [setS_same] at hz
      injection hz with hz
      subst hz
      exact upd_same
    · rw [setS_ne e] at hz
      rw [upd_ne e]; exact h.at_ x zs hz
theorem Live.no_tup (h : Live Hs S H) {t : Addr} {xs : List V} (ht : H t = some (.tup xs)) : S t = none := by
  cases hs : S t with
  | none => rfl
  | some zs => rw [h.at_ t zs hs] at ht; cases ht
theorem Live.no_new (h : Live Hs S H) {t : Addr} (ht : H t = none) : S t = none := by
  cases hs : S t with
  | none => rfl
  | some zs => rw [h.at_ t zs hs] at ht; cases ht
end
theorem numV_snoc {u : Nat} {f : Nat → Int} : numV u f ++ [.int (f u)] = numV (u + 1) f := by
  unfold numV
  rw [List.range_succ, List.map_append]; rfl
theorem numV_congr {u : Nat} {f f' : Nat → Int} (h : ∀ i, i < u → f i = f' i) : numV u f = numV u f' := by
  unfold numV
  exact List.map_congr_left fun i hi => by rw [h i (List.mem_range.mp hi)]
theorem numV_len {u : Nat} {f : Nat → Int} : (numV u f).length = u := by unfold numV; rw [List.length_map, List.length_range]
/-! ### one step more -/
theorem Expl.congr {b : Bk} {g : List Dg} {M M' : Nat → Int} {r v : Nat} (h : ∀ i, i < v → M i = M' i) : ∀ {c : Cause} {t : Int}, Expl b g M r v c t → Expl b g M' r v c t
  | .rest k, t, ⟨h1, h2, h3⟩ => ⟨h1, h2, by rw [← h k (by omega)]; exact h3⟩
  | .batch f s, t, ⟨h1, h2, m, y, h3, h4, h5, h6⟩ => ⟨h1, h2, m, y, h3, h4, h5, by rw [← h f (by omega)]; exact h6⟩
/-- D' is D ahead of u -/
structure SameTo (D D' : Tab) (n u : Nat) : Prop where
  F : ∀ i, i < u → D.F i = D'.F i
  FC : ∀ i, i < u → D.FC i = D'.FC i
  M : ∀ r i, i < u → D.M r i = D'.M r i
  MC : ∀ r i, i < u → D.MC r i = D'.MC r i
theorem GoodV.same {b : Bk} {g : List Dg} {D D' : Tab} {n u v : Nat} (e : SameTo D D' n u) (hv : v < u) (h : GoodV b g D v) : GoodV b g D' v := by
  have eM : ∀ r i, i < v → D.M r i = D'.M r i := fun r i hi => e.M r i (by omega)
  have eM' : ∀ r i, i < v → D'.M r i = D.M r i := fun r i hi => (eM r i hi).symm
  refine ⟨fun h0 => by rw [← e.F v hv]; exact h.zero h0, fun h0 => ?_, fun r hr => ?_, fun r hr => by rw [← e.F v hv, ← e.M r v hv]; exact h.low r hr, fun r hr => by rw [← e.F v hv, ← e.M r v hv]; exact h.high r hr, fun k hk hw => by rw [← e.F v hv, ← e.F k (by omega)]; exact h.frest k hk hw,
    fun r hr c t hc => by rw [← e.M r v hv]; exact h.least r hr c t (hc.congr (eM' r))⟩
  · rcases h.fexp h0 with ⟨k, h1, h2, h3, h4⟩ | ⟨r, h1, h2, h3, h4⟩
    · exact .inl ⟨k, by rw [← e.FC v hv]; exact h1, h2, h3, by rw [← e.F v hv, ← e.F k (by omega)]; exact h4⟩
    · exact .inr ⟨r, h1, by rw [← e.FC v hv]; exact h2, by rw [← e.F v hv, ← e.M r v hv]; exact h3, by rw [← e.MC r v hv, ← e.M r v hv]; exact h4.congr (eM r)⟩
  · rcases h.mexp r hr with ⟨h1, h2⟩ | h1
    · exact .inl ⟨by rw [← e.MC r v hv]; exact h1, by rw [← e.M r v hv, ← e.F v hv]; exact h2⟩
    · exact .inr (by rw [← e.MC r v hv, ← e.M r v hv]; exact h1.congr (eM r))
/-- what free's next number is chosen from -/
def FCand (b : Bk) (D : Tab) (oc : Nat → Option (Cause × Int)) (u i : Nat) (c : Cause) (t : Int) : Prop := (∃ k, c = .rest k ∧ u = k + 1 ∧ b.want k = 0 ∧ t = D.F k) ∨ ∃ r, r < i ∧ c = .mixed r ∧ ∃ c', oc r = some (c', t)
def nextM (g : List Dg) (oc : Nat → Option (Cause × Int)) (f : Int) (r : Nat) : Int := match oc r with
  | none => f + mixD g r
  | some (_, t) => if f + mixD g r < t then f + mixD g r else t
def nextC (g : List Dg) (oc : Nat → Option (Cause × Int)) (f : Int) (r : Nat) : Cause := match oc r with
  | none => .free
  | some (c, t) => if f + mixD g r < t then .free else c
def nextT (g : List Dg) (oc : Nat → Option (Cause × Int)) (D : Tab) (u : Nat) (f : Int) (fc : Cause) : Tab :=
  ⟨fun i => if i = u then f else D.F i, fun r i => if i = u then nextM g oc f r else D.M r i, fun i => if i = u then fc else D.FC i, fun r i => if i = u then nextC g oc f r else D.MC r i⟩
theorem good_step {b : Bk} {g : List Dg} {D : Tab} {u : Nat} {oc : Nat → Option (Cause × Int)} {f : Int} {fc : Cause} (hgok : DgOk b g) (hD : Good b g D u) (hoc : ∀ r, r < b.n → ComeOk b g (D.M r) r u (oc r)) (h0 : u = 0 → f = 0) (hf : 0 < u → Least (FCand b D oc u b.n) (some (fc, f))) : Good b g (nextT g oc D u f fc) (u + 1) := by
  have same : SameTo D (nextT g oc D u f fc) b.n u := ⟨fun i hi => by show _ = if i = u then _ else _; rw [if_neg (by omega)], fun i hi => by show _ = if i = u then _ else _; rw [if_neg (by omega)], fun r i hi => by show _ = if i = u then _ else _; rw [if_neg (by omega)], fun r i hi => by show _ = if i = u then _ else _; rw [if_neg (by omega)]⟩
  intro v hv
  by_cases c : v < u
  · exact (hD v c).same same c
  · have ev : v = u := by omega
    subst ev
    have eF : (nextT g oc D v f fc).F v = f := if_pos rfl
    have eFC : (nextT g oc D v f fc).FC v = fc := if_pos rfl
    have eM : ∀ r, (nextT g oc D v f fc).M r v = nextM g oc f r := fun r => if_pos rfl
    have eMC : ∀ r, (nextT g oc D v f fc).MC r v = nextC g oc f r := fun r => if_pos rfl
    have aM : ∀ r i, i < v → D.M r i = (nextT g oc D v f fc).M r i := fun r i hi => same.M r i hi
    have aM' : ∀ r i, i < v → (nextT g oc D v f fc).M r i = D.M r i := fun r i hi => (aM r i hi).symm
    refine ⟨fun h => by rw [eF]; exact h0 h, fun hp => ?_, fun r hr => ?_, fun r hr => ?_, fun r hr => ?_, fun k hk hw => ?_, fun r hr c t hc => ?_⟩
    · rw [eF, eFC]
      rcases (hf hp).1 with ⟨k, h1, h2, h3, h4⟩ | ⟨r, h1, h2, c', h3⟩
      · exact .inl ⟨k, h1, h2, h3, by rw [← same.F k (by omega)]; exact h4⟩
      · have hm := mix_nn hgok r
        have hn : nextM g oc f r = f := by unfold nextM; rw [h3]; dsimp only; rw [if_neg (by omega)]
        have hn' : nextC g oc f r = c' := by unfold nextC; rw [h3]; dsimp only; rw [if_neg (by omega)]
        have hoc' := hoc r h1
        rw [h3] at hoc'
        exact .inr ⟨r, h1, h2, by rw [eM, hn], by rw [eMC, eM, hn, hn']; exact hoc'.1.congr (aM r)⟩
    · rw [eMC, eM, eF]
      have hoc' := hoc r hr
      unfold nextM nextC
      cases ho : oc r with
      | none => exact .inl ⟨rfl, rfl⟩
      | some p =>
        obtain ⟨c', t⟩ := p
        rw [ho] at hoc'
        dsimp only
        by_cases hlt : f + mixD g r < t
        · rw [if_pos hlt, if_pos hlt]; exact .inl ⟨rfl, rfl⟩
        · rw [if_neg hlt, if_neg hlt]; exact .inr (hoc'.1.congr (aM r))
    · rw [eF, eM]
      have hm := mix_nn hgok r
      have hoc' := hoc r hr
      unfold nextM
      cases ho : oc r with
      | none => dsimp only; omega
      | some p =>
        obtain ⟨c', t⟩ := p
        rw [ho] at hoc'
        dsimp only
        have ht : f ≤ t := by
          by_cases hp : 0 < v
          · exact (hf hp).2 (.mixed r) t (.inr ⟨r, hr, rfl, c', ho⟩)
          · exfalso
            have hc := hoc'.1
            cases c' with
            | rest k => have := hc.1; omega
            | batch f' s => obtain ⟨_, _, m, _, h1, h2, _⟩ := hc; omega
            | mixed _ => exact hc
            | free => exact hc
        split <;> omega
    · rw [eF, eM]
      have hm := mix_nn hgok r
      unfold nextM
      cases ho : oc r with
      | none => exact Int.le_refl _
      | some p => obtain ⟨c', t⟩ := p; dsimp only; split <;> omega
    · rw [eF, ← same.F k (by omega)]
      exact (hf (by omega)).2 (.rest k) _ (.inl ⟨k, rfl, hk, hw, rfl⟩)
    · rw [eM]
      have hoc' := hoc r hr
      have hc' := hc.congr (aM' r)
      unfold nextM
      cases ho : oc r with
      | none => rw [ho] at hoc'; exact absurd hc' (hoc' c t)
      | some p =>
        obtain ⟨c', t'⟩ := p
        rw [ho] at hoc'
        have := hoc'.2 c t hc'
        dsimp only
        split <;> omega
end K66

/-! ## R13 -/
set_option maxHeartbeats 4000000
namespace K66
open PySem PySem.Spec PyProof.Rows L2
def CauseO (H : Hp) (v : V) : Option (Cause × Int) → Prop
  | none => v = .non
  | some (c, _) => CauseAt H v c
theorem CauseO.up {H H' : Hp} {v : V} {o : Option (Cause × Int)} (h : CauseO H v o) (e : Ex H H') : CauseO H' v o := by
  cases o with
  | none => exact h
  | some p => exact CauseAt.up h e
theorem CauseP.o {H H' : Hp} {v : V} {o : Option (Cause × Int)} (h : CauseP o H v H') : CauseO H' v o := by
  cases o with
  | none => exact h
  | some p => obtain ⟨t, h1, _, h2⟩ := h; exact ⟨t, h1, h2⟩
/-- what come_to told for each day, in a list -/
def ComeAt (H : Hp) (pc : Addr) (ys : List V) (n : Nat) (oc : Nat → Option (Cause × Int)) : Prop := H pc = some (.lst ys) ∧ ys.length = n ∧ ∀ r, r < n → ∃ T cv, ys[r]? = some (.ref T) ∧ H T = some (.tup [vO (valO (oc r)), cv]) ∧ CauseO H cv (oc r)
theorem ComeAt.up {H H' : Hp} {pc : Addr} {ys : List V} {n : Nat} {oc : Nat → Option (Cause × Int)} (h : ComeAt H pc ys n oc) (e : Ex H H') : ComeAt H' pc ys n oc :=
  ⟨e _ _ h.1, h.2.1, fun r hr => let ⟨T, cv, h1, h2, h3⟩ := h.2.2 r hr; ⟨T, cv, h1, e _ _ h2, h3.up e⟩⟩
section
variable {K : PySem.W.Frag} {σ : L2.St} {H H' Hs : Hp} {S : Addr → Option (List V)} {ta tb tc te tx : TE} {v : V} {vs : List V} {Q : VK} {E : XK} {b : Bk} {g : List Dg} {L : Lay}
theorem CauseAt.fwd {c : Cause} (h : CauseAt H' v c) (lv : Live Hs S H') (tr : ∀ a o, H' a = some o → S a = none → Hs a = some o) : CauseAt Hs v c := by
  obtain ⟨t, rfl, ht⟩ := h
  exact ⟨t, rfl, tr _ _ ht (lv.no_tup ht)⟩
theorem ComeAt.fwd {pc : Addr} {ys : List V} {n : Nat} {oc : Nat → Option (Cause × Int)} (h : ComeAt H' pc ys n oc) (hp : S pc = none) (lv : Live Hs S H') (tr : ∀ a o, H' a = some o → S a = none → Hs a = some o) : ComeAt Hs pc ys n oc :=
  ⟨tr _ _ h.1 hp, h.2.1, fun r hr => by
    obtain ⟨T, cv, h1, h2, h3⟩ := h.2.2 r hr
    refine ⟨T, cv, h1, tr _ _ h2 (lv.no_tup h2), ?_⟩
    cases e : oc r with
    | none => rw [e] at h3; exact h3
    | some p => rw [e] at h3; exact CauseAt.fwd h3 lv tr⟩
theorem Rep.up {n : Nat} {D : Tab} {u w : Nat} {x : Nat → Nat} {Hs' : Hp} (h : Rep L n D u w x S Hs) (e : Ex Hs Hs') : Rep L n D u w x S Hs' :=
  ⟨h.F, let ⟨vs, h1, h2, h3⟩ := h.FC; ⟨vs, h1, h2, fun i v hi hv => (h3 i v hi hv).up e⟩, h.M, fun r hr => let ⟨vs, h1, h2, h3⟩ := h.MC r hr; ⟨vs, h1, h2, fun i v hv => (h3 i v hv).up e⟩⟩
theorem Rep.x_eq {n : Nat} {D : Tab} {u w : Nat} {x y : Nat → Nat} (h : Rep L n D u w x S Hs) (e : ∀ r, r < n → x r = y r) : Rep L n D u w y S Hs :=
  ⟨h.F, h.FC, fun r hr => by rw [← e r hr]; exact h.M r hr, fun r hr => by rw [← e r hr]; exact h.MC r hr⟩
theorem ev_meth {Pre : List V → Hp → PP → Prop} {E : XK} {t : TA} {m : Str} {C a dx : Addr} {fs : List (Str × V)} {P : PP} [UP P] (hi : H a = some (.ins C dx fs)) (hl : fs.lookup m = none) (ha : Ev ta σ H (Is (.ref a))) (hx : EvX t σ H vs) (hs : Pre (.ref a :: vs) H P) : Ev (tMeth C m (spOf Pre) [] E ta t) σ H P := fun H1 e Q q =>
  ha H1 e _ fun x H2 e2 hv => by
    have z : x = .ref a := hv
    subst z
    refine ⟨a, dx, fs, rfl, (e.trans e2) _ _ hi, hl, ?_⟩
    exact hx H2 (e.trans e2) _ fun H3 e3 => ⟨H, P, (e.trans e2).trans e3, by rw [List.append_nil]; exact hs, fun v H' e' p => q v H' ((e2.trans e3).trans e') (UP.dn p (e2.trans e3))⟩
/-- some day's come_to always finds a way -/
theorem come_some {D : Tab} {k : Nat} {o : Option (Cause × Int)} (hok : b.ok) (hk : k < b.n) (h : ComeOk b g (D.M 0) 0 (k + 1) o) : ∃ p, o = some p := by
  cases o with
  | some p => exact ⟨p, rfl⟩
  | none =>
    exfalso
    have hc : ∃ y, b.cost g 0 k k = some y := by
      unfold Bk.cost
      by_cases hw : b.want k = 0
      · rw [if_pos hw]; exact ⟨_, rfl⟩
      · rw [if_neg hw]
        have hp : b.price k k = some (b.loaf k + sumF b.keep k k) := (price_ahead (Nat.le_refl k)).mpr ⟨by
          unfold tooLong
          rw [Nat.sub_self]
          cases e : b.life with
          | none => rfl
          | some L' => exact decide_eq_false (by have := (hok.lifeOk L' e).1; show ¬ L' < ((0 : Nat) : Int); omega), rfl⟩
        rw [hp]; exact ⟨_, rfl⟩
    obtain ⟨y, hy⟩ := hc
    exact h (.batch k k) _ ⟨Nat.zero_le k, hk, 1, 0 + y, by decide, rfl, csum_succ (x := 0) rfl hy, rfl⟩
section
variable {D : Tab} {oc : Nat → Option (Cause × Int)} {u : Nat} {f : Int} {fc : Cause}
theorem nt_F {i : Nat} (h : i ≠ u) : (nextT g oc D u f fc).F i = D.F i := if_neg h
theorem nt_FC {i : Nat} (h : i ≠ u) : (nextT g oc D u f fc).FC i = D.FC i := if_neg h
theorem nt_M {r i : Nat} (h : i ≠ u) : (nextT g oc D u f fc).M r i = D.M r i := if_neg h
theorem nt_MC {r i : Nat} (h : i ≠ u) : (nextT g oc D u f fc).MC r i = D.MC r i := if_neg h
end
theorem rd_Climb_step (h : sp_Climb_step K vs H Q E) : t_Climb_step K (DD Q) (start N_Climb_step vs) H := by
  obtain ⟨b, g, L, u, D, S, Hs, rfl, hok, hgok, hf, off, lv, hu, rep, hF0, good, k⟩ := h
  have hmost : b.n ≤ 40 := hok.most
  have fH := hf.up lv.ex
  refine Sx.at (x_asg (P := NewLs b.n fun r => ComeP b g (D.M r) r u) ?_ fun v H1 e1 pp => ?_)
  · refine ev_lc (Yt := fun i x _ => x = .int (i : Int)) (ei_rng1 (n := b.n) (ex_cons (Ev.eq (ev_lenL fH.mixes (fx_mixes fH rfl)) (by rw [List.length_map, List.length_range])) ex_nil) (by omega)) (by omega) fun r x H1 e hr hx => ?_
    subst hx
    exact ⟨_, eg_name, rfl, ev_meth ((fH.up e).ins) rfl (ev_var rfl) (ex_cons (ev_var rfl) (ex_cons (ev_var rfl) ex_nil)) ⟨b, g, L, r, u, D.M r, rfl, hok, hgok, fH.up e, e _ _ (lv.at_ _ _ (rep.M r hr)), hr, hu, rfl⟩⟩
  obtain ⟨pc, ys, rfl, hpn, hpc, hyl, hy⟩ := pp
  have hch : ∀ r, ∃ o : Option (Cause × Int), r < b.n → ComeOk b g (D.M r) r u o ∧ ∃ T cv, ys[r]? = some (.ref T) ∧ H1 T = some (.tup [vO (valO o), cv]) ∧ CauseO H1 cv o := fun r => by
    by_cases hr : r < b.n
    · obtain ⟨o, ho, T, us, e, _, hT, pa⟩ := hy r _ (List.getElem?_eq_getElem (by omega))
      cases pa with
      | cons a1 pa => cases pa with
        | cons a2 pa =>
          cases pa
          have z : _ = vO (valO o) := a1
          subst z
          exact ⟨o, fun _ => ⟨ho, T, _, by rw [List.getElem?_eq_getElem (by omega), e], hT, CauseP.o a2⟩⟩
    · exact ⟨none, fun h => absurd h hr⟩
  obtain ⟨oc, hoc⟩ := Classical.axiomOfChoice hch
  have come1 : ComeAt H1 pc ys b.n oc := ⟨hpc, hyl, fun r hr => (hoc r hr).2⟩
  have hSpc : S pc = none := lv.no_new hpn
  refine x_ifJ (bb := decide (0 < u)) (fun σ' H' => ∃ (f : Int) (fc : Cause) (S1 : Addr → Option (List V)) (Hs1 : Hp) (o3 o4 o5 o6 o7 : Option V), (u = 0 → f = 0) ∧ (0 < u → Least (FCand b D oc u b.n) (some (fc, f))) ∧ Ex Hs Hs1 ∧ ComeAt Hs1 pc ys b.n oc ∧ Live Hs1 S1 H' ∧ Rep L b.n (nextT g oc D u f fc) (u + 1) (u + 1) (fun _ => u) S1 Hs1 ∧
    σ' = [some (.ref L.a), some (.int (u : Int)), some (.ref pc), o3, o4, o5, o6, o7, none]) (EvT.eq (et_test (ev_I0 (ev_var rfl) ev_c)) (by show decide ((0 : Int) < (u : Int)) = decide (0 < u); by_cases h : 0 < u <;> simp [h])) (fun kont hb => ?_) (fun kont hb => ?_) fun σ' H' ⟨f, fc, S1, Hs1, o3, o4, o5, o6, o7, w1, w2, w3, w4, w5, w6, es⟩ => ?_
  · -- free's own number
    obtain ⟨k', rfl⟩ : ∃ k', u = k' + 1 := ⟨u - 1, by have := of_decide_eq_true hb; omega⟩
    refine x_set (v := .non) ev_c (x_set (v := .non) ev_c ?_)
    refine x_ifJ (bb := decide (b.want k' = 0)) (fun σ' H' => Ex H1 H' ∧ ∃ (o : Option (Cause × Int)) (v : V), CauseO H' v o ∧ Least (FCand b D oc (k' + 1) 0) o ∧ σ' = [some (.ref L.a), some (.int ((k' + 1 : Nat) : Int)), some (.ref pc), some (vO (valO o)), some v, none, none, none, none])
      (EvT.eq (et_test (ev_eq (fx_want (fH.up e1) hok rfl (i := k') (by omega) (ev_less1 (ev_var rfl))) ev_c eqI)) (by rw [dec_int]; rfl)) (fun kont hw => ?_) (fun kont hw => ?_) fun σ' H' ⟨w1, o, v, w2, w3, es⟩ => ?_
    · have hw := of_decide_eq_true hw
      refine x_set (v := .int (D.F k')) (ev_ixL (e1 _ _ (lv.at_ _ _ rep.F)) (fx_free (fH.up e1) rfl) (ev_less1 (ev_var rfl)) (numV_at (by omega))) ?_
      refine x_asg (P := NewT (Cause.rest k').vals) (ev_tup (ex_cons ev_c (ex_cons (ev_less1 (ev_var rfl)) ex_nil)) (by show 2 ≤ 100000; decide)) fun v H2 e2 pp => ?_
      obtain ⟨t, rfl, _, ht⟩ := pp
      exact x_next fun H3 e3 => (kont _ H3 ⟨e2.trans e3, some (.rest k', D.F k'), .ref t, ⟨t, rfl, e3 _ _ ht⟩, ⟨.inl ⟨k', rfl, rfl, hw, rfl⟩, fun c t h => by
        rcases h with ⟨k2, rfl, h2, h3, rfl⟩ | ⟨r, h1, _⟩
        · have : k2 = k' := by omega
          rw [this]; exact Int.le_refl _
        · omega⟩, rfl⟩).at
    · have hw := of_decide_eq_false hw
      exact x_next fun H3 e3 => (kont _ H3 ⟨e3, none, .non, rfl, (fun c t h => by
        rcases h with ⟨k2, rfl, h2, h3, rfl⟩ | ⟨r, h1, _⟩
        · have : k2 = k' := by omega
          rw [this] at h3; exact hw h3
        · omega), rfl⟩).at
    · subst es
      refine x_forE (come1.up w1).1 (ex_cons (ev_var rfl) ex_nil) (fun i σ' H' => Ex H1 H' ∧ ∃ (o : Option (Cause × Int)) (v : V) (o5 o6 o7 : Option V), CauseO H' v o ∧ Least (FCand b D oc (k' + 1) i) o ∧ σ' = [some (.ref L.a), some (.int ((k' + 1 : Nat) : Int)), some (.ref pc), some (vO (valO o)), some v, o5, o6, o7, none])
        (fun H3 e3 => ⟨w1.trans e3, o, v, none, none, none, w2.up e3, w3, rfl⟩) (fun i σ' H' w => w.1 _ _ hpc) (fun i x σ' H' T H2 hx ⟨w1, o, v, o5, o6, o7, w2, w3, es⟩ e2 hT => ?_) fun σ' H' ⟨w1, o, v, o5, o6, o7, w2, w3, es⟩ => ?_
      · subst es
        have hi : i < b.n := by rw [← hyl]; exact (List.getElem?_eq_some_iff.mp hx).1
        obtain ⟨T', cv, q1, q2, q3⟩ := come1.2.2 i hi
        rw [hx] at q1
        obtain rfl := Option.some.inj q1
        have e12 := w1.trans e2
        refine ⟨_, eg_tup2 hT eg_name (eg_tup2 (e12 _ _ q2) eg_name eg_name), ?_⟩
        have grow : ∀ c t, (FCand b D oc (k' + 1) i c t ∨ (c = .mixed i ∧ ∃ c', oc i = some (c', t))) ↔ FCand b D oc (k' + 1) (i + 1) c t := fun c t => by
          constructor
          · rintro ((h | ⟨r, h1, h2⟩) | ⟨h1, h2⟩)
            · exact .inl h
            · exact .inr ⟨r, by omega, h2⟩
            · exact .inr ⟨i, by omega, h1, h2⟩
          · rintro (h | ⟨r, h1, h2⟩)
            · exact .inl (.inl h)
            · by_cases c : r < i
              · exact .inl (.inr ⟨r, c, h2⟩)
              · have : r = i := by omega
                subst this
                exact .inr h2
        cases ho : oc i with
        | none =>
          refine x_pass (et_and (a := false) (b := false) (EvT.eq (et_test (ev_notN (ev_var (v := .non) rfl))) rfl) fun z => by cases z) rfl (x_next fun H3 e3 => ⟨e12.trans e3, o, v, _, _, _, (w2.up e2).up e3, w3.same fun c t => ?_, rfl⟩)
          rw [← grow c t, ho]
          exact ⟨fun h => .inl h, fun h => h.elim id fun h => by obtain ⟨_, c', h⟩ := h; cases h⟩
        | some p =>
          obtain ⟨c', t⟩ := p
          rw [ho] at grow
          have grow' : ∀ c t', FCand b D oc (k' + 1) (i + 1) c t' ↔ (FCand b D oc (k' + 1) i c t' ∨ (c = .mixed i ∧ t' = t)) := fun c t' => by
            rw [← grow c t']
            constructor
            · rintro (h | ⟨h1, c2, h2⟩)
              · exact .inl h
              · injection h2 with h2; injection h2 with h2 h3; exact .inr ⟨h1, h3.symm⟩
            · rintro (h | ⟨h1, h2⟩)
              · exact .inl h
              · exact .inr ⟨h1, c', by rw [h2]⟩
          have newC : ∀ {σ : L2.St} {H : Hp}, σ[5]? = some (some (.int (i : Int))) → Ev (tTup (tCons (tC (.str "mixed")) (tCons (tVar 5) tNil))) σ H (NewT (Cause.mixed i).vals) := fun h => ev_tup (ex_cons ev_c (ex_cons (ev_var h) ex_nil)) (by show 2 ≤ 100000; decide)
          cases o with
          | none =>
            refine x_if (b := true) (et_and (a := true) (b := true) (EvT.eq (et_test (ev_notN (ev_var (v := .int t) rfl))) rfl) fun _ => et_or (a := true) (b := true) (EvT.eq (et_test (ev_isN (ev_var (v := .non) rfl))) rfl) fun z => by cases z) (fun _ => ?_) fun z => by cases z
            refine x_set (v := .int t) (ev_var rfl) (x_asg (newC rfl) fun v' H3 e3 pp => ?_)
            obtain ⟨t', rfl, _, ht'⟩ := pp
            exact x_fall (x_next fun H4 e4 => ⟨(e12.trans e3).trans e4, some (.mixed i, t), .ref t', _, _, _, ⟨t', rfl, e4 _ _ ht'⟩, w3.take grow' fun c t h => by (cases h), rfl⟩)
          | some p =>
            obtain ⟨c1, t1⟩ := p
            refine x_if (b := decide (t < t1)) (EvT.eq (et_and (a := true) (EvT.eq (et_test (ev_notN (ev_var (v := .int t) rfl))) rfl) fun _ => et_or (a := false) (EvT.eq (et_test (ev_isN (ev_var (v := .int t1) rfl))) rfl) fun _ => et_test (ev_I0 (ev_var (v := .int t) rfl) (ev_var (v := .int t1) rfl))) rfl) (fun hlt => ?_) fun hlt => ?_
            · refine x_set (v := .int t) (ev_var rfl) (x_asg (newC rfl) fun v' H3 e3 pp => ?_)
              obtain ⟨t', rfl, _, ht'⟩ := pp
              exact x_fall (x_next fun H4 e4 => ⟨(e12.trans e3).trans e4, some (.mixed i, t), .ref t', _, _, _, ⟨t', rfl, e4 _ _ ht'⟩, w3.take grow' fun c t h => by (injection h with h; injection h with h h2; have := of_decide_eq_true hlt; omega), rfl⟩)
            · exact x_fall (x_next fun H4 e4 => ⟨e12.trans e4, some (c1, t1), v, _, _, _, (w2.up e2).up e4, w3.keep grow' (by have := of_decide_eq_false hlt; omega), rfl⟩)
      · subst es
        rw [hyl] at w3
        have hm1 : max 1 (k' + 1) = k' + 1 := by omega
        rw [hm1] at rep
        obtain ⟨p0, hp0⟩ := come_some (o := oc 0) hok (k := k') (by omega) (hoc 0 (by omega)).1
        obtain ⟨fc, f, rfl⟩ : ∃ fc f, o = some (fc, f) := by
          cases o with
          | some p => exact ⟨p.1, p.2, rfl⟩
          | none => exact absurd (.inr ⟨0, by omega, rfl, p0.1, by rw [hp0]⟩) (w3 (.mixed 0) p0.2)
        obtain ⟨Hs1, x1, lv1, tr1⟩ := lv.fwd (e1.trans w1)
        have cAt : CauseAt Hs1 v fc := CauseAt.fwd w2 lv1 tr1
        have come2 : ComeAt Hs1 pc ys b.n oc := (come1.up w1).fwd hSpc lv1 tr1
        refine x_app (P := Is (.int f)) (lv1.at_ _ _ rep.F) (fx_free (fH.up (e1.trans w1)) rfl) (ev_var rfl) (by rw [numV_len]; omega) fun v2 H2 e2 pp => ?_
        have z : v2 = .int f := pp
        subst z
        obtain ⟨Hs2, x2, lv2, tr2⟩ := lv1.fwd e2
        have lv3 := lv2.app (ys := numV (k' + 1) D.F ++ [.int f]) rep.F
        obtain ⟨cs, r1, r2, r3⟩ := rep.FC
        have r1' : setS S L.FR (numV (k' + 1) D.F ++ [.int f]) L.FF = some cs := by rw [setS_ne off.rf.symm]; exact r1
        refine x_app (P := Is v) (lv3.at_ _ _ r1') (fx_ff (hf.up ((x1.trans x2).trans lv3.ex)) rfl) (ev_var rfl) (by omega) fun v3 H3 e3 pp => ?_
        obtain rfl : v3 = v := pp
        obtain ⟨Hs4, x4, lv4, tr4⟩ := lv3.fwd e3
        have lv5 := lv4.app (ys := cs ++ [v3]) r1'
        refine x_next fun H5 e5 => ?_
        obtain ⟨Hs6, x6, lv6, tr6⟩ := lv5.fwd e5
        have x16 := (x2.trans x4).trans x6
        refine (kont _ H5 ⟨f, fc, _, Hs6, some (.int f), some v3, o5, o6, o7, (fun h => by cases h), fun _ => w3, x1.trans x16, come2.up x16, lv6, ⟨?_, ?_, fun r hr => ?_, fun r hr => ?_⟩, rfl⟩).at
        · have eA : numV (k' + 1 + 1) (nextT g oc D (k' + 1) f fc).F = numV (k' + 1) D.F ++ [.int f] := by
            rw [← numV_snoc (u := k' + 1) (f := (nextT g oc D (k' + 1) f fc).F), numV_congr (u := k' + 1) (f := (nextT g oc D (k' + 1) f fc).F) (f' := D.F) fun i hi => nt_F (by omega)]
            show _ ++ [V.int (if k' + 1 = k' + 1 then f else D.F (k' + 1))] = _
            rw [if_pos rfl]
          rw [setS_ne off.rf, setS_same, eA]
        · refine ⟨cs ++ [v3], setS_same, by simp [r2], fun i w hi hw => ?_⟩
          rcases snoc_get hw with ⟨hj, hw⟩ | ⟨hj, rfl⟩
          · rw [nt_FC (by omega)]
            exact (r3 i w hi hw).up (x1.trans x16)
          · have : (nextT g oc D (k' + 1) f fc).FC i = fc := if_pos (by omega)
            rw [this]
            exact cAt.up x16
        · rw [setS_ne (off.fx r hr).symm, setS_ne (off.rx r hr).symm, rep.M r hr]
          exact congrArg some (numV_congr fun i hi => (nt_M (by omega)).symm)
        · obtain ⟨cs', c1, c2, c3⟩ := rep.MC r hr
          refine ⟨cs', by rw [setS_ne (off.fy r hr).symm, setS_ne (off.ry r hr).symm]; exact c1, c2, fun i w hw => ?_⟩
          have hi := (List.getElem?_eq_some_iff.mp hw).1
          rw [nt_MC (by omega)]
          exact (c3 i w hw).up (x1.trans x16)
  · -- nothing was before
    have hu0 : u = 0 := by have := of_decide_eq_false hb; omega
    subst hu0
    refine x_next fun H3 e3 => ?_
    obtain ⟨Hs1, x1, lv1, tr1⟩ := lv.fwd (e1.trans e3)
    refine (kont _ H3 ⟨0, .free, S, Hs1, none, none, none, none, none, fun _ => rfl, fun h => absurd h (by decide), x1, (come1.up e3).fwd hSpc lv1 tr1, lv1, ⟨?_, ?_, fun r hr => ?_, fun r hr => ?_⟩, rfl⟩).at
    · rw [rep.F]
      exact congrArg some (numV_congr fun i hi => by
        have : i = 0 := by omega
        subst this
        exact hF0)
    · obtain ⟨cs, r1, r2, r3⟩ := rep.FC
      exact ⟨cs, r1, r2, fun i v hi hv => by
        have := (List.getElem?_eq_some_iff.mp hv).1
        rw [r2] at this
        exact absurd this (by show ¬ i < 1; omega)⟩
    · exact rep.M r hr
    · obtain ⟨cs, r1, r2, r3⟩ := rep.MC r hr
      exact ⟨cs, r1, r2, fun i v hv => by
        have := (List.getElem?_eq_some_iff.mp hv).1
        omega⟩
  · subst es
    have eF : (nextT g oc D u f fc).F u = f := if_pos rfl
    refine x_forE (w4.up w5.ex).1 (ex_cons (ev_var rfl) ex_nil) (fun i σ' H' => ∃ (S2 : Addr → Option (List V)) (Hs2 : Hp) (o5 o6 o7 o8 : Option V), Ex Hs1 Hs2 ∧ Live Hs2 S2 H' ∧ Rep L b.n (nextT g oc D u f fc) (u + 1) (u + 1) (fun q => if q < i then u + 1 else u) S2 Hs2 ∧
      σ' = [some (.ref L.a), some (.int (u : Int)), some (.ref pc), o3, o4, o5, o6, o7, o8])
      (fun H3 e3 => by
        obtain ⟨Hs2, x2, lv2, _⟩ := w5.fwd e3
        exact ⟨S1, Hs2, o5, o6, o7, none, x2, lv2, (w6.up x2).x_eq fun r _ => by rw [if_neg (Nat.not_lt_zero r)], rfl⟩)
      (fun i σ' H' ⟨S2, Hs2, _, _, _, _, x2, lv2, _⟩ => lv2.ex _ _ (x2 _ _ w4.1)) (fun i x σ' H' T H2 hx ⟨S2, Hs2, o5, o6, o7, o8, x2, lv2, rp, es⟩ e2 hT => ?_) fun σ' H' ⟨S2, Hs2, o5, o6, o7, o8, x2, lv2, rp, es⟩ => ?_
    · subst es
      have hi : i < b.n := by rw [← hyl]; exact (List.getElem?_eq_some_iff.mp hx).1
      obtain ⟨T', cv, q1, q2, q3⟩ := w4.2.2 i hi
      rw [hx] at q1
      obtain rfl := Option.some.inj q1
      obtain ⟨Hs3, x3, lv3, tr3⟩ := lv2.fwd e2
      have x13 := x2.trans x3
      have e13 : Ex Hs1 H2 := x13.trans lv3.ex
      have f2 : Fix K b g L H2 := (hf.up w3).up e13
      refine ⟨_, eg_tup2 hT eg_name (eg_tup2 (e13 _ _ q2) eg_name eg_name), ?_⟩
      refine x_set (v := .int (f + mixD g i)) (ev_I0 (i := f) (ev_ixL (lv3.at_ _ _ rp.F) (fx_free f2 rfl) (ev_var rfl) (by rw [numV_at (show u < u + 1 by omega), eF])) (fx_mix f2 rfl hi (ev_var rfl))) ?_
      refine x_ifJ (bb := match oc i with | none => true | some (_, t) => decide (f + mixD g i < t)) (fun σ' H' => Ex H2 H' ∧ ∃ cv, CauseAt H' cv (nextC g oc f i) ∧ σ' = [some (.ref L.a), some (.int (u : Int)), some (.ref pc), o3, o4, some (.int (i : Int)), some (.int (nextM g oc f i)), some cv, some (.int (f + mixD g i))])
        ?_ (fun kont hb => ?_) (fun kont hb => ?_) fun σ' H3 ⟨w1', cv', w2', es⟩ => ?_
      · cases ho : oc i with
        | none => exact et_or (a := true) (b := true) (EvT.eq (et_test (ev_isN (ev_var (v := .non) rfl))) rfl) fun z => by cases z
        | some p => exact EvT.eq (et_or (a := false) (EvT.eq (et_test (ev_isN (ev_var (v := .int p.2) rfl))) rfl) fun _ => et_test (ev_I0 (ev_var rfl) (ev_var (v := .int p.2) rfl))) rfl
      · have hM : nextM g oc f i = f + mixD g i ∧ nextC g oc f i = .free := by
          unfold nextM nextC
          cases ho : oc i with
          | none => exact ⟨rfl, rfl⟩
          | some p =>
            rw [ho] at hb
            have := of_decide_eq_true hb
            dsimp only
            rw [if_pos this, if_pos this]
            exact ⟨rfl, rfl⟩
        refine x_set (v := .int (f + mixD g i)) (ev_var rfl) (x_asg (P := NewT Cause.free.vals) (ev_tup (ex_cons ev_c ex_nil) (by show 1 ≤ 100000; decide)) fun v' H3 e3 pp => ?_)
        obtain ⟨t', rfl, _, ht'⟩ := pp
        exact x_next fun H4 e4 => (kont _ H4 ⟨e3.trans e4, .ref t', by rw [hM.2]; exact ⟨t', rfl, e4 _ _ ht'⟩, by rw [hM.1]; rfl⟩).at
      · refine x_next fun H4 e4 => (kont _ H4 ⟨e4, cv, ?_, ?_⟩).at
        · unfold nextC
          cases ho : oc i with
          | none => rw [ho] at hb; cases hb
          | some p =>
            rw [ho] at hb q3
            have := of_decide_eq_false hb
            dsimp only
            rw [if_neg this]
            exact (CauseAt.up q3 e13).up e4
        · unfold nextM
          cases ho : oc i with
          | none => rw [ho] at hb; cases hb
          | some p =>
            rw [ho] at hb
            have := of_decide_eq_false hb
            dsimp only
            rw [if_neg this]
            rfl
      · subst es
        have rM := rp.M i hi
        have eI : (if i < i then u + 1 else u) = u := if_neg (Nat.lt_irrefl i)
        rw [eI] at rM
        obtain ⟨cs, c1, c2, c3⟩ := rp.MC i hi
        rw [eI] at c2
        obtain ⟨Hs4, x4, lv4, tr4⟩ := lv3.fwd w1'
        have f3 : Fix K b g L H3 := f2.up w1'
        have cAt : CauseAt Hs4 cv' (nextC g oc f i) := CauseAt.fwd w2' lv4 tr4
        refine x_app (P := Is (.int (nextM g oc f i))) (lv4.at_ _ _ rM) (fx_mx f3 rfl hi (ev_var rfl)) (ev_var rfl) (by rw [numV_len]; omega) fun v4 H4 e4 pp => ?_
        have z : v4 = .int (nextM g oc f i) := pp
        subst z
        obtain ⟨Hs5, x5, lv5, tr5⟩ := lv4.fwd e4
        have lv6 := lv5.app (ys := numV u ((nextT g oc D u f fc).M i) ++ [.int (nextM g oc f i)]) rM
        have c1' : setS S2 (L.mx i) (numV u ((nextT g oc D u f fc).M i) ++ [.int (nextM g oc f i)]) (L.mf i) = some cs := by rw [setS_ne (off.xy i i hi hi).symm]; exact c1
        have x15 := (x13.trans x4).trans x5
        refine x_app (P := Is cv') (lv6.at_ _ _ c1') (fx_mfi (((hf.up w3).up x15).up lv6.ex) rfl hi (ev_var rfl)) (ev_var rfl) (by omega) fun v5 H5 e5 pp => ?_
        obtain rfl : v5 = cv' := pp
        obtain ⟨Hs7, x7, lv7, tr7⟩ := lv6.fwd e5
        have lv8 := lv7.app (ys := cs ++ [v5]) c1'
        refine x_next fun H6 e6 => ?_
        obtain ⟨Hs9, x9, lv9, tr9⟩ := lv8.fwd e6
        have x29 : Ex Hs2 Hs9 := (((x3.trans x4).trans x5).trans x7).trans x9
        refine ⟨_, Hs9, some (.int (i : Int)), some (.int (nextM g oc f i)), some v5, some (.int (f + mixD g i)), x2.trans x29, lv9, ⟨?_, ?_, fun q hq => ?_, fun q hq => ?_⟩, rfl⟩
        · rw [setS_ne (off.ry i hi), setS_ne (off.rx i hi)]; exact rp.F
        · obtain ⟨ds, d1, d2, d3⟩ := rp.FC
          exact ⟨ds, by rw [setS_ne (off.fy i hi), setS_ne (off.fx i hi)]; exact d1, d2, fun j w hj hw => (d3 j w hj hw).up x29⟩
        · by_cases c : q = i
          · subst c
            rw [setS_ne (off.xy q q hi hi), setS_same, if_pos (Nat.lt_succ_self q), ← numV_snoc]
            congr 1
            show _ ++ [V.int (nextM g oc f q)] = _ ++ [V.int (if u = u then nextM g oc f q else D.M q u)]
            rw [if_pos rfl]
          · rw [setS_ne (off.xy q i hq hi), setS_ne (fun h => c (off.xx q i hq hi h)), rp.M q hq]
            have : (if q < i then u + 1 else u) = if q < i + 1 then u + 1 else u := by
              by_cases h : q < i
              · rw [if_pos h, if_pos (by omega)]
              · rw [if_neg h, if_neg (by omega)]
            rw [this]
        · by_cases c : q = i
          · subst c
            refine ⟨cs ++ [v5], setS_same, by rw [if_pos (Nat.lt_succ_self q)]; simp [c2], fun j w hw => ?_⟩
            rcases snoc_get hw with ⟨hj, hw⟩ | ⟨hj, rfl⟩
            · exact (c3 j w hw).up x29
            · have : (nextT g oc D u f fc).MC q j = nextC g oc f q := if_pos (by omega)
              rw [this]
              exact cAt.up ((x5.trans x7).trans x9)
          · obtain ⟨ds, d1, d2, d3⟩ := rp.MC q hq
            refine ⟨ds, by rw [setS_ne (fun h => c (off.yy q i hq hi h)), setS_ne (off.xy i q hi hq).symm]; exact d1, ?_, fun j w hw => (d3 j w hw).up x29⟩
            rw [d2]
            by_cases h : q < i
            · rw [if_pos h, if_pos (by omega)]
            · rw [if_neg h, if_neg (by omega)]
    · subst es
      refine x_next fun H3 e3 => ?_
      obtain ⟨Hs3, x3, lv3, _⟩ := lv2.fwd e3
      refine k (nextT g oc D u f fc) S2 Hs3 H3 ((w3.trans x2).trans x3) lv3 ((rp.up x3).x_eq fun r hr => by rw [hyl]; exact if_pos hr) ?_ (good_step hgok good (fun r hr => (hoc r hr).1) w1 w2)
      by_cases h : 0 = u
      · have : (nextT g oc D u f fc).F 0 = f := if_pos h
        rw [this]; exact w1 h.symm
      · rw [nt_F h]; exact hF0
end
end K66

/-! ## R14 -/
set_option maxHeartbeats 4000000
namespace K66
/-! plans that the causes lead to; no program in sight -/
def days (b : Bk) (f u : Nat) : List Nat := (List.range u).filter fun d => decide (f ≤ d) && decide (0 < b.want d)
section
variable {b : Bk} {g : List Dg} {D : Tab}
theorem days_succ {f u : Nat} : days b f (u + 1) = days b f u ++ if f ≤ u ∧ 0 < b.want u then [u] else [] := by
  unfold days
  rw [List.range_succ, List.filter_append]
  congr 1
  by_cases h1 : f ≤ u <;> by_cases h2 : 0 < b.want u <;> simp [h1, h2]
theorem days_none {f : Nat} : ∀ {u : Nat}, u ≤ f → days b f u = []
  | 0, _ => rfl
  | u + 1, h => by rw [days_succ, days_none (by omega), if_neg (by omega)]; rfl
theorem days_cat {f v : Nat} (h : f ≤ v) : ∀ {n : Nat}, v ≤ n → days b f n = days b f v ++ days b v n
  | n, hv => by
    by_cases e : n = v
    · subst e; rw [days_none (Nat.le_refl n), List.append_nil]
    · obtain ⟨m, rfl⟩ : ∃ m, n = m + 1 := ⟨n - 1, by omega⟩
      rw [days_succ, days_succ, days_cat h (show v ≤ m by omega), List.append_assoc]
      congr 2
      by_cases hw : 0 < b.want m
      · rw [if_pos ⟨by omega, hw⟩, if_pos ⟨by omega, hw⟩]
      · rw [if_neg fun h => hw h.2, if_neg fun h => hw h.2]
theorem days_mem {f u d : Nat} (h : d ∈ days b f u) : f ≤ d ∧ d < u ∧ 0 < b.want d := by
  have h1 := List.mem_filter.mp h
  have h2 := List.mem_range.mp h1.1
  have h3 := h1.2
  simp at h3
  exact ⟨h3.1, h2, h3.2⟩
def mkL (b : Bk) (rs ss : Nat → Nat) (d : Nat) : Lot := ⟨rs d, ss d, d, b.want d⟩
def nodeV (D : Tab) (v : Nat) : Option Nat → Int
  | none => D.F v
  | some r => D.M r v
structure Part (b : Bk) (g : List Dg) (D : Tab) (v : Nat) (at' : Option Nat) (ls : List Lot) (rs ss : Nat → Nat) (RL SL : List Nat) : Prop where
  le : v ≤ b.n
  at_ : ∀ r, at' = some r → r < b.n
  perm : ls.Perm ((days b v b.n).map (mkL b rs ss))
  ok : ∀ d, v ≤ d → d < b.n → 0 < b.want d → rs d ≤ ss d ∧ ss d < b.n ∧ ∃ p, b.price (ss d) d = some p
  rin : ∀ d, v ≤ d → d < b.n → 0 < b.want d → rs d ∈ RL ∨ at' = some (rs d)
  sin : ∀ d, v ≤ d → d < b.n → 0 < b.want d → ss d ∈ SL
  cost : (ls.map (lotVal b g)).sum + sumL (mixD g) RL + sumL b.light SL + nodeV D v at' = D.F b.n
theorem sumL_cons (f : Nat → Int) (a : Nat) (l : List Nat) : sumL f (a :: l) = f a + sumL f l := by unfold sumL; rw [List.map_cons, List.sum_cons]
theorem Part.start : Part b g D b.n none [] (fun _ => 0) (fun _ => 0) [] [] := by
  refine ⟨Nat.le_refl _, (fun r h => by cases h), (by rw [days_none (Nat.le_refl _)]; exact .nil), fun d h1 h2 => absurd h2 (by omega), fun d h1 h2 => absurd h2 (by omega), fun d h1 h2 => absurd h2 (by omega), ?_⟩
  show (0 : Int) + 0 + 0 + D.F b.n = D.F b.n
  omega
section
variable {v : Nat} {at' : Option Nat} {ls : List Lot} {rs ss : Nat → Nat} {RL SL : List Nat}
theorem Part.rest {k : Nat} (h : Part b g D (k + 1) at' ls rs ss RL SL) (hw : b.want k = 0) (hv : nodeV D (k + 1) at' = nodeV D k at') : Part b g D k at' ls rs ss RL SL := by
  have hle := h.le
  have e : days b k b.n = days b (k + 1) b.n := by
    rw [days_cat (f := k) (v := k + 1) (by omega) hle, days_succ, days_none (Nat.le_refl k), if_neg (by omega)]; rfl
  have cut : ∀ d, k ≤ d → 0 < b.want d → k + 1 ≤ d := fun d h1 h2 => by
    by_cases e : d = k
    · subst e; omega
    · omega
  exact ⟨by omega, h.at_, by rw [e]; exact h.perm, fun d h1 h2 h3 => h.ok d (cut d h1 h3) h2 h3, fun d h1 h2 h3 => h.rin d (cut d h1 h3) h2 h3, fun d h1 h2 h3 => h.sin d (cut d h1 h3) h2 h3, by rw [← hv]; exact h.cost⟩
theorem Part.mixed {r : Nat} (h : Part b g D v none ls rs ss RL SL) (hr : r < b.n) (hv : D.F v = D.M r v) : Part b g D v (some r) ls rs ss RL SL :=
  ⟨h.le, (fun q hq => by injection hq with hq; rw [← hq]; exact hr), h.perm, h.ok, (fun d h1 h2 h3 => (h.rin d h1 h2 h3).elim .inl fun e => by cases e), h.sin, by rw [← h.cost]; show _ + D.M r v = _ + D.F v; rw [hv]⟩
theorem Part.free {r : Nat} (h : Part b g D v (some r) ls rs ss RL SL) (hv : D.M r v = D.F v + mixD g r) : Part b g D v none ls rs ss (r :: RL) SL :=
  ⟨h.le, (fun q hq => by cases hq), h.perm, h.ok, (fun d h1 h2 h3 => .inl ((h.rin d h1 h2 h3).elim (fun h => List.mem_cons_of_mem _ h) fun e => by injection e with e; rw [e]; exact List.mem_cons_self)), h.sin, by
    have := h.cost
    rw [sumL_cons]
    show _ + D.F v = _
    have e : nodeV D v (some r) = D.F v + mixD g r := hv
    omega⟩
theorem block_sum (hok : b.ok) {r s f : Nat} : ∀ {m : Nat} {y : Int}, csum (b.cost g r s) f m = some y → ((((days b f (f + m)).map (mkL b (fun _ => r) fun _ => s)).map (lotVal b g)).sum = y ∧ ∀ d, f ≤ d → d < f + m → 0 < b.want d → ∃ p, b.price s d = some p)
  | 0, y, h => by
    rw [Nat.add_zero, days_none (Nat.le_refl f)]
    have : some 0 = some y := h
    injection this with this
    exact ⟨this, fun d h1 h2 => by omega⟩
  | m + 1, y, h => by
    obtain ⟨x, z, h1, h2, rfl⟩ := csum_inv h
    obtain ⟨ih1, ih2⟩ := block_sum hok h1
    have hc : (0 < b.want (f + m) → ∃ p, b.price s (f + m) = some p ∧ z = b.want (f + m) * (each g r s + p)) ∧ (b.want (f + m) = 0 → z = 0) := by
      unfold Bk.cost at h2
      refine ⟨fun hw => ?_, fun hw => ?_⟩
      · rw [if_neg (by omega)] at h2
        cases hp : b.price s (f + m) with
        | none => rw [hp] at h2; cases h2
        | some p =>
          rw [hp] at h2
          have h3 : some (b.want (f + m) * p + b.want (f + m) * each g r s) = some z := h2
          injection h3 with h3
          exact ⟨p, rfl, by rw [← h3, Int.mul_add, Int.add_comm]⟩
      · rw [if_pos hw] at h2; injection h2 with h2; exact h2.symm
    refine ⟨?_, fun d h3 h4 h5 => ?_⟩
    · rw [show f + (m + 1) = f + m + 1 from rfl, days_succ, List.map_append, List.map_append, List.sum_append, ih1]
      by_cases hw : 0 < b.want (f + m)
      · rw [if_pos ⟨by omega, hw⟩]
        obtain ⟨p, hp, hz⟩ := hc.1 hw
        congr 1
        show lotVal b g ⟨r, s, f + m, b.want (f + m)⟩ + 0 = z
        unfold lotVal
        rw [hp, hz]
        simp
      · rw [if_neg fun h => hw h.2]
        have h0 : b.want (f + m) = 0 := by have := want_nn hok (f + m); omega
        rw [hc.2 h0]; rfl
    · by_cases e : d = f + m
      · subst e
        obtain ⟨p, hp, _⟩ := hc.1 h5
        exact ⟨p, hp⟩
      · exact ih2 d h3 (by omega) h5
theorem Part.batch (hok : b.ok) {r f s m : Nat} {y : Int} (h : Part b g D (f + m) (some r) ls rs ss RL SL) (hm : 0 < m) (h1 : r ≤ s) (h2 : s < b.n) (hy : csum (b.cost g r s) f m = some y) (hv : D.M r (f + m) = D.M r f + (b.light s + y)) :
    Part b g D f (some r) (ls ++ (days b f (f + m)).map (mkL b (fun _ => r) fun _ => s)) (fun d => if d < f + m then r else rs d) (fun d => if d < f + m then s else ss d) RL (s :: SL) := by
  obtain ⟨b1, b2⟩ := block_sum hok hy
  have hle := h.le
  refine ⟨by omega, h.at_, ?_, fun d h3 h4 h5 => ?_, fun d h3 h4 h5 => ?_, fun d h3 h4 h5 => ?_, ?_⟩
  · rw [days_cat (f := f) (v := f + m) (by omega) hle, List.map_append]
    have e1 : (days b f (f + m)).map (mkL b (fun d => if d < f + m then r else rs d) fun d => if d < f + m then s else ss d) = (days b f (f + m)).map (mkL b (fun _ => r) fun _ => s) :=
      List.map_congr_left fun d hd => by
        have := (days_mem hd).2.1
        unfold mkL
        dsimp only
        rw [if_pos this, if_pos this]
    have e2 : (days b (f + m) b.n).map (mkL b (fun d => if d < f + m then r else rs d) fun d => if d < f + m then s else ss d) = (days b (f + m) b.n).map (mkL b rs ss) :=
      List.map_congr_left fun d hd => by
        have := (days_mem hd).1
        unfold mkL
        dsimp only
        rw [if_neg (by omega), if_neg (by omega)]
    rw [e1, e2]
    exact (h.perm.append_right _).trans List.perm_append_comm
  · by_cases c : d < f + m
    · rw [if_pos c, if_pos c]; exact ⟨h1, h2, b2 d h3 c h5⟩
    · rw [if_neg c, if_neg c]; exact h.ok d (by omega) h4 h5
  · by_cases c : d < f + m
    · rw [if_pos c]; exact .inr rfl
    · rw [if_neg c]; exact h.rin d (by omega) h4 h5
  · by_cases c : d < f + m
    · rw [if_pos c]; exact List.mem_cons_self
    · rw [if_neg c]; exact List.mem_cons_of_mem _ (h.sin d (by omega) h4 h5)
  · rw [List.map_append, List.sum_append, b1, sumL_cons]
    have := h.cost
    have e1 : nodeV D (f + m) (some r) = D.M r f + (b.light s + y) := hv
    have e2 : nodeV D f (some r) = D.M r f := rfl
    omega
theorem sumL_erase (f : Nat → Int) {a : Nat} : ∀ {l : List Nat}, a ∈ l → sumL f l = f a + sumL f (l.erase a)
  | x :: l, h => by
    by_cases e : x = a
    · subst e; rw [List.erase_cons_head, sumL_cons]
    · have h2 : a ∈ l := by
        rcases List.mem_cons.mp h with h | h
        · exact absurd h.symm e
        · exact h
      rw [List.erase_cons_tail (by simpa using e), sumL_cons, sumL_cons, sumL_erase f h2]
      omega
theorem sumL_nn {f : Nat → Int} (hf : ∀ i, 0 ≤ f i) : ∀ l : List Nat, 0 ≤ sumL f l
  | [] => Int.le_refl 0
  | x :: l => by rw [sumL_cons]; have := sumL_nn hf l; have := hf x; omega
theorem sumL_sub {f : Nat → Int} (hf : ∀ i, 0 ≤ f i) : ∀ {a l : List Nat}, a.Nodup → (∀ x ∈ a, x ∈ l) → sumL f a ≤ sumL f l
  | [], l, _, _ => sumL_nn hf l
  | x :: a, l, hn, hs => by
    have hn' := List.nodup_cons.mp hn
    rw [sumL_cons, sumL_erase f (hs x List.mem_cons_self)]
    have := sumL_sub hf (a := a) (l := l.erase x) hn'.2 fun z hz => by
      have : z ≠ x := fun e => hn'.1 (by rw [← e]; exact hz)
      exact (List.mem_erase_of_ne this).mpr (hs z (List.mem_cons_of_mem _ hz))
    omega
theorem once_nodup (rs : List Nat) (n : Nat) : (onceOf rs n).Nodup := List.Pairwise.filter _ List.nodup_range
theorem once_le {f : Nat → Int} (hf : ∀ i, 0 ≤ f i) {rs l : List Nat} {n : Nat} (h : ∀ r ∈ rs, r ∈ l) : sumL f (onceOf rs n) ≤ sumL f l := sumL_sub hf (once_nodup rs n) fun x hx => h x (of_decide_eq_true (List.mem_filter.mp hx).2)
theorem perm_sum {x y : List Int} (h : x.Perm y) : x.sum = y.sum := by
  induction h with
  | nil => rfl
  | cons a _ ih => rw [List.sum_cons, List.sum_cons, ih]
  | swap a b l => rw [List.sum_cons, List.sum_cons, List.sum_cons, List.sum_cons]; omega
  | trans _ _ ih1 ih2 => rw [ih1, ih2]
/-- the plan at the end, in whatever order its lots stand -/
theorem Part.plan (hok : b.ok) (hgok : DgOk b g) (hF : D.F 0 = 0) (h : Part b g D 0 none ls rs ss RL SL) {ls' : List Lot} (hp : ls'.Perm ls) : IsPlan b g ls' ∧ planCost b g ls' ≤ D.F b.n := by
  have hmost := hok.most
  have perm := hp.trans h.perm
  have mem : ∀ l ∈ ls', ∃ d, d < b.n ∧ 0 < b.want d ∧ l = mkL b rs ss d := fun l hl => by
    obtain ⟨d, hd, e⟩ := List.mem_map.mp (perm.mem_iff.mp hl)
    have := days_mem hd
    exact ⟨d, this.2.1, this.2.2, e.symm⟩
  refine ⟨⟨fun l hl => ?_, ?_, rs, ss, ?_, fun d h1 h2 => h.ok d (Nat.zero_le d) h1 h2⟩, ?_⟩
  · obtain ⟨d, h1, h2, rfl⟩ := mem l hl
    obtain ⟨o1, o2, o3⟩ := h.ok d (Nat.zero_le d) h1 h2
    exact ⟨by show rs d < b.n; omega, o2, h1, (row_ok hok d).1, o3⟩
  · rw [perm.length_eq, List.length_map]
    exact Nat.le_trans (List.length_filter_le _ _) (by rw [List.length_range]; exact hmost)
  · have e : days b 0 b.n = (List.range b.n).filter fun d => decide (0 < b.want d) := by
      unfold days
      refine List.filter_congr fun d _ => ?_
      simp
    rw [← e]
    exact perm
  · have c := h.cost
    have e0 : nodeV D 0 none = D.F 0 := rfl
    have hsum : (ls'.map (lotVal b g)).sum = (ls.map (lotVal b g)).sum := perm_sum (hp.map _)
    have l1 : sumL (mixD g) (onceOf (ls'.map (·.r)) b.n) ≤ sumL (mixD g) RL := once_le (fun i => mix_nn hgok i) fun r hr => by
      obtain ⟨l, hl, rfl⟩ := List.mem_map.mp hr
      obtain ⟨d, h1, h2, rfl⟩ := mem l hl
      exact (h.rin d (Nat.zero_le d) h1 h2).elim id fun e => by cases e
    have l2 : sumL b.light (onceOf (ls'.map (·.s)) b.n) ≤ sumL b.light SL := once_le (fun i => light_nn hok i) fun r hr => by
      obtain ⟨l, hl, rfl⟩ := List.mem_map.mp hr
      obtain ⟨d, h1, h2, rfl⟩ := mem l hl
      exact h.sin d (Nat.zero_le d) h1 h2
    unfold planCost
    omega
end
end
end K66

/-! ## R15 -/
set_option maxHeartbeats 4000000
namespace K66
open PySem PySem.Spec PyProof.Rows L2
theorem Two.tail {α : Type} {R : V → α → Prop} {d : α} {x : V} {vs : List V} {y : α} {rs : List α} (h : Two R d (x :: vs) (y :: rs)) : R x y ∧ Two R d vs rs :=
  ⟨h.2 0 x rfl, by have := h.1; simpa using this, fun i v hv => h.2 (i + 1) v hv⟩
theorem Two.cons {α : Type} {R : V → α → Prop} {d : α} {x : V} {vs : List V} {y : α} {rs : List α} (h1 : R x y) (h : Two R d vs rs) : Two R d (x :: vs) (y :: rs) :=
  ⟨by rw [List.length_cons, List.length_cons, h.1], fun i v hv => match i, hv with
    | 0, hv => by obtain rfl : x = v := Option.some.inj hv; exact h1
    | i + 1, hv => h.2 i v hv⟩
theorem Two.perm {α : Type} {R : V → α → Prop} {d : α} {ys ws : List V} (hp : ws.Perm ys) : ∀ {ls : List α}, Two R d ws ls → ∃ ls', ls'.Perm ls ∧ Two R d ys ls' := by
  induction hp with
  | nil => exact fun {ls} h => ⟨ls, .refl _, h⟩
  | @cons x l1 l2 _ ih =>
    intro ls h
    match ls, h with
    | [], h => have := h.1; simp at this
    | y :: ls, h =>
      obtain ⟨h1, h2⟩ := h.tail
      obtain ⟨ls', h3, h4⟩ := ih h2
      exact ⟨y :: ls', h3.cons y, Two.cons h1 h4⟩
  | swap x y l =>
    intro ls h
    match ls, h with
    | [], h => have := h.1; simp at this
    | [a], h => have := h.1; simp at this
    | a :: c :: ls, h =>
      obtain ⟨h1, h2⟩ := h.tail
      obtain ⟨h3, h4⟩ := h2.tail
      exact ⟨c :: a :: ls, .swap a c ls, Two.cons h3 (Two.cons h1 h4)⟩
  | trans _ _ ih1 ih2 =>
    intro ls h
    obtain ⟨l1, h1, h2⟩ := ih1 h
    obtain ⟨l2, h3, h4⟩ := ih2 h2
    exact ⟨l2, h3.trans h1, h4⟩
theorem Two.snoc {α : Type} {R : V → α → Prop} {d : α} {x : V} {vs : List V} {y : α} {rs : List α} (h : Two R d vs rs) (h1 : R x y) : Two R d (vs ++ [x]) (rs ++ [y]) := h.app (Two.cons h1 ⟨rfl, fun i v hv => by simp at hv⟩)
theorem LotAt.mut {H : Hp} {v : V} {l : Lot} {a : Addr} {xs ys : List V} (h : LotAt H v l) (hl : H a = some (.lst xs)) : LotAt (upd H a (.lst ys)) v l := by
  obtain ⟨t, rfl, ht⟩ := h
  exact ⟨t, rfl, by rw [upd_ne (fun e => by rw [e, hl] at ht; cases ht)]; exact ht⟩
section
variable {K : PySem.W.Frag} {σ : L2.St} {H H' Hs : Hp} {S : Addr → Option (List V)} {ta tb tc te tx : TE} {v : V} {vs : List V} {Q : VK} {E : XK} {b : Bk} {g : List Dg} {L : Lay}
theorem ev_sortU {p : Addr} {ws : List V} {ls : List Lot} (hp : H p = some (.lst ws)) (h : Two (LotAt H) lot0 ws ls) (hl : ls.length ≤ 40) (hb : ∀ l ∈ ls, TS.Bd 1000000001 [(l.r : Int), (l.s : Int), (l.d : Int), l.w]) (ha : Ev ta σ H (Is (.ref p))) :
    Ev (tCB (rSortU K 4 1000000001) (tCons ta tNil)) σ H (fun _ v H2 => ∃ q ls', v = .ref q ∧ PlanAt H2 q ls' ∧ ls'.Perm ls) := by
  intro H1 e Q' q'
  refine ex_cons ha ex_nil H1 e _ fun H2 e2 => ?_
  have e02 := e.trans e2
  refine ⟨p, ws, rfl, sqL (e02 _ _ hp), by rw [h.1]; omega, fun x hx => ?_, fun ys q hperm _ hq => ?_⟩
  · obtain ⟨i, hi, e⟩ := List.getElem_of_mem hx
    obtain ⟨l, t, hl, rfl, ht⟩ := LotAt.get h (i := i) (x := x) (by rw [List.getElem?_eq_getElem hi, e])
    exact ⟨[(l.r : Int), (l.s : Int), (l.d : Int), l.w], ⟨t, rfl, sqT (e02 _ _ ht)⟩, rfl, hb l (List.mem_of_getElem? hl)⟩
  · obtain ⟨ls', h1, h2⟩ := Two.perm (R := LotAt H) hperm.symm h
    exact q' _ _ (e2.trans (Ex.new hq)) ⟨q, ls', rfl, ⟨ys, upd_same, h2.1, fun i v hv => (h2.2 i v hv).up (e02.trans (Ex.new hq))⟩, h1⟩
def atV (o : Option Nat) : V := vO (o.map fun (r : Nat) => (r : Int))
def goes (D : Tab) (v : Nat) : Option Nat → Cause
  | none => D.FC v
  | some r => D.MC r v
def isFree : Cause → Bool
  | .free => true
  | _ => false
def mea (D : Tab) (v : Nat) : Option Nat → Nat
  | none => 4 * v + 2
  | some r => if isFree (D.MC r v) then 4 * v + 3 else 4 * v + 1
theorem mea_le (D : Tab) (v : Nat) (o : Option Nat) : 4 * v + 1 ≤ mea D v o ∧ mea D v o ≤ 4 * v + 3 := by
  cases o with
  | none => exact ⟨by show 4 * v + 1 ≤ 4 * v + 2; omega, by show 4 * v + 2 ≤ 4 * v + 3; omega⟩
  | some r => unfold mea; dsimp only; split <;> omega
theorem expl_free {M : Nat → Int} {r u : Nat} {c : Cause} {t : Int} (h : Expl b g M r u c t) : isFree c = false := by
  cases c with
  | free => exact h.elim
  | _ => rfl
theorem rd_Climb_lots (h : sp_Climb_lots K vs H Q E) : t_Climb_lots K (DD Q) (start N_Climb_lots vs) H := by
  obtain ⟨H0, P, e0, ⟨b, g, L, D, S, Hs, rfl, hok, hgok, hn12, hf, lv, rep, hF0, good, rfl⟩, k⟩ := h
  have hmost : b.n ≤ 40 := hok.most
  have sE : Ex Hs H := lv.ex.trans e0
  have fH := hf.up sE
  obtain ⟨fcs, f1, f2, f3⟩ := rep.FC
  have hFF : H L.FF = some (.lst fcs) := e0 _ _ (lv.at_ _ _ f1)
  refine Sx.at (x_asg (ev_lst ex_nil (Nat.zero_le _)) fun v H1 e1 pp => ?_)
  obtain ⟨l, rfl, hl', hl1⟩ := pp
  refine x_set (v := .int (b.n : Int)) (Ev.eq (ev_lenL ((fH.up e1).lights) (fx_lights (fH.up e1) rfl)) (by rw [List.length_map])) (x_set (v := .non) ev_c ?_)
  refine x_while (fun m σ' H' => Ex H H' ∧ ∃ (v : Nat) (at' : Option Nat) (ls : List Lot) (ws : List V) (rs ss : Nat → Nat) (RL SL : List Nat) (o4 o5 : Option V), m = mea D v at' ∧ Part b g D v at' ls rs ss RL SL ∧ H' l = some (.lst ws) ∧ Two (LotAt H') lot0 ws ls ∧
    σ' = [some (.ref L.a), some (.ref l), some (.int (v : Int)), some (atV at'), o4, o5]) (mea D b.n none) (fun H2 e2 => ⟨e1.trans e2, b.n, none, [], [], _, _, [], [], none, none, rfl, Part.start, e2 _ _ hl1, ⟨rfl, fun i v hv => by simp at hv⟩, rfl⟩) fun m σ' H' ⟨w1, v, at', ls, ws, rs, ss, RL, SL, o4, o5, em, part, w2, w3, es⟩ => ?_
  subst es
  have hv40 : v ≤ b.n := part.le
  have hlen : ls.length ≤ 40 := by
    rw [part.perm.length_eq, List.length_map]
    exact Nat.le_trans (List.length_filter_le _ _) (by rw [List.length_range]; exact hmost)
  have gv := good v (by omega)
  refine ⟨decide (0 < v) || at'.isSome, EvT.eq (et_or (a := decide (0 < v)) (b := at'.isSome) (EvT.eq (et_test (ev_I0 (ev_var rfl) ev_c)) (by show decide ((0 : Int) < (v : Int)) = decide (0 < v); by_cases h : 0 < v <;> simp [h])) fun _ => EvT.eq (et_test (ev_notN (ev_var (v := atV at') rfl))) (by cases at' <;> rfl)) rfl, fun hb => ?_, fun hb => ?_⟩
  · -- one step back
    refine ⟨fun σ2 H2 => ∃ m', m' < m ∧ (Ex H H2 ∧ ∃ (v : Nat) (at' : Option Nat) (ls : List Lot) (ws : List V) (rs ss : Nat → Nat) (RL SL : List Nat) (o4 o5 : Option V), m' = mea D v at' ∧ Part b g D v at' ls rs ss RL SL ∧ H2 l = some (.lst ws) ∧ Two (LotAt H2) lot0 ws ls ∧
      σ2 = [some (.ref L.a), some (.ref l), some (.int (v : Int)), some (atV at'), o4, o5]), fun σ2 H2 h => h, ?_⟩
    refine x_ifJ (bb := at'.isNone) (fun σ2 H2 => Ex H' H2 ∧ ∃ t, H2 t = some (.tup (goes D v at').vals) ∧ σ2 = [some (.ref L.a), some (.ref l), some (.int (v : Int)), some (atV at'), some (.ref t), o5])
      (EvT.eq (et_test (ev_isN (ev_var (v := atV at') rfl))) (by cases at' <;> rfl)) (fun kont hn => ?_) (fun kont hn => ?_) fun σ2 H2 ⟨u1, t, ht, es⟩ => ?_
    · cases at' with
      | some r => cases hn
      | none =>
        have hv0 : 0 < v := by simpa using hb
        have hvf : v < fcs.length := by omega
        obtain ⟨t, ht1, ht2⟩ := (f3 v fcs[v] hv0 (List.getElem?_eq_getElem hvf)).up (sE.trans w1)
        refine x_set (v := .ref t) (ev_ixL (w1 _ _ hFF) (fx_ff (fH.up w1) rfl) (ev_var rfl) (atI_nat (by rw [List.getElem?_eq_getElem hvf, ht1]))) ?_
        exact x_next fun H3 e3 => (kont _ H3 ⟨e3, t, e3 _ _ ht2, rfl⟩).at
    · cases at' with
      | none => cases hn
      | some r =>
        have hr := part.at_ r rfl
        obtain ⟨mcs, m1, m2, m3⟩ := rep.MC r hr
        have hvf : v < mcs.length := by omega
        obtain ⟨t, ht1, ht2⟩ := (m3 v mcs[v] (List.getElem?_eq_getElem hvf)).up (sE.trans w1)
        refine x_set (v := .ref t) (ev_ixL ((e0.trans w1) _ _ (lv.at_ _ _ m1)) (fx_mfi (fH.up w1) rfl hr (ev_var rfl)) (ev_var rfl) (atI_nat (by rw [List.getElem?_eq_getElem hvf, ht1]))) ?_
        exact x_next fun H3 e3 => (kont _ H3 ⟨e3, t, e3 _ _ ht2, rfl⟩).at
    · subst es
      have w3' : Two (LotAt H2) lot0 ws ls := ⟨w3.1, fun i v hv => (w3.2 i v hv).up u1⟩
      have e02 := w1.trans u1
      have strT : ∀ {σ : L2.St} {x y : PySem.Str} {zs : List V} {bb : Bool} {Hh : Hp}, Hh t = some (.tup (.str x :: zs)) → σ[4]? = some (some (.ref t)) → decide (V.str x = V.str y) = bb → EvT (tTest (tOp rEq (tOp (rIx K) (tVar 4) (tC (.int 0))) (tC (.str y)))) σ Hh bb := fun h1 h2 h3 => EvT.eq (et_test (ev_eq (ev_ixT h1 (ev_var h2) ev_c (atI_nat (j := 0) rfl)) ev_c rfl)) h3
      have mv := mea_le D v at'
      have four : (∃ kk, goes D v at' = .rest kk ∧ v = kk + 1 ∧ b.want kk = 0 ∧ nodeV D v at' = nodeV D kk at') ∨ (∃ r, at' = none ∧ goes D v at' = .mixed r ∧ r < b.n ∧ D.F v = D.M r v ∧ isFree (D.MC r v) = false) ∨ (∃ r, at' = some r ∧ goes D v at' = .free ∧ isFree (D.MC r v) = true ∧ D.M r v = D.F v + mixD g r) ∨
          ∃ r f s mm y, at' = some r ∧ goes D v at' = .batch f s ∧ r ≤ s ∧ s < b.n ∧ 0 < mm ∧ f + mm = v ∧ csum (b.cost g r s) f mm = some y ∧ D.M r v = D.M r f + (b.light s + y) := by
        cases hat : at' with
        | none =>
          subst hat
          have hv0 : 0 < v := by simpa using hb
          rcases gv.fexp hv0 with ⟨kk, c1, c2, c3, c4⟩ | ⟨r, c1, c2, c3, c4⟩
          · exact .inl ⟨kk, c1, c2, c3, c4⟩
          · exact .inr (.inl ⟨r, rfl, c2, c1, c3, expl_free c4⟩)
        | some r =>
          subst hat
          have hr := part.at_ r rfl
          rcases gv.mexp r hr with ⟨c1, c2⟩ | c1
          · exact .inr (.inr (.inl ⟨r, rfl, c1, by rw [c1]; rfl, c2⟩))
          · cases hm : D.MC r v with
            | free => rw [hm] at c1; exact c1.elim
            | mixed q => rw [hm] at c1; exact c1.elim
            | rest kk =>
              rw [hm] at c1
              obtain ⟨d1, d2, d3⟩ := c1
              exact .inl ⟨kk, hm, d1, d2, d3⟩
            | batch f s =>
              rw [hm] at c1
              obtain ⟨d1, d2, mm, y, d3, d4, d5, d6⟩ := c1
              exact .inr (.inr (.inr ⟨r, f, s, mm, y, rfl, hm, d1, d2, d3, d4, d5, d6⟩))
      rcases four with ⟨kk, hc, hk, hw, hnode⟩ | ⟨r, hat, hc, c1, c3, hfree⟩ | ⟨r, hat, hc, hfree, c2⟩ | ⟨r, f, s, mm, y, hat, hc, d1, d2, d3, d4, d5, d6⟩
      · rw [hc] at ht
        subst hk
        refine x_if (b := true) (strT ht rfl (by decide +kernel)) (fun _ => ?_) fun z => by cases z
        refine x_set (v := .int (kk : Int)) (ev_ixT ht (ev_var rfl) ev_c rfl) (x_fall (x_next fun H3 e3 => ?_))
        have m2 := mea_le D kk at'
        exact ⟨mea D kk at', by omega, e02.trans e3, kk, at', ls, ws, rs, ss, RL, SL, some (.ref t), o5, rfl, part.rest hw hnode, (u1.trans e3) _ _ w2, ⟨w3'.1, fun i v hv => (w3'.2 i v hv).up e3⟩, rfl⟩
      · rw [hc] at ht
        subst hat
        refine x_if (b := false) (strT ht rfl (by decide +kernel)) (fun z => by cases z) fun _ => ?_
        refine x_if (b := true) (strT ht rfl (by decide +kernel)) (fun _ => ?_) fun z => by cases z
        refine x_set (v := .int (r : Int)) (ev_ixT ht (ev_var rfl) ev_c rfl) (x_fall (x_fall (x_next fun H3 e3 => ?_)))
        have e2 : mea D v (some r) = 4 * v + 1 := by unfold mea; dsimp only; rw [hfree]; rfl
        have e1 : mea D v none = 4 * v + 2 := rfl
        exact ⟨mea D v (some r), by omega, e02.trans e3, v, some r, ls, ws, rs, ss, RL, SL, some (.ref t), o5, rfl, part.mixed c1 c3, (u1.trans e3) _ _ w2, ⟨w3'.1, fun i v hv => (w3'.2 i v hv).up e3⟩, rfl⟩
      · rw [hc] at ht
        subst hat
        refine x_if (b := false) (strT ht rfl (by decide +kernel)) (fun z => by cases z) fun _ => ?_
        refine x_if (b := false) (strT ht rfl (by decide +kernel)) (fun z => by cases z) fun _ => ?_
        refine x_if (b := true) (strT ht rfl (by decide +kernel)) (fun _ => ?_) fun z => by cases z
        refine x_set (v := .non) ev_c (x_fall (x_fall (x_fall (x_next fun H3 e3 => ?_))))
        have e2 : mea D v (some r) = 4 * v + 3 := by unfold mea; dsimp only; rw [hfree]; rfl
        have e1 : mea D v none = 4 * v + 2 := rfl
        exact ⟨mea D v none, by omega, e02.trans e3, v, none, ls, ws, rs, ss, r :: RL, SL, some (.ref t), o5, rfl, part.free c2, (u1.trans e3) _ _ w2, ⟨w3'.1, fun i v hv => (w3'.2 i v hv).up e3⟩, rfl⟩
      · have hr := part.at_ r hat
        subst hat
        rw [hc] at ht
        subst d4
        refine x_if (b := false) (strT ht rfl (by decide +kernel)) (fun z => by cases z) fun _ => ?_
        refine x_if (b := false) (strT ht rfl (by decide +kernel)) (fun z => by cases z) fun _ => ?_
        refine x_if (b := false) (strT ht rfl (by decide +kernel)) (fun z => by cases z) fun _ => ?_
        refine x_forR2 (lo := (f : Int)) (hi := ((f + mm : Nat) : Int)) (ex_cons (ev_ixT ht (ev_var rfl) ev_c rfl) (ex_cons (ev_var rfl) ex_nil)) (by omega)
          (fun i σ' H3 => Ex H H3 ∧ H3 t = some (.tup (Cause.batch f s).vals) ∧ ∃ (ws : List V) (o5 : Option V), H3 l = some (.lst ws) ∧ Two (LotAt H3) lot0 ws (ls ++ (days b f (f + i)).map (mkL b (fun _ => r) fun _ => s)) ∧ σ' = [some (.ref L.a), some (.ref l), some (.int ((f + mm : Nat) : Int)), some (.int (r : Int)), some (.ref t), o5])
          (fun H3 e3 => ⟨e02.trans e3, e3 _ _ ht, ws, o5, (u1.trans e3) _ _ w2, by rw [Nat.add_zero, days_none (Nat.le_refl f)]; exact ⟨by rw [List.map_nil, List.append_nil]; exact w3'.1, fun i v hv => by rw [List.map_nil, List.append_nil]; exact (w3'.2 i v hv).up e3⟩, rfl⟩) (fun i σ' H3 hi ⟨x1, x2, ws, o5, x3, x4, es⟩ => ?_) fun σ' H3 ⟨x1, x2, ws, o5, x3, x4, es⟩ => ?_
        · subst es
          have ei : (f : Int) + (i : Int) = ((f + i : Nat) : Int) := by omega
          rw [ei]
          have hfi : f + i < b.n := by omega
          have hws : ws.length ≤ 90 := by
            rw [x4.1, List.length_append, List.length_map]
            have : (days b f (f + i)).length ≤ f + i := Nat.le_trans (List.length_filter_le _ _) (by rw [List.length_range]; exact Nat.le_refl _)
            omega
          have want : ∀ {σ : L2.St}, σ[0]? = some (some (.ref L.a)) → σ[5]? = some (some (.int ((f + i : Nat) : Int))) → Ev (tOp (rIx K) (tOp (rIx K) (tFld K (tVar 0) "rows") (tVar 5)) (tC (.int 0))) σ H3 (Is (.int (b.want (f + i)))) := fun h0 h5 => fx_want (fH.up x1) hok h0 hfi (ev_var h5)
          by_cases hw : 0 < b.want (f + i)
          · refine x_if (b := true) (EvT.eq (et_test (ev_I0 (want rfl rfl) ev_c)) (decide_eq_true hw)) (fun _ => ?_) fun z => by cases z
            refine x_app (P := NewT [.int (r : Int), .int (s : Int), .int ((f + i : Nat) : Int), .int (b.want (f + i))]) x3 (ev_var rfl) (ev_tup (ex_cons (ev_var rfl) (ex_cons (ev_ixT x2 (ev_var rfl) ev_c rfl) (ex_cons (ev_var rfl) (ex_cons (want rfl rfl) ex_nil)))) (by show 4 ≤ 100000; decide)) (by omega) fun v5 H5 e5 pp => ?_
            obtain ⟨t5, rfl, _, ht5⟩ := pp
            refine x_fall (x_next fun H6 e6 => ⟨((x1.trans e5).mut hl' ).trans e6, ?_, ws ++ [.ref t5], some (.int ((f + i : Nat) : Int)), e6 _ _ upd_same, ?_, rfl⟩)
            · refine e6 _ _ ?_
              rw [upd_ne (fun e => by rw [e, x3] at x2; cases x2)]
              exact e5 _ _ x2
            · rw [show f + (i + 1) = f + i + 1 from rfl, days_succ, if_pos ⟨by omega, hw⟩, List.map_append, ← List.append_assoc]
              have x4' : Two (LotAt H6) lot0 ws (ls ++ (days b f (f + i)).map (mkL b (fun _ => r) fun _ => s)) := ⟨x4.1, fun j v hv => (((x4.2 j v hv).up e5).mut (e5 _ _ x3)).up e6⟩
              have n1 : LotAt H5 (.ref t5) (mkL b (fun _ => r) (fun _ => s) (f + i)) := ⟨t5, rfl, ht5⟩
              exact x4'.snoc ((n1.mut (e5 _ _ x3)).up e6)
          · refine x_pass (EvT.eq (et_test (ev_I0 (want rfl rfl) ev_c)) (decide_eq_false hw)) rfl (x_next fun H6 e6 => ⟨x1.trans e6, e6 _ _ x2, ws, some (.int ((f + i : Nat) : Int)), e6 _ _ x3, ?_, rfl⟩)
            rw [show f + (i + 1) = f + i + 1 from rfl, days_succ, if_neg (fun h => hw h.2), List.append_nil]
            exact ⟨x4.1, fun j v hv => (x4.2 j v hv).up e6⟩
        · subst es
          have en : (((f + mm : Nat) : Int) - (f : Int)).toNat = mm := by omega
          rw [en] at x4
          refine x_set (v := .int (f : Int)) (ev_ixT x2 (ev_var rfl) ev_c rfl) (x_fall (x_fall (x_fall (x_next fun H6 e6 => ?_))))
          have m2 := mea_le D f (some r)
          exact ⟨mea D f (some r), by omega, x1.trans e6, f, some r, _, ws, _, _, RL, s :: SL, some (.ref t), o5, rfl, part.batch hok d3 d1 d2 d5 d6, e6 _ _ x3, ⟨x4.1, fun j v hv => (x4.2 j v hv).up e6⟩, rfl⟩
  · -- at the end
    have hv0 : v = 0 := by cases at' with
      | none => simpa using hb
      | some r => simp at hb
    have hat : at' = none := by cases at' with
      | none => rfl
      | some r => simp at hb
    subst hv0 hat
    refine x_ret (P := PlanP b g (D.F b.n)) (Ev.imp (ev_sortU w2 w3 hlen (fun l hl => ?_) (ev_var rfl)) fun H2 v H3 _ _ pp => ?_) fun v H3 e3 pp => k v H3 (w1.trans e3) (UP.dn pp w1)
    · obtain ⟨d, hd, rfl⟩ := List.mem_map.mp (part.perm.mem_iff.mp hl)
      obtain ⟨d1, d2, d3⟩ := days_mem hd
      obtain ⟨o1, o2, o3⟩ := part.ok d (Nat.zero_le d) d2 d3
      have hw := (row_ok hok d).1
      intro m hm
      have hw1 : b.want d ≤ 1000000000 := hw.2
      have hw0 : 0 ≤ b.want d := hw.1
      simp [mkL] at hm
      rcases hm with rfl | rfl | rfl | rfl
      · omega
      · omega
      · omega
      · omega
    · obtain ⟨q, ls', rfl, h1, h2⟩ := pp
      obtain ⟨p1, p2⟩ := part.plan hok hgok hF0 h2
      exact ⟨q, ls', rfl, h1, p1, p2⟩
end
end K66

/-! ## R16 -/
set_option maxHeartbeats 4000000
namespace K66
open PySem PySem.Spec PyProof.Rows L2
/-! ### the heap without one place -/
def rm (a : Addr) (H : Hp) : Hp := fun x => if x = a then none else H x
section
variable {K : PySem.W.Frag} {σ : L2.St} {H H' Hs : Hp} {S : Addr → Option (List V)} {ta tb tc te tx : TE} {v : V} {vs : List V} {Q : VK} {E : XK} {b : Bk} {g : List Dg} {L : Lay} {a : Addr}
theorem rm_of {x : Addr} {o : HO} (h : H x = some o) (hx : x ≠ a) : rm a H x = some o := by unfold rm; rw [if_neg hx]; exact h
theorem rm_ex : Ex (rm a H) H := fun x o h => by
  unfold rm at h
  by_cases e : x = a
  · rw [if_pos e] at h; cases h
  · rw [if_neg e] at h; exact h
theorem rm_mono (e : Ex H H') : Ex (rm a H) (rm a H') := fun x o h => by
  unfold rm at *
  by_cases c : x = a
  · rw [if_pos c] at h; cases h
  · rw [if_neg c] at h ⊢; exact e x o h
theorem rm_upd {o : HO} : rm a (upd H a o) = rm a H := funext fun x => by
  unfold rm
  by_cases c : x = a
  · rw [if_pos c, if_pos c]
  · rw [if_neg c, if_neg c, upd_ne c]
/-- a list of new empty lists -/
def NewEs (n : Nat) : PP := fun H1 v H2 => ∃ p ys, v = .ref p ∧ H1 p = none ∧ H2 p = some (.lst ys) ∧ ys.length = n ∧ (∀ (i : Nat) y, ys[i]? = some y → ∃ q, y = .ref q ∧ H1 q = none ∧ H2 q = some (.lst [])) ∧ ∀ (i j : Nat) y, ys[i]? = some y → ys[j]? = some y → i = j
instance {n : Nat} : FP (NewEs n) := ⟨fun ⟨p, ys, h1, h2, h3, h4, h5, h6⟩ d f => ⟨p, ys, h1, d p h2, f p _ h2 h3, h4, fun i y hy => let ⟨q, q1, q2, q3⟩ := h5 i y hy; ⟨q, q1, d q q2, f q _ q2 q3⟩, h6⟩⟩
theorem ev_lcE {wi : TI} {g : TG} {vs : List Nat} {n : Nat} {Yt : Nat → V → Hp → Prop} (hi : EvI wi σ H n Yt) (hn : n ≤ 40000)
    (hs : ∀ i x H1, Ex H H1 → i < n → Yt i x H1 → ∃ σ2, EvG g x (wipe σ vs) H1 σ2 ∧ wipe σ2 vs = wipe σ vs) (hte : ∀ σ2 H, Ev te σ2 H (NewL [])) : Ev (tLc wi g tYes te vs) σ H (NewEs n) := fun H1 e Q q =>
  hi H1 e _ fun J H2 G Y e2 w hG hY D hD => by
    have base : Ex H2 (upd H2 D (.lst [])) := Ex.new hD
    refine lc_it w (fun i H' => Ex H2 H' ∧ ∃ ys, H' D = some (.lst ys) ∧ ys.length = i ∧ (∀ (j : Nat) y, ys[j]? = some y → ∃ q, y = .ref q ∧ upd H2 D (.lst []) q = none ∧ H' q = some (.lst [])) ∧ ∀ (i j : Nat) y, ys[i]? = some y → ys[j]? = some y → i = j)
      ⟨base, [], upd_same, rfl, fun j y h => by simp at h, fun i j y h => by simp at h⟩ (fun i H' _ p => hG H' p.1) (fun i x H3 H4 hi p y => ?_) (fun H' p => ?_)
    · obtain ⟨p1, ys, p2, p3, p4, p5⟩ := p
      obtain ⟨e4, hy⟩ := hY i H3 x H4 hi p1 y
      obtain ⟨σ2, hg, hw⟩ := hs i x H4 ((e.trans e2).trans (p1.trans e4)) hi hy
      refine hg H4 Ex.rfl _ fun H5 e5 => ⟨hw, ?_⟩
      show te σ2 H5 _
      refine hte σ2 H5 H5 Ex.rfl _ fun v H6 e6 pv => ?_
      obtain ⟨q, rfl, hq1, hq2⟩ := pv
      have e36 := e4.trans (e5.trans e6)
      have hqD : q ≠ D := fun h => by rw [h, (e4.trans e5) D _ p2] at hq1; cases hq1
      refine ⟨ys, e36 D _ p2, szl (by omega), (p1.trans e36).mut hD, ys ++ [.ref q], upd_same, by simp [p3], fun j z hz => ?_, fun j j' z hz hz' => ?_⟩
      · rcases snoc_get hz with ⟨hj, hz⟩ | ⟨hj, rfl⟩
        · obtain ⟨q', q1, q2, q3⟩ := p4 j z hz
          have : q' ≠ D := fun h => by rw [h, upd_same] at q2; cases q2
          exact ⟨q', q1, q2, by rw [upd_ne this]; exact e36 _ _ q3⟩
        · refine ⟨q, rfl, ?_, by rw [upd_ne hqD]; exact hq2⟩
          rw [upd_ne hqD]
          exact (p1.trans (e4.trans e5)).back hq1
      · have neu : ∀ (j : Nat), ys[j]? ≠ some (.ref q) := fun j h => by
          obtain ⟨q', q1, q2, q3⟩ := p4 j _ h
          obtain rfl : q = q' := by injection q1
          rw [(e4.trans e5) q _ q3] at hq1
          cases hq1
        rcases snoc_get hz with ⟨hj, hz⟩ | ⟨hj, rfl⟩
        · rcases snoc_get hz' with ⟨hj', hz'⟩ | ⟨hj', rfl⟩
          · exact p5 j j' z hz hz'
          · exact absurd hz (neu j)
        · rcases snoc_get hz' with ⟨hj', hz'⟩ | ⟨hj', _⟩
          · exact absurd hz' (neu j')
          · omega
    · obtain ⟨p1, ys, p2, p3, p4, p5⟩ := p
      refine q _ H' (e2.trans p1) ⟨D, ys, rfl, e2.back hD, p2, p3, fun j y hy => ?_, p5⟩
      obtain ⟨q', q1, q2, q3⟩ := p4 j y hy
      exact ⟨q', q1, (e2.trans base).back q2, q3⟩
/-- self.f = value: a is the instance, G what stands without it -/
theorem x_fld {f : Str} {C dx : Addr} {fs : List (Str × V)} {tv : TE} {u : TS} {D : Ends} {P : PP} [UP P] (ha : H a = some (.ins C dx fs)) (hv : Ev tv σ H P) (ho : Ev ta σ H (Is (.ref a))) (c : Cls K C) (n : NoAttr K C f) (hl : fs.length < 1000)
    (k : ∀ y H1 H2, Ex H H1 → P H y H1 → H2 a = some (.ins C dx (putF f y fs)) → rm a H2 = rm a H1 → Sx u D σ H2) : Sx (tSeq (sFld K ta tv f) u) D σ H := fun H1 e =>
  hv H1 e _ fun y H2 e2 p => ho H2 (e.trans e2) _ fun x H3 e3 hx => by
    have z : x = .ref a := hx
    subst z
    have e03 := (e.trans e2).trans e3
    exact ⟨a, C, dx, fs, rfl, e03 _ _ ha, c, n, hl, (k y H3 (upd H3 a (.ins C dx (putF f y fs))) e03 (UP.up (UP.dn p e) e3) upd_same rm_upd).at⟩
def NewR (n : Nat) : PP := fun H1 v H2 => ∃ p, v = .ref p ∧ H1 p = none ∧ H2 p = some (.rng 0 (n : Int))
instance {n : Nat} : FP (NewR n) := ⟨fun ⟨p, h1, h2, h3⟩ d f => ⟨p, h1, d p h2, f p _ h2 h3⟩⟩
theorem ev_days {n : Nat} (hn : n ≤ 1000) (h : Ev te σ H (Is (.int (n : Int)))) : Ev (tCB rListR (tCons (tCB rRange (tCons te tNil)) tNil)) σ H (NewL (natsV (List.range n))) := by
  have h1 : Ev (tCB rRange (tCons te tNil)) σ H (NewR n) := ev_cb (ex_cons h ex_nil) fun H1 e Q q => ⟨(n : Int), rfl, fun p hp => q _ _ (Ex.new hp) ⟨p, rfl, hp, upd_same⟩⟩
  refine ev_cbA (ea_cons h1 ea_nil) fun H1 vs H2 _ _ ps Q q => ?_
  cases ps with
  | cons h t =>
    cases t
    obtain ⟨p, rfl, _, hp⟩ := h
    exact ⟨p, n, rfl, hp, hn, fun l hl => q _ _ (Ex.new hl) ⟨l, rfl, hl, upd_same⟩⟩
end
end K66

/-! ## R17 -/
set_option maxHeartbeats 4000000
namespace K66
open PySem PySem.Spec PyProof.Rows L2
section
variable {K : PySem.W.Frag} {σ : L2.St} {H H' Hs : Hp} {ta tb tc te tx : TE} {v : V} {vs : List V} {Q : VK} {E : XK} {b : Bk} {g : List Dg} {a : Addr}
theorem rm_none {x : Addr} (h : H x = none) : rm a H x = none := by
  unfold rm
  by_cases c : x = a
  · rw [if_pos c]
  · rw [if_neg c]; exact h
/-- the place of the i-th of some references -/
def nth (ys : List V) (i : Nat) : Addr := match ys[i]? with
  | some (.ref q) => q
  | _ => 0
theorem nth_of {ys : List V} {i : Nat} {q : Addr} (h : ys[i]? = some (.ref q)) : nth ys i = q := by unfold nth; rw [h]
/-- new empty lists: what is known of them in the heap without a -/
structure Es (a : Addr) (n : Nat) (G G' : Hp) (p : Addr) (ys : List V) : Prop where
  pn : G p = none
  pa : p ≠ a
  at_ : G' p = some (.lst ((List.range n).map fun r => V.ref (nth ys r)))
  el : ∀ r, r < n → nth ys r ≠ a ∧ G (nth ys r) = none ∧ G' (nth ys r) = some (.lst []) ∧ nth ys r ≠ p
  inj : ∀ r q, r < n → q < n → nth ys r = nth ys q → r = q
theorem es_of {n : Nat} (hn : 1 ≤ n) {H1 : Hp} {o : HO} (ha : H a = some o) (h : NewEs n H v H1) : ∃ p ys, v = .ref p ∧ Es a n (rm a H) (rm a H1) p ys := by
  obtain ⟨p, ys, rfl, h2, h3, h4, h5, h6⟩ := h
  have pa : p ≠ a := fun e => by rw [e, ha] at h2; cases h2
  have el : ∀ r, r < n → ∃ q, ys[r]? = some (.ref q) ∧ nth ys r = q ∧ H q = none ∧ H1 q = some (.lst []) := fun r hr => by
    obtain ⟨q, q1, q2, q3⟩ := h5 r _ (List.getElem?_eq_getElem (by omega))
    have e : ys[r]? = some (.ref q) := by rw [List.getElem?_eq_getElem (by omega), q1]
    exact ⟨q, e, nth_of e, q2, q3⟩
  have eys : ys = (List.range n).map fun r => V.ref (nth ys r) := by
    apply List.ext_getElem?
    intro i
    by_cases hi : i < n
    · obtain ⟨q, q1, q2, _⟩ := el i hi
      rw [range_at hi, q1, q2]
    · rw [List.getElem?_eq_none (by omega), List.getElem?_eq_none (by rw [List.length_map, List.length_range]; omega)]
  refine ⟨p, ys, rfl, rm_none h2, pa, ?_, fun r hr => ?_, fun r q hr hq e => ?_⟩
  · rw [← eys]; exact rm_of h3 pa
  · obtain ⟨q, q1, q2, q3, q4⟩ := el r hr
    have qa : q ≠ a := fun e => by rw [e, ha] at q3; cases q3
    rw [q2]
    refine ⟨qa, rm_none q3, rm_of q4 qa, fun e => ?_⟩
    rw [e, h3] at q4
    injection q4 with q4
    injection q4 with q4
    rw [q4] at h4
    simp at h4
    omega
  · obtain ⟨q', q1, q2, _⟩ := el r hr
    obtain ⟨q'', w1, w2, _⟩ := el q hq
    have : q' = q'' := by rw [← q2, ← w2]; exact e
    subst this
    exact h6 r q _ q1 w1
theorem rd_Climb_init (h : sp_Climb_init K vs H Q E) : t_Climb_init K (DD Q) (start N_Climb_init vs) H := by
  obtain ⟨pb, b, pd, g, a, dx, H0, rfl, hb, hok, hg, hgok, kit, e0, ha0, ha, k⟩ := h
  have hmost : b.n ≤ 40 := hok.most
  have hpos : 1 ≤ b.n := hok.pos
  have g0 : Ex H0 (rm a H) := fun x o h => rm_of (e0 _ _ h) (fun c => by rw [c, ha0] at h; cases h)
  have hbG := hb.up g0
  have hgG := hg.up g0
  have hbG' := hbG
  obtain ⟨pl, pgs, pg, q1, q2, q3, pr, q4, hrows⟩ := hbG'
  have hrows' := hrows
  obtain ⟨vr, q5, q6⟩ := hrows'
  obtain ⟨vd, d1, d2, d3⟩ := hgG
  -- lights
  refine Sx.at (x_fld (P := Is (.ref pl)) ha (ev_bk0 (rm_ex _ _ q1) (ev_var rfl)) (ev_var rfl) kit.cls kit.lights (by show 0 < 1000; decide) fun y H1p H1 e1 p1 a1 r1 => ?_)
  obtain rfl : y = .ref pl := p1
  have a1 : H1 a = some (.ins (gA K "Climb") dx [("lights", .ref pl)]) := a1
  have x1 : Ex (rm a H) (rm a H1) := by rw [r1]; exact rm_mono e1
  -- rows
  refine x_fld (P := Is (.ref pr)) a1 (ev_bk200 (rm_ex _ _ (x1 _ _ q1)) (rm_ex _ _ (x1 _ _ q3)) (rm_ex _ _ (x1 _ _ q4)) (ev_var rfl)) (ev_var rfl) kit.cls kit.rows (by show 1 < 1000; decide) fun y H2p H2 e2 p2 a2 r2 => ?_
  obtain rfl : y = .ref pr := p2
  have a2 : H2 a = some (.ins (gA K "Climb") dx [("lights", .ref pl), ("rows", .ref pr)]) := a2
  have x2 : Ex (rm a H1) (rm a H2) := by rw [r2]; exact rm_mono e2
  have x02 := x1.trans x2
  -- mixes
  have lenM : ((List.range b.n).map fun r => V.int (mixD g r)).length = vd.length := by rw [List.length_map, List.length_range, d2, hgok.len]
  refine x_fld (P := NewL ((List.range b.n).map fun r => V.int (mixD g r))) a2 (ev_lcX (Yt := fun i x _ => vd[i]? = some x) (by rw [lenM]; exact ei_list (rm_ex _ _ (x02 _ _ d1)) (ev_var rfl)) (by rw [lenM, d2, hgok.len]; have h40 := hok.most; omega) fun i x Hc ec hi hx => ?_) (ev_var rfl) kit.cls kit.mixes (by show 2 < 1000; decide) fun y H3p H3 e3 p3 a3 r3 => ?_
  · obtain ⟨t, rfl, ht⟩ := ((d3 i x hx).up (x02.trans rm_ex)).up ec
    refine ⟨_, eg_tup3 ht eg_name eg_name eg_name, rfl, fun y hy => ?_⟩
    obtain ⟨_, rfl⟩ := range_get hy
    exact ev_var rfl
  obtain ⟨pm, rfl, pm0, pm1⟩ := p3
  have pma : pm ≠ a := fun e => by rw [e, a2] at pm0; cases pm0
  have a3 : H3 a = some (.ins (gA K "Climb") dx [("lights", .ref pl), ("rows", .ref pr), ("mixes", .ref pm)]) := a3
  have x3 : Ex (rm a H2) (rm a H3) := by rw [r3]; exact rm_mono e3
  have x03 := x02.trans x3
  have m3 : rm a H3 pm = some (.lst ((List.range b.n).map fun r => V.int (mixD g r))) := by rw [r3]; exact rm_of pm1 pma
  -- days
  refine x_asg (ev_days (n := b.n) (by omega) (Ev.eq (ev_lenL (rm_ex _ _ (x03 _ _ q2)) (ev_fld a3 kit.cls kit.lights rfl (ev_var rfl))) (by rw [List.length_map]))) fun v H4 e4 p4 => ?_
  obtain ⟨dl, rfl, dl0, dl1⟩ := p4
  have dla : dl ≠ a := fun e => by rw [e, a3] at dl0; cases dl0
  have a4 := e4 _ _ a3
  have x4 : Ex (rm a H3) (rm a H4) := rm_mono e4
  have x04 := x03.trans x4
  -- batches
  refine x_fld (P := NewLs b.n fun r => NewLs b.n fun s => NewL ((List.range b.n).map fun d => vO (b.cost g r s d))) a4 ?_ (ev_var rfl) kit.cls kit.batches (by show 3 < 1000; decide) fun y H5p H5 e5 p5 a5 r5 => ?_
  · have lenD : (natsV (List.range b.n)).length = b.n := by rw [natsV_len, List.length_range]
    have item : ∀ {i : Nat} {x : V}, (natsV (List.range b.n))[i]? = some x → i < b.n → x = .int (i : Int) := fun {i x} h hi => by
      obtain ⟨r, hr, rfl⟩ := natsV_get h
      rw [List.getElem?_range hi] at hr
      obtain rfl := Option.some.inj hr
      rfl
    have over : ∀ {σ : L2.St} {Hc : Hp}, Ex H4 Hc → σ[3]? = some (some (.ref dl)) → EvI (iList K (tVar 3)) σ Hc b.n (fun i x _ => (natsV (List.range b.n))[i]? = some x) := fun e h => by
      have h2 := ei_list (K := K) (e _ _ dl1) (ev_var h)
      rw [lenD] at h2
      exact h2
    refine ev_lc (over Ex.rfl rfl) (by omega) fun r x Hc ec hr hx => ?_
    obtain rfl := item hx hr
    refine ⟨_, eg_name, rfl, ?_⟩
    refine ev_lc (over ec rfl) (by omega) fun s x Hd ed hs hx => ?_
    obtain rfl := item hx hs
    have eG : Ex (rm a H) Hd := (x04.trans rm_ex).trans (ec.trans ed)
    exact ⟨_, eg_name, rfl, ev_call (ex_cons (ev_var rfl) (ex_cons (ev_var rfl) (ex_cons (ev_var rfl) (ex_cons (ev_var rfl) ex_nil)))) ⟨pb, b, pd, g, r, s, rfl, hbG.up eG, hok, (DgsAt.up ⟨vd, d1, d2, d3⟩ eG), hgok, hr, hs, rfl⟩⟩
  obtain ⟨pbt, us, rfl, pb0, pb1, usl, hus⟩ := p5
  have pba : pbt ≠ a := fun e => by rw [e, a4] at pb0; cases pb0
  have a5 : H5 a = some (.ins (gA K "Climb") dx [("lights", .ref pl), ("rows", .ref pr), ("mixes", .ref pm), ("batches", .ref pbt)]) := a5
  have x5 : Ex (rm a H4) (rm a H5) := by rw [r5]; exact rm_mono e5
  have x05 := x04.trans x5
  have m5 := x5 _ _ (x4 _ _ m3)
  have bat : BatchesAt (rm a H5) pbt b g := by
    rw [r5]
    refine ⟨us, rm_of pb1 pba, usl, fun r hr => ?_⟩
    obtain ⟨q, ws, e, qn, qs, wl, hw⟩ := hus r _ (List.getElem?_eq_getElem (by omega))
    have qa : q ≠ a := fun e => by rw [e, a4] at qn; cases qn
    refine ⟨q, ws, by rw [List.getElem?_eq_getElem (by omega), e], rm_of qs qa, wl, fun s hs => ?_⟩
    obtain ⟨q', e', qn', qs'⟩ := hw s _ (List.getElem?_eq_getElem (by omega))
    have qa' : q' ≠ a := fun e => by rw [e, a4] at qn'; cases qn'
    exact ⟨q', by rw [List.getElem?_eq_getElem (by omega), e'], rm_of qs' qa'⟩
  -- free
  refine x_fld (P := NewL [.int 0]) a5 (ev_lst (ex_cons ev_c ex_nil) (by show 1 ≤ 100000; decide)) (ev_var rfl) kit.cls kit.free (by show 4 < 1000; decide) fun y H6p H6 e6 p6 a6 r6 => ?_
  obtain ⟨FR, rfl, fr0, fr1⟩ := p6
  have fra : FR ≠ a := fun e => by rw [e, a5] at fr0; cases fr0
  have a6 : H6 a = some (.ins (gA K "Climb") dx [("lights", .ref pl), ("rows", .ref pr), ("mixes", .ref pm), ("batches", .ref pbt), ("free", .ref FR)]) := a6
  have x6 : Ex (rm a H5) (rm a H6) := by rw [r6]; exact rm_mono e6
  have fr6 : rm a H6 FR = some (.lst [.int 0]) := by rw [r6]; exact rm_of fr1 fra
  have m6 := x6 _ _ m5
  -- mixed
  have lenR : ((List.range b.n).map fun r => V.int (mixD g r)).length = b.n := by rw [List.length_map, List.length_range]
  refine x_fld (P := NewEs b.n) a6 (ev_lcE (Yt := fun i x _ => ((List.range b.n).map fun r => V.int (mixD g r))[i]? = some x) (by
    have := ei_list (K := K) (rm_ex _ _ m6) (ev_fld (ta := tVar 0) (σ := [some (.ref a), some (.ref pb), some (.ref pd), some (.ref dl), none, none, none, none, none]) a6 kit.cls kit.mixes rfl (ev_var rfl))
    rw [lenR] at this
    exact this) (by omega) (fun i x Hc ec hi hx => ⟨_, eg_name, rfl⟩) fun σ2 H => ev_lst ex_nil (Nat.zero_le _)) (ev_var rfl) kit.cls kit.mixed (by show 5 < 1000; decide) fun y H7p H7 e7 p7 a7 r7 => ?_
  obtain ⟨MX, ys7, rfl, es7⟩ := es_of hpos a6 p7
  have a7 : H7 a = some (.ins (gA K "Climb") dx [("lights", .ref pl), ("rows", .ref pr), ("mixes", .ref pm), ("batches", .ref pbt), ("free", .ref FR), ("mixed", .ref MX)]) := a7
  rw [← r7] at es7
  have x7 : Ex (rm a H6) (rm a H7) := by rw [r7]; exact rm_mono e7
  have m7 := x7 _ _ m6
  -- free_from
  refine x_fld (P := NewL [.non]) a7 (ev_lst (ex_cons ev_c ex_nil) (by show 1 ≤ 100000; decide)) (ev_var rfl) kit.cls kit.free_from (by show 6 < 1000; decide) fun y H8p H8 e8 p8 a8 r8 => ?_
  obtain ⟨FF, rfl, ff0, ff1⟩ := p8
  have ffa : FF ≠ a := fun e => by rw [e, a7] at ff0; cases ff0
  have a8 : H8 a = some (.ins (gA K "Climb") dx [("lights", .ref pl), ("rows", .ref pr), ("mixes", .ref pm), ("batches", .ref pbt), ("free", .ref FR), ("mixed", .ref MX), ("free_from", .ref FF)]) := a8
  have x8 : Ex (rm a H7) (rm a H8) := by rw [r8]; exact rm_mono e8
  have ff8 : rm a H8 FF = some (.lst [.non]) := by rw [r8]; exact rm_of ff1 ffa
  have m8 := x8 _ _ m7
  have ff7 : rm a H7 FF = none := rm_none ff0
  -- mixed_from
  refine x_fld (P := NewEs b.n) a8 (ev_lcE (Yt := fun i x _ => ((List.range b.n).map fun r => V.int (mixD g r))[i]? = some x) (by
    have := ei_list (K := K) (rm_ex _ _ m8) (ev_fld (ta := tVar 0) (σ := [some (.ref a), some (.ref pb), some (.ref pd), some (.ref dl), none, none, none, none, none]) a8 kit.cls kit.mixes rfl (ev_var rfl))
    rw [lenR] at this
    exact this) (by omega) (fun i x Hc ec hi hx => ⟨_, eg_name, rfl⟩) fun σ2 H => ev_lst ex_nil (Nat.zero_le _)) (ev_var rfl) kit.cls kit.mixed_from (by show 7 < 1000; decide) fun y H9p H9 e9 p9 a9 r9 => ?_
  obtain ⟨MF, ys9, rfl, es9⟩ := es_of hpos a8 p9
  have a9 : H9 a = some (.ins (gA K "Climb") dx [("lights", .ref pl), ("rows", .ref pr), ("mixes", .ref pm), ("batches", .ref pbt), ("free", .ref FR), ("mixed", .ref MX), ("free_from", .ref FF), ("mixed_from", .ref MF)]) := a9
  rw [← r9] at es9
  have x9 : Ex (rm a H8) (rm a H9) := by rw [r9]; exact rm_mono e9
  refine x_next fun H' e' => ?_
  have x9' : Ex (rm a H9) (rm a H') := rm_mono e'
  have x57 := (x6.trans x7)
  have g7MX : rm a H7 MX = some (.lst ((List.range b.n).map fun r => V.ref (nth ys7 r))) := es7.at_
  have g8MX := x8 _ _ g7MX
  obtain ⟨T, hT⟩ : ∃ T : Addr → Option (List V), ∀ x, (T x = some [.int 0] ∧ x = FR) ∨ (T x = some [.non] ∧ x = FF) ∨ (T x = some [] ∧ ∃ r, r < b.n ∧ (x = nth ys7 r ∨ x = nth ys9 r)) ∨ (T x = none ∧ x ≠ FR ∧ x ≠ FF ∧ ∀ r, r < b.n → x ≠ nth ys7 r ∧ x ≠ nth ys9 r) := by
    classical
    refine ⟨fun x => if x = FR then some [.int 0] else if x = FF then some [.non] else if ∃ r, r < b.n ∧ (x = nth ys7 r ∨ x = nth ys9 r) then some [] else none, fun x => ?_⟩
    by_cases c1 : x = FR
    · exact .inl ⟨if_pos c1, c1⟩
    · by_cases c2 : x = FF
      · exact .inr (.inl ⟨by dsimp only; rw [if_neg c1, if_pos c2], c2⟩)
      · by_cases c3 : ∃ r, r < b.n ∧ (x = nth ys7 r ∨ x = nth ys9 r)
        · exact .inr (.inr (.inl ⟨by dsimp only; rw [if_neg c1, if_neg c2, if_pos c3], c3⟩))
        · exact .inr (.inr (.inr ⟨by dsimp only; rw [if_neg c1, if_neg c2, if_neg c3], c1, c2, fun r hr => ⟨fun e => c3 ⟨r, hr, .inl e⟩, fun e => c3 ⟨r, hr, .inr e⟩⟩⟩))
  -- the places that grow are none of those ahead
  have n5 : ∀ x ys, T x = some ys → rm a H5 x = none ∧ x ≠ a := fun x ys hx => by
    rcases hT x with ⟨_, rfl⟩ | ⟨_, rfl⟩ | ⟨_, r, hr, rfl | rfl⟩ | ⟨h, _⟩
    · exact ⟨rm_none fr0, fra⟩
    · exact ⟨x57.back ff7, ffa⟩
    · obtain ⟨h1, h2, _⟩ := es7.el r hr
      exact ⟨x6.back h2, h1⟩
    · obtain ⟨h1, h2, _⟩ := es9.el r hr
      exact ⟨(x57.trans x8).back h2, h1⟩
    · rw [h] at hx; cases hx
  have ne_of : ∀ {G : Hp} {x y : Addr} {o : HO}, G x = some o → G y = none → x ≠ y := fun h1 h2 e => by rw [e, h2] at h1; cases h1
  have off : Off ⟨a, dx, pl, pr, pm, pbt, FR, FF, MX, MF, nth ys7, nth ys9⟩ b.n := by
    refine ⟨ne_of (x7 _ _ fr6) ff7, fun r hr => ne_of fr6 (es7.el r hr).2.1, fun r hr => ne_of (x8 _ _ (x7 _ _ fr6)) (es9.el r hr).2.1, fun r hr => (ne_of (es7.el r hr).2.2.1 ff7).symm, fun r hr => ne_of ff8 (es9.el r hr).2.1, fun r q hr hq => ne_of (x8 _ _ (es7.el r hr).2.2.1) (es9.el q hq).2.1, es7.inj, es9.inj⟩
  have tMX : T MX = none := by
    rcases hT MX with ⟨_, e⟩ | ⟨_, e⟩ | ⟨_, r, hr, e | e⟩ | ⟨h, _⟩
    · exact absurd e.symm (ne_of fr6 es7.pn)
    · exact absurd e (ne_of g7MX ff7)
    · exact absurd e.symm (es7.el r hr).2.2.2
    · exact absurd e (ne_of g8MX (es9.el r hr).2.1)
    · exact h
  have tMF : T MF = none := by
    rcases hT MF with ⟨_, e⟩ | ⟨_, e⟩ | ⟨_, r, hr, e | e⟩ | ⟨h, _⟩
    · exact absurd e.symm (ne_of (x8 _ _ (x7 _ _ fr6)) es9.pn)
    · exact absurd e.symm (ne_of ff8 es9.pn)
    · exact absurd e.symm (ne_of (x8 _ _ (es7.el r hr).2.2.1) es9.pn)
    · exact absurd e.symm (es9.el r hr).2.2.2
    · exact h
  have tA : T a = none := by
    cases h : T a with
    | none => rfl
    | some ys => exact absurd rfl (n5 a ys h).2
  have at' : ∀ x ys, T x = some ys → rm a H' x = some (.lst ys) := fun x ys hx => by
    rcases hT x with ⟨h, rfl⟩ | ⟨h, rfl⟩ | ⟨h, r, hr, rfl | rfl⟩ | ⟨h, _⟩
    · rw [h] at hx; cases hx; exact x9' _ _ (x9 _ _ (x8 _ _ (x7 _ _ fr6)))
    · rw [h] at hx; cases hx; exact x9' _ _ (x9 _ _ ff8)
    · rw [h] at hx; cases hx; exact x9' _ _ (x9 _ _ (x8 _ _ (es7.el r hr).2.2.1))
    · rw [h] at hx; cases hx; exact x9' _ _ (es9.el r hr).2.2.1
    · rw [h] at hx; cases hx
  have tFR : T FR = some [.int 0] := by
    rcases hT FR with ⟨h, _⟩ | ⟨_, e⟩ | ⟨_, r, hr, e | e⟩ | ⟨_, h, _⟩
    · exact h
    · exact absurd e off.rf
    · exact absurd e (off.rx r hr)
    · exact absurd e (off.ry r hr)
    · exact absurd rfl h
  have tFF : T FF = some [.non] := by
    rcases hT FF with ⟨_, e⟩ | ⟨h, _⟩ | ⟨_, r, hr, e | e⟩ | ⟨_, _, h, _⟩
    · exact absurd e off.rf.symm
    · exact h
    · exact absurd e (off.fx r hr)
    · exact absurd e (off.fy r hr)
    · exact absurd rfl h
  have tX : ∀ r, r < b.n → T (nth ys7 r) = some [] := fun r hr => by
    rcases hT (nth ys7 r) with ⟨_, e⟩ | ⟨_, e⟩ | ⟨h, _⟩ | ⟨_, _, _, h⟩
    · exact absurd e.symm (off.rx r hr)
    · exact absurd e.symm (off.fx r hr)
    · exact h
    · exact absurd rfl (h r hr).1
  have tY : ∀ r, r < b.n → T (nth ys9 r) = some [] := fun r hr => by
    rcases hT (nth ys9 r) with ⟨_, e⟩ | ⟨_, e⟩ | ⟨h, _⟩ | ⟨_, _, _, h⟩
    · exact absurd e.symm (off.ry r hr)
    · exact absurd e.symm (off.fy r hr)
    · exact h
    · exact absurd rfl (h r hr).2
  have live : Live (fun x => if (T x).isSome then none else H' x) T H' := by
    refine ⟨fun x o hx => ?_, fun x ys hx => by simp [hx], fun x ys hx => rm_ex _ _ (at' x ys hx)⟩
    cases h : T x with
    | none => simpa [h] using hx
    | some ys => simp [h] at hx
  have put : ∀ {x o}, H' x = some o → T x = none → (fun x => if (T x).isSome then none else H' x : Hp) x = some o := fun h1 h2 => by simpa [h2] using h1
  have x5s : Ex (rm a H5) (fun x => if (T x).isSome then none else H' x) := fun x o hx => put (rm_ex _ _ (x9' _ _ (x9 _ _ (x8 _ _ (x57 _ _ hx))))) (by
    cases h : T x with
    | none => rfl
    | some ys => rw [(n5 x ys h).1] at hx; cases hx)
  refine k ⟨a, dx, pl, pr, pm, pbt, FR, FF, MX, MF, nth ys7, nth ys9⟩ ⟨fun _ => 0, fun _ _ => 0, fun _ => .free, fun _ _ => .free⟩ T _ H' rfl ((g0.trans x05).trans x5s) ?_ off live ?_ rfl
  · have x05s := x05.trans x5s
    exact ⟨kit, put (e' _ _ a9) tA, x05s _ _ q2, hrows.up x05s, x5s _ _ m5, bat.up x5s, put (rm_ex _ _ (x9' _ _ (x9 _ _ g8MX))) tMX, put (rm_ex _ _ (x9' _ _ es9.at_)) tMF⟩
  · exact ⟨tFR, ⟨[.non], tFF, rfl, fun i v hi hv => by
      match i, hi with
      | i + 1, _ => simp at hv⟩, fun r hr => tX r hr, fun r hr => ⟨[], tY r hr, rfl, fun i v hv => by simp at hv⟩⟩
end
end K66

/-! ## R18 -/
set_option maxHeartbeats 4000000
namespace K66
open PySem PySem.Spec PyProof.Rows L2
theorem len_Climb_init {K : PySem.W.Frag} {vs : List V} {H : Hp} {Q : VK} {E : XK} (h : sp_Climb_init K vs H Q E) : vs.length = 3 := by obtain ⟨_, _, _, _, _, _, _, e, _⟩ := h; rw [e]; rfl
theorem len_Climb_come_to {K : PySem.W.Frag} {vs : List V} {H : Hp} {Q : VK} {E : XK} (h : sp_Climb_come_to K vs H Q E) : vs.length = 3 := by obtain ⟨_, _, _, ⟨_, _, _, _, _, _, e, _⟩, _⟩ := h; rw [e]; rfl
theorem len_Climb_step {K : PySem.W.Frag} {vs : List V} {H : Hp} {Q : VK} {E : XK} (h : sp_Climb_step K vs H Q E) : vs.length = 2 := by obtain ⟨_, _, _, _, _, _, _, e, _⟩ := h; rw [e]; rfl
theorem len_Climb_lots {K : PySem.W.Frag} {vs : List V} {H : Hp} {Q : VK} {E : XK} (h : sp_Climb_lots K vs H Q E) : vs.length = 1 := by obtain ⟨_, _, _, ⟨_, _, _, _, _, _, e, _⟩, _⟩ := h; rw [e]; rfl
end K66

/-! ## O5 -/
set_option maxHeartbeats 4000000
namespace K66
open PySem PySem.Spec PyProof.Rows L2
theorem ok_Climb_init {P : Program} {w : World} {K : PySem.W.Frag} {mg : Str → Option Value} {base : Heap} (W : Wd K mg) : KCal P w K mg base 6 p_Climb_init (sp_Climb_init K) :=
  kcal_of (d := d_Climb_init) W 29 rfl rfl 84 rfl rfl sc_Climb_init (fun vs H Q E h => len_Climb_init h) (fun _ _ _ _ _ _ us hl => match us, hl with | [_, _, _], _ => rfl)
    fun f cdv A outer s H vs Q E hr h => ⟨t_Climb_init K, (der_Climb_init W (ok_batch_costs W) hr).nox, rd_Climb_init h⟩
theorem ok_Climb_come_to {P : Program} {w : World} {K : PySem.W.Frag} {mg : Str → Option Value} {base : Heap} (W : Wd K mg) : MCal P w K mg base 1 "come_to" p_Climb_come_to (sp_Climb_come_to K) :=
  mcal_of (d := d_Climb_come_to) W 30 rfl rfl 85 rfl rfl sc_Climb_come_to (fun vs H Q E h => len_Climb_come_to h) (fun _ _ _ _ _ _ us hl => match us, hl with | [_, _, _], _ => rfl)
    fun f cdv A outer s H vs Q E hr h => ⟨t_Climb_come_to K, (der_Climb_come_to W  hr).nox, rd_Climb_come_to h⟩
theorem ok_Climb_step {P : Program} {w : World} {K : PySem.W.Frag} {mg : Str → Option Value} {base : Heap} (W : Wd K mg) : MCal P w K mg base 2 "step" p_Climb_step (sp_Climb_step K) :=
  mcal_of (d := d_Climb_step) W 31 rfl rfl 86 rfl rfl sc_Climb_step (fun vs H Q E h => len_Climb_step h) (fun _ _ _ _ _ _ us hl => match us, hl with | [_, _], _ => rfl)
    fun f cdv A outer s H vs Q E hr h => ⟨t_Climb_step K, (der_Climb_step W (ok_Climb_come_to W) hr).nox, rd_Climb_step h⟩
theorem ok_Climb_lots {P : Program} {w : World} {K : PySem.W.Frag} {mg : Str → Option Value} {base : Heap} (W : Wd K mg) : MCal P w K mg base 1 "lots" p_Climb_lots (sp_Climb_lots K) :=
  mcal_of (d := d_Climb_lots) W 32 rfl rfl 87 rfl rfl sc_Climb_lots (fun vs H Q E h => len_Climb_lots h) (fun _ _ _ _ _ _ us hl => match us, hl with | [_], _ => rfl)
    fun f cdv A outer s H vs Q E hr h => ⟨t_Climb_lots K, (der_Climb_lots W  hr).nox, rd_Climb_lots h⟩
end K66

/-! ## X1 -/
set_option maxHeartbeats 4000000
namespace K66
open PySem PySem.Spec PyProof.Rows L2
/-! NoDoughs is made -/
section
variable {X : Cx} {e : Expr} {es : List Expr} {ta : TA} {p1 p2 pos : Pos} {B : Addr}
/-- BakeError.__init__(self, ..), which is ValueError's -/
theorem pe_beinit {pl : Sem Bool} (hg : Gl X "BakeError") (hm : X.mg "BakeError" = some (.ref B)) (hr : PySem.W.readsIn X.K B (.type "type") = true) (hga : PySem.W.specialIn X.K (.ref B) "__getattribute__" = some (some (.builtin "type.__getattribute__")))
    (at' : PySem.W.findCls X.K (.ref B) (.type "type") "__init__" = some (.val (.builtin "ValueError.__init__"))) (ha : PA X (e :: es) ta)
    (form : eval (.Call (.Attribute (.Name "BakeError" p1) "__init__" p2) (e :: es) [] pos) X.env = (do
      let ov ← eval (.Name "BakeError" p1) X.env
      standAt p2.atName
      let (f, first) ← holding [ov] (getMethod ov "__init__" pl)
      callWith pos f first (backTo pos (starEach (e :: es) X.env)) (backToKw pos (keywordEach [] X.env))) := by rfl)
    (star : starEach (e :: es) X.env = (false, eval e X.env) :: starEach es X.env := by rfl) (plain : (backTo pos (starEach es X.env)).any (·.1) = false := by rfl) :
    PE X (.Call (.Attribute (.Name "BakeError" p1) "__init__" p2) (e :: es) [] pos) (tVeI X.K ta) := ⟨fun pins s σ H Q I h => by
  refine PySem.W.methodCall_KW (ld_glob I hg hm (PySem.W.method_cls I.kIn hga (PySem.W.cls_value I.kIn hr at' (by decide +kernel) ?_)) (by decide)) form
  refine callWith_method1 (thn (ha.run pos pins _ σ H _ (I.tok _) h) fun us s1 ⟨vs, H1, I1, rel, a, C, ws, hvs, few, T, there, q⟩ => ?_) star plain
  subst hvs
  match us, rel with
  | u0 :: ur, .cons r0 rr =>
    obtain rfl : u0 = Value.ref a := r0
    exact oinit_ok T I1 there (by rw [← Paired.length rr, sizeLine_eq]; omega) fun s' J => ⟨.non, H1, J, rfl, q⟩⟩
end
theorem and_t {a b : Bool} (h : (a && b) = true) : a = true ∧ b = true := Bool.and_eq_true_iff.mp h
section
variable {K : PySem.W.Frag} {mg : Str → Option Value}
theorem oex_of {C : Addr} (h : oexB K C = true) (h1 : PySem.W.findIn K (.ref C) "__setattr__" = some (some (.builtin "object.__setattr__"))) (h2 : PySem.W.subIn K (.ref C) (.type "BaseException") = some true) (h3 : PySem.W.typeIn K (.ref C) = some (.type "type")) (h4 : PySem.W.keepIn K (.ref C) = true) : OexC K C := by
  refine ⟨?_, h1, h2, h3, h4⟩
  unfold oexB at h
  split at h
  · rename_i d cd sl e
    split at h
    · rename_i C' bm o1 o2 o3 o4 n o6 hmro hsl
      obtain ⟨h, hb⟩ := and_t h
      obtain ⟨h, hdict⟩ := and_t h
      obtain ⟨h, hdel⟩ := and_t h
      obtain ⟨hC, hn⟩ := and_t h
      obtain rfl : C' = C := beq_iff_eq.mp hC
      obtain rfl : n = "ValueError.__new__" := beq_iff_eq.mp hn
      obtain ⟨nm, bs, mro, ns, q, hasDict, sn, sub, ab, col, hasDel⟩ := cd
      dsimp only at hmro hdict hdel
      subst hmro hdict
      obtain rfl : hasDel = false := by simpa using hdel
      refine ⟨nm, q, ns, bs, bm, sn, sub, ab, col, d, o1, o2, o3, o4, o6, ?_, hb⟩
      rw [e]
      have : sl = #[o1, o2, o3, o4, some (.builtin "ValueError.__new__"), o6] := by rw [← hsl]
      rw [this]
    · cases h
  · cases h
theorem oex_NoDoughs (W : Wd K mg) : OexC K (gA K "NoDoughs") := oex_of (gsat W.says 0) (of_decide_eq_true (gsat W.says 1)) (of_decide_eq_true (gsat W.says 2)) (of_decide_eq_true (gsat W.says 3)) (He.keep_ok (fact W.says 99 (f := .keep "NoDoughs") rfl))
theorem be_init (W : Wd K mg) : PySem.W.findCls K (.ref (gA K "BakeError")) (.type "type") "__init__" = some (.val (.builtin "ValueError.__init__")) := by
  have h : gvI (PySem.W.findCls K (.ref (gA K "BakeError")) (.type "type") "__init__") = true := gsat W.says 9
  unfold gvI at h
  split at h
  · assumption
  · cases h
def fND (K : PySem.W.Frag) : Addr := He.fAd K ("NoDoughs", some "__init__")
/-- NoDoughs.__init__: the error's dict tells the day -/
def sp_ND (K : PySem.W.Frag) : Sp := fun vs H Q _ => ∃ (a : Addr) (x : V), vs = [.ref a, x] ∧ OexC K (gA K "NoDoughs") ∧ PySem.W.findIn K (.ref (gA K "NoDoughs")) "day" = some none ∧ H a = some (exo a (gA K "NoDoughs") none) ∧
  ∀ (d : Addr) (H1 : Hp), Ex H H1 → H1 d = none → d ≠ a → Q .non (upd (upd H1 d (exd d [("day", x)])) a (exo a (gA K "NoDoughs") (some d)))
abbrev N_ND : List Str := ["self", "day"]
theorem sc_ND : FnScope N_ND N_ND (defScope s_NoDoughs_init) := ⟨rfl, rfl, rfl, by decide +kernel, rfl, by decide +kernel, by decide +kernel⟩
def t_ND (K : PySem.W.Frag) : TS := tSeq (tDrop (tVeI K (tCons (tVar 0) (tCons (tC (.str "no doughs")) tNil)))) (tSeq (tOst K "day" (tVar 0) (tVar 1)) tNext)
theorem der_ND {P : Program} {w : World} {base : Heap} (W : Wd K mg) {f : Addr} {cdv : Value} {A : Around} {outer : List Env} {s : Shared} {H : Hp} {E : XK} :
    PSs (cxOf CX0 P w K mg base N_ND "NoDoughs.__init__" (defScope s_NoDoughs_init) f cdv A outer s H E).nox (defBody s_NoDoughs_init) (t_ND K) :=
  pss_cons (ps_expr (pe_beinit (by rfl) W.g_BakeError (gsat W.says 7) (of_decide_eq_true (gsat W.says 8)) (be_init W) (pa_cons (pv 0) (pa_cons pe_str pa_nil)))) (pss_cons (ps_ost (pv 0) (pv 1)) pss_nil)
theorem rd_ND {vs : List V} {H : Hp} {Q : VK} {E : XK} (h : sp_ND K vs H Q E) : t_ND K (DD Q) (start N_ND vs) H := by
  obtain ⟨a, x, rfl, T, hno, ha, k⟩ := h
  have args : EvX (tCons (tVar 0) (tCons (tC (.str "no doughs")) tNil)) [some (.ref a), some x] H [.ref a, .str "no doughs"] := ex_cons (ev_var rfl) (ex_cons ev_c ex_nil)
  have call : Ev (tVeI K (tCons (tVar 0) (tCons (tC (.str "no doughs")) tNil))) [some (.ref a), some x] H (Is .non) := fun H1 e Q q =>
    args H1 e _ fun H2 e2 => ⟨a, gA K "NoDoughs", [.str "no doughs"], rfl, by show 1 ≤ 1000; decide, T, (e.trans e2) _ _ ha, q _ H2 e2 rfl⟩
  refine Sx.at (x_drop call fun v H1 e1 _ => fun H2 e2 => ?_)
  show tOst K "day" (tVar 0) (tVar 1) _ _ H2
  refine (ev_var (i := 1) (v := x) rfl : Ev (tVar 1) [some (.ref a), some x] H (Is x)) H2 (e1.trans e2) _ fun y H3 e3 py => ?_
  obtain rfl : y = x := py
  refine (ev_var (i := 0) (v := .ref a) rfl : Ev (tVar 0) [some (.ref a), some y] H (Is (.ref a))) H3 ((e1.trans e2).trans e3) _ fun z H4 e4 pz => ?_
  obtain rfl : z = .ref a := pz
  have e14 := ((e1.trans e2).trans e3).trans e4
  exact ⟨a, gA K "NoDoughs", rfl, T, hno, .inl ⟨e14 _ _ ha, fun d hd hda => k d H4 e14 hd hda⟩⟩
theorem ok_ND {P : Program} {w : World} {base : Heap} (W : Wd K mg) : ∃ fd, FnOk P w K mg base CX0 1 (fND K) fd N_ND (sp_ND K) ∧ Binds K fd N_ND [] := by
  obtain ⟨fd, F⟩ := defK W.says 0 (d := d_NoDoughs_init) rfl
  refine ⟨fd, F.ok sc_ND (fun vs H Q E h => by obtain ⟨_, _, e, _⟩ := h; rw [e]; rfl) (fun cdv A outer s H vs Q E hr h => ⟨t_ND K, (der_ND W).nox, rd_ND h⟩), F.bindsN fun _ _ _ _ _ _ us hl => match us, hl with | [_, _], _ => rfl⟩
end
end K66

/-! ## X2 -/
set_option maxHeartbeats 4000000
namespace K66
open PySem PySem.Spec PyProof.Rows L2
def tRND (K : PySem.W.Frag) (E : XK) (ta : TA) : TS := fun _ σ H => tMkO (gA K "NoDoughs") (sp_ND K) [] ta σ H fun cls d H' => E cls d H'
def tRTM (K : PySem.W.Frag) (E : XK) : TS := fun _ _ H => E (.ref (gA K "TooMany")) none H
section
variable {X : Cx} {E : XK} {e : Expr} {es : List Expr} {ta : TA} {p pos pos' : Pos} {k : Nat} {x : Str} {ps : List Str} {sp : Sp} {t : TA}
theorem ps_nd (W : Wd X.K X.mg) (hc : X.calm = true) (tk : Takes X fun cls d _ H => E cls d H) (hr : Room 2 X.A) (hg : Gl X "NoDoughs") (ha : PA X (e :: es) ta) (he : starEach (e :: es) X.env = (false, eval e X.env) :: starEach es X.env := by rfl) (hpl : (backTo pos (starEach es X.env)).any (·.1) = false := by rfl) :
    PS X (.Raise (some (.Call (.Name "NoDoughs" p) (e :: es) [] pos)) none pos') (tRND X.K E ta) := by
  obtain ⟨fd, F, hb⟩ := ok_ND (P := X.prog) (w := X.w) (base := X.base) W
  exact ps_raise hc tk (pmk_oex (k := 1) (oex_NoDoughs W) (of_decide_eq_true (gsat W.says 4)) (of_decide_eq_true (gsat W.says 5)) F hr hb .nil pass0 hg W.g_NoDoughs ha (by decide) he hpl)
theorem ps_tm {m : Str} {j : Nat} {p2 : Pos} (W : Wd X.K X.mg) (hc : X.calm = true) (tk : Takes X fun cls d _ H => E cls d H) (hg : Gl X "TooMany") : PS X (.Raise (some (.Call (.Name "TooMany" p) [.Constant (.str m) j p2] [] pos)) none pos') (tRTM X.K E) := by
  obtain ⟨h1, h2, h3, h4⟩ := He.exc_ok (fact W.says 96 (f := .exc "TooMany") rfl)
  exact ps_raise hc tk (pmk_own F.excBase_ValueError h1 W.g_TooMany h2 (raises_own h3 h4) hg)
/-- the call of a def that may raise, what it lets out going on -/
theorem pe_calE (C : Cal X.prog X.w X.K X.mg X.base (L2.CX X.prog X.w) k x ps sp) (hr : Room k X.A) (hg : Gl X x) (hx : Passes (L2.CX X.prog X.w) X E) (ha : PA X (e :: es) t)
    (hdb : (x == ("__debug__" : Str)) = false := by decide) (he : starEach (e :: es) X.env = (false, eval e X.env) :: starEach es X.env := by rfl) (hpl : (backTo pos (starEach es X.env)).any (·.1) = false := by rfl) :
    PE X (.Call (.Name x p) (e :: es) [] pos) (tCall sp [] E t) := by
  obtain ⟨f, fd, F, hm, hk, hb⟩ := C.ex
  exact pe_call F hr hg hm hk hb .nil hx ha hdb he hpl
end
end K66

/-! ## X3 -/
set_option maxHeartbeats 4000000
namespace K66
open PySem PySem.Spec PyProof.Rows L2
/-! look_at_dough_list -/
abbrev N_look_at_dough_list : List Str := ["bakery", "thing", "day", "row"]
abbrev p_look_at_dough_list : List Str := ["bakery", "thing"]
theorem sc_look_at_dough_list : FnScope N_look_at_dough_list p_look_at_dough_list (defScope s_look_at_dough_list) := ⟨rfl, rfl, rfl, by decide +kernel, rfl, by decide +kernel, by decide +kernel⟩
def t_look_at_dough_list (K : PySem.W.Frag) (E : XK) : TS := tSeq (tIfS (tOr (tNot (tB (tCB (rIsi K) (tCons (tVar 1) (tCons (tC (.ty "list")) (tNil)))))) (tTest (tOp rNe (tCB (rLenS K) (tCons (tVar 1) (tNil))) (tCB (rLenS K) (tCons (tOp (rIx K) (tVar 0) (tC (.int 0))) (tNil)))))) (tSeq (tRND K E (tCons (tC .non) (tNil))) (tNext)) (tNext)) (tSeq (tFor (iEnum K (tCons (tVar 1) (tNil))) (gTup K 2 (gCons (gName 2) (gCons (gName 3) (gNil)))) (tSeq (tIfS (tNot (tB (tCall (sp_is_dough_day K) [] E0 (tCons (tVar 3) (tNil))))) (tSeq (tRND K E (tCons (tVar 2) (tNil))) (tNext)) (tNext)) (tNext))) (tNext))
theorem der_look_at_dough_list {P : Program} {w : World} {K : PySem.W.Frag} {mg : Str → Option Value} {base : Heap} (W : Wd K mg) (C_is_dough_day : Cal P w K mg base CX0 4 "is_dough_day" p_is_dough_day (sp_is_dough_day K)) {f : Addr} {cdv : Value} {A : Around} {outer : List Env} {s : Shared} {H : Hp} {E : XK} (hr : Room 4 (A.deeper (envOfC "look_at_dough_list" (defScope s_look_at_dough_list) s.heap.objs.size f cdv))) :
    PSs (cxOf (L2.CX P w) P w K mg base N_look_at_dough_list "look_at_dough_list" (defScope s_look_at_dough_list) f cdv A outer s H E) (defBody s_look_at_dough_list) (t_look_at_dough_list K E) :=
  pss_cons (ps_if (PW.pt (pw_or (pt_not (pt_val (pe_callB call_isi (by rfl) W.b_isinstance (by decide +kernel) (pa_cons (pv 1) (pa_cons (pe_bltn (by rfl) W.b_list (by decide +kernel) rfl) (pa_nil)))))) (pw_or1 (pt_cmpR op_ne (pe_callB call_len_seq (by rfl) W.b_len PySem.boot_len (pa_cons (pv 1) (pa_nil))) (pe_callB call_len_seq (by rfl) W.b_len PySem.boot_len (pa_cons (pe_ix ix_seq (pv 0) (pe_int) (fun _ _ => rfl)) (pa_nil))) (nomark _))))) (pss_cons (ps_nd W (by rfl) (takes_of rfl rfl rfl rfl) (hr.mono (by decide)) (by rfl) (pa_cons (pe_non) (pa_nil))) (pss_nil)) (pss_nil)) (pss_cons (ps_for (passes_of rfl) (by rfl) (pi_enum (by rfl) W.b_enumerate (pa_cons (pv 1) (pa_nil))) (pg_tup (by rfl) (pgs_cons (pg_name (i := 2) sc_look_at_dough_list.nd rfl (by first | exact Or.inl rfl | exact Or.inr rfl)) (pgs_cons (pg_name (i := 3) sc_look_at_dough_list.nd rfl (by first | exact Or.inl rfl | exact Or.inr rfl)) (pgs_nil)))) (pss_cons (ps_if (pt_not (pt_val (pe_cal C_is_dough_day (hr.mono (by decide)) (by rfl) (pa_cons (pv 3) (pa_nil))))) (pss_cons (ps_nd W (by rfl) (takes_of rfl rfl rfl rfl) (hr.mono (by decide)) (by rfl) (pa_cons (pv 2) (pa_nil))) (pss_nil)) (pss_nil)) (pss_nil))) (pss_nil))
/-! look_at_doughs -/
abbrev N_look_at_doughs : List Str := ["bakery", "thing"]
theorem sc_look_at_doughs : FnScope N_look_at_doughs p_look_at_doughs (defScope s_look_at_doughs) := ⟨rfl, rfl, rfl, by decide +kernel, rfl, by decide +kernel, by decide +kernel⟩
def t_look_at_doughs (K : PySem.W.Frag) (E : XK) : TS := tSeq (tDrop (tCall (sp_look_at_plain K) [] E0 (tCons (tVar 0) (tNil)))) (tSeq (tDrop (tCall (sp_look_at_dough_list K) [] E (tCons (tVar 0) (tCons (tVar 1) (tNil))))) (tNext))
theorem der_look_at_doughs {P : Program} {w : World} {K : PySem.W.Frag} {mg : Str → Option Value} {base : Heap} (W : Wd K mg) (C_look_at_dough_list : Cal P w K mg base (L2.CX P w) 5 "look_at_dough_list" p_look_at_dough_list (sp_look_at_dough_list K)) (C_look_at_plain : Cal P w K mg base CX0 8 "look_at_plain" p_look_at_plain (sp_look_at_plain K)) {f : Addr} {cdv : Value} {A : Around} {outer : List Env} {s : Shared} {H : Hp} {E : XK} (hr : Room 8 (A.deeper (envOfC "look_at_doughs" (defScope s_look_at_doughs) s.heap.objs.size f cdv))) :
    PSs (cxOf (L2.CX P w) P w K mg base N_look_at_doughs "look_at_doughs" (defScope s_look_at_doughs) f cdv A outer s H E) (defBody s_look_at_doughs) (t_look_at_doughs K E) :=
  pss_cons (ps_expr (pe_cal C_look_at_plain (hr.mono (by decide)) (by rfl) (pa_cons (pv 0) (pa_nil)))) (pss_cons (ps_expr (pe_calE C_look_at_dough_list (hr.mono (by decide)) (by rfl) (passes_call (takes_of rfl rfl rfl rfl) fun _ _ _ _ h => h) (pa_cons (pv 0) (pa_cons (pv 1) (pa_nil))))) (pss_nil))
end K66

/-! ## R19 -/
set_option maxHeartbeats 4000000
namespace K66
open PySem PySem.Spec PyProof.Rows L2
structure Kit (K : PySem.W.Frag) : Prop where
  oex : OexC K (gA K "NoDoughs")
  day : PySem.W.findIn K (.ref (gA K "NoDoughs")) "day" = some none
  climb : ClimbK K
theorem kit_of {K : PySem.W.Frag} {mg : Str → Option Value} (W : Wd K mg) : Kit K :=
  ⟨oex_NoDoughs W, of_decide_eq_true (gsat W.says 6), ⟨cls_Climb W, He.noat_ok (fact W.says 88 (f := .noat "Climb" "lights") rfl), He.noat_ok (fact W.says 89 (f := .noat "Climb" "rows") rfl), He.noat_ok (fact W.says 90 (f := .noat "Climb" "mixes") rfl), He.noat_ok (fact W.says 91 (f := .noat "Climb" "batches") rfl), He.noat_ok (fact W.says 92 (f := .noat "Climb" "free") rfl),
    He.noat_ok (fact W.says 93 (f := .noat "Climb" "mixed") rfl), He.noat_ok (fact W.says 94 (f := .noat "Climb" "free_from") rfl), He.noat_ok (fact W.says 95 (f := .noat "Climb" "mixed_from") rfl)⟩⟩
section
variable {K : PySem.W.Frag} {σ : L2.St} {H H' : Hp} {vs : List V} {Q : VK} {E : XK} {u : TS} {D : Ends}
theorem x_nd (kit : Kit K) (bad : ∀ (d : Addr) (H' : Hp), Ex H H' → H d = none → H' d = some (.xd [("day", .non)]) → E (.ref (gA K "NoDoughs")) (some d) H') : Sx (tSeq (tRND K E (tCons (tC .non) tNil)) u) D σ H := fun H1 e => by
  show tMkO (gA K "NoDoughs") (sp_ND K) [] (tCons (tC .non) tNil) σ H1 _
  refine (ex_cons ev_c ex_nil : EvX (tCons (tC .non) tNil) σ H [.non]) H1 e _ fun H2 e2 => ⟨by show 1 ≤ 1000; decide, fun a ha => ⟨a, .non, rfl, kit.oex, kit.day, upd_same, fun d H3 e3 hd hda => ?_⟩⟩
  have h2d : H2 d = none := by
    have := e3.back hd
    rw [upd_ne hda] at this
    exact this
  have ex : Ex H (upd (del (upd (upd H3 d (exd d [("day", .non)])) a (exo a (gA K "NoDoughs") (some d))) a) d (.xd [("day", .non)])) := fun x o hx => by
    have hx2 := (e.trans e2) _ _ hx
    have xa : x ≠ a := ne_of_none hx2 ha
    have xd : x ≠ d := ne_of_none hx2 h2d
    rw [upd_ne xd, del_ne xa, upd_ne xa, upd_ne xd]
    exact e3 _ _ (by rw [upd_ne xa]; exact hx2)
  exact ⟨rfl, d, [("day", .non)], upd_same, by rw [upd_ne hda]; exact upd_same, h2d, bad d _ ex ((e.trans e2).back h2d) upd_same⟩
theorem x_callX {sp : Sp} {ta : TA} (ha : EvX ta σ H vs) (k : ∀ H1, Ex H H1 → sp vs H1 (fun _ H' => u D σ H') E) : Sx (tSeq (tDrop (tCall sp [] E ta)) u) D σ H := fun H1 e =>
  ha H1 e _ fun H2 e2 => by
    show sp (vs ++ []) H2 _ E
    rw [List.append_nil]; exact k H2 (e.trans e2)
theorem len_look_at_dough_list (h : sp_look_at_dough_list K vs H Q E) : vs.length = 2 := by
  rcases h with ⟨_, _, _, ⟨_, _, _, _, e, _⟩, _⟩ | ⟨_, _, _, e, _⟩ <;> rw [e] <;> rfl
theorem len_look_at_doughs (h : sp_look_at_doughs K vs H Q E) : vs.length = 2 := by
  rcases h with ⟨_, _, _, ⟨_, _, _, _, e, _⟩, _⟩ | ⟨_, _, _, e, _⟩ <;> rw [e] <;> rfl
theorem rd_look_at_dough_list (kit : Kit K) (h : sp_look_at_dough_list K vs H Q E) : t_look_at_dough_list K E (DD Q) (start N_look_at_dough_list vs) H := by
  rcases h with ⟨H0, P, e0, ⟨pb, b, pd, g, rfl, hb, hok, hg, hgok, rfl⟩, k⟩ | ⟨pb, b, x, rfl, hb, hok, hx, bad⟩
  · obtain ⟨pl, pgs, pg, q1, q2, _⟩ := hb.up e0
    obtain ⟨vd, d1, d2, d3⟩ := hg.up e0
    refine Sx.at (x_pass (b := false) (et_or (a := false) (et_not (a := true) (et_B (isi_lst d1 (ev_var rfl)))) fun _ => EvT.eq (et_test (ev_ne (ev_lenL d1 (ev_var rfl)) (ev_lenL q2 (ev_bk0 q1 (ev_var rfl))) eqI)) (by
      rw [List.length_map, d2, hgok.len, decide_eq_true rfl]; rfl)) rfl ?_)
    refine x_forE d1 (ex_cons (ev_var rfl) ex_nil) (fun i σ' H' => Ex H H' ∧ ∃ o2 o3 : Option V, σ' = [some (.ref pb), some (.ref pd), o2, o3]) (fun H1 e1 => ⟨e1, none, none, rfl⟩) (fun i σ' H' w => w.1 _ _ d1) (fun i x σ' H' T H2 hx ⟨w1, o2, o3, es⟩ e2 hT => ?_) fun σ' H' ⟨w1, o2, o3, es⟩ => ?_
    · subst es
      refine ⟨_, eg_tup2 hT eg_name eg_name, ?_⟩
      have hi : i < g.length := by rw [← d2]; exact (List.getElem?_eq_some_iff.mp hx).1
      refine x_pass (et_not (a := true) (et_B (ev_call (ex_cons (ev_var rfl) ex_nil) ⟨x, g.getD i dg0, rfl, (d3 i x hx).up (w1.trans e2), hgok.ok _ (getD_mem hi), rfl⟩))) rfl (x_next fun H3 e3 => ⟨(w1.trans e2).trans e3, _, _, rfl⟩)
    · subst es
      exact x_next fun H1 e1 => k _ H1 (w1.trans e1) rfl
  · obtain ⟨pl, pgs, pg, q1, q2, _⟩ := hb
    refine Sx.at (x_if (b := true) ?_ (fun _ => x_nd kit bad) fun z => by cases z)
    rcases hx with rfl | ⟨p, ws, rfl, hp, hn⟩
    · exact et_or (a := true) (b := true) (et_not (a := false) (et_B (isi_nonlst (ev_var rfl)))) fun z => by cases z
    · refine et_or (a := false) (b := true) (et_not (a := true) (et_B (isi_lst hp (ev_var rfl)))) fun _ => EvT.eq (et_test (ev_ne (ev_lenL hp (ev_var rfl)) (ev_lenL q2 (ev_bk0 q1 (ev_var rfl))) eqI)) ?_
      rw [List.length_map, decide_eq_false]
      · rfl
      · intro z
        injection z with z
        have hbn : b.n = b.lights.length := rfl
        exact hn (by omega)
theorem rd_look_at_doughs (kit : Kit K) (h : sp_look_at_doughs K vs H Q E) : t_look_at_doughs K E (DD Q) (start N_look_at_doughs vs) H := by
  rcases h with ⟨H0, P, e0, ⟨pb, b, pd, g, rfl, hb, hok, hg, hgok, rfl⟩, k⟩ | ⟨pb, b, x, rfl, hb, hok, hx, bad⟩
  · have hb := hb.up e0
    have hg := hg.up e0
    refine Sx.at (x_drop (ev_call (ex_cons (ev_var rfl) ex_nil) ⟨pb, b, rfl, hb, hok, rfl⟩) fun v H1 e1 _ => ?_)
    refine x_callX (ex_cons (ev_var rfl) (ex_cons (ev_var rfl) ex_nil)) fun H3 e3 => .inl ?_
    have e03 := e1.trans e3
    exact ⟨H3, Is .non, Ex.rfl, ⟨pb, b, pd, g, rfl, hb.up e03, hok, hg.up e03, hgok, rfl⟩, fun v H4 e4 _ => k _ H4 (e03.trans e4) rfl⟩
  · refine Sx.at (x_drop (ev_call (ex_cons (ev_var rfl) ex_nil) ⟨pb, b, rfl, hb, hok, rfl⟩) fun v H1 e1 _ => ?_)
    refine x_callX (ex_cons (ev_var rfl) (ex_cons (ev_var rfl) ex_nil)) fun H3 e3 => .inr ?_
    have e03 := e1.trans e3
    refine ⟨pb, b, x, rfl, hb.up e03, hok, ?_, fun d H' e' hd hd' => bad d H' (e03.trans e') (e03.back hd) hd'⟩
    rcases hx with rfl | ⟨p, ws, rfl, hp, hn⟩
    · exact .inl rfl
    · exact .inr ⟨p, ws, rfl, e03 _ _ hp, hn⟩
end
end K66

/-! ## O6 -/
set_option maxHeartbeats 4000000
namespace K66
open PySem PySem.Spec PyProof.Rows L2
theorem ok_look_at_dough_list {P : Program} {w : World} {K : PySem.W.Frag} {mg : Str → Option Value} {base : Heap} (W : Wd K mg) : Cal P w K mg base (L2.CX P w) 5 "look_at_dough_list" p_look_at_dough_list (sp_look_at_dough_list K) :=
  cal_of (d := d_look_at_dough_list) W 18 rfl rfl W.g_look_at_dough_list sc_look_at_dough_list (fun vs H Q E h => len_look_at_dough_list h) (fun _ _ _ _ _ _ us hl => match us, hl with | [_, _], _ => rfl)
    fun f cdv A outer s H vs Q E hr h => ⟨t_look_at_dough_list K E, der_look_at_dough_list W (ok_is_dough_day W) hr, rd_look_at_dough_list (kit_of W) h⟩
theorem ok_look_at_doughs {P : Program} {w : World} {K : PySem.W.Frag} {mg : Str → Option Value} {base : Heap} (W : Wd K mg) : Cal P w K mg base (L2.CX P w) 9 "look_at_doughs" p_look_at_doughs (sp_look_at_doughs K) :=
  cal_of (d := d_look_at_doughs) W 19 rfl rfl W.g_look_at_doughs sc_look_at_doughs (fun vs H Q E h => len_look_at_doughs h) (fun _ _ _ _ _ _ us hl => match us, hl with | [_, _], _ => rfl)
    fun f cdv A outer s H vs Q E hr h => ⟨t_look_at_doughs K E, der_look_at_doughs W (ok_look_at_dough_list W) (ok_look_at_plain W) hr, rd_look_at_doughs (kit_of W) h⟩
theorem ok_lets_ladder {P : Program} {w : World} {K : PySem.W.Frag} {mg : Str → Option Value} {base : Heap} (W : Wd K mg) : Cal P w K mg base CX0 10 "lets_ladder" p_lets_ladder (sp_lets_ladder K) :=
  cal_of (d := d_lets_ladder) W 28 rfl rfl W.g_lets_ladder sc_lets_ladder (fun vs H Q E h => by obtain ⟨_, _, _, ⟨_, _, _, _, _, _, _, e, _⟩, _⟩ := h; rw [e]; rfl) (fun _ _ _ _ _ _ us hl => match us, hl with | [_, _, _], _ => rfl)
    fun f cdv A outer s H vs Q E hr h => ⟨t_lets_ladder K, (der_lets_ladder W (ok_holds_for W) (ok_is_ladder W) (ok_look_at_doughs W) (ok_rests W) hr).nox, rd_lets_ladder h⟩
theorem ok_dough_cost {P : Program} {w : World} {K : PySem.W.Frag} {mg : Str → Option Value} {base : Heap} (W : Wd K mg) : Cal P w K mg base CX0 10 "dough_cost" p_dough_cost (sp_dough_cost K) :=
  cal_of (d := d_dough_cost) W 21 rfl rfl W.g_dough_cost sc_dough_cost (fun vs H Q E h => by obtain ⟨_, _, _, ⟨_, _, _, _, _, _, e, _⟩, _⟩ := h; rw [e]; rfl) (fun _ _ _ _ _ _ us hl => match us, hl with | [_, _, _], _ => rfl)
    fun f cdv A outer s H vs Q E hr h => ⟨t_dough_cost w K, (der_dough_cost W (ok_dough_price W) (ok_look_at_doughs W) (ok_price_of W) hr).nox, rd_dough_cost h⟩
end K66

/-! ## S6 -/
set_option maxHeartbeats 4000000
namespace K66
open PySem PySem.Spec PyProof.Rows L2
def ladF (D : Tab) (n : Nat) : List Int := (List.range (n + 1)).map D.F
def ladM (D : Tab) (n : Nat) : List (List Int) := (List.range n).map fun r => (List.range (n + 1)).map (D.M r)
def CheapP (b : Bk) (g : List Dg) : PP := fun _ v H2 => ∃ (T pp : Addr) (ls : List Lot) (pL : Addr) (D : Tab), v = .ref T ∧ H2 T = some (.tup [.ref pp, .ref pL]) ∧ PlanAt H2 pp ls ∧ LadAt H2 pL (ladF D b.n) (ladM D b.n) ∧ IsPlan b g ls ∧ planCost b g ls ≤ D.F b.n ∧ D.F 0 = 0 ∧ Good b g D (b.n + 1)
instance {b : Bk} {g : List Dg} : UP (CheapP b g) := ⟨fun ⟨T, pp, ls, pL, D, h1, h2, h3, h4, h5⟩ e => ⟨T, pp, ls, pL, D, h1, e _ _ h2, h3.up e, h4.up e, h5⟩, fun h _ => h⟩
def spCheap : Sp := spOf fun vs H P => ∃ (pb : Addr) (b : Bk) (pd : Addr) (g : List Dg), vs = [.ref pb, .ref pd] ∧ BkAt H pb b ∧ b.ok ∧ DgsAt H pd g ∧ DgOk b g ∧ b.n ≤ 12 ∧ P = CheapP b g
def Many (K : PySem.W.Frag) (vs : List V) (H : Hp) (E : XK) : Prop := ∃ (pb : Addr) (b : Bk) (pd : Addr) (g : List Dg), vs = [.ref pb, .ref pd] ∧ BkAt H pb b ∧ b.ok ∧ DgsAt H pd g ∧ DgOk b g ∧ 12 < b.n ∧ ∀ H', Ex H H' → E (.ref (gA K "TooMany")) none H'
def sp_cheapest_doughs (K : PySem.W.Frag) : Sp := fun vs H Q E => spCheap vs H Q E ∨ Bad K vs H E ∨ Many K vs H E
end K66

/-! ## D6 -/
set_option maxHeartbeats 4000000
namespace K66
open PySem PySem.Spec PyProof.Rows L2
/-! cheapest_doughs -/
abbrev N_cheapest_doughs : List Str := ["bakery", "doughs", "climb", "until", "rungs"]
abbrev p_cheapest_doughs : List Str := ["bakery", "doughs"]
theorem sc_cheapest_doughs : FnScope N_cheapest_doughs p_cheapest_doughs (defScope s_cheapest_doughs) := ⟨rfl, rfl, rfl, by decide +kernel, rfl, by decide +kernel, by decide +kernel⟩
def t_cheapest_doughs (K : PySem.W.Frag) (E : XK) : TS := tSeq (tDrop (tCall (sp_look_at_doughs K) [] E (tCons (tVar 0) (tCons (tVar 1) (tNil))))) (tSeq (tIfS (tTest (tOp rGtI (tCB (rLenS K) (tCons (tOp (rIx K) (tVar 0) (tC (.int 0))) (tNil))) (tC (.int 12)))) (tSeq (tRTM K E) (tNext)) (tNext)) (tSeq (tAsg (tMake (gA K "Climb") (sp_Climb_init K) [] E0 (tCons (tVar 0) (tCons (tVar 1) (tNil)))) (gName 2)) (tSeq (tFor (iRng1 (tCons (tOp rAddI (tCB (rLenS K) (tCons (tOp (rIx K) (tVar 0) (tC (.int 0))) (tNil))) (tC (.int 1))) (tNil))) (gName 3) (tSeq (tDrop (tMeth (gA K "Climb") "step" (sp_Climb_step K) [] E0 (tVar 2) (tCons (tVar 3) (tNil)))) (tNext))) (tSeq (tRet (tTup (tCons (tMeth (gA K "Climb") "lots" (sp_Climb_lots K) [] E0 (tVar 2) tNil) (tCons (tTup (tCons (tCB (rListS K) (tCons (tFld K (tVar 2) "free") (tNil))) (tCons (tLc (iList K (tFld K (tVar 2) "mixed")) (gName 4) (tYes) (tCB (rListS K) (tCons (tVar 4) (tNil))) [4]) (tNil)))) (tNil))))) (tNext)))))
theorem der_cheapest_doughs {P : Program} {w : World} {K : PySem.W.Frag} {mg : Str → Option Value} {base : Heap} (W : Wd K mg) (C_lots : MCal P w K mg base 1 "lots" p_Climb_lots (sp_Climb_lots K)) (C_step : MCal P w K mg base 2 "step" p_Climb_step (sp_Climb_step K)) (C_Climb : KCal P w K mg base 6 p_Climb_init (sp_Climb_init K)) (C_look_at_doughs : Cal P w K mg base (L2.CX P w) 9 "look_at_doughs" p_look_at_doughs (sp_look_at_doughs K)) {f : Addr} {cdv : Value} {A : Around} {outer : List Env} {s : Shared} {H : Hp} {E : XK} (hr : Room 9 (A.deeper (envOfC "cheapest_doughs" (defScope s_cheapest_doughs) s.heap.objs.size f cdv))) :
    PSs (cxOf (L2.CX P w) P w K mg base N_cheapest_doughs "cheapest_doughs" (defScope s_cheapest_doughs) f cdv A outer s H E) (defBody s_cheapest_doughs) (t_cheapest_doughs K E) :=
  pss_cons (ps_expr (pe_calE C_look_at_doughs (hr.mono (by decide)) (by rfl) (passes_call (takes_of rfl rfl rfl rfl) fun _ _ _ _ h => h) (pa_cons (pv 0) (pa_cons (pv 1) (pa_nil))))) (pss_cons (ps_if (pt_cmpR op_gt (pe_callB call_len_seq (by rfl) W.b_len PySem.boot_len (pa_cons (pe_ix ix_seq (pv 0) (pe_int) (fun _ _ => rfl)) (pa_nil))) (pe_gi W.m_MOST_LADDER (by rfl)) (nomark _)) (pss_cons (ps_tm W (by rfl) (takes_of rfl rfl rfl rfl) (by rfl)) (pss_nil)) (pss_nil)) (pss_cons (ps_set (i := 2) sc_cheapest_doughs.nd rfl (by first | exact Or.inl rfl | exact Or.inr rfl) (pe_kcal C_Climb (hr.mono (by decide)) (by rfl) (pa_cons (pv 0) (pa_cons (pv 1) (pa_nil))))) (pss_cons (ps_for (passes_of rfl) (by rfl) (pi_range1 (by rfl) W.b_range (pa_cons (pe_op op_add (pe_callB call_len_seq (by rfl) W.b_len PySem.boot_len (pa_cons (pe_ix ix_seq (pv 0) (pe_int) (fun _ _ => rfl)) (pa_nil))) (pe_int)) (pa_nil))) (pg_name (i := 3) sc_cheapest_doughs.nd rfl (by first | exact Or.inl rfl | exact Or.inr rfl)) (pss_cons (ps_expr (pe_mcal C_step (cls_Climb W) (hr.mono (by decide)) (pv 2) (pa_cons (pv 3) (pa_nil)))) (pss_nil))) (pss_cons (ps_ret (pe_tup (pa_cons (pe_mcal0 C_lots (cls_Climb W) (hr.mono (by decide)) (pv 2)) (pa_cons (pe_tup (pa_cons (pe_callTy call_list_of (by rfl) W.b_list (by decide +kernel) (pa_cons (pe_fld (pv 2) rfl) (pa_nil))) (pa_cons (pe_lc (own := [("rungs", 4)]) (by rfl) sc_cheapest_doughs.nd (pi_list (pe_fld (pv 2) rfl)) (blkOk_by (own := [("rungs", 4)]) (N := N_cheapest_doughs) (sc := defScope s_cheapest_doughs) (by decide +kernel)) (fun _ _ _ _ _ => pg_name (i := 4) sc_cheapest_doughs.nd rfl (by first | exact Or.inl rfl | exact Or.inr rfl)) (fun _ _ _ _ _ => pts_nil) (fun _ _ _ _ _ => pe_callTy call_list_of (by rfl) W.b_list (by decide +kernel) (pa_cons (pv 4) (pa_nil)))) (pa_nil)))) (pa_nil))))) (pss_nil)))))
end K66

/-! ## R20 -/
set_option maxHeartbeats 4000000
namespace K66
open PySem PySem.Spec PyProof.Rows L2
theorem PAll.upU {Ps : List PP} {H1 H2 H3 : Hp} {vs : List V} (p : PAll Ps H1 vs H2) (h : ∀ P ∈ Ps, UP P) (e : Ex H2 H3) : PAll Ps H1 vs H3 := by
  induction p with
  | nil => exact .nil
  | cons q t ih => exact .cons (@UP.up _ (h _ List.mem_cons_self) _ _ _ _ q e) (ih (fun P hp => h P (List.mem_cons_of_mem _ hp)) e)
def TupU (Ps : List PP) : PP := fun H1 v H2 => ∃ p vs, v = .ref p ∧ H2 p = some (.tup vs) ∧ PAll Ps H1 vs H2
instance {Ps : List PP} [hp : UPs Ps] : UP (TupU Ps) := ⟨fun ⟨p, vs, h1, h2, h3⟩ e => ⟨p, vs, h1, e _ _ h2, h3.upU hp.all e⟩, fun ⟨p, vs, h1, h2, h3⟩ e => ⟨p, vs, h1, h2, h3.dn hp.all e⟩⟩
section
variable {K : PySem.W.Frag} {σ : L2.St} {H H' Hs : Hp} {S : Addr → Option (List V)} {vs : List V} {Q : VK} {E : XK} {u : TS} {D : Ends} {t : TA} {ta : TE} {b : Bk} {g : List Dg} {L : Lay}
theorem ev_tupU {Ps : List PP} [hp : UPs Ps] (h : EvA t σ H Ps) (hl : Ps.length ≤ 100000) : Ev (tTup t) σ H (TupU Ps) := fun H1 e _ q =>
  h H1 e _ fun vs H2 e2 ps => ⟨szL (by rw [ps.len]; exact hl), fun p hp' => q _ _ (e2.trans (Ex.new hp')) ⟨p, vs, rfl, upd_same, ps.upU hp.all (Ex.new hp')⟩⟩
theorem x_methX {sp : Sp} {m : Str} {C a dx : Addr} {fs : List (Str × V)} (hi : H a = some (.ins C dx fs)) (hl : fs.lookup m = none) (ha : Ev ta σ H (Is (.ref a))) (hx : EvX t σ H vs) (k : ∀ H1, Ex H H1 → sp (.ref a :: vs) H1 (fun _ H' => u D σ H') E) : Sx (tSeq (tDrop (tMeth C m sp [] E ta t)) u) D σ H := fun H1 e =>
  ha H1 e _ fun x H2 e2 hv => by
    have z : x = .ref a := hv
    subst z
    refine ⟨a, dx, fs, rfl, (e.trans e2) _ _ hi, hl, ?_⟩
    refine hx H2 (e.trans e2) _ fun H3 e3 => ?_
    show sp (.ref a :: (vs ++ [])) H3 _ E
    rw [List.append_nil]
    exact k H3 ((e.trans e2).trans e3)
theorem x_make {sp : Sp} {C : Addr} {i : Nat} (hx : EvX t σ H vs) (k : ∀ H1 x dx, Ex H H1 → H1 x = none → H1 dx = none → dx ≠ x → sp (.ref x :: vs) (upd (upd H1 dx (.own x)) x (.ins C dx [])) (fun v H2 => v = .non ∧ u D (σ.set i (some (.ref x))) H2) E) : Sx (tSeq (tAsg (tMake C sp [] E t) (gName i)) u) D σ H := fun H1 e =>
  hx H1 e _ fun H2 e2 x dx hx hdx hne => by
    show sp (.ref x :: (vs ++ [])) _ _ E
    rw [List.append_nil]
    exact k H2 x dx (e.trans e2) hx hdx hne
theorem len_cheapest_doughs (h : sp_cheapest_doughs K vs H Q E) : vs.length = 2 := by
  rcases h with ⟨_, _, _, ⟨_, _, _, _, e, _⟩, _⟩ | ⟨_, _, _, e, _⟩ | ⟨_, _, _, _, e, _⟩ <;> rw [e] <;> rfl
theorem rd_cheapest_doughs (kit : Kit K) (h : sp_cheapest_doughs K vs H Q E) : t_cheapest_doughs K E (DD Q) (start N_cheapest_doughs vs) H := by
  rcases h with ⟨H0, P, e0, ⟨pb, b, pd, g, rfl, hb, hok, hg, hgok, h12, rfl⟩, k⟩ | ⟨pb, b, x, rfl, hb, hok, hx, bad⟩ | ⟨pb, b, pd, g, rfl, hb, hok, hg, hgok, h12, many⟩
  · have hb := hb.up e0
    have hg := hg.up e0
    have hb' := hb
    obtain ⟨pl, pgs, pg, q1, q2, _⟩ := hb'
    have hlen : ∀ {σ : L2.St} {H' : Hp}, Ex H H' → σ[0]? = some (some (.ref pb)) → Ev (tCB (rLenS K) (tCons (tOp (rIx K) (tVar 0) (tC (.int 0))) tNil)) σ H' (Is (.int (b.n : Int))) := fun e h => Ev.eq (ev_lenL (e _ _ q2) (ev_bk0 (e _ _ q1) (ev_var h))) (by rw [List.length_map])
    refine Sx.at (x_drop (ev_look hb hok hg hgok (ev_var rfl) (ev_var rfl)) fun v H1 e1 _ => ?_)
    refine x_pass (EvT.eq (et_test (ev_I0 (hlen e1 rfl) ev_c)) (decide_eq_false (by omega))) rfl ?_
    refine x_make (ex_cons (ev_var rfl) (ex_cons (ev_var rfl) ex_nil)) fun H2 x dx e2 hx hdx hne => ?_
    have e02 := e1.trans e2
    have exU : Ex H2 (upd (upd H2 dx (.own x)) x (.ins (gA K "Climb") dx [])) := (Ex.new hdx).trans (Ex.new (by rw [upd_ne hne.symm]; exact hx))
    refine ⟨pb, b, pd, g, x, dx, H2, rfl, hb.up e02, hok, hg.up e02, hgok, kit.climb, exU, hx, upd_same, fun L D0 S0 Hs0 H3 hLa eHs fx off lv0 rp0 hF0 => ⟨rfl, ?_⟩⟩
    subst hLa
    have e03 : Ex H H3 := (e02.trans eHs).trans lv0.ex
    refine Sx.at (x_forR1 (n := b.n + 1) (ex_cons (ev_I0 (hlen e03 rfl) ev_c) ex_nil) (by omega)
      (fun i σ' H' => ∃ (D : Tab) (S : Addr → Option (List V)) (Hs : Hp) (o3 : Option V), Ex Hs0 Hs ∧ Live Hs S H' ∧ Rep L b.n D (max 1 i) (max 1 i) (fun _ => i) S Hs ∧ D.F 0 = 0 ∧ Good b g D i ∧ σ' = [some (.ref pb), some (.ref pd), some (.ref L.a), o3, none])
      (fun H4 e4 => by
        obtain ⟨Hs, x1, lv, _⟩ := lv0.fwd e4
        exact ⟨D0, S0, Hs, none, x1, lv, rp0.up x1, hF0, fun v hv => absurd hv (Nat.not_lt_zero v), rfl⟩) (fun i σ' H' hi ⟨D, S, Hs, o3, x1, lv, rp, hF, good, es⟩ => ?_) fun σ' H' ⟨D, S, Hs, o3, x1, lv, rp, hF, good, es⟩ => ?_)
    · subst es
      refine x_methX (lv.ex _ _ (x1 _ _ fx.ins)) rfl (ev_var rfl) (ex_cons (ev_var rfl) ex_nil) fun H4 e4 => ?_
      obtain ⟨Hs2, x2, lv2, _⟩ := lv.fwd e4
      refine ⟨b, g, L, i, D, S, Hs2, rfl, hok, hgok, fx.up (x1.trans x2), off, lv2, by omega, rp.up x2, hF, good, fun D' S' Hs' H5 x3 lv3 rp3 hF3 good3 => ?_⟩
      refine Sx.at (x_next fun H6 e6 => ?_)
      obtain ⟨Hs4, x4, lv4, _⟩ := lv3.fwd e6
      have hm : max 1 (i + 1) = i + 1 := by omega
      exact ⟨D', S', Hs4, some (.int (i : Int)), ((x1.trans x2).trans x3).trans x4, lv4, by rw [hm]; exact rp3.up x4, hF3, good3, rfl⟩
    · subst es
      have hm : max 1 (b.n + 1) = b.n + 1 := by omega
      rw [hm] at rp
      have fH : Fix K b g L H' := (fx.up x1).up lv.ex
      have hF' := lv.at_ _ _ rp.F
      have fl : ∀ {f : Str} {v : V}, L.fs.lookup f = some v → NoAttr K (gA K "Climb") f → Ev (tFld K (tVar 2) f) [some (.ref pb), some (.ref pd), some (.ref L.a), o3, none] H' (Is v) := fun h1 h2 => ev_fld fH.ins fH.kit.cls h2 h1 (ev_var rfl)
      have lenM : ((List.range b.n).map fun r => V.ref (L.mx r)).length = b.n := by rw [List.length_map, List.length_range]
      refine x_ret (P := TupU [PlanP b g (D.F b.n), NewTA [NewL (numV (b.n + 1) D.F), NewLs b.n fun r => NewL (numV (b.n + 1) (D.M r))]]) (ev_tupU (ea_cons (ev_meth fH.ins rfl (ev_var rfl) ex_nil ⟨b, g, L, D, S, Hs, rfl, hok, hgok, h12, fx.up x1, lv, rp, hF, good, rfl⟩) (ea_cons (ev_tupA (ea_cons (ev_list hF' (fl rfl fH.kit.free)) (ea_cons ?_ ea_nil)) (by show 2 ≤ 100000; decide)) ea_nil)) (by show 2 ≤ 100000; decide)) fun v H4 e4 pp => ?_
      · refine ev_lc (Yt := fun i x _ => ((List.range b.n).map fun r => V.ref (L.mx r))[i]? = some x) ?_ (by have := hok.most; omega) fun r x H5 e5 hr hx => ?_
        · have := ei_list (K := K) fH.MX (fl rfl fH.kit.mixed)
          rw [lenM] at this
          exact this
        · obtain ⟨_, rfl⟩ := range_get hx
          exact ⟨_, eg_name, rfl, ev_list (e5 _ _ (lv.at_ _ _ (rp.M r hr))) (ev_var rfl)⟩
      obtain ⟨T, us, rfl, hT, pa⟩ := pp
      cases pa with
      | cons a1 pa => cases pa with
        | cons a2 pa =>
          cases pa
          obtain ⟨pp, ls, rfl, hp1, hp2, hp3⟩ := a1
          obtain ⟨pL, us2, rfl, _, hL, pb'⟩ := a2
          cases pb' with
          | cons c1 pb' => cases pb' with
            | cons c2 pb' =>
              cases pb'
              obtain ⟨pf, rfl, _, hf⟩ := c1
              obtain ⟨pm, ms, rfl, _, hm2, hml, hmi⟩ := c2
              have toInts : ∀ f : Nat → Int, numV (b.n + 1) f = ((List.range (b.n + 1)).map f).map V.int := fun f => by unfold numV; rw [List.map_map]; rfl
              refine k _ H4 (((e02.trans eHs).trans (x1.trans lv.ex)).trans e4) ⟨T, pp, ls, pL, D, rfl, hT, hp1, ⟨pf, pm, ms, hL, by rw [hf, toInts]; rfl, hm2, by unfold ladM; rw [hml, List.length_map, List.length_range], fun i v hv => ?_⟩, hp2, hp3, hF, good⟩
              have hi : i < b.n := by rw [← hml]; exact (List.getElem?_eq_some_iff.mp hv).1
              obtain ⟨q, rfl, _, hq⟩ := hmi i v hv
              refine ⟨q, rfl, ?_⟩
              rw [hq, toInts]
              unfold ladM
              rw [List.getD_eq_getElem?_getD, range_at hi]; rfl
  · refine Sx.at (x_callX (ex_cons (ev_var rfl) (ex_cons (ev_var rfl) ex_nil)) fun H3 e3 => .inr ?_)
    refine ⟨pb, b, x, rfl, hb.up e3, hok, ?_, fun d H' e' hd hd' => bad d H' (e3.trans e') (e3.back hd) hd'⟩
    rcases hx with rfl | ⟨p, ws, rfl, hp, hn⟩
    · exact .inl rfl
    · exact .inr ⟨p, ws, rfl, e3 _ _ hp, hn⟩
  · have hb' := hb
    obtain ⟨pl, pgs, pg, q1, q2, _⟩ := hb'
    refine Sx.at (x_drop (ev_look hb hok hg hgok (ev_var rfl) (ev_var rfl)) fun v H1 e1 _ => ?_)
    refine x_if (b := true) (EvT.eq (et_test (ev_I0 (Ev.eq (ev_lenL (e1 _ _ q2) (ev_bk0 (e1 _ _ q1) (ev_var rfl))) (by rw [List.length_map])) ev_c)) (decide_eq_true (by show (12 : Int) < (b.n : Int); omega))) (fun _ => fun H2 e2 => ?_) fun z => by cases z
    exact many H2 (e1.trans e2)
end
end K66

/-! ## O7 -/
set_option maxHeartbeats 4000000
namespace K66
open PySem PySem.Spec PyProof.Rows L2
theorem ok_cheapest_doughs {P : Program} {w : World} {K : PySem.W.Frag} {mg : Str → Option Value} {base : Heap} (W : Wd K mg) : Cal P w K mg base (L2.CX P w) 10 "cheapest_doughs" p_cheapest_doughs (sp_cheapest_doughs K) :=
  cal_of (d := d_cheapest_doughs) W 33 rfl rfl W.g_cheapest_doughs sc_cheapest_doughs (fun vs H Q E h => len_cheapest_doughs h) (fun _ _ _ _ _ _ us hl => match us, hl with | [_, _], _ => rfl)
    fun f cdv A outer s H vs Q E hr h => ⟨t_cheapest_doughs K E, der_cheapest_doughs W (ok_Climb_lots W) (ok_Climb_step W) (ok_Climb_init W) (ok_look_at_doughs W) hr, rd_cheapest_doughs (kit_of W) h⟩
end K66

/-! ## X4 -/
set_option maxHeartbeats 4000000
namespace K66
open PySem PySem.Spec PyProof.Rows L2
/-! an exception that was caught and is kept -/
/-- what stands at a: an exception of that class, with that dict -/
def ExT (cls : Value) (d : Option Addr) (a : Addr) : HO := .ext fun h => ∃ (oe : Obj) (vs : Array Value), h.get? a = some oe ∧ Zc cls d oe ∧ oe.data = .fields vs
theorem exT_ok {P : Program} {w : World} {H : Hp} {h : Heap} {a : Addr} {cls : Value} {d : Option Addr} {oe : Obj} {vs : Array Value} (e : h.get? a = some oe) (z : Zc cls d oe) (f : oe.data = .fields vs) : ObjOk P w H h a (ExT cls d a) :=
  ⟨⟨oe, vs, e, z, f⟩, ⟨oe, e⟩, fun _ _ ⟨o, v, q, r, t⟩ k => ⟨o, v, k o q, r, t⟩⟩
section
variable {X : Cx} {pins : List (Addr × Obj)} {σ : L2.St} {H : Hp} {s : Shared}
theorem inv_keep {a : Addr} {oe : Obj} {vs : Array Value} {cls : Value} {d : Option Addr} (I : Inv X ((a, oe) :: pins) σ H s) (n0 : X.s_0.heap.get? a = none) (np : ∀ p ∈ X.pn ++ pins, p.1 ≠ a) (hz : Zc cls d oe) (hd : oe.data = .fields vs) : Inv X pins σ (upd H a (ExT cls d a)) s := by
  obtain ⟨ha, hn, hL, hF, hc⟩ := I.pin (a, oe) (List.mem_append_right _ List.mem_cons_self)
  have off : ∀ {b : Addr} {o : Obj}, X.s_0.heap.get? b = some o → b ≠ a := fun h e => by rw [e, n0] at h; cases h
  refine ⟨I.ok, I.os, I.bare, ⟨I.base.keep, I.base.slot, fun b o e n x => ?_, I.base.there, fun b xs e => ?_, fun b o u e => ?_, fun b ps e => ?_⟩, I.loc, I.cell, ?_, fun x c e => ?_, fun p hp => ?_, HOk.laidN I.hok (fun _ _ h => h) hn (exT_ok ha hz hd), I.len⟩
  · rw [upd_ne (off e)]; exact I.base.free b o e n x
  · have t := I.base.tups b xs e
    rw [upd_ne (ne_of_none t hn)]; exact t
  · have t := I.base.frzs b o u e
    rw [upd_ne (ne_of_none t hn)]; exact t
  · obtain ⟨m, t⟩ := I.base.tbls b ps e
    exact ⟨m, by rw [upd_ne (ne_of_none t hn)]; exact t⟩
  · rw [upd_ne hL.symm]; exact I.free
  · have nc : c ≠ a := fun z => by
      obtain ⟨v, o, ho, hv⟩ := I.cell x c e
      rw [z] at ho
      obtain rfl : oe = o := Option.some.inj (ha.symm.trans ho)
      exact hc v hv
    rw [upd_ne nc]; exact I.freeC x c e
  · have hp' : p ∈ X.pn ++ (a, oe) :: pins := by
      rcases List.mem_append.mp hp with h | h
      · exact List.mem_append_left _ h
      · exact List.mem_append_right _ (List.mem_cons_of_mem _ h)
    obtain ⟨h1, h2, h3⟩ := I.pin p hp'
    exact ⟨h1, by rw [upd_ne (np p hp)]; exact h2, h3⟩
end
/-- what is wished of the suite of 'except x as n': the error stays known behind it -/
def wKeep (K : PySem.W.Frag) (c : Value) (i : Nat) (ts : Addr → TS) (D : Ends) : WX := fun cls d σ H =>
  PySem.W.exmOne K cls c = some true ∧ ∀ a, H a = none → ts a ⟨fun σ' H' => H' a = none → D.nx (σ'.set i none) (upd H' a (ExT cls d a)), fun _ _ => False, fun _ _ => False, fun _ _ => False⟩ (σ.set i (some (.ref a))) H
section
variable {X : Cx} {x n : Str} {c : Value} {i : Nat} {body suite : List Stmt} {first : Stmt} {np pos clause : Pos} {tb : WX → TS} {ts : Addr → TS}
theorem ps_try_keep (hst : X.stack = X.env :: X.outer) (hfrm : X.env.frame = some X.env.locals) (hex : X.ex = []) (nd : X.N.Nodup) (at_i : X.N[i]? = some n) (loc : X.env.kindOf n = some .local) (names : Names X x c)
    (hbody : ∀ (W : WX) (pn : List (Addr × Obj)) (xe : Value → Shared → Prop), Takes (X.tr pn xe) W → PassesOwn (model X.prog X.w) X.A X.env xe → PSs (X.tr pn xe) body (tb W))
    (hsuite : ∀ (a : Addr) (oe : Obj) (pn : List (Addr × Obj)), PSs (X.suite a ((a, oe) :: pn)) (first :: suite) (ts a)) :
    PS X (.Try body [.ExceptHandler (some (.Name x np)) (some n) (first :: suite) clause] [] [] pos) (fun D σ H => tb (wKeep X.K c i ts D) D σ H) := ⟨fun pins s σ H D I h => by
  have ok := I.ok
  have frames : X.A.frames = some (X.env :: X.outer) := ok.frames.trans (congrArg some hst)
  refine wpAny_Try_except (wpAny_mono ((hbody (wKeep X.K c i ts D) (X.pn ++ pins) (fun e s₁ => wpAny (model X.prog X.w) X.A (noteFrame e X.env) (fun _ s₂ => wpAny (model X.prog X.w) X.A (setFlight e none) (fun _ s₃ =>
    wpAny (model X.prog X.w) X.A (handleBy e X.env [.ExceptHandler (some (.Name x np)) (some n) (first :: suite) clause]) (SP X pins D) X.xe s₃) X.xe s₂) X.xe s₁) (fun u s' caught => ?_) PassesOwn.looking).run [] s σ H D (I.toTry _) h) (fun f s1 fin => ?_) fun _ _ he => he)
  · obtain ⟨a, B, sI, pins₀, σ₁, H₁, cls, d, rfl, J₀, ground, up, sky, free, os, bare, match_, go⟩ := caught
    have J : Inv X pins σ₁ H₁ sI := J₀.ofTry ok
    rw [hst] at sky
    show wpAny _ _ (noteFrame (.ref a) X.env) _ _ _
    refine Sky.land Zc.steady frames hfrm sky fun h2 fly2 up2 => ?_
    have J2 : Inv X pins σ₁ H₁ { s' with heap := h2 } := J.landed ground fly2.1 (up.trans up2) os bare
    obtain ⟨oe, vs, there, isZ, isF⟩ := fly2.there
    have noFrame : a ∉ frs (X.env :: X.outer) := fun hm => by
      obtain ⟨_, o', e', no⟩ := fly2.2.2.1.mem hm
      obtain rfl : oe = o' := Option.some.inj (there.symm.trans e')
      exact no _ isF
    have noLoc : a ≠ X.env.locals := fun z => noFrame (List.mem_filterMap.mpr ⟨X.env, List.mem_cons_self, by rw [hfrm, z]⟩)
    have noFs : a ∉ X.fs := fun hm => by
      obtain ⟨env, h1, h2⟩ := List.mem_filterMap.mp hm
      exact noFrame (List.mem_filterMap.mpr ⟨env, List.mem_cons_of_mem _ h1, h2⟩)
    -- the error is none of what was ahead
    have new₀ : X.s_0.heap.get? a = none := by
      cases e : X.s_0.heap.get? a with
      | none => rfl
      | some o =>
        obtain ⟨o', e'⟩ := J.base.there a o e (by rw [hex]; exact fun z => nomatch z)
        have := ground a o' e' (by rw [hst]; exact noFrame)
        rw [fly2.2.1] at this
        cases this
    have newPin : ∀ p ∈ X.pn ++ pins, p.1 ≠ a := fun p hp z => by
      have := ground p.1 p.2 (J.pin p hp).1 (by rw [hst, z]; exact noFrame)
      rw [z, fly2.2.1] at this
      cases this
    have S2 := J2.suite there isF free noLoc noFs
    refine wpAny_handleBy_cons (codeAny_handlers_test ?_) (fun q => nomatch q)
    have ofCls : PySem.W.Looks (model X.prog X.w) h2 (typeOf (.ref a)) cls := fun A Q E s k q => wpAny_typeOf_ref (k _ _ there) (by rw [isZ.1]; exact q)
    have hit := PySem.W.exm_one (M := model X.prog X.w) J2.kIn ofCls match_
    have named : ∀ {Q : Value → Shared → Prop} {E : Value → Shared → Prop}, Q c { s' with heap := h2 } → wpAny (model X.prog X.w) (X.A.mark (some (.ref a))) (eval (.Name x np) X.env) Q E { s' with heap := h2 } := fun {Q E} q => by
      rcases names with ⟨g, dbg, m | ⟨m, v, nn⟩⟩
      · exact ld_glob (X := X.suite a ((a, oe) :: (X.pn ++ pins))) S2 g m q dbg
      · exact ld_blt (X := X.suite a ((a, oe) :: (X.pn ++ pins))) S2 g m v q nn dbg
    refine named (hit.here (codeAny_handlers_suite_as (HandSPX.lands_againZ fly2 fun h3 fly3 up3 => ?_)))
    have J3 : Inv X pins σ₁ H₁ { s' with heap := h3 } := J.landed ground fly3.1 ((up.trans up2).trans up3) os bare
    obtain ⟨oe3, vs3, there3, isZ3, isF3⟩ := fly3.there
    refine store_ok (X := X.suite a ((a, oe3) :: (X.pn ++ pins))) (v := .ref a) (J3.suite there3 isF3 free noLoc noFs) nd at_i (.inl loc) rfl (fun s5 S5 => ?_) (.inr loc)
    refine wpAny_mono ((hsuite a oe3 (X.pn ++ pins)).run [] s5 _ H₁ _ S5 (go a free)) (fun f s6 fin => ?_) fun _ _ z => z.elim
    match f, fin with
    | .next, ⟨σ6, H6, S6, q6⟩ =>
      have P6 : Inv X ((a, oe3) :: pins) σ6 H6 s6 := ⟨ok, S6.os, S6.bare, S6.base, S6.loc, S6.cell, S6.free, S6.freeC, fun p hp => S6.pin p (by
        rw [List.append_nil]
        rcases List.mem_append.mp hp with h | h
        · exact List.mem_cons_of_mem _ (List.mem_append_left _ h)
        · rcases List.mem_cons.mp h with h | h
          · rw [h]; exact List.mem_cons_self
          · exact List.mem_cons_of_mem _ (List.mem_append_right _ h)), S6.hok, S6.len⟩
      exact gone_ok P6 nd at_i loc fun s7 P7 => ⟨_, _, inv_keep P7 new₀ newPin isZ3 isF3, q6 (P7.pin (a, oe3) (List.mem_append_right _ List.mem_cons_self)).2.1⟩
    | .brk, ⟨_, _, _, q⟩ => exact q.elim
    | .cont, ⟨_, _, _, q⟩ => exact q.elim
    | .ret u, ⟨_, _, _, _, _, q⟩ => exact q.elim
  · match f, fin with
    | .next, ⟨σ1, H1, J, q⟩ => exact wpAny_execs_nil ⟨σ1, H1, J.ofTry ok, q⟩
    | .brk, ⟨σ1, H1, J, q⟩ => exact ⟨σ1, H1, J.ofTry ok, q⟩
    | .cont, ⟨σ1, H1, J, q⟩ => exact ⟨σ1, H1, J.ofTry ok, q⟩
    | .ret u, ⟨v, σ1, H1, J, r, q⟩ => exact ⟨v, σ1, H1, J.ofTry ok, r, q⟩⟩
end
end K66

/-! ## X5 -/
set_option maxHeartbeats 4000000
namespace K66
open PySem PySem.Spec PyProof.Rows L2
/-! isinstance and a field of an error that is kept -/
theorem excC_of {K : PySem.W.Frag} {D : Addr} (h : excB K D = true) : ExcC K D := by
  unfold excB at h
  obtain ⟨h1, h⟩ := and_t h
  obtain ⟨h2, h⟩ := and_t h
  obtain ⟨h3, h⟩ := and_t h
  obtain ⟨h4, h⟩ := and_t h
  obtain ⟨h5, h⟩ := and_t h
  obtain ⟨h6, h⟩ := and_t h
  obtain ⟨h7, h8⟩ := and_t h
  exact ⟨of_decide_eq_true h1, of_decide_eq_true h2, of_decide_eq_true h3, h4, of_decide_eq_true h5, of_decide_eq_true h6, of_decide_eq_true h7, of_decide_eq_true h8⟩
theorem cls_some {K : PySem.W.Frag} {D : Addr} (h : PySem.W.hasDictIn K D = true) : (PySem.W.clsIn K D).isSome = true := by
  obtain ⟨cd, hc, _⟩ := PySem.W.any_some h
  rw [hc]; rfl
section
variable {X : Cx} {pins : List (Addr × Obj)} {σ : L2.St} {H : Hp} {s : Shared}
/-- the dict of a kept error, if it has one -/
def DictAt (H : Hp) : Option Addr → Prop
  | none => True
  | some dd => ∃ fs, H dd = some (.xd fs)
theorem inst_of {a D : Addr} {d : Option Addr} (I : Inv X pins σ H s) (ha : H a = some (ExT (.ref D) d a)) (hd : DictAt H d) : ∃ oe od, PySem.W.InstAt s.heap a oe D od ∧ (d = none → od = none) ∧ ∀ dd fs, d = some dd → H dd = some (.xd fs) → ∃ o, od = some o ∧ ∀ n v, fs.lookup n = some v → ∃ u, PySem.W.lookIn n o = some (some u) ∧ RelV v u := by
  obtain ⟨⟨oe, vs, ho, hz, hf⟩, _, _⟩ := I.hok a _ ha
  have nc : PySem.W.notCls oe = true := by unfold PySem.W.notCls; rw [hf] <;> rfl
  cases d with
  | none => exact ⟨oe, none, ⟨ho, hz.1, nc, by rw [hz.2]; trivial⟩, fun _ => rfl, (fun dd fs e => by cases e)⟩
  | some dd =>
    obtain ⟨fs, hfs⟩ := hd
    have hx : ObjOk X.prog X.w H s.heap dd (.xd fs) := I.hok dd _ hfs
    obtain ⟨mA, hns, hr⟩ := hx
    obtain ⟨od, ho', hl⟩ := lookIn_ns hns
    refine ⟨oe, some od, ⟨ho, hz.1, nc, by rw [hz.2]; exact ho'⟩, (fun e => by cases e), fun dd' fs' e1 e2 => ?_⟩
    obtain rfl : dd = dd' := Option.some.inj e1
    have : fs' = fs := by rw [hfs] at e2; injection e2 with e2; injection e2 with e2; exact e2.symm
    subst this
    refine ⟨od, rfl, fun n v hv => ?_⟩
    obtain ⟨u, hu, ru⟩ := RelO.some_of (v := v) (o := mA n) (by rw [← hv]; exact hr n)
    exact ⟨u, by rw [hl, hu], ru⟩
/-- isinstance(e, c) and isinstance(e, (c, ..)) -/
def rIsK (K : PySem.W.Frag) : List V → Hp → VK → Prop := fun xs H Q => ∃ (a : Addr) (x : V) (D : Addr) (d : Option Addr) (b : Bool), xs = [.ref a, x] ∧ H a = some (ExT (.ref D) d a) ∧ ExcC K D ∧ DictAt H d ∧
  ((∃ cv : Value, (∀ u, RelV x u → u = cv) ∧ PySem.W.kitOne K (.ref D) cv = some b) ∨ ∃ (tp : Addr) (cs : List Addr), x = .ref tp ∧ H tp = some (.tup (cs.map V.ref)) ∧ PySem.W.kitAny K (.ref D) (cs.map Value.ref) = some b) ∧ Q (.bl b) H
theorem vals_refs : ∀ {cs : List Addr} {us : List Value}, Vals (cs.map V.ref) us → us = cs.map Value.ref
  | [], _, .nil => rfl
  | c :: cs, u :: us, .cons r t => by
    obtain rfl : u = Value.ref c := r
    rw [vals_refs t]; rfl
theorem call_isK : CallR X (.builtin "isinstance") (rIsK X.K) := by
  rintro pins s σ H _ us Q I r ⟨a, x, D, d, b, rfl, ha, C, hd, hc, q⟩
  obtain ⟨u1, u2, rfl, r1, r2⟩ := vals2 r
  obtain rfl : u1 = Value.ref a := r1
  obtain ⟨oe, od, J, _⟩ := inst_of I ha hd
  have Z := PySem.W.kitx_exc (x := a) (ox := oe) (od := od) (cls_some C.hd) C.hg C.hk C.hs C.ha C.hn C.ht C.hm
  rcases hc with ⟨cv, hcv, e⟩ | ⟨tp, cs, rfl, htp, e⟩
  · have ec := hcv _ r2
    subst ec
    exact PySem.W.kia_one Z I.kIn J e (fun z => nomatch z) fun tk => ⟨.bl b, H, I.kept (t' := tk) fun _ _ z => z, rfl, q⟩
  · obtain rfl : u2 = Value.ref tp := r2
    obtain ⟨its, rv, ⟨o, ho, hcl, n, hdt⟩, _⟩ := I.tuple (sqT htp)
    obtain ⟨cls, dct, data, sl⟩ := o
    dsimp only at hcl hdt
    subst hcl hdt
    rw [vals_refs rv] at ho
    exact PySem.W.kia_tup Z I.kIn J ho e (fun z => nomatch z) fun tk => ⟨.bl b, H, I.kept (t' := tk) fun _ _ z => z, rfl, q⟩
/-- e.f of a kept error -/
def tXk (K : PySem.W.Frag) (n : Str) (te : TE) : TE := fun σ H Q => te σ H fun x H1 => ∃ (a D dd : Addr) (fs : List (Str × V)) (v : V), x = .ref a ∧ H1 a = some (ExT (.ref D) (some dd) a) ∧ ExcC K D ∧ PySem.W.findIn K (.ref D) n = some none ∧ H1 dd = some (.xd fs) ∧ fs.lookup n = some v ∧ Q v H1
theorem pe_xk {e : Expr} {te : TE} {pos : Pos} {n : Str} (he : PE X e te) (hb : attributeBase e n X.env (eval e X.env) = eval e X.env := by rfl) : PE X (.Attribute e n pos) (tXk X.K n te) := ⟨fun pins s σ H Q I h => by
  refine attr_of hb (thn (he.run pins s σ H _ I h) fun u s1 ⟨x, H1, I1, rx, a, D, dd, fs, v, hx, ha, C, no, hfs, hl, q⟩ => ?_)
  subst hx
  obtain rfl : u = Value.ref a := rx
  obtain ⟨oe, od, J, _, look⟩ := inst_of I1 ha ⟨fs, hfs⟩
  obtain ⟨o, rfl, lk⟩ := look dd fs rfl hfs
  obtain ⟨u, hu, ru⟩ := lk n v hl
  exact HandSPX.exc_get I1.kIn J C.hg C.hk C.hs (PySem.W.findObj_own C.hd no rfl hu) (handed_of ru) ⟨v, H1, I1.tok _, ru, q⟩⟩
end
end K66

/-! ## X6 -/
set_option maxHeartbeats 4000000
namespace K66
open PySem PySem.Spec PyProof.Rows L2
def tTryK (K : PySem.W.Frag) (i : Nat) (tb : WX → TS) (ts : Addr → TS) : TS := fun D σ H => tb (wKeep K (.ref (gA K "BakeError")) i ts D) D σ H
section
variable {X : Cx} {e : Expr} {es : List Expr} {t : TA} {p pos : Pos} {k : Nat} {x : Str} {ps : List Str} {sp : Sp} {W : WX}
theorem pe_calS (C : Cal X.prog X.w X.K X.mg X.base (L2.CX X.prog X.w) k x ps sp) (hr : Room k X.A) (hg : Gl X x) (tk : Takes X W) (ha : PA X (e :: es) t)
    (hdb : (x == ("__debug__" : Str)) = false := by decide) (he : starEach (e :: es) X.env = (false, eval e X.env) :: starEach es X.env := by rfl) (hpl : (backTo pos (starEach es X.env)).any (·.1) = false := by rfl) :
    PE X (.Call (.Name x p) (e :: es) [] pos) (tCallS sp (WE W) t) := by
  obtain ⟨f, fd, F, hm, hk, hb⟩ := C.ex
  exact pe_callS F hr hg hm hk hb (fun σ => passAt tk σ) ha hdb he hpl
end
/-- what is told of the classes -/
structure Kit2 (K : PySem.W.Frag) : Prop where
  tm : PySem.W.exmOne K (.ref (gA K "TooMany")) (.ref (gA K "BakeError")) = some true
  nd : PySem.W.exmOne K (.ref (gA K "NoDoughs")) (.ref (gA K "BakeError")) = some true
  tmC : ExcC K (gA K "TooMany")
  ndC : ExcC K (gA K "NoDoughs")
  five : PySem.W.kitAny K (.ref (gA K "TooMany")) [.ref (gA K "NoBakery"), .ref (gA K "NoDoughs"), .ref (gA K "NoNumber"), .ref (gA K "NotPlain"), .ref (gA K "TooMuch")] = some false
  tmTm : PySem.W.kitOne K (.ref (gA K "TooMany")) (.ref (gA K "TooMany")) = some true
  tmVe : PySem.W.kitOne K (.ref (gA K "TooMany")) (.type "ValueError") = some true
  ndNd : PySem.W.kitOne K (.ref (gA K "NoDoughs")) (.ref (gA K "NoDoughs")) = some true
  day : PySem.W.findIn K (.ref (gA K "NoDoughs")) "day" = some none
theorem kit2_of {K : PySem.W.Frag} {mg : Str → Option Value} (W : Wd K mg) : Kit2 K :=
  ⟨He.exm_ok (fact W.says 97 (f := .exm "TooMany" "BakeError" true) rfl), He.exm_ok (fact W.says 98 (f := .exm "NoDoughs" "BakeError" true) rfl), excC_of (gsat W.says 10), excC_of (gsat W.says 11), of_decide_eq_true (gsat W.says 12), of_decide_eq_true (gsat W.says 13), of_decide_eq_true (gsat W.says 14), of_decide_eq_true (gsat W.says 15), of_decide_eq_true (gsat W.says 6)⟩
def sp__law_too_many (_K : PySem.W.Frag) : Sp := spOf fun vs H P => ∃ (pb : Addr) (b : Bk) (pd : Addr) (g : List Dg), vs = [.ref pb, .ref pd] ∧ BkAt H pb b ∧ b.ok ∧ DgsAt H pd g ∧ DgOk b g ∧ 12 < b.n ∧ P = Is (.bl true)
def sp__law_no_doughs (_K : PySem.W.Frag) : Sp := spOf fun vs H P => ∃ (pb : Addr) (b : Bk) (x : V), vs = [.ref pb, x] ∧ BkAt H pb b ∧ b.ok ∧ (x = .non ∨ ∃ (p : Addr) (ws : List V), x = .ref p ∧ H p = some (.lst ws) ∧ ws.length ≠ b.n) ∧ P = Is (.bl true)
end K66

/-! ## D7 -/
set_option maxHeartbeats 4000000
namespace K66
open PySem PySem.Spec PyProof.Rows L2
/-! _law_too_many -/
abbrev N__law_too_many : List Str := ["_law_bakery_here", "_law_doughs_here", "_law_kept", "e"]
abbrev p__law_too_many : List Str := ["_law_bakery_here", "_law_doughs_here"]
theorem sc__law_too_many : FnScope N__law_too_many p__law_too_many (defScope s__law_too_many) := ⟨rfl, rfl, rfl, by decide +kernel, rfl, by decide +kernel, by decide +kernel⟩
def t__law_too_many (K : PySem.W.Frag) : TS := tSeq (tAsg (tC .non) (gName 2)) (tSeq (tTryK K 3 (fun W => tSeq (tDrop (tCallS (sp_cheapest_doughs K) (WE W) (tCons (tVar 0) (tCons (tVar 1) (tNil))))) tNext) (fun _ => tSeq (tAsg (tVar 3) (gName 2)) tNext)) (tSeq (tIfS (tB (tCB (rIsK K) (tCons (tVar 2) (tCons (tTup (tCons (tC (.ref (gA K "NoBakery"))) (tCons (tC (.ref (gA K "NoDoughs"))) (tCons (tC (.ref (gA K "NoNumber"))) (tCons (tC (.ref (gA K "NotPlain"))) (tCons (tC (.ref (gA K "TooMuch"))) (tNil))))))) (tNil))))) (tSeq (tRet (tC (.bl false))) (tNext)) (tNext)) (tSeq (tRet (tAndV (tCB (rIsK K) (tCons (tVar 2) (tCons (tC (.ref (gA K "TooMany"))) (tNil)))) (tCB (rIsK K) (tCons (tVar 2) (tCons (tC (.ty "ValueError")) (tNil)))))) (tNext))))
theorem der__law_too_many {P : Program} {w : World} {K : PySem.W.Frag} {mg : Str → Option Value} {base : Heap} (W : Wd K mg) (C_cheapest_doughs : Cal P w K mg base (L2.CX P w) 10 "cheapest_doughs" p_cheapest_doughs (sp_cheapest_doughs K)) {f : Addr} {cdv : Value} {A : Around} {outer : List Env} {s : Shared} {H : Hp} {E : XK} (hr : Room 10 (A.deeper (envOfC "_law_too_many" (defScope s__law_too_many) s.heap.objs.size f cdv))) :
    PSs (cxOf CX0 P w K mg base N__law_too_many "_law_too_many" (defScope s__law_too_many) f cdv A outer s H E).nox (defBody s__law_too_many) (t__law_too_many K) :=
  pss_cons (ps_set (i := 2) sc__law_too_many.nd rfl (by first | exact Or.inl rfl | exact Or.inr rfl) (pe_non)) (pss_cons (ps_try_keep (i := 3) (tb := (fun W => tSeq (tDrop (tCallS (sp_cheapest_doughs K) (WE W) (tCons (tVar 0) (tCons (tVar 1) (tNil))))) tNext)) (ts := (fun _ => tSeq (tAsg (tVar 3) (gName 2)) tNext)) rfl rfl rfl sc__law_too_many.nd rfl rfl ⟨by rfl, by decide, .inl W.g_BakeError⟩ (fun Wx pn xe tk _ => pss_cons (ps_expr (pe_calS C_cheapest_doughs (hr.mono (by decide)) (by rfl) tk (pa_cons (pv 0) (pa_cons (pv 1) (pa_nil))))) pss_nil) (fun a oe pn => pss_cons (ps_set (i := 2) sc__law_too_many.nd rfl (Or.inl rfl) (pv 3)) pss_nil)) (pss_cons (ps_if (pt_val (pe_callB call_isK (by rfl) W.b_isinstance (by decide +kernel) (pa_cons (pv 2) (pa_cons (pe_tup (pa_cons (pe_glob (by rfl) W.g_NoBakery rfl) (pa_cons (pe_glob (by rfl) W.g_NoDoughs rfl) (pa_cons (pe_glob (by rfl) W.g_NoNumber rfl) (pa_cons (pe_glob (by rfl) W.g_NotPlain rfl) (pa_cons (pe_glob (by rfl) W.g_TooMuch rfl) (pa_nil))))))) (pa_nil))))) (pss_cons (ps_ret (pe_bl)) (pss_nil)) (pss_nil)) (pss_cons (ps_ret (pe_and (pe_callB call_isK (by rfl) W.b_isinstance (by decide +kernel) (pa_cons (pv 2) (pa_cons (pe_glob (by rfl) W.g_TooMany rfl) (pa_nil)))) (pe_one (pe_callB call_isK (by rfl) W.b_isinstance (by decide +kernel) (pa_cons (pv 2) (pa_cons (pe_bltn (by rfl) W.b_ValueError (by decide +kernel) rfl) (pa_nil))))))) (pss_nil))))
/-! _law_no_doughs -/
abbrev N__law_no_doughs : List Str := ["_law_bakery_here", "_law_doughs_here", "_law_kept", "e"]
abbrev p__law_no_doughs : List Str := ["_law_bakery_here", "_law_doughs_here"]
theorem sc__law_no_doughs : FnScope N__law_no_doughs p__law_no_doughs (defScope s__law_no_doughs) := ⟨rfl, rfl, rfl, by decide +kernel, rfl, by decide +kernel, by decide +kernel⟩
def t__law_no_doughs (K : PySem.W.Frag) : TS := tSeq (tAsg (tC .non) (gName 2)) (tSeq (tTryK K 3 (fun W => tSeq (tDrop (tCallS (sp_cheapest_doughs K) (WE W) (tCons (tVar 0) (tCons (tVar 1) (tNil))))) tNext) (fun _ => tSeq (tAsg (tVar 3) (gName 2)) tNext)) (tSeq (tRet (tAndV (tCB (rIsK K) (tCons (tVar 2) (tCons (tC (.ref (gA K "NoDoughs"))) (tNil)))) (tOp rIsN (tXk K "day" (tVar 2)) (tC .non)))) (tNext)))
theorem der__law_no_doughs {P : Program} {w : World} {K : PySem.W.Frag} {mg : Str → Option Value} {base : Heap} (W : Wd K mg) (C_cheapest_doughs : Cal P w K mg base (L2.CX P w) 10 "cheapest_doughs" p_cheapest_doughs (sp_cheapest_doughs K)) {f : Addr} {cdv : Value} {A : Around} {outer : List Env} {s : Shared} {H : Hp} {E : XK} (hr : Room 10 (A.deeper (envOfC "_law_no_doughs" (defScope s__law_no_doughs) s.heap.objs.size f cdv))) :
    PSs (cxOf CX0 P w K mg base N__law_no_doughs "_law_no_doughs" (defScope s__law_no_doughs) f cdv A outer s H E).nox (defBody s__law_no_doughs) (t__law_no_doughs K) :=
  pss_cons (ps_set (i := 2) sc__law_no_doughs.nd rfl (by first | exact Or.inl rfl | exact Or.inr rfl) (pe_non)) (pss_cons (ps_try_keep (i := 3) (tb := (fun W => tSeq (tDrop (tCallS (sp_cheapest_doughs K) (WE W) (tCons (tVar 0) (tCons (tVar 1) (tNil))))) tNext)) (ts := (fun _ => tSeq (tAsg (tVar 3) (gName 2)) tNext)) rfl rfl rfl sc__law_no_doughs.nd rfl rfl ⟨by rfl, by decide, .inl W.g_BakeError⟩ (fun Wx pn xe tk _ => pss_cons (ps_expr (pe_calS C_cheapest_doughs (hr.mono (by decide)) (by rfl) tk (pa_cons (pv 0) (pa_cons (pv 1) (pa_nil))))) pss_nil) (fun a oe pn => pss_cons (ps_set (i := 2) sc__law_no_doughs.nd rfl (Or.inl rfl) (pv 3)) pss_nil)) (pss_cons (ps_ret (pe_and (pe_callB call_isK (by rfl) W.b_isinstance (by decide +kernel) (pa_cons (pv 2) (pa_cons (pe_glob (by rfl) W.g_NoDoughs rfl) (pa_nil)))) (pe_one (pe_cmpR op_isN (pe_xk (pv 2)) (pe_non) (nomark _))))) (pss_nil)))
end K66

/-! ## R21 -/
set_option maxHeartbeats 4000000
namespace K66
open PySem PySem.Spec PyProof.Rows L2
section
variable {K : PySem.W.Frag} {σ : L2.St} {H H' : Hp} {vs : List V} {Q : VK} {E : XK} {ta tb te : TE} {a D : Addr} {d : Option Addr}
theorem DictAt.up {H H' : Hp} {d : Option Addr} (h : DictAt H d) (e : Ex H H') : DictAt H' d := by
  cases d with
  | none => trivial
  | some dd => obtain ⟨fs, hf⟩ := h; exact ⟨fs, e _ _ hf⟩
theorem ev_isK {b : Bool} {x : V} {cv : Value} (h : H a = some (ExT (.ref D) d a)) (C : ExcC K D) (hd : DictAt H d) (hc : ∀ u, RelV x u → u = cv) (hk : PySem.W.kitOne K (.ref D) cv = some b) (ha : Ev ta σ H (Is (.ref a))) : Ev (tCB (rIsK K) (tCons ta (tCons (tC x) tNil))) σ H (Is (.bl b)) :=
  ev_cb (ex_cons ha (ex_cons ev_c ex_nil)) fun H1 e _ q => ⟨a, x, D, d, b, rfl, e _ _ h, C, hd.up e, .inl ⟨cv, hc, hk⟩, q _ H1 Ex.rfl rfl⟩
theorem ev_isKT {b : Bool} {cs : List Addr} (h : H a = some (ExT (.ref D) d a)) (C : ExcC K D) (hd : DictAt H d) (hk : PySem.W.kitAny K (.ref D) (cs.map Value.ref) = some b) (ha : Ev ta σ H (Is (.ref a))) (hb : Ev tb σ H (NewT (cs.map V.ref))) : Ev (tCB (rIsK K) (tCons ta (tCons tb tNil))) σ H (Is (.bl b)) :=
  ev_cbA (ea_cons ha (ea_cons hb ea_nil)) fun H1 vs H2 e1 e2 ps Q q => by
    cases ps with
    | cons a1 ps => cases ps with
      | cons a2 ps =>
        cases ps
        have z : _ = V.ref a := a1
        subst z
        obtain ⟨tp, rfl, _, htp⟩ := a2
        exact ⟨a, .ref tp, D, d, b, rfl, (e1.trans e2) _ _ h, C, hd.up (e1.trans e2), .inr ⟨tp, cs, rfl, htp, hk⟩, q _ H2 Ex.rfl rfl⟩
theorem ev_xk {dd : Addr} {fs : List (Str × V)} {n : Str} {v : V} (h : H a = some (ExT (.ref D) (some dd) a)) (C : ExcC K D) (no : PySem.W.findIn K (.ref D) n = some none) (hd : H dd = some (.xd fs)) (hl : fs.lookup n = some v) (ha : Ev te σ H (Is (.ref a))) : Ev (tXk K n te) σ H (Is v) := fun H1 e Q q =>
  ha H1 e _ fun x H2 e2 px => by
    have z : x = .ref a := px
    subst z
    exact ⟨a, D, dd, fs, v, rfl, (e.trans e2) _ _ h, C, no, (e.trans e2) _ _ hd, hl, q v H2 e2 rfl⟩
theorem isRef {c : Addr} : ∀ u, RelV (.ref c) u → u = .ref c := fun _ h => h
theorem isTy {n : String} : ∀ u, RelV (.ty n) u → u = .type n := fun _ h => (ClsV.ty n).eq h
/-- the call in the try: what is wished where it raises -/
theorem x_try {i : Nat} {ts : Addr → TS} {sp : Sp} {args : TA} {u : TS} {D : Ends} (hx : EvX args σ H vs) (k : ∀ H1, Ex H H1 → sp vs H1 (fun _ H' => u D σ H') (fun cls d H' => wKeep K (.ref (gA K "BakeError")) i ts { D with nx := u D } cls d σ H')) :
    Sx (tSeq (tTryK K i (fun W => tSeq (tDrop (tCallS sp (WE W) args)) tNext) ts) u) D σ H := fun H1 e => hx H1 e _ fun H2 e2 => k H2 (e.trans e2)
theorem len__law_too_many (h : sp__law_too_many K vs H Q E) : vs.length = 2 := by obtain ⟨_, _, _, ⟨_, _, _, _, e, _⟩, _⟩ := h; rw [e]; rfl
theorem len__law_no_doughs (h : sp__law_no_doughs K vs H Q E) : vs.length = 2 := by obtain ⟨_, _, _, ⟨_, _, _, e, _⟩, _⟩ := h; rw [e]; rfl
theorem rd__law_too_many (kit : Kit2 K) (h : sp__law_too_many K vs H Q E) : t__law_too_many K (DD Q) (start N__law_too_many vs) H := by
  obtain ⟨H0, P, e0, ⟨pb, b, pd, g, rfl, hb, hok, hg, hgok, h12, rfl⟩, k⟩ := h
  have hb := hb.up e0
  have hg := hg.up e0
  refine Sx.at (x_set (v := .non) ev_c (x_try (ex_cons (ev_var rfl) (ex_cons (ev_var rfl) ex_nil)) fun H1 e1 => .inr (.inr ⟨pb, b, pd, g, rfl, hb.up e1, hok, hg.up e1, hgok, h12, fun H2 e2 => ⟨kit.tm, fun a ha => ?_⟩⟩)))
  refine Sx.at (x_set (v := .ref a) (ev_var rfl) (x_next fun H3 e3 => fun hn => ?_))
  have e4 : Ex H3 (upd H3 a (ExT (.ref (gA K "TooMany")) none a)) := Ex.new hn
  have at' : upd H3 a (ExT (.ref (gA K "TooMany")) none a) a = some (ExT (.ref (gA K "TooMany")) none a) := upd_same
  generalize upd H3 a (ExT (.ref (gA K "TooMany")) none a) = H4 at e4 at'
  refine Sx.at (x_pass (et_B (ev_isKT (cs := [gA K "NoBakery", gA K "NoDoughs", gA K "NoNumber", gA K "NotPlain", gA K "TooMuch"]) at' kit.tmC trivial kit.five (ev_var rfl) (ev_tup (ex_cons ev_c (ex_cons ev_c (ex_cons ev_c (ex_cons ev_c (ex_cons ev_c ex_nil))))) (by show 5 ≤ 100000; decide)))) rfl ?_)
  exact x_retV (.bl true) (Ev.eq (ev_andV (a := true) (b := true) (ev_isK at' kit.tmC trivial isRef kit.tmTm (ev_var rfl)) fun _ => ev_isK at' kit.tmC trivial isTy kit.tmVe (ev_var rfl)) rfl) fun H5 e5 => k _ H5 ((((e1.trans e2).trans e3).trans e4).trans e5) rfl
theorem rd__law_no_doughs (kit : Kit2 K) (h : sp__law_no_doughs K vs H Q E) : t__law_no_doughs K (DD Q) (start N__law_no_doughs vs) H := by
  obtain ⟨H0, P, e0, ⟨pb, b, x, rfl, hb, hok, hx, rfl⟩, k⟩ := h
  have hb := hb.up e0
  have hx : x = .non ∨ ∃ (p : Addr) (ws : List V), x = .ref p ∧ H p = some (.lst ws) ∧ ws.length ≠ b.n := hx.imp id fun ⟨p, ws, h1, h2, h3⟩ => ⟨p, ws, h1, e0 _ _ h2, h3⟩
  refine Sx.at (x_set (v := .non) ev_c (x_try (ex_cons (ev_var rfl) (ex_cons (ev_var rfl) ex_nil)) fun H1 e1 => .inr (.inl ⟨pb, b, x, rfl, hb.up e1, hok, hx.imp id fun ⟨p, ws, h1, h2, h3⟩ => ⟨p, ws, h1, e1 _ _ h2, h3⟩, fun d H2 e2 hdn hd => ⟨kit.nd, fun a ha => ?_⟩⟩)))
  refine Sx.at (x_set (v := .ref a) (ev_var rfl) (x_next fun H3 e3 => fun hn => ?_))
  have e4 : Ex H3 (upd H3 a (ExT (.ref (gA K "NoDoughs")) (some d) a)) := Ex.new hn
  have at' : upd H3 a (ExT (.ref (gA K "NoDoughs")) (some d) a) a = some (ExT (.ref (gA K "NoDoughs")) (some d) a) := upd_same
  generalize upd H3 a (ExT (.ref (gA K "NoDoughs")) (some d) a) = H4 at e4 at'
  have hd4 : H4 d = some (.xd [("day", .non)]) := (e3.trans e4) _ _ hd
  refine Sx.at (x_retV (.bl true) (Ev.eq (ev_andV (a := true) (b := true) (ev_isK at' kit.ndC ⟨_, hd4⟩ isRef kit.ndNd (ev_var rfl)) fun _ => Ev.eq (ev_isN (ev_xk at' kit.ndC kit.day hd4 (v := .non) rfl (ev_var rfl))) rfl) rfl) fun H5 e5 => k _ H5 ((((e1.trans e2).trans e3).trans e4).trans e5) rfl)
end
end K66

/-! ## O8 -/
set_option maxHeartbeats 4000000
namespace K66
open PySem PySem.Spec PyProof.Rows L2
theorem ok__law_too_many {P : Program} {w : World} {K : PySem.W.Frag} {mg : Str → Option Value} {base : Heap} (W : Wd K mg) : Cal P w K mg base CX0 11 "_law_too_many" p__law_too_many (sp__law_too_many K) :=
  cal_of (d := d__law_too_many) W 53 rfl rfl W.g__law_too_many sc__law_too_many (fun vs H Q E h => len__law_too_many h) (fun _ _ _ _ _ _ us hl => match us, hl with | [_, _], _ => rfl)
    fun f cdv A outer s H vs Q E hr h => ⟨t__law_too_many K, (der__law_too_many W (ok_cheapest_doughs W) hr).nox, rd__law_too_many (kit2_of W) h⟩
theorem ok__law_no_doughs {P : Program} {w : World} {K : PySem.W.Frag} {mg : Str → Option Value} {base : Heap} (W : Wd K mg) : Cal P w K mg base CX0 11 "_law_no_doughs" p__law_no_doughs (sp__law_no_doughs K) :=
  cal_of (d := d__law_no_doughs) W 54 rfl rfl W.g__law_no_doughs sc__law_no_doughs (fun vs H Q E h => len__law_no_doughs h) (fun _ _ _ _ _ _ us hl => match us, hl with | [_, _], _ => rfl)
    fun f cdv A outer s H vs Q E hr h => ⟨t__law_no_doughs K, (der__law_no_doughs W (ok_cheapest_doughs W) hr).nox, rd__law_no_doughs (kit2_of W) h⟩
end K66

/-! ## M3 -/
set_option maxHeartbeats 4000000
namespace K66
/-! why no plan costs less; no program in sight -/
theorem least_nat {P : Nat → Prop} (h : ∃ n, P n) : ∃ n, P n ∧ ∀ m, m < n → ¬ P m := by
  obtain ⟨n, hn⟩ := h
  induction n using Nat.strongRecOn with
  | ind n ih =>
    by_cases c : ∃ m, m < n ∧ P m
    · obtain ⟨m, h1, h2⟩ := c
      exact ih m h1 h2
    · exact ⟨n, hn, fun m hm hp => c ⟨m, hm, hp⟩⟩
theorem list_min : ∀ (l : List Int), l ≠ [] → ∃ t, t ∈ l ∧ ∀ x ∈ l, t ≤ x
  | [], h => absurd rfl h
  | [x], _ => ⟨x, List.mem_singleton.mpr rfl, fun y hy => by rw [List.mem_singleton.mp hy]; exact Int.le_refl _⟩
  | x :: y :: l, _ => by
    obtain ⟨t, h1, h2⟩ := list_min (y :: l) (by simp)
    by_cases c : x ≤ t
    · refine ⟨x, List.mem_cons_self, fun z hz => ?_⟩
      rcases List.mem_cons.mp hz with e | e
      · rw [e]; exact Int.le_refl _
      · have := h2 z e; omega
    · refine ⟨t, List.mem_cons_of_mem _ h1, fun z hz => ?_⟩
      rcases List.mem_cons.mp hz with e | e
      · rw [e]; omega
      · exact h2 z e
section
variable {b : Bk} {g : List Dg} {D : Tab} {M B : List Nat}
theorem best_ex (b : Bk) (g : List Dg) (M B : List Nat) (d : Nat) : ∃ o, IsBest b g M B d o := by
  by_cases c : ∃ r ∈ M, ∃ s ∈ B, r ≤ s ∧ ∃ x, b.pair g r s d = some x
  · have hv : ∀ t, t ∈ (M.flatMap fun r => B.filterMap fun s => if r ≤ s then b.pair g r s d else none) ↔ ∃ r ∈ M, ∃ s ∈ B, r ≤ s ∧ b.pair g r s d = some t := fun t => by
      rw [List.mem_flatMap]
      constructor
      · rintro ⟨r, hr, h⟩
        obtain ⟨s, hs, e⟩ := List.mem_filterMap.mp h
        by_cases l : r ≤ s
        · rw [if_pos l] at e; exact ⟨r, hr, s, hs, l, e⟩
        · rw [if_neg l] at e; cases e
      · rintro ⟨r, hr, s, hs, l, e⟩
        exact ⟨r, hr, List.mem_filterMap.mpr ⟨s, hs, by rw [if_pos l]; exact e⟩⟩
    obtain ⟨r, hr, s, hs, l, x, e⟩ := c
    obtain ⟨t, h1, h2⟩ := list_min (M.flatMap fun r => B.filterMap fun s => if r ≤ s then b.pair g r s d else none) fun z => by
      have := (hv x).mpr ⟨r, hr, s, hs, l, e⟩
      rw [z] at this; cases this
    exact ⟨some t, (hv t).mp h1, fun r hr s hs l x e => h2 x ((hv x).mpr ⟨r, hr, s, hs, l, e⟩)⟩
  · refine ⟨none, fun r hr s hs l => ?_⟩
    cases e : b.pair g r s d with
    | none => rfl
    | some x => exact absurd ⟨r, hr, s, hs, l, x, e⟩ c
/-- the first pair (by the day of baking, then of mixing) that comes to the best -/
structure First (b : Bk) (g : List Dg) (M B : List Nat) (d r s : Nat) (t : Int) : Prop where
  inM : r ∈ M
  inB : s ∈ B
  le : r ≤ s
  val : b.pair g r s d = some t
  s1 : ∀ s' ∈ B, s' < s → ∀ r' ∈ M, r' ≤ s' → b.pair g r' s' d ≠ some t
  r1 : ∀ r' ∈ M, r' < r → b.pair g r' s d ≠ some t
  min : ∀ r' ∈ M, ∀ s' ∈ B, r' ≤ s' → ∀ x, b.pair g r' s' d = some x → t ≤ x
theorem first_ex {d : Nat} {t : Int} (h : IsBest b g M B d (some t)) : ∃ r s, First b g M B d r s t := by
  obtain ⟨⟨r0, hr0, s0, hs0, l0, e0⟩, hmin⟩ := h
  obtain ⟨s, ⟨hs, r1, hr1, l1, e1⟩, hs1⟩ := least_nat (P := fun s => s ∈ B ∧ ∃ r ∈ M, r ≤ s ∧ b.pair g r s d = some t) ⟨s0, hs0, r0, hr0, l0, e0⟩
  obtain ⟨r, ⟨hr, l, e⟩, hrr⟩ := least_nat (P := fun r => r ∈ M ∧ r ≤ s ∧ b.pair g r s d = some t) ⟨r1, hr1, l1, e1⟩
  exact ⟨r, s, hr, hs, l, e, fun s' hs' hlt r' hr' l' e' => hs1 s' hlt ⟨hs', r', hr', l', e'⟩, fun r' hr' hlt e' => hrr r' hlt ⟨hr', by omega, e'⟩, hmin⟩
theorem pair_some {r s d : Nat} {t : Int} (h : b.pair g r s d = some t) : ∃ p, b.price s d = some p ∧ t = p + each g r s := by
  unfold Bk.pair at h
  cases e : b.price s d with
  | none => rw [e] at h; cases h
  | some p => rw [e] at h; injection h with h; exact ⟨p, rfl, h.symm⟩
theorem pair_of {r s d : Nat} {p : Int} (h : b.price s d = some p) : b.pair g r s d = some (p + each g r s) := by unfold Bk.pair; rw [h]; rfl
/-- later wants are baked no earlier, and mixed no earlier -/
theorem first_mono (hok : b.ok) {d d' r s r' s' : Nat} {t t' : Int} (hd : d < d') (h : First b g M B d r s t) (h' : First b g M B d' r' s' t') : s ≤ s' ∧ r ≤ r' ∧ (s = s' → r = r') := by
  obtain ⟨x, hx, rfl⟩ := pair_some h.val
  obtain ⟨y, hy, rfl⟩ := pair_some h'.val
  have hs : s ≤ s' := by
    apply Classical.byContradiction
    intro c
    obtain ⟨u, v, hu, hv, huv⟩ := monge hok (s := s') (s' := s) (d := d) (d' := d') (by omega) hd hx hy
    have a1 := h.min r' h'.inM s' h'.inB h'.le _ (pair_of hu)
    have a2 := h.s1 s' h'.inB (by omega) r' h'.inM h'.le
    have a3 := h'.min r h.inM s h.inB h.le _ (pair_of hv)
    have a4 : u + each g r' s' ≠ x + each g r s := fun e => a2 (by rw [pair_of hu, e])
    omega
  have same : s = s' → r = r' := fun e => by
    subst e
    have b1 := h.min r' h'.inM s h.inB h'.le _ (pair_of hx)
    have b2 := h'.min r h.inM s h.inB h.le _ (pair_of hy)
    have ee : each g r s = each g r' s := by omega
    by_cases c1 : r' < r
    · exact absurd (by rw [pair_of hx, ee]) (h.r1 r' h'.inM c1)
    · by_cases c2 : r < r'
      · exact absurd (by rw [pair_of hy, ee]) (h'.r1 r h.inM c2)
      · omega
  refine ⟨hs, ?_, same⟩
  by_cases e : s = s'
  · rw [same e]; exact Nat.le_refl _
  · apply Classical.byContradiction
    intro c
    have l1 : r' ≤ s := by have := h.le; omega
    have m1 := each_more (g := g) l1 hs
    have m2 := each_more (g := g) h.le hs
    have b2 := h'.min r h.inM s' h'.inB (by have := h.le; omega) _ (pair_of hy)
    have b1 := h.min r' h'.inM s h.inB l1 _ (pair_of hx)
    have ee : each g r' s = each g r s := by omega
    exact h.r1 r' h'.inM (by omega) (by rw [pair_of hx, ee])
/-- what the days ahead of j cost, with the days of mixing and of baking that they want -/
def soFar (b : Bk) (g : List Dg) (T : Nat → Int) (RL SL : List Nat) (j : Nat) : Int := sumR (wantT b T) 0 j + sumL (mixD g) RL + sumL b.light SL
theorem soFar_succ {T : Nat → Int} {RL SL : List Nat} {j : Nat} : soFar b g T RL SL (j + 1) = soFar b g T RL SL j + wantT b T j := by
  unfold soFar
  show sumR (wantT b T) 0 j + wantT b T (0 + j) + _ + _ = _
  rw [Nat.zero_add]; omega
theorem cost_pair {r s d : Nat} {t : Int} (hw : 0 < b.want d) (h : b.pair g r s d = some t) : b.cost g r s d = some (b.want d * t) := by
  obtain ⟨p, hp, rfl⟩ := pair_some h
  unfold Bk.cost
  rw [if_neg (by omega), hp, Int.mul_add]; rfl
theorem wantT_pos {T : Nat → Int} {d : Nat} (hw : 0 < b.want d) : wantT b T d = b.want d * T d := by unfold wantT; rw [if_neg (by omega)]
theorem wantT_zero {T : Nat → Int} {d : Nat} (hw : b.want d = 0) : wantT b T d = 0 := by unfold wantT; rw [if_pos hw]
structure Run (b : Bk) (g : List Dg) (D : Tab) (M B : List Nat) (T : Nat → Int) (rr ss : Nat → Nat) (j : Nat) (RL SL : List Nat) : Prop where
  nr : RL.Nodup
  ns : SL.Nodup
  rm : ∀ x ∈ RL, x ∈ M
  sm : ∀ x ∈ SL, x ∈ B
  free : D.F j ≤ soFar b g T RL SL j
  last : ((∀ d, d < j → b.want d = 0) ∧ RL = [] ∧ SL = []) ∨ ∃ d0, d0 < j ∧ 0 < b.want d0 ∧ (∀ d, d0 < d → d < j → b.want d = 0) ∧ (∀ x ∈ RL, x ≤ rr d0) ∧ (∀ x ∈ SL, x ≤ ss d0) ∧
    D.M (rr d0) j ≤ soFar b g T RL SL j ∧ ∃ a m y, 0 < m ∧ a + m = j ∧ csum (b.cost g (rr d0) (ss d0)) a m = some y ∧ D.M (rr d0) a + (b.light (ss d0) + y) ≤ soFar b g T RL SL j
theorem run_to (hok : b.ok) (hgok : DgOk b g) (hD : Good b g D (b.n + 1)) (hF : D.F 0 = 0) (hMn : ∀ r ∈ M, r < b.n) (hBn : ∀ s ∈ B, s < b.n) {T : Nat → Int} {rr ss : Nat → Nat} (hfirst : ∀ d, d < b.n → 0 < b.want d → First b g M B d (rr d) (ss d) (T d)) :
    ∀ j, j ≤ b.n → ∃ RL SL, Run b g D M B T rr ss j RL SL
  | 0, _ => ⟨[], [], List.nodup_nil, List.nodup_nil, (fun x h => by cases h), (fun x h => by cases h), (by rw [hF]; exact Int.le_refl 0), .inl ⟨fun d h => absurd h (Nat.not_lt_zero d), rfl, rfl⟩⟩
  | j + 1, hj => by
    obtain ⟨RL, SL, R⟩ := run_to hok hgok hD hF hMn hBn hfirst j (by omega)
    have G1 := hD (j + 1) (by omega)
    have G0 := hD j (by omega)
    by_cases hw : b.want j = 0
    · -- a day without a want
      have es : soFar b g T RL SL (j + 1) = soFar b g T RL SL j := by rw [soFar_succ, wantT_zero hw, Int.add_zero]
      refine ⟨RL, SL, R.nr, R.ns, R.rm, R.sm, by rw [es]; have := G1.frest j rfl hw; have := R.free; omega, ?_⟩
      rcases R.last with ⟨h1, h2, h3⟩ | ⟨d0, h1, h2, h3, h4, h5, h6, a, m, y, h7, h8, h9, h10⟩
      · refine .inl ⟨fun d hd => ?_, h2, h3⟩
        by_cases e : d = j
        · rw [e]; exact hw
        · exact h1 d (by omega)
      · refine .inr ⟨d0, by omega, h2, fun d k1 k2 => ?_, h4, h5, ?_, a, m + 1, y + 0, by omega, by omega, ?_, by rw [es, Int.add_zero]; exact h10⟩
        · by_cases e : d = j
          · rw [e]; exact hw
          · exact h3 d k1 (by omega)
        · rw [es]
          have f0 := hfirst d0 (by omega) h2
          have hr : rr d0 < b.n := hMn _ f0.inM
          have := G1.least (rr d0) hr (.rest j) (D.M (rr d0) j) ⟨rfl, hw, rfl⟩
          omega
        · refine csum_succ h9 ?_
          rw [h8]
          unfold Bk.cost
          rw [if_pos hw]
    · have hw' : 0 < b.want j := by have := want_nn hok j; omega
      have fj := hfirst j (by omega) hw'
      have hr : rr j < b.n := hMn _ fj.inM
      have hs : ss j < b.n := hBn _ fj.inB
      have hcost := cost_pair hw' fj.val
      -- what a new stretch gives
      have fin : ∀ RL' SL', RL'.Nodup → SL'.Nodup → (∀ x ∈ RL', x ∈ M) → (∀ x ∈ SL', x ∈ B) → (∀ x ∈ RL', x ≤ rr j) → (∀ x ∈ SL', x ≤ ss j) → (∃ a m y, 0 < m ∧ a + m = j + 1 ∧ csum (b.cost g (rr j) (ss j)) a m = some y ∧ D.M (rr j) a + (b.light (ss j) + y) ≤ soFar b g T RL' SL' (j + 1)) → ∃ RL SL, Run b g D M B T rr ss (j + 1) RL SL := fun RL' SL' n1 n2 m1 m2 l1 l2 ⟨a, m, y, k1, k2, k3, k4⟩ => by
        have hM : D.M (rr j) (j + 1) ≤ soFar b g T RL' SL' (j + 1) := by
          have := G1.least (rr j) hr (.batch a (ss j)) _ ⟨fj.le, hs, m, y, k1, k2, k3, rfl⟩
          omega
        have := G1.low (rr j) hr
        exact ⟨RL', SL', n1, n2, m1, m2, by omega, .inr ⟨j, by omega, hw', fun d e1 e2 => by omega, l1, l2, hM, a, m, y, k1, k2, k3, k4⟩⟩
      have one : ∀ {x : Int}, csum (b.cost g (rr j) (ss j)) j 1 = some (0 + b.want j * T j) := fun {x} => csum_succ (x := 0) rfl hcost
      have newBoth : ∀ RL SL, Run b g D M B T rr ss j RL SL → (∀ x ∈ RL, x < rr j) → (∀ x ∈ SL, x < ss j) → ∃ RL SL, Run b g D M B T rr ss (j + 1) RL SL := fun RL SL R lr ls => by
        refine fin (rr j :: RL) (ss j :: SL) (List.nodup_cons.mpr ⟨fun h => Nat.lt_irrefl _ (lr _ h), R.nr⟩) (List.nodup_cons.mpr ⟨fun h => Nat.lt_irrefl _ (ls _ h), R.ns⟩) ?_ ?_ ?_ ?_ ⟨j, 1, _, by decide, rfl, one (x := 0), ?_⟩
        · intro x hx
          rcases List.mem_cons.mp hx with e | e
          · rw [e]; exact fj.inM
          · exact R.rm x e
        · intro x hx
          rcases List.mem_cons.mp hx with e | e
          · rw [e]; exact fj.inB
          · exact R.sm x e
        · intro x hx
          rcases List.mem_cons.mp hx with e | e
          · omega
          · exact Nat.le_of_lt (lr x e)
        · intro x hx
          rcases List.mem_cons.mp hx with e | e
          · omega
          · exact Nat.le_of_lt (ls x e)
        · rw [soFar_succ, wantT_pos hw']
          have := G0.high (rr j) hr
          have := R.free
          unfold soFar at *
          rw [sumL_cons, sumL_cons]
          omega
      rcases R.last with ⟨h1, h2, h3⟩ | ⟨d0, h1, h2, h3, h4, h5, h6, a, m, y, h7, h8, h9, h10⟩
      · exact newBoth RL SL R (by rw [h2]; intro x h; cases h) (by rw [h3]; intro x h; cases h)
      · have f0 := hfirst d0 (by omega) h2
        obtain ⟨o1, o2, o3⟩ := first_mono hok h1 f0 fj
        by_cases es : ss d0 = ss j
        · -- the same day of baking
          have er := o3 es
          refine fin RL SL R.nr R.ns R.rm R.sm (fun x hx => by have := h4 x hx; omega) (fun x hx => by have := h5 x hx; omega) ⟨a, m + 1, y + b.want j * T j, by omega, by omega, ?_, ?_⟩
          · rw [← es, ← er]
            refine csum_succ h9 ?_
            rw [h8, er, es]; exact hcost
          · rw [soFar_succ, wantT_pos hw', ← es, ← er]; omega
        · by_cases er : rr d0 = rr j
          · -- another day of baking, the dough at hand
            refine fin RL (ss j :: SL) R.nr (List.nodup_cons.mpr ⟨fun h => by have := h5 _ h; omega, R.ns⟩) R.rm ?_ (fun x hx => by have := h4 x hx; omega) ?_ ⟨j, 1, _, by decide, rfl, one (x := 0), ?_⟩
            · intro x hx
              rcases List.mem_cons.mp hx with e | e
              · rw [e]; exact fj.inB
              · exact R.sm x e
            · intro x hx
              rcases List.mem_cons.mp hx with e | e
              · omega
              · have := h5 x e; omega
            · rw [soFar_succ, wantT_pos hw', ← er]
              unfold soFar at *
              rw [sumL_cons]
              omega
          · exact newBoth RL SL R (fun x hx => by have := h4 x hx; omega) fun x hx => by have := h5 x hx; omega
/-- no set of days comes to less -/
theorem dual (hok : b.ok) (hgok : DgOk b g) (hD : Good b g D (b.n + 1)) (hF : D.F 0 = 0) (hMn : ∀ r ∈ M, r < b.n) (hBn : ∀ s ∈ B, s < b.n) {T : Nat → Int} (hT : ∀ d, d < b.n → 0 < b.want d → IsBest b g M B d (some (T d))) :
    D.F b.n ≤ sumL (mixD g) M + sumL b.light B + sumR (wantT b T) 0 b.n := by
  have h : ∀ d, ∃ p : Nat × Nat, d < b.n → 0 < b.want d → First b g M B d p.1 p.2 (T d) := fun d => by
    by_cases c : d < b.n ∧ 0 < b.want d
    · obtain ⟨r, s, hf⟩ := first_ex (hT d c.1 c.2)
      exact ⟨(r, s), fun _ _ => hf⟩
    · exact ⟨(0, 0), fun h1 h2 => absurd ⟨h1, h2⟩ c⟩
  obtain ⟨f, hf⟩ := Classical.axiomOfChoice h
  obtain ⟨RL, SL, R⟩ := run_to (T := T) (rr := fun d => (f d).1) (ss := fun d => (f d).2) hok hgok hD hF hMn hBn (fun d h1 h2 => hf d h1 h2) b.n (Nat.le_refl _)
  have l1 := sumL_sub (fun i => mix_nn hgok i) R.nr R.rm
  have l2 := sumL_sub (fun i => light_nn hok i) R.ns R.sm
  have := R.free
  unfold soFar at this
  omega
end
end K66

/-! ## M4 -/
set_option maxHeartbeats 4000000
namespace K66
/-! plans, sets of days, rows -/
section
variable {b : Bk} {g : List Dg} {D : Tab} {M B : List Nat}
theorem sum_filter {p : Nat → Bool} {f : Nat → Int} : ∀ n, (((List.range n).filter p).map f).sum = sumR (fun d => if p d then f d else 0) 0 n
  | 0 => rfl
  | n + 1 => by
    rw [List.range_succ, List.filter_append, List.map_append, List.sum_append, sum_filter n]
    show _ = sumR _ 0 n + (if p (0 + n) then f (0 + n) else 0)
    rw [Nat.zero_add]
    congr 1
    by_cases h : p n <;> simp [h]
theorem plan_set (hok : b.ok) {ls : List Lot} (h : IsPlan b g ls) : ∃ T : Nat → Int, (∀ d, d < b.n → 0 < b.want d → IsBest b g (onceOf (ls.map (·.r)) b.n) (onceOf (ls.map (·.s)) b.n) d (some (T d))) ∧
    sumL (mixD g) (onceOf (ls.map (·.r)) b.n) + sumL b.light (onceOf (ls.map (·.s)) b.n) + sumR (wantT b T) 0 b.n ≤ planCost b g ls := by
  obtain ⟨rs, ss, perm, hok'⟩ := h.of
  have inL : ∀ d, d < b.n → 0 < b.want d → (⟨rs d, ss d, d, b.want d⟩ : Lot) ∈ ls := fun d h1 h2 => perm.mem_iff.mpr (List.mem_map.mpr ⟨d, List.mem_filter.mpr ⟨List.mem_range.mpr h1, decide_eq_true h2⟩, rfl⟩)
  have inM : ∀ d, d < b.n → 0 < b.want d → rs d ∈ onceOf (ls.map (·.r)) b.n := fun d h1 h2 => List.mem_filter.mpr ⟨List.mem_range.mpr (by have := hok' d h1 h2; omega), decide_eq_true (List.mem_map.mpr ⟨_, inL d h1 h2, rfl⟩)⟩
  have inB : ∀ d, d < b.n → 0 < b.want d → ss d ∈ onceOf (ls.map (·.s)) b.n := fun d h1 h2 => List.mem_filter.mpr ⟨List.mem_range.mpr (hok' d h1 h2).2.1, decide_eq_true (List.mem_map.mpr ⟨_, inL d h1 h2, rfl⟩)⟩
  have ex : ∀ d, ∃ t : Int, d < b.n → 0 < b.want d → IsBest b g (onceOf (ls.map (·.r)) b.n) (onceOf (ls.map (·.s)) b.n) d (some t) ∧ t ≤ each g (rs d) (ss d) + (b.price (ss d) d).getD 0 := fun d => by
    by_cases c : d < b.n ∧ 0 < b.want d
    · obtain ⟨o1, o2, p, hp⟩ := hok' d c.1 c.2
      obtain ⟨o, ho⟩ := best_ex b g (onceOf (ls.map (·.r)) b.n) (onceOf (ls.map (·.s)) b.n) d
      cases o with
      | none =>
        have := ho _ (inM d c.1 c.2) _ (inB d c.1 c.2) o1
        rw [pair_of hp] at this
        cases this
      | some t =>
        have := ho.2 _ (inM d c.1 c.2) _ (inB d c.1 c.2) o1 _ (pair_of hp)
        exact ⟨t, fun _ _ => ⟨ho, by rw [hp]; show t ≤ each g (rs d) (ss d) + p; omega⟩⟩
    · exact ⟨0, fun h1 h2 => absurd ⟨h1, h2⟩ c⟩
  obtain ⟨T, hT⟩ := Classical.axiomOfChoice ex
  refine ⟨T, fun d h1 h2 => (hT d h1 h2).1, ?_⟩
  have hsum : (ls.map (lotVal b g)).sum = sumR (fun d => if decide (0 < b.want d) then lotVal b g ⟨rs d, ss d, d, b.want d⟩ else 0) 0 b.n := by
    rw [perm_sum (perm.map (lotVal b g)), List.map_map, ← sum_filter]
    rfl
  have hle : sumR (wantT b T) 0 b.n ≤ sumR (fun d => if decide (0 < b.want d) then lotVal b g ⟨rs d, ss d, d, b.want d⟩ else 0) 0 b.n := by
    refine sumR_leW 0 b.n fun d _ hd => ?_
    rw [Nat.zero_add] at hd
    by_cases hw : 0 < b.want d
    · rw [if_pos (decide_eq_true hw), wantT_pos hw]
      exact Int.mul_le_mul_of_nonneg_left (hT d hd hw).2 (Int.le_of_lt hw)
    · have h0 : b.want d = 0 := by have := want_nn hok d; omega
      rw [if_neg (by simpa using hw), wantT_zero h0]
      exact Int.le_refl 0
  unfold planCost
  omega
theorem once_lt {rs : List Nat} {n r : Nat} (h : r ∈ onceOf rs n) : r < n := List.mem_range.mp (List.mem_filter.mp h).1
theorem plan_eq (hok : b.ok) (hgok : DgOk b g) (hD : Good b g D (b.n + 1)) (hF : D.F 0 = 0) {ls : List Lot} (h : IsPlan b g ls) (hc : planCost b g ls ≤ D.F b.n) : planCost b g ls = D.F b.n := by
  obtain ⟨T, h1, h2⟩ := plan_set hok h
  have := dual hok hgok hD hF (fun r hr => once_lt hr) (fun s hs => once_lt hs) h1
  omega
/-- a number whose bits are told -/
theorem bits_ex : ∀ (n : Nat) (p : Nat → Bool), ∃ N, N < 2 ^ n ∧ ∀ d, d < n → (N / 2 ^ d % 2 = 1 ↔ p d = true)
  | 0, p => ⟨0, by decide, fun d h => absurd h (Nat.not_lt_zero d)⟩
  | n + 1, p => by
    obtain ⟨N, h1, h2⟩ := bits_ex n fun d => p (d + 1)
    refine ⟨2 * N + (if p 0 then 1 else 0), ?_, fun d hd => ?_⟩
    · rw [Nat.pow_succ]
      split <;> omega
    · cases d with
      | zero =>
        rw [Nat.pow_zero, Nat.div_one]
        cases p 0 <;> simp <;> omega
      | succ d =>
        rw [Nat.pow_succ, Nat.mul_comm (2 ^ d) 2, ← Nat.div_div_eq_div_mul]
        have e : (2 * N + (if p 0 then 1 else 0)) / 2 = N := by split <;> omega
        rw [e]
        exact h2 d (by omega)
theorem chosen_ex {n : Nat} (rs : List Nat) : ∃ N, N < 2 ^ n ∧ chosen N n = onceOf rs n := by
  obtain ⟨N, h1, h2⟩ := bits_ex n fun d => decide (d ∈ rs)
  refine ⟨N, h1, ?_⟩
  unfold chosen onceOf
  refine List.filter_congr fun d hd => ?_
  have := h2 d (List.mem_range.mp hd)
  by_cases c : d ∈ rs
  · rw [decide_eq_true (this.mpr (decide_eq_true c)), decide_eq_true c]
  · rw [decide_eq_false c, decide_eq_false fun z => c (of_decide_eq_true (this.mp z))]
theorem isBest_inj {d : Nat} {o o' : Option Int} (h : IsBest b g M B d o) (h' : IsBest b g M B d o') : o = o' := by
  cases o with
  | none =>
    cases o' with
    | none => rfl
    | some t => obtain ⟨⟨r, hr, s, hs, l, e⟩, _⟩ := h'; rw [h r hr s hs l] at e; cases e
  | some t =>
    obtain ⟨⟨r, hr, s, hs, l, e⟩, hm⟩ := h
    cases o' with
    | none => rw [h' r hr s hs l] at e; cases e
    | some t' =>
      obtain ⟨⟨r', hr', s', hs', l', e'⟩, hm'⟩ := h'
      have := hm r' hr' s' hs' l' t' e'
      have := hm' r hr s hs l t e
      congr 1; omega
theorem least_eq (hok : b.ok) (hgok : DgOk b g) (hD : Good b g D (b.n + 1)) (hF : D.F 0 = 0) {ls : List Lot} (h : IsPlan b g ls) (hc : planCost b g ls ≤ D.F b.n) {o : Option Int} (ho : IsLeast b g o) : o = some (planCost b g ls) := by
  obtain ⟨T, h1, h2⟩ := plan_set hok h
  obtain ⟨N1, n1, c1⟩ := chosen_ex (n := b.n) (ls.map (·.r))
  obtain ⟨N2, n2, c2⟩ := chosen_ex (n := b.n) (ls.map (·.s))
  obtain ⟨o', hs, hle⟩ := ho.2 N1 N2 n1 n2
  rw [c1, c2] at hs
  cases o' with
  | none =>
    obtain ⟨d, hd, hw, hb⟩ := hs
    have := isBest_inj hb (h1 d hd hw)
    cases this
  | some c =>
    obtain ⟨T', t1, rfl⟩ := hs
    have eT : sumR (wantT b T') 0 b.n = sumR (wantT b T) 0 b.n := sumR_congr 0 b.n fun d _ hd => by
      rw [Nat.zero_add] at hd
      by_cases hw : 0 < b.want d
      · have := isBest_inj (t1 d hd hw) (h1 d hd hw)
        injection this with this
        rw [wantT_pos hw, wantT_pos hw, this]
      · have h0 : b.want d = 0 := by have := want_nn hok d; omega
        rw [wantT_zero h0, wantT_zero h0]
    obtain ⟨t, rfl, ht⟩ := hle _ rfl
    obtain ⟨M1, M2, m1, m2, hs'⟩ := ho.1 t rfl
    obtain ⟨T2, u1, u2⟩ := hs'
    have := dual hok hgok hD hF (fun r hr => chosen_lt hr) (fun s hs => chosen_lt hs) u1
    have := plan_eq hok hgok hD hF h hc
    congr 1
    omega
/-! ### the ladder that is told is let by -/
theorem ladF_at {n j : Nat} (h : j ≤ n) : at0 (ladF D n) j = D.F j := by
  unfold ladF at0
  rw [List.getD_eq_getElem?_getD, range_at (by omega)]; rfl
theorem ladM_at {n r j : Nat} (hr : r < n) (h : j ≤ n) : at0 ((ladM D n).getD r []) j = D.M r j := by
  unfold ladM at0
  rw [List.getD_eq_getElem?_getD, List.getD_eq_getElem?_getD, range_at hr]
  show ((List.range (n + 1)).map (D.M r))[j]?.getD 0 = _
  rw [range_at (by omega)]; rfl
theorem lad_ok (hF : D.F 0 = 0) : LadOk b (ladF D b.n) (ladM D b.n) :=
  ⟨by unfold ladF; rw [List.length_map, List.length_range], by rw [ladF_at (Nat.zero_le _)]; exact hF, by unfold ladM; rw [List.length_map, List.length_range], fun xs hx => by
    obtain ⟨r, _, rfl⟩ := List.mem_map.mp hx
    rw [List.length_map, List.length_range]⟩
theorem good_let (hD : Good b g D (b.n + 1)) : LetP b g (ladF D b.n) (ladM D b.n) := by
  refine ⟨fun j hj hw => ?_, fun r hr => ⟨fun j hj => ?_, fun j hj hw => ?_, fun s hs1 hs2 a m y hm ham hy => ?_⟩⟩
  · rw [ladF_at (by omega), ladF_at (by omega)]
    exact (hD (j + 1) (by omega)).frest j rfl hw
  · rw [ladF_at hj, ladM_at hr hj]
    exact ⟨(hD j (by omega)).low r hr, (hD j (by omega)).high r hr⟩
  · rw [ladM_at hr (by omega), ladM_at hr (by omega)]
    exact (hD (j + 1) (by omega)).least r hr (.rest j) _ ⟨rfl, hw, rfl⟩
  · rw [ladM_at hr ham, ladM_at hr (by omega)]
    exact (hD (a + m) (by omega)).least r hr (.batch a s) _ ⟨hs1, hs2, m, y, hm, rfl, hy, rfl⟩
theorem ladF_last {n : Nat} : (ladF D n)[n]? = some (D.F n) := by unfold ladF; rw [range_at (by omega)]
end
end K66

/-! ## M5 -/
set_option maxHeartbeats 4000000
namespace K66
/-! doughs that cost nothing: the row's last number -/
section
variable {b : Bk} {g : List Dg} {D : Tab} {M B : List Nat}
theorem lesser_inv {x y : Option Int} {z : Int} (h : lesserO x y = some z) : x = some z ∨ y = some z := by
  cases x with
  | none => exact .inr h
  | some u =>
    cases y with
    | none => exact .inl h
    | some v =>
      have h' : some (if v < u then v else u) = some z := h
      injection h' with h'
      by_cases c : v < u
      · rw [if_pos c] at h'; exact .inr (by rw [h'])
      · rw [if_neg c] at h'; exact .inl (by rw [h'])
theorem lesser_l {x : Int} (y : Option Int) : ∃ z, lesserO (some x) y = some z ∧ z ≤ x := by
  cases y with
  | none => exact ⟨x, rfl, Int.le_refl _⟩
  | some v =>
    refine ⟨if v < x then v else x, rfl, ?_⟩
    split <;> omega
theorem lesser_r (x : Option Int) {y : Int} : ∃ z, lesserO x (some y) = some z ∧ z ≤ y := by
  cases x with
  | none => exact ⟨y, rfl, Int.le_refl _⟩
  | some v =>
    refine ⟨if y < v then y else v, rfl, ?_⟩
    split <;> omega
theorem add_inv {x y : Option Int} {z : Int} (h : addO x y = some z) : ∃ u v, x = some u ∧ y = some v ∧ z = u + v := by
  cases x with
  | none => cases h
  | some u =>
    cases y with
    | none => cases h
    | some v =>
      have h' : some (u + v) = some z := h
      injection h' with h'
      exact ⟨u, v, rfl, rfl, h'.symm⟩
theorem best_inv {c kn : Nat → Option Int} : ∀ {j : Nat} {z : Int}, bestO c kn j = some z → ∃ a m y w, 0 < m ∧ a + m = j ∧ kn a = some w ∧ csum c a m = some y ∧ z = w + y
  | 0, z, h => by cases h
  | j + 1, z, h => by
    obtain ⟨u, v, h1, h2, rfl⟩ := add_inv h
    rcases lesser_inv h1 with h3 | h3
    · obtain ⟨a, m, y, w, k1, k2, k3, k4, rfl⟩ := best_inv h3
      exact ⟨a, m + 1, y + v, w, by omega, by omega, k3, csum_succ k4 (by rw [k2]; exact h2), by omega⟩
    · exact ⟨j, 1, 0 + v, u, by decide, rfl, h3, csum_succ (x := 0) rfl h2, by omega⟩
theorem best_le {c kn : Nat → Option Int} {a : Nat} {w : Int} (hk : kn a = some w) : ∀ {m : Nat} {y : Int}, csum c a (m + 1) = some y → ∃ z, bestO c kn (a + m + 1) = some z ∧ z ≤ w + y
  | 0, y, h => by
    obtain ⟨u, v, h1, h2, rfl⟩ := csum_inv h
    have : some 0 = some u := h1
    injection this with this
    obtain ⟨z, hz, hl⟩ := lesser_r (bestO c kn a) (y := w)
    refine ⟨z + v, ?_, by omega⟩
    show addO (lesserO (bestO c kn a) (kn a)) (c a) = _
    rw [hk, hz, show c a = some v from h2]; rfl
  | m + 1, y, h => by
    obtain ⟨u, v, h1, h2, rfl⟩ := csum_inv h
    obtain ⟨z, hz, hl⟩ := best_le hk h1
    obtain ⟨z', hz', hl'⟩ := lesser_l (x := z) (kn (a + m + 1))
    refine ⟨z' + v, ?_, by omega⟩
    show addO (lesserO (bestO c kn (a + m + 1)) (kn (a + m + 1))) (c (a + m + 1)) = _
    rw [hz, hz', show c (a + m + 1) = some v from h2]; rfl
theorem row_lit {k a m : Nat} {w y : Int} (hm : 0 < m) (hk : rowO b k a = some w) (hy : csum (cost0 b k) a m = some y) : ∃ x, rowO b (k + 1) (a + m) = some x ∧ x ≤ w + (b.light k + y) := by
  obtain ⟨m', rfl⟩ : ∃ m', m = m' + 1 := ⟨m - 1, by omega⟩
  obtain ⟨z, hz, hl⟩ := best_le (kn := rowO b k) hk hy
  have e : litO (b.light k) (cost0 b k) (rowO b k) (a + (m' + 1)) = some (z + b.light k) := by
    show addO (bestO (cost0 b k) (rowO b k) (a + m' + 1)) (some (b.light k)) = _
    rw [hz]; rfl
  obtain ⟨x, hx, hxl⟩ := lesser_r (rowO b k (a + (m' + 1))) (y := z + b.light k)
  exact ⟨x, by show lesserO (rowO b k (a + (m' + 1))) _ = _; rw [e, hx], by omega⟩
theorem row_mono {k j : Nat} {x : Int} (h : rowO b k j = some x) : ∀ i, ∃ x', rowO b (k + i) j = some x' ∧ x' ≤ x
  | 0 => ⟨x, h, Int.le_refl _⟩
  | i + 1 => by
    obtain ⟨x', h1, h2⟩ := row_mono h i
    obtain ⟨z, hz, hl⟩ := lesser_l (x := x') (litO (b.light (k + i)) (cost0 b (k + i)) (rowO b (k + i)) j)
    exact ⟨z, by show lesserO (rowO b (k + i) j) _ = _; rw [h1]; exact hz, by omega⟩
theorem row_mono' {k k' j : Nat} {x : Int} (h : rowO b k j = some x) (hk : k ≤ k') : ∃ x', rowO b k' j = some x' ∧ x' ≤ x := by
  obtain ⟨x', h1, h2⟩ := row_mono h (k' - k)
  exact ⟨x', by rw [← h1]; congr 1; omega, h2⟩
theorem cost_zero (hz : ∀ i, gd g i = dg0) {r s d : Nat} : b.cost g r s d = cost0 b s d := by
  have e : each g r s = 0 := by
    unfold each
    rw [hz]
    have : holdD g = fun _ => 0 := funext fun i => by unfold holdD; rw [hz]; rfl
    rw [this]
    unfold sumF
    rw [sumR_zero]; rfl
  unfold Bk.cost cost0
  rw [e]
  by_cases h : b.want d = 0
  · rw [if_pos h, if_pos h]
  · rw [if_neg h, if_neg h]
    cases b.price s d with
    | none => rfl
    | some p => show some (b.want d * p + b.want d * 0) = some (b.want d * p); rw [Int.mul_zero, Int.add_zero]
theorem row_ge (hok : b.ok) (hz : ∀ i, gd g i = dg0) (hD : Good b g D (b.n + 1)) (hF : D.F 0 = 0) : ∀ k, k ≤ b.n → ∀ j, j ≤ b.n → ∀ x, rowO b k j = some x → D.F j ≤ x
  | 0, _, j, hj, x, h => by
    have key : ∀ j, j ≤ b.n → ∀ x, unlitO b j = some x → D.F j ≤ x := fun j => by
      induction j with
      | zero => intro _ x h; injection h with h; rw [hF]; omega
      | succ j ih =>
        intro hj x h
        unfold unlitO at h
        by_cases hw : b.want j = 0
        · rw [if_pos hw] at h
          have := (hD (j + 1) (by omega)).frest j rfl hw
          have := ih (by omega) x h
          omega
        · rw [if_neg hw] at h; cases h
    exact key j hj x h
  | k + 1, hk, j, hj, x, h => by
    have ih := row_ge hok hz hD hF k (by omega)
    rcases lesser_inv h with h1 | h1
    · exact ih j hj x h1
    · cases j with
      | zero => cases h1
      | succ j =>
        obtain ⟨u, v, h2, h3, rfl⟩ := add_inv h1
        injection h3 with h3
        obtain ⟨a, m, y, w, k1, k2, k3, k4, rfl⟩ := best_inv h2
        have hw := ih a (by omega) w k3
        have h0 : 0 < b.n := by omega
        have hmix : mixD g 0 = 0 := by unfold mixD; rw [hz]; rfl
        have ha := (hD a (by omega)).high 0 h0
        have hcs : csum (b.cost g 0 k) a m = some y := by
          rw [show b.cost g 0 k = cost0 b k from funext fun d => cost_zero hz]; exact k4
        have l1 := (hD (j + 1) (by omega)).least 0 h0 (.batch a k) _ ⟨Nat.zero_le k, by omega, m, y, k1, k2, hcs, rfl⟩
        have l2 := (hD (j + 1) (by omega)).low 0 h0
        omega
structure RowRun (b : Bk) (B : List Nat) (T : Nat → Int) (ss : Nat → Nat) (j : Nat) (SL : List Nat) : Prop where
  ns : SL.Nodup
  sm : ∀ x ∈ SL, x ∈ B
  last : (rowO b 0 j = some 0 ∧ SL = [] ∧ 0 ≤ sumR (wantT b T) 0 j) ∨ ∃ d0, d0 < j ∧ 0 < b.want d0 ∧ (∀ x ∈ SL, x ≤ ss d0) ∧
    ∃ a m y w, 0 < m ∧ a + m = j ∧ rowO b (ss d0) a = some w ∧ csum (cost0 b (ss d0)) a m = some y ∧ w + (b.light (ss d0) + y) ≤ sumR (wantT b T) 0 j + sumL b.light SL
theorem row_run (hok : b.ok) (hz : ∀ i, gd g i = dg0) (hBn : ∀ s ∈ B, s < b.n) {T : Nat → Int} {rr ss : Nat → Nat} (hfirst : ∀ d, d < b.n → 0 < b.want d → First b g M B d (rr d) (ss d) (T d)) : ∀ j, j ≤ b.n → ∃ SL, RowRun b B T ss j SL
  | 0, _ => ⟨[], List.nodup_nil, (fun x h => by cases h), .inl ⟨rfl, rfl, Int.le_refl 0⟩⟩
  | j + 1, hj => by
    obtain ⟨SL, R⟩ := row_run hok hz hBn hfirst j (by omega)
    have es : sumR (wantT b T) 0 (j + 1) = sumR (wantT b T) 0 j + wantT b T j := by
      show sumR _ 0 j + wantT b T (0 + j) = _
      rw [Nat.zero_add]
    by_cases hw : b.want j = 0
    · have ez : cost0 b (ss 0) j = some 0 := by unfold cost0; rw [if_pos hw]
      rw [wantT_zero hw, Int.add_zero] at es
      refine ⟨SL, R.ns, R.sm, ?_⟩
      rcases R.last with ⟨h1, h2, h3⟩ | ⟨d0, h1, h2, h3, a, m, y, w, h4, h5, h6, h7, h8⟩
      · refine .inl ⟨?_, h2, by rw [es]; exact h3⟩
        show unlitO b (j + 1) = some 0
        unfold unlitO
        rw [if_pos hw]; exact h1
      · refine .inr ⟨d0, by omega, h2, h3, a, m + 1, y + 0, w, by omega, by omega, h6, csum_succ h7 ?_, by rw [es, Int.add_zero]; exact h8⟩
        rw [h5]
        unfold cost0
        rw [if_pos hw]
    · have hw' : 0 < b.want j := by have := want_nn hok j; omega
      have fj := hfirst j (by omega) hw'
      have hs : ss j < b.n := hBn _ fj.inB
      have hcost : cost0 b (ss j) j = some (b.want j * T j) := by rw [← cost_zero hz (r := rr j)]; exact cost_pair hw' fj.val
      rw [wantT_pos hw'] at es
      have fin : ∀ w, rowO b (ss j) j = some w → (∀ x ∈ SL, x < ss j) → w ≤ sumR (wantT b T) 0 j + sumL b.light SL → ∃ SL, RowRun b B T ss (j + 1) SL := fun w h1 h2 h3 => by
        refine ⟨ss j :: SL, List.nodup_cons.mpr ⟨fun h => Nat.lt_irrefl _ (h2 _ h), R.ns⟩, fun x hx => ?_, .inr ⟨j, by omega, hw', fun x hx => ?_, j, 1, 0 + b.want j * T j, w, by decide, rfl, h1, csum_succ (x := 0) rfl hcost, ?_⟩⟩
        · rcases List.mem_cons.mp hx with e | e
          · rw [e]; exact fj.inB
          · exact R.sm x e
        · rcases List.mem_cons.mp hx with e | e
          · omega
          · exact Nat.le_of_lt (h2 x e)
        · rw [es, sumL_cons]; omega
      rcases R.last with ⟨h1, h2, h3⟩ | ⟨d0, h1, h2, h3, a, m, y, w, h4, h5, h6, h7, h8⟩
      · obtain ⟨x', r1, r2⟩ := row_mono' h1 (Nat.zero_le (ss j))
        refine fin x' r1 (by rw [h2]; intro x h; cases h) ?_
        have : sumL b.light [] = 0 := rfl
        rw [h2, this]; omega
      · have f0 := hfirst d0 (by omega) h2
        obtain ⟨o1, o2, o3⟩ := first_mono hok h1 f0 fj
        by_cases e : ss d0 = ss j
        · refine ⟨SL, R.ns, R.sm, .inr ⟨j, by omega, hw', fun x hx => by have := h3 x hx; omega, a, m + 1, y + b.want j * T j, w, by omega, by omega, by rw [← e]; exact h6, ?_, ?_⟩⟩
          · rw [← e]
            refine csum_succ h7 ?_
            rw [h5, e]; exact hcost
          · rw [es, ← e]; omega
        · obtain ⟨x1, r1, r2⟩ := row_lit h4 h6 h7
          rw [h5] at r1
          obtain ⟨x', r3, r4⟩ := row_mono' r1 (show ss d0 + 1 ≤ ss j by omega)
          exact fin x' r3 (fun x hx => by have := h3 x hx; omega) (by omega)
theorem row_last (hok : b.ok) (hgok : DgOk b g) (hz : ∀ i, gd g i = dg0) (hD : Good b g D (b.n + 1)) (hF : D.F 0 = 0) {ls : List Lot} (h : IsPlan b g ls) (hc : planCost b g ls ≤ D.F b.n) : rowO b b.n b.n = some (planCost b g ls) := by
  obtain ⟨T, hT, hsum⟩ := plan_set hok h
  have hp := plan_eq hok hgok hD hF h hc
  have hBn : ∀ s ∈ onceOf (ls.map (·.s)) b.n, s < b.n := fun s hs => once_lt hs
  have ex : ∀ d, ∃ p : Nat × Nat, d < b.n → 0 < b.want d → First b g (onceOf (ls.map (·.r)) b.n) (onceOf (ls.map (·.s)) b.n) d p.1 p.2 (T d) := fun d => by
    by_cases c : d < b.n ∧ 0 < b.want d
    · obtain ⟨r, s, hf⟩ := first_ex (hT d c.1 c.2)
      exact ⟨(r, s), fun _ _ => hf⟩
    · exact ⟨(0, 0), fun h1 h2 => absurd ⟨h1, h2⟩ c⟩
  obtain ⟨f, hf⟩ := Classical.axiomOfChoice ex
  obtain ⟨SL, R⟩ := row_run (rr := fun d => (f d).1) (ss := fun d => (f d).2) hok hz hBn (fun d h1 h2 => hf d h1 h2) b.n (Nat.le_refl _)
  have l2 := sumL_sub (fun i => light_nn hok i) R.ns R.sm
  have l1 := sumL_nn (fun i => mix_nn hgok i) (onceOf (ls.map (·.r)) b.n)
  have up : ∃ x, rowO b b.n b.n = some x ∧ x ≤ sumR (wantT b T) 0 b.n + sumL b.light SL := by
    rcases R.last with ⟨h1, h2, h3⟩ | ⟨d0, h1, h2, h3, a, m, y, w, h4, h5, h6, h7, h8⟩
    · obtain ⟨x', r1, r2⟩ := row_mono' h1 (Nat.zero_le b.n)
      have : sumL b.light [] = 0 := rfl
      exact ⟨x', r1, by rw [h2, this]; omega⟩
    · obtain ⟨x1, r1, r2⟩ := row_lit h4 h6 h7
      rw [h5] at r1
      have hs : (f d0).2 < b.n := hBn _ (hf d0 h1 h2).inB
      obtain ⟨x', r3, r4⟩ := row_mono' r1 (show (f d0).2 + 1 ≤ b.n by omega)
      exact ⟨x', r3, by omega⟩
  obtain ⟨x, hx, hle⟩ := up
  have := row_ge hok hz hD hF b.n (Nat.le_refl _) b.n (Nat.le_refl _) x hx
  rw [hx]
  congr 1
  omega
end
end K66

/-! ## S7 -/
set_option maxHeartbeats 4000000
namespace K66
open PySem PySem.Spec PyProof.Rows L2
def sp__law_long_stretches (_K : PySem.W.Frag) : Sp := spOf fun vs H P => vs = [] ∧ P = Is (.bl true)
def sp__law_thirteen (_K : PySem.W.Frag) : Sp := spOf fun vs H P => ∃ (pb : Addr) (b : Bk) (pd : Addr) (g : List Dg), vs = [.ref pb, .ref pd] ∧ BkAt H pb b ∧ b.ok ∧ DgsAt H pd g ∧ DgOk b g ∧ b.n = 13 ∧ P = Is (.bl true)
def sp__law_late_rows (_K : PySem.W.Frag) : Sp := spOf fun vs H P => ∃ (p : Addr) (d0 : Int) (d1 : Int), vs = [.ref p] ∧ H p = some (.lst [.int d0, .int d1]) ∧ (0 ≤ d0 ∧ d0 < 420) ∧ (0 ≤ d1 ∧ d1 < 420) ∧ P = Is (.bl true)
def sp_law (K : PySem.W.Frag) : Sp := spOf fun vs H P => ∃ (a : Addr) (ns : List Int), vs = [.ref a] ∧ SqL K H a (ns.map V.int) ∧ ns.length ≤ 63 ∧ P = Is (.bl true)
end K66

/-! ## D8 -/
set_option maxHeartbeats 4000000
namespace K66
open PySem PySem.Spec PyProof.Rows L2
/-! _law_long_stretches -/
abbrev N__law_long_stretches : List Str := ["_law_bakery_here", "_law_doughs_here", "_law_many", "_law_rungs", "_law_ladder", "_law_day_here"]
abbrev p__law_long_stretches : List Str := []
theorem sc__law_long_stretches : FnScope N__law_long_stretches p__law_long_stretches (defScope s__law_long_stretches) := ⟨rfl, rfl, rfl, by decide +kernel, rfl, by decide +kernel, by decide +kernel⟩
def t__law_long_stretches (K : PySem.W.Frag) : TS := tSeq (tAsg (tTup (tCons (tOp rRep (tLst (tCons (tOp rPowI (tC (.int 10)) (tC (.int 6))) (tNil))) (tC (.int 12))) (tCons (tC .non) (tCons (tLst (tCons (tTup (tCons (tOp rRep (tLst (tCons (tTup (tCons (tC (.int 1)) (tCons (tC (.int 0)) (tCons (tC (.int 0)) (tCons (tC .non) (tNil)))))) (tNil))) (tC (.int 12))) (tCons (tC .non) (tNil)))) (tNil))) (tNil))))) (gName 0)) (tSeq (tAsg (tOp rRep (tLst (tCons (tTup (tCons (tC (.int 0)) (tCons (tC (.int 0)) (tCons (tC (.int 0)) (tNil))))) (tNil))) (tC (.int 12))) (gName 1)) (tSeq (tFor (iRng2 (tCons (tC (.int 1)) (tCons (tC (.int 13)) (tNil)))) (gName 2) (tSeq (tAsg (tOp rCat (tLst (tCons (tC (.int 0)) (tNil))) (tLc (iRng1 (tCons (tC (.int 12)) (tNil))) (gName 5) (tYes) (tOp rMulI (tOp rPowI (tC (.int 10)) (tC (.int 6))) (tOp rAddI (tC (.int 1)) (tOp rDivI (tVar 5) (tVar 2)))) [5])) (gName 3)) (tSeq (tAsg (tTup (tCons (tVar 3) (tCons (tLc (iRng1 (tCons (tC (.int 12)) (tNil))) (gName 5) (tYes) (tCB (rListS K) (tCons (tVar 3) (tNil))) [5]) (tNil)))) (gName 4)) (tSeq (tIfS (tTest (tOp rNe (tCall (sp_lets_ladder K) [] E0 (tCons (tVar 0) (tCons (tVar 1) (tCons (tVar 4) (tNil))))) (tOp rEq (tVar 2) (tC (.int 12))))) (tSeq (tRet (tC (.bl false))) (tNext)) (tNext)) (tNext))))) (tSeq (tRet (tC (.bl true))) (tNext))))
theorem der__law_long_stretches {P : Program} {w : World} {K : PySem.W.Frag} {mg : Str → Option Value} {base : Heap} (W : Wd K mg) (C_lets_ladder : Cal P w K mg base CX0 10 "lets_ladder" p_lets_ladder (sp_lets_ladder K)) {f : Addr} {cdv : Value} {A : Around} {outer : List Env} {s : Shared} {H : Hp} {E : XK} (hr : Room 10 (A.deeper (envOfC "_law_long_stretches" (defScope s__law_long_stretches) s.heap.objs.size f cdv))) :
    PSs (cxOf CX0 P w K mg base N__law_long_stretches "_law_long_stretches" (defScope s__law_long_stretches) f cdv A outer s H E).nox (defBody s__law_long_stretches) (t__law_long_stretches K) :=
  pss_cons (ps_set (i := 0) sc__law_long_stretches.nd rfl (by first | exact Or.inl rfl | exact Or.inr rfl) (pe_tup (pa_cons (pe_op op_rep (pe_lst (pa_cons (pe_op op_pow (pe_int) (pe_int)) (pa_nil))) (pe_int)) (pa_cons (pe_non) (pa_cons (pe_lst (pa_cons (pe_tup (pa_cons (pe_op op_rep (pe_lst (pa_cons (pe_tup (pa_cons (pe_int) (pa_cons (pe_int) (pa_cons (pe_int) (pa_cons (pe_non) (pa_nil)))))) (pa_nil))) (pe_int)) (pa_cons (pe_non) (pa_nil)))) (pa_nil))) (pa_nil)))))) (pss_cons (ps_set (i := 1) sc__law_long_stretches.nd rfl (by first | exact Or.inl rfl | exact Or.inr rfl) (pe_op op_rep (pe_lst (pa_cons (pe_tup (pa_cons (pe_int) (pa_cons (pe_int) (pa_cons (pe_int) (pa_nil))))) (pa_nil))) (pe_int))) (pss_cons (ps_for PassesOwn.never (by rfl) (pi_range2 (by rfl) W.b_range (pa_cons (pe_int) (pa_cons (pe_int) (pa_nil)))) (pg_name (i := 2) sc__law_long_stretches.nd rfl (by first | exact Or.inl rfl | exact Or.inr rfl)) (pss_cons (ps_set (i := 3) sc__law_long_stretches.nd rfl (by first | exact Or.inl rfl | exact Or.inr rfl) (pe_op op_cat (pe_lst (pa_cons (pe_int) (pa_nil))) (pe_lc (own := [("_law_day_here", 5)]) (by rfl) sc__law_long_stretches.nd (pi_range1 (by rfl) W.b_range (pa_cons (pe_int) (pa_nil))) (blkOk_by (own := [("_law_day_here", 5)]) (N := N__law_long_stretches) (sc := defScope s__law_long_stretches) (by decide +kernel)) (fun _ _ _ _ _ => pg_name (i := 5) sc__law_long_stretches.nd rfl (by first | exact Or.inl rfl | exact Or.inr rfl)) (fun _ _ _ _ _ => pts_nil) (fun _ _ _ _ _ => pe_op op_mul (pe_op op_pow (pe_int) (pe_int)) (pe_op op_add (pe_int) (pe_op op_fdiv (pv 5) (pv 2))))))) (pss_cons (ps_set (i := 4) sc__law_long_stretches.nd rfl (by first | exact Or.inl rfl | exact Or.inr rfl) (pe_tup (pa_cons (pv 3) (pa_cons (pe_lc (own := [("_law_day_here", 5)]) (by rfl) sc__law_long_stretches.nd (pi_range1 (by rfl) W.b_range (pa_cons (pe_int) (pa_nil))) (blkOk_by (own := [("_law_day_here", 5)]) (N := N__law_long_stretches) (sc := defScope s__law_long_stretches) (by decide +kernel)) (fun _ _ _ _ _ => pg_name (i := 5) sc__law_long_stretches.nd rfl (by first | exact Or.inl rfl | exact Or.inr rfl)) (fun _ _ _ _ _ => pts_nil) (fun _ _ _ _ _ => pe_callTy call_list_of (by rfl) W.b_list (by decide +kernel) (pa_cons (pv 3) (pa_nil)))) (pa_nil))))) (pss_cons (ps_if (pt_cmpR op_ne (pe_cal C_lets_ladder (hr.mono (by decide)) (by rfl) (pa_cons (pv 0) (pa_cons (pv 1) (pa_cons (pv 4) (pa_nil))))) (pe_cmpR op_eq (pv 2) (pe_int) (nomark _)) (nomark _)) (pss_cons (ps_ret (pe_bl)) (pss_nil)) (pss_nil)) (pss_nil))))) (pss_cons (ps_ret (pe_bl)) (pss_nil))))
/-! _law_thirteen -/
abbrev N__law_thirteen : List Str := ["_law_bakery_here", "_law_doughs_here", "_law_flat", "_law_high", "_law_day_here"]
abbrev p__law_thirteen : List Str := ["_law_bakery_here", "_law_doughs_here"]
theorem sc__law_thirteen : FnScope N__law_thirteen p__law_thirteen (defScope s__law_thirteen) := ⟨rfl, rfl, rfl, by decide +kernel, rfl, by decide +kernel, by decide +kernel⟩
def t__law_thirteen (K : PySem.W.Frag) : TS := tSeq (tAsg (tTup (tCons (tOp rRep (tLst (tCons (tC (.int 0)) (tNil))) (tC (.int 14))) (tCons (tLc (iRng1 (tCons (tC (.int 13)) (tNil))) (gName 4) (tYes) (tOp rRep (tLst (tCons (tC (.int 0)) (tNil))) (tC (.int 14))) [4]) (tNil)))) (gName 2)) (tSeq (tIfS (tTest (tOp rNotB (tCall (sp_lets_ladder K) [] E0 (tCons (tVar 0) (tCons (tVar 1) (tCons (tVar 2) (tNil))))) (tC (.bl true)))) (tSeq (tRet (tC (.bl false))) (tNext)) (tNext)) (tSeq (tAsg (tTup (tCons (tOp rCat (tOp rRep (tLst (tCons (tC (.int 0)) (tNil))) (tC (.int 13))) (tLst (tCons (tOp rPowI (tC (.int 10)) (tC (.int 30))) (tNil)))) (tCons (tLc (iRng1 (tCons (tC (.int 13)) (tNil))) (gName 4) (tYes) (tOp rCat (tOp rRep (tLst (tCons (tC (.int 0)) (tNil))) (tC (.int 13))) (tLst (tCons (tOp rPowI (tC (.int 10)) (tC (.int 30))) (tNil)))) [4]) (tNil)))) (gName 3)) (tSeq (tRet (tOp rIsB (tCall (sp_lets_ladder K) [] E0 (tCons (tVar 0) (tCons (tVar 1) (tCons (tVar 3) (tNil))))) (tC (.bl false)))) (tNext))))
theorem der__law_thirteen {P : Program} {w : World} {K : PySem.W.Frag} {mg : Str → Option Value} {base : Heap} (W : Wd K mg) (C_lets_ladder : Cal P w K mg base CX0 10 "lets_ladder" p_lets_ladder (sp_lets_ladder K)) {f : Addr} {cdv : Value} {A : Around} {outer : List Env} {s : Shared} {H : Hp} {E : XK} (hr : Room 10 (A.deeper (envOfC "_law_thirteen" (defScope s__law_thirteen) s.heap.objs.size f cdv))) :
    PSs (cxOf CX0 P w K mg base N__law_thirteen "_law_thirteen" (defScope s__law_thirteen) f cdv A outer s H E).nox (defBody s__law_thirteen) (t__law_thirteen K) :=
  pss_cons (ps_set (i := 2) sc__law_thirteen.nd rfl (by first | exact Or.inl rfl | exact Or.inr rfl) (pe_tup (pa_cons (pe_op op_rep (pe_lst (pa_cons (pe_int) (pa_nil))) (pe_int)) (pa_cons (pe_lc (own := [("_law_day_here", 4)]) (by rfl) sc__law_thirteen.nd (pi_range1 (by rfl) W.b_range (pa_cons (pe_int) (pa_nil))) (blkOk_by (own := [("_law_day_here", 4)]) (N := N__law_thirteen) (sc := defScope s__law_thirteen) (by decide +kernel)) (fun _ _ _ _ _ => pg_name (i := 4) sc__law_thirteen.nd rfl (by first | exact Or.inl rfl | exact Or.inr rfl)) (fun _ _ _ _ _ => pts_nil) (fun _ _ _ _ _ => pe_op op_rep (pe_lst (pa_cons (pe_int) (pa_nil))) (pe_int))) (pa_nil))))) (pss_cons (ps_if (pt_cmpR op_notBl (pe_cal C_lets_ladder (hr.mono (by decide)) (by rfl) (pa_cons (pv 0) (pa_cons (pv 1) (pa_cons (pv 2) (pa_nil))))) (pe_bl) (nomark _)) (pss_cons (ps_ret (pe_bl)) (pss_nil)) (pss_nil)) (pss_cons (ps_set (i := 3) sc__law_thirteen.nd rfl (by first | exact Or.inl rfl | exact Or.inr rfl) (pe_tup (pa_cons (pe_op op_cat (pe_op op_rep (pe_lst (pa_cons (pe_int) (pa_nil))) (pe_int)) (pe_lst (pa_cons (pe_op op_pow (pe_int) (pe_int)) (pa_nil)))) (pa_cons (pe_lc (own := [("_law_day_here", 4)]) (by rfl) sc__law_thirteen.nd (pi_range1 (by rfl) W.b_range (pa_cons (pe_int) (pa_nil))) (blkOk_by (own := [("_law_day_here", 4)]) (N := N__law_thirteen) (sc := defScope s__law_thirteen) (by decide +kernel)) (fun _ _ _ _ _ => pg_name (i := 4) sc__law_thirteen.nd rfl (by first | exact Or.inl rfl | exact Or.inr rfl)) (fun _ _ _ _ _ => pts_nil) (fun _ _ _ _ _ => pe_op op_cat (pe_op op_rep (pe_lst (pa_cons (pe_int) (pa_nil))) (pe_int)) (pe_lst (pa_cons (pe_op op_pow (pe_int) (pe_int)) (pa_nil))))) (pa_nil))))) (pss_cons (ps_ret (pe_cmpR op_isBl (pe_cal C_lets_ladder (hr.mono (by decide)) (by rfl) (pa_cons (pv 0) (pa_cons (pv 1) (pa_cons (pv 3) (pa_nil))))) (pe_bl) (nomark _))) (pss_nil))))
/-! _law_late_rows -/
abbrev N__law_late_rows : List Str := ["_law_digits", "_law_many", "_law_high", "_law_bakery_here", "_law_doughs_here", "_law_rungs", "_law_flat", "_law_day_here"]
abbrev p__law_late_rows : List Str := ["_law_digits"]
theorem sc__law_late_rows : FnScope N__law_late_rows p__law_late_rows (defScope s__law_late_rows) := ⟨rfl, rfl, rfl, by decide +kernel, rfl, by decide +kernel, by decide +kernel⟩
def t__law_late_rows (K : PySem.W.Frag) : TS := tSeq (tPar 1 2 (tCons (tOp rAddI (tC (.int 7)) (tOp rModI (tOp (rIx K) (tVar 0) (tC (.int 0))) (tC (.int 6)))) (tCons (tOp rAddI (tC (.int 1)) (tOp (rIx K) (tVar 0) (tC (.int 1)))) (tNil)))) (tSeq (tAsg (tTup (tCons (tOp rRep (tLst (tCons (tC (.int 0)) (tNil))) (tVar 1)) (tCons (tC .non) (tCons (tLst (tCons (tTup (tCons (tOp rCat (tOp rRep (tLst (tCons (tTup (tCons (tC (.int 0)) (tCons (tC (.int 0)) (tCons (tC (.int 0)) (tCons (tC .non) (tNil)))))) (tNil))) (tOp rSubI (tVar 1) (tC (.int 1)))) (tLst (tCons (tTup (tCons (tC (.int 1)) (tCons (tC (.int 0)) (tCons (tC (.int 0)) (tCons (tC .non) (tNil)))))) (tNil)))) (tCons (tC .non) (tNil)))) (tNil))) (tNil))))) (gName 3)) (tSeq (tAsg (tOp rCat (tOp rRep (tLst (tCons (tTup (tCons (tC (.int 0)) (tCons (tVar 2) (tCons (tC (.int 0)) (tNil))))) (tNil))) (tOp rSubI (tVar 1) (tC (.int 1)))) (tLst (tCons (tTup (tCons (tC (.int 0)) (tCons (tC (.int 0)) (tCons (tC (.int 0)) (tNil))))) (tNil)))) (gName 4)) (tSeq (tAsg (tOp rCat (tOp rRep (tLst (tCons (tC (.int 0)) (tNil))) (tVar 1)) (tLst (tCons (tVar 2) (tNil)))) (gName 5)) (tSeq (tIfS (tTest (tOp rNotB (tCall (sp_lets_ladder K) [] E0 (tCons (tVar 3) (tCons (tVar 4) (tCons (tTup (tCons (tVar 5) (tCons (tLc (iRng1 (tCons (tVar 1) (tNil))) (gName 7) (tYes) (tCB (rListS K) (tCons (tVar 5) (tNil))) [7]) (tNil)))) (tNil))))) (tC (.bl false)))) (tSeq (tRet (tC (.bl false))) (tNext)) (tNext)) (tSeq (tAsg (tOp rRep (tLst (tCons (tC (.int 0)) (tNil))) (tOp rAddI (tVar 1) (tC (.int 1)))) (gName 6)) (tSeq (tRet (tOp rIsB (tCall (sp_lets_ladder K) [] E0 (tCons (tVar 3) (tCons (tVar 4) (tCons (tTup (tCons (tVar 6) (tCons (tLc (iRng1 (tCons (tVar 1) (tNil))) (gName 7) (tYes) (tCB (rListS K) (tCons (tVar 6) (tNil))) [7]) (tNil)))) (tNil))))) (tC (.bl true)))) (tNext)))))))
theorem der__law_late_rows {P : Program} {w : World} {K : PySem.W.Frag} {mg : Str → Option Value} {base : Heap} (W : Wd K mg) (C_lets_ladder : Cal P w K mg base CX0 10 "lets_ladder" p_lets_ladder (sp_lets_ladder K)) {f : Addr} {cdv : Value} {A : Around} {outer : List Env} {s : Shared} {H : Hp} {E : XK} (hr : Room 10 (A.deeper (envOfC "_law_late_rows" (defScope s__law_late_rows) s.heap.objs.size f cdv))) :
    PSs (cxOf CX0 P w K mg base N__law_late_rows "_law_late_rows" (defScope s__law_late_rows) f cdv A outer s H E).nox (defBody s__law_late_rows) (t__law_late_rows K) :=
  pss_cons (ps_par (by rfl) sc__law_late_rows.nd rfl rfl (by decide) rfl rfl (pa_cons (pe_op op_add (pe_int) (pe_op op_mod (pe_ix ix_seq (pv 0) (pe_int) (fun _ _ => rfl)) (pe_int))) (pa_cons (pe_op op_add (pe_int) (pe_ix ix_seq (pv 0) (pe_int) (fun _ _ => rfl))) (pa_nil))) (by rfl)) (pss_cons (ps_set (i := 3) sc__law_late_rows.nd rfl (by first | exact Or.inl rfl | exact Or.inr rfl) (pe_tup (pa_cons (pe_op op_rep (pe_lst (pa_cons (pe_int) (pa_nil))) (pv 1)) (pa_cons (pe_non) (pa_cons (pe_lst (pa_cons (pe_tup (pa_cons (pe_op op_cat (pe_op op_rep (pe_lst (pa_cons (pe_tup (pa_cons (pe_int) (pa_cons (pe_int) (pa_cons (pe_int) (pa_cons (pe_non) (pa_nil)))))) (pa_nil))) (pe_op op_sub (pv 1) (pe_int))) (pe_lst (pa_cons (pe_tup (pa_cons (pe_int) (pa_cons (pe_int) (pa_cons (pe_int) (pa_cons (pe_non) (pa_nil)))))) (pa_nil)))) (pa_cons (pe_non) (pa_nil)))) (pa_nil))) (pa_nil)))))) (pss_cons (ps_set (i := 4) sc__law_late_rows.nd rfl (by first | exact Or.inl rfl | exact Or.inr rfl) (pe_op op_cat (pe_op op_rep (pe_lst (pa_cons (pe_tup (pa_cons (pe_int) (pa_cons (pv 2) (pa_cons (pe_int) (pa_nil))))) (pa_nil))) (pe_op op_sub (pv 1) (pe_int))) (pe_lst (pa_cons (pe_tup (pa_cons (pe_int) (pa_cons (pe_int) (pa_cons (pe_int) (pa_nil))))) (pa_nil))))) (pss_cons (ps_set (i := 5) sc__law_late_rows.nd rfl (by first | exact Or.inl rfl | exact Or.inr rfl) (pe_op op_cat (pe_op op_rep (pe_lst (pa_cons (pe_int) (pa_nil))) (pv 1)) (pe_lst (pa_cons (pv 2) (pa_nil))))) (pss_cons (ps_if (pt_cmpR op_notBl (pe_cal C_lets_ladder (hr.mono (by decide)) (by rfl) (pa_cons (pv 3) (pa_cons (pv 4) (pa_cons (pe_tup (pa_cons (pv 5) (pa_cons (pe_lc (own := [("_law_day_here", 7)]) (by rfl) sc__law_late_rows.nd (pi_range1 (by rfl) W.b_range (pa_cons (pv 1) (pa_nil))) (blkOk_by (own := [("_law_day_here", 7)]) (N := N__law_late_rows) (sc := defScope s__law_late_rows) (by decide +kernel)) (fun _ _ _ _ _ => pg_name (i := 7) sc__law_late_rows.nd rfl (by first | exact Or.inl rfl | exact Or.inr rfl)) (fun _ _ _ _ _ => pts_nil) (fun _ _ _ _ _ => pe_callTy call_list_of (by rfl) W.b_list (by decide +kernel) (pa_cons (pv 5) (pa_nil)))) (pa_nil)))) (pa_nil))))) (pe_bl) (nomark _)) (pss_cons (ps_ret (pe_bl)) (pss_nil)) (pss_nil)) (pss_cons (ps_set (i := 6) sc__law_late_rows.nd rfl (by first | exact Or.inl rfl | exact Or.inr rfl) (pe_op op_rep (pe_lst (pa_cons (pe_int) (pa_nil))) (pe_op op_add (pv 1) (pe_int)))) (pss_cons (ps_ret (pe_cmpR op_isBl (pe_cal C_lets_ladder (hr.mono (by decide)) (by rfl) (pa_cons (pv 3) (pa_cons (pv 4) (pa_cons (pe_tup (pa_cons (pv 6) (pa_cons (pe_lc (own := [("_law_day_here", 7)]) (by rfl) sc__law_late_rows.nd (pi_range1 (by rfl) W.b_range (pa_cons (pv 1) (pa_nil))) (blkOk_by (own := [("_law_day_here", 7)]) (N := N__law_late_rows) (sc := defScope s__law_late_rows) (by decide +kernel)) (fun _ _ _ _ _ => pg_name (i := 7) sc__law_late_rows.nd rfl (by first | exact Or.inl rfl | exact Or.inr rfl)) (fun _ _ _ _ _ => pts_nil) (fun _ _ _ _ _ => pe_callTy call_list_of (by rfl) W.b_list (by decide +kernel) (pa_cons (pv 6) (pa_nil)))) (pa_nil)))) (pa_nil))))) (pe_bl) (nomark _))) (pss_nil)))))))
/-! law -/
abbrev N_law : List Str := ["_law_script", "_law_bakery_here", "_law_doughs_here", "_law_plan", "_law_ladder", "_law_free", "_law_longer_here", "_law_more"]
abbrev p_law : List Str := ["_law_script"]
theorem sc_law : FnScope N_law p_law (defScope s_law) := ⟨rfl, rfl, rfl, by decide +kernel, rfl, by decide +kernel, by decide +kernel⟩
def t_law (K : PySem.W.Frag) : TS := tSeq (tIfS (tNot (tB (tCall (sp__law_late_rows K) [] E0 (tCons (tCall (sp__law_numbers K) [] E0 (tCons (tCall (sp__law_cell_at K) [] E0 (tCons (tVar 0) (tCons (tC (.int 0)) (tNil)))) (tCons (tC (.int 6690)) (tCons (tOp rRep (tLst (tCons (tC (.int 420)) (tNil))) (tC (.int 2))) (tNil))))) (tNil))))) (tSeq (tRet (tC (.bl false))) (tNext)) (tNext)) (tSeq (tAsg (tCall (sp__law_bakery K) [] E0 (tCons (tVar 0) (tCons (tC (.int 5)) (tCons (tC (.int 6600)) (tNil))))) (gName 1)) (tSeq (tAsg (tCall (sp__law_doughs K) [] E0 (tCons (tVar 0) (tCons (tCB (rLenS K) (tCons (tOp (rIx K) (tVar 1) (tC (.int 0))) (tNil))) (tCons (tC (.int 6610)) (tNil))))) (gName 2)) (tSeq (tAsg (tCall (sp_cheapest_doughs K) [] E0 (tCons (tVar 1) (tCons (tVar 2) (tNil)))) (gTup K 2 (gCons (gName 3) (gCons (gName 4) (gNil))))) (tSeq (tIfS (tTest (tOp rNe (tCall (sp_dough_cost K) [] E0 (tCons (tVar 1) (tCons (tVar 2) (tCons (tVar 3) (tNil))))) (tCall (sp__law_least K) [] E0 (tCons (tVar 1) (tCons (tVar 2) (tNil)))))) (tSeq (tRet (tC (.bl false))) (tNext)) (tNext)) (tSeq (tAsg (tOp rRep (tLst (tCons (tTup (tCons (tC (.int 0)) (tCons (tC (.int 0)) (tCons (tC (.int 0)) (tNil))))) (tNil))) (tCB (rLenS K) (tCons (tVar 2) (tNil)))) (gName 5)) (tSeq (tIfS (tTest (tOp rNe (tCall (sp_dough_cost K) [] E0 (tCons (tVar 1) (tCons (tVar 5) (tCons (tOp (rIx K) (tCall (sp_cheapest_doughs K) [] E0 (tCons (tVar 1) (tCons (tVar 5) (tNil)))) (tC (.int 0))) (tNil))))) (tOp (rIx K) (tCall (sp_least_row K) [] E0 (tCons (tVar 1) (tNil))) (tUn rNegI (tC (.int 1)))))) (tSeq (tRet (tC (.bl false))) (tNext)) (tNext)) (tSeq (tAsg (tCall (sp__law_longer K) [] E0 (tCons (tVar 1) (tCons (tVar 2) (tCons (tC (.int 12)) (tNil))))) (gTup K 2 (gCons (gName 6) (gCons (gName 7) (gNil))))) (tSeq (tAsg (tCall (sp_cheapest_doughs K) [] E0 (tCons (tVar 6) (tCons (tVar 7) (tNil)))) (gTup K 2 (gCons (gName 3) (gCons (gName 4) (gNil))))) (tSeq (tIfS (tOr (tTest (tOp rNe (tCall (sp_dough_cost K) [] E0 (tCons (tVar 6) (tCons (tVar 7) (tCons (tVar 3) (tNil))))) (tOp (rIx K) (tOp (rIx K) (tVar 4) (tC (.int 0))) (tUn rNegI (tC (.int 1)))))) (tTest (tOp rNotB (tCall (sp_lets_ladder K) [] E0 (tCons (tVar 6) (tCons (tVar 7) (tCons (tVar 4) (tNil))))) (tC (.bl true))))) (tSeq (tRet (tC (.bl false))) (tNext)) (tNext)) (tSeq (tAsg (tCall (sp__law_longer K) [] E0 (tCons (tVar 1) (tCons (tVar 2) (tCons (tC (.int 13)) (tNil))))) (gTup K 2 (gCons (gName 6) (gCons (gName 7) (gNil))))) (tSeq (tIfS (tOr (tNot (tB (tCall (sp__law_too_many K) [] E0 (tCons (tVar 6) (tCons (tVar 7) (tNil)))))) (tOr (tNot (tB (tCall (sp__law_thirteen K) [] E0 (tCons (tVar 6) (tCons (tVar 7) (tNil)))))) (tNot (tB (tCall (sp__law_long_stretches K) [] E0 tNil))))) (tSeq (tRet (tC (.bl false))) (tNext)) (tNext)) (tSeq (tRet (tAndV (tCall (sp__law_no_doughs K) [] E0 (tCons (tVar 6) (tCons (tC .non) (tNil)))) (tCall (sp__law_no_doughs K) [] E0 (tCons (tVar 6) (tCons (tSl (rSlL K) (tVar 7) tNoPart (tPart (tUn rNegI (tC (.int 1))))) (tNil)))))) (tNext)))))))))))))
theorem der_law {P : Program} {w : World} {K : PySem.W.Frag} {mg : Str → Option Value} {base : Heap} (W : Wd K mg) (C__law_bakery : Cal P w K mg base CX0 2 "_law_bakery" p__law_bakery (sp__law_bakery K)) (C__law_cell_at : Cal P w K mg base CX0 1 "_law_cell_at" p__law_cell_at (sp__law_cell_at K)) (C__law_doughs : Cal P w K mg base CX0 2 "_law_doughs" p__law_doughs (sp__law_doughs K)) (C__law_late_rows : Cal P w K mg base CX0 11 "_law_late_rows" p__law_late_rows (sp__law_late_rows K)) (C__law_least : Cal P w K mg base CX0 4 "_law_least" p__law_least (sp__law_least K)) (C__law_long_stretches : Cal P w K mg base CX0 11 "_law_long_stretches" p__law_long_stretches (sp__law_long_stretches K)) (C__law_longer : Cal P w K mg base CX0 1 "_law_longer" p__law_longer (sp__law_longer K)) (C__law_no_doughs : Cal P w K mg base CX0 11 "_law_no_doughs" p__law_no_doughs (sp__law_no_doughs K)) (C__law_numbers : Cal P w K mg base CX0 1 "_law_numbers" p__law_numbers (sp__law_numbers K)) (C__law_thirteen : Cal P w K mg base CX0 11 "_law_thirteen" p__law_thirteen (sp__law_thirteen K)) (C__law_too_many : Cal P w K mg base CX0 11 "_law_too_many" p__law_too_many (sp__law_too_many K)) (C_cheapest_doughs : Cal P w K mg base (L2.CX P w) 10 "cheapest_doughs" p_cheapest_doughs (sp_cheapest_doughs K)) (C_dough_cost : Cal P w K mg base CX0 10 "dough_cost" p_dough_cost (sp_dough_cost K)) (C_least_row : Cal P w K mg base CX0 9 "least_row" p_least_row (sp_least_row K)) (C_lets_ladder : Cal P w K mg base CX0 10 "lets_ladder" p_lets_ladder (sp_lets_ladder K)) {f : Addr} {cdv : Value} {A : Around} {outer : List Env} {s : Shared} {H : Hp} {E : XK} (hr : Room 11 (A.deeper (envOfC "law" (defScope s_law) s.heap.objs.size f cdv))) :
    PSs (cxOf CX0 P w K mg base N_law "law" (defScope s_law) f cdv A outer s H E).nox (defBody s_law) (t_law K) :=
  pss_cons (ps_if (pt_not (pt_val (pe_cal C__law_late_rows (hr.mono (by decide)) (by rfl) (pa_cons (pe_cal C__law_numbers (hr.mono (by decide)) (by rfl) (pa_cons (pe_cal C__law_cell_at (hr.mono (by decide)) (by rfl) (pa_cons (pv 0) (pa_cons (pe_int) (pa_nil)))) (pa_cons (pe_int) (pa_cons (pe_op op_rep (pe_lst (pa_cons (pe_int) (pa_nil))) (pe_int)) (pa_nil))))) (pa_nil))))) (pss_cons (ps_ret (pe_bl)) (pss_nil)) (pss_nil)) (pss_cons (ps_set (i := 1) sc_law.nd rfl (by first | exact Or.inl rfl | exact Or.inr rfl) (pe_cal C__law_bakery (hr.mono (by decide)) (by rfl) (pa_cons (pv 0) (pa_cons (pe_int) (pa_cons (pe_int) (pa_nil)))))) (pss_cons (ps_set (i := 2) sc_law.nd rfl (by first | exact Or.inl rfl | exact Or.inr rfl) (pe_cal C__law_doughs (hr.mono (by decide)) (by rfl) (pa_cons (pv 0) (pa_cons (pe_callB call_len_seq (by rfl) W.b_len PySem.boot_len (pa_cons (pe_ix ix_seq (pv 1) (pe_int) (fun _ _ => rfl)) (pa_nil))) (pa_cons (pe_int) (pa_nil)))))) (pss_cons (ps_asg (pe_calX C_cheapest_doughs (hr.mono (by decide)) (by rfl) (pa_cons (pv 1) (pa_cons (pv 2) (pa_nil)))) (pg_tup (by rfl) (pgs_cons (pg_name (i := 3) sc_law.nd rfl (by first | exact Or.inl rfl | exact Or.inr rfl)) (pgs_cons (pg_name (i := 4) sc_law.nd rfl (by first | exact Or.inl rfl | exact Or.inr rfl)) (pgs_nil))))) (pss_cons (ps_if (pt_cmpR op_ne (pe_cal C_dough_cost (hr.mono (by decide)) (by rfl) (pa_cons (pv 1) (pa_cons (pv 2) (pa_cons (pv 3) (pa_nil))))) (pe_cal C__law_least (hr.mono (by decide)) (by rfl) (pa_cons (pv 1) (pa_cons (pv 2) (pa_nil)))) (nomark _)) (pss_cons (ps_ret (pe_bl)) (pss_nil)) (pss_nil)) (pss_cons (ps_set (i := 5) sc_law.nd rfl (by first | exact Or.inl rfl | exact Or.inr rfl) (pe_op op_rep (pe_lst (pa_cons (pe_tup (pa_cons (pe_int) (pa_cons (pe_int) (pa_cons (pe_int) (pa_nil))))) (pa_nil))) (pe_callB call_len_seq (by rfl) W.b_len PySem.boot_len (pa_cons (pv 2) (pa_nil))))) (pss_cons (ps_if (pt_cmpR op_ne (pe_cal C_dough_cost (hr.mono (by decide)) (by rfl) (pa_cons (pv 1) (pa_cons (pv 5) (pa_cons (pe_ix ix_seq (pe_calX C_cheapest_doughs (hr.mono (by decide)) (by rfl) (pa_cons (pv 1) (pa_cons (pv 5) (pa_nil)))) (pe_int) (fun _ _ => rfl)) (pa_nil))))) (pe_ix ix_seq (pe_cal C_least_row (hr.mono (by decide)) (by rfl) (pa_cons (pv 1) (pa_nil))) (pe_un un_neg (pe_int)) (fun _ _ => rfl)) (nomark _)) (pss_cons (ps_ret (pe_bl)) (pss_nil)) (pss_nil)) (pss_cons (ps_asg (pe_cal C__law_longer (hr.mono (by decide)) (by rfl) (pa_cons (pv 1) (pa_cons (pv 2) (pa_cons (pe_int) (pa_nil))))) (pg_tup (by rfl) (pgs_cons (pg_name (i := 6) sc_law.nd rfl (by first | exact Or.inl rfl | exact Or.inr rfl)) (pgs_cons (pg_name (i := 7) sc_law.nd rfl (by first | exact Or.inl rfl | exact Or.inr rfl)) (pgs_nil))))) (pss_cons (ps_asg (pe_calX C_cheapest_doughs (hr.mono (by decide)) (by rfl) (pa_cons (pv 6) (pa_cons (pv 7) (pa_nil)))) (pg_tup (by rfl) (pgs_cons (pg_name (i := 3) sc_law.nd rfl (by first | exact Or.inl rfl | exact Or.inr rfl)) (pgs_cons (pg_name (i := 4) sc_law.nd rfl (by first | exact Or.inl rfl | exact Or.inr rfl)) (pgs_nil))))) (pss_cons (ps_if (PW.pt (pw_or (pt_cmpR op_ne (pe_cal C_dough_cost (hr.mono (by decide)) (by rfl) (pa_cons (pv 6) (pa_cons (pv 7) (pa_cons (pv 3) (pa_nil))))) (pe_ix ix_seq (pe_ix ix_seq (pv 4) (pe_int) (fun _ _ => rfl)) (pe_un un_neg (pe_int)) (fun _ _ => rfl)) (nomark _)) (pw_or1 (pt_cmpR op_notBl (pe_cal C_lets_ladder (hr.mono (by decide)) (by rfl) (pa_cons (pv 6) (pa_cons (pv 7) (pa_cons (pv 4) (pa_nil))))) (pe_bl) (nomark _))))) (pss_cons (ps_ret (pe_bl)) (pss_nil)) (pss_nil)) (pss_cons (ps_asg (pe_cal C__law_longer (hr.mono (by decide)) (by rfl) (pa_cons (pv 1) (pa_cons (pv 2) (pa_cons (pe_int) (pa_nil))))) (pg_tup (by rfl) (pgs_cons (pg_name (i := 6) sc_law.nd rfl (by first | exact Or.inl rfl | exact Or.inr rfl)) (pgs_cons (pg_name (i := 7) sc_law.nd rfl (by first | exact Or.inl rfl | exact Or.inr rfl)) (pgs_nil))))) (pss_cons (ps_if (PW.pt (pw_or (pt_not (pt_val (pe_cal C__law_too_many (hr.mono (by decide)) (by rfl) (pa_cons (pv 6) (pa_cons (pv 7) (pa_nil)))))) (pw_or (pt_not (pt_val (pe_cal C__law_thirteen (hr.mono (by decide)) (by rfl) (pa_cons (pv 6) (pa_cons (pv 7) (pa_nil)))))) (pw_or1 (pt_not (pt_val (pe_cal0 C__law_long_stretches (hr.mono (by decide)) (by rfl)))))))) (pss_cons (ps_ret (pe_bl)) (pss_nil)) (pss_nil)) (pss_cons (ps_ret (pe_and (pe_cal C__law_no_doughs (hr.mono (by decide)) (by rfl) (pa_cons (pv 6) (pa_cons (pe_non) (pa_nil)))) (pe_one (pe_cal C__law_no_doughs (hr.mono (by decide)) (by rfl) (pa_cons (pv 6) (pa_cons (pe_slice sl_list (pv 7) po_none (po_some (pe_un un_neg (pe_int)))) (pa_nil))))))) (pss_nil)))))))))))))
end K66

/-! ## R22 -/
set_option maxHeartbeats 4000000
namespace K66
open PySem PySem.Spec PyProof.Rows L2
section
variable {b : Bk} {g : List Dg}
theorem cost_nn (hok : b.ok) (hgok : DgOk b g) {r s d : Nat} {y : Int} (h : b.cost g r s d = some y) : 0 ≤ y := by
  unfold Bk.cost at h
  by_cases hw : b.want d = 0
  · rw [if_pos hw] at h; injection h with h; omega
  · rw [if_neg hw] at h
    cases hp : b.price s d with
    | none => rw [hp] at h; cases h
    | some p =>
      rw [hp] at h
      have h' : some (b.want d * p + b.want d * each g r s) = some y := h
      injection h' with h'
      have hwn := want_nn hok d
      have hl : 0 ≤ b.loaf s := (row_ok hok s).2.1.1
      have hpn : 0 ≤ p := by
        by_cases c : s ≤ d
        · obtain ⟨_, rfl⟩ := (price_ahead c).mp hp
          have := sumF_nonneg (keep_nn hok) s d
          omega
        · obtain ⟨_, rfl⟩ := (price_late (show d < s by omega)).mp hp
          have := sumF_nonneg (fineV_nn hok) d s
          omega
      have hen : 0 ≤ each g r s := by
        unfold each
        have := (gd_ok hgok r).2.1.1
        have := sumF_nonneg (hold_nn hgok) r s
        omega
      have := Int.mul_nonneg hwn hpn
      have := Int.mul_nonneg hwn hen
      omega
theorem csum_nn (hok : b.ok) (hgok : DgOk b g) {r s a : Nat} : ∀ {m : Nat} {y : Int}, csum (b.cost g r s) a m = some y → 0 ≤ y
  | 0, y, h => by injection h with h; omega
  | m + 1, y, h => by
    obtain ⟨u, v, h1, h2, rfl⟩ := csum_inv h
    have := csum_nn hok hgok h1
    have := cost_nn hok hgok h2
    omega
theorem rep0 {n i : Nat} : at0 (List.replicate n 0) i = 0 := by
  unfold at0
  rw [List.getD_eq_getElem?_getD, List.getElem?_replicate]
  split <;> rfl
/-- a ladder of noughts -/
theorem let_zero (hok : b.ok) (hgok : DgOk b g) : LetP b g (List.replicate (b.n + 1) 0) ((List.range b.n).map fun _ => List.replicate (b.n + 1) 0) := by
  have row : ∀ r, r < b.n → (((List.range b.n).map fun _ => List.replicate (b.n + 1) (0 : Int)).getD r []) = List.replicate (b.n + 1) 0 := fun r hr => by rw [List.getD_eq_getElem?_getD, range_at hr]; rfl
  refine ⟨fun j _ _ => by rw [rep0, rep0]; exact Int.le_refl 0, fun r hr => ?_⟩
  rw [row r hr]
  refine ⟨fun j _ => ?_, fun j _ _ => by rw [rep0, rep0]; exact Int.le_refl 0, fun s _ _ a m y _ _ hy => ?_⟩
  · rw [rep0]
    have := mix_nn hgok r
    omega
  · rw [rep0, rep0]
    have := csum_nn hok hgok hy
    have := light_nn hok s
    omega
theorem own_price (hok : b.ok) (d : Nat) : b.price d d = some (b.loaf d + sumF b.keep d d) := (price_ahead (Nat.le_refl d)).mpr ⟨by
  unfold tooLong
  rw [Nat.sub_self]
  cases e : b.life with
  | none => rfl
  | some L' => exact decide_eq_false (by have := (hok.lifeOk L' e).1; show ¬ L' < ((0 : Nat) : Int); omega), rfl⟩
theorem own_cost (hok : b.ok) {d : Nat} (hw : b.want d ≠ 0) : b.cost g d d d = some (b.want d * b.loaf d + b.want d * (gd g d).dough) := by
  unfold Bk.cost
  rw [if_neg hw, own_price hok]
  unfold each
  rw [sumF_self, sumF_self, Int.add_zero, Int.add_zero]; rfl
/-- one whose last numbers are far too high -/
theorem not_high (hok : b.ok) (hgok : DgOk b g) (k : Nat) (hk : b.n = k + 1) {M : List (List Int)} {X : Int} (hX : 3000000000000000000 < X) (hM : ∀ r, r < b.n → M.getD r [] = List.replicate b.n 0 ++ [X]) : ¬ LetP b g (List.replicate b.n 0 ++ [X]) M := by
  rintro ⟨h1, h2⟩
  have a1 : at0 (List.replicate b.n 0 ++ [X]) (k + 1) = X := getD_end (by rw [List.length_replicate]; omega)
  have a0 : at0 (List.replicate b.n 0 ++ [X]) k = 0 := by
    show (List.replicate b.n 0 ++ [X]).getD k 0 = 0
    rw [getD_app (by rw [List.length_replicate]; omega)]; exact rep0
  by_cases hw : b.want k = 0
  · have := h1 k (by omega) hw
    rw [a1, a0] at this
    omega
  · have hh := (h2 k (by omega)).2.2 k (Nat.le_refl k) (by omega) k 1 (0 + (b.want k * b.loaf k + b.want k * (gd g k).dough)) (by decide) (by omega) (csum_succ (x := 0) rfl (own_cost hok hw))
    rw [hM k (by omega)] at hh
    rw [a1, a0] at hh
    have l := (light_num hok k).2
    have w := (row_ok hok k).1
    have f := (row_ok hok k).2.1
    have d := (gd_ok hgok k).2.1
    have m1 : b.want k * b.loaf k ≤ 1000000000 * 1000000000 := Int.mul_le_mul w.2 f.2 f.1 (by decide)
    have m2 : b.want k * (gd g k).dough ≤ 1000000000 * 1000000000 := Int.mul_le_mul w.2 d.2 d.1 (by decide)
    unfold MOST at l
    omega
end
section
variable {K : PySem.W.Frag} {σ : L2.St} {H H' : Hp} {ta tb tc te : TE} {v : V} {vs : List V} {Q : VK} {E : XK}
theorem lad_of {n : Nat} {F : List Int} {M : Nat → List Int} {p pf pm : Addr} {ms : List V} {H1 : Hp} (hp : H p = some (.tup [.ref pf, .ref pm])) (hf : H pf = some (.lst (F.map V.int))) (hm : H pm = some (.lst ms)) (hl : ms.length = n) (hi : ∀ i y, ms[i]? = some y → NewL ((M i).map V.int) H1 y H) : LadAt H p F ((List.range n).map M) :=
  ⟨pf, pm, ms, hp, hf, hm, by rw [hl, List.length_map, List.length_range], fun i w hw => by
    obtain ⟨q, rfl, _, hq⟩ := hi i w hw
    have hin : i < n := by rw [← hl]; exact (List.getElem?_eq_some_iff.mp hw).1
    exact ⟨q, rfl, by rw [hq, List.getD_eq_getElem?_getD, range_at hin]; rfl⟩⟩
theorem lad_ok_of {b : Bk} {n : Nat} (hn : b.n = n) {F : List Int} {M : Nat → List Int} (hF : F.length = n + 1) (h0 : at0 F 0 = 0) (hM : ∀ r, (M r).length = n + 1) : LadOk b F ((List.range n).map M) :=
  ⟨by omega, h0, by rw [List.length_map, List.length_range, hn], fun xs hx => by obtain ⟨r, _, rfl⟩ := List.mem_map.mp hx; rw [hM, hn]⟩
theorem ev_lets {pb pd p : Addr} {b : Bk} {g : List Dg} {F : List Int} {M : List (List Int)} (hb : BkAt H pb b) (hok : b.ok) (hg : DgsAt H pd g) (hgok : DgOk b g) (hl : LadAt H p F M) (hlo : LadOk b F M) (ha : Ev ta σ H (Is (.ref pb))) (hb' : Ev tb σ H (Is (.ref pd))) (hc : Ev tc σ H (Is (.ref p))) :
    Ev (tCall (sp_lets_ladder K) [] E0 (tCons ta (tCons tb (tCons tc tNil)))) σ H (Is (.bl (dec (LetP b g F M)))) := ev_call (ex_cons ha (ex_cons hb' (ex_cons hc ex_nil))) ⟨pb, b, pd, g, p, F, M, rfl, hb, hok, hg, hgok, hl, hlo, rfl⟩
theorem rd__law_thirteen (h : sp__law_thirteen K vs H Q E) : t__law_thirteen K (DD Q) (start N__law_thirteen vs) H := by
  obtain ⟨H0, P, e0, ⟨pb, b, pd, g, rfl, hb, hok, hg, hgok, hn, rfl⟩, k⟩ := h
  have hb := hb.up e0
  have hg := hg.up e0
  have zeros : ∀ {σ : L2.St} {H : Hp}, Ev (tOp rRep (tLst (tCons (tC (.int 0)) tNil)) (tC (.int 14))) σ H (NewL ((List.replicate 14 (0 : Int)).map V.int)) := ev_repN (xs := [.int 0]) (k := 14) (ev_lst (ex_cons ev_c ex_nil) (by show 1 ≤ 100000; decide)) ev_c (by decide) (by show 14 ≤ sizeLine; decide)
  refine Sx.at (x_asg (P := NewTA [NewL ((List.replicate 14 (0 : Int)).map V.int), NewLs 13 fun _ => NewL ((List.replicate 14 (0 : Int)).map V.int)]) (ev_tupA (ea_cons zeros (ea_cons (ev_lc (Yt := fun i x _ => x = .int (i : Int)) (ei_rng1 (n := 13) (ex_cons ev_c ex_nil) (by decide)) (by decide) fun i x H1 e hi hx => ⟨_, eg_name, rfl, zeros⟩) ea_nil)) (by show 2 ≤ 100000; decide)) fun v H1 e1 pp => ?_)
  obtain ⟨p, us, rfl, _, hp, pa⟩ := pp
  cases pa with
  | cons a1 pa => cases pa with
    | cons a2 pa =>
      cases pa
      obtain ⟨pf, rfl, _, hf⟩ := a1
      obtain ⟨pm, ms, rfl, _, hm, hml, hmi⟩ := a2
      have lad : LadAt H1 p (List.replicate (b.n + 1) 0) ((List.range b.n).map fun _ => List.replicate (b.n + 1) 0) := by rw [hn]; exact lad_of hp hf hm hml hmi
      have lok : LadOk b (List.replicate (b.n + 1) 0) ((List.range b.n).map fun _ => List.replicate (b.n + 1) (0 : Int)) := lad_ok_of rfl List.length_replicate rep0 fun _ => List.length_replicate
      refine x_pass (EvT.eq (et_test (ev_notB (Ev.eq (ev_lets (hb.up e1) hok (hg.up e1) hgok lad lok (ev_var rfl) (ev_var rfl) (ev_var rfl)) (by rw [dec_t (let_zero hok hgok)])) ev_c)) rfl) rfl ?_
      have high : ∀ {σ : L2.St} {H : Hp}, Ev (tOp rCat (tOp rRep (tLst (tCons (tC (.int 0)) tNil)) (tC (.int 13))) (tLst (tCons (tOp rPowI (tC (.int 10)) (tC (.int 30))) tNil))) σ H (NewL ((List.replicate 13 (0 : Int) ++ [1000000000000000000000000000000]).map V.int)) :=
        ev_catN (xs := (List.replicate 13 (0 : Int)).map V.int) (ys := [.int 1000000000000000000000000000000]) (ev_repN (xs := [.int 0]) (k := 13) (ev_lst (ex_cons ev_c ex_nil) (by show 1 ≤ 100000; decide)) ev_c (by decide) (by show 13 ≤ sizeLine; decide)) (ev_lst (ex_cons (Ev.eq (ev_I ev_c ev_c ⟨by decide, by decide, by decide⟩) (by rfl)) ex_nil) (by show 1 ≤ 100000; decide)) (by decide)
      refine x_asg (P := NewTA [NewL ((List.replicate 13 (0 : Int) ++ [1000000000000000000000000000000]).map V.int), NewLs 13 fun _ => NewL ((List.replicate 13 (0 : Int) ++ [1000000000000000000000000000000]).map V.int)]) (ev_tupA (ea_cons high (ea_cons (ev_lc (Yt := fun i x _ => x = .int (i : Int)) (ei_rng1 (n := 13) (ex_cons ev_c ex_nil) (by decide)) (by decide) fun i x H1 e hi hx => ⟨_, eg_name, rfl, high⟩) ea_nil)) (by show 2 ≤ 100000; decide)) fun v H2 e2 pp => ?_
      obtain ⟨p2, us2, rfl, _, hp2, pa2⟩ := pp
      cases pa2 with
      | cons c1 pa2 => cases pa2 with
        | cons c2 pa2 =>
          cases pa2
          obtain ⟨pf2, rfl, _, hf2⟩ := c1
          obtain ⟨pm2, ms2, rfl, _, hm2, hml2, hmi2⟩ := c2
          have lad2 : LadAt H2 p2 (List.replicate b.n 0 ++ [1000000000000000000000000000000]) ((List.range b.n).map fun _ => List.replicate b.n 0 ++ [1000000000000000000000000000000]) := by rw [hn]; exact lad_of hp2 hf2 hm2 hml2 hmi2
          have len2 : ((List.replicate b.n (0 : Int)) ++ [1000000000000000000000000000000]).length = b.n + 1 := by rw [List.length_append, List.length_replicate]; rfl
          have lok2 : LadOk b (List.replicate b.n 0 ++ [1000000000000000000000000000000]) ((List.range b.n).map fun _ => List.replicate b.n (0 : Int) ++ [1000000000000000000000000000000]) := lad_ok_of rfl len2 ((getD_app (by rw [List.length_replicate]; omega)).trans rep0) fun _ => len2
          have no := not_high (g := g) hok hgok 12 hn (M := (List.range b.n).map fun _ => List.replicate b.n 0 ++ [1000000000000000000000000000000]) (X := 1000000000000000000000000000000) (by decide) fun r hr => by rw [List.getD_eq_getElem?_getD, range_at hr]; rfl
          exact x_retV (.bl true) (Ev.eq (ev_isB (Ev.eq (ev_lets (hb.up (e1.trans e2)) hok (hg.up (e1.trans e2)) hgok lad2 lok2 (ev_var rfl) (ev_var rfl) (ev_var rfl)) (by rw [dec_f no])) ev_c) rfl) fun H3 e3 => k _ H3 ((e1.trans e2).trans e3) rfl
end
end K66

/-! ## R23 -/
set_option maxHeartbeats 4000000
namespace K66
open PySem PySem.Spec PyProof.Rows L2
/-- so many of one new tuple -/
def RepP (k : Nat) (us : List V) : PP := fun H1 v H2 => ∃ p t, v = .ref p ∧ H1 p = none ∧ H2 p = some (.lst (List.replicate k (.ref t))) ∧ H1 t = none ∧ H2 t = some (.tup us)
instance {k : Nat} {us : List V} : FP (RepP k us) := ⟨fun ⟨p, t, h1, h2, h3, h4, h5⟩ d f => ⟨p, t, h1, d p h2, f p _ h2 h3, d t h4, f t _ h4 h5⟩⟩
def RepQ (k : Nat) (us ws : List V) : PP := fun H1 v H2 => ∃ p t t', v = .ref p ∧ H1 p = none ∧ H2 p = some (.lst (List.replicate k (.ref t) ++ [.ref t'])) ∧ H1 t = none ∧ H2 t = some (.tup us) ∧ H1 t' = none ∧ H2 t' = some (.tup ws)
instance {k : Nat} {us ws : List V} : FP (RepQ k us ws) := ⟨fun ⟨p, t, t', h1, h2, h3, h4, h5, h6, h7⟩ d f => ⟨p, t, t', h1, d p h2, f p _ h2 h3, d t h4, f t _ h4 h5, d t' h6, f t' _ h6 h7⟩⟩
theorem flat1 {α : Type} (x : α) : ∀ k, (List.replicate k [x]).flatten = List.replicate k x
  | 0 => rfl
  | k + 1 => by rw [List.replicate_succ, List.flatten_cons, flat1 x k]; rfl
section
variable {K : PySem.W.Frag} {σ : L2.St} {H H' : Hp} {ta tb tc te : TE} {v : V} {vs : List V} {Q : VK} {E : XK}
theorem ev_opFF {r : R2} {P Pa Pb : PP} [UP Pa] [FP Pb] [UP P] (ha : Ev ta σ H Pa) (hb : Ev tb σ H Pb) (hr : ∀ H1 v w H2, Ex H H1 → Ex H1 H2 → Pa H1 v H2 → Pb H1 w H2 → ∀ Q : VK, (∀ z H3, Ex H2 H3 → P H1 z H3 → Q z H3) → r v w H2 Q) : Ev (tOp r ta tb) σ H P := fun H1 e Q q =>
  ha H1 e _ fun v H2 e2 hv => hb H2 (e.trans e2) _ fun w H3 e3 hw => hr H1 v w H3 e (e2.trans e3) (UP.up hv e3) (FP.dn hw e2) Q fun v H4 e4 p => q v H4 ((e2.trans e3).trans e4) p
theorem ev_repA {us : List V} {k : Nat} (ha : Ev ta σ H (NewLA [NewT us])) (hb : Ev tb σ H (Is (.int (k : Int)))) (hk : k ≤ 1000) : Ev (tOp rRep ta tb) σ H (RepP k us) :=
  ev_opF (x := .non) ha hb fun H1 v H2 _ e2 pp Q q => by
    obtain ⟨p, xs, rfl, _, hp, pa⟩ := pp
    cases pa with
    | cons a1 pa =>
      cases pa
      obtain ⟨t, rfl, ht0, ht⟩ := a1
      refine ⟨p, (k : Int), [.ref t], rfl, rfl, hp, by omega, by omega, by rw [Int.toNat_natCast]; exact Nat.le_trans (show 1 * k ≤ 1000 by omega) (by decide), fun l hl => q _ _ (Ex.new hl) ⟨l, t, rfl, e2.back hl, ?_, ht0, Ex.new hl _ _ ht⟩⟩
      rw [upd_same, Int.toNat_natCast, flat1]
theorem ev_catQ {us ws : List V} {k : Nat} (ha : Ev ta σ H (RepP k us)) (hb : Ev tb σ H (NewLA [NewT ws])) (hk : k ≤ 1000) : Ev (tOp rCat ta tb) σ H (RepQ k us ws) :=
  ev_opFF ha hb fun H1 v w H2 _ e2 pp pq Q q => by
    obtain ⟨p, t, rfl, _, hp, ht0, ht⟩ := pp
    obtain ⟨p', xs, rfl, _, hp', pa⟩ := pq
    cases pa with
    | cons a1 pa =>
      cases pa
      obtain ⟨t', rfl, ht0', ht'⟩ := a1
      exact ⟨p, p', _, _, rfl, rfl, hp, hp', by rw [List.length_replicate]; exact Nat.le_trans (show k + 1 ≤ 1001 by omega) (by decide), fun l hl => q _ _ (Ex.new hl) ⟨l, t, t', rfl, e2.back hl, upd_same, ht0, Ex.new hl _ _ ht, ht0', Ex.new hl _ _ ht'⟩⟩
theorem ev_rep0 {k : Nat} {i : Int} (hk : k ≤ 1000) (hb : Ev tb σ H (Is (.int (k : Int)))) (ha : Ev te σ H (Is (.int i))) : Ev (tOp rRep (tLst (tCons te tNil)) tb) σ H (NewL ((List.replicate k i).map V.int)) := by
  have h := ev_repN (xs := [.int i]) (k := (k : Int)) (ev_lst (ex_cons ha ex_nil) (by show 1 ≤ 100000; decide)) hb (by omega) (by rw [Int.toNat_natCast]; exact Nat.le_trans (show 1 * k ≤ 1000 by omega) (by decide))
  rw [Int.toNat_natCast, flat1] at h
  rw [List.map_replicate]
  exact h
theorem two_rep {α : Type} {R : V → α → Prop} {d : α} {x : V} {y : α} (h : R x y) (k : Nat) : Two R d (List.replicate k x) (List.replicate k y) :=
  ⟨by rw [List.length_replicate, List.length_replicate], fun i v hv => by
    rw [List.getElem?_replicate] at hv
    by_cases c : i < k
    · rw [if_pos c] at hv
      obtain rfl := Option.some.inj hv
      rw [List.getD_eq_getElem?_getD, List.getElem?_replicate, if_pos c]
      exact h
    · rw [if_neg c] at hv; cases hv⟩
end
end K66

/-! ## R24 -/
set_option maxHeartbeats 4000000
namespace K66
open PySem PySem.Spec PyProof.Rows L2
/-! twelve like days -/
def b12 : Bk := ⟨List.replicate 12 1000000, List.replicate 12 ⟨1, 0, 0, none⟩, none⟩
def g12 : List Dg := List.replicate 12 ⟨0, 0, 0⟩
def F12 (m : Nat) : List Int := 0 :: (List.range 12).map fun (d : Nat) => 1000000 * (1 + (d : Int) / (m : Int))
theorem b12_ok : b12.ok := ⟨by decide, by decide, rfl, fun x hx => by rw [List.eq_of_mem_replicate hx]; exact ⟨by decide, by decide⟩, fun r hr => by rw [List.eq_of_mem_replicate hr]; exact ⟨⟨by decide, by decide⟩, ⟨by decide, by decide⟩, ⟨by decide, by decide⟩, fun f hf => by cases hf⟩, fun L hL => by cases hL⟩
theorem g12_ok : DgOk b12 g12 := ⟨rfl, fun d hd => by rw [List.eq_of_mem_replicate hd]; exact ⟨⟨by decide, by decide⟩, ⟨by decide, by decide⟩, ⟨by decide, by decide⟩⟩⟩
theorem b12_n : b12.n = 12 := rfl
theorem b12_want {j : Nat} (h : j < 12) : b12.want j = 1 := by
  show ((List.replicate 12 (⟨1, 0, 0, none⟩ : Row)).getD j row0).want = 1
  rw [List.getD_eq_getElem?_getD, List.getElem?_replicate, if_pos h]; rfl
theorem b12_light {j : Nat} (h : j < 12) : b12.light j = 1000000 := by
  show (List.replicate 12 (1000000 : Int)).getD j 0 = 1000000
  rw [List.getD_eq_getElem?_getD, List.getElem?_replicate, if_pos h]; rfl
theorem F12_len {m : Nat} : (F12 m).length = 13 := by unfold F12; rw [List.length_cons, List.length_map, List.length_range]
theorem F12_at {m j : Nat} (h : j < 12) : at0 (F12 m) (j + 1) = 1000000 * (1 + (j : Int) / (m : Int)) := by
  unfold F12 at0
  rw [List.getD_eq_getElem?_getD, List.getElem?_cons_succ, range_at h]; rfl
theorem stretch {m : Nat} (h1 : 1 ≤ m) (h2 : m ≤ 12) : LetP b12 g12 (F12 m) ((List.range 12).map fun _ => F12 m) ↔ m = 12 := by
  have row : ∀ r, r < 12 → ((List.range 12).map fun _ => F12 m).getD r [] = F12 m := fun r hr => by rw [List.getD_eq_getElem?_getD, range_at hr]; rfl
  constructor
  · rintro ⟨_, h⟩
    apply Classical.byContradiction
    intro hne
    have hc := (h 0 (by decide)).2.2 0 (Nat.le_refl 0) (by decide) 0 12 0 (by decide) (by decide) (by decide +kernel)
    rw [row 0 (by decide)] at hc
    have e0 : at0 (F12 m) 0 = 0 := rfl
    rw [show (0 : Nat) + 12 = 11 + 1 from rfl, F12_at (by decide), e0, b12_light (by decide)] at hc
    have : m = 1 ∨ m = 2 ∨ m = 3 ∨ m = 4 ∨ m = 5 ∨ m = 6 ∨ m = 7 ∨ m = 8 ∨ m = 9 ∨ m = 10 ∨ m = 11 := by omega
    rcases this with rfl | rfl | rfl | rfl | rfl | rfl | rfl | rfl | rfl | rfl | rfl <;> exact absurd hc (by decide)
  · rintro rfl
    have val : ∀ j, j < 12 → at0 (F12 12) (j + 1) = 1000000 := fun j hj => by
      rw [F12_at hj]
      have : (j : Int) / ((12 : Nat) : Int) = 0 := Int.ediv_eq_zero_of_lt (by omega) (by omega)
      rw [this]; rfl
    have bnd : ∀ j, j ≤ 12 → 0 ≤ at0 (F12 12) j := fun j hj => by
      cases j with
      | zero => exact Int.le_refl 0
      | succ j => rw [val j (by omega)]; decide
    have noRest : RestsP b12 (F12 12) := fun j hj hw => by rw [b12_want hj] at hw; cases hw
    refine ⟨noRest, fun r hr => ?_⟩
    rw [row r hr]
    refine ⟨fun j hj => ⟨Int.le_refl _, by have := mix_nn g12_ok r; omega⟩, noRest, fun s hs1 hs2 a m y hm ham hy => ?_⟩
    have hyn := csum_nn b12_ok g12_ok hy
    rw [b12_light hs2]
    have ha := bnd a (by have : b12.n = 12 := rfl; omega)
    have e : a + m = (a + m - 1) + 1 := by omega
    rw [e, val (a + m - 1) (by have : b12.n = 12 := rfl; omega)]
    omega
section
variable {K : PySem.W.Frag} {σ : L2.St} {H H' : Hp} {ta tb tc te : TE} {v : V} {vs : List V} {Q : VK} {E : XK}
theorem ev_nat {k : Nat} {i : Int} (h : i = (k : Int)) : Ev (tC (.int i)) σ H (Is (.int (k : Int))) := by rw [← h]; exact ev_c
/-- a bakery and its doughs, laid out of what was new -/
theorem bk_at {p G DD' pl gg : Addr} {b : Bk} {ws : List V} (hT : H p = some (.tup [.ref pl, .non, .ref G])) (hl : H pl = some (.lst (b.lights.map V.int))) (hG : H G = some (.lst [.ref DD'])) (hD : H DD' = some (.tup [.ref gg, vO b.life])) (hg : H gg = some (.lst ws)) (two : Two (RowAt H) row0 ws b.rows) : BkAt H p b :=
  ⟨pl, G, DD', hT, hl, hG, gg, hD, ws, hg, two.1, two.2⟩
theorem rd__law_long_stretches (h : sp__law_long_stretches K vs H Q E) : t__law_long_stretches K (DD Q) (start N__law_long_stretches vs) H := by
  obtain ⟨H0, P, e0, ⟨rfl, rfl⟩, k⟩ := h
  refine Sx.at (x_asg (P := NewTA [NewL ((List.replicate 12 (1000000 : Int)).map V.int), Is .non, NewLA [NewTA [RepP 12 [.int 1, .int 0, .int 0, .non], Is .non]]]) (ev_tupA (ea_cons (ev_rep0 (k := 12) (by decide) (ev_nat rfl) (Ev.eq (ev_I ev_c ev_c ⟨by decide, by decide, by decide⟩) (by rfl))) (ea_cons ev_c (ea_cons (ev_lstA (ea_cons (ev_tupA (ea_cons (ev_repA (k := 12) (ev_lstA (ea_cons (ev_tup (ex_cons ev_c (ex_cons ev_c (ex_cons ev_c (ex_cons ev_c ex_nil)))) (by show 4 ≤ 100000; decide)) ea_nil) (by show 1 ≤ 100000; decide)) (ev_nat rfl) (by decide)) (ea_cons ev_c ea_nil)) (by show 2 ≤ 100000; decide)) ea_nil) (by show 1 ≤ 100000; decide)) ea_nil))) (by show 3 ≤ 100000; decide)) fun v H1 e1 pp => ?_)
  obtain ⟨pb, us, rfl, _, hT, pa⟩ := pp
  cases pa with
  | cons a1 pa => cases pa with
    | cons a2 pa => cases pa with
      | cons a3 pa =>
        cases pa
        obtain ⟨pl, rfl, _, hl⟩ := a1
        have z2 : _ = V.non := a2
        subst z2
        obtain ⟨G, us2, rfl, _, hG, pb'⟩ := a3
        cases pb' with
        | cons c1 pb' =>
          cases pb'
          obtain ⟨D', us3, rfl, _, hD, pc⟩ := c1
          cases pc with
          | cons d1 pc => cases pc with
            | cons d2 pc =>
              cases pc
              obtain ⟨gg, t, rfl, _, hgg, _, ht⟩ := d1
              have z4 : _ = V.non := d2
              subst z4
              have hb1 : BkAt H1 pb b12 := bk_at hT hl hG hD hgg (two_rep ⟨t, rfl, ht⟩ 12)
              refine x_asg (P := RepP 12 [.int 0, .int 0, .int 0]) (ev_repA (k := 12) (ev_lstA (ea_cons (ev_tup (ex_cons ev_c (ex_cons ev_c (ex_cons ev_c ex_nil))) (by show 3 ≤ 100000; decide)) ea_nil) (by show 1 ≤ 100000; decide)) (ev_nat rfl) (by decide)) fun v H2 e2 pp => ?_
              obtain ⟨pd, t2, rfl, _, hpd, _, ht2⟩ := pp
              have hb2 := hb1.up e2
              have hg2 : DgsAt H2 pd g12 := ⟨_, hpd, (two_rep (R := DgAt H2) (d := dg0) (y := (⟨0, 0, 0⟩ : Dg)) ⟨t2, rfl, ht2⟩ 12).1, (two_rep (R := DgAt H2) (d := dg0) (y := (⟨0, 0, 0⟩ : Dg)) ⟨t2, rfl, ht2⟩ 12).2⟩
              have e12 := e1.trans e2
              refine x_forR2 (lo := 1) (hi := 13) (ex_cons ev_c (ex_cons ev_c ex_nil)) (by decide) (fun i σ' H' => Ex H2 H' ∧ ∃ o2 o3 o4 : Option V, σ' = [some (.ref pb), some (.ref pd), o2, o3, o4, none]) (fun H3 e3 => ⟨e3, none, none, none, rfl⟩) (fun i σ' H' hi ⟨w1, o2, o3, o4, es⟩ => ?_) fun σ' H' ⟨w1, o2, o3, o4, es⟩ => ?_
              · subst es
                have ei : (1 : Int) + (i : Int) = ((1 + i : Nat) : Int) := by omega
                rw [ei]
                generalize hm : 1 + i = m
                have hm1 : 1 ≤ m := by omega
                have hm2 : m ≤ 12 := by omega
                refine x_asg (P := NewL ((F12 m).map V.int)) ?_ fun v H3 e3 pp => ?_
                · refine ev_catN (xs := [.int 0]) (ys := (List.range 12).map fun (d : Nat) => V.int (1000000 * (1 + (d : Int) / (m : Int)))) (ev_lst (ex_cons ev_c ex_nil) (by show 1 ≤ 100000; decide)) (ev_lcX (Yt := fun i x _ => x = .int (i : Int)) (by rw [List.length_map, List.length_range]; exact ei_rng1 (n := 12) (ex_cons ev_c ex_nil) (by decide)) (by rw [List.length_map, List.length_range]; decide) fun j x H3 e3 hj hx => ?_) (by rw [List.length_map, List.length_range]; decide)
                  subst hx
                  refine ⟨_, eg_name, rfl, fun y hy => ?_⟩
                  obtain ⟨_, rfl⟩ := range_get hy
                  exact Ev.eq (ev_I (i := 1000000) (j := 1 + (j : Int) / (m : Int)) (Ev.eq (ev_I ev_c ev_c ⟨by decide, by decide, by decide⟩) (by rfl)) (ev_I0 ev_c (ev_I (C := CDiv) (ev_var rfl) (ev_var rfl) ⟨by omega, by omega⟩)) (.inl ⟨by decide, by decide⟩)) rfl
                · obtain ⟨q, rfl, _, hq⟩ := pp
                  refine x_asg (P := NewTA [Is (.ref q), NewLs 12 fun _ => NewL ((F12 m).map V.int)]) (ev_tupA (ea_cons (ev_var rfl) (ea_cons (ev_lc (Yt := fun i x _ => x = .int (i : Int)) (ei_rng1 (n := 12) (ex_cons ev_c ex_nil) (by decide)) (by decide) fun i x H4 e4 hi hx => ⟨_, eg_name, rfl, ev_list (e4 _ _ hq) (ev_var rfl)⟩) ea_nil)) (by show 2 ≤ 100000; decide)) fun v H4 e4 pp => ?_
                  obtain ⟨p, us5, rfl, _, hp, pa⟩ := pp
                  cases pa with
                  | cons a1 pa => cases pa with
                    | cons a2 pa =>
                      cases pa
                      have z5 : _ = V.ref q := a1
                      subst z5
                      obtain ⟨pm, ms, rfl, _, hm', hml, hmi⟩ := a2
                      have lad : LadAt H4 p (F12 m) ((List.range 12).map fun _ => F12 m) := lad_of hp (e4 _ _ hq) hm' hml hmi
                      have lok : LadOk b12 (F12 m) ((List.range 12).map fun _ => F12 m) := lad_ok_of (n := 12) rfl F12_len rfl fun _ => F12_len
                      have e24 := (w1.trans e3).trans e4
                      have hdec : dec (LetP b12 g12 (F12 m) ((List.range 12).map fun _ => F12 m)) = decide (V.int (m : Int) = V.int 12) := by
                        by_cases c : m = 12
                        · rw [dec_t ((stretch hm1 hm2).mpr c), c]; rfl
                        · rw [dec_f fun h => c ((stretch hm1 hm2).mp h)]
                          exact (decide_eq_false fun z => c (by injection z with z; omega)).symm
                      exact x_pass (EvT.eq (et_test (ev_ne (Ev.eq (ev_lets (hb2.up e24) b12_ok (hg2.up e24) g12_ok lad lok (ev_var rfl) (ev_var rfl) (ev_var rfl)) (by rw [hdec])) (ev_eq (ev_var rfl) ev_c eqI) rfl)) (by rw [decide_eq_true rfl]; rfl)) rfl (x_next fun H5 e5 => ⟨e24.trans e5, _, _, _, rfl⟩)
              · subst es
                exact x_retV (.bl true) ev_c fun H3 e3 => k _ H3 ((e12.trans w1).trans e3) rfl
end
end K66

/-! ## R25 -/
set_option maxHeartbeats 4000000
namespace K66
open PySem PySem.Spec PyProof.Rows L2
/-! a want on the last day alone -/
def bL (k : Nat) : Bk := ⟨List.replicate (k + 1) 0, List.replicate k ⟨0, 0, 0, none⟩ ++ [⟨1, 0, 0, none⟩], none⟩
def gL (k : Nat) (hi : Int) : List Dg := List.replicate k ⟨0, hi, 0⟩ ++ [⟨0, 0, 0⟩]
theorem bL_n {k : Nat} : (bL k).n = k + 1 := List.length_replicate
theorem bL_ok {k : Nat} (h : k ≤ 20) : (bL k).ok := by
  refine ⟨by show 1 ≤ (bL k).n; rw [bL_n]; omega, by show (bL k).n ≤ 40; rw [bL_n]; omega, ?_, fun x hx => by rw [List.eq_of_mem_replicate hx]; exact ⟨by decide, by decide⟩, fun r hr => ?_, fun L hL => by cases hL⟩
  · show (List.replicate k (⟨0, 0, 0, none⟩ : Row) ++ [(⟨1, 0, 0, none⟩ : Row)]).length = (List.replicate (k + 1) (0 : Int)).length
    rw [List.length_append, List.length_replicate, List.length_replicate]; rfl
  · have hr : r ∈ List.replicate k (⟨0, 0, 0, none⟩ : Row) ++ [⟨1, 0, 0, none⟩] := hr
    rcases List.mem_append.mp hr with h | h
    · rw [List.eq_of_mem_replicate h]; exact ⟨⟨by decide, by decide⟩, ⟨by decide, by decide⟩, ⟨by decide, by decide⟩, fun f hf => by cases hf⟩
    · rw [List.mem_singleton.mp h]; exact ⟨⟨by decide, by decide⟩, ⟨by decide, by decide⟩, ⟨by decide, by decide⟩, fun f hf => by cases hf⟩
theorem gL_ok {k : Nat} {hi : Int} (h0 : 0 ≤ hi) (h1 : hi ≤ 1000) : DgOk (bL k) (gL k hi) := by
  refine ⟨?_, fun d hd => ?_⟩
  · show (List.replicate k (⟨0, hi, 0⟩ : Dg) ++ [(⟨0, 0, 0⟩ : Dg)]).length = (List.replicate (k + 1) (0 : Int)).length
    rw [List.length_append, List.length_replicate, List.length_replicate]; rfl
  · have hd : d ∈ List.replicate k (⟨0, hi, 0⟩ : Dg) ++ [⟨0, 0, 0⟩] := hd
    have num0 : num 0 := ⟨by decide, by decide⟩
    rcases List.mem_append.mp hd with h | h
    · rw [List.eq_of_mem_replicate h]; exact ⟨num0, ⟨h0, by show hi ≤ MOST; unfold MOST; omega⟩, num0⟩
    · rw [List.mem_singleton.mp h]; exact ⟨⟨by decide, by decide⟩, ⟨by decide, by decide⟩, ⟨by decide, by decide⟩⟩
theorem late_not {k : Nat} {hi : Int} (hk : k ≤ 20) (h1 : 1 ≤ hi) {M : List (List Int)} (hM : ∀ r, r < k + 1 → M.getD r [] = List.replicate (k + 1) 0 ++ [hi]) : ¬ LetP (bL k) (gL k hi) (List.replicate (k + 1) 0 ++ [hi]) M := by
  rintro ⟨_, h2⟩
  have hn := bL_n (k := k)
  have a1 : at0 (List.replicate (k + 1) 0 ++ [hi]) (k + 1) = hi := getD_end (by rw [List.length_replicate])
  have a0 : at0 (List.replicate (k + 1) 0 ++ [hi]) k = 0 := (getD_app (by rw [List.length_replicate]; omega)).trans rep0
  have hrow : (bL k).row k = ⟨1, 0, 0, none⟩ := getD_end (by rw [List.length_replicate])
  have hdg : gd (gL k hi) k = ⟨0, 0, 0⟩ := getD_end (by rw [List.length_replicate])
  have hw : (bL k).want k = 1 := by unfold Bk.want; rw [hrow]
  have hlf : (bL k).loaf k = 0 := by unfold Bk.loaf; rw [hrow]
  have hlt : (bL k).light k = 0 := by
    unfold Bk.light
    show (List.replicate (k + 1) (0 : Int)).getD k 0 = 0
    exact rep0
  have hc := own_cost (g := gL k hi) (bL_ok hk) (d := k) (by rw [hw]; decide)
  rw [hw, hlf, hdg] at hc
  have hh := (h2 k (by omega)).2.2 k (Nat.le_refl k) (by omega) k 1 _ (by decide) (by omega) (csum_succ (x := 0) rfl hc)
  rw [hM k (by omega), a1, a0, hlt] at hh
  have : (1 : Int) * 0 + 1 * (⟨0, 0, 0⟩ : Dg).dough = 0 := rfl
  rw [this] at hh
  omega
section
variable {K : PySem.W.Frag} {σ : L2.St} {H H' : Hp} {ta tb tc te : TE} {v : V} {vs : List V} {Q : VK} {E : XK}
theorem x_par {i j : Nat} {t : TA} {u : TS} {D : Ends} {x y : V} (h : EvX t σ H [x, y]) (k : Sx u D ((σ.set i (some x)).set j (some y)) H) : Sx (tSeq (tPar i j t) u) D σ H := fun H1 e => h H1 e _ fun H2 e2 => ⟨x, y, rfl, k H2 (e.trans e2)⟩
def LadP (F : List Int) (M : List (List Int)) : PP := fun _ v H2 => ∃ p, v = .ref p ∧ LadAt H2 p F M
instance {F : List Int} {M : List (List Int)} : UP (LadP F M) := ⟨fun ⟨p, h1, h2⟩ e => ⟨p, h1, h2.up e⟩, fun h _ => h⟩
theorem ev_letsN {pb pd : Addr} {b : Bk} {g : List Dg} {F : List Int} {M : List (List Int)} (hb : BkAt H pb b) (hok : b.ok) (hg : DgsAt H pd g) (hgok : DgOk b g) (hlo : LadOk b F M) (ha : Ev ta σ H (Is (.ref pb))) (hb' : Ev tb σ H (Is (.ref pd))) (hc : Ev tc σ H (LadP F M)) :
    Ev (tCall (sp_lets_ladder K) [] E0 (tCons ta (tCons tb (tCons tc tNil)))) σ H (Is (.bl (dec (LetP b g F M)))) := ev_callA (ea_cons ha (ea_cons hb' (ea_cons hc ea_nil))) fun H1 vs H2 e1 e2 ps => by
  cases ps with
  | cons a1 ps => cases ps with
    | cons a2 ps => cases ps with
      | cons a3 ps =>
        cases ps
        have z1 : _ = V.ref pb := a1
        have z2 : _ = V.ref pd := a2
        subst z1 z2
        obtain ⟨p, rfl, hl⟩ := a3
        exact ⟨pb, b, pd, g, p, F, M, rfl, hb.up (e1.trans e2), hok, hg.up (e1.trans e2), hgok, hl, hlo, rfl⟩
theorem ev_ladCopies {F : List Int} {n : Nat} {q : Addr} {j i7 : Nat} (hn : n ≤ 1000) (hq : H q = some (.lst (F.map V.int))) (hv : ∀ H', Ex H H' → Ev (tVar j) σ H' (Is (.ref q))) (hr : EvX (tCons tb tNil) σ H [.int (n : Int)]) (hw : ∀ i : Nat, wipe ((wipe σ [i7]).set i7 (some (.int (i : Int)))) [i7] = wipe σ [i7] ∧ ((wipe σ [i7]).set i7 (some (.int (i : Int))))[j]? = some (some (.ref q))) :
    Ev (tTup (tCons (tVar j) (tCons (tLc (iRng1 (tCons tb tNil)) (gName i7) tYes (tCB (rListS K) (tCons (tVar j) tNil)) [i7]) tNil))) σ H (LadP F ((List.range n).map fun _ => F)) := by
  refine Ev.imp (ev_tupA (Ps := [Is (.ref q), NewLs n fun _ => NewL (F.map V.int)]) (ea_cons (hv H Ex.rfl) (ea_cons (ev_lc (Yt := fun i x _ => x = .int (i : Int)) (ei_rng1 (n := n) hr (by omega)) (by omega) fun i x H1 e hi hx => ?_) ea_nil)) (by show 2 ≤ 100000; decide)) fun H1 v H2 e1 e2 pp => ?_
  · subst hx
    exact ⟨_, eg_name, (hw i).1, ev_list (e _ _ hq) (ev_var (hw i).2)⟩
  · obtain ⟨p, us, rfl, _, hp, pa⟩ := pp
    cases pa with
    | cons a1 pa => cases pa with
      | cons a2 pa =>
        cases pa
        have z : _ = V.ref q := a1
        subst z
        obtain ⟨pm, ms, rfl, _, hm, hml, hmi⟩ := a2
        exact ⟨p, rfl, lad_of hp ((e1.trans e2) _ _ hq) hm hml hmi⟩
theorem rd__law_late_rows (h : sp__law_late_rows K vs H Q E) : t__law_late_rows K (DD Q) (start N__law_late_rows vs) H := by
  obtain ⟨H0, P, e0, ⟨p, d0, d1, rfl, hp, hd0, hd1, rfl⟩, kk⟩ := h
  have hp := e0 _ _ hp
  obtain ⟨k, hk, hk1, hk2⟩ : ∃ k : Nat, 7 + d0 % 6 = ((k + 1 : Nat) : Int) ∧ 6 ≤ k ∧ k ≤ 11 := ⟨(6 + d0 % 6).toNat, by omega, by omega, by omega⟩
  obtain ⟨hi, hhi, hh1, hh2⟩ : ∃ hi : Int, hi = 1 + d1 ∧ 1 ≤ hi ∧ hi ≤ 1000 := ⟨_, rfl, by omega, by omega⟩
  refine Sx.at (x_par (x := .int ((k + 1 : Nat) : Int)) (y := .int hi) (ex_cons (Ev.eq (ev_I0 ev_c (ev_I (C := fun _ j => 0 < j) (ev_ixL hp (ev_var rfl) ev_c rfl) ev_c (by decide))) (by show V.int _ = V.int _; rw [← hk])) (ex_cons (Ev.eq (ev_I0 ev_c (ev_ixL hp (ev_var rfl) ev_c rfl)) (by show V.int _ = V.int _; rw [hhi])) ex_nil)) ?_)
  have day : ∀ {σ : L2.St} {H : Hp} {w : Int}, Ev (tTup (tCons (tC (.int w)) (tCons (tC (.int 0)) (tCons (tC (.int 0)) (tCons (tC .non) tNil))))) σ H (NewT [.int w, .int 0, .int 0, .non]) := ev_tup (ex_cons ev_c (ex_cons ev_c (ex_cons ev_c (ex_cons ev_c ex_nil)))) (by show 4 ≤ 100000; decide)
  refine x_asg (P := NewTA [NewL ((List.replicate (k + 1) (0 : Int)).map V.int), Is .non, NewLA [NewTA [RepQ k [.int 0, .int 0, .int 0, .non] [.int 1, .int 0, .int 0, .non], Is .non]]]) (ev_tupA (ea_cons (ev_rep0 (k := k + 1) (by omega) (ev_var rfl) ev_c) (ea_cons ev_c (ea_cons (ev_lstA (ea_cons (ev_tupA (ea_cons (ev_catQ (ev_repA (k := k) (ev_lstA (ea_cons day ea_nil) (by show 1 ≤ 100000; decide)) (ev_less1 (ev_var rfl)) (by omega)) (ev_lstA (ea_cons day ea_nil) (by show 1 ≤ 100000; decide)) (by omega)) (ea_cons ev_c ea_nil)) (by show 2 ≤ 100000; decide)) ea_nil) (by show 1 ≤ 100000; decide)) ea_nil))) (by show 3 ≤ 100000; decide)) fun v H1 e1 pp => ?_
  obtain ⟨pb, us, rfl, _, hT, pa⟩ := pp
  cases pa with
  | cons a1 pa => cases pa with
    | cons a2 pa => cases pa with
      | cons a3 pa =>
        cases pa
        obtain ⟨pl, rfl, _, hl⟩ := a1
        have z2 : _ = V.non := a2
        subst z2
        obtain ⟨G, us2, rfl, _, hG, pb'⟩ := a3
        cases pb' with
        | cons c1 pb' =>
          cases pb'
          obtain ⟨D', us3, rfl, _, hD, pc⟩ := c1
          cases pc with
          | cons d1' pc => cases pc with
            | cons d2 pc =>
              cases pc
              obtain ⟨gg, t, t', rfl, _, hgg, _, ht, _, ht'⟩ := d1'
              have z4 : _ = V.non := d2
              subst z4
              have hb1 : BkAt H1 pb (bL k) := bk_at hT hl hG hD hgg ((two_rep (R := RowAt H1) (d := row0) (y := (⟨0, 0, 0, none⟩ : Row)) ⟨t, rfl, ht⟩ k).snoc (y := (⟨1, 0, 0, none⟩ : Row)) ⟨t', rfl, ht'⟩)
              refine x_asg (P := RepQ k [.int 0, .int hi, .int 0] [.int 0, .int 0, .int 0]) (ev_catQ (ev_repA (k := k) (ev_lstA (ea_cons (ev_tup (ex_cons ev_c (ex_cons (ev_var rfl) (ex_cons ev_c ex_nil))) (by show 3 ≤ 100000; decide)) ea_nil) (by show 1 ≤ 100000; decide)) (ev_less1 (ev_var rfl)) (by omega)) (ev_lstA (ea_cons (ev_tup (ex_cons ev_c (ex_cons ev_c (ex_cons ev_c ex_nil))) (by show 3 ≤ 100000; decide)) ea_nil) (by show 1 ≤ 100000; decide)) (by omega)) fun v H2 e2 pp => ?_
              obtain ⟨pd, u, u', rfl, _, hpd, _, hu, _, hu'⟩ := pp
              have hb2 := hb1.up e2
              have two2 := (two_rep (R := DgAt H2) (d := dg0) (y := (⟨0, hi, 0⟩ : Dg)) ⟨u, rfl, hu⟩ k).snoc (y := (⟨0, 0, 0⟩ : Dg)) ⟨u', rfl, hu'⟩
              have hg2 : DgsAt H2 pd (gL k hi) := ⟨_, hpd, two2.1, two2.2⟩
              have bok : (bL k).ok := bL_ok (by omega)
              have gok : DgOk (bL k) (gL k hi) := gL_ok (by omega) hh2
              refine x_asg (P := NewL ((List.replicate (k + 1) (0 : Int) ++ [hi]).map V.int)) ?_ fun v H3 e3 pp => ?_
              · rw [List.map_append]
                exact ev_catN (ev_rep0 (k := k + 1) (by omega) (ev_var rfl) ev_c) (ev_lst (ex_cons (ev_var rfl) ex_nil) (by show 1 ≤ 100000; decide)) (by rw [List.length_map, List.length_replicate]; exact Nat.le_trans (show k + 1 + 1 ≤ 1000 by omega) (by decide))
              obtain ⟨q, rfl, _, hq⟩ := pp
              have row : ∀ r, r < k + 1 → ((List.range (k + 1)).map fun _ => List.replicate (k + 1) 0 ++ [hi]).getD r [] = List.replicate (k + 1) 0 ++ [hi] := fun r hr => by rw [List.getD_eq_getElem?_getD, range_at hr]; rfl
              have len1 : (List.replicate (k + 1) (0 : Int) ++ [hi]).length = k + 1 + 1 := by rw [List.length_append, List.length_replicate]; rfl
              have lok : LadOk (bL k) (List.replicate (k + 1) 0 ++ [hi]) ((List.range (k + 1)).map fun _ => List.replicate (k + 1) 0 ++ [hi]) := lad_ok_of bL_n len1 ((getD_app (by rw [List.length_replicate]; omega)).trans rep0) fun _ => len1
              refine x_pass (EvT.eq (et_test (ev_notB (Ev.eq (ev_letsN (hb2.up e3) bok (hg2.up e3) gok lok (ev_var rfl) (ev_var rfl) (ev_ladCopies (n := k + 1) (by omega) hq (fun H' _ => ev_var rfl) (ex_cons (ev_var rfl) ex_nil) fun i => ⟨rfl, rfl⟩)) (by rw [dec_f (late_not (by omega) hh1 row)])) ev_c)) rfl) rfl ?_
              have ek : ((k + 1 : Nat) : Int) + 1 = ((k + 2 : Nat) : Int) := by omega
              refine x_asg (P := NewL ((List.replicate (k + 2) (0 : Int)).map V.int)) (ev_rep0 (k := k + 2) (by omega) (Ev.eq (ev_I0 (ev_var rfl) ev_c) (by show V.int _ = V.int _; rw [ek])) ev_c) fun v H4 e4 pp => ?_
              obtain ⟨q4, rfl, _, hq4⟩ := pp
              have lz := let_zero bok gok
              rw [bL_n] at lz
              have lok4 : LadOk (bL k) (List.replicate (k + 1 + 1) 0) ((List.range (k + 1)).map fun _ => List.replicate (k + 1 + 1) (0 : Int)) := lad_ok_of bL_n List.length_replicate rep0 fun _ => List.length_replicate
              exact x_retV (.bl true) (Ev.eq (ev_isB (Ev.eq (ev_letsN (hb2.up (e3.trans e4)) bok (hg2.up (e3.trans e4)) gok lok4 (ev_var rfl) (ev_var rfl) (ev_ladCopies (n := k + 1) (by omega) hq4 (fun H' _ => ev_var rfl) (ex_cons (ev_var rfl) ex_nil) fun i => ⟨rfl, rfl⟩)) (by rw [dec_t lz])) ev_c) rfl) fun H5 e5 => kk _ H5 ((((e1.trans e2).trans e3).trans e4).trans e5) rfl
end
end K66

/-! ## R26 -/
set_option maxHeartbeats 4000000
namespace K66
open PySem PySem.Spec PyProof.Rows L2
def CPlan (b : Bk) (g : List Dg) : PP := fun _ v H2 => ∃ (pp : Addr) (ls : List Lot) (D : Tab), v = .ref pp ∧ PlanAt H2 pp ls ∧ IsPlan b g ls ∧ planCost b g ls ≤ D.F b.n ∧ D.F 0 = 0 ∧ Good b g D (b.n + 1)
instance {b : Bk} {g : List Dg} : UP (CPlan b g) := ⟨fun ⟨pp, ls, D, h1, h2, h3⟩ e => ⟨pp, ls, D, h1, h2.up e, h3⟩, fun h _ => h⟩
theorem atI_last {α : Type} {xs : List α} {n : Nat} {x : α} (hl : xs.length = n + 1) (h : xs[n]? = some x) : atI xs (-1) = some x := by
  unfold atI
  have e : ixN xs.length (-1) = some n := by
    unfold ixN
    rw [hl, if_neg (by decide)]
    first
    | (rw [if_pos (by omega)]; congr 1; omega)
    | (split <;> first | (congr 1; omega) | omega)
  rw [e]; exact h
theorem gd_rep {n i : Nat} : gd (List.replicate n dg0) i = dg0 := by
  unfold gd
  rw [List.getD_eq_getElem?_getD, List.getElem?_replicate]
  split <;> rfl
section
variable {K : PySem.W.Frag} {σ : L2.St} {H H' : Hp} {ta tb tc te : TE} {v : V} {vs : List V} {Q : VK} {E : XK} {pb pd : Addr} {b : Bk} {g : List Dg}
theorem ev_cheap (hb : BkAt H pb b) (hok : b.ok) (hg : DgsAt H pd g) (hgok : DgOk b g) (h12 : b.n ≤ 12) (ha : Ev ta σ H (Is (.ref pb))) (hc : Ev tb σ H (Is (.ref pd))) : Ev (tCall (sp_cheapest_doughs K) [] E0 (tCons ta (tCons tb tNil))) σ H (CheapP b g) := fun H1 e Q q =>
  ex_cons ha (ex_cons hc ex_nil) H1 e _ fun H2 e2 => .inl ⟨H2, CheapP b g, Ex.rfl, ⟨pb, b, pd, g, rfl, hb.up (e.trans e2), hok, hg.up (e.trans e2), hgok, h12, rfl⟩, fun v H' e' p => q v H' (e2.trans e') p⟩
theorem ev_cheap0 (h : Ev te σ H (CheapP b g)) : Ev (tOp (rIx K) te (tC (.int 0))) σ H (CPlan b g) := ev_opN h ev_c fun H1 w H2 _ _ pp Q q => by
  obtain ⟨T, pp, ls, pL, D, rfl, hT, h1, h2, h3⟩ := pp
  exact .inr (.inl ⟨T, [.ref pp, .ref pL], 0, .ref pp, rfl, rfl, sqT hT, rfl, q _ H2 Ex.rfl ⟨pp, ls, D, rfl, h1, h3⟩⟩)
theorem ev_dcost {pp : Addr} {ls : List Lot} (hb : BkAt H pb b) (hok : b.ok) (hg : DgsAt H pd g) (hgok : DgOk b g) (hp : PlanAt H pp ls) (hi : IsPlan b g ls) (ha : Ev ta σ H (Is (.ref pb))) (hb' : Ev tb σ H (Is (.ref pd))) (hc : Ev tc σ H (Is (.ref pp))) : Ev (tCall (sp_dough_cost K) [] E0 (tCons ta (tCons tb (tCons tc tNil)))) σ H (Is (.int (planCost b g ls))) :=
  ev_call (ex_cons ha (ex_cons hb' (ex_cons hc ex_nil))) ⟨pb, b, pd, g, pp, ls, rfl, hb, hok, hg, hgok, hp, hi.ok, hi.short, rfl⟩
theorem ev_dcost0 (hb : BkAt H pb b) (hok : b.ok) (hg : DgsAt H pd g) (hgok : DgOk b g) (hz : ∀ i, gd g i = dg0) (ha : Ev ta σ H (Is (.ref pb))) (hb' : Ev tb σ H (Is (.ref pd))) (hc : Ev tc σ H (CPlan b g)) : Ev (tCall (sp_dough_cost K) [] E0 (tCons ta (tCons tb (tCons tc tNil)))) σ H (Is (vO (rowO b b.n b.n))) :=
  fun H1 e Q q => ha H1 e _ fun v1 H2 e2 p1 => hb' H2 (e.trans e2) _ fun v2 H3 e3 p2 => hc H3 ((e.trans e2).trans e3) _ fun v3 H4 e4 p3 => by
    have z1 : v1 = V.ref pb := p1
    have z2 : v2 = V.ref pd := p2
    subst z1 z2
    obtain ⟨pp, ls, D, rfl, h1, h2, h3, h4, h5⟩ := p3
    have e14 := (e2.trans e3).trans e4
    refine ⟨H4, Is (.int (planCost b g ls)), Ex.rfl, ⟨pb, b, pd, g, pp, ls, rfl, hb.up (e.trans e14), hok, hg.up (e.trans e14), hgok, h1, h2.ok, h2.short, rfl⟩, fun v H' e' p => q v H' (e14.trans e') ?_⟩
    have z : v = .int (planCost b g ls) := p
    show v = vO (rowO b b.n b.n)
    rw [z, row_last hok hgok hz h5 h4 h2 h3]; rfl
theorem scal_vO (o : Option Int) : scal (vO o) (vO o) = true := by cases o <;> rfl
theorem len_law (h : sp_law K vs H Q E) : vs.length = 1 := by obtain ⟨_, _, _, ⟨_, _, e, _⟩, _⟩ := h; rw [e]; rfl
theorem len__law_late_rows (h : sp__law_late_rows K vs H Q E) : vs.length = 1 := by obtain ⟨_, _, _, ⟨_, _, _, e, _⟩, _⟩ := h; rw [e]; rfl
theorem len__law_thirteen (h : sp__law_thirteen K vs H Q E) : vs.length = 2 := by obtain ⟨_, _, _, ⟨_, _, _, _, e, _⟩, _⟩ := h; rw [e]; rfl
theorem len__law_long_stretches (h : sp__law_long_stretches K vs H Q E) : vs.length = 0 := by obtain ⟨_, _, _, ⟨e, _⟩, _⟩ := h; rw [e]; rfl
theorem rd_law (h : sp_law K vs H Q E) : t_law K (DD Q) (start N_law vs) H := by
  obtain ⟨H0, P, e0, ⟨a, ns, rfl, hs, hm, rfl⟩, k⟩ := h
  have hs := sqL_up hs e0
  -- late rows
  refine Sx.at (x_pass (et_not (a := true) (et_B (ev_callA (ea_cons (ev_numsN (sz := [420, 420]) (salt := 6690) (by decide) (by decide) (by decide) (ev_cell (k := 0) hs hm (ev_var rfl) ev_c) ev_c (ev_rep0 (k := 2) (by decide) (ev_nat rfl) ev_c)) ea_nil) fun H1 vs H2 _ _ ps => ?_))) rfl ?_)
  · cases ps with
    | cons a1 ps =>
      cases ps
      obtain ⟨ds, ⟨hl, hd⟩, p, rfl, _, hp⟩ := a1
      match ds, hl, hd, hp with
      | [d0, d1], _, hd, hp => exact ⟨p, d0, d1, rfl, hp, hd 0 (by decide), hd 1 (by decide), rfl⟩
  -- the bakery and its doughs
  refine x_asg (P := AtBk 4) (ev_call (ex_cons (ev_var rfl) (ex_cons ev_c (ex_cons ev_c ex_nil))) ⟨a, ns, 6600, rfl, hs, hm, by decide, rfl⟩) fun v H1 e1 pp => ?_
  obtain ⟨b, pb, hok, h4, rfl, hb⟩ := pp
  have hlen : ∀ {σ : L2.St} {H' : Hp}, Ex H1 H' → σ[1]? = some (some (.ref pb)) → Ev (tCB (rLenS K) (tCons (tOp (rIx K) (tVar 1) (tC (.int 0))) tNil)) σ H' (Is (.int (b.n : Int))) := fun e h => by
    obtain ⟨pl, pgs, pg, q1, q2, _⟩ := hb.up e
    exact Ev.eq (ev_lenL q2 (ev_bk0 q1 (ev_var h))) (by rw [List.length_map])
  refine x_asg (P := AtDg b.n) (ev_call (ex_cons (ev_var rfl) (ex_cons (hlen Ex.rfl rfl) (ex_cons ev_c ex_nil))) ⟨a, ns, b.n, 6610, rfl, sqL_up hs e1, hm, hok.most, by decide, rfl⟩) fun v H2 e2 pp => ?_
  obtain ⟨g, pd, hgl, hga, rfl, hg⟩ := pp
  have hgok : DgOk b g := ⟨hgl, hga⟩
  have hb2 := hb.up e2
  -- the plan
  refine x_asgG (ev_cheap hb2 hok hg hgok (by omega) (ev_var rfl) (ev_var rfl)) fun v H3 e3 pp => ?_
  obtain ⟨T, pp, ls, pL, D, rfl, hT, hplan, hlad, hip, hcost, hF, hD⟩ := pp
  refine ⟨_, eg_tup2 hT eg_name eg_name, ?_⟩
  have hb3 := hb2.up e3
  have hg3 := hg.up e3
  refine x_pass (EvT.eq (et_test (ev_ne (ev_dcost hb3 hok hg3 hgok hplan hip (ev_var rfl) (ev_var rfl) (ev_var rfl)) (Ev.imp (P' := Is (.int (planCost b g ls))) (ev_call (P := Some' fun v => ∃ o, v = vO o ∧ IsLeast b g o) (ex_cons (ev_var rfl) (ex_cons (ev_var rfl) ex_nil)) ⟨pb, b, pd, g, rfl, hb3, hok, hg3, hgok, h4, rfl⟩) fun H1 v H2 _ _ pv => by
    obtain ⟨o, rfl, ho⟩ := pv
    show vO o = _
    rw [least_eq hok hgok hD hF hip hcost ho]; rfl) eqI)) (by rw [decide_eq_true rfl]; rfl)) rfl ?_
  -- doughs that cost nothing
  obtain ⟨vd, hvd, hvl, _⟩ := hg3
  have hvl' : vd.length = b.n := hvl.trans hgl
  have h40 : b.n ≤ 40 := hok.most
  refine x_asg (P := RepP b.n [.int 0, .int 0, .int 0]) (ev_repA (k := b.n) (ev_lstA (ea_cons (ev_tup (ex_cons ev_c (ex_cons ev_c (ex_cons ev_c ex_nil))) (by show 3 ≤ 100000; decide)) ea_nil) (by show 1 ≤ 100000; decide)) (Ev.eq (ev_lenL hvd (ev_var rfl)) (by rw [hvl'])) (by omega)) fun v H4 e4 pp => ?_
  obtain ⟨pf, t0, rfl, _, hpf, _, ht0⟩ := pp
  have two0 := two_rep (R := DgAt H4) (d := dg0) (y := dg0) ⟨t0, rfl, ht0⟩ b.n
  have hf4 : DgsAt H4 pf (List.replicate b.n dg0) := ⟨_, hpf, two0.1, two0.2⟩
  have hfok : DgOk b (List.replicate b.n dg0) := ⟨List.length_replicate, fun d hd => by rw [List.eq_of_mem_replicate hd]; exact ⟨⟨by decide, by decide⟩, ⟨by decide, by decide⟩, ⟨by decide, by decide⟩⟩⟩
  have hb4 := hb3.up e4
  have lenR : ((List.range (b.n + 1)).map fun j => vO (rowO b j j)).length = b.n + 1 := by rw [List.length_map, List.length_range]
  refine x_pass (EvT.eq (et_test (ev_ne (ev_dcost0 hb4 hok hf4 hfok (fun i => gd_rep) (ev_var rfl) (ev_var rfl) (ev_cheap0 (ev_cheap hb4 hok hf4 hfok (by omega) (ev_var rfl) (ev_var rfl)))) (ev_ixNL (ev_call (ex_cons (ev_var rfl) ex_nil) ⟨pb, b, rfl, hb4, hok, rfl⟩) (ev_neg ev_c) (atI_last lenR (range_at (by omega)))) (scal_vO _))) (by rw [decide_eq_true rfl]; rfl)) rfl ?_
  -- twelve days
  have hg4 := hg.up (e3.trans e4)
  refine x_asgG (P := AtTwo 12) (ev_call (ex_cons (ev_var rfl) (ex_cons (ev_var rfl) (ex_cons ev_c ex_nil))) ⟨pb, b, pd, g, 12, rfl, hb4, hok, hg4, hgok, by decide, by decide, rfl⟩) fun v H5 e5 pp => ?_
  obtain ⟨T5, b5, pb5, g5, pd5, rfl, hT5, hok5, hn5, hgok5, hb5, hg5⟩ := pp
  refine ⟨_, eg_tup2 hT5 eg_name eg_name, ?_⟩
  refine x_asgG (ev_cheap hb5 hok5 hg5 hgok5 (by omega) (ev_var rfl) (ev_var rfl)) fun v H6 e6 pp => ?_
  obtain ⟨T6, pp6, ls6, pL6, D6, rfl, hT6, hplan6, hlad6, hip6, hcost6, hF6, hD6⟩ := pp
  refine ⟨_, eg_tup2 hT6 eg_name eg_name, ?_⟩
  have hb6 := hb5.up e6
  have hg6 := hg5.up e6
  have hlad6' := hlad6
  obtain ⟨pfr, pmr, msr, l1, l2, _⟩ := hlad6'
  have lenF : ((ladF D6 b5.n).map V.int).length = b5.n + 1 := by unfold ladF; rw [List.length_map, List.length_map, List.length_range]
  have lastF : ((ladF D6 b5.n).map V.int)[b5.n]? = some (.int (D6.F b5.n)) := by rw [List.getElem?_map, ladF_last]; rfl
  refine x_pass (et_or (a := false) (b := false) (EvT.eq (et_test (ev_ne (Ev.eq (ev_dcost hb6 hok5 hg6 hgok5 hplan6 hip6 (ev_var rfl) (ev_var rfl) (ev_var rfl)) (by rw [plan_eq hok5 hgok5 hD6 hF6 hip6 hcost6])) (ev_ixL l2 (ev_ixT l1 (ev_var rfl) ev_c rfl) (ev_neg ev_c) (atI_last lenF lastF)) eqI)) (by rw [decide_eq_true rfl]; rfl)) fun _ => EvT.eq (et_test (ev_notB (Ev.eq (ev_lets hb6 hok5 hg6 hgok5 hlad6 (lad_ok hF6) (ev_var rfl) (ev_var rfl) (ev_var rfl)) (by rw [dec_t (good_let hD6)])) ev_c)) rfl) rfl ?_
  -- thirteen days
  have e46 := e5.trans e6
  refine x_asgG (P := AtTwo 13) (ev_call (ex_cons (ev_var rfl) (ex_cons (ev_var rfl) (ex_cons ev_c ex_nil))) ⟨pb, b, pd, g, 13, rfl, hb4.up e46, hok, hg4.up e46, hgok, by decide, by decide, rfl⟩) fun v H7 e7 pp => ?_
  obtain ⟨T7, b7, pb7, g7, pd7, rfl, hT7, hok7, hn7, hgok7, hb7, hg7⟩ := pp
  refine ⟨_, eg_tup2 hT7 eg_name eg_name, ?_⟩
  refine x_pass (et_or (a := false) (b := false) (et_not (a := true) (et_B (ev_call (ex_cons (ev_var rfl) (ex_cons (ev_var rfl) ex_nil)) ⟨pb7, b7, pd7, g7, rfl, hb7, hok7, hg7, hgok7, by omega, rfl⟩))) fun _ => et_or (a := false) (b := false) (et_not (a := true) (et_B (ev_call (ex_cons (ev_var rfl) (ex_cons (ev_var rfl) ex_nil)) ⟨pb7, b7, pd7, g7, rfl, hb7, hok7, hg7, hgok7, hn7, rfl⟩))) fun _ => et_not (a := true) (et_B (ev_call ex_nil ⟨rfl, rfl⟩))) rfl ?_
  obtain ⟨vd7, hvd7, hvl7, _⟩ := hg7
  have hcut : (cutV vd7 none (some (-1))).length ≠ b7.n := by
    have h1 : vd7.length = 13 := by rw [hvl7, hgok7.len]; exact hn7
    rw [hn7]
    unfold cutV
    rw [List.length_take, List.length_drop, h1]
    decide
  refine x_retV (.bl true) (Ev.eq (ev_andV (a := true) (b := true) (ev_call (ex_cons (ev_var rfl) (ex_cons ev_c ex_nil)) ⟨pb7, b7, .non, rfl, hb7, hok7, .inl rfl, rfl⟩) fun _ => ev_callA (ea_cons (P := Is (.ref pb7)) (ev_var rfl) (ea_cons (ev_slL hvd7 (ev_var rfl) eo_none (eo_some (ev_neg ev_c))) ea_nil)) fun H8 vs H9 e8 e9 ps => ?_) rfl) fun H8 e8 => k _ H8 ((((((e1.trans e2).trans e3).trans e4).trans e46).trans e7).trans e8) rfl
  cases ps with
  | cons a1 ps => cases ps with
    | cons a2 ps =>
      cases ps
      have z1 : _ = V.ref pb7 := a1
      subst z1
      obtain ⟨q, rfl, _, hq⟩ := a2
      exact ⟨pb7, b7, .ref q, rfl, hb7.up (e8.trans e9), hok7, .inr ⟨q, _, rfl, hq, hcut⟩, rfl⟩
end
end K66

/-! ## O9 -/
set_option maxHeartbeats 4000000
namespace K66
open PySem PySem.Spec PyProof.Rows L2
theorem ok__law_long_stretches {P : Program} {w : World} {K : PySem.W.Frag} {mg : Str → Option Value} {base : Heap} (W : Wd K mg) : Cal P w K mg base CX0 11 "_law_long_stretches" p__law_long_stretches (sp__law_long_stretches K) :=
  cal_of (d := d__law_long_stretches) W 55 rfl rfl W.g__law_long_stretches sc__law_long_stretches (fun vs H Q E h => len__law_long_stretches h) (fun _ _ _ _ _ _ us hl => match us, hl with | [], _ => rfl)
    fun f cdv A outer s H vs Q E hr h => ⟨t__law_long_stretches K, (der__law_long_stretches W (ok_lets_ladder W) hr).nox, rd__law_long_stretches h⟩
theorem ok__law_thirteen {P : Program} {w : World} {K : PySem.W.Frag} {mg : Str → Option Value} {base : Heap} (W : Wd K mg) : Cal P w K mg base CX0 11 "_law_thirteen" p__law_thirteen (sp__law_thirteen K) :=
  cal_of (d := d__law_thirteen) W 56 rfl rfl W.g__law_thirteen sc__law_thirteen (fun vs H Q E h => len__law_thirteen h) (fun _ _ _ _ _ _ us hl => match us, hl with | [_, _], _ => rfl)
    fun f cdv A outer s H vs Q E hr h => ⟨t__law_thirteen K, (der__law_thirteen W (ok_lets_ladder W) hr).nox, rd__law_thirteen h⟩
theorem ok__law_late_rows {P : Program} {w : World} {K : PySem.W.Frag} {mg : Str → Option Value} {base : Heap} (W : Wd K mg) : Cal P w K mg base CX0 11 "_law_late_rows" p__law_late_rows (sp__law_late_rows K) :=
  cal_of (d := d__law_late_rows) W 57 rfl rfl W.g__law_late_rows sc__law_late_rows (fun vs H Q E h => len__law_late_rows h) (fun _ _ _ _ _ _ us hl => match us, hl with | [_], _ => rfl)
    fun f cdv A outer s H vs Q E hr h => ⟨t__law_late_rows K, (der__law_late_rows W (ok_lets_ladder W) hr).nox, rd__law_late_rows h⟩
theorem ok_law {P : Program} {w : World} {K : PySem.W.Frag} {mg : Str → Option Value} {base : Heap} (W : Wd K mg) : Cal P w K mg base CX0 12 "law" p_law (sp_law K) :=
  cal_of (d := d_law) W 58 rfl rfl W.g_law sc_law (fun vs H Q E h => len_law h) (fun _ _ _ _ _ _ us hl => match us, hl with | [_], _ => rfl)
    fun f cdv A outer s H vs Q E hr h => ⟨t_law K, (der_law W (ok__law_bakery W) (ok__law_cell_at W) (ok__law_doughs W) (ok__law_late_rows W) (ok__law_least W) (ok__law_long_stretches W) (ok__law_longer W) (ok__law_no_doughs W) (ok__law_numbers W) (ok__law_thirteen W) (ok__law_too_many W) (ok_cheapest_doughs W) (ok_dough_cost W) (ok_least_row W) (ok_lets_ladder W) hr).nox, rd_law h⟩
end K66

/-! ## Head -/
set_option maxHeartbeats 4000000
namespace K66
open PySem PySem.Spec PyProof.Rows L2
theorem run (w : World) : HandSHeadRun.RunEq R (PySem.W.view R.prog [75]) hookK ob 6000 namesK w := by
  intro os
  kernel_rfl
end K66

/-! ## Fin -/
set_option maxHeartbeats 0
namespace K66
open PySem PySem.Spec PyProof.Rows L2
theorem facts_law {P : Program} {w : World} {K : PySem.W.Frag} {h : Heap} {mg : Str → Option Value} {f : Addr} (X : K.In h) (G : h.Ns mainGlobals mg) (hfa : mg ("law" : Str) = some (.ref f)) (c : SaysK K) :
    ∃ fd : FuncData, (∀ (s : Shared) (v : Value), BindsTo s fd ⟨[v], []⟩ [("_law_script", v)]) ∧ ∀ base : Heap, K.In base → base.Ns mainGlobals mg → FnOk P w K mg base CX0 12 f fd ["_law_script"] (sp_law K) := by
  have W : Wd K mg := wd_of X G c
  obtain ⟨fd, F⟩ := defK W.says 58 (d := d_law) rfl
  have e := hfa.symm.trans W.g_law
  cases e
  have b := FunD.bindsA (ps := ["_law_script"]) F fun _ _ _ _ _ _ us hl => match us, hl with | [_], _ => rfl
  exact ⟨fd, fun s v => b s [v] rfl, fun base _ _ => F.ok sc_law (fun vs H Q E h => len_law h) fun cdv A outer s H vs Q E hr h => ⟨t_law K, (der_law W (ok__law_bakery W) (ok__law_cell_at W) (ok__law_doughs W) (ok__law_late_rows W) (ok__law_least W) (ok__law_long_stretches W) (ok__law_longer W) (ok__law_no_doughs W) (ok__law_numbers W) (ok__law_thirteen W) (ok__law_too_many W) (ok_cheapest_doughs W) (ok_dough_cost W) (ok_least_row W) (ok_lets_ladder W) hr).nox, rd_law h⟩⟩
end K66
open PySem PySem.W PySem.Calls PyProof.Rows
theorem PySem.Challenge.cw_bakeahead_k66_whole_doughs_against_all_p_holds : PySem.Challenge.rw_bakeahead_k66_whole_doughs_against_all_p.Holds := by
  w_on; o_law
  refine HandSHeadRun.head_any (r := OpenLaw.row PySem.Challenge.rw_bakeahead_k66_whole_doughs_against_all_p) (q := view (OpenLaw.row PySem.Challenge.rw_bakeahead_k66_whole_doughs_against_all_p).prog [75]) (H := K66.hookK) (ob := K66.ob) (M := 6000) (loose := K66.namesK) (d := HandSHeadRun.topDef (OpenLaw.row PySem.Challenge.rw_bakeahead_k66_whole_doughs_against_all_p).prog 75) (kwd := []) K66.ob_eq
    (by kernel_rfl) (fun s => by kernel_rfl) K66.run (by kernel_rfl) (by kernel_rfl) (by kernel_rfl) (by rfl) (by first | assumption | decide +kernel) (by decide +kernel) ⟨rfl, rfl, rfl, rfl, rfl, by decide +kernel⟩ ?hw ?hc
  case hw => w_witness2
  case hc =>
    refine L2.walk_ofE (l := PySem.Challenge.rw_bakeahead_k66_whole_doughs_against_all_p) (n := 63) (k := 12) (x := "_law_script") (CX := L2.CX0) rfl (by decide) (by kernel_rfl) ⟨rfl, by decide, by decide⟩ ?F (fun _ _ _ _ z => z)
    intro w mg fa h Y G hmg0
    obtain ⟨K, KX, c⟩ := Y
    have named : (HandSHeadRun.topDef (OpenLaw.row PySem.Challenge.rw_bakeahead_k66_whole_doughs_against_all_p).prog 75).name = ("law" : PySem.Str) := by kernel_rfl
    have hmg : mg ("law" : PySem.Str) = some (.ref fa) := by rw [← named]; exact hmg0
    obtain ⟨fd, hb, hF⟩ := K66.facts_law (P := (PySem.Challenge.rw_bakeahead_k66_whole_doughs_against_all_p).prog) (w := w) KX G hmg c
    exact ⟨K, fd, K66.sp_law K, KX, hb, fun H a ns hl _ hS => ⟨H, K66.Is (.bl true), K66.Ex.rfl, ⟨a, ns, rfl, hS, hl, rfl⟩, fun v H' _ p => p⟩, hF⟩
