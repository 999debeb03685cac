import PyProof.Rows.All
import Wide.All
import OpenK.AllK
import Wide.FinOn
import Open.SpecLaws
import KE.OsGo
import KE.OsNest
import HandS.ForSpec
import VaskycSpec
import PyProof.EqAt
import PyProof.EqKinds
import PyProof.TupleCall
import KE.KNest
import KE.KLam
import KE.SortKeyHeap
import KE.DataMinKey
import KE.DataCmp
import HandS.Lambda
import HandS.Nested
import HandS.SortKw
import HandS.Comp
import HandS.Iter
import HandS.Zip
import HandS.Dict
import HandS.ExcInit
import HandS.ExcField
import HandS.CallLocal
import HandS.NoneIn
import HandS.Conv
import HandS.SortInts
import HandS.Walk
import PyVaskyc
import PySem.Challenge.RW_bestweights_s01_answers
set_option Elab.async false
section
set_option autoImplicit false
namespace Bw
open VaskyBase Vaskyc

def q (f : Frac) : Rat := (f.num : Rat) / (f.den : Rat)
structure Nm (f : Frac) : Prop where
  pos : 0 < f.den
  cop : Nat.gcd f.num.natAbs f.den = 1

theorem q_rat {a : Frac} (h : Nm a) : q a = (⟨a.num, a.den, Nat.ne_of_gt h.pos, h.cop⟩ : Rat) := by
  have e := Rat.num_divInt_den (⟨a.num, a.den, Nat.ne_of_gt h.pos, h.cop⟩ : Rat)
  rw [Rat.divInt_eq_div] at e
  exact e
theorem q_inj {a b : Frac} (ha : Nm a) (hb : Nm b) (h : q a = q b) : a = b := by
  rw [q_rat ha, q_rat hb] at h
  have h1 := congrArg Rat.num h
  have h2 := congrArg Rat.den h
  cases a; cases b
  simp only at h1 h2
  subst h1; subst h2; rfl
theorem dvd_l (a : Int) (b : Nat) : (Nat.gcd a.natAbs b : Int) ∣ a := Int.natAbs_dvd_natAbs.mp (by rw [Int.natAbs_natCast]; exact Nat.gcd_dvd_left _ _)
theorem nm_frac {a : Int} {b : Nat} (h : 0 < b) : Nm (frac a b) := by
  have hg : 0 < Nat.gcd a.natAbs b := Nat.gcd_pos_of_pos_right _ h
  have e : frac a b = ⟨a / (Nat.gcd a.natAbs b : Int), b / Nat.gcd a.natAbs b⟩ := by
    unfold frac
    simp only [Nat.ne_of_gt hg, if_false]
  rw [e]
  refine ⟨Nat.div_pos (Nat.le_of_dvd h (Nat.gcd_dvd_right _ _)) hg, ?_⟩
  show Nat.gcd (a / (Nat.gcd a.natAbs b : Int)).natAbs (b / Nat.gcd a.natAbs b) = 1
  rw [Int.natAbs_ediv_of_dvd (dvd_l a b), Int.natAbs_natCast]
  exact Nat.gcd_div_gcd_div_gcd_of_pos_right h
theorem q_frac {a : Int} {b : Nat} (h : 0 < b) : q (frac a b) = (a : Rat) / (b : Rat) := by
  have hg : 0 < Nat.gcd a.natAbs b := Nat.gcd_pos_of_pos_right _ h
  have e : frac a b = ⟨a / (Nat.gcd a.natAbs b : Int), b / Nat.gcd a.natAbs b⟩ := by
    unfold frac
    simp only [Nat.ne_of_gt hg, if_false]
  rw [e]
  unfold q
  simp only
  obtain ⟨c, hc⟩ : (Nat.gcd a.natAbs b : Int) ∣ a := dvd_l a b
  obtain ⟨d, hd⟩ : Nat.gcd a.natAbs b ∣ b := Nat.gcd_dvd_right _ _
  generalize hG : Nat.gcd a.natAbs b = g at *
  have e1 : a / (g : Int) = c := by rw [hc]; exact Int.mul_ediv_cancel_left _ (by omega)
  have e2 : b / g = d := by rw [hd]; exact Nat.mul_div_cancel_left _ hg
  rw [e1, e2]
  have hd0 : (d : Rat) ≠ 0 := by
    intro z
    have : d = 0 := by exact_mod_cast z
    subst this
    omega
  have hg0 : (g : Rat) ≠ 0 := by
    intro z
    have : g = 0 := by exact_mod_cast z
    omega
  have ea : (a : Rat) = (g : Rat) * (c : Rat) := by rw [hc]; push_cast; rfl
  have eb : (b : Rat) = (g : Rat) * (d : Rat) := by rw [hd]; push_cast; rfl
  rw [ea, eb]
  grind
end Bw
end

section
set_option autoImplicit false
namespace Bw
open VaskyBase Vaskyc

abbrev Line := Int × Int
def vl (x : Line) (t : Rat) : Rat := (x.1 : Rat) + t * (x.2 : Rat)
def lineOf (x : Int × Int) : Line := (x.2, x.1 - x.2)
theorem den_pos {f : Frac} (h : 0 < f.den) : (0 : Rat) < (f.den : Rat) := by
  exact_mod_cast h
theorem mixed_vl {f : Frac} (h : 0 < f.den) (x : Int × Int) : ((mixed f x : Int) : Rat) = (f.den : Rat) * vl (lineOf x) (q f) := by
  have hd := den_pos h
  have e : (f.num : Rat) = q f * (f.den : Rat) := by
    unfold q
    grind
  unfold mixed vl lineOf
  push_cast
  rw [e]
  grind
theorem mixed_lt {f : Frac} (h : 0 < f.den) (x y : Int × Int) : mixed f x < mixed f y ↔ vl (lineOf x) (q f) < vl (lineOf y) (q f) := by
  have hd := den_pos h
  have e : mixed f x < mixed f y ↔ ((mixed f x : Int) : Rat) < ((mixed f y : Int) : Rat) := by
    constructor
    · intro z; exact_mod_cast z
    · intro z; exact_mod_cast z
  rw [e, mixed_vl h, mixed_vl h]
  exact Rat.mul_lt_mul_left hd
theorem less_q {a b : Frac} (ha : 0 < a.den) (hb : 0 < b.den) : less a b = true ↔ q a < q b := by
  have h1 := den_pos ha
  have h2 := den_pos hb
  unfold less
  rw [decide_eq_true_eq]
  have ea : (a.num : Rat) = q a * (a.den : Rat) := by
    unfold q
    grind
  have eb : (b.num : Rat) = q b * (b.den : Rat) := by
    unfold q
    grind
  have e : a.num * (b.den : Int) < b.num * (a.den : Int) ↔ ((a.num * (b.den : Int) : Int) : Rat) < ((b.num * (a.den : Int) : Int) : Rat) := by
    constructor
    · intro z; exact_mod_cast z
    · intro z; exact_mod_cast z
  rw [e]
  push_cast
  rw [ea, eb]
  have hp : (0 : Rat) < (a.den : Rat) * (b.den : Rat) := Rat.mul_pos h1 h2
  have e1 : q a * (a.den : Rat) * (b.den : Rat) = q a * ((a.den : Rat) * (b.den : Rat)) := by grind
  have e2 : q b * (b.den : Rat) * (a.den : Rat) = q b * ((a.den : Rat) * (b.den : Rat)) := by grind
  rw [e1, e2]
  exact Rat.mul_lt_mul_right hp
def Top (L : List Line) (i : Nat) (t : Rat) : Prop := ∃ x, L[i]? = some x ∧ ∀ y ∈ L, vl y t ≤ vl x t
def Best (L : List Line) (i : Nat) (t : Rat) : Prop := Top L i t ∧ ∀ j, j < i → ¬ Top L j t
theorem Best.uniq {L : List Line} {i j : Nat} {t : Rat} (a : Best L i t) (b : Best L j t) : i = j := by
  rcases Nat.lt_trichotomy i j with h | h | h
  · exact absurd a.1 (b.2 i h)
  · exact h
  · exact absurd b.1 (a.2 j h)
theorem mem_bestAt {l : List (Int × Int)} {f : Frac} (h : 0 < f.den) {i : Nat} : i ∈ bestAt l f ↔ Top (l.map lineOf) i (q f) := by
  unfold bestAt Top
  rw [List.mem_filter, List.mem_range]
  constructor
  · rintro ⟨hi, hn⟩
    refine ⟨lineOf l[i], by simp [hi], fun y hy => ?_⟩
    obtain ⟨z, hz, rfl⟩ := List.mem_map.mp hy
    have e : l.getD i (0, 0) = l[i] := by simp [List.getD, hi]
    rw [e] at hn
    have hn2 := hn
    rw [Bool.not_eq_true', List.any_eq_false] at hn2
    have h3 := hn2 z hz
    rw [decide_eq_true_eq, mixed_lt h] at h3
    grind
  · rintro ⟨x, hx, ha⟩
    have hi : i < l.length := by
      have := (List.getElem?_eq_some_iff.mp hx).1
      simpa using this
    have e : l.getD i (0, 0) = l[i] := by simp [List.getD, hi]
    have ex : x = lineOf l[i] := by
      rw [List.getElem?_map] at hx
      simp [hi] at hx
      exact hx.symm
    refine ⟨hi, ?_⟩
    rw [e, Bool.not_eq_true', List.any_eq_false]
    intro z hz
    rw [decide_eq_true_eq, mixed_lt h]
    have := ha (lineOf z) (List.mem_map.mpr ⟨z, hz, rfl⟩)
    rw [ex] at this
    grind
theorem head_filter_range {n : Nat} {p : Nat → Bool} {i : Nat} : ((List.range n).filter p).head? = some i ↔ (i < n ∧ p i = true ∧ ∀ j, j < i → p j = false) := by
  have e : ((List.range n).filter p).head? = (List.range n).find? p := by
    rw [List.head?_filter]
  rw [e, List.find?_range_eq_some]
  constructor
  · rintro ⟨a, b, c⟩
    exact ⟨List.mem_range.mp b, a, fun j hj => by simpa using c j hj⟩
  · rintro ⟨a, b, c⟩
    exact ⟨b, List.mem_range.mpr a, fun j hj => by simpa using c j hj⟩
theorem head_bestAt {l : List (Int × Int)} {f : Frac} (h : 0 < f.den) {i : Nat} (e : (bestAt l f).head? = some i) : Best (l.map lineOf) i (q f) := by
  have hm : i ∈ bestAt l f := List.mem_of_mem_head? e
  refine ⟨(mem_bestAt h).mp hm, fun j hj hT => ?_⟩
  have hjm := (mem_bestAt h).mpr hT
  unfold bestAt at e hjm
  rw [head_filter_range] at e
  have := e.2.2 j hj
  rw [List.mem_filter] at hjm
  rw [hjm.2] at this
  cases this
theorem exists_max (t : Rat) : ∀ {L : List Line}, L ≠ [] → ∃ i, Top L i t
  | [], h => absurd rfl h
  | [x], _ => ⟨0, x, rfl, fun y hy => by simp at hy; subst hy; exact Rat.le_refl⟩
  | x :: y :: r, _ => by
    obtain ⟨i, z, hz, hm⟩ := exists_max t (L := y :: r) (by simp)
    by_cases h : vl z t ≤ vl x t
    · refine ⟨0, x, rfl, fun w hw => ?_⟩
      rcases List.mem_cons.mp hw with e | e
      · subst e; exact Rat.le_refl
      · have := hm w e
        grind
    · refine ⟨i + 1, z, by simpa using hz, fun w hw => ?_⟩
      rcases List.mem_cons.mp hw with e | e
      · subst e; grind
      · exact hm w e
theorem head_bestAt_some {l : List (Int × Int)} {f : Frac} (h : 0 < f.den) (hl : l ≠ []) : ∃ i, (bestAt l f).head? = some i := by
  obtain ⟨i, hi⟩ := exists_max (q f) (L := l.map lineOf) (by simpa using hl)
  have hm := (mem_bestAt h).mpr hi
  cases e : bestAt l f with
  | nil => rw [e] at hm; cases hm
  | cons a r => exact ⟨a, rfl⟩
end Bw
end

section
set_option autoImplicit false
namespace Bw
open VaskyBase Vaskyc

theorem nm_whole (n : Int) : Nm (whole n) := ⟨by show 0 < 1; decide, by show Nat.gcd n.natAbs 1 = 1; simp⟩
theorem q_whole (n : Int) : q (whole n) = (n : Rat) := by
  unfold q whole
  simp only
  grind
theorem q_whole0 : q (whole 0) = 0 := by rw [q_whole]; rfl
theorem q_whole1 : q (whole 1) = 1 := by rw [q_whole]; rfl
/-- a fraction of two ints, the second not 0 -/
def lowestF (a b : Int) : Frac := if b < 0 then frac (-a) b.natAbs else frac a b.natAbs
theorem nm_lowest {a b : Int} (h : b ≠ 0) : Nm (lowestF a b) := by
  unfold lowestF
  split
  · exact nm_frac (by omega)
  · exact nm_frac (by omega)
theorem q_lowest {a b : Int} (h : b ≠ 0) : q (lowestF a b) = (a : Rat) / (b : Rat) := by
  unfold lowestF
  by_cases hb : b < 0
  · rw [if_pos hb, q_frac (by omega)]
    have e : (b.natAbs : Rat) = -(b : Rat) := by
      have : ((b.natAbs : Nat) : Int) = -b := by omega
      have e2 : (((b.natAbs : Nat) : Int) : Rat) = ((-b : Int) : Rat) := by rw [this]
      push_cast at e2
      exact e2
    rw [e]
    have hb0 : (b : Rat) ≠ 0 := fun z => h (by exact_mod_cast z)
    push_cast
    grind
  · rw [if_neg hb, q_frac (by omega)]
    have e : (b.natAbs : Rat) = (b : Rat) := by
      have : ((b.natAbs : Nat) : Int) = b := by omega
      have e2 : (((b.natAbs : Nat) : Int) : Rat) = ((b : Int) : Rat) := by rw [this]
      push_cast at e2
      exact e2
    rw [e]
/-- where x and y meet: x's rise and y's differ -/
theorem crossing_eq (X Y : Int × Int) : crossing X Y = if (lineOf X).2 = (lineOf Y).2 then [] else
    if less (whole 0) (lowestF ((lineOf Y).1 - (lineOf X).1) ((lineOf X).2 - (lineOf Y).2)) = true ∧ less (lowestF ((lineOf Y).1 - (lineOf X).1) ((lineOf X).2 - (lineOf Y).2)) (whole 1) = true
    then [lowestF ((lineOf Y).1 - (lineOf X).1) ((lineOf X).2 - (lineOf Y).2)] else [] := by
  have ed : X.1 - Y.1 + (Y.2 - X.2) = (lineOf X).2 - (lineOf Y).2 := by
    show X.1 - Y.1 + (Y.2 - X.2) = (X.1 - X.2) - (Y.1 - Y.2)
    omega
  have en : Y.2 - X.2 = (lineOf Y).1 - (lineOf X).1 := rfl
  unfold crossing
  simp only
  rw [ed, en]
  by_cases h : (lineOf X).2 = (lineOf Y).2
  · rw [if_pos h, if_pos (by omega)]
  · rw [if_neg h, if_neg (by omega)]
    rfl
/-- t is where x and y meet, between 0 and 1 -/
theorem mem_crossing {X Y : Int × Int} {t : Frac} : t ∈ crossing X Y ↔ ((lineOf X).2 ≠ (lineOf Y).2 ∧ t = lowestF ((lineOf Y).1 - (lineOf X).1) ((lineOf X).2 - (lineOf Y).2) ∧ 0 < q t ∧ q t < 1) := by
  rw [crossing_eq]
  by_cases h : (lineOf X).2 = (lineOf Y).2
  · rw [if_pos h]
    constructor
    · intro z; cases z
    · intro z; exact absurd h z.1
  · rw [if_neg h]
    have hn : Nm (lowestF ((lineOf Y).1 - (lineOf X).1) ((lineOf X).2 - (lineOf Y).2)) := nm_lowest (by omega)
    have e1 := less_q (nm_whole 0).pos hn.pos
    have e2 := less_q hn.pos (nm_whole 1).pos
    rw [q_whole0] at e1
    rw [q_whole1] at e2
    constructor
    · intro z
      split at z
      · rename_i c
        rw [List.mem_singleton] at z
        subst z
        exact ⟨h, rfl, e1.mp c.1, e2.mp c.2⟩
      · cases z
    · rintro ⟨_, rfl, c⟩
      rw [if_pos ⟨e1.mpr c.1, e2.mpr c.2⟩]
      exact List.mem_singleton.mpr rfl
/-! ### marks -/
def Srt (l : List Frac) : Prop := l.Pairwise fun a b => q a < q b
theorem mem_into {x : Frac} : ∀ {l : List Frac} {y : Frac}, y ∈ intoFracs x l ↔ (y = x ∨ y ∈ l)
  | [], y => by simp [intoFracs]
  | z :: r, y => by
    unfold intoFracs
    by_cases h : x = z
    · rw [if_pos h]
      subst h
      simp
    · rw [if_neg h]
      by_cases h2 : less x z = true
      · rw [if_pos h2]; simp
      · rw [if_neg h2, List.mem_cons, mem_into, List.mem_cons]
        constructor
        · rintro (a | a | a)
          · exact .inr (.inl a)
          · exact .inl a
          · exact .inr (.inr a)
        · rintro (a | a | a)
          · exact .inr (.inl a)
          · exact .inl a
          · exact .inr (.inr a)
theorem srt_into {x : Frac} (hx : Nm x) : ∀ {l : List Frac}, (∀ y ∈ l, Nm y) → Srt l → Srt (intoFracs x l)
  | [], _, _ => by simp [intoFracs, Srt]
  | z :: r, hn, hs => by
    unfold intoFracs
    have hz := hn z (List.mem_cons_self ..)
    unfold Srt at hs ⊢
    rw [List.pairwise_cons] at hs
    by_cases h : x = z
    · rw [if_pos h]
      exact List.pairwise_cons.mpr hs
    · rw [if_neg h]
      by_cases h2 : less x z = true
      · rw [if_pos h2]
        rw [less_q hx.pos hz.pos] at h2
        refine List.pairwise_cons.mpr ⟨fun a ha => ?_, List.pairwise_cons.mpr hs⟩
        rcases List.mem_cons.mp ha with e | e
        · rw [e]; exact h2
        · have := hs.1 a e
          grind
      · rw [if_neg h2]
        rw [less_q hx.pos hz.pos] at h2
        have h3 : q z < q x := by
          have : q x ≠ q z := fun e => h (q_inj hx hz e)
          grind
        refine List.pairwise_cons.mpr ⟨fun a ha => ?_, srt_into hx (fun y hy => hn y (List.mem_cons_of_mem _ hy)) hs.2⟩
        rcases mem_into.mp ha with e | e
        · rw [e]; exact h3
        · exact hs.1 a e
theorem fold_into : ∀ {ts r : List Frac}, (∀ y ∈ ts, Nm y) → (∀ y ∈ r, Nm y) → Srt r →
    Srt (ts.foldl (fun r t => intoFracs t r) r) ∧ (∀ y, y ∈ ts.foldl (fun r t => intoFracs t r) r ↔ (y ∈ ts ∨ y ∈ r))
  | [], r, _, _, h => ⟨h, fun y => by simp⟩
  | t :: ts, r, ht, hr, h => by
    have h1 := ht t (List.mem_cons_self ..)
    obtain ⟨a, b⟩ := fold_into (ts := ts) (r := intoFracs t r) (fun y hy => ht y (List.mem_cons_of_mem _ hy)) (fun y hy => by
      rcases mem_into.mp hy with e | e
      · rw [e]; exact h1
      · exact hr y e) (srt_into h1 hr h)
    refine ⟨a, fun y => ?_⟩
    rw [List.foldl_cons, b y, mem_into, List.mem_cons]
    constructor
    · rintro (z | z | z)
      · exact .inl (.inr z)
      · exact .inl (.inl z)
      · exact .inr z
    · rintro ((z | z) | z)
      · exact .inr (.inl z)
      · exact .inl z
      · exact .inr (.inr z)
theorem nm_crossing {X Y : Int × Int} {t : Frac} (h : t ∈ crossing X Y) : Nm t := by
  obtain ⟨a, b, _⟩ := mem_crossing.mp h
  rw [b]
  exact nm_lowest (by omega)
theorem marks_spec (l : List (Int × Int)) : Srt (marks l) ∧ ∀ y, y ∈ marks l ↔ ((∃ X ∈ l, ∃ Y ∈ l, y ∈ crossing X Y) ∨ y = whole 0 ∨ y = whole 1) := by
  have key : ∀ y, y ∈ (l.flatMap fun x => l.flatMap fun y => crossing x y) ↔ ∃ X ∈ l, ∃ Y ∈ l, y ∈ crossing X Y := fun y => by
    rw [List.mem_flatMap]
    constructor
    · rintro ⟨X, hX, h⟩
      obtain ⟨Y, hY, h⟩ := List.mem_flatMap.mp h
      exact ⟨X, hX, Y, hY, h⟩
    · rintro ⟨X, hX, Y, hY, h⟩
      exact ⟨X, hX, List.mem_flatMap.mpr ⟨Y, hY, h⟩⟩
  obtain ⟨a, b⟩ := fold_into (ts := l.flatMap fun x => l.flatMap fun y => crossing x y) (r := [whole 0, whole 1]) (fun y hy => by
      obtain ⟨X, _, Y, _, h⟩ := (key y).mp hy
      exact nm_crossing h) (fun y hy => by
      simp only [List.mem_cons, List.not_mem_nil, or_false] at hy
      rcases hy with e | e <;> rw [e]
      · exact nm_whole 0
      · exact nm_whole 1) (by
      unfold Srt
      simp only [List.pairwise_cons, List.mem_singleton, forall_eq, List.not_mem_nil, false_implies, implies_true, List.Pairwise.nil, and_true]
      rw [q_whole0, q_whole1]
      decide)
  refine ⟨a, fun y => ?_⟩
  show y ∈ List.foldl _ _ _ ↔ _
  rw [b y, key y]
  simp
theorem marks_nm {l : List (Int × Int)} {y : Frac} (h : y ∈ marks l) : Nm y ∧ 0 ≤ q y ∧ q y ≤ 1 := by
  rcases ((marks_spec l).2 y).mp h with ⟨X, _, Y, _, h⟩ | e | e
  · obtain ⟨_, _, h1, h2⟩ := mem_crossing.mp h
    exact ⟨nm_crossing h, by grind, by grind⟩
  · rw [e, q_whole0]; exact ⟨nm_whole 0, by decide, by decide⟩
  · rw [e, q_whole1]; exact ⟨nm_whole 1, by decide, by decide⟩
theorem marks_form (l : List (Int × Int)) : ∃ ms, marks l = whole 0 :: ms ∧ ms ≠ [] ∧ (whole 0 :: ms).getLast? = some (whole 1) := by
  obtain ⟨hs, hm⟩ := marks_spec l
  have h0 : whole 0 ∈ marks l := (hm _).mpr (.inr (.inl rfl))
  have h1 : whole 1 ∈ marks l := (hm _).mpr (.inr (.inr rfl))
  cases e : marks l with
  | nil => rw [e] at h0; cases h0
  | cons m ms =>
    rw [e] at hs h0 h1
    have em : m = whole 0 := by
      rcases List.mem_cons.mp h0 with z | z
      · exact z.symm
      · have c1 := (List.pairwise_cons.mp hs).1 _ z
        have c2 := (marks_nm (l := l) (y := m) (by rw [e]; exact List.mem_cons_self ..)).2.1
        rw [q_whole0] at c1
        grind
    subst em
    refine ⟨ms, rfl, fun z => ?_, ?_⟩
    · subst z
      rw [List.mem_singleton] at h1
      cases h1
    · have hne : (whole 0 :: ms) ≠ [] := by simp
      obtain ⟨pre, la, hpl⟩ := List.eq_nil_or_concat (whole 0 :: ms) |>.resolve_left hne
      rw [hpl] at hs h1 ⊢
      rw [List.concat_eq_append] at hs h1 ⊢
      rw [List.getLast?_append]
      simp only [List.getLast?_singleton, Option.some_or]
      rcases List.mem_append.mp h1 with z | z
      · have c1 := (List.pairwise_append.mp hs).2.2 _ z la (List.mem_singleton.mpr rfl)
        have c2 := (marks_nm (l := l) (y := la) (by rw [e, hpl, List.concat_eq_append]; simp)).2.2
        rw [q_whole1] at c1
        grind
      · rw [List.mem_singleton] at z
        rw [z]
end Bw
end

section
set_option autoImplicit false
namespace Bw
open VaskyBase Vaskyc

def BestOn (L : List Line) (i : Nat) (a b : Frac) : Prop := ∀ t : Rat, q a < t → t < q b → Best L i t
def Ch (L : List Line) : Frac → List Piece → Frac → Prop
  | _, [], _ => False
  | a, [p], b => p.from_ = a ∧ p.to = b ∧ q a < q b ∧ BestOn L p.i a b
  | a, p :: r :: s, b => p.from_ = a ∧ q a < q p.to ∧ BestOn L p.i a p.to ∧ p.i ≠ r.i ∧ Nm p.to ∧ Ch L p.to (r :: s) b
theorem Ch.first {L : List Line} {a b : Frac} {p : Piece} {r : List Piece} (h : Ch L a (p :: r) b) : p.from_ = a ∧ q a < q p.to ∧ BestOn L p.i a p.to ∧ q p.to ≤ q b := by
  induction r generalizing a p with
  | nil =>
    obtain ⟨h1, h2, h3, h4⟩ := h
    rw [h2]
    exact ⟨h1, h3, h4, Rat.le_refl⟩
  | cons x r ih =>
    obtain ⟨h1, h2, h3, h4, h5, h6⟩ := h
    obtain ⟨_, g2, _, g4⟩ := ih h6
    exact ⟨h1, h2, h3, by grind⟩
/-- two pieces that begin at one share with the same item best just behind it -/
theorem same_item {L : List Line} {i j : Nat} {a b c : Frac} (h1 : BestOn L i a b) (h2 : BestOn L j a c) (hb : q a < q b) (hc : q a < q c) : i = j := by
  rcases Rat.le_total (a := q b) (b := q c) with h | h
  · exact (h1 ((q a + q b) / 2) (by grind) (by grind)).uniq (h2 _ (by grind) (by grind))
  · exact (h1 ((q a + q c) / 2) (by grind) (by grind)).uniq (h2 _ (by grind) (by grind))
theorem no_sooner {L : List Line} {a b c : Frac} {p p' x : Piece} {s s' : List Piece} (h : Ch L a (p :: x :: s) b) (h' : Ch L a (p' :: s') c) : q p'.to ≤ q p.to := by
  by_cases hlt : q p'.to ≤ q p.to
  · exact hlt
  · exfalso
    obtain ⟨_, h2, h3, h4, _, h6⟩ := h
    obtain ⟨_, g2, g3, _⟩ := h'.first
    obtain ⟨_, k2, k3, _⟩ := h6.first
    have e := same_item h3 g3 h2 g2
    have hsub : BestOn L p.i p.to p'.to := fun t h1 h2' => by
      rw [e]
      exact g3 t (by grind) h2'
    exact h4 (same_item hsub k3 (by grind) k2)
theorem Ch.uniq {L : List Line} {b : Frac} (hb : Nm b) : ∀ {P Q : List Piece} {a : Frac}, Ch L a P b → Ch L a Q b → P = Q
  | [], _, _, h, _ => h.elim
  | _ :: _, [], _, _, h => h.elim
  | [p], [p'], a, h, h' => by
    obtain ⟨h1, h2, h3, h4⟩ := h
    obtain ⟨g1, g2, g3, g4⟩ := h'
    have e := same_item h4 g4 h3 g3
    cases p; cases p'
    simp only at h1 h2 g1 g2 e
    subst h1; subst h2; subst e; subst g1; subst g2
    rfl
  | [p], p' :: r' :: s', a, h, h' => by
    exfalso
    have k := no_sooner h' h
    obtain ⟨h1, h2, h3, h4⟩ := h
    obtain ⟨_, _, _, _, _, g6⟩ := h'
    obtain ⟨_, k2, _, k4⟩ := g6.first
    rw [h2] at k
    grind
  | p :: r :: s, [p'], a, h, h' => by
    exfalso
    have k := no_sooner h h'
    obtain ⟨h1, h2, h3, h4⟩ := h'
    obtain ⟨_, _, _, _, _, g6⟩ := h
    obtain ⟨_, k2, _, k4⟩ := g6.first
    rw [h2] at k
    grind
  | p :: r :: s, p' :: r' :: s', a, h, h' => by
    have k1 := no_sooner h h'
    have k2 := no_sooner h' h
    obtain ⟨h1, h2, h3, h4, h5, h6⟩ := h
    obtain ⟨g1, g2, g3, g4, g5, g6⟩ := h'
    have et : p.to = p'.to := q_inj h5 g5 (by grind)
    have e := same_item h3 g3 h2 g2
    rw [← et] at g6
    have er := Ch.uniq hb h6 g6
    rw [er]
    cases p; cases p'
    simp only at h1 g1 et e
    subst h1; subst g1; subst et; subst e
    rfl
/-! ### putPiece -/
theorem Ch.ne {L : List Line} {a b : Frac} {P : List Piece} (h : Ch L a P b) : P ≠ [] := by
  intro e; subst e; exact h
theorem Ch.snoc {L : List Line} {c d : Frac} {i : Nat} (hc : Nm c) (hcd : q c < q d) (hB : BestOn L i c d) : ∀ {P : List Piece} {a : Frac}, Ch L a P c → (∀ z, P.getLast? = some z → z.i ≠ i) → Ch L a (P ++ [⟨i, c, d⟩]) d
  | [], _, h, _ => h.elim
  | [p], a, h, hl => by
    obtain ⟨h1, h2, h3, h4⟩ := h
    subst h2
    exact ⟨h1, h3, h4, hl p rfl, hc, rfl, rfl, hcd, hB⟩
  | p :: r :: s, a, h, hl => by
    obtain ⟨h1, h2, h3, h4, h5, h6⟩ := h
    exact ⟨h1, h2, h3, h4, h5, Ch.snoc hc hcd hB h6 fun z hz => hl z (by rw [List.getLast?_cons_cons]; exact hz)⟩
theorem Ch.ext {L : List Line} {c d : Frac} (hcd : q c < q d) (join : ∀ i a, q a < q c → BestOn L i a c → BestOn L i c d → BestOn L i a d) : ∀ {P : List Piece} {a : Frac} {z : Piece}, Ch L a P c → P.getLast? = some z → BestOn L z.i c d → Ch L a (P.dropLast ++ [⟨z.i, z.from_, d⟩]) d
  | [], _, _, h, _, _ => h.elim
  | [p], a, z, h, hl, hB => by
    have ez : p = z := Option.some.inj hl
    subst ez
    obtain ⟨h1, h2, h3, h4⟩ := h
    exact ⟨h1, rfl, by grind, join _ _ h3 h4 hB⟩
  | p :: r :: s, a, z, h, hl, hB => by
    obtain ⟨h1, h2, h3, h4, h5, h6⟩ := h
    have ih := Ch.ext hcd join h6 (by rw [List.getLast?_cons_cons] at hl; exact hl) hB
    show Ch L a (p :: ((r :: s).dropLast ++ [⟨z.i, z.from_, d⟩])) d
    cases e : (r :: s).dropLast ++ [⟨z.i, z.from_, d⟩] with
    | nil => simp at e
    | cons r' s' =>
      rw [e] at ih
      refine ⟨h1, h2, h3, ?_, h5, ih⟩
      have er : r'.i = r.i := by
        cases s with
        | nil =>
          have ez : r = z := by
            rw [List.getLast?_cons_cons] at hl
            exact Option.some.inj hl
          simp at e
          rw [← e.1, ez]
        | cons s1 s2 =>
          simp at e
          rw [← e.1]
      rw [er]
      exact h4
theorem vl_join {x y : Line} {t1 t2 c : Rat} (h1 : t1 < c) (h2 : c < t2) (a1 : vl y t1 ≤ vl x t1) (a2 : vl y t2 ≤ vl x t2) : vl y c ≤ vl x c := by
  unfold vl at *
  generalize (x.1 : Rat) = x1 at *
  generalize (x.2 : Rat) = x2 at *
  generalize (y.1 : Rat) = y1 at *
  generalize (y.2 : Rat) = y2 at *
  rcases Rat.le_total (a := y2) (b := x2) with h | h
  · have : t1 * (x2 - y2) ≤ c * (x2 - y2) := Rat.mul_le_mul_of_nonneg_right (by grind) (by grind)
    grind
  · have : t2 * (y2 - x2) ≥ c * (y2 - x2) := Rat.mul_le_mul_of_nonneg_right (by grind) (by grind)
    grind
theorem vl_join_lt {x y : Line} {t1 t2 c : Rat} (h1 : t1 < c) (h2 : c < t2) (a1 : vl y t1 < vl x t1) (a2 : vl y t2 < vl x t2) : vl y c < vl x c := by
  unfold vl at *
  generalize (x.1 : Rat) = x1 at *
  generalize (x.2 : Rat) = x2 at *
  generalize (y.1 : Rat) = y1 at *
  generalize (y.2 : Rat) = y2 at *
  rcases Rat.le_total (a := y2) (b := x2) with h | h
  · have : t1 * (x2 - y2) ≤ c * (x2 - y2) := Rat.mul_le_mul_of_nonneg_right (by grind) (by grind)
    grind
  · have : t2 * (y2 - x2) ≥ c * (y2 - x2) := Rat.mul_le_mul_of_nonneg_right (by grind) (by grind)
    grind
/-- Best, told by each line -/
theorem best_iff {L : List Line} {i : Nat} {t : Rat} : Best L i t ↔ ∃ x, L[i]? = some x ∧ (∀ (j : Nat) (y : Line), L[j]? = some y → vl y t ≤ vl x t) ∧ ∀ (j : Nat) (y : Line), j < i → L[j]? = some y → vl y t < vl x t := by
  constructor
  · rintro ⟨⟨x, hx, ha⟩, hn⟩
    refine ⟨x, hx, fun j y hy => ha y (List.mem_of_getElem? hy), fun j y hj hy => ?_⟩
    have h1 := ha y (List.mem_of_getElem? hy)
    by_cases h : vl y t < vl x t
    · exact h
    · exact absurd ⟨y, hy, fun z hz => by have := ha z hz; grind⟩ (hn j hj)
  · rintro ⟨x, hx, ha, hl⟩
    refine ⟨⟨x, hx, fun y hy => ?_⟩, fun j hj ⟨y, hy, hb⟩ => ?_⟩
    · obtain ⟨j, hj⟩ := List.mem_iff_getElem?.mp hy
      exact ha j y hj
    · have h1 := hl j y hj hy
      have h2 := hb x (List.mem_of_getElem? hx)
      grind
theorem bestOn_join {L : List Line} {i : Nat} {a c d : Frac} (hac : q a < q c) (hcd : q c < q d) (h1 : BestOn L i a c) (h2 : BestOn L i c d) : BestOn L i a d := by
  intro t ht1 ht2
  rcases Rat.le_total (a := t) (b := q c) with h | h
  · by_cases e : t = q c
    · subst e
      have b1 := best_iff.mp (h1 ((q a + q c) / 2) (by grind) (by grind))
      have b2 := best_iff.mp (h2 ((q c + q d) / 2) (by grind) (by grind))
      obtain ⟨x, hx, m1, l1⟩ := b1
      obtain ⟨x', hx', m2, l2⟩ := b2
      rw [hx] at hx'
      cases hx'
      exact best_iff.mpr ⟨x, hx, fun j y hy => vl_join (t1 := (q a + q c) / 2) (t2 := (q c + q d) / 2) (by grind) (by grind) (m1 j y hy) (m2 j y hy),
        fun j y hj hy => vl_join_lt (t1 := (q a + q c) / 2) (t2 := (q c + q d) / 2) (by grind) (by grind) (l1 j y hj hy) (l2 j y hj hy)⟩
    · exact h1 t ht1 (by grind)
  · by_cases e : t = q c
    · subst e
      have b1 := best_iff.mp (h1 ((q a + q c) / 2) (by grind) (by grind))
      have b2 := best_iff.mp (h2 ((q c + q d) / 2) (by grind) (by grind))
      obtain ⟨x, hx, m1, l1⟩ := b1
      obtain ⟨x', hx', m2, l2⟩ := b2
      rw [hx] at hx'
      cases hx'
      exact best_iff.mpr ⟨x, hx, fun j y hy => vl_join (t1 := (q a + q c) / 2) (t2 := (q c + q d) / 2) (by grind) (by grind) (m1 j y hy) (m2 j y hy),
        fun j y hj hy => vl_join_lt (t1 := (q a + q c) / 2) (t2 := (q c + q d) / 2) (by grind) (by grind) (l1 j y hj hy) (l2 j y hj hy)⟩
    · exact h2 t (by grind) ht2
/-- between two lines' meeting nothing changes -/
theorem keeps_sign {x y : Line} {a b t1 t2 : Rat} (no : ∀ r : Rat, x.2 ≠ y.2 → r = (((y.1 - x.1 : Int) : Rat) / ((x.2 - y.2 : Int) : Rat)) → a < r → r < b → False)
    (h1 : a < t1) (h2 : t1 < b) (h3 : a < t2) (h4 : t2 < b) (h : vl x t1 < vl y t1) : vl x t2 < vl y t2 := by
  by_cases g : vl x t2 < vl y t2
  · exact g
  · exfalso
    unfold vl at h g
    push_cast at no
    have hne : x.2 ≠ y.2 := fun e => by
      rw [e] at h g
      grind
    have hne' : (x.2 : Rat) ≠ (y.2 : Rat) := fun e => hne (by exact_mod_cast e)
    generalize (x.1 : Rat) = x1 at *
    generalize (x.2 : Rat) = x2 at *
    generalize (y.1 : Rat) = y1 at *
    generalize (y.2 : Rat) = y2 at *
    have hr := no ((y1 - x1) / (x2 - y2)) hne rfl
    have e : (y1 - x1) / (x2 - y2) * (x2 - y2) = y1 - x1 := Rat.div_mul_cancel (by grind)
    generalize (y1 - x1) / (x2 - y2) = r at *
    rcases Rat.le_total (a := y2) (b := x2) with hs | hs
    · -- x rises more: t1 < r ≤ t2
      have hp : 0 < x2 - y2 := by grind
      have c1 : t1 * (x2 - y2) < r * (x2 - y2) := by grind
      have c2 : r * (x2 - y2) ≤ t2 * (x2 - y2) := by grind
      have d1 : t1 < r := (Rat.mul_lt_mul_right hp).mp c1
      have d2 : r ≤ t2 := Rat.le_of_mul_le_mul_right c2 hp
      exact hr (by grind) (by grind)
    · have hp : 0 < y2 - x2 := by grind
      have c1 : r * (y2 - x2) < t1 * (y2 - x2) := by grind
      have c2 : t2 * (y2 - x2) ≤ r * (y2 - x2) := by grind
      have d1 : r < t1 := (Rat.mul_lt_mul_right hp).mp c1
      have d2 : t2 ≤ r := Rat.le_of_mul_le_mul_right c2 hp
      exact hr (by grind) (by grind)
/-- no mark stands between c and d -/
theorem marks_sign {l : List (Int × Int)} {c d : Frac} {X Y : Int × Int} (hX : X ∈ l) (hY : Y ∈ l) (h0 : 0 ≤ q c) (h1 : q d ≤ 1) (no : ∀ f ∈ marks l, ¬ (q c < q f ∧ q f < q d)) {t1 t2 : Rat}
    (a1 : q c < t1) (a2 : t1 < q d) (a3 : q c < t2) (a4 : t2 < q d) (h : vl (lineOf X) t1 < vl (lineOf Y) t1) : vl (lineOf X) t2 < vl (lineOf Y) t2 := by
  refine keeps_sign (a := q c) (b := q d) (fun r hne hr g1 g2 => ?_) a1 a2 a3 a4 h
  have hn : (lineOf X).2 - (lineOf Y).2 ≠ 0 := by omega
  have eq := q_lowest (a := (lineOf Y).1 - (lineOf X).1) hn
  rw [← hr] at eq
  refine no (lowestF ((lineOf Y).1 - (lineOf X).1) ((lineOf X).2 - (lineOf Y).2)) (((marks_spec l).2 _).mpr (.inl ⟨X, hX, Y, hY, mem_crossing.mpr ⟨hne, rfl, ?_, ?_⟩⟩)) ⟨?_, ?_⟩
  · rw [eq]; grind
  · rw [eq]; grind
  · rw [eq]; exact g1
  · rw [eq]; exact g2
theorem seg_best {l : List (Int × Int)} {c d : Frac} (h0 : 0 ≤ q c) (h1 : q d ≤ 1) (no : ∀ f ∈ marks l, ¬ (q c < q f ∧ q f < q d)) {t1 t2 : Rat} {i : Nat}
    (a1 : q c < t1) (a2 : t1 < q d) (a3 : q c < t2) (a4 : t2 < q d) (h : Best (l.map lineOf) i t1) : Best (l.map lineOf) i t2 := by
  obtain ⟨x, hx, m, lt⟩ := best_iff.mp h
  have pre : ∀ (j : Nat) (y : Line), (l.map lineOf)[j]? = some y → ∃ Y ∈ l, y = lineOf Y := fun j y hy => by
    obtain ⟨Y, hY, e⟩ := List.mem_map.mp (List.mem_of_getElem? hy)
    exact ⟨Y, hY, e.symm⟩
  obtain ⟨X, hX, rfl⟩ := pre i x hx
  refine best_iff.mpr ⟨_, hx, fun j y hy => ?_, fun j y hj hy => ?_⟩
  · obtain ⟨Y, hY, rfl⟩ := pre j y hy
    by_cases g : vl (lineOf Y) t2 ≤ vl (lineOf X) t2
    · exact g
    · exfalso
      have := marks_sign hX hY h0 h1 no a3 a4 a1 a2 (by grind)
      have := m j _ hy
      grind
  · obtain ⟨Y, hY, rfl⟩ := pre j y hy
    exact marks_sign hY hX h0 h1 no a1 a2 a3 a4 (lt j _ hj hy)
theorem nm_middle (a b : Frac) (ha : Nm a) (hb : Nm b) : Nm (middle a b) ∧ q (middle a b) = (q a + q b) / 2 := by
  have hpq : 0 < a.den * b.den := Nat.mul_pos ha.pos hb.pos
  have n1 : Nm (frac 1 2) := nm_frac (by decide)
  have n2 : Nm (plus a b) := nm_frac hpq
  have hm : 0 < (frac 1 2).den * (plus a b).den := Nat.mul_pos n1.pos n2.pos
  refine ⟨nm_frac hm, ?_⟩
  have e1 : q (plus a b) = q a + q b := by
    unfold plus
    rw [q_frac hpq]
    have d1 := den_pos ha.pos
    have d2 := den_pos hb.pos
    unfold q
    push_cast
    grind
  have e0 : q (frac 1 2) = 1 / 2 := by
    rw [q_frac (by decide)]
    rfl
  unfold middle times
  rw [q_frac hm]
  have d1 := den_pos n1.pos
  have d2 := den_pos n2.pos
  have f1 : ((frac 1 2).num : Rat) = q (frac 1 2) * ((frac 1 2).den : Rat) := by unfold q; grind
  have f2 : ((plus a b).num : Rat) = q (plus a b) * ((plus a b).den : Rat) := by unfold q; grind
  push_cast
  rw [f1, f2, e0, e1]
  have d3 := Rat.mul_pos d1 d2
  generalize ((frac 1 2).den : Rat) = u at *
  generalize ((plus a b).den : Rat) = v at *
  have e3 : 1 / 2 * u * ((q a + q b) * v) = ((q a + q b) / 2) * (u * v) := by grind
  rw [e3]
  exact Rat.mul_div_cancel (by grind)
theorem fold_pieces {l : List (Int × Int)} (hl : l ≠ []) {a : Frac} : ∀ {ms : List Frac} {c : Frac} {r : List Piece}, (∀ y ∈ c :: ms, Nm y ∧ 0 ≤ q y ∧ q y ≤ 1) → Srt (c :: ms) → (∀ f ∈ marks l, q f ≤ q c ∨ f ∈ ms) →
    ((r = [] ∧ c = a) ∨ Ch (l.map lineOf) a r c) → ms ≠ [] →
    ∃ e, (c :: ms).getLast? = some e ∧ Ch (l.map lineOf) a (((c :: ms).zip ms).foldl (fun r x => match (bestAt l (middle x.1 x.2)).head? with
      | some i => putPiece r ⟨i, x.1, x.2⟩
      | none => r) r) e
  | [], _, _, _, _, _, _, h => absurd rfl h
  | d :: ms, c, r, hn, hs, hm, hr, _ => by
    obtain ⟨nc, c0, c1⟩ := hn c (List.mem_cons_self ..)
    obtain ⟨nd, d0, d1⟩ := hn d (List.mem_cons_of_mem _ (List.mem_cons_self ..))
    have hcd : q c < q d := (List.pairwise_cons.mp hs).1 d (List.mem_cons_self ..)
    have hs2 := (List.pairwise_cons.mp hs).2
    have no : ∀ f ∈ marks l, ¬ (q c < q f ∧ q f < q d) := fun f hf ⟨g1, g2⟩ => by
      rcases hm f hf with z | z
      · grind
      · rcases List.mem_cons.mp z with e | e
        · subst e; grind
        · have := (List.pairwise_cons.mp hs2).1 f e
          grind
    obtain ⟨nm, em⟩ := nm_middle c d nc nd
    obtain ⟨i, hi⟩ := head_bestAt_some nm.pos hl
    have hb := head_bestAt nm.pos hi
    have hB : BestOn (l.map lineOf) i c d := fun t g1 g2 => seg_best c0 d1 no (t1 := q (middle c d)) (by rw [em]; grind) (by rw [em]; grind) g1 g2 hb
    have step : Ch (l.map lineOf) a (putPiece r ⟨i, c, d⟩) d := by
      rcases hr with ⟨e1, e2⟩ | hr
      · subst e1; subst e2
        exact ⟨rfl, rfl, hcd, hB⟩
      · have hne := hr.ne
        unfold putPiece
        cases e : r.getLast? with
        | none => exact absurd (List.getLast?_eq_none_iff.mp e) hne
        | some z =>
          simp only
          by_cases hz : z.i = i
          · rw [if_pos hz]
            exact hr.ext hcd (fun j a' g1 g2 g3 => bestOn_join g1 hcd g2 g3) e (by rw [hz]; exact hB)
          · rw [if_neg hz]
            exact hr.snoc nc hcd hB fun w hw => by rw [e] at hw; cases hw; exact hz
    rw [List.zip_cons_cons, List.foldl_cons]
    simp only [hi]
    cases ms with
    | nil => exact ⟨d, rfl, step⟩
    | cons d2 ms =>
      rw [List.getLast?_cons_cons]
      exact fold_pieces hl (fun y hy => hn y (List.mem_cons_of_mem _ hy)) hs2 (fun f hf => by
        rcases hm f hf with z | z
        · exact .inl (by grind)
        · rcases List.mem_cons.mp z with e | e
          · subst e; exact .inl Rat.le_refl
          · exact .inr e) (.inr step) (by simp)
/-- the specification's pieces -/
theorem pieces_chain {l : List (Int × Int)} (hl : l ≠ []) : Ch (l.map lineOf) (whole 0) (pieces l) (whole 1) := by
  obtain ⟨ms, e, hne, hlast⟩ := marks_form l
  have hs := (marks_spec l).1
  rw [e] at hs
  obtain ⟨z, h1, h2⟩ := fold_pieces hl (a := whole 0) (ms := ms) (c := whole 0) (r := []) (fun y hy => marks_nm (by rw [e]; exact hy)) hs (fun f hf => by
    rw [e] at hf
    rcases List.mem_cons.mp hf with g | g
    · subst g; exact .inl Rat.le_refl
    · exact .inr g) (.inl ⟨rfl, rfl⟩) hne
  rw [hlast] at h1
  cases h1
  unfold pieces
  simp only
  rw [e]
  exact h2
theorem pieces_nil : pieces [] = [] := by decide +kernel
end Bw
end

section
set_option autoImplicit false
namespace Bw
open VaskyBase Vaskyc

/-! ### the program's way: the next piece -/
def ln (L : List Line) (i : Nat) : Line := L.getD i (0, 0)
def crossF (L : List Line) (i j : Nat) : Frac := lowestF ((ln L i).1 - (ln L j).1) ((ln L j).2 - (ln L i).2)
def risers (L : List Line) (i : Nat) : List Nat := (List.range L.length).filter fun j => decide ((ln L i).2 < (ln L j).2)
def crossL (L : List Line) (i : Nat) : List (Frac × Nat) := ((risers L i).map fun j => (crossF L i j, j)).filter fun p => less p.1 (whole 1)
def nearer (L : List Line) (p b : Frac × Nat) : Bool :=
  if p.1 ≠ b.1 then less p.1 b.1 else if (ln L p.2).2 ≠ (ln L b.2).2 then decide ((ln L b.2).2 < (ln L p.2).2) else decide (p.2 < b.2)
def nextStep (L : List Line) (best : Option (Frac × Nat)) (p : Frac × Nat) : Option (Frac × Nat) := match best with
  | none => some p
  | some b => if nearer L p b = true then some p else some b
def nextP (L : List Line) (i : Nat) : Option (Frac × Nat) := (crossL L i).foldl (nextStep L) none
def piecesGo (L : List Line) : Nat → Nat → Frac → List Piece
  | 0, i, s => [⟨i, s, whole 1⟩]
  | n + 1, i, s => match nextP L i with
    | none => [⟨i, s, whole 1⟩]
    | some c => ⟨i, s, c.1⟩ :: piecesGo L n c.2 c.1
/-- i is best next to the share 0, of several the first -/
def IsFirst (L : List Line) (i : Nat) : Prop := i < L.length ∧ ∀ j, j < L.length → (ln L j).1 < (ln L i).1 ∨ ((ln L j).1 = (ln L i).1 ∧ ((ln L j).2 < (ln L i).2 ∨ ((ln L j).2 = (ln L i).2 ∧ i ≤ j)))
theorem ln_at {L : List Line} {i : Nat} {x : Line} (h : L[i]? = some x) : ln L i = x ∧ i < L.length := by
  obtain ⟨h1, h2⟩ := List.getElem?_eq_some_iff.mp h
  refine ⟨?_, h1⟩
  unfold ln
  simp [List.getD, h]
theorem ln_get {L : List Line} {i : Nat} (h : i < L.length) : L[i]? = some (ln L i) := by
  unfold ln
  simp [List.getD, h]
/-- just behind s: the item i is best -/
def Beg (L : List Line) (i : Nat) (s : Rat) : Prop := i < L.length ∧ ∀ j, j < L.length → vl (ln L j) s < vl (ln L i) s ∨ (vl (ln L j) s = vl (ln L i) s ∧ ((ln L j).2 < (ln L i).2 ∨ ((ln L j).2 = (ln L i).2 ∧ i ≤ j)))
theorem first_Beg {L : List Line} {i : Nat} (h : IsFirst L i) : Beg L i 0 := by
  refine ⟨h.1, fun j hj => ?_⟩
  have e : ∀ x : Line, vl x 0 = (x.1 : Rat) := fun x => by unfold vl; grind
  rw [e, e]
  rcases h.2 j hj with z | ⟨z, y⟩
  · exact .inl (by exact_mod_cast z)
  · exact .inr ⟨by rw [z], y⟩
/-- p is at most as near as b, or is it -/
def Far (L : List Line) (b p : Frac × Nat) : Prop := q b.1 < q p.1 ∨ (b.1 = p.1 ∧ ((ln L p.2).2 < (ln L b.2).2 ∨ ((ln L p.2).2 = (ln L b.2).2 ∧ b.2 ≤ p.2)))
theorem Far.refl (L : List Line) (b : Frac × Nat) : Far L b b := .inr ⟨rfl, .inr ⟨rfl, Nat.le_refl _⟩⟩
theorem Far.trans {L : List Line} {a b c : Frac × Nat} (h1 : Far L a b) (h2 : Far L b c) : Far L a c := by
  unfold Far at *
  rcases h1 with h1 | ⟨e1, h1⟩ <;> rcases h2 with h2 | ⟨e2, h2⟩
  · exact .inl (by grind)
  · exact .inl (by rw [← e2]; exact h1)
  · exact .inl (by rw [e1]; exact h2)
  · refine .inr ⟨e1.trans e2, ?_⟩
    omega
theorem nearer_far {L : List Line} {p b : Frac × Nat} (hp : Nm p.1) (hb : Nm b.1) : (nearer L p b = true → Far L p b) ∧ (nearer L p b = false → Far L b p) := by
  unfold nearer Far
  by_cases h : p.1 ≠ b.1
  · rw [if_pos h]
    have hq : q p.1 ≠ q b.1 := fun e => h (q_inj hp hb e)
    have e := less_q hp.pos hb.pos
    constructor
    · intro z; exact .inl (e.mp z)
    · intro z
      refine .inl ?_
      have : ¬ q p.1 < q b.1 := fun g => by rw [e.mpr g] at z; cases z
      grind
  · rw [if_neg h]
    have h' : p.1 = b.1 := Classical.not_not.mp h
    by_cases g : (ln L p.2).2 ≠ (ln L b.2).2
    · rw [if_pos g]
      constructor
      · intro z
        have z := of_decide_eq_true z
        exact .inr ⟨h', .inl z⟩
      · intro z
        have z := of_decide_eq_false z
        exact .inr ⟨h'.symm, .inl (by omega)⟩
    · rw [if_neg g]
      have g' : (ln L p.2).2 = (ln L b.2).2 := Classical.not_not.mp g
      constructor
      · intro z
        have z := of_decide_eq_true z
        exact .inr ⟨h', .inr ⟨g'.symm, by omega⟩⟩
      · intro z
        have z := of_decide_eq_false z
        exact .inr ⟨h'.symm, .inr ⟨g', by omega⟩⟩
theorem fold_next {L : List Line} : ∀ {l : List (Frac × Nat)} {o : Option (Frac × Nat)}, (∀ p ∈ l, Nm p.1) → (∀ b, o = some b → Nm b.1) →
    match l.foldl (nextStep L) o with
    | none => l = [] ∧ o = none
    | some b => (b ∈ l ∨ o = some b) ∧ (∀ p ∈ l, Far L b p) ∧ (∀ p, o = some p → Far L b p)
  | [], none, _, _ => ⟨rfl, rfl⟩
  | [], some b, _, _ => ⟨.inr rfl, fun p hp => absurd hp (by simp), fun p hp => by cases hp; exact Far.refl L b⟩
  | p :: l, o, hl, ho => by
    have hp := hl p (List.mem_cons_self ..)
    rw [List.foldl_cons]
    have hn : ∀ b, nextStep L o p = some b → Nm b.1 := fun b hb => by
      unfold nextStep at hb
      cases o with
      | none => cases hb; exact hp
      | some b0 =>
        simp only at hb
        split at hb
        · cases hb; exact hp
        · cases hb; exact ho _ rfl
    have ih := fold_next (L := L) (l := l) (o := nextStep L o p) (fun x hx => hl x (List.mem_cons_of_mem _ hx)) hn
    have hs : ∃ b0, nextStep L o p = some b0 ∧ (b0 = p ∨ o = some b0) ∧ Far L b0 p ∧ ∀ x, o = some x → Far L b0 x := by
      unfold nextStep
      cases o with
      | none => exact ⟨p, rfl, .inl rfl, Far.refl L p, fun x hx => by cases hx⟩
      | some b0 =>
        simp only
        have nf := nearer_far (L := L) hp (ho b0 rfl)
        cases hnr : nearer L p b0 with
        | true => exact ⟨p, by simp, .inl rfl, Far.refl L p, fun x hx => by cases hx; exact nf.1 hnr⟩
        | false => exact ⟨b0, by simp, .inr rfl, nf.2 hnr, fun x hx => by cases hx; exact Far.refl L b0⟩
    obtain ⟨b0, e0, m0, f0, g0⟩ := hs
    rw [e0] at ih ⊢
    cases e : l.foldl (nextStep L) (some b0) with
    | none =>
      rw [e] at ih
      cases ih.2
    | some b =>
      rw [e] at ih
      obtain ⟨h1, h2, h3⟩ := ih
      refine ⟨?_, fun x hx => ?_, fun x hx => (h3 b0 rfl).trans (g0 x hx)⟩
      · rcases h1 with z | z
        · exact .inl (List.mem_cons_of_mem _ z)
        · cases z
          rcases m0 with y | y
          · exact .inl (by rw [y]; exact List.mem_cons_self ..)
          · exact .inr y
      · rcases List.mem_cons.mp hx with z | z
        · subst z; exact (h3 b0 rfl).trans f0
        · exact h2 x z
theorem mem_risers {L : List Line} {i j : Nat} : j ∈ risers L i ↔ (j < L.length ∧ (ln L i).2 < (ln L j).2) := by
  unfold risers
  rw [List.mem_filter, List.mem_range, decide_eq_true_eq]
theorem mem_crossL {L : List Line} {i : Nat} {p : Frac × Nat} : p ∈ crossL L i ↔ (p.2 < L.length ∧ (ln L i).2 < (ln L p.2).2 ∧ p.1 = crossF L i p.2 ∧ q p.1 < 1) := by
  unfold crossL
  rw [List.mem_filter, List.mem_map]
  constructor
  · rintro ⟨⟨j, hj, rfl⟩, hl⟩
    obtain ⟨h1, h2⟩ := mem_risers.mp hj
    have hn : Nm (crossF L i j) := nm_lowest (by omega)
    refine ⟨h1, h2, rfl, ?_⟩
    have := (less_q hn.pos (nm_whole 1).pos).mp hl
    rw [q_whole1] at this
    exact this
  · rintro ⟨h1, h2, h3, h4⟩
    refine ⟨⟨p.2, mem_risers.mpr ⟨h1, h2⟩, by rw [← h3]⟩, ?_⟩
    have hn : Nm p.1 := by rw [h3]; exact nm_lowest (by omega)
    exact (less_q hn.pos (nm_whole 1).pos).mpr (by rw [q_whole1]; exact h4)
theorem nm_crossL {L : List Line} {i : Nat} {p : Frac × Nat} (h : p ∈ crossL L i) : Nm p.1 := by
  obtain ⟨h1, h2, h3, h4⟩ := mem_crossL.mp h
  rw [h3]
  exact nm_lowest (by omega)
/-- two lines, the second rising more: who is ahead, by where they meet -/
theorem cross_sides {L : List Line} {i j : Nat} (h : (ln L i).2 < (ln L j).2) (t : Rat) : (t < q (crossF L i j) ↔ vl (ln L j) t < vl (ln L i) t) ∧ (t = q (crossF L i j) ↔ vl (ln L j) t = vl (ln L i) t) := by
  have hn : (ln L j).2 - (ln L i).2 ≠ 0 := by omega
  have e := q_lowest (a := (ln L i).1 - (ln L j).1) hn
  have hp : (0 : Rat) < (((ln L j).2 - (ln L i).2 : Int) : Rat) := by
    have : 0 < (ln L j).2 - (ln L i).2 := by omega
    exact_mod_cast this
  unfold crossF
  rw [e]
  unfold vl
  push_cast at hp ⊢
  generalize ((ln L i).1 : Rat) = x1 at *
  generalize ((ln L i).2 : Rat) = x2 at *
  generalize ((ln L j).1 : Rat) = y1 at *
  generalize ((ln L j).2 : Rat) = y2 at *
  have er : (x1 - y1) / (y2 - x2) * (y2 - x2) = x1 - y1 := Rat.div_mul_cancel (by grind)
  generalize (x1 - y1) / (y2 - x2) = r at *
  have m := Rat.mul_lt_mul_right hp (a := t) (b := r)
  constructor
  · rw [← m]
    constructor
    · intro z; grind
    · intro z; grind
  · constructor
    · intro z; subst z; grind
    · intro z
      have m2 := Rat.mul_lt_mul_right hp (a := r) (b := t)
      have e3 : t * (y2 - x2) = r * (y2 - x2) := by grind
      rw [e3] at m m2
      grind
theorem rise_le {x y : Line} {s t : Rat} (h : y.2 ≤ x.2) (hst : s ≤ t) : (vl y s < vl x s → vl y t < vl x t) ∧ (vl y s ≤ vl x s → vl y t ≤ vl x t) := by
  have h' : (y.2 : Rat) ≤ (x.2 : Rat) := by exact_mod_cast h
  unfold vl
  generalize (x.1 : Rat) = x1 at *
  generalize (x.2 : Rat) = x2 at *
  generalize (y.1 : Rat) = y1 at *
  generalize (y.2 : Rat) = y2 at *
  have : s * (x2 - y2) ≤ t * (x2 - y2) := Rat.mul_le_mul_of_nonneg_right hst (by grind)
  constructor <;> intro z <;> grind
/-- a piece of the program's: up to c the item stays best, if no line that rises more is met ahead of it -/
theorem best_to {L : List Line} {i : Nat} {s : Frac} {c : Frac} (hs : Beg L i (q s)) (hc : ∀ j, j < L.length → (ln L i).2 < (ln L j).2 → q c ≤ q (crossF L i j)) : BestOn L i s c := by
  intro t h1 h2
  have hle : q s ≤ t := by grind
  have key : ∀ j, j < L.length → vl (ln L j) t ≤ vl (ln L i) t ∧ (j < i → vl (ln L j) t < vl (ln L i) t) := fun j hj => by
    by_cases hr : (ln L i).2 < (ln L j).2
    · have := hc j hj hr
      have g := (cross_sides hr t).1.mp (by grind)
      exact ⟨by grind, fun _ => g⟩
    · have hr' : (ln L j).2 ≤ (ln L i).2 := by omega
      obtain ⟨r1, r2⟩ := rise_le hr' hle
      rcases hs.2 j hj with z | ⟨z, y⟩
      · have := r1 z
        exact ⟨by grind, fun _ => this⟩
      · refine ⟨r2 (by grind), fun hji => ?_⟩
        have hlt : (ln L j).2 < (ln L i).2 := by omega
        have hlt' : ((ln L j).2 : Rat) < ((ln L i).2 : Rat) := by exact_mod_cast hlt
        unfold vl at z ⊢
        generalize ((ln L i).1 : Rat) = x1 at *
        generalize ((ln L i).2 : Rat) = x2 at *
        generalize ((ln L j).1 : Rat) = y1 at *
        generalize ((ln L j).2 : Rat) = y2 at *
        have hp : 0 < x2 - y2 := by grind
        have m := (Rat.mul_lt_mul_right hp (a := q s) (b := t)).mpr h1
        grind
  refine best_iff.mpr ⟨ln L i, ln_get hs.1, fun j y hy => ?_, fun j y hj hy => ?_⟩
  · obtain ⟨e, hj'⟩ := ln_at hy
    rw [← e]
    exact (key j hj').1
  · obtain ⟨e, hj'⟩ := ln_at hy
    rw [← e]
    exact (key j hj').2 hj
theorem next_none {L : List Line} {i : Nat} (h : nextP L i = none) : crossL L i = [] := by
  have f := fold_next (L := L) (l := crossL L i) (o := none) (fun p hp => nm_crossL hp) (fun b hb => by cases hb)
  unfold nextP at h
  rw [h] at f
  exact f.1
theorem next_some {L : List Line} {i : Nat} {c : Frac × Nat} (h : nextP L i = some c) : c ∈ crossL L i ∧ ∀ p ∈ crossL L i, Far L c p := by
  have f := fold_next (L := L) (l := crossL L i) (o := none) (fun p hp => nm_crossL hp) (fun b hb => by cases hb)
  unfold nextP at h
  rw [h] at f
  refine ⟨f.1.resolve_right (by simp), f.2.1⟩
/-- how many rise more -/
def more (L : List Line) (i : Nat) : Nat := (risers L i).length
theorem more_less {L : List Line} {i j : Nat} (hj : j < L.length) (h : (ln L i).2 < (ln L j).2) : more L j < more L i := by
  unfold more risers
  have sub : ∀ {l : List Nat}, j ∈ l → (l.filter fun k => decide ((ln L j).2 < (ln L k).2)).length < (l.filter fun k => decide ((ln L i).2 < (ln L k).2)).length := by
    have le : ∀ l : List Nat, (l.filter fun k => decide ((ln L j).2 < (ln L k).2)).length ≤ (l.filter fun k => decide ((ln L i).2 < (ln L k).2)).length := by
      intro l
      induction l with
      | nil => exact Nat.le_refl _
      | cons a r ih =>
        rw [List.filter_cons, List.filter_cons]
        by_cases h1 : (ln L j).2 < (ln L a).2
        · have h2 : (ln L i).2 < (ln L a).2 := by omega
          simp only [h1, h2, decide_true, if_true, List.length_cons]
          omega
        · by_cases h2 : (ln L i).2 < (ln L a).2
          · simp only [h1, h2, decide_true, decide_false, if_true, List.length_cons]
            simp only [Bool.false_eq_true, if_false]
            omega
          · simp only [h1, h2, decide_false, Bool.false_eq_true, if_false]
            exact ih
    intro l
    induction l with
    | nil => intro hm; cases hm
    | cons a r ih =>
      intro hm
      rw [List.filter_cons, List.filter_cons]
      have hle := le r
      rcases List.mem_cons.mp hm with e | e
      · subst e
        have h1 : ¬ (ln L j).2 < (ln L j).2 := by omega
        simp only [h1, h, decide_true, decide_false, if_true, List.length_cons, Bool.false_eq_true, if_false]
        omega
      · have ih := ih e
        by_cases h1 : (ln L j).2 < (ln L a).2
        · have h2 : (ln L i).2 < (ln L a).2 := by omega
          simp only [h1, h2, decide_true, if_true, List.length_cons]
          omega
        · by_cases h2 : (ln L i).2 < (ln L a).2
          · simp only [h1, h2, decide_true, decide_false, if_true, List.length_cons]
            simp only [Bool.false_eq_true, if_false]
            omega
          · simp only [h1, h2, decide_false, Bool.false_eq_true, if_false]
            exact ih
  exact sub (List.mem_range.mpr hj)
theorem go_chain {L : List Line} : ∀ {n i : Nat} {s : Frac}, more L i ≤ n → Beg L i (q s) → Nm s → q s < 1 → Ch L s (piecesGo L n i s) (whole 1) ∧ ((piecesGo L n i s).head?.map Piece.i) = some i := by
  intro n
  induction n with
  | zero =>
    intro i s hn hs ns h1
    refine ⟨⟨rfl, rfl, by rw [q_whole1]; exact h1, best_to hs fun j hj hr => ?_⟩, rfl⟩
    exfalso
    have hm : j ∈ risers L i := mem_risers.mpr ⟨hj, hr⟩
    have : 0 < more L i := List.length_pos_of_mem hm
    omega
  | succ n ih =>
    intro i s hn hs ns h1
    cases e : nextP L i with
    | none =>
      have hc := next_none e
      have eg : piecesGo L (n + 1) i s = [⟨i, s, whole 1⟩] := by
        show (match nextP L i with | none => _ | some c => _) = _
        rw [e]
      rw [eg]
      refine ⟨⟨rfl, rfl, by rw [q_whole1]; exact h1, best_to hs fun j hj hr => ?_⟩, rfl⟩
      by_cases g : q (crossF L i j) < 1
      · have : (crossF L i j, j) ∈ crossL L i := mem_crossL.mpr ⟨hj, hr, rfl, g⟩
        rw [hc] at this
        cases this
      · rw [q_whole1]
        grind
    | some c =>
      obtain ⟨hm, hf⟩ := next_some e
      obtain ⟨m1, m2, m3, m4⟩ := mem_crossL.mp hm
      have nc := nm_crossL hm
      have eg : piecesGo L (n + 1) i s = ⟨i, s, c.1⟩ :: piecesGo L n c.2 c.1 := by
        show (match nextP L i with | none => _ | some c => _) = _
        rw [e]
      have far : ∀ j, j < L.length → (ln L i).2 < (ln L j).2 → q c.1 ≤ q (crossF L i j) := fun j hj hr => by
        by_cases g : q (crossF L i j) < 1
        · rcases hf (crossF L i j, j) (mem_crossL.mpr ⟨hj, hr, rfl, g⟩) with z | ⟨z, _⟩
          · exact Rat.le_of_lt z
          · rw [z]; exact Rat.le_refl
        · grind
      have hB : BestOn L i s c.1 := best_to hs far
      have hsc : q s < q c.1 := by
        rw [m3]
        refine (cross_sides m2 (q s)).1.mpr ?_
        rcases hs.2 c.2 m1 with z | ⟨_, y⟩
        · exact z
        · omega
      have ec : vl (ln L c.2) (q c.1) = vl (ln L i) (q c.1) := by
        have := (cross_sides m2 (q c.1)).2.mp (by rw [m3])
        exact this
      have hS : Beg L c.2 (q c.1) := by
        refine ⟨m1, fun k hk => ?_⟩
        rw [ec]
        by_cases hr : (ln L i).2 < (ln L k).2
        · by_cases g : q (crossF L i k) < 1
          · rcases hf (crossF L i k, k) (mem_crossL.mpr ⟨hk, hr, rfl, g⟩) with z | ⟨z, y⟩
            · exact .inl ((cross_sides hr (q c.1)).1.mp z)
            · refine .inr ⟨(cross_sides hr (q c.1)).2.mp (by rw [z]), y⟩
          · exact .inl ((cross_sides hr (q c.1)).1.mp (by grind))
        · have hr' : (ln L k).2 ≤ (ln L i).2 := by omega
          obtain ⟨r1, r2⟩ := rise_le hr' (Rat.le_of_lt hsc)
          rcases hs.2 k hk with z | ⟨z, y⟩
          · exact .inl (r1 z)
          · have := r2 (by grind)
            by_cases g : vl (ln L k) (q c.1) < vl (ln L i) (q c.1)
            · exact .inl g
            · exact .inr ⟨by grind, .inl (by omega)⟩
      have hmo : more L c.2 ≤ n := by
        have := more_less m1 m2
        omega
      obtain ⟨ih1, ih2⟩ := ih hmo hS nc m4
      rw [eg]
      refine ⟨?_, rfl⟩
      cases ep : piecesGo L n c.2 c.1 with
      | nil => rw [ep] at ih1; exact ih1.elim
      | cons p r =>
        rw [ep] at ih1 ih2
        have ei : p.i = c.2 := Option.some.inj ih2
        refine ⟨rfl, hsc, hB, ?_, nc, ih1⟩
        show i ≠ p.i
        rw [ei]
        intro z
        rw [z] at m2
        omega
/-- **pieces**: the program's and the specification's -/
theorem pieces_are {l : List (Int × Int)} {i : Nat} (hf : IsFirst (l.map lineOf) i) {n : Nat} (hn : more (l.map lineOf) i ≤ n) : piecesGo (l.map lineOf) n i (whole 0) = pieces l := by
  have hl : l ≠ [] := fun e => by
    subst e
    exact absurd hf.1 (by simp)
  refine Ch.uniq (nm_whole 1) (go_chain hn ?_ (nm_whole 0) ?_).1 (pieces_chain hl)
  · rw [q_whole0]; exact first_Beg hf
  · rw [q_whole0]; decide
end Bw
end

section
set_option autoImplicit false
namespace Bw
open VaskyBase Vaskyc

def greaterF (a b : Frac) : Frac := if less a b = true then b else a
def lesserF (a b : Frac) : Frac := if less b a = true then b else a
def narrowed (e : Option (Frac × Frac)) (x o : Line) : Option (Frac × Frac) := match e with
  | none => none
  | some e =>
    if x.2 - o.2 = 0 then (if 0 ≤ x.1 - o.1 then some e else none)
    else
      let found := if 0 < x.2 - o.2 then (greaterF e.1 (lowestF (0 - (x.1 - o.1)) (x.2 - o.2)), e.2) else (e.1, lesserF e.2 (lowestF (0 - (x.1 - o.1)) (x.2 - o.2)))
      if less found.2 found.1 = true then none else some found
def sharesM (L : List Line) (i : Nat) : Option (Frac × Frac) := L.foldl (fun e o => narrowed e (ln L i) o) (some (whole 0, whole 1))
/-- a share's place among the lines gone through: an end, or a meeting with one of them -/
def Mrk (x : Line) (pre : List Line) (f : Frac) : Prop := Nm f ∧ (f = whole 0 ∨ f = whole 1 ∨ ∃ o ∈ pre, x.2 ≠ o.2 ∧ f = lowestF (o.1 - x.1) (x.2 - o.2))
def Shr (x : Line) (pre : List Line) : Option (Frac × Frac) → Prop
  | none => ∀ t : Rat, 0 ≤ t → t ≤ 1 → ¬ ∀ o ∈ pre, vl o t ≤ vl x t
  | some e => Mrk x pre e.1 ∧ Mrk x pre e.2 ∧ 0 ≤ q e.1 ∧ q e.1 ≤ q e.2 ∧ q e.2 ≤ 1 ∧ ∀ t : Rat, 0 ≤ t → t ≤ 1 → ((∀ o ∈ pre, vl o t ≤ vl x t) ↔ (q e.1 ≤ t ∧ t ≤ q e.2))
theorem Mrk.mono {x : Line} {pre : List Line} {o : Line} {f : Frac} (h : Mrk x pre f) : Mrk x (pre ++ [o]) f := by
  refine ⟨h.1, ?_⟩
  rcases h.2 with z | z | ⟨p, hp, z⟩
  · exact .inl z
  · exact .inr (.inl z)
  · exact .inr (.inr ⟨p, List.mem_append_left _ hp, z⟩)
theorem greater_q {a b : Frac} (ha : Nm a) (hb : Nm b) : (greaterF a b = a ∨ greaterF a b = b) ∧ q a ≤ q (greaterF a b) ∧ q b ≤ q (greaterF a b) := by
  unfold greaterF
  have e := less_q ha.pos hb.pos
  by_cases h : less a b = true
  · rw [if_pos h]
    have := e.mp h
    exact ⟨.inr rfl, by grind, Rat.le_refl⟩
  · rw [if_neg h]
    have : ¬ q a < q b := fun z => h (e.mpr z)
    exact ⟨.inl rfl, Rat.le_refl, by grind⟩
theorem lesser_q {a b : Frac} (ha : Nm a) (hb : Nm b) : (lesserF a b = a ∨ lesserF a b = b) ∧ q (lesserF a b) ≤ q a ∧ q (lesserF a b) ≤ q b := by
  unfold lesserF
  have e := less_q hb.pos ha.pos
  by_cases h : less b a = true
  · rw [if_pos h]
    have := e.mp h
    exact ⟨.inr rfl, by grind, Rat.le_refl⟩
  · rw [if_neg h]
    have : ¬ q b < q a := fun z => h (e.mpr z)
    exact ⟨.inl rfl, Rat.le_refl, by grind⟩
/-- x against o, by where they meet -/
theorem meet_sides {x o : Line} (h : x.2 - o.2 ≠ 0) (t : Rat) : (0 < x.2 - o.2 → (vl o t ≤ vl x t ↔ q (lowestF (0 - (x.1 - o.1)) (x.2 - o.2)) ≤ t)) ∧ (x.2 - o.2 < 0 → (vl o t ≤ vl x t ↔ t ≤ q (lowestF (0 - (x.1 - o.1)) (x.2 - o.2)))) := by
  have e := q_lowest (a := 0 - (x.1 - o.1)) h
  rw [e]
  have hne : (((x.2 - o.2 : Int)) : Rat) ≠ 0 := fun z => h (by exact_mod_cast z)
  have er : ((0 - (x.1 - o.1) : Int) : Rat) / ((x.2 - o.2 : Int) : Rat) * ((x.2 - o.2 : Int) : Rat) = ((0 - (x.1 - o.1) : Int) : Rat) := Rat.div_mul_cancel hne
  generalize ((0 - (x.1 - o.1) : Int) : Rat) / ((x.2 - o.2 : Int) : Rat) = r at *
  constructor
  · intro hp
    have hp' : (0 : Rat) < ((x.2 - o.2 : Int) : Rat) := by exact_mod_cast hp
    unfold vl
    push_cast at *
    generalize (x.1 : Rat) = x1 at *
    generalize (x.2 : Rat) = x2 at *
    generalize (o.1 : Rat) = y1 at *
    generalize (o.2 : Rat) = y2 at *
    have m := Rat.mul_lt_mul_right hp' (a := t) (b := r)
    grind
  · intro hp
    have hp' : (0 : Rat) < ((o.2 - x.2 : Int) : Rat) := by
      have : 0 < o.2 - x.2 := by omega
      exact_mod_cast this
    unfold vl
    push_cast at *
    generalize (x.1 : Rat) = x1 at *
    generalize (x.2 : Rat) = x2 at *
    generalize (o.1 : Rat) = y1 at *
    generalize (o.2 : Rat) = y2 at *
    have m := Rat.mul_lt_mul_right hp' (a := r) (b := t)
    grind
theorem shr_step {x : Line} {pre : List Line} {o : Line} {e : Option (Frac × Frac)} (h : Shr x pre e) : Shr x (pre ++ [o]) (narrowed e x o) := by
  have all : ∀ t : Rat, (∀ p ∈ pre ++ [o], vl p t ≤ vl x t) ↔ ((∀ p ∈ pre, vl p t ≤ vl x t) ∧ vl o t ≤ vl x t) := fun t => by
    constructor
    · intro z
      exact ⟨fun p hp => z p (List.mem_append_left _ hp), z o (List.mem_append_right _ (List.mem_singleton.mpr rfl))⟩
    · rintro ⟨z1, z2⟩ p hp
      rcases List.mem_append.mp hp with y | y
      · exact z1 p y
      · rw [List.mem_singleton] at y
        rw [y]; exact z2
  cases e with
  | none =>
    intro t h0 h1 hall
    exact h t h0 h1 ((all t).mp hall).1
  | some e =>
    obtain ⟨m1, m2, h0, h01, h1, hiff⟩ := h
    unfold narrowed
    simp only
    by_cases hr : x.2 - o.2 = 0
    · rw [if_pos hr]
      have er : x.2 = o.2 := by omega
      by_cases hl : 0 ≤ x.1 - o.1
      · rw [if_pos hl]
        have hle : (o.1 : Rat) ≤ (x.1 : Rat) := by
          have : o.1 ≤ x.1 := by omega
          exact_mod_cast this
        refine ⟨m1.mono, m2.mono, h0, h01, h1, fun t t0 t1 => ?_⟩
        rw [all t, hiff t t0 t1]
        constructor
        · intro z; exact z.1
        · intro z
          refine ⟨z, ?_⟩
          unfold vl
          rw [er]
          grind
      · rw [if_neg hl]
        have hle : (x.1 : Rat) < (o.1 : Rat) := by
          have : x.1 < o.1 := by omega
          exact_mod_cast this
        intro t t0 t1 hall
        have := ((all t).mp hall).2
        unfold vl at this
        rw [er] at this
        grind
    · rw [if_neg hr]
      have nl : Nm (lowestF (0 - (x.1 - o.1)) (x.2 - o.2)) := nm_lowest hr
      have ml : Mrk x (pre ++ [o]) (lowestF (0 - (x.1 - o.1)) (x.2 - o.2)) :=
        ⟨nl, .inr (.inr ⟨o, List.mem_append_right _ (List.mem_singleton.mpr rfl), by omega, by rw [show 0 - (x.1 - o.1) = o.1 - x.1 by omega]⟩)⟩
      by_cases hp : 0 < x.2 - o.2
      · rw [if_pos hp]
        obtain ⟨g1, g2, g3⟩ := greater_q m1.1 nl
        have ng : Mrk x (pre ++ [o]) (greaterF e.1 (lowestF (0 - (x.1 - o.1)) (x.2 - o.2))) := by
          rcases g1 with z | z <;> rw [z]
          · exact m1.mono
          · exact ml
        have key : ∀ t : Rat, 0 ≤ t → t ≤ 1 → ((∀ p ∈ pre ++ [o], vl p t ≤ vl x t) ↔ (q (greaterF e.1 (lowestF (0 - (x.1 - o.1)) (x.2 - o.2))) ≤ t ∧ t ≤ q e.2)) := fun t t0 t1 => by
          rw [all t, hiff t t0 t1, (meet_sides hr t).1 hp]
          constructor
          · rintro ⟨⟨z1, z2⟩, z3⟩
            refine ⟨?_, z2⟩
            rcases g1 with z | z <;> rw [z]
            · exact z1
            · exact z3
          · rintro ⟨z1, z2⟩
            exact ⟨⟨by grind, z2⟩, by grind⟩
        have el := less_q m2.1.pos ng.1.pos
        by_cases hn : less e.2 (greaterF e.1 (lowestF (0 - (x.1 - o.1)) (x.2 - o.2))) = true
        · rw [if_pos hn]
          have := el.mp hn
          intro t t0 t1 hall
          have := (key t t0 t1).mp hall
          grind
        · rw [if_neg hn]
          have : ¬ _ := fun z => hn (el.mpr z)
          exact ⟨ng, m2.mono, by grind, by grind, h1, key⟩
      · rw [if_neg hp]
        have hp' : x.2 - o.2 < 0 := by omega
        obtain ⟨g1, g2, g3⟩ := lesser_q m2.1 nl
        have ng : Mrk x (pre ++ [o]) (lesserF e.2 (lowestF (0 - (x.1 - o.1)) (x.2 - o.2))) := by
          rcases g1 with z | z <;> rw [z]
          · exact m2.mono
          · exact ml
        have key : ∀ t : Rat, 0 ≤ t → t ≤ 1 → ((∀ p ∈ pre ++ [o], vl p t ≤ vl x t) ↔ (q e.1 ≤ t ∧ t ≤ q (lesserF e.2 (lowestF (0 - (x.1 - o.1)) (x.2 - o.2))))) := fun t t0 t1 => by
          rw [all t, hiff t t0 t1, (meet_sides hr t).2 hp']
          constructor
          · rintro ⟨⟨z1, z2⟩, z3⟩
            refine ⟨z1, ?_⟩
            rcases g1 with z | z <;> rw [z]
            · exact z2
            · exact z3
          · rintro ⟨z1, z2⟩
            exact ⟨⟨z1, by grind⟩, by grind⟩
        have el := less_q ng.1.pos m1.1.pos
        by_cases hn : less (lesserF e.2 (lowestF (0 - (x.1 - o.1)) (x.2 - o.2))) e.1 = true
        · rw [if_pos hn]
          have := el.mp hn
          intro t t0 t1 hall
          have := (key t t0 t1).mp hall
          grind
        · rw [if_neg hn]
          have : ¬ _ := fun z => hn (el.mpr z)
          exact ⟨m1.mono, ng, h0, by grind, by grind, key⟩
theorem shr_fold {x : Line} : ∀ {rest pre : List Line} {e : Option (Frac × Frac)}, Shr x pre e → Shr x (pre ++ rest) (rest.foldl (fun e o => narrowed e x o) e)
  | [], pre, e, h => by rw [List.append_nil]; exact h
  | o :: r, pre, e, h => by
    have := shr_fold (rest := r) (shr_step (o := o) h)
    rw [List.append_assoc] at this
    exact this
theorem shr_all (L : List Line) (i : Nat) : Shr (ln L i) L (sharesM L i) := by
  have := shr_fold (x := ln L i) (rest := L) (pre := []) (e := some (whole 0, whole 1)) ⟨⟨nm_whole 0, .inl rfl⟩, ⟨nm_whole 1, .inr (.inl rfl)⟩, by
    simp only
    rw [q_whole0]; decide, by
    simp only
    rw [q_whole0, q_whole1]; decide, by
    simp only
    rw [q_whole1]; decide, fun t h0 h1 => by
    simp only
    rw [q_whole0, q_whole1]
    constructor
    · intro _; exact ⟨h0, h1⟩
    · intro _ o ho; exact absurd ho (by simp)⟩
  exact this
theorem mrk_mark {l : List (Int × Int)} {X : Int × Int} (hX : X ∈ l) {f : Frac} (h : Mrk (lineOf X) (l.map lineOf) f) (h0 : 0 ≤ q f) (h1 : q f ≤ 1) : f ∈ marks l := by
  refine ((marks_spec l).2 f).mpr ?_
  rcases h.2 with z | z | ⟨o, ho, hne, z⟩
  · exact .inr (.inl z)
  · exact .inr (.inr z)
  · by_cases e0 : q f = 0
    · exact .inr (.inl (q_inj h.1 (nm_whole 0) (by rw [e0, q_whole0])))
    · by_cases e1 : q f = 1
      · exact .inr (.inr (q_inj h.1 (nm_whole 1) (by rw [e1, q_whole1])))
      · obtain ⟨Y, hY, rfl⟩ := List.mem_map.mp ho
        exact .inl ⟨X, hX, Y, hY, mem_crossing.mpr ⟨hne, z, by grind, by grind⟩⟩
theorem head_sorted {l : List Frac} (hs : Srt l) {p : Frac → Bool} {f : Frac} (hf : f ∈ l) (hp : p f = true) (hmin : ∀ g ∈ l, p g = true → q f ≤ q g) (hn : ∀ g ∈ l, Nm g) : (l.filter p).head? = some f := by
  have hs2 : Srt (l.filter p) := hs.filter _
  have hm : f ∈ l.filter p := List.mem_filter.mpr ⟨hf, hp⟩
  cases e : l.filter p with
  | nil => rw [e] at hm; cases hm
  | cons a r =>
    rw [e] at hs2 hm
    have ha : a ∈ l.filter p := by rw [e]; exact List.mem_cons_self ..
    obtain ⟨a1, a2⟩ := List.mem_filter.mp ha
    rcases List.mem_cons.mp hm with z | z
    · rw [z]; rfl
    · have := (List.pairwise_cons.mp hs2).1 f z
      have := hmin a a1 a2
      exfalso
      grind
theorem last_sorted {l : List Frac} (hs : Srt l) {p : Frac → Bool} {f : Frac} (hf : f ∈ l) (hp : p f = true) (hmax : ∀ g ∈ l, p g = true → q g ≤ q f) : (l.filter p).getLast? = some f := by
  have hs2 : Srt (l.filter p) := hs.filter _
  have hm : f ∈ l.filter p := List.mem_filter.mpr ⟨hf, hp⟩
  have hne : l.filter p ≠ [] := List.ne_nil_of_mem hm
  obtain ⟨a, la, e⟩ := List.eq_nil_or_concat (l.filter p) |>.resolve_left hne
  rw [List.concat_eq_append] at e
  rw [e] at hs2 hm ⊢
  rw [List.getLast?_append]
  simp only [List.getLast?_singleton, Option.some_or]
  have hla : la ∈ l.filter p := by rw [e]; simp
  obtain ⟨a1, a2⟩ := List.mem_filter.mp hla
  rcases List.mem_append.mp hm with z | z
  · have := (List.pairwise_append.mp hs2).2.2 f z la (List.mem_singleton.mpr rfl)
    have := hmax la a1 a2
    exfalso
    grind
  · rw [List.mem_singleton] at z
    rw [z]
/-- **shares**: the program's and the specification's -/
theorem shares_are {l : List (Int × Int)} {i : Nat} (hi : i < l.length) : sharesOf l i = sharesM (l.map lineOf) i := by
  have h := shr_all (l.map lineOf) i
  have ex : ln (l.map lineOf) i = lineOf l[i] := by
    unfold ln
    simp [List.getD, hi]
  have hX : l[i] ∈ l := List.getElem_mem hi
  have top : ∀ f, f ∈ marks l → ((bestAt l f).contains i = true ↔ ∀ o ∈ l.map lineOf, vl o (q f) ≤ vl (ln (l.map lineOf) i) (q f)) := fun f hf => by
    rw [List.contains_iff_mem, mem_bestAt (marks_nm hf).1.pos]
    have hg : (l.map lineOf)[i]? = some (ln (l.map lineOf) i) := ln_get (by simpa using hi)
    unfold Top
    rw [hg]
    constructor
    · rintro ⟨x, hx, ha⟩
      cases hx
      exact ha
    · intro ha
      exact ⟨_, rfl, ha⟩
  have hs := (marks_spec l).1
  unfold sharesOf
  simp only
  cases e : sharesM (l.map lineOf) i with
  | none =>
    rw [e] at h
    have hnil : ((marks l).filter fun t => (bestAt l t).contains i) = [] := by
      rw [List.filter_eq_nil_iff]
      intro f hf hb
      obtain ⟨nf, f0, f1⟩ := marks_nm hf
      exact h (q f) f0 f1 ((top f hf).mp hb)
    rw [hnil]
    rfl
  | some p =>
    rw [e] at h
    obtain ⟨m1, m2, h0, h01, h1, hiff⟩ := h
    rw [ex] at m1 m2
    have k1 : p.1 ∈ marks l := mrk_mark hX m1 h0 (by grind)
    have k2 : p.2 ∈ marks l := mrk_mark hX m2 (by grind) h1
    have hh := head_sorted hs (p := fun t => (bestAt l t).contains i) k1 ((top _ k1).mpr ((hiff _ h0 (by grind)).mpr ⟨Rat.le_refl, h01⟩)) (fun g hg hb => by
      obtain ⟨ng, g0, g1⟩ := marks_nm hg
      exact ((hiff _ g0 g1).mp ((top g hg).mp hb)).1) (fun g hg => (marks_nm hg).1)
    have hl := last_sorted hs (p := fun t => (bestAt l t).contains i) k2 ((top _ k2).mpr ((hiff _ (by grind) h1).mpr ⟨h01, Rat.le_refl⟩)) (fun g hg hb => by
      obtain ⟨ng, g0, g1⟩ := marks_nm hg
      exact ((hiff _ g0 g1).mp ((top g hg).mp hb)).2)
    simp only [hh, hl]
/-! ### best at a share -/
def worthAt (p d : Int) (x : Line) : Int := d * x.1 + p * x.2
def bestAtM (L : List Line) (p d : Int) : List Nat := (List.range L.length).filter fun i => L.all fun y => decide (worthAt p d y ≤ worthAt p d (ln L i))
theorem bestAt_are {l : List (Int × Int)} {p d : Int} (hd : 0 < d) : bestAt l (frac p d.toNat) = bestAtM (l.map lineOf) p d := by
  have hd' : 0 < d.toNat := by omega
  have nf := nm_frac (a := p) hd'
  have ef := q_frac (a := p) hd'
  have ed : (d.toNat : Rat) = (d : Rat) := by
    have : ((d.toNat : Nat) : Int) = d := by omega
    have e2 : (((d.toNat : Nat) : Int) : Rat) = ((d : Int) : Rat) := by rw [this]
    push_cast at e2
    exact e2
  rw [ed] at ef
  have hdr : (0 : Rat) < (d : Rat) := by exact_mod_cast hd
  have ew : ∀ x : Line, ((worthAt p d x : Int) : Rat) = (d : Rat) * vl x (q (frac p d.toNat)) := fun x => by
    rw [ef]
    unfold worthAt vl
    push_cast
    have : (p : Rat) / (d : Rat) * (d : Rat) = p := Rat.div_mul_cancel (by grind)
    generalize (p : Rat) / (d : Rat) = r at *
    rw [← this]
    grind
  have key : ∀ x y : Int × Int, mixed (frac p d.toNat) x < mixed (frac p d.toNat) y ↔ worthAt p d (lineOf x) < worthAt p d (lineOf y) := fun x y => by
    rw [mixed_lt nf.pos]
    have e : worthAt p d (lineOf x) < worthAt p d (lineOf y) ↔ ((worthAt p d (lineOf x) : Int) : Rat) < ((worthAt p d (lineOf y) : Int) : Rat) := by
      constructor
      · intro z; exact_mod_cast z
      · intro z; exact_mod_cast z
    rw [e, ew, ew]
    exact (Rat.mul_lt_mul_left hdr).symm
  unfold bestAt bestAtM
  rw [List.length_map]
  refine List.filter_congr fun i hi => ?_
  have hi' := List.mem_range.mp hi
  have e1 : l.getD i (0, 0) = l[i] := by simp [List.getD, hi']
  have e2 : ln (l.map lineOf) i = lineOf l[i] := by
    unfold ln
    simp [List.getD, hi']
  rw [e1, e2, Bool.eq_iff_iff, Bool.not_eq_true', List.any_eq_false, List.all_eq_true]
  constructor
  · intro h y hy
    obtain ⟨Y, hY, rfl⟩ := List.mem_map.mp hy
    have := h Y hY
    rw [decide_eq_true_eq, key] at this
    rw [decide_eq_true_eq]
    omega
  · intro h Y hY
    have := h (lineOf Y) (List.mem_map.mpr ⟨Y, hY, rfl⟩)
    rw [decide_eq_true_eq] at this ⊢
    rw [key]
    omega
end Bw
end

section
set_option autoImplicit false
namespace Bw
open VaskyBase Vaskyc

/-! ### scores -/
def weighed (w r : List Int) : Int := ((w.zip r).map fun x => x.1 * x.2).sum
theorem weighed_is : ∀ (w r : List Int), (∀ z ∈ w, 0 ≤ z) → weighed w r = scoreOf (w.map Int.toNat) r
  | [], r, _ => by simp [weighed, scoreOf]
  | _ :: _, [], _ => by simp [weighed, scoreOf]
  | a :: w, b :: r, h => by
    have ih := weighed_is w r fun z hz => h z (List.mem_cons_of_mem _ hz)
    have ha := h a (List.mem_cons_self ..)
    unfold weighed scoreOf at *
    rw [List.map_cons, List.zip_cons_cons, List.zip_cons_cons, List.map_cons, List.map_cons, List.sum_cons, List.sum_cons, ih]
    have : ((a.toNat : Nat) : Int) = a := by omega
    rw [this]
def scoresM (w : List Int) (rows : List (List Int)) : List Int := rows.map (weighed w)
theorem scoresM_is {w : List Int} (h : ∀ z ∈ w, 0 ≤ z) (rows : List (List Int)) : scoresM w rows = Vaskyc.scores rows (w.map Int.toNat) := by
  unfold scoresM Vaskyc.scores
  exact List.map_congr_left fun r _ => weighed_is w r h
def okW (n : Nat) (l : List Int) : Bool := decide (l.length = n) && (l.all fun z => decide (0 ≤ z) && decide (z ≤ 100)) && decide (0 < l.sum)
theorem sum_zero : ∀ {l : List Int}, (∀ z ∈ l, 0 ≤ z) → (l.sum = 0 ↔ ∀ z ∈ l, z = 0) ∧ 0 ≤ l.sum
  | [], _ => by simp
  | a :: r, h => by
    have ha := h a (List.mem_cons_self ..)
    obtain ⟨i1, i2⟩ := sum_zero (l := r) fun z hz => h z (List.mem_cons_of_mem _ hz)
    rw [List.sum_cons]
    refine ⟨⟨fun e z hz => ?_, fun e => ?_⟩, by omega⟩
    · rcases List.mem_cons.mp hz with g | g
      · omega
      · exact i1.mp (by omega) z g
    · have e1 := e a (List.mem_cons_self ..)
      have e2 := i1.mpr fun z hz => e z (List.mem_cons_of_mem _ hz)
      omega
theorem withWeights_is (s : Vaskya.Sheet) (l : List Int) (f : Weights → Answer) : withWeights s l f = if okW s.ms.length l = true then f (l.map Int.toNat) else one (-4) := by
  have e : (l.length ≠ s.ms.length ∨ l.any (fun z => decide (z < 0 ∨ (HEAVY : Int) < z)) = true ∨ l.all (fun z => z == 0) = true) ↔ ¬ okW s.ms.length l = true := by
    unfold okW
    rw [Bool.and_eq_true, Bool.and_eq_true, decide_eq_true_eq, decide_eq_true_eq, List.all_eq_true, List.any_eq_true, List.all_eq_true]
    show (_ ∨ (∃ x ∈ l, decide (x < 0 ∨ ((100 : Nat) : Int) < x) = true) ∨ _) ↔ _
    constructor
    · rintro (h | ⟨x, hx, h⟩ | h) ⟨⟨c1, c2⟩, c3⟩
      · exact h c1
      · have := c2 x hx
        rw [Bool.and_eq_true, decide_eq_true_eq, decide_eq_true_eq] at this
        rw [decide_eq_true_eq] at h
        omega
      · have hz : ∀ z ∈ l, z = 0 := fun z hz => by have := h z hz; simpa using this
        have := (sum_zero fun z hz' => by rw [hz z hz']; exact Int.le_refl 0).1.mpr hz
        omega
    · intro h
      by_cases c1 : l.length ≠ s.ms.length
      · exact .inl c1
      · by_cases c2 : ∃ x ∈ l, decide (x < 0 ∨ ((100 : Nat) : Int) < x) = true
        · exact .inr (.inl c2)
        · refine .inr (.inr fun z hz => ?_)
          have c2' : ∀ x ∈ l, 0 ≤ x ∧ x ≤ 100 := fun x hx => by
            have : ¬ (decide (x < 0 ∨ ((100 : Nat) : Int) < x) = true) := fun g => c2 ⟨x, hx, g⟩
            rw [decide_eq_true_eq] at this
            omega
          have hs := sum_zero fun z hz => (c2' z hz).1
          by_cases g : 0 < l.sum
          · exact absurd ⟨⟨Classical.not_not.mp c1, fun x hx => by
              have := c2' x hx
              rw [Bool.and_eq_true, decide_eq_true_eq, decide_eq_true_eq]
              exact this⟩, g⟩ h
          · have := hs.1.mp (by have := hs.2; omega) z hz
            simp [this]
  unfold withWeights
  by_cases h : okW s.ms.length l = true
  · rw [if_neg (fun z => e.mp z h), if_pos h]
  · rw [if_pos (e.mpr h), if_neg h]
/-! ### in order -/
def ordB (sc : Nat → Int) (i j : Nat) : Bool := decide (0 - sc i < 0 - sc j ∨ (0 - sc i = 0 - sc j ∧ (i : Int) ≤ (j : Int)))
def inOrder (sc : Nat → Int) (items : List Nat) : List Nat := items.mergeSort (ordB sc)
theorem ordB_iff {sc : Nat → Int} {i j : Nat} : ordB sc i j = true ↔ (sc j < sc i ∨ (sc i = sc j ∧ i ≤ j)) := by
  unfold ordB
  rw [decide_eq_true_eq]
  omega
/-- two lists with the same items, both in order, are one -/
theorem ord_uniq {sc : Nat → Int} : ∀ {a b : List Nat}, a.Perm b → a.Pairwise (fun i j => ordB sc i j = true) → b.Pairwise (fun i j => ordB sc i j = true) → a = b
  | [], b, h, _, _ => by
    have := h.length_eq
    cases b with
    | nil => rfl
    | cons _ _ => simp at this
  | x :: a, [], h, _, _ => by have := h.length_eq; simp at this
  | x :: a, y :: b, h, ha, hb => by
    rw [List.pairwise_cons] at ha hb
    have e : x = y := by
      have h1 : y ∈ x :: a := h.mem_iff.mpr (List.mem_cons_self ..)
      have h2 : x ∈ y :: b := h.mem_iff.mp (List.mem_cons_self ..)
      rcases List.mem_cons.mp h1 with z | z
      · exact z.symm
      · rcases List.mem_cons.mp h2 with w | w
        · exact w
        · have o1 := ordB_iff.mp (ha.1 y z)
          have o2 := ordB_iff.mp (hb.1 x w)
          omega
    subst e
    rw [ord_uniq (List.Perm.cons_inv h) ha.2 hb.2]
theorem inOrder_pair (sc : Nat → Int) (items : List Nat) : (inOrder sc items).Pairwise (fun i j => ordB sc i j = true) := by
  refine List.pairwise_mergeSort (le := ordB sc) (fun a b c h1 h2 => ?_) (fun a b => ?_) items
  · rw [ordB_iff] at *
    omega
  · rw [Bool.or_eq_true, ordB_iff, ordB_iff]
    omega
theorem inOrder_perm (sc : Nat → Int) (items : List Nat) : (inOrder sc items).Perm items := List.mergeSort_perm items _
/-- the specification's order -/
def Kept (r : List (Int × Nat)) : Prop := r.Pairwise fun a b => b.1 < a.1 ∨ (a.1 = b.1 ∧ a.2 ≤ b.2)
theorem into_mem {x : Int × Nat} : ∀ {r : List (Int × Nat)} {y : Int × Nat}, y ∈ intoOrder x r ↔ (y = x ∨ y ∈ r)
  | [], y => by simp [intoOrder]
  | z :: r, y => by
    unfold intoOrder
    split
    · simp
    · rw [List.mem_cons, into_mem, List.mem_cons]
      constructor
      · rintro (a | a | a)
        · exact .inr (.inl a)
        · exact .inl a
        · exact .inr (.inr a)
      · rintro (a | a | a)
        · exact .inr (.inl a)
        · exact .inl a
        · exact .inr (.inr a)
theorem into_perm {x : Int × Nat} : ∀ {r : List (Int × Nat)}, (intoOrder x r).Perm (x :: r)
  | [] => List.Perm.refl _
  | z :: r => by
    unfold intoOrder
    split
    · exact List.Perm.refl _
    · exact (List.Perm.cons z into_perm).trans (List.Perm.swap x z r)
theorem into_kept {x : Int × Nat} : ∀ {r : List (Int × Nat)}, Kept r → (∀ y ∈ r, y.2 ≤ x.2) → Kept (intoOrder x r)
  | [], _, _ => by simp [intoOrder, Kept]
  | z :: r, h, hx => by
    unfold Kept at *
    rw [List.pairwise_cons] at h
    unfold intoOrder
    split
    · rename_i hlt
      refine List.pairwise_cons.mpr ⟨fun b hb => ?_, List.pairwise_cons.mpr h⟩
      rcases List.mem_cons.mp hb with e | e
      · rw [e]; exact .inl hlt
      · have := h.1 b e
        have := hx b (List.mem_cons_of_mem _ e)
        omega
    · rename_i hlt
      refine List.pairwise_cons.mpr ⟨fun b hb => ?_, into_kept h.2 fun y hy => hx y (List.mem_cons_of_mem _ hy)⟩
      rcases into_mem.mp hb with e | e
      · rw [e]
        have := hx z (List.mem_cons_self ..)
        omega
      · exact h.1 b e
theorem fold_kept : ∀ {l : List (Int × Nat)} {r : List (Int × Nat)}, Kept r → (l.Pairwise fun a b => a.2 ≤ b.2) → (∀ y ∈ r, ∀ x ∈ l, y.2 ≤ x.2) →
    Kept (l.foldl (fun r x => intoOrder x r) r) ∧ (l.foldl (fun r x => intoOrder x r) r).Perm (r ++ l)
  | [], r, h, _, _ => by rw [List.append_nil]; exact ⟨h, List.Perm.refl _⟩
  | x :: l, r, h, hl, hr => by
    rw [List.pairwise_cons] at hl
    obtain ⟨a, b⟩ := fold_kept (l := l) (r := intoOrder x r) (into_kept h fun y hy => hr y hy x (List.mem_cons_self ..)) hl.2 (fun y hy z hz => by
      rcases into_mem.mp hy with e | e
      · rw [e]; exact hl.1 z hz
      · exact hr y e z (List.mem_cons_of_mem _ hz))
    refine ⟨a, b.trans ?_⟩
    have p1 : (intoOrder x r ++ l).Perm (x :: r ++ l) := List.Perm.append_right l into_perm
    refine p1.trans ?_
    rw [List.cons_append]
    exact List.perm_middle.symm
def scAt (sc : List Int) (i : Nat) : Int := sc.getD i 0
theorem order_is (sc : List Int) : orderOf sc = inOrder (scAt sc) (List.range sc.length) := by
  have hz : (sc.zipIdx).Pairwise (fun a b => a.2 ≤ b.2) := by
    rw [List.pairwise_iff_getElem]
    intro i j hi hj hij
    simp
    omega
  obtain ⟨k, p⟩ := fold_kept (l := sc.zipIdx) (r := []) (by simp [Kept]) hz (fun y hy => by cases hy)
  rw [List.nil_append] at p
  have pm : (orderOf sc).Perm (List.range sc.length) := by
    unfold orderOf
    refine (p.map _).trans ?_
    rw [show (sc.zipIdx.map fun x => x.2) = List.range sc.length from ?_]
    rw [List.zipIdx_map_snd, List.range_eq_range']
  refine ord_uniq (sc := scAt sc) (pm.trans (inOrder_perm _ _).symm) ?_ (inOrder_pair _ _)
  unfold orderOf
  rw [List.pairwise_map]
  refine List.Pairwise.imp_of_mem ?_ k
  intro a b ha hb h
  have ea : ∀ x, x ∈ sc.zipIdx → scAt sc x.2 = x.1 := fun x hx => by
    have := List.mem_zipIdx_iff_getElem?.mp hx
    unfold scAt
    simp [List.getD, this]
  have ha' := ea a (p.mem_iff.mp ha)
  have hb' := ea b (p.mem_iff.mp hb)
  rw [ordB_iff, ha', hb']
  exact h
theorem inOrder_filter (sc : Nat → Int) (items : List Nat) (p : Nat → Bool) : (inOrder sc items).filter p = inOrder sc (items.filter p) :=
  ord_uniq (((inOrder_perm sc items).filter p).trans (inOrder_perm sc _).symm) ((inOrder_pair sc items).filter p) (inOrder_pair sc _)
theorem inOrder_mem {sc : Nat → Int} {items : List Nat} {i : Nat} : i ∈ inOrder sc items ↔ i ∈ items := (inOrder_perm sc items).mem_iff
theorem inOrder_len (sc : Nat → Int) (items : List Nat) : (inOrder sc items).length = items.length := (inOrder_perm sc items).length_eq
theorem order_len (sc : List Int) : (orderOf sc).length = sc.length := by rw [order_is, inOrder_len, List.length_range]
theorem order_mem {sc : List Int} {i : Nat} : i ∈ orderOf sc ↔ i < sc.length := by rw [order_is, inOrder_mem, List.mem_range]
theorem order_nodup (sc : List Int) : (orderOf sc).Nodup := by
  rw [order_is]
  exact (inOrder_perm _ _).nodup_iff.mpr List.nodup_range
end Bw
end

section
set_option autoImplicit false
namespace Bw
open VaskyBase Vaskyc

def wgt (w : List Int) : List Nat := (List.range w.length).filter fun m => decide (0 < w.getD m 0)
theorem getD_map_toNat (w : List Int) (m : Nat) : (w.map Int.toNat).getD m 0 = (w.getD m 0).toNat := by
  simp only [List.getD, List.getElem?_map]
  cases w[m]? <;> rfl
theorem wgt_is (w : List Int) : wgt w = weighty (w.map Int.toNat) := by
  unfold wgt weighty
  rw [List.length_map]
  refine List.filter_congr fun m _ => ?_
  rw [getD_map_toNat, Bool.eq_iff_iff, decide_eq_true_eq, decide_eq_true_eq]
  omega
theorem mem_wgt {w : List Int} {m : Nat} : m ∈ wgt w ↔ (m < w.length ∧ 0 < w.getD m 0) := by
  unfold wgt
  rw [List.mem_filter, List.mem_range, decide_eq_true_eq]
def sortedM (l : List (List Int)) (m : Nat) : List Nat := inOrder (scAt (l.map fun r => r.getD m 0)) (List.range l.length)
theorem sortedM_is (l : List (List Int)) (m : Nat) : sortedM l m = sortedBy l m := by
  unfold sortedM sortedBy
  rw [order_is, List.length_map]
theorem sortedM_mem {l : List (List Int)} {m i : Nat} : i ∈ sortedM l m ↔ i < l.length := by
  unfold sortedM
  rw [inOrder_mem, List.mem_range]
theorem sortedM_len (l : List (List Int)) (m : Nat) : (sortedM l m).length = l.length := by
  unfold sortedM
  rw [inOrder_len, List.length_range]
theorem sortedM_nodup (l : List (List Int)) (m : Nat) : (sortedM l m).Nodup := by
  unfold sortedM
  exact (inOrder_perm _ _).nodup_iff.mpr List.nodup_range
def seenM (l : List (List Int)) (w : List Int) (d : Nat) : List Nat := (List.range l.length).filter fun i => (wgt w).any fun m => ((sortedM l m).take d).contains i
theorem seenM_is (l : List (List Int)) (w : List Int) (d : Nat) : seenM l w d = seenAt l (w.map Int.toNat) d := by
  unfold seenM seenAt
  rw [wgt_is]
  refine List.filter_congr fun i _ => ?_
  congr 1
  funext m
  rw [sortedM_is]
theorem mem_seenM {l : List (List Int)} {w : List Int} {d i : Nat} : i ∈ seenM l w d ↔ ∃ m ∈ wgt w, i ∈ (sortedM l m).take d := by
  unfold seenM
  rw [List.mem_filter, List.mem_range, List.any_eq_true]
  constructor
  · rintro ⟨_, m, hm, h⟩
    exact ⟨m, hm, List.contains_iff_mem.mp h⟩
  · rintro ⟨m, hm, h⟩
    exact ⟨sortedM_mem.mp (List.mem_of_mem_take h), m, hm, List.contains_iff_mem.mpr h⟩
theorem seenM_pair (l : List (List Int)) (w : List Int) (d : Nat) : (seenM l w d).Pairwise (· < ·) := List.pairwise_lt_range.filter _
theorem seenM_nodup (l : List (List Int)) (w : List Int) (d : Nat) : (seenM l w d).Nodup := List.nodup_range.filter _
theorem seenM_lt {l : List (List Int)} {w : List Int} {d i : Nat} (h : i ∈ seenM l w d) : i < l.length := by
  unfold seenM at h
  exact List.mem_range.mp (List.mem_filter.mp h).1
def natI (l : List Nat) : List Int := l.map fun (n : Nat) => (n : Int)
/-- a rising list of whole numbers with the items of another one is that one -/
theorem rising_uniq : ∀ {a b : List Int}, a.Perm b → a.Pairwise (· ≤ ·) → b.Pairwise (· ≤ ·) → a = b
  | [], b, h, _, _ => by
    have := h.length_eq
    cases b with
    | nil => rfl
    | cons _ _ => simp at this
  | x :: a, [], h, _, _ => by have := h.length_eq; simp at this
  | x :: a, y :: b, h, ha, hb => by
    rw [List.pairwise_cons] at ha hb
    have e : x = y := by
      have h1 : y ∈ x :: a := h.mem_iff.mpr (List.mem_cons_self ..)
      have h2 : x ∈ y :: b := h.mem_iff.mp (List.mem_cons_self ..)
      rcases List.mem_cons.mp h1 with z | z
      · exact z.symm
      · rcases List.mem_cons.mp h2 with w | w
        · exact w
        · have o1 := ha.1 y z
          have o2 := hb.1 x w
          omega
    subst e
    rw [rising_uniq (List.Perm.cons_inv h) ha.2 hb.2]
theorem seen_uniq {l : List (List Int)} {w : List Int} {d : Nat} {fs : List Nat} {ns : List Int} (hn : fs.Nodup) (hm : ∀ i, i ∈ fs ↔ ∃ m ∈ wgt w, i ∈ (sortedM l m).take d) (hp : ns.Perm (natI fs)) (hs : ns.Pairwise (· ≤ ·)) :
    ns = natI (seenM l w d) := by
  have p1 : fs.Perm (seenM l w d) := (List.perm_ext_iff_of_nodup hn (seenM_nodup l w d)).mpr fun i => by rw [hm i, mem_seenM]
  refine rising_uniq (hp.trans (p1.map _)) hs ?_
  unfold natI
  rw [List.pairwise_map]
  exact (seenM_pair l w d).imp fun h => by omega
/-! ### the limit, and where one stops -/
def limT (l : List (List Int)) (w : List Int) (d : Nat) (m : Nat) : Int := w.getD m 0 * (l.getD ((sortedM l m).getD (d - 1) 0) []).getD m 0
def limM (l : List (List Int)) (w : List Int) (d : Nat) : Int := ((wgt w).map (limT l w d)).sum
theorem limM_is {l : List (List Int)} {w : List Int} {d : Nat} (h0 : 0 < d) (h1 : d ≤ l.length) : limM l w d = limitAt l (w.map Int.toNat) d := by
  unfold limM limitAt
  rw [wgt_is]
  refine congrArg List.sum (List.map_congr_left fun m hm => ?_)
  rw [← wgt_is, mem_wgt] at hm
  have hlt : d - 1 < (sortedM l m).length := by rw [sortedM_len]; omega
  unfold limT
  rw [getD_map_toNat, ← sortedM_is]
  have e1 : (sortedM l m)[d - 1]? = some ((sortedM l m).getD (d - 1) 0) := by simp [List.getD, hlt]
  rw [e1]
  simp only [Option.map_some, Option.getD_some]
  have : (((w.getD m 0).toNat : Nat) : Int) = w.getD m 0 := by omega
  rw [this]
def cntM (l : List (List Int)) (w : List Int) (d : Nat) : Nat := ((seenM l w d).filter fun i => decide (limM l w d < scAt (scoresM w l) i)).length
def stopM (l : List (List Int)) (w : List Int) (k d : Nat) : Bool := if k = 0 ∨ d = l.length then true else if d = 0 then false else decide (k ≤ cntM l w d)
theorem scAt_scores {l : List (List Int)} {w : List Int} {i : Nat} (h : i < l.length) : scAt (scoresM w l) i = weighed w (l.getD i []) := by
  unfold scAt scoresM
  simp [List.getD, h]
theorem stopM_is {l : List (List Int)} {w : List Int} {k d : Nat} (h : d ≤ l.length) (hw : ∀ z ∈ w, 0 ≤ z) : stopM l w k d = enough l (w.map Int.toNat) k d := by
  unfold stopM enough
  by_cases hk : k = 0
  · subst hk
    simp
  · by_cases hd : d = l.length
    · subst hd
      simp
    · rw [if_neg (by omega)]
      have h1 : ¬ l.length ≤ d := by omega
      have hk2 : (k == 0) = false := by simpa using hk
      by_cases h0 : d = 0
      · subst h0
        simp [h1, hk2]
      · rw [if_neg h0]
        have h0' : 0 < d := by omega
        have ec : cntM l w d = ((seenAt l (w.map Int.toNat) d).filter fun i => decide (limitAt l (w.map Int.toNat) d < scoreOf (w.map Int.toNat) (l.getD i []))).length := by
          unfold cntM
          rw [← seenM_is, ← limM_is h0' h]
          refine congrArg List.length (List.filter_congr fun i hi => ?_)
          rw [scAt_scores (seenM_lt hi), weighed_is w _ hw]
        rw [ec]
        simp [h1, h0', hk2]
def depM (l : List (List Int)) (w : List Int) (k : Nat) : Nat := depthOf l (w.map Int.toNat) k
theorem dep_uniq {l : List (List Int)} {w : List Int} {k : Nat} (hw : ∀ z ∈ w, 0 ≤ z) {m : Int} (hm : m ∈ natI ((List.range (l.length + 1)).filter (stopM l w k))) (ha : ∀ y ∈ natI ((List.range (l.length + 1)).filter (stopM l w k)), m ≤ y) : m = (depM l w k : Int) := by
  obtain ⟨d, hd, rfl⟩ := List.mem_map.mp hm
  obtain ⟨h1, h2⟩ := List.mem_filter.mp hd
  have h1' := List.mem_range.mp h1
  have e : (List.range (l.length + 1)).find? (enough l (w.map Int.toNat) k) = some d := by
    rw [List.find?_range_eq_some]
    refine ⟨by rw [← stopM_is (by omega) hw]; exact h2, h1, fun j hj => ?_⟩
    have hj' : j < l.length + 1 := by omega
    rw [← stopM_is (by omega) hw]
    cases g : stopM l w k j with
    | false => rfl
    | true =>
      have := ha (j : Int) (List.mem_map.mpr ⟨j, List.mem_filter.mpr ⟨List.mem_range.mpr hj', g⟩, rfl⟩)
      omega
  unfold depM depthOf
  rw [e]
  rfl
theorem dep_some (l : List (List Int)) (w : List Int) (k : Nat) : l.length ∈ (List.range (l.length + 1)).filter (stopM l w k) := by
  rw [List.mem_filter, List.mem_range]
  refine ⟨by omega, ?_⟩
  unfold stopM
  rw [if_pos (.inr rfl)]
theorem dep_le {l : List (List Int)} {w : List Int} {k : Nat} : depM l w k ≤ l.length := by
  unfold depM depthOf
  cases e : (List.range (l.length + 1)).find? (enough l (w.map Int.toNat) k) with
  | none => exact Nat.le_refl _
  | some d =>
    have := List.mem_range.mp (List.mem_of_find?_eq_some e)
    show d ≤ l.length
    omega
/-- the first of those seen -/
def firstM (l : List (List Int)) (w : List Int) (k : Nat) : List Nat := (inOrder (scAt (scoresM w l)) (seenM l w (depM l w k))).take k
theorem firstM_is {l : List (List Int)} {w : List Int} {k : Nat} (hw : ∀ z ∈ w, 0 ≤ z) : firstM l w k = topSeen l (w.map Int.toNat) k := by
  unfold firstM topSeen
  simp only
  rw [← scoresM_is hw, order_is, inOrder_filter]
  have e : (List.range (scoresM w l).length).filter (fun i => (seenAt l (w.map Int.toNat) (depthOf l (w.map Int.toNat) k)).contains i) = seenM l w (depM l w k) := by
    unfold depM
    rw [← seenM_is]
    have el : (scoresM w l).length = l.length := List.length_map _
    rw [el]
    unfold seenM
    refine List.filter_congr fun i hi => ?_
    rw [Bool.eq_iff_iff, List.contains_iff_mem, List.mem_filter]
    constructor
    · intro h; exact h.2
    · intro h; exact ⟨hi, h⟩
  rw [e]
theorem topM_is {l : List (List Int)} {w : List Int} {k : Nat} (hw : ∀ z ∈ w, 0 ≤ z) : (inOrder (scAt (scoresM w l)) (List.range l.length)).take k = topBy l (w.map Int.toNat) k := by
  unfold topBy
  rw [← scoresM_is hw, order_is]
  have el : (scoresM w l).length = l.length := List.length_map _
  rw [el]
end Bw
end

section
set_option autoImplicit false
namespace Bw
open VaskyBase Vaskya

inductive Kd | measures | up | down | item | comma | colon | semi | minus | name | number | fin
  deriving DecidableEq
def kdOf : Tok → Kd
  | .name b => if b = word "measures" then .measures else if b = word "up" then .up else if b = word "down" then .down else if b = word "item" then .item else .name
  | .num _ => .number
  | .sign c => if c = 44 then .comma else if c = 58 then .colon else if c = 59 then .semi else .minus
  | .last => .fin
def okTok : Tok → Bool
  | .sign c => decide (c = 44 ∨ c = 58 ∨ c = 59 ∨ c = 45)
  | _ => true
def nameOf : Tok → Bytes
  | .name b => b
  | _ => []
def numOf : Tok → Nat
  | .num n => n
  | _ => 0
def takeM (ks : List Kd) (l : Toks) : Except Fault (PTok × Toks) := match l with
  | [] => .error ⟨3, 0⟩
  | t :: r => if kdOf t.tok ∈ ks then .ok (t, r) else .error ⟨3, t.place⟩
def takeNameM (names : List Bytes) (most : Nat) (l : Toks) : Except Fault (Bytes × Toks) := match l with
  | [] => .error ⟨3, 0⟩
  | t :: r => if kdOf t.tok = .name then (if most ≤ names.length then .error ⟨4, t.place⟩ else if nameOf t.tok ∈ names then .error ⟨5, t.place⟩ else .ok (nameOf t.tok, r)) else .error ⟨3, t.place⟩
def measLoop : Nat → List Bytes → List Bool → Toks → Except Fault (List Bool × Toks)
  | 0, _, _, l => wrong l
  | n + 1, names, ups, l => (takeNameM names 4 l).bind fun x => (takeM [.up, .down] x.2).bind fun u => (takeM [.comma, .semi] u.2).bind fun m =>
      if kdOf m.1.tok = .comma then measLoop n (names ++ [x.1]) (ups ++ [decide (kdOf u.1.tok = .up)]) m.2 else .ok (ups ++ [decide (kdOf u.1.tok = .up)], m.2)
def numberM (s : Int) (l : Toks) : Except Fault (Int × Toks) := match l with
  | [] => .error ⟨3, 0⟩
  | t :: r => if kdOf t.tok = .number then (if 1000 < numOf t.tok then .error ⟨7, t.place⟩ else .ok (s * (numOf t.tok : Int), r)) else .error ⟨3, t.place⟩
def valueM (l : Toks) : Except Fault (Int × Toks) := match l with
  | [] => numberM 1 []
  | t :: r => if kdOf t.tok = .minus then numberM (-1) r else numberM 1 (t :: r)
def goodsM : List Bool → List Int → Toks → Except Fault (List Int × Toks)
  | [], vs, l => .ok (vs, l)
  | u :: us, vs, l => (if vs = [] then .ok l else (takeM [.comma] l).map fun x => x.2).bind fun r => (valueM r).bind fun x => goodsM us (vs ++ [if u = true then x.1 else 0 - x.1]) x.2
def itemsLoop (ups : List Bool) : Nat → List Bytes → List (List Int) → Toks → Except Fault (List (List Int) × Toks)
  | 0, _, _, l => wrong l
  | n + 1, names, rows, l => if kdOf ((l.head?.map PTok.tok).getD .last) = .item then
      (if 16 ≤ names.length then .error ⟨4, here l⟩ else (takeM [.item] l).bind fun a => (takeNameM names 16 a.2).bind fun x => (takeM [.colon] x.2).bind fun c => (goodsM ups [] c.2).bind fun v => (takeM [.semi] v.2).bind fun m =>
        itemsLoop ups n (names ++ [x.1]) (rows ++ [v.1]) m.2)
    else .ok (rows, l)
def readM (l : Toks) : Except Fault (List Bool × List (List Int)) := (takeM [.measures] l).bind fun a => (measLoop (a.2.length + 1) [] [] a.2).bind fun m => (itemsLoop m.1 (m.2.length + 1) [] [] m.2).bind fun x => (takeM [.fin] x.2).map fun _ => (m.1, x.1)

/-! ### against the specification's -/
def Wf (l : Toks) : Prop := ∀ t ∈ l, okTok t.tok = true
theorem Wf.tail {t : PTok} {l : Toks} (h : Wf (t :: l)) : Wf l := fun x hx => h x (List.mem_cons_of_mem _ hx)
theorem w1 : word "measures" = [109, 101, 97, 115, 117, 114, 101, 115] := by decide +kernel
theorem w2 : word "up" = [117, 112] := by decide +kernel
theorem w3 : word "down" = [100, 111, 119, 110] := by decide +kernel
theorem w4 : word "item" = [105, 116, 101, 109] := by decide +kernel
theorem reserved : RESERVED = [word "measures", word "up", word "down", word "item"] := rfl
/-- the token that has the kind -/
def tkOf : Kd → Option Tok
  | .measures => some (.name (word "measures"))
  | .up => some (.name (word "up"))
  | .down => some (.name (word "down"))
  | .item => some (.name (word "item"))
  | .comma => some (.sign 44)
  | .colon => some (.sign 58)
  | .semi => some (.sign 59)
  | .minus => some (.sign 45)
  | .name => none
  | .number => none
  | .fin => some .last
theorem k1 : kdOf (.name (word "measures")) = .measures := by decide +kernel
theorem k2 : kdOf (.name (word "up")) = .up := by decide +kernel
theorem k3 : kdOf (.name (word "down")) = .down := by decide +kernel
theorem k4 : kdOf (.name (word "item")) = .item := by decide +kernel
theorem k5 {b : Bytes} (a1 : b ≠ word "measures") (a2 : b ≠ word "up") (a3 : b ≠ word "down") (a4 : b ≠ word "item") : kdOf (.name b) = .name := by
  show (if b = word "measures" then Kd.measures else if b = word "up" then Kd.up else if b = word "down" then Kd.down else if b = word "item" then Kd.item else Kd.name) = Kd.name
  rw [if_neg a1, if_neg a2, if_neg a3, if_neg a4]
theorem kd_cases (b : Bytes) : b = word "measures" ∨ b = word "up" ∨ b = word "down" ∨ b = word "item" ∨ (b ≠ word "measures" ∧ b ≠ word "up" ∧ b ≠ word "down" ∧ b ≠ word "item") := by
  by_cases h1 : b = word "measures"
  · exact .inl h1
  · by_cases h2 : b = word "up"
    · exact .inr (.inl h2)
    · by_cases h3 : b = word "down"
      · exact .inr (.inr (.inl h3))
      · by_cases h4 : b = word "item"
        · exact .inr (.inr (.inr (.inl h4)))
        · exact .inr (.inr (.inr (.inr ⟨h1, h2, h3, h4⟩)))
theorem kd_iff {t : Tok} (h : okTok t = true) {k : Kd} {u : Tok} (e : tkOf k = some u) : kdOf t = k ↔ tokEq t u = true := by
  cases t with
  | name b =>
    rcases kd_cases b with rfl | rfl | rfl | rfl | ⟨a1, a2, a3, a4⟩
    · rw [k1]
      cases k <;> simp only [tkOf, Option.some.injEq, reduceCtorEq] at e <;> subst e <;> decide +kernel
    · rw [k2]
      cases k <;> simp only [tkOf, Option.some.injEq, reduceCtorEq] at e <;> subst e <;> decide +kernel
    · rw [k3]
      cases k <;> simp only [tkOf, Option.some.injEq, reduceCtorEq] at e <;> subst e <;> decide +kernel
    · rw [k4]
      cases k <;> simp only [tkOf, Option.some.injEq, reduceCtorEq] at e <;> subst e <;> decide +kernel
    · rw [k5 a1 a2 a3 a4]
      cases k <;> simp only [tkOf, Option.some.injEq, reduceCtorEq] at e <;> subst e <;> simp [tokEq, a1, a2, a3, a4]
  | num n =>
    cases k <;> simp only [tkOf, Option.some.injEq, reduceCtorEq] at e <;> subst e <;> simp [kdOf, tokEq]
  | sign c =>
    have h' : c = 44 ∨ c = 58 ∨ c = 59 ∨ c = 45 := of_decide_eq_true h
    rcases h' with rfl | rfl | rfl | rfl <;> cases k <;> simp only [tkOf, Option.some.injEq, reduceCtorEq] at e <;> subst e <;> simp [kdOf, tokEq]
  | last =>
    cases k <;> simp only [tkOf, Option.some.injEq, reduceCtorEq] at e <;> subst e <;> simp [kdOf, tokEq]
theorem next_iff {t : PTok} {r : Toks} (h : Wf (t :: r)) {k : Kd} {u : Tok} (e : tkOf k = some u) : next u (t :: r) = true ↔ kdOf t.tok = k := by
  have := kd_iff (h t (List.mem_cons_self ..)) e
  exact this.symm
theorem taken_is {l : Toks} (h : Wf l) {k : Kd} {u : Tok} (e : tkOf k = some u) : taken u l = (takeM [k] l).map fun x => x.2 := by
  cases l with
  | nil => rfl
  | cons t r =>
    have hn := next_iff h e
    unfold taken takeM
    simp only [List.mem_singleton]
    by_cases g : kdOf t.tok = k
    · rw [if_pos (hn.mpr g), if_pos g]
      rfl
    · rw [if_neg (fun z => g (hn.mp z)), if_neg g]
      rfl
theorem kd_name {t : Tok} (h : okTok t = true) : kdOf t = .name ↔ ∃ b, t = .name b ∧ RESERVED.contains b = false := by
  cases t with
  | name b =>
    rcases kd_cases b with rfl | rfl | rfl | rfl | ⟨a1, a2, a3, a4⟩
    · rw [k1]
      exact ⟨fun z => (by cases z), fun ⟨b, e, hb⟩ => (by cases e; revert hb; decide +kernel)⟩
    · rw [k2]
      exact ⟨fun z => (by cases z), fun ⟨b, e, hb⟩ => (by cases e; revert hb; decide +kernel)⟩
    · rw [k3]
      exact ⟨fun z => (by cases z), fun ⟨b, e, hb⟩ => (by cases e; revert hb; decide +kernel)⟩
    · rw [k4]
      exact ⟨fun z => (by cases z), fun ⟨b, e, hb⟩ => (by cases e; revert hb; decide +kernel)⟩
    · rw [k5 a1 a2 a3 a4]
      refine ⟨fun _ => ⟨b, rfl, ?_⟩, fun _ => rfl⟩
      rw [← Bool.not_eq_true, List.contains_iff_mem, reserved]
      simp [a1, a2, a3, a4]
  | num n => simp [kdOf]
  | sign c =>
    have h' : c = 44 ∨ c = 58 ∨ c = 59 ∨ c = 45 := of_decide_eq_true h
    rcases h' with rfl | rfl | rfl | rfl <;> simp [kdOf]
  | last => simp [kdOf]
theorem kd_number {t : Tok} (h : okTok t = true) : kdOf t = .number ↔ ∃ n, t = .num n := by
  cases t with
  | name b =>
    rcases kd_cases b with rfl | rfl | rfl | rfl | ⟨a1, a2, a3, a4⟩
    · rw [k1]; simp
    · rw [k2]; simp
    · rw [k3]; simp
    · rw [k4]; simp
    · rw [k5 a1 a2 a3 a4]; simp
  | num n => simp [kdOf]
  | sign c =>
    have h' : c = 44 ∨ c = 58 ∨ c = 59 ∨ c = 45 := of_decide_eq_true h
    rcases h' with rfl | rfl | rfl | rfl <;> simp [kdOf]
  | last => simp [kdOf]
def nameM (l : Toks) : Except Fault (PName × Toks) := match l with
  | [] => .error ⟨3, 0⟩
  | t :: r => if kdOf t.tok = .name then .ok (⟨t.place, nameOf t.tok⟩, r) else .error ⟨3, t.place⟩
theorem takeName_is {l : Toks} (h : Wf l) : takeName l = nameM l := by
  cases l with
  | nil => rfl
  | cons t r =>
    have hk := kd_name (h t (List.mem_cons_self ..))
    obtain ⟨p, tok⟩ := t
    unfold nameM
    cases tok with
    | name b =>
      unfold takeName
      simp only
      by_cases g : RESERVED.contains b = true
      · rw [if_pos g, if_neg]
        · rfl
        · intro z
          obtain ⟨b', e, hb⟩ := hk.mp z
          cases e
          rw [g] at hb
          cases hb
      · rw [if_neg g, if_pos]
        · rfl
        · exact hk.mpr ⟨b, rfl, by simpa using g⟩
    | num n => rfl
    | sign c =>
      show wrong _ = _
      simp only
      rw [if_neg]
      · rfl
      · intro z
        obtain ⟨b', e, _⟩ := hk.mp z
        cases e
    | last => rfl
/-- takeNameM by the specification's takeName -/
theorem nameM_is {l : Toks} (h : Wf l) (names : List Bytes) (most : Nat) : takeNameM names most l = (takeName l).bind fun x => if most ≤ names.length then .error ⟨4, x.1.place⟩ else if x.1.name ∈ names then .error ⟨5, x.1.place⟩ else .ok (x.1.name, x.2) := by
  rw [takeName_is h]
  cases l with
  | nil => rfl
  | cons t r =>
    unfold takeNameM nameM
    simp only
    by_cases g : kdOf t.tok = .name
    · rw [if_pos g, if_pos g]
      rfl
    · rw [if_neg g, if_neg g]
      rfl
def numS (neg : Bool) (l : Toks) : Except Fault (Int × Toks) := match l with
  | ⟨q, .num n⟩ :: r => if SIZE < n then .error ⟨7, q⟩ else .ok (if neg = true then -(n : Int) else (n : Int), r)
  | m => wrong m
theorem takeInt_is (l : Toks) : takeInt l = numS (next (.sign 45) l) (if next (.sign 45) l = true then l.drop 1 else l) := rfl
theorem numberM_is {l : Toks} (h : Wf l) (neg : Bool) : numberM (if neg = true then -1 else 1) l = numS neg l := by
  cases l with
  | nil => rfl
  | cons t r =>
    have hk := kd_number (h t (List.mem_cons_self ..))
    obtain ⟨p, tok⟩ := t
    unfold numberM
    simp only
    cases tok with
    | num n =>
      rw [if_pos (hk.mpr ⟨n, rfl⟩)]
      show (if 1000 < n then _ else _) = if 1000 < n then _ else _
      by_cases g : 1000 < n
      · rw [if_pos g, if_pos g]
      · rw [if_neg g, if_neg g]
        cases neg with
        | true =>
          show Except.ok ((-1 : Int) * (n : Int), r) = Except.ok (-(n : Int), r)
          rw [Int.neg_one_mul]
        | false =>
          show Except.ok ((1 : Int) * (n : Int), r) = Except.ok ((n : Int), r)
          rw [Int.one_mul]
    | name b =>
      rw [if_neg (fun z => by obtain ⟨n, e⟩ := hk.mp z; cases e)]
      rfl
    | sign c =>
      rw [if_neg (fun z => by obtain ⟨n, e⟩ := hk.mp z; cases e)]
      rfl
    | last =>
      rw [if_neg (fun z => by obtain ⟨n, e⟩ := hk.mp z; cases e)]
      rfl
theorem valueM_is {l : Toks} (h : Wf l) : valueM l = takeInt l := by
  rw [takeInt_is]
  cases l with
  | nil => rfl
  | cons t r =>
    have hn := next_iff h (k := .minus) (u := .sign 45) rfl
    unfold valueM
    simp only
    by_cases g : kdOf t.tok = .minus
    · have e := hn.mpr g
      rw [if_pos g, e, if_pos rfl]
      exact numberM_is h.tail true
    · have e : next (.sign 45) (t :: r) = false := by
        rw [← Bool.not_eq_true]
        exact fun z => g (hn.mp z)
      rw [if_neg g, e, if_neg Bool.false_ne_true]
      exact numberM_is h false
theorem bind_ok {α β : Type} {x : Except Fault α} {f : α → Except Fault β} {b : β} (h : x.bind f = .ok b) : ∃ a, x = .ok a ∧ f a = .ok b := by
  cases x with
  | error e => cases h
  | ok a => exact ⟨a, rfl, h⟩
theorem takeM_wf {ks : List Kd} {l : Toks} {x : PTok × Toks} (h : Wf l) (e : takeM ks l = .ok x) : Wf x.2 ∧ l = x.1 :: x.2 ∧ kdOf x.1.tok ∈ ks := by
  cases l with
  | nil => cases e
  | cons t r =>
    unfold takeM at e
    simp only at e
    split at e
    · rename_i g
      cases e
      exact ⟨h.tail, rfl, g⟩
    · cases e
theorem nameM_wf {names : List Bytes} {most : Nat} {l : Toks} {x : Bytes × Toks} (h : Wf l) (e : takeNameM names most l = .ok x) : Wf x.2 ∧ x.1 ∉ names ∧ ∃ t, l = t :: x.2 ∧ kdOf t.tok = .name ∧ x.1 = nameOf t.tok := by
  cases l with
  | nil => cases e
  | cons t r =>
    unfold takeNameM at e
    simp only at e
    split at e
    · split at e
      · cases e
      · split at e
        · cases e
        · rename_i g1 _ g2
          cases e
          exact ⟨h.tail, g2, t, rfl, g1, rfl⟩
    · cases e
theorem numberM_wf {s : Int} {l : Toks} {x : Int × Toks} (h : Wf l) (e : numberM s l = .ok x) : Wf x.2 ∧ ∃ t, l = t :: x.2 ∧ kdOf t.tok = .number ∧ x.1 = s * (numOf t.tok : Int) ∧ numOf t.tok ≤ 1000 := by
  cases l with
  | nil => cases e
  | cons t r =>
    unfold numberM at e
    simp only at e
    split at e
    · split at e
      · cases e
      · rename_i g1 g2
        cases e
        exact ⟨h.tail, t, rfl, g1, rfl, by omega⟩
    · cases e
theorem valueM_wf {l : Toks} {x : Int × Toks} (h : Wf l) (e : valueM l = .ok x) : Wf x.2 ∧ x.2.length < l.length ∧ x.1.natAbs ≤ 1000 := by
  have key : ∀ {s : Int} {m : Toks}, (s = 1 ∨ s = -1) → Wf m → numberM s m = .ok x → Wf x.2 ∧ x.2.length < m.length ∧ x.1.natAbs ≤ 1000 := fun {s m} hs hm e => by
    obtain ⟨h1, t, h2, _, h3, h4⟩ := numberM_wf hm e
    refine ⟨h1, by rw [h2]; simp, ?_⟩
    rw [h3]
    rcases hs with rfl | rfl
    · omega
    · omega
  cases l with
  | nil => cases e
  | cons t r =>
    unfold valueM at e
    simp only at e
    split at e
    · obtain ⟨a, b, c⟩ := key (.inr rfl) h.tail e
      exact ⟨a, by rw [List.length_cons]; omega, c⟩
    · exact key (.inl rfl) h e
end Bw
end

section
set_option autoImplicit false
namespace Bw
open VaskyBase Vaskya

/-- two outcomes that agree: alike faults, or results told by g -/
def Agree {α β : Type} (g : α → β → Prop) : Except Fault α → Except Fault β → Prop
  | .error e, .error f => e = f
  | .ok a, .ok b => g a b
  | _, _ => False
theorem Agree.bind {α β γ δ : Type} {g : α → β → Prop} {k : γ → δ → Prop} {x : Except Fault α} {y : Except Fault β} {f : α → Except Fault γ} {f' : β → Except Fault δ} (h : Agree g x y) (hf : ∀ a b, x = .ok a → y = .ok b → g a b → Agree k (f a) (f' b)) : Agree k (x.bind f) (y.bind f') := by
  cases x with
  | error e => cases y with
    | error e' => exact h
    | ok b => exact h.elim
  | ok a => cases y with
    | error e' => exact h.elim
    | ok b => exact hf a b rfl rfl h
theorem Agree.eq {α : Type} {x y : Except Fault α} (h : Agree Eq x y) : x = y := by
  cases x <;> cases y
  · exact congrArg _ h
  · exact h.elim
  · exact h.elim
  · exact congrArg _ h
theorem bassoc {α β γ : Type} (x : Except Fault α) (f : α → Except Fault β) (g : β → Except Fault γ) : (x.bind f).bind g = x.bind fun a => (f a).bind g := by cases x <;> rfl
theorem Agree.rfl' {α : Type} (x : Except Fault α) : Agree Eq x x := by
  cases x <;> exact rfl
theorem take_agree {l : Toks} (h : Wf l) {k : Kd} {u : Tok} (e : tkOf k = some u) : Agree (fun (a : PTok × Toks) b => a.2 = b) (takeM [k] l) (taken u l) := by
  rw [taken_is h e]
  cases takeM [k] l <;> exact rfl
theorem any_name {α : Type} {f : α → Bytes} {l : List α} {b : Bytes} : (l.any fun m => f m == b) = true ↔ b ∈ l.map f := by
  rw [List.any_eq_true, List.mem_map]
  constructor
  · rintro ⟨x, hx, e⟩
    exact ⟨x, hx, by simpa using e⟩
  · rintro ⟨x, hx, e⟩
    exact ⟨x, hx, by simpa using e⟩
theorem meas_agree : ∀ {n : Nat} {ms : List Measure} {l : Toks}, Wf l → l.length < n →
    Agree (fun (a : List Bool × Toks) (b : List Measure × Toks) => a.1 = b.1.map Measure.up ∧ a.2 = b.2) (measLoop n (ms.map Measure.name) (ms.map Measure.up) l) (takeMeasures n ms l)
  | 0, _, _, _, h => absurd h (by omega)
  | n + 1, ms, l, hw, hl => by
    unfold measLoop takeMeasures
    rw [nameM_is hw]
    have hT := Agree.rfl' (takeName l)
    rw [bassoc]
    refine Agree.bind hT fun a b ea eb hab => ?_
    subst hab
    have hwf : Wf a.2 ∧ a.2.length < l.length := by
      rw [takeName_is hw] at ea
      cases l with
      | nil => cases ea
      | cons t r =>
        unfold nameM at ea
        simp only at ea
        split at ea
        · cases ea
          exact ⟨hw.tail, by simp⟩
        · cases ea
    by_cases h4 : 4 ≤ ms.length
    · rw [if_pos (show MEASURES ≤ ms.length from h4), List.length_map, if_pos h4]
      exact rfl
    · rw [if_neg (show ¬ MEASURES ≤ ms.length from h4), List.length_map, if_neg h4]
      by_cases h5 : (ms.any fun m => m.name == a.1.name) = true
      · rw [if_pos h5, if_pos (any_name.mp h5)]
        exact rfl
      · rw [if_neg h5, if_neg (fun z => h5 (any_name.mpr z))]
        show Agree _ ((takeM [.up, .down] a.2).bind _) _
        have hu : Agree (fun (x : PTok × Toks) (y : Bool × Toks) => decide (kdOf x.1.tok = .up) = y.1 ∧ x.2 = y.2) (takeM [.up, .down] a.2) (if nextWord "up" a.2 = true then .ok (true, a.2.drop 1) else (takeWord "down" a.2).map fun r => (false, r)) := by
          cases e2 : a.2 with
          | nil => exact rfl
          | cons t r =>
            have hw2 : Wf (t :: r) := by rw [← e2]; exact hwf.1
            have n1 := next_iff hw2 (k := .up) (u := .name (word "up")) rfl
            have n2 := next_iff hw2 (k := .down) (u := .name (word "down")) rfl
            unfold nextWord takeWord taken takeM
            simp only [List.mem_cons, List.not_mem_nil, or_false]
            by_cases g1 : kdOf t.tok = .up
            · rw [if_pos (n1.mpr g1), if_pos (.inl g1)]
              exact ⟨decide_eq_true g1, rfl⟩
            · rw [if_neg (fun z => g1 (n1.mp z))]
              by_cases g2 : kdOf t.tok = .down
              · rw [if_pos (n2.mpr g2), if_pos (.inr g2)]
                exact ⟨decide_eq_false g1, rfl⟩
              · rw [if_neg (fun z => g2 (n2.mp z)), if_neg (fun z => z.elim g1 g2)]
                exact rfl
        refine Agree.bind hu fun x y ex ey hxy => ?_
        obtain ⟨hx1, hx2⟩ := hxy
        obtain ⟨wx, lx, _⟩ := takeM_wf hwf.1 ex
        have wy : Wf y.2 := by rw [← hx2]; exact wx
        have ly : y.2.length < l.length := by
          have := congrArg List.length lx
          rw [List.length_cons, hx2] at this
          omega
        rw [hx1, hx2]
        cases e3 : y.2 with
        | nil => exact rfl
        | cons t r =>
          rw [e3] at wy ly
          have n1 := next_iff wy (k := .comma) (u := .sign 44) rfl
          have n2 := next_iff wy (k := .semi) (u := .sign 59) rfl
          unfold takeM
          simp only [List.mem_cons, List.not_mem_nil, or_false]
          by_cases g1 : kdOf t.tok = .comma
          · rw [if_pos (.inl g1), if_pos (n1.mpr g1)]
            show Agree _ (if kdOf t.tok = .comma then _ else _) _
            rw [if_pos g1]
            have ih := meas_agree (n := n) (ms := ms ++ [⟨a.1.name, y.1⟩]) (l := r) wy.tail (by rw [List.length_cons] at ly; omega)
            rw [List.map_append, List.map_append] at ih
            exact ih
          · rw [if_neg (fun z => g1 (n1.mp z))]
            unfold takeSign taken
            by_cases g2 : kdOf t.tok = .semi
            · rw [if_pos (.inr g2), if_pos (n2.mpr g2)]
              show Agree _ (if kdOf t.tok = .comma then _ else _) _
              rw [if_neg g1]
              refine ⟨?_, rfl⟩
              rw [List.map_append]
              rfl
            · rw [if_neg (fun z => z.elim g1 g2), if_neg (fun z => g2 (n2.mp z))]
              exact rfl
/-- the good values of the values taken so far -/
def goodB (us : List Bool) (vs : List Int) : List Int := (us.zip vs).map fun x => if x.1 = true then x.2 else 0 - x.2
theorem goodB_is (ms : List Measure) (vs : List Int) : goodB (ms.map Measure.up) vs = goodOf ms vs := by
  unfold goodB goodOf
  rw [List.zip_map_left, List.map_map]
  refine List.map_congr_left fun x _ => ?_
  show (if x.1.up = true then x.2 else 0 - x.2) = if x.1.up = true then x.2 else -x.2
  split
  · rfl
  · omega
theorem goodB_snoc : ∀ {us vs : List _} {u : Bool} {v : Int}, us.length = vs.length → goodB (us ++ [u]) (vs ++ [v]) = goodB us vs ++ [if u = true then v else 0 - v]
  | us, vs, u, v, h => by
    unfold goodB
    rw [List.zip_append h, List.map_append]
    rfl
theorem goods_agree : ∀ {us pre : List Bool} {vs : List Int} {l : Toks}, Wf l → pre.length = vs.length →
    Agree (fun (a : List Int × Toks) (b : List Int × Toks) => a.1 = goodB (pre ++ us) b.1 ∧ a.2 = b.2 ∧ Wf a.2 ∧ b.1.length = (pre ++ us).length ∧ a.2.length ≤ l.length) (goodsM us (goodB pre vs) l) (takeValues us.length vs l)
  | [], pre, vs, l, hw, hp => by
    unfold goodsM takeValues
    exact ⟨by rw [List.append_nil], rfl, hw, by rw [List.append_nil]; exact hp.symm, Nat.le_refl _⟩
  | u :: us, pre, vs, l, hw, hp => by
    rw [List.length_cons]
    unfold goodsM takeValues
    have he : goodB pre vs = [] ↔ vs.isEmpty = true := by
      unfold goodB
      rw [List.isEmpty_iff]
      constructor
      · intro z
        have h0 := congrArg List.length z
        rw [List.length_map, List.length_zip, hp, Nat.min_self] at h0
        exact List.length_eq_zero_iff.mp h0
      · intro z
        subst z
        simp
    have h1 : Agree (fun (a b : Toks) => a = b ∧ Wf a ∧ a.length ≤ l.length) (if goodB pre vs = [] then .ok l else (takeM [.comma] l).map fun x => x.2) (if vs.isEmpty = true then .ok l else takeSign 44 l) := by
      by_cases g : vs.isEmpty = true
      · rw [if_pos g, if_pos (he.mpr g)]
        exact ⟨rfl, hw, Nat.le_refl _⟩
      · rw [if_neg g, if_neg (fun z => g (he.mp z))]
        unfold takeSign
        rw [taken_is hw (k := .comma) (u := .sign 44) rfl]
        cases e : takeM [.comma] l with
        | error f => exact rfl
        | ok x =>
          obtain ⟨a, b, _⟩ := takeM_wf hw e
          exact ⟨rfl, a, by show x.2.length ≤ l.length; rw [b, List.length_cons]; omega⟩
    refine Agree.bind h1 fun a b _ _ hab => ?_
    obtain ⟨rfl, hwa, hla⟩ := hab
    rw [valueM_is hwa]
    refine Agree.bind (Agree.rfl' (takeInt a)) fun x y ex _ hxy => ?_
    subst hxy
    rw [← valueM_is hwa] at ex
    obtain ⟨w1, w2, _⟩ := valueM_wf hwa ex
    have ih := goods_agree (us := us) (pre := pre ++ [u]) (vs := vs ++ [x.1]) (l := x.2) w1 (by rw [List.length_append, List.length_append, hp]; rfl)
    rw [goodB_snoc hp] at ih
    rw [List.append_assoc] at ih
    revert ih
    cases goodsM us (goodB pre vs ++ [if u = true then x.1 else 0 - x.1]) x.2 <;> cases takeValues us.length (vs ++ [x.1]) x.2
    · exact id
    · exact id
    · exact id
    · rintro ⟨a1, a2, a3, a4, a5⟩
      exact ⟨a1, a2, a3, a4, by omega⟩
theorem items_agree {ms : List Measure} : ∀ {n : Nat} {is : List Item} {l : Toks}, Wf l → l.length < n → is.length ≤ 16 →
    Agree (fun (a : List (List Int)) (b : List Item) => a = b.map fun i => goodOf ms i.vs)
      ((itemsLoop (ms.map Measure.up) n (is.map Item.name) (is.map fun i => goodOf ms i.vs) l).bind fun x => (takeM [.fin] x.2).map fun _ => x.1) (takeItems ms.length n is l)
  | 0, _, _, _, h, _ => absurd h (by omega)
  | n + 1, is, l, hw, hl, hi => by
    unfold itemsLoop takeItems
    cases l with
    | nil =>
      exact rfl
    | cons t r =>
      have n1 := next_iff hw (k := .fin) (u := .last) rfl
      have n2 := next_iff hw (k := .item) (u := .name (word "item")) rfl
      show Agree _ (Except.bind (if kdOf t.tok = .item then _ else _) _) _
      by_cases g1 : kdOf t.tok = .item
      · rw [if_pos g1, if_neg (show ¬ next .last (t :: r) = true from fun z => by rw [n1.mp z] at g1; cases g1)]
        have et : takeWord "item" (t :: r) = .ok r := by
          unfold takeWord taken
          rw [if_pos (n2.mpr g1)]
          rfl
        have em : takeM [.item] (t :: r) = .ok (t, r) := by
          unfold takeM
          simp only [List.mem_singleton]
          rw [if_pos g1]
        rw [et, em, List.length_map]
        show Agree _ (Except.bind (if 16 ≤ is.length then _ else _) _) (if ITEMS ≤ is.length then _ else _)
        by_cases h16 : 16 ≤ is.length
        · rw [if_pos h16, if_pos (show ITEMS ≤ is.length from h16)]
          exact rfl
        · rw [if_neg h16, if_neg (show ¬ ITEMS ≤ is.length from h16)]
          show Agree _ (Except.bind ((takeNameM (is.map Item.name) 16 r).bind _) _) ((takeName r).bind _)
          have hwr := hw.tail
          rw [nameM_is hwr]
          rw [bassoc, bassoc]
          refine Agree.bind (Agree.rfl' (takeName r)) fun a b ea _ hab => ?_
          subst hab
          have hwf : Wf a.2 ∧ a.2.length < r.length := by
            rw [takeName_is hwr] at ea
            cases r with
            | nil => cases ea
            | cons t' r' =>
              unfold nameM at ea
              simp only at ea
              split at ea
              · cases ea
                exact ⟨hwr.tail, by simp⟩
              · cases ea
          rw [List.length_map, if_neg h16]
          by_cases h5 : (is.any fun i => i.name == a.1.name) = true
          · rw [if_pos h5, if_pos (any_name.mp h5)]
            exact rfl
          · rw [if_neg h5, if_neg (fun z => h5 (any_name.mpr z))]
            show Agree _ (Except.bind ((takeM [.colon] a.2).bind _) _) ((takeSign 58 a.2).bind _)
            rw [bassoc]
            refine Agree.bind (take_agree hwf.1 (k := .colon) (u := .sign 58) rfl) fun c d ec _ hcd => ?_
            subst hcd
            obtain ⟨wc, lc, _⟩ := takeM_wf hwf.1 ec
            have lc' := congrArg List.length lc
            rw [List.length_cons] at lc'
            have hg := goods_agree (us := ms.map Measure.up) (pre := []) (vs := []) (l := c.2) wc rfl
            rw [List.length_map] at hg
            rw [bassoc]
            refine Agree.bind hg fun v v' _ _ hv => ?_
            obtain ⟨v1, v2, v3, v4, v5⟩ := hv
            rw [← v2]
            rw [bassoc]
            refine Agree.bind (take_agree v3 (k := .semi) (u := .sign 59) rfl) fun m m' em' _ hm => ?_
            subst hm
            obtain ⟨wm, lm, _⟩ := takeM_wf v3 em'
            have lm' := congrArg List.length lm
            rw [List.length_cons] at lm'
            have ih := items_agree (ms := ms) (n := n) (is := is ++ [⟨a.1.name, v'.1⟩]) (l := m.2) wm (by rw [List.length_cons] at hl; omega) (by rw [List.length_append, List.length_singleton]; omega)
            rw [List.map_append, List.map_append] at ih
            rw [List.nil_append, goodB_is] at v1
            rw [v1]
            exact ih
      · rw [if_neg g1]
        show Agree _ ((takeM [.fin] (t :: r)).map _) _
        by_cases g2 : kdOf t.tok = .fin
        · rw [if_pos (n1.mpr g2)]
          unfold takeM
          simp only [List.mem_singleton]
          rw [if_pos g2]
          exact rfl
        · rw [if_neg (fun z => g2 (n1.mp z))]
          unfold takeM takeWord taken
          simp only [List.mem_singleton]
          rw [if_neg g2, if_neg (fun z => g1 (n2.mp z))]
          exact rfl
/-- a reading of tokens, by the specification -/
def readT (l : Toks) : Except Fault Sheet := (takeWord "measures" l).bind fun r => (takeMeasures (r.length + 1) [] r).bind fun x => (takeItems x.1.length (x.2.length + 1) [] x.2).map fun is => ⟨x.1, is⟩
theorem read_is (b : Bytes) : read b = (tokens b).bind readT := rfl
theorem takeMeasures_wf : ∀ {n : Nat} {ms : List Measure} {l : Toks} {x : List Measure × Toks}, Wf l → takeMeasures n ms l = .ok x → Wf x.2
  | 0, _, _, _, _, e => by cases e
  | n + 1, ms, l, x, hw, e => by
    unfold takeMeasures at e
    obtain ⟨a, ea, e⟩ := bind_ok e
    have hwa : Wf a.2 := by
      rw [takeName_is hw] at ea
      cases l with
      | nil => cases ea
      | cons t r =>
        unfold nameM at ea
        simp only at ea
        split at ea
        · cases ea; exact hw.tail
        · cases ea
    split at e
    · cases e
    · split at e
      · cases e
      · obtain ⟨u, eu, e⟩ := bind_ok e
        have hwu : Wf u.2 := by
          have dr : ∀ {m : Toks}, Wf m → Wf (m.drop 1) := fun {m} hm y hy => hm y (List.mem_of_mem_drop hy)
          split at eu
          · cases eu; exact dr hwa
          · unfold takeWord taken at eu
            split at eu
            · cases eu; exact dr hwa
            · cases eu
        split at e
        · exact takeMeasures_wf (fun y hy => hwu y (List.mem_of_mem_drop hy)) e
        · unfold takeSign taken at e
          split at e
          · cases e
            exact fun y hy => hwu y (List.mem_of_mem_drop hy)
          · cases e
/-- **the reader**: the program's and the specification's -/
theorem read_agree {l : Toks} (hw : Wf l) : Agree (fun (a : List Bool × List (List Int)) (s : Sheet) => a.1 = s.ms.map Measure.up ∧ a.2 = rows s) (readM l) (readT l) := by
  unfold readM readT
  refine Agree.bind (take_agree hw (k := .measures) (u := .name (word "measures")) rfl) fun a b ea _ hab => ?_
  subst hab
  obtain ⟨wa, _, _⟩ := takeM_wf hw ea
  refine Agree.bind (meas_agree (n := a.2.length + 1) (ms := []) wa (Nat.lt_succ_self _)) fun m m' _ em hm => ?_
  obtain ⟨h1, h2⟩ := hm
  have wm : Wf m'.2 := takeMeasures_wf wa em
  rw [h1, h2]
  have hi := items_agree (ms := m'.1) (n := m'.2.length + 1) (is := []) (l := m'.2) wm (Nat.lt_succ_self _) (Nat.zero_le _)
  revert hi
  show Agree _ ((itemsLoop (m'.1.map Measure.up) (m'.2.length + 1) [] [] m'.2).bind _) _ → Agree _ ((itemsLoop (m'.1.map Measure.up) (m'.2.length + 1) [] [] m'.2).bind _) _
  cases itemsLoop (m'.1.map Measure.up) (m'.2.length + 1) [] [] m'.2 with
  | error e =>
    cases takeItems m'.1.length (m'.2.length + 1) [] m'.2 with
    | error f => exact id
    | ok _ => exact id
  | ok x =>
    show Agree _ ((takeM [.fin] x.2).map _) _ → Agree _ ((takeM [.fin] x.2).map _) _
    cases takeM [.fin] x.2 with
    | error e =>
      cases takeItems m'.1.length (m'.2.length + 1) [] m'.2 with
      | error f => exact id
      | ok _ => exact id
    | ok y =>
      cases takeItems m'.1.length (m'.2.length + 1) [] m'.2 with
      | error f => exact id
      | ok is => intro h; exact ⟨rfl, h⟩
end Bw
end

section
set_option Elab.async false
set_option linter.all false
set_option maxRecDepth 100000
set_option maxHeartbeats 2000000
namespace BwK
open PySem PySem.Spec PySem.W PyProof.Rows
section
variable {prog : Program} {w : World} {A : Around} {s : Shared}
/-- a call that keeps all that was there and gives a new key -/
def KeyNew (k : PyData) (s1 : Shared) (v : Value) (s2 : Shared) : Prop := ∃ h' tk p, s2 = { s1 with heap := h', toks := tk } ∧ (∀ b o, s1.heap.get? b = some o → h'.get? b = some o) ∧ v = .ref p ∧ s1.heap.objs.size ≤ p ∧ Reads h' v k []
theorem KeyNew.pure {k : PyData} {s1 s2 : Shared} {v : Value} (h : KeyNew k s1 v s2) : KeyPure k s1 v s2 := by
  obtain ⟨h', tk, p, e, k1, _, _, r⟩ := h
  exact ⟨h', tk, e, k1, r⟩
/-- a lambda of one parameter is called: its frame is new, all that was there stays -/
theorem lam_call {f c' : Addr} {q x : Str} {params : Arguments} {body : Expr} {scope : Scope} {cl : List (Str × Addr)} {pm ctv v : Value} {h : Heap} {tk : Nat} {k : PyData}
    (hf : h.get? f = some (kla_obj "<lambda>" q params body scope cl pm c' ctv)) (hcr : h.CodeRec (.ref c') q) (lim : h.NoLimit) (hroom : A.depth < recursionLimit)
    (hbind : bindArgs (kla_fn "<lambda>" q params body scope cl pm (.ref c') ctv) ⟨[v], []⟩ = pure [(x, v)]) (hx : scope.names.lookup x = some .local)
    (hk : scope.kind = .function) (hco : scope.isCoroutine = false) (hgen : scope.isGenerator = false) (hcell : ∀ y ∈ scope.names, y.2 ≠ .cell)
    (hbody : ∀ (h1 : Heap) (L : Addr) (tk1 : Nat), (∀ b o, h.get? b = some o → h1.get? b = some o) → h1.Ns L (fun y => [(x, v)].reverse.lookup y) →
      wpAny (model prog w) (A.deeper (envX q scope L f (.ref c') cl)) (eval body (envX q scope L f (.ref c') cl)) (KeyNew k { s with heap := h1, toks := tk1 }) (fun _ _ => False) { s with heap := h1, toks := tk1 }) :
    wpAny (model prog w) A (call (.ref f) [v]) (KeyNew k { s with heap := h, toks := tk }) (fun _ _ => False) { s with heap := h, toks := tk } := by
  refine wpAny_call (kla_callFunE (s := { s with heap := h, toks := tk }) hroom hf rfl hco hgen rfl hcr ?_)
  rw [hbind]
  refine wpAny_pure (wpAny_newFunctionEnv hcell (fun y hy => by
    rw [List.mem_singleton] at hy
    subst hy
    exact hx) (fun h1 hns hsb => ⟨lim.fresh _ hsb, ?_⟩) hk)
  show codeAny _ _ (.expr body (envX q scope h.objs.size f (.ref c') cl)) _ _
  have kp : ∀ b o, h.get? b = some o → h1.get? b = some o := fun b o e => hsb.extBut b o (Nat.ne_of_lt (Heap.lt_size e)) (Heap.get?_push_of_some _ e)
  have hsz : h.objs.size < h1.objs.size := hns.lt
  refine kla_codeExpr (wpAny_mono (hbody h1 h.objs.size _ kp hns) (fun u s' hu => ?_) fun _ _ z => z.elim)
  obtain ⟨h', tk', p, e, k1, e2, hp, r⟩ := hu
  exact ⟨h', tk', p, by rw [e], fun b o z => k1 b o (kp b o z), e2, Nat.le_trans (Nat.le_of_lt hsz) hp, r⟩
/-- (0 - scores[item], item) -/
theorem body_order {env : Env} {h : Heap} {tk : Nat} {m : Str → Option Value} {c0 b : Addr} {its : List Value} {i z : Int} {t tz : Tok} {p1 p2 p3 p4 p5 p6 p7 : Pos} {j jj : Nat} (hke : env.scope.kind = .function)
    (hs : env.kindOf "scores" = some .free) (hi : env.kindOf "item" = some .local) (hc : env.cells.lookup ("scores" : Str) = some c0) (hcell : h.IsCell c0 (some (.ref b))) (hl : h.IsList b its.toArray)
    (hn : h.Ns env.locals m) (hm : m "item" = some (.int i t)) (h0 : 0 ≤ i) (hit : its[i.toNat]? = some (.int z tz)) (hi63 : i < 2 ^ 63) :
    wpAny (model prog w) A (eval (.Tuple [.BinOp (.Constant (.int 0) j p1) .Sub (.Subscript (.Name "scores" p2) (.Name "item" p3) p4) p5, .Name "item" p6] jj p7) env)
      (KeyNew (.tuple [.int (0 - z), .int i]) { s with heap := h, toks := tk }) (fun _ _ => False) { s with heap := h, toks := tk } := by
  refine wpAny_Tuple_spliced ?_
  show wpAny _ _ (spliced [(false, eval (.BinOp (.Constant (.int 0) j p1) .Sub (.Subscript (.Name "scores" p2) (.Name "item" p3) p4) p5) env), (false, eval (.Name "item" p6) env)]) _ _ _
  refine Calls.spliced_cons (wpAny_BinOp (wpAny_Constant_int (Subscript_ (wpAny_Name (wpAny_loadName_free hke hs hc hcell (wpAny_Name (wpAny_loadName_local hke hi hn hm ?_)))))))
  refine item_listR hl h0 hi63 (by simpa using hit) ?_
  refine sub_int (Calls.spliced_cons (wpAny_Name (wpAny_loadName_local hke hi hn hm (Calls.spliced_nil ?_))))
  refine ⟨by show 2 ≤ sizeLine; decide, _, _, _, rfl, fun a o e => Heap.get?_push_of_some _ e, rfl, Nat.le_refl _, ?_⟩
  exact Reads.tuple (Heap.get?_push_size _ rfl) rfl rfl (.cons (.int _ _) (.cons (.int _ _) .nil))
/-- a key that holds an item of a list, and a whole number -/
def KeyPair (tp : Addr) (i : Int) (s1 : Shared) (v : Value) (s2 : Shared) : Prop := ∃ h' tk p t, s2 = { s1 with heap := h', toks := tk } ∧ (∀ b o, s1.heap.get? b = some o → h'.get? b = some o) ∧ v = .ref p ∧ s1.heap.objs.size ≤ p ∧ h'.get? p = some { cls := .type "tuple", data := .seq #[.ref tp, .int i t] }
theorem lam_callP {f c' tp : Addr} {n : Int} {q x : Str} {params : Arguments} {body : Expr} {scope : Scope} {cl : List (Str × Addr)} {pm ctv v : Value} {h : Heap} {tk : Nat}
    (hf : h.get? f = some (kla_obj "<lambda>" q params body scope cl pm c' ctv)) (hcr : h.CodeRec (.ref c') q) (lim : h.NoLimit) (hroom : A.depth < recursionLimit)
    (hbind : bindArgs (kla_fn "<lambda>" q params body scope cl pm (.ref c') ctv) ⟨[v], []⟩ = pure [(x, v)]) (hx : scope.names.lookup x = some .local)
    (hk : scope.kind = .function) (hco : scope.isCoroutine = false) (hgen : scope.isGenerator = false) (hcell : ∀ y ∈ scope.names, y.2 ≠ .cell)
    (hbody : ∀ (h1 : Heap) (L : Addr) (tk1 : Nat), (∀ b o, h.get? b = some o → h1.get? b = some o) → h1.Ns L (fun y => [(x, v)].reverse.lookup y) →
      wpAny (model prog w) (A.deeper (envX q scope L f (.ref c') cl)) (eval body (envX q scope L f (.ref c') cl)) (KeyPair tp n { s with heap := h1, toks := tk1 }) (fun _ _ => False) { s with heap := h1, toks := tk1 }) :
    wpAny (model prog w) A (call (.ref f) [v]) (KeyPair tp n { s with heap := h, toks := tk }) (fun _ _ => False) { s with heap := h, toks := tk } := by
  refine wpAny_call (kla_callFunE (s := { s with heap := h, toks := tk }) hroom hf rfl hco hgen rfl hcr ?_)
  rw [hbind]
  refine wpAny_pure (wpAny_newFunctionEnv hcell (fun y hy => by
    rw [List.mem_singleton] at hy
    subst hy
    exact hx) (fun h1 hns hsb => ⟨lim.fresh _ hsb, ?_⟩) hk)
  show codeAny _ _ (.expr body (envX q scope h.objs.size f (.ref c') cl)) _ _
  have kp : ∀ b o, h.get? b = some o → h1.get? b = some o := fun b o e => hsb.extBut b o (Nat.ne_of_lt (Heap.lt_size e)) (Heap.get?_push_of_some _ e)
  have hsz : h.objs.size < h1.objs.size := hns.lt
  refine kla_codeExpr (wpAny_mono (hbody h1 h.objs.size _ kp hns) (fun u s' hu => ?_) fun _ _ z => z.elim)
  obtain ⟨h', tk', p, t, e, k1, e2, hp, r⟩ := hu
  exact ⟨h', tk', p, t, by rw [e], fun b o z => k1 b o (kp b o z), e2, Nat.le_trans (Nat.le_of_lt hsz) hp, r⟩
/-- (lines[item], 0 - item) -/
theorem body_first {env : Env} {h : Heap} {tk : Nat} {m : Str → Option Value} {c0 b tp : Addr} {its : List Value} {i : Int} {t : Tok} {p1 p2 p3 p4 p5 p6 p7 : Pos} {j jj : Nat} (hke : env.scope.kind = .function)
    (hs : env.kindOf "lines" = some .free) (hi : env.kindOf "item" = some .local) (hc : env.cells.lookup ("lines" : Str) = some c0) (hcell : h.IsCell c0 (some (.ref b))) (hl : h.IsList b its.toArray)
    (hn : h.Ns env.locals m) (hm : m "item" = some (.int i t)) (h0 : 0 ≤ i) (hit : its[i.toNat]? = some (.ref tp)) (hi63 : i < 2 ^ 63) :
    wpAny (model prog w) A (eval (.Tuple [.Subscript (.Name "lines" p1) (.Name "item" p2) p3, .BinOp (.Constant (.int 0) j p4) .Sub (.Name "item" p5) p6] jj p7) env)
      (KeyPair tp (0 - i) { s with heap := h, toks := tk }) (fun _ _ => False) { s with heap := h, toks := tk } := by
  refine wpAny_Tuple_spliced ?_
  show wpAny _ _ (spliced [(false, eval (.Subscript (.Name "lines" p1) (.Name "item" p2) p3) env), (false, eval (.BinOp (.Constant (.int 0) j p4) .Sub (.Name "item" p5) p6) env)]) _ _ _
  refine Calls.spliced_cons (Subscript_ (wpAny_Name (wpAny_loadName_free hke hs hc hcell (wpAny_Name (wpAny_loadName_local hke hi hn hm ?_)))))
  refine item_listR hl h0 hi63 (by simpa using hit) ?_
  refine Calls.spliced_cons (wpAny_BinOp (wpAny_Constant_int (wpAny_Name (wpAny_loadName_local hke hi hn hm (sub_int (Calls.spliced_nil ?_))))))
  exact ⟨by show 2 ≤ sizeLine; decide, _, _, _, _, rfl, fun a o e => Heap.get?_push_of_some _ e, rfl, Nat.le_refl _, Heap.get?_push_size _ rfl⟩
end
end BwK
end

section
set_option Elab.async false
set_option linter.all false
set_option maxRecDepth 100000
set_option maxHeartbeats 2000000
namespace BwK
open PySem PySem.Spec PyProof.Rows L2 LamX NdefX
open PySem.W (kla_obj kla_fn KeyPure AllAlike Sortable alike EachIs dataLe)
open Bw (natI inOrder scAt ordB)
/-- a built-in called with key=, a lambda that was just made -/
def CallKL (X : Cx) (id : String) (params : Arguments) (body : Expr) (scope : Scope) (r : L2.St → List V → Hp → VK → Prop) : Prop :=
  ∀ (pins : List (Addr × Obj)) (s : Shared) (σ : L2.St) (H : Hp) (vs : List V) (us : List Value) (f c' : Addr) (pm ctv : Value) (Q : VK), Inv X pins σ H s → Vals vs us →
    s.heap.get? f = some (kla_obj "<lambda>" (X.env.qual ++ "<lambda>") params body scope (cloFrom X.env.cells scope.names []) pm c' ctv) → s.heap.CodeRec (.ref c') (X.env.qual ++ "<lambda>") →
    r σ vs H Q → wpAny (model X.prog X.w) X.A (call (.builtin id) us [(Str.ofString "key", .ref f)]) (EP X pins σ Q) X.xe s
def tKL (T : List (Addr × Str)) (r : L2.St → List V → Hp → VK → Prop) (t : TA) : TE := fun σ H Q => t σ H fun vs H1 => Tabs T H1 ∧ ∀ H2, ExtN H1 H2 → Tabs T H2 → r σ vs H2 Q
section
variable {X : Cx}
theorem pe_callKL {T : List (Addr × Str)} {id : String} {x : Str} {e : Expr} {es : List Expr} {t : TA} {params : Arguments} {body : Expr} {scope : Scope} {c P : Addr} {p pos lpos kpos : Pos} {r : L2.St → List V → Hp → VK → Prop}
    (hc : CallKL X id params body scope r) (hg : Gl X x) (hm : X.mg x = none) (hv : bootBuiltins x = some (.builtin id)) (ha : PA X (e :: es) t)
    (TB : TabB X.base X.mg c P) (hcode : X.env.code = .ref c) (hmT : (P, X.env.qual ++ "<lambda>") ∈ T) (hu : ∀ p ∈ T, p.1 = P → p.2 = X.env.qual ++ "<lambda>") (hdef : defaultsOf params X.env = ([], []))
    (hfree : ∀ y ∈ scope.names, y.2 = .free → X.env.scope.names.lookup y.1 = some .cell ∨ X.env.scope.names.lookup y.1 = some .free)
    (hn : x ≠ "__name__" := by decide) (hdb : (x == ("__debug__" : Str)) = false := by decide)
    (he : backTo pos (starEach (e :: es) X.env) = (false, eval e X.env) :: backTo pos (starEach es X.env) := by rfl) (hpl : (backTo pos (starEach (e :: es) X.env)).any (·.1) = false := by rfl) :
    PE X (.Call (.Name x p) (e :: es) [⟨some "key", .Lambda params body scope lpos, kpos⟩] pos) (tKL T r t) := by
  refine ⟨fun pins s σ H Q I h => ?_⟩
  refine wpAny_Call_Name_kw (ld_blt I hg hm hv ?_ hn hdb)
  refine PyProof.Rows.callWith_kw (thn (ha.run pos pins s σ H _ I h) fun us s1 ⟨vs, H1, I1, r1, hT, q1⟩ => ?_) he hpl (by rfl) (by rfl)
  show wpAny _ _ (evalAll [(do let v ← eval (.Lambda params body scope lpos) X.env; standAt pos; pure v)]) _ _ s1
  have hfr : ∀ y ∈ scope.names, y.2 = .free → ∃ c, X.env.cells.lookup y.1 = some c := fun y hy e => (hfree y hy e).elim (fun z => I.ok.has _ (.inl z)) fun z => I.ok.has _ (.inr z)
  refine wpAny_evalAll_cons (wpAny_bind (lam_make2 I1 TB hcode hmT hu hT hdef hfr fun f c' pm ctv H2 s' I2 eN T2 hf hfn hfo hco => ?_))
  refine wpAny_bind (wpAny_standAt (wpAny_pure (wpAny_evalAll_nil ?_)))
  exact hc pins s' σ H2 vs us f c' pm ctv Q I2 r1 hf (codeO_at I2.hok hco) (q1 H2 eN T2)
end
/-! ### sorted(xs, key=lambda item: (0 - scores[item], item)) -/
def rSortL (K : PySem.W.Frag) (i : Nat) : L2.St → List V → Hp → VK → Prop := fun σ vs H Q => ∃ (a b : Addr) (its : List Nat) (sc : List Int), vs = [.ref a] ∧ σ[i]? = some (some (.ref b)) ∧ SqL K H a ((natI its).map V.int) ∧ SqL K H b (sc.map V.int) ∧ (∀ j ∈ its, j < sc.length) ∧
  ∀ (p : Addr) (H' : Hp), (∀ b o, H b = some o → H' b = some o) → H p = none → H' p = some (.lst ((natI (inOrder (scAt sc) its)).map V.int)) → Q (.ref p) H'
theorem vals_at {xs : List V} {us : List Value} (r : Vals xs us) {j : Nat} {n : Int} (h : xs[j]? = some (V.int n)) : ∃ t, us[j]? = some (.int n t) := by
  obtain ⟨u, h1, h2⟩ := r.get h
  obtain ⟨t, rfl⟩ := h2
  exact ⟨t, h1⟩
theorem each_ints : ∀ {its : List Nat} {us : List Value}, Vals ((natI its).map V.int) us → EachIs (fun (v : Value) (j : Nat) => ∃ t, v = .int (j : Int) t) us its
  | [], _, r => by
    cases r
    exact .nil
  | j :: its, _, r => by
    cases r with
    | cons h t =>
      obtain ⟨tk, rfl⟩ := h
      exact .cons ⟨tk, rfl⟩ (each_ints t)
theorem vals_each : ∀ {its : List Nat} {us : List Value}, EachIs (fun (v : Value) (j : Nat) => ∃ t, v = .int (j : Int) t) us its → Vals ((natI its).map V.int) us
  | _, _, .nil => .nil
  | _, _, .cons h t => .cons h (vals_each t)
theorem sorted_KL {X : Cx} {i k : Nat} {j jj : Nat} {p1 p2 p3 p4 p5 p6 p7 pa : Pos} {scope : Scope} (hr : Room (k + 1) X.A) (hN : X.N[i]? = some ("scores" : Str)) (hcell : X.env.scope.names.lookup ("scores" : Str) = some .cell)
    (hsc : scope = { kind := .function, names := [(Str.ofString "item", .local), (Str.ofString "scores", .free)], isGenerator := false, isCoroutine := false }) :
    CallKL X "sorted" { posonlyargs := [], args := [{ arg := "item", annotation := none, pos := pa }], vararg := none, kwonlyargs := [], kw_defaults := [], kwarg := none, defaults := [] }
      (.Tuple [.BinOp (.Constant (.int 0) j p1) .Sub (.Subscript (.Name "scores" p2) (.Name "item" p3) p4) p5, .Name "item" p6] jj p7) scope (rSortL X.K i) := by
  intro pins s σ H vs us f c' pm ctv Q I r hf hcr h
  obtain ⟨a, b, its, sc, rfl, hσ, ha, hb, hlt, q⟩ := h
  obtain rfl := Vals.ref1 r
  obtain ⟨ua, ra, la, za⟩ := I.list ha
  obtain ⟨ub, rb, lb, zb⟩ := I.list hb
  -- the captured cell
  obtain ⟨m, hns, hl⟩ := id I.loc
  obtain ⟨u0, ru, look⟩ := hl i "scores" (.ref b) hN hσ (.inr (.inl hcell))
  obtain rfl : u0 = Value.ref b := ru
  have hk : X.env.kindOf "scores" = some .cell := hcell
  obtain ⟨c0, hc0, hcell0⟩ : ∃ c0, X.env.cells.lookup ("scores" : Str) = some c0 ∧ s.heap.IsCell c0 (some (.ref b)) := by
    rcases look with ⟨z, _⟩ | ⟨_, c0, z1, z2⟩
    · rw [hk] at z; cases z
    · exact ⟨c0, z1, z2⟩
  subst hsc
  have hcl : (cloFrom X.env.cells [(Str.ofString "item", NameKind.local), (Str.ofString "scores", NameKind.free)] []).lookup ("scores" : Str) = some c0 :=
    clo_has (fun y hy e => by
      simp only [List.mem_cons, List.not_mem_nil, or_false] at hy
      rcases hy with rfl | rfl
      · cases e
      · exact ⟨c0, hc0⟩) (by simp) hc0
  have hn63 := line63
  have hLa : its.length ≤ sizeLine := by
    have := za
    rw [List.length_map] at this
    unfold natI at this
    rw [List.length_map] at this
    exact this
  have hLb : sc.length ≤ sizeLine := by
    rw [List.length_map] at zb
    exact zb
  have hdp := hr.dp
  have hun := hr.un
  refine PySem.W.sorted_key_data (β := Nat) (R := fun v j => ∃ t, v = .int (j : Int) t) (vs := ua) (bs := its) (b := false) (fun j => .tuple [.int (0 - scAt sc j), .int (j : Int)]) la.isList (each_ints ra) ?_ ?_ hLa ?_ (ksk_s1 _ _) (fun _ => ksk_l1 _ _) (fun x => ksk_t1 f x) ?_ ?_
  · intro d hd d' hd'
    obtain ⟨j1, _, rfl⟩ := List.mem_map.mp hd
    obtain ⟨j2, _, rfl⟩ := List.mem_map.mp hd'
    rfl
  · exact .inl fun d hd => by
      obtain ⟨j1, _, rfl⟩ := List.mem_map.mp hd
      exact ⟨_, _, rfl⟩
  · intro j _
    show X.A.units + 2 + PyData.depth (.tuple [.int (0 - scAt sc j), .int (j : Int)]) < cLine
    have : PyData.depth (.tuple [.int (0 - scAt sc j), .int (j : Int)]) ≤ 3 := by
      simp [PyData.depth, PyData.depthAll]
    omega
  · rintro v j ⟨t, rfl⟩ hj h0 tk kp
    have hj' := hlt j hj
    obtain ⟨tz, htz⟩ := vals_at rb (j := j) (n := scAt sc j) (by
      rw [List.getElem?_map]
      unfold scAt
      simp [List.getD, hj'])
    refine wpAny_mono (lam_call (prog := X.prog) (w := X.w) (A := X.A.in1.in1) (x := "item") (kp _ _ hf) (hcr.keeps kp) (I.nolimit.keeps kp) (by show X.A.depth < recursionLimit; omega) (by rfl) (by rfl) rfl rfl rfl (by
        intro y hy
        simp only [List.mem_cons, List.not_mem_nil, or_false] at hy
        rcases hy with rfl | rfl <;> simp) (fun h1 L tk1 kp1 hns1 => ?_)) (fun _ _ z => z.pure) fun _ _ z => z
    refine body_order (c0 := c0) (b := b) (its := ub) rfl rfl rfl hcl (hcell0.keeps fun x o e => kp1 x o (kp x o e)) (lb.isList.at fun o e => kp1 _ o (kp _ o e)) hns1 (by rfl) (by omega) (by simpa using htz) (by omega)
  · intro out c h' tk kp fresh hD hlen hE
    have hp : H (s.heap.objs.size + 1) = none := I.hok.fresh (Nat.le_succ _)
    have eo : its.mergeSort (dataLe false fun j => .tuple [.int (0 - scAt sc j), .int (j : Int)]) = inOrder (scAt sc) its := by
      rw [PySem.W.dataLe_ii]
      rfl
    rw [eo] at hE
    have hv := vals_each hE
    refine ⟨.ref _, upd H (s.heap.objs.size + 1) (.lst ((natI (inOrder (scAt sc) its)).map V.int)), I.laid (t' := tk) kp (Nat.le_succ _) ⟨?_, _, c, hv, hD⟩, rfl, q _ _ (fun b o e => ?_) hp upd_same⟩
    · rw [List.length_map]
      unfold natI
      rw [List.length_map, Bw.inOrder_len]
      exact hLa
    · rw [upd_ne (ne_of_none e hp)]
      exact e
end BwK
end

section
set_option Elab.async false
set_option linter.all false
set_option maxRecDepth 100000
set_option maxHeartbeats 2000000
namespace BwK
open PySem PySem.Spec PyProof.Rows L2 LamX NdefX
open PySem.W (kla_obj kla_fn KeyPure AllAlike Sortable alike alikeAll EachIs dataLt dataLt_int dataLt_ii dataLt_pair)
open Bw (natI ln IsFirst)
/-! ### max(xs, key=lambda item: (lines[item], 0 - item)) -/
/-- a list of pairs of whole numbers -/
def PairsAt (K : PySem.W.Frag) (H : Hp) (b : Addr) (l : List (Int × Int)) : Prop := ∃ ts : List Addr, SqL K H b (ts.map V.ref) ∧ ts.length = l.length ∧ ∀ (i : Nat) (t : Addr) (x : Int × Int), ts[i]? = some t → l[i]? = some x → SqT K H t [V.int x.1, V.int x.2]
def firstKey (l : List (Int × Int)) (i : Nat) : PyData := .tuple [.tuple [.int (ln l i).1, .int (ln l i).2], .int (0 - (i : Int))]
def firstBt (l : List (Int × Int)) (i j : Nat) : Bool := dataLt (firstKey l j) (firstKey l i)
theorem firstBt_is (l : List (Int × Int)) (i j : Nat) : firstBt l i j = true ↔ (ln l j).1 < (ln l i).1 ∨ ((ln l j).1 = (ln l i).1 ∧ ((ln l j).2 < (ln l i).2 ∨ ((ln l j).2 = (ln l i).2 ∧ i < j))) := by
  unfold firstBt firstKey
  rw [dataLt_pair (by simp [alike, alikeAll]) (by simp [alike])]
  rw [dataLt_ii, dataLt_int]
  simp only [PyData.eqv, PyData.eqvAll, beq_iff_eq, Bool.and_true, Bool.and_eq_true]
  by_cases h1 : (ln l j).1 = (ln l i).1 <;> by_cases h2 : (ln l j).2 = (ln l i).2 <;> by_cases h3 : i = j <;> simp [h1, h2, h3] <;> omega
theorem firstBest (l : List (Int × Int)) : ∀ k, argBest (firstBt l) k ≤ k ∧ ∀ j, j ≤ k → (ln l j).1 < (ln l (argBest (firstBt l) k)).1 ∨ ((ln l j).1 = (ln l (argBest (firstBt l) k)).1 ∧ ((ln l j).2 < (ln l (argBest (firstBt l) k)).2 ∨ ((ln l j).2 = (ln l (argBest (firstBt l) k)).2 ∧ argBest (firstBt l) k ≤ j)))
  | 0 => ⟨Nat.le_refl _, fun j hj => by
      obtain rfl : j = 0 := by omega
      exact .inr ⟨rfl, .inr ⟨rfl, Nat.le_refl _⟩⟩⟩
  | k + 1 => by
    obtain ⟨h1, h2⟩ := firstBest l k
    have e : argBest (firstBt l) (k + 1) = if firstBt l (k + 1) (argBest (firstBt l) k) = true then k + 1 else argBest (firstBt l) k := rfl
    rw [e]
    by_cases hb : firstBt l (k + 1) (argBest (firstBt l) k) = true
    · rw [if_pos hb]
      have hb' := (firstBt_is l _ _).mp hb
      refine ⟨Nat.le_refl _, fun j hj => ?_⟩
      by_cases hj' : j = k + 1
      · subst hj'
        exact .inr ⟨rfl, .inr ⟨rfl, Nat.le_refl _⟩⟩
      · have := h2 j (by omega)
        omega
    · rw [if_neg hb]
      have hb' := mt (firstBt_is l _ _).mpr hb
      refine ⟨by omega, fun j hj => ?_⟩
      by_cases hj' : j = k + 1
      · subst hj'
        omega
      · exact h2 j (by omega)
theorem firstBest_is {l : List (Int × Int)} (hl : l ≠ []) : IsFirst l (argBest (firstBt l) (l.length - 1)) := by
  have hp : 0 < l.length := List.length_pos_iff.mpr hl
  obtain ⟨h1, h2⟩ := firstBest l (l.length - 1)
  exact ⟨by omega, fun j hj => h2 j (by omega)⟩
theorem key_reads {h : Heap} {tp p : Addr} {x : Int × Int} {its : List Value} {n : Int} {t : Tok} (r : Vals [V.int x.1, V.int x.2] its) (ht : IsTup h tp its.toArray)
    (hp : h.get? p = some { cls := .type "tuple", data := .seq #[.ref tp, .int n t] }) : ∃ as, PySem.Reads h (.ref p) (.tuple [.tuple [.int x.1, .int x.2], .int n]) as := by
  obtain ⟨o, ho, hc, m, hd⟩ := ht
  cases r with
  | cons h1 r =>
    cases r with
    | cons h2 r =>
      cases r
      obtain ⟨t1, rfl⟩ := h1
      obtain ⟨t2, rfl⟩ := h2
      exact ⟨_, Reads.tuple hp rfl rfl (.cons (Reads.tuple ho hc hd (.cons (.int _ _) (.cons (.int _ _) .nil))) (.cons (.int _ _) .nil))⟩
def rMaxL (K : PySem.W.Frag) (i : Nat) : L2.St → List V → Hp → VK → Prop := fun σ vs H Q => ∃ (a b : Addr) (l : List (Int × Int)), vs = [.ref a] ∧ σ[i]? = some (some (.ref b)) ∧ SqL K H a ((natI (List.range l.length)).map V.int) ∧ PairsAt K H b l ∧ l ≠ [] ∧
  ∀ j : Nat, IsFirst l j → Q (.int (j : Int)) H
theorem vals_ref {xs : List Addr} {us : List Value} (r : Vals (xs.map V.ref) us) {j : Nat} {n : Addr} (h : xs[j]? = some n) : us[j]? = some (.ref n) := by
  obtain ⟨u, h1, h2⟩ := r.get (i := j) (x := V.ref n) (by rw [List.getElem?_map, h]; rfl)
  obtain rfl : u = .ref n := h2
  exact h1
theorem max_KL {X : Cx} {i k : Nat} {j jj : Nat} {p1 p2 p3 p4 p5 p6 p7 pa : Pos} {scope : Scope} (hr : Room (k + 1) X.A) (hcalm : X.calm = true) (hN : X.N[i]? = some ("lines" : Str)) (hcell : X.env.scope.names.lookup ("lines" : Str) = some .cell)
    (hsc : scope = { kind := .function, names := [(Str.ofString "item", .local), (Str.ofString "lines", .free)], isGenerator := false, isCoroutine := false }) :
    CallKL X "max" { posonlyargs := [], args := [{ arg := "item", annotation := none, pos := pa }], vararg := none, kwonlyargs := [], kw_defaults := [], kwarg := none, defaults := [] }
      (.Tuple [.Subscript (.Name "lines" p1) (.Name "item" p2) p3, .BinOp (.Constant (.int 0) j p4) .Sub (.Name "item" p5) p6] jj p7) scope (rMaxL X.K i) := by
  intro pins s σ H vs us f c' pm ctv Q I r hf hcr h
  obtain ⟨a, b, l, rfl, hσ, ha, ⟨ts, hb, hts, hpairs⟩, hl, q⟩ := h
  obtain rfl := Vals.ref1 r
  obtain ⟨ua, ra, la, za⟩ := I.list ha
  obtain ⟨ub, rb, lb, zb⟩ := I.list hb
  obtain ⟨m, hns, hlk⟩ := id I.loc
  obtain ⟨u0, ru, look⟩ := hlk i "lines" (.ref b) hN hσ (.inr (.inl hcell))
  obtain rfl : u0 = Value.ref b := ru
  have hk : X.env.kindOf "lines" = some .cell := hcell
  obtain ⟨c0, hc0, hcell0⟩ : ∃ c0, X.env.cells.lookup ("lines" : Str) = some c0 ∧ s.heap.IsCell c0 (some (.ref b)) := by
    rcases look with ⟨z, _⟩ | ⟨_, c0, z1, z2⟩
    · rw [hk] at z; cases z
    · exact ⟨c0, z1, z2⟩
  subst hsc
  have hcl : (cloFrom X.env.cells [(Str.ofString "item", NameKind.local), (Str.ofString "lines", NameKind.free)] []).lookup ("lines" : Str) = some c0 :=
    clo_has (fun y hy e => by
      simp only [List.mem_cons, List.not_mem_nil, or_false] at hy
      rcases hy with rfl | rfl
      · cases e
      · exact ⟨c0, hc0⟩) (by simp) hc0
  have hn63 := line63
  have hLb : ts.length ≤ sizeLine := by
    rw [List.length_map] at zb
    exact zb
  have hdp := hr.dp
  have hun := hr.un
  have hsz : ua.length = l.length := by
    have := ra.length
    rw [List.length_map] at this
    unfold natI at this
    rw [List.length_map, List.length_range] at this
    exact this.symm
  have hpos : 0 < l.length := List.length_pos_iff.mpr hl
  have hua : ∀ (n : Nat) (v : Value), ua.toArray[n]? = some v → n < l.length ∧ ∃ t, v = .int (n : Int) t := by
    intro n v hv
    have hv' : ua[n]? = some v := by simpa using hv
    have hn : n < ua.length := (List.getElem?_eq_some_iff.mp hv').1
    obtain ⟨t, ht⟩ := vals_at ra (j := n) (n := (n : Int)) (by
      unfold natI
      rw [List.getElem?_map, List.getElem?_map, List.getElem?_range (by omega)]
      rfl)
    rw [hv'] at ht
    exact ⟨by omega, t, by simpa using ht⟩
  refine call_max_walkK (PySem.W.iter_listW (show X.A.in1.handled = none from I.ok.hd hcalm) la.isList fun s2 es W st hfp _ hk2 => ?_)
  have hIlt : s.heap.objs.size < s2.heap.objs.size := hfp _ List.mem_cons_self
  let J : Shared → Prop := fun s' => (∀ b o, s.heap.get? b = some o → s'.heap.get? b = some o) ∧ s'.gens = s.gens ∧ s'.drawn = s.drawn ∧ s'.os = s.os
  let Vk : Nat → Value → Shared → Prop := fun i kv s' => ∃ p tp t, kv = .ref p ∧ p ≠ s2.heap.objs.size ∧ p ≠ s.heap.objs.size ∧ ts[i]? = some tp ∧ s'.heap.get? p = some { cls := .type "tuple", data := .seq #[.ref tp, .int (0 - (i : Int)) t] }
  refine ⟨_, _, _, _, _, _, _, J, Vk, firstBt l, rfl, W, st, hfp, by simpa using (by omega : 0 < ua.length), ?_, ⟨hk2, by rw [es], by rw [es], by rw [es]⟩, fun v s' hv hJ => ?_⟩
  · refine ⟨fun t t' hJ hm => ?_, fun n kv t t' hV hm => ?_, fun n v t o Q' E' hn hP hJ hst hS hq => ?_, fun i1 j1 ki kj t Q' E' hJ h1 h2 hq => ?_⟩
    · obtain ⟨a1, a2, a3, a4⟩ := hJ
      refine ⟨fun b o e => hm.heap b o (fun hb => ?_) (a1 b o e), hm.gens.trans a2, hm.drawn.trans a3, hm.os.trans a4⟩
      have hlt : b < s.heap.objs.size := Heap.lt_size e
      rcases List.mem_cons.mp hb with hb | hb
      · exact Nat.ne_of_lt (Nat.lt_trans hlt hIlt) hb
      · exact Nat.ne_of_lt hlt (List.mem_singleton.mp hb)
    · obtain ⟨p, tp, tk, rfl, n1, n2, e1, e2⟩ := hV
      refine ⟨p, tp, tk, rfl, n1, n2, e1, hm.heap p _ (fun hb => ?_) e2⟩
      rcases List.mem_cons.mp hb with rfl | hb
      · exact n1 rfl
      · exact n2 (List.mem_singleton.mp hb)
    · obtain ⟨hnl, tk, rfl⟩ := hua n v hP
      obtain ⟨a1, a2, a3, a4⟩ := hJ
      obtain ⟨tp, htp⟩ : ∃ tp, ts[n]? = some tp := ⟨_, List.getElem?_eq_getElem (by omega : n < ts.length)⟩
      have et : t = { t with heap := t.heap, toks := t.toks } := rfl
      refine wpAny_mono (lam_callP (prog := X.prog) (w := X.w) (A := X.A.in1) (x := "item") (tp := tp) (n := 0 - (n : Int)) (a1 _ _ hf) (hcr.keeps a1) (I.nolimit.keeps a1) (by show X.A.depth < recursionLimit; omega) (by rfl) (by rfl) rfl rfl rfl (by
          intro y hy
          simp only [List.mem_cons, List.not_mem_nil, or_false] at hy
          rcases hy with rfl | rfl <;> simp) (fun h1 L tk1 kp1 hns1 => ?_)) (fun u t' z => ?_) fun _ _ z => z.elim
      · refine body_first (c0 := c0) (b := b) (its := ub) rfl rfl rfl hcl (hcell0.keeps fun x o e => kp1 x o (a1 x o e)) (lb.isList.at fun o e => kp1 _ o (a1 _ o e)) hns1 (by rfl) (by omega) (by simpa using vals_ref rb htp) (by omega)
      · obtain ⟨h', tk', p, t0, e, k1, rfl, hp, hg⟩ := z
        subst e
        have hSlt : s2.heap.objs.size < t.heap.objs.size := Heap.lt_size hS
        have hp : t.heap.objs.size ≤ p := hp
        obtain ⟨_, hI0, _⟩ := hst.1
        have hIl : s.heap.objs.size < t.heap.objs.size := Heap.lt_size hI0
        refine hq _ _ ⟨fun b o e => k1 b o (a1 b o e), a2, a3, a4⟩ ⟨hst.1.at fun o e => k1 _ o e, hst.2.at fun o e => k1 _ o e⟩ (k1 _ _ hS) ⟨p, tp, t0, rfl, Nat.ne_of_gt (Nat.lt_of_lt_of_le hSlt hp), Nat.ne_of_gt (Nat.lt_of_lt_of_le hIl hp), htp, hg⟩ fun j2 k2 ⟨p2, tp2, t2, z1, z2, z3, z4, z5⟩ => ⟨p2, tp2, t2, z1, z2, z3, z4, k1 _ _ z5⟩
    · obtain ⟨q1, tp1, tk1, rfl, _, _, e1, g1⟩ := h1
      obtain ⟨q2, tp2, tk2, rfl, _, _, e2, g2⟩ := h2
      obtain ⟨a1, _⟩ := hJ
      have l1 : i1 < l.length := by have := (List.getElem?_eq_some_iff.mp e1).1; omega
      have l2 : j1 < l.length := by have := (List.getElem?_eq_some_iff.mp e2).1; omega
      obtain ⟨x1, r1, t1, _⟩ := I.tuple (hpairs i1 tp1 _ e1 (Bw.ln_get l1))
      obtain ⟨x2, r2, t2, _⟩ := I.tuple (hpairs j1 tp2 _ e2 (Bw.ln_get l2))
      obtain ⟨as1, d1⟩ := key_reads r1 (t1.keeps a1) g1
      obtain ⟨as2, d2⟩ := key_reads r2 (t2.keeps a1) g2
      refine PySem.W.rcGt_alike _ _ _ _ _ _ _ _ d1 d2 (by simp [alike, alikeAll]) (by simp) ?_ _ _ _ _ hq
      have : PyData.depth (.tuple [.tuple [.int (ln l i1).1, .int (ln l i1).2], .int (0 - (i1 : Int))]) ≤ 3 := by
        simp [PyData.depth, PyData.depthAll]
      have h3 := Nat.min_le_left (PyData.depth (.tuple [.tuple [.int (ln l i1).1, .int (ln l i1).2], .int (0 - (i1 : Int))])) (PyData.depth (.tuple [.tuple [.int (ln l j1).1, .int (ln l j1).2], .int (0 - (j1 : Int))]))
      show X.A.units + 1 + _ < cLine
      omega
  · obtain ⟨a1, a2, a3, a4⟩ := hJ
    have hv2 : ua.toArray[argBest (firstBt l) (l.length - 1)]? = some v := by
      have : ua.toArray.size = l.length := by simpa using hsz
      rw [this] at hv
      exact hv
    obtain ⟨_, t, rfl⟩ := hua _ v hv2
    refine ⟨.int _, H, ?_, ⟨t, rfl⟩, q _ (firstBest_is hl)⟩
    have := I.kept (h' := s'.heap) (t' := s'.toks) a1
    rw [← a2, ← a3, ← a4] at this
    exact this
end BwK
end

section
set_option Elab.async false
set_option linter.all false
set_option maxRecDepth 100000
set_option maxHeartbeats 2000000
namespace BwK
open PySem PySem.Spec PyProof.Rows L2 LamX
open PySem.W (WData Codec OpenSpec Well WellAll ReadsW ReadsAllW)
/-! ### the end of a Spec row whose defs make lambdas: the tables of code objects are tracked -/
theorem same_sqT {K : PySem.W.Frag} {H H' : Hp} {a : Addr} {xs : List V} (e : Same H H') (h : SqT K H a xs) : SqT K H' a xs := by
  rcases h with (h | ⟨o, h⟩) | h
  · exact .inl (.inl (e _ _ h))
  · exact .inl (.inr ⟨o, e _ _ h⟩)
  · exact .inr h
mutual
theorem dw_same {K : PySem.W.Frag} {H H' : Hp} (e : Same H H') : ∀ {v : V} {d : WData}, Dw K H v d → Dw K H' v d
  | _, _, .non => .non
  | _, _, .bl b => .bl b
  | _, _, .int i => .int i
  | _, _, .str x => .str x
  | _, _, .byt b => .byt b
  | _, _, .lst hs ha => .lst (e.seq hs) (dws_same e ha)
  | _, _, .tup hs ha => .tup (same_sqT e hs) (dws_same e ha)
theorem dws_same {K : PySem.W.Frag} {H H' : Hp} (e : Same H H') : ∀ {vs : List V} {ds : List WData}, DwAll K H vs ds → DwAll K H' vs ds
  | _, _, .nil => .nil
  | _, _, .cons a b => .cons (dw_same e a) (dws_same e b)
end
theorem spec_callT {P : Program} {w : World} {K : PySem.W.Frag} {mg mb : Str → Option Value} {CX : CXT} {k : Nat} {fa : Addr} {fd : FuncData} {ps : List Str} {sp : Sp} {cs : List (Addr × Addr)} {s₁ : Shared} {vals : List Value} {ds : List WData} {R : PySem.W.WRecords} {cl : Str → Option Addr} {d0 : WData}
    (KX : K.In s₁.heap) (hns : s₁.heap.Ns mainGlobals mg) (hb : s₁.heap.Ns builtinsNs mb) (hbb : ∀ x : Str, x ≠ "__name__" → mb x = bootBuiltins x) (hlim : s₁.heap.NoLimit) (hg : s₁.gens = #[])
    (hT : ∀ p ∈ cs, s₁.heap.get? p.2 = some { cls := .none, data := .fields #[] }) (nT : ∀ p ∈ cs, K.lookup p.2 = none) (C : ∀ p ∈ cs, PySem.W.CodeHd s₁.heap p.1 p.2)
    (hbm : ∃ (bm : Addr) (ob : Obj), mg "__builtins__" = some (.ref bm) ∧ bm ≠ builtinsNs ∧ s₁.heap.get? bm = some ob ∧ ob.cls = .type "module" ∧ ob.dict = some builtinsNs ∧ ob.data = .plain)
    (hwl : WellAll w.params s₁.heap vals ds) (hpl : plWs ds = true) (hwt : ∀ d ∈ ds, d.weight ≤ 1048576) (hr : Room k callerA)
    (F : ∀ base : Heap, K.In base → base.Ns mainGlobals mg → (∀ p ∈ cs, TabB base mg p.1 p.2) → FnOk P w K mg base CX k fa fd ps sp) (hbind : ∀ (s : Shared) (us : List Value), us.length = ps.length → BindsTo s fd ⟨us, []⟩ (ps.zip us)) (hlen : ds.length = ps.length)
    (hsp : ∀ (H : Hp) (xs : List V), (∀ p ∈ cs, H p.2 = some (.tbl #[])) → DwAll K H xs ds → sp xs H (fun v H' => Dw K H' v d0) fun _ _ _ => False)
    (hCX : ∀ H e s', CX [] H s₁ (fun _ _ _ => False) e s' → False) :
    codeAny (model P w) callerA (.call (.ref fa) ⟨vals, []⟩) (fun r s' => ∃ u as, r = .ok (.ret u) ∧ ReadsW R cl s'.heap u d0 as ∧ OldK s₁.heap s'.heap ∧ s'.os = s₁.os ∧ AllBare s'.gens) s₁ := by
  obtain ⟨A, ho, ar⟩ := area_all ds vals hwl hpl hwt
  have isT : ∀ b : Addr, b ∈ cs.map (·.2) → s₁.heap.get? b = some { cls := .none, data := .fields #[] } := fun b hb => by
    obtain ⟨p, hp, e⟩ := List.mem_map.mp hb
    rw [← e]
    exact hT p hp
  have kT : ∀ b : Addr, b ∈ cs.map (·.2) → K.lookup b = none := fun b hb => by
    obtain ⟨p, hp, e⟩ := List.mem_map.mp hb
    rw [← e]
    exact nT p hp
  have memT : ∀ p ∈ cs, p.2 ∈ cs.map (·.2) := fun p hp => List.mem_map.mpr ⟨p, hp, rfl⟩
  obtain ⟨H, hH⟩ : ∃ H : Hp, H = fun b => if b ∈ cs.map (·.2) then some (.tbl #[]) else argH K s₁.heap A b := ⟨_, rfl⟩
  have hHT : ∀ b, b ∈ cs.map (·.2) → H b = some (.tbl #[]) := fun b hb => by
    rw [hH]
    exact if_pos hb
  have hHA : ∀ b, b ∉ cs.map (·.2) → H b = argH K s₁.heap A b := fun b hb => by
    rw [hH]
    exact if_neg hb
  have hsame : Same (argH K s₁.heap A) H := fun b o e => by
    have nb : b ∉ cs.map (·.2) := fun z => by
      have q := isT b z
      obtain ⟨_, vs, _, _, ⟨e2, _⟩ | ⟨e2, _⟩⟩ := argH_is ar e
      · rw [e2] at q
        have z' : Data.seq vs.toArray _ = Data.fields #[] := congrArg Obj.data (Option.some.inj q)
        cases z'
      · rw [e2] at q
        have z' : Data.seq vs.toArray _ = Data.fields #[] := congrArg Obj.data (Option.some.inj q)
        cases z'
    rw [hHA b nb]
    exact e
  have hO : ∀ b, H b = none ∨ b ∈ cs.map (·.2) ∨ ∃ o u, H b = some (.frz o u) := fun b => by
    by_cases hb : b ∈ cs.map (·.2)
    · exact .inr (.inl hb)
    · rw [hHA b hb]
      rcases argH_only (K := K) ar b with z | z
      · exact .inl z
      · exact .inr (.inr z)
  have hok : HOk P w H s₁.heap := fun b u q => by
    by_cases hb : b ∈ cs.map (·.2)
    · rw [hHT b hb] at q
      obtain rfl := Option.some.inj q
      exact isT b hb
    · rw [hHA b hb] at q
      have := argH_ok (P := P) (w := w) (K := K) ar b u q
      obtain ⟨_, vs, h1, h2, ⟨e, rfl⟩ | ⟨e, rfl⟩⟩ := argH_is ar q
      · exact ⟨e, by rw [List.length_map]; exact h1, vs, _, vals_toV h2, e⟩
      · exact ⟨e, by rw [List.length_map]; exact h1, vs, vals_toV h2, _, e, rfl, _, rfl⟩
  have hS := dws_same hsame (dw_all KX ar ds vals hwl hpl ho)
  have hV := vals_toV ho
  have hK : ∀ b u, H b = some u → K.lookup b = none := fun b u q => by
    by_cases hb : b ∈ cs.map (·.2)
    · exact kT b hb
    · rw [hHA b hb] at q
      exact (argH_is ar q).1
  have noD : ∀ {b : Addr} {o : Obj}, s₁.heap.get? b = some o → (∀ vs n, o.data ≠ .seq vs n) → o.data ≠ .fields #[] → H b = none := fun {b o} e h1 h2 => by
    cases q : H b with
    | none => rfl
    | some u =>
      by_cases hb : b ∈ cs.map (·.2)
      · rw [isT b hb] at e
        cases e
        exact (h2 rfl).elim
      · rw [hHA b hb] at q
        obtain ⟨_, vs, _, _, ⟨e2, _⟩ | ⟨e2, _⟩⟩ := argH_is ar q
        · rw [e2] at e
          cases e
          exact (h1 _ _ rfl).elim
        · rw [e2] at e
          cases e
          exact (h1 _ _ rfl).elim
  have noA : ∀ {b : Addr} {o : Obj} {es : Array DictEntry} {ep : Nat}, s₁.heap.get? b = some o → o.data = .dict es ep → H b = none := fun {b o es ep} e d => by
    refine noD e (fun vs n z => ?_) fun z => ?_
    · rw [d] at z
      cases z
    · rw [d] at z
      cases z
  have HT2 : ∀ p ∈ cs, H p.2 = some (.tbl #[]) := fun p hp => hHT _ (memT p hp)
  clear hH hHA hsame
  have base_of : ∀ {b : Addr} {o : Obj}, s₁.heap.get? b = some o → H b = none → (hidT s₁.heap H).get? b = some o := fun e n => hidT_get e n
  have nsK : ∀ {b : Addr} {m : Str → Option Value}, s₁.heap.Ns b m → (hidT s₁.heap H).Ns b m := fun {b m} ⟨o, es, ep, e, d, r⟩ => ⟨o, es, ep, base_of e (noA e d), d, r⟩
  have nK : ∀ b o, K.lookup b = some o → H b = none := fun b o e => by
    cases q : H b with
    | none => rfl
    | some u =>
      rw [hK b u q] at e
      cases e
  have hKb : K.In (hidT s₁.heap H) := fun b o e => base_of (KX b o e) (nK b o e)
  have hM : L2.Mod K mg (hidT s₁.heap H) := ⟨hKb, nsK hns, ⟨mb, nsK hb, hbb⟩, let ⟨mc, h1, h2⟩ := hlim; ⟨mc, nsK h1, h2⟩⟩
  have TB : ∀ p ∈ cs, TabB (hidT s₁.heap H) mg p.1 p.2 := fun p hp => by
    have hTp := hT p hp
    refine ⟨?_, ?_, fun z => ?_⟩
    · obtain ⟨o, us, file, tf, flags, tg, inF, text, tt, e1, r1, r2, r3, r4, r5, r6, r7, r8, hne⟩ := C p hp
      refine ⟨o, us, file, tf, flags, tg, inF, text, tt, base_of e1 (noD e1 (fun vs n z => ?_) fun z => ?_), r1, r2, r3, r4, r5, r6, r7, r8, hne⟩
      · rw [r2] at z
        cases z
      · rw [r2] at z
        cases z
        simp at r3
    · obtain ⟨bm, ob, b1, b2, b3, b4, b5, b6⟩ := hbm
      have nG : bm ≠ mainGlobals := fun q => by
        obtain ⟨o, es, ep, e, hd, _⟩ := hns
        rw [q, e] at b3
        cases b3
        rw [hd] at b6
        cases b6
      have nP : bm ≠ p.2 := fun q => by
        rw [q, hTp] at b3
        cases b3
        cases b6
      refine ⟨bm, ob, b1, b2, nG, nP, base_of b3 (noD b3 (fun vs n z => ?_) fun z => ?_), b4, b5, b6⟩
      · rw [b6] at z
        cases z
      · rw [b6] at z
        cases z
    · obtain ⟨o, es, ep, e, hd, _⟩ := hns
      rw [z, hTp] at e
      cases e
      cases hd
  have e0 : Env0 P w K mg (hidT s₁.heap H) callerA [] s₁ H := ⟨rfl, hM, fun b o e => of_hidT e, Nat.le_of_eq (hidT_size _ _), trivial, fun b hb => absurd (show b ∈ ([] : List Addr) from hb) (by simp), hok, .of_eq hg⟩
  have hl : vals.length = ps.length := by rw [wellAll_len hwl]; exact hlen
  refine codeAny_mono ((F _ hKb (nsK hns) TB).run callerA [] s₁ H ⟨vals, []⟩ vals (vals.map toV) _ _ hr e0 (hbind s₁ vals hl) hV (hsp H _ HT2 hS)) fun r s' x => ?_
  cases r with
  | error e => exact (hCX H e s' x).elim
  | ok fl =>
    cases fl with
    | next => exact False.elim x
    | brk => exact False.elim x
    | cont => exact False.elim x
    | ret u =>
      obtain ⟨v, H', os, bare, un, hok', r', q⟩ := x
      have key : ∀ b o, b ∉ cs.map (·.2) → s₁.heap.get? b = some o → s'.heap.get? b = some o := fun b o nb e => by
        cases q2 : H b with
        | none => exact un.keep b o e q2 (by intro z; exact absurd (show b ∈ ([] : List Addr) from z) (by simp)) (by simp)
        | some u2 =>
          rcases hO b with z | z | ⟨ob, u3, z⟩
          · rw [q2] at z
            cases z
          · exact absurd z nb
          · have z2 := un.frzs b ob _ z
            obtain ⟨e1, _⟩ := hok b _ z
            obtain ⟨e2, _⟩ := hok' b _ z2
            rw [e] at e1
            cases e1
            exact e2
      have grown : ∀ p ∈ cs, ∃ more : Array Value, s'.heap.get? p.2 = some { cls := .none, data := .fields more } := fun p hp => by
        obtain ⟨more, z⟩ := un.tbls p.2 #[] (HT2 p hp)
        exact ⟨_, hok' p.2 _ z⟩
      have KX' : K.In s'.heap := fun b o e => by
        by_cases hb : b ∈ cs.map (·.2)
        · rw [kT b hb] at e
          cases e
        · exact key b o hb (KX b o e)
      obtain ⟨as, hrd⟩ := Dw.reads (R := R) (cl := cl) hok' KX' d0 v u q r'
      refine ⟨u, as, rfl, hrd, ⟨fun b o e => ?_, fun b o e => ?_⟩, os, bare⟩
      · by_cases hb : b ∈ cs.map (·.2)
        · obtain ⟨p, hp, ep⟩ := List.mem_map.mp hb
          obtain ⟨more, hm⟩ := grown p hp
          rw [← ep] at e ⊢
          rw [hT p hp] at e
          cases e
          exact .inr (.inl ⟨((C p hp).tab (hT p hp)).isCodeTable, rfl, #[], more, rfl, by rw [Array.empty_append]; exact hm⟩)
        · exact .inl (key b o hb e)
      · by_cases hb : b ∈ cs.map (·.2)
        · obtain ⟨p, hp, ep⟩ := List.mem_map.mp hb
          obtain ⟨more, hm⟩ := grown p hp
          rw [← ep]
          exact ⟨_, hm⟩
        · exact ⟨o, key b o hb e⟩
/-- what the promise's text is about: the function, the tables of the defs that make lambdas -/
theorem walk_specT {r : OpenSpec} {k : Nat} {q : Program} {loose : List Str} {XP : (Str → Option Value) → Heap → Prop} {YP : World → Heap → Prop} {d : DefRec} {K : Params → PySem.W.Frag} {ps : List Str} {sp : List (Addr × Addr) → PySem.W.Frag → Sp}
    (hwell : r.wellSaid = true) (hdf : d.params.defaults = []) (hlen : r.args.length = ps.length) (hr : Room k callerA)
    (hY : ∀ (w : World) (h : Heap), YP w h → (K w.params).In h)
    (F : ∀ (w : World) (mean : ExcName → Option Value) (mg mb : Str → Option Value) (fa : Addr) (h : Heap), YP w h → (K w.params).In h → PyProof.Rows.Top q (PySem.W.looseW q loose) mean mg mb h → h.Ns mainGlobals mg → mg d.name = some (.ref fa) →
      ∃ (cs : List (Addr × Addr)) (fd : FuncData), (∀ p ∈ cs, h.get? p.2 = some { cls := .none, data := .fields #[] }) ∧ (∀ p ∈ cs, (K w.params).lookup p.2 = none) ∧ (∀ p ∈ cs, PySem.W.CodeHd h p.1 p.2) ∧
        (∀ (s : Shared) (us : List Value), us.length = ps.length → BindsTo s fd ⟨us, []⟩ (ps.zip us)) ∧
        ∀ base : Heap, (K w.params).In base → base.Ns mainGlobals mg → (∀ p ∈ cs, TabB base mg p.1 p.2) → FnOk r.prog w (K w.params) mg base CX0 k fa fd ps (sp cs (K w.params)))
    (hsp : ∀ (cs : List (Addr × Addr)) (K : PySem.W.Frag) (H : Hp) (xs : List V) (a : Codec.denoteAll r.args), (∀ p ∈ cs, H p.2 = some (.tbl #[])) → Codec.withinAll r.args a = true → Codec.app r.args r.asked a = true → DwAll K H xs (Codec.encAll r.args a) →
      sp cs K xs H (fun v H' => Dw K H' v (r.ret.enc (Codec.app r.args r.f a))) fun _ _ _ => False) :
    PySem.W.WalkOS q loose XP YP r d [] (fun f vs => PySem.call f vs) := by
  intro w s₀ s₁ mg mb G Y fa o pm cd doc dV kV ho hd hcd hD hmg hg args vals as hpre hlay hrd hwl hlo
  obtain ⟨a, e1, e2⟩ := PySem.W.os_pre_some hpre
  obtain ⟨e3, hwi⟩ := Codec.encAll_of_decAll r.args args a e1
  subst e3
  have KX := hY w _ Y
  obtain ⟨cs, fd, hT, nT, C, hb, hF⟩ := F w _ mg mb fa _ Y KX G.T G.T.g hmg
  refine PySem.W.enter_call (codeAny_mono (spec_callT (R := []) (cl := classAt s₀.heap) (d0 := r.ret.enc (Codec.app r.args r.f a)) KX G.T.g G.T.b G.T.builtins G.T.nolimit hg hT nT C G.T.bmain hwl (pl_encAll _ _) (layable_weight hlay) hr hF hb (by rw [encAll_len]; exact hlen)
    (fun H xs hO hS => hsp cs _ H xs a hO hwi e2 hS) fun H e s' z => z) fun r' s' hq => ?_)
  obtain ⟨u, as', rfl, h1, h2, h3, h4⟩ := hq
  exact ⟨.inl ⟨u, _, as', rfl, fun _ => rfl, h1, (OpenSpec.post_iff hwell hwi _ _).mpr rfl, fun z => Bool.noConfusion (show false = true from z)⟩, h2, h3, h4⟩
end BwK
end

section
set_option Elab.async false
set_option linter.all false
set_option maxRecDepth 100000
set_option maxHeartbeats 2000000
namespace BwK
open PySem PySem.Spec PyProof.Rows L2
/-! ### a dict of the top, its keys whole numbers -/
def IntDct (K : PySem.W.Frag) (a : Addr) (f : Int → Option V) : Prop :=
  (a == sysModules) = false ∧ ∃ es n, K.lookup a = some ⟨.type "dict", none, .dict es n, #[]⟩ ∧ PySem.IntKeys es ∧ ∀ k, RelO (f k) (findBy Value.isInt es k)
section
variable {X : Cx}
theorem IntDct.at {a : Addr} {f : Int → Option V} (D : IntDct X.K a f) {h : Heap} (KX : X.K.In h) : ∃ g : Int → Option Value, h.MapOf (intKind X.prog X.w) a g ∧ ∀ k, RelO (f k) (g k) := by
  obtain ⟨_, es, n, hl, hk, hf⟩ := D
  refine ⟨fun k => findBy Value.isInt es k, ⟨_, es, n, KX _ _ hl, ⟨rfl, rfl, rfl⟩, rfl, fun e he => ?_, fun _ => rfl⟩, hf⟩
  obtain ⟨k, t, h1, h2⟩ := hk e he
  exact ⟨k, by rw [h1]; exact intKind_is X.prog X.w k t, h2⟩
/-- d[k] -/
def rIxI (K : PySem.W.Frag) : R2 := fun x y H Q => ∃ a k f v, x = .ref a ∧ y = .int k ∧ IntDct K a f ∧ f k = some v ∧ Q v H
theorem ix_idct : IxR X (rIxI X.K) := by
  intro value slice pins s σ H x y v u Q I rx ry h hs
  obtain ⟨a, k, f, r, rfl, rfl, D, e, q⟩ := h
  obtain rfl : v = Value.ref a := rx
  obtain ⟨t, rfl⟩ := ry
  obtain ⟨g, hm, hf⟩ := D.at I.kIn
  have hk := hf k
  rw [e] at hk
  obtain ⟨u0, hu0, ru⟩ : ∃ u0, g k = some u0 ∧ RelV r u0 := by
    cases eg : g k with
    | none => rw [eg] at hk; exact hk.elim
    | some u0 => rw [eg] at hk; exact ⟨u0, rfl, hk⟩
  exact tail_any hm.typeIs slot_dict_getitem.lookup (wpAny_getItem_of (intKind_is X.prog X.w k t) hm hu0 ⟨r, H, I.tok _, ru, q⟩) hs
/-- k not in d -/
def rNotInI (K : PySem.W.Frag) : R2 := fun x y H Q => ∃ a k f, x = .int k ∧ y = .ref a ∧ IntDct K a f ∧ Q (.bl (!(f k).isSome)) H
theorem op_notIn_idct : OpR X (compareOp .NotIn) (rNotInI X.K) := by
  intro pins s σ H x y v u Q I rx ry h
  obtain ⟨a, k, f, rfl, rfl, D, q⟩ := h
  obtain rfl : u = Value.ref a := ry
  obtain ⟨t, rfl⟩ := rx
  obtain ⟨g, hm, hf⟩ := D.at I.kIn
  refine wpAny_notIn_of (intKind_is X.prog X.w k t) D.1 hm ⟨.bl _, H, I.tok _, rfl, ?_⟩
  have : (f k).isSome = (g k).isSome := by
    have := hf k
    cases e1 : f k <;> cases e2 : g k <;> rw [e1, e2] at this <;> first | rfl | exact this.elim
  rw [← this]
  exact q
end
end BwK
end

section
set_option Elab.async false
set_option linter.all false
set_option maxRecDepth 100000
set_option maxHeartbeats 2000000
namespace BwW
open PySem PySem.Spec PyProof.Rows L2
/-! ### the text by places -/
def topS (i : Nat) : Stmt := PySem.Challenge.pw_bestweights_s01_answers.main.body.getD i (.Pass ⟨0, 0, 0, 0⟩)
abbrev s_Fault___init__ : Stmt := inClass (topS 22) 0
abbrev N_Fault___init__ : List Str := ["self", "code", "place"]
theorem sc_Fault___init__ : FnScope N_Fault___init__ ["self", "code", "place"] (defScope s_Fault___init__) := ⟨rfl, rfl, rfl, by decide +kernel, rfl, by decide +kernel, by decide +kernel⟩

abbrev s_Token___init__ : Stmt := inClass (topS 23) 0
abbrev N_Token___init__ : List Str := ["self", "kind", "told", "place"]
theorem sc_Token___init__ : FnScope N_Token___init__ ["self", "kind", "told", "place"] (defScope s_Token___init__) := ⟨rfl, rfl, rfl, by decide +kernel, rfl, by decide +kernel, by decide +kernel⟩

abbrev s_is_letter : Stmt := topS 24
abbrev N_is_letter : List Str := ["byte"]
theorem sc_is_letter : FnScope N_is_letter ["byte"] (defScope s_is_letter) := ⟨rfl, rfl, rfl, by decide +kernel, rfl, by decide +kernel, by decide +kernel⟩

abbrev s_is_figure : Stmt := topS 25
abbrev N_is_figure : List Str := ["byte"]
theorem sc_is_figure : FnScope N_is_figure ["byte"] (defScope s_is_figure) := ⟨rfl, rfl, rfl, by decide +kernel, rfl, by decide +kernel, by decide +kernel⟩

abbrev s_sign_of : Stmt := topS 26
abbrev N_sign_of : List Str := ["byte"]
theorem sc_sign_of : FnScope N_sign_of ["byte"] (defScope s_sign_of) := ⟨rfl, rfl, rfl, by decide +kernel, rfl, by decide +kernel, by decide +kernel⟩

abbrev s_end_of_name : Stmt := topS 27
abbrev N_end_of_name : List Str := ["text", "at"]
theorem sc_end_of_name : FnScope N_end_of_name ["text", "at"] (defScope s_end_of_name) := ⟨rfl, rfl, rfl, by decide +kernel, rfl, by decide +kernel, by decide +kernel⟩

abbrev s_end_of_number : Stmt := topS 28
abbrev N_end_of_number : List Str := ["text", "at"]
theorem sc_end_of_number : FnScope N_end_of_number ["text", "at"] (defScope s_end_of_number) := ⟨rfl, rfl, rfl, by decide +kernel, rfl, by decide +kernel, by decide +kernel⟩

abbrev s_end_of_remark : Stmt := topS 29
abbrev N_end_of_remark : List Str := ["text", "at"]
theorem sc_end_of_remark : FnScope N_end_of_remark ["text", "at"] (defScope s_end_of_remark) := ⟨rfl, rfl, rfl, by decide +kernel, rfl, by decide +kernel, by decide +kernel⟩

abbrev s_name_at : Stmt := topS 30
abbrev N_name_at : List Str := ["text", "at", "end", "told", "byte"]
theorem sc_name_at : FnScope N_name_at ["text", "at"] (defScope s_name_at) := ⟨rfl, rfl, rfl, by decide +kernel, rfl, by decide +kernel, by decide +kernel⟩

abbrev s_number_at : Stmt := topS 31
abbrev N_number_at : List Str := ["text", "at", "end", "told", "byte"]
theorem sc_number_at : FnScope N_number_at ["text", "at"] (defScope s_number_at) := ⟨rfl, rfl, rfl, by decide +kernel, rfl, by decide +kernel, by decide +kernel⟩

abbrev s_token_at : Stmt := topS 32
abbrev N_token_at : List Str := ["text", "at", "byte"]
theorem sc_token_at : FnScope N_token_at ["text", "at"] (defScope s_token_at) := ⟨rfl, rfl, rfl, by decide +kernel, rfl, by decide +kernel, by decide +kernel⟩

abbrev s_behind_token : Stmt := topS 33
abbrev N_behind_token : List Str := ["text", "token"]
theorem sc_behind_token : FnScope N_behind_token ["text", "token"] (defScope s_behind_token) := ⟨rfl, rfl, rfl, by decide +kernel, rfl, by decide +kernel, by decide +kernel⟩

abbrev s_tokens_of : Stmt := topS 34
abbrev N_tokens_of : List Str := ["text", "found", "at"]
theorem sc_tokens_of : FnScope N_tokens_of ["text"] (defScope s_tokens_of) := ⟨rfl, rfl, rfl, by decide +kernel, rfl, by decide +kernel, by decide +kernel⟩

abbrev s_Listing___init__ : Stmt := inClass (topS 43) 0
abbrev N_Listing___init__ : List Str := ["self"]
theorem sc_Listing___init__ : FnScope N_Listing___init__ ["self"] (defScope s_Listing___init__) := ⟨rfl, rfl, rfl, by decide +kernel, rfl, by decide +kernel, by decide +kernel⟩

abbrev s_Reader___init__ : Stmt := inClass (topS 44) 0
abbrev N_Reader___init__ : List Str := ["self", "tokens"]
theorem sc_Reader___init__ : FnScope N_Reader___init__ ["self", "tokens"] (defScope s_Reader___init__) := ⟨rfl, rfl, rfl, by decide +kernel, rfl, by decide +kernel, by decide +kernel⟩

abbrev s_here : Stmt := topS 45
abbrev N_here : List Str := ["reader"]
theorem sc_here : FnScope N_here ["reader"] (defScope s_here) := ⟨rfl, rfl, rfl, by decide +kernel, rfl, by decide +kernel, by decide +kernel⟩

abbrev s_refuse_here : Stmt := topS 46
abbrev N_refuse_here : List Str := ["reader", "code"]
theorem sc_refuse_here : FnScope N_refuse_here ["reader", "code"] (defScope s_refuse_here) := ⟨rfl, rfl, rfl, by decide +kernel, rfl, by decide +kernel, by decide +kernel⟩

abbrev s_take : Stmt := topS 47
abbrev N_take : List Str := ["reader", "kinds", "token"]
theorem sc_take : FnScope N_take ["reader", "kinds"] (defScope s_take) := ⟨rfl, rfl, rfl, by decide +kernel, rfl, by decide +kernel, by decide +kernel⟩

abbrev s_take_name : Stmt := topS 48
abbrev N_take_name : List Str := ["reader", "names", "most"]
theorem sc_take_name : FnScope N_take_name ["reader", "names", "most"] (defScope s_take_name) := ⟨rfl, rfl, rfl, by decide +kernel, rfl, by decide +kernel, by decide +kernel⟩

abbrev s_read_measures : Stmt := topS 49
abbrev N_read_measures : List Str := ["reader", "listing", "names", "mark"]
theorem sc_read_measures : FnScope N_read_measures ["reader", "listing"] (defScope s_read_measures) := ⟨rfl, rfl, rfl, by decide +kernel, rfl, by decide +kernel, by decide +kernel⟩

abbrev s_read_value : Stmt := topS 50
abbrev N_read_value : List Str := ["reader", "sign"]
theorem sc_read_value : FnScope N_read_value ["reader"] (defScope s_read_value) := ⟨rfl, rfl, rfl, by decide +kernel, rfl, by decide +kernel, by decide +kernel⟩

abbrev s_read_good_values : Stmt := topS 51
abbrev N_read_good_values : List Str := ["reader", "listing", "found", "is_up", "value"]
theorem sc_read_good_values : FnScope N_read_good_values ["reader", "listing"] (defScope s_read_good_values) := ⟨rfl, rfl, rfl, by decide +kernel, rfl, by decide +kernel, by decide +kernel⟩

abbrev s_read_items : Stmt := topS 52
abbrev N_read_items : List Str := ["reader", "listing", "names"]
theorem sc_read_items : FnScope N_read_items ["reader", "listing"] (defScope s_read_items) := ⟨rfl, rfl, rfl, by decide +kernel, rfl, by decide +kernel, by decide +kernel⟩

abbrev s_read_list : Stmt := topS 53
abbrev N_read_list : List Str := ["text", "reader", "listing"]
theorem sc_read_list : FnScope N_read_list ["text"] (defScope s_read_list) := ⟨rfl, rfl, rfl, by decide +kernel, rfl, by decide +kernel, by decide +kernel⟩

abbrev s_are_weights : Stmt := topS 56
abbrev N_are_weights : List Str := ["listing", "weights", "weight"]
theorem sc_are_weights : FnScope N_are_weights ["listing", "weights"] (defScope s_are_weights) := ⟨rfl, rfl, rfl, by decide +kernel, rfl, by decide +kernel, by decide +kernel⟩

abbrev s_weighed : Stmt := topS 57
abbrev N_weighed : List Str := ["weights", "values", "weight", "value"]
theorem sc_weighed : FnScope N_weighed ["weights", "values"] (defScope s_weighed) := ⟨rfl, rfl, rfl, by decide +kernel, rfl, by decide +kernel, by decide +kernel⟩

abbrev s_scores_of : Stmt := topS 58
abbrev N_scores_of : List Str := ["listing", "weights", "values"]
theorem sc_scores_of : FnScope N_scores_of ["listing", "weights"] (defScope s_scores_of) := ⟨rfl, rfl, rfl, by decide +kernel, rfl, by decide +kernel, by decide +kernel⟩

abbrev s_in_order : Stmt := topS 59
abbrev N_in_order : List Str := ["some", "scores"]
theorem sc_in_order : FnScope N_in_order ["some", "scores"] (defScope s_in_order) := ⟨rfl, rfl, rfl, by decide +kernel, rfl, by decide +kernel, by decide +kernel⟩

abbrev s_first_in_order : Stmt := topS 60
abbrev N_first_in_order : List Str := ["listing", "weights", "many", "scores"]
theorem sc_first_in_order : FnScope N_first_in_order ["listing", "weights", "many"] (defScope s_first_in_order) := ⟨rfl, rfl, rfl, by decide +kernel, rfl, by decide +kernel, by decide +kernel⟩

abbrev s_count_greater : Stmt := topS 61
abbrev N_count_greater : List Str := ["scores", "item", "score"]
theorem sc_count_greater : FnScope N_count_greater ["scores", "item"] (defScope s_count_greater) := ⟨rfl, rfl, rfl, by decide +kernel, rfl, by decide +kernel, by decide +kernel⟩

abbrev s_count_alike : Stmt := topS 62
abbrev N_count_alike : List Str := ["scores", "item", "score"]
theorem sc_count_alike : FnScope N_count_alike ["scores", "item"] (defScope s_count_alike) := ⟨rfl, rfl, rfl, by decide +kernel, rfl, by decide +kernel, by decide +kernel⟩

abbrev s_sorted_by : Stmt := topS 63
abbrev N_sorted_by : List Str := ["listing", "measure", "goods", "values"]
theorem sc_sorted_by : FnScope N_sorted_by ["listing", "measure"] (defScope s_sorted_by) := ⟨rfl, rfl, rfl, by decide +kernel, rfl, by decide +kernel, by decide +kernel⟩

abbrev s_weighing : Stmt := topS 64
abbrev N_weighing : List Str := ["weights", "measure"]
theorem sc_weighing : FnScope N_weighing ["weights"] (defScope s_weighing) := ⟨rfl, rfl, rfl, by decide +kernel, rfl, by decide +kernel, by decide +kernel⟩

abbrev s_Looks___init__ : Stmt := inClass (topS 65) 0
abbrev N_Looks___init__ : List Str := ["self", "listing", "weights", "measure"]
theorem sc_Looks___init__ : FnScope N_Looks___init__ ["self", "listing", "weights"] (defScope s_Looks___init__) := ⟨rfl, rfl, rfl, by decide +kernel, rfl, by decide +kernel, by decide +kernel⟩

abbrev s_seen_at : Stmt := topS 66
abbrev N_seen_at : List Str := ["looks", "depth", "found", "row", "item"]
theorem sc_seen_at : FnScope N_seen_at ["looks", "depth"] (defScope s_seen_at) := ⟨rfl, rfl, rfl, by decide +kernel, rfl, by decide +kernel, by decide +kernel⟩

abbrev s_limit_at : Stmt := topS 67
abbrev N_limit_at : List Str := ["listing", "weights", "looks", "depth", "found", "measure", "row"]
theorem sc_limit_at : FnScope N_limit_at ["listing", "weights", "looks", "depth"] (defScope s_limit_at) := ⟨rfl, rfl, rfl, by decide +kernel, rfl, by decide +kernel, by decide +kernel⟩

abbrev s_may_stop : Stmt := topS 68
abbrev N_may_stop : List Str := ["listing", "weights", "looks", "many", "depth", "limit", "above", "item"]
theorem sc_may_stop : FnScope N_may_stop ["listing", "weights", "looks", "many", "depth"] (defScope s_may_stop) := ⟨rfl, rfl, rfl, by decide +kernel, rfl, by decide +kernel, by decide +kernel⟩

abbrev s_depth_for : Stmt := topS 69
abbrev N_depth_for : List Str := ["listing", "weights", "looks", "many", "depths", "depth"]
theorem sc_depth_for : FnScope N_depth_for ["listing", "weights", "looks", "many"] (defScope s_depth_for) := ⟨rfl, rfl, rfl, by decide +kernel, rfl, by decide +kernel, by decide +kernel⟩

abbrev s_looked : Stmt := topS 70
abbrev N_looked : List Str := ["listing", "weights", "many", "looks", "depth", "seen", "first"]
theorem sc_looked : FnScope N_looked ["listing", "weights", "many"] (defScope s_looked) := ⟨rfl, rfl, rfl, by decide +kernel, rfl, by decide +kernel, by decide +kernel⟩

abbrev s_common_part : Stmt := topS 74
abbrev N_common_part : List Str := ["one", "other"]
theorem sc_common_part : FnScope N_common_part ["one", "other"] (defScope s_common_part) := ⟨rfl, rfl, rfl, by decide +kernel, rfl, by decide +kernel, by decide +kernel⟩

abbrev s_lowest : Stmt := topS 75
abbrev N_lowest : List Str := ["above", "below", "part"]
theorem sc_lowest : FnScope N_lowest ["above", "below"] (defScope s_lowest) := ⟨rfl, rfl, rfl, by decide +kernel, rfl, by decide +kernel, by decide +kernel⟩

abbrev s_is_less : Stmt := topS 76
abbrev N_is_less : List Str := ["one", "other"]
theorem sc_is_less : FnScope N_is_less ["one", "other"] (defScope s_is_less) := ⟨rfl, rfl, rfl, by decide +kernel, rfl, by decide +kernel, by decide +kernel⟩

abbrev s_lines_of : Stmt := topS 77
abbrev N_lines_of : List Str := ["listing", "m", "k", "values"]
theorem sc_lines_of : FnScope N_lines_of ["listing", "m", "k"] (defScope s_lines_of) := ⟨rfl, rfl, rfl, by decide +kernel, rfl, by decide +kernel, by decide +kernel⟩

abbrev s_first_line : Stmt := topS 78
abbrev N_first_line : List Str := ["lines"]
theorem sc_first_line : FnScope N_first_line ["lines"] (defScope s_first_line) := ⟨rfl, rfl, rfl, by decide +kernel, rfl, by decide +kernel, by decide +kernel⟩

abbrev s_crossing : Stmt := topS 79
abbrev N_crossing : List Str := ["lines", "item", "other"]
theorem sc_crossing : FnScope N_crossing ["lines", "item", "other"] (defScope s_crossing) := ⟨rfl, rfl, rfl, by decide +kernel, rfl, by decide +kernel, by decide +kernel⟩

abbrev s_crossings : Stmt := topS 80
abbrev N_crossings : List Str := ["lines", "item", "some", "found", "other", "pair"]
theorem sc_crossings : FnScope N_crossings ["lines", "item"] (defScope s_crossings) := ⟨rfl, rfl, rfl, by decide +kernel, rfl, by decide +kernel, by decide +kernel⟩

abbrev s_is_nearer : Stmt := topS 81
abbrev N_is_nearer : List Str := ["lines", "pair", "best"]
theorem sc_is_nearer : FnScope N_is_nearer ["lines", "pair", "best"] (defScope s_is_nearer) := ⟨rfl, rfl, rfl, by decide +kernel, rfl, by decide +kernel, by decide +kernel⟩

abbrev s_next_piece : Stmt := topS 82
abbrev N_next_piece : List Str := ["lines", "item", "best", "pair"]
theorem sc_next_piece : FnScope N_next_piece ["lines", "item"] (defScope s_next_piece) := ⟨rfl, rfl, rfl, by decide +kernel, rfl, by decide +kernel, by decide +kernel⟩

abbrev s_pieces : Stmt := topS 83
abbrev N_pieces : List Str := ["lines", "item", "found", "start", "ending"]
theorem sc_pieces : FnScope N_pieces ["lines"] (defScope s_pieces) := ⟨rfl, rfl, rfl, by decide +kernel, rfl, by decide +kernel, by decide +kernel⟩

abbrev s_worth_at : Stmt := topS 84
abbrev N_worth_at : List Str := ["line", "p", "q"]
theorem sc_worth_at : FnScope N_worth_at ["line", "p", "q"] (defScope s_worth_at) := ⟨rfl, rfl, rfl, by decide +kernel, rfl, by decide +kernel, by decide +kernel⟩

abbrev s_best_at : Stmt := topS 85
abbrev N_best_at : List Str := ["lines", "p", "q", "worths", "line", "item"]
theorem sc_best_at : FnScope N_best_at ["lines", "p", "q"] (defScope s_best_at) := ⟨rfl, rfl, rfl, by decide +kernel, rfl, by decide +kernel, by decide +kernel⟩

abbrev s_greater : Stmt := topS 86
abbrev N_greater : List Str := ["one", "other"]
theorem sc_greater : FnScope N_greater ["one", "other"] (defScope s_greater) := ⟨rfl, rfl, rfl, by decide +kernel, rfl, by decide +kernel, by decide +kernel⟩

abbrev s_lesser : Stmt := topS 87
abbrev N_lesser : List Str := ["one", "other"]
theorem sc_lesser : FnScope N_lesser ["one", "other"] (defScope s_lesser) := ⟨rfl, rfl, rfl, by decide +kernel, rfl, by decide +kernel, by decide +kernel⟩

abbrev s_narrowed : Stmt := topS 88
abbrev N_narrowed : List Str := ["ends", "line", "other", "lead", "rise", "found"]
theorem sc_narrowed : FnScope N_narrowed ["ends", "line", "other"] (defScope s_narrowed) := ⟨rfl, rfl, rfl, by decide +kernel, rfl, by decide +kernel, by decide +kernel⟩

abbrev s_shares_of : Stmt := topS 89
abbrev N_shares_of : List Str := ["lines", "item", "ends", "other"]
theorem sc_shares_of : FnScope N_shares_of ["lines", "item"] (defScope s_shares_of) := ⟨rfl, rfl, rfl, by decide +kernel, rfl, by decide +kernel, by decide +kernel⟩

abbrev s_Refused___init__ : Stmt := inClass (topS 102) 0
abbrev N_Refused___init__ : List Str := ["self", "number"]
theorem sc_Refused___init__ : FnScope N_Refused___init__ ["self", "number"] (defScope s_Refused___init__) := ⟨rfl, rfl, rfl, by decide +kernel, rfl, by decide +kernel, by decide +kernel⟩

abbrev s_Holder___init__ : Stmt := inClass (topS 103) 0
abbrev N_Holder___init__ : List Str := ["self"]
theorem sc_Holder___init__ : FnScope N_Holder___init__ ["self"] (defScope s_Holder___init__) := ⟨rfl, rfl, rfl, by decide +kernel, rfl, by decide +kernel, by decide +kernel⟩

abbrev s_must_be : Stmt := topS 104
abbrev N_must_be : List Str := ["is_so", "number"]
theorem sc_must_be : FnScope N_must_be ["is_so", "number"] (defScope s_must_be) := ⟨rfl, rfl, rfl, by decide +kernel, rfl, by decide +kernel, by decide +kernel⟩

abbrev s_must_be_item : Stmt := topS 105
abbrev N_must_be_item : List Str := ["listing", "i"]
theorem sc_must_be_item : FnScope N_must_be_item ["listing", "i"] (defScope s_must_be_item) := ⟨rfl, rfl, rfl, by decide +kernel, rfl, by decide +kernel, by decide +kernel⟩

abbrev s_must_be_count : Stmt := topS 106
abbrev N_must_be_count : List Str := ["k"]
theorem sc_must_be_count : FnScope N_must_be_count ["k"] (defScope s_must_be_count) := ⟨rfl, rfl, rfl, by decide +kernel, rfl, by decide +kernel, by decide +kernel⟩

abbrev s_must_be_weights : Stmt := topS 107
abbrev N_must_be_weights : List Str := ["listing", "weights"]
theorem sc_must_be_weights : FnScope N_must_be_weights ["listing", "weights"] (defScope s_must_be_weights) := ⟨rfl, rfl, rfl, by decide +kernel, rfl, by decide +kernel, by decide +kernel⟩

abbrev s_must_be_measures : Stmt := topS 108
abbrev N_must_be_measures : List Str := ["listing", "m", "k", "many"]
theorem sc_must_be_measures : FnScope N_must_be_measures ["listing", "m", "k"] (defScope s_must_be_measures) := ⟨rfl, rfl, rfl, by decide +kernel, rfl, by decide +kernel, by decide +kernel⟩

abbrev s_load : Stmt := topS 109
abbrev N_load : List Str := ["holder", "text", "listing", "fault"]
theorem sc_load : FnScope N_load ["holder", "text"] (defScope s_load) := ⟨rfl, rfl, rfl, by decide +kernel, rfl, by decide +kernel, by decide +kernel⟩

abbrev s_scores : Stmt := topS 110
abbrev N_scores : List Str := ["listing", "numbers", "weights", "found"]
theorem sc_scores : FnScope N_scores ["listing", "numbers", "weights"] (defScope s_scores) := ⟨rfl, rfl, rfl, by decide +kernel, rfl, by decide +kernel, by decide +kernel⟩

abbrev s_top : Stmt := topS 111
abbrev N_top : List Str := ["listing", "numbers", "weights", "found"]
theorem sc_top : FnScope N_top ["listing", "numbers", "weights"] (defScope s_top) := ⟨rfl, rfl, rfl, by decide +kernel, rfl, by decide +kernel, by decide +kernel⟩

abbrev s_looks : Stmt := topS 112
abbrev N_looks : List Str := ["listing", "numbers", "weights"]
theorem sc_looks : FnScope N_looks ["listing", "numbers", "weights"] (defScope s_looks) := ⟨rfl, rfl, rfl, by decide +kernel, rfl, by decide +kernel, by decide +kernel⟩

abbrev s_rank : Stmt := topS 113
abbrev N_rank : List Str := ["listing", "numbers", "weights", "found"]
theorem sc_rank : FnScope N_rank ["listing", "numbers", "weights"] (defScope s_rank) := ⟨rfl, rfl, rfl, by decide +kernel, rfl, by decide +kernel, by decide +kernel⟩

abbrev s_between : Stmt := topS 114
abbrev N_between : List Str := ["listing", "numbers", "weights", "some", "found", "item", "start", "end"]
theorem sc_between : FnScope N_between ["listing", "numbers", "weights"] (defScope s_between) := ⟨rfl, rfl, rfl, by decide +kernel, rfl, by decide +kernel, by decide +kernel⟩

abbrev s_best_for : Stmt := topS 115
abbrev N_best_for : List Str := ["listing", "numbers", "weights", "m", "k", "p", "q", "some"]
theorem sc_best_for : FnScope N_best_for ["listing", "numbers", "weights"] (defScope s_best_for) := ⟨rfl, rfl, rfl, by decide +kernel, rfl, by decide +kernel, by decide +kernel⟩

abbrev s_shares : Stmt := topS 116
abbrev N_shares : List Str := ["listing", "numbers", "weights", "ends"]
theorem sc_shares : FnScope N_shares ["listing", "numbers", "weights"] (defScope s_shares) := ⟨rfl, rfl, rfl, by decide +kernel, rfl, by decide +kernel, by decide +kernel⟩

abbrev s_asked : Stmt := topS 118
abbrev N_asked : List Str := ["holder", "word", "numbers", "row", "call"]
theorem sc_asked : FnScope N_asked ["holder", "word", "numbers", "row"] (defScope s_asked) := ⟨rfl, rfl, rfl, by decide +kernel, rfl, by decide +kernel, by decide +kernel⟩

abbrev s_answered : Stmt := topS 119
abbrev N_answered : List Str := ["holder", "word", "numbers", "row", "told", "refusal"]
theorem sc_answered : FnScope N_answered ["holder", "word", "numbers", "row"] (defScope s_answered) := ⟨rfl, rfl, rfl, by decide +kernel, rfl, by decide +kernel, by decide +kernel⟩

abbrev s_row_at : Stmt := topS 120
abbrev N_row_at : List Str := ["calls", "at", "word", "behind"]
theorem sc_row_at : FnScope N_row_at ["calls", "at", "word"] (defScope s_row_at) := ⟨rfl, rfl, rfl, by decide +kernel, rfl, by decide +kernel, by decide +kernel⟩

abbrev s_answers : Stmt := topS 121
abbrev N_answers : List Str := ["calls", "holder", "found", "at", "word", "behind", "numbers", "row", "told"]
theorem sc_answers : FnScope N_answers ["calls"] (defScope s_answers) := ⟨rfl, rfl, rfl, by decide +kernel, rfl, by decide +kernel, by decide +kernel⟩

/-- the addresses of what the top has laid down: classes, tables, rows; the code of in_order and first_line and its store -/
structure Ads where
  cToken : Addr
  cListing : Addr
  cReader : Addr
  cLooks : Addr
  cHolder : Addr
  cFault : Addr
  cRefused : Addr
  aBLANKS : Addr
  aSIGNS : Addr
  aWORDS : Addr
  aNOTHING : Addr
  aALL : Addr
  aNUMBER_COUNTS : Addr
  aHAS_ROW : Addr
  aASKING : Addr
  f_scores : Addr
  f_top : Addr
  f_looks : Addr
  f_rank : Addr
  f_between : Addr
  f_best_for : Addr
  f_shares : Addr
  oc : Addr
  op : Addr
  fc : Addr
  fp : Addr
/-- a def of the top -/
def TopFn (K : PySem.W.Frag) (mg : Str → Option Value) (x : Str) (st : Stmt) : Prop := ∃ f fd, Fun K x x st f fd ∧ mg x = some (.ref f)
/-- .. whose code stands at c -/
def TopFnC (K : PySem.W.Frag) (mg : Str → Option Value) (x : Str) (st : Stmt) (c : Addr) : Prop := ∃ f fd, Fun K x x st f fd ∧ mg x = some (.ref f) ∧ fd.code = .ref c
/-- .. that stands at f -/
def TopFnA (K : PySem.W.Frag) (mg : Str → Option Value) (x : Str) (st : Stmt) (f : Addr) : Prop := ∃ fd, Fun K x x st f fd ∧ mg x = some (.ref f)
theorem TopFnA.fn {K : PySem.W.Frag} {mg : Str → Option Value} {x : Str} {st : Stmt} {f : Addr} (h : TopFnA K mg x st f) : TopFn K mg x st := let ⟨fd, a⟩ := h; ⟨f, fd, a⟩
/-- a class of the top -/
structure ClsTx (K : PySem.W.Frag) (mg : Str → Option Value) (x q : Str) (C : Addr) (st : Stmt) (attrs : List Str) : Prop where
  mi : ∃ f fd, Mk K C f ∧ Fun K "__init__" q st f fd
  cl : Cls K C
  no : ∀ a ∈ attrs, NoAttr K C a
  g : mg x = some (.ref C)
/-- an exception's class of the top -/
structure ExcTx (K : PySem.W.Frag) (mg : Str → Option Value) (x q : Str) (C : Addr) (st : Stmt) (attrs : List Str) : Prop where
  ox : OexC K C
  xf : XfC K C
  mi : ∃ f fd, PySem.W.findIn K (.ref C) "__init__" = some (some (.ref f)) ∧ PySem.W.typeIn K (.ref f) = some (.type "function") ∧ Fun K "__init__" q st f fd
  no : ∀ a ∈ attrs, PySem.W.findIn K (.ref C) a = some none
  g : mg x = some (.ref C)
  em : PySem.W.exmOne K (.ref C) (.ref C) = some true
def signF (k : Int) : Option V := if k = 44 then some (.str ",") else if k = 58 then some (.str ":") else if k = 59 then some (.str ";") else if k = 45 then some (.str "-") else none
def askF (a : Ads) (k : Int) : Option V := if k = 1 then some (.ref a.f_scores) else if k = 2 then some (.ref a.f_top) else if k = 3 then some (.ref a.f_looks) else if k = 4 then some (.ref a.f_rank) else if k = 5 then some (.ref a.f_between) else if k = 6 then some (.ref a.f_best_for) else if k = 7 then some (.ref a.f_shares) else none
/-- a tuple that the top has laid down -/
def TupK (K : PySem.W.Frag) (a : Addr) (xs : List V) : Prop := ∀ H : Hp, SqT K H a xs
/-- what the top has laid down -/
structure Tx (K : PySem.W.Frag) (mg : Str → Option Value) (base : Heap) (a : Ads) : Prop where
  g_MOST_BYTES : ∃ t, mg "MOST_BYTES" = some (.int 4096 t)
  g_MOST_NAME : ∃ t, mg "MOST_NAME" = some (.int 16 t)
  g_MOST_NUMBER : ∃ t, mg "MOST_NUMBER" = some (.int 1000000000 t)
  g_MOST_FIGURES : ∃ t, mg "MOST_FIGURES" = some (.int 10 t)
  g_BLANKS : mg "BLANKS" = some (.ref a.aBLANKS)
  v_BLANKS : TupK K a.aBLANKS [.int 32, .int 9, .int 10]
  g_REMARK : ∃ t, mg "REMARK" = some (.int 35 t)
  g_LINE_END : ∃ t, mg "LINE_END" = some (.int 10 t)
  g_NOUGHT : ∃ t, mg "NOUGHT" = some (.int 48 t)
  g_NINE : ∃ t, mg "NINE" = some (.int 57 t)
  g_GREAT_A : ∃ t, mg "GREAT_A" = some (.int 65 t)
  g_SMALL_A : ∃ t, mg "SMALL_A" = some (.int 97 t)
  g_FIGURES : ∃ t, mg "FIGURES" = some (.str "0123456789" t)
  g_GREAT_LETTERS : ∃ t, mg "GREAT_LETTERS" = some (.str "ABCDEFGHIJKLMNOPQRSTUVWXYZ" t)
  g_SMALL_LETTERS : ∃ t, mg "SMALL_LETTERS" = some (.str "abcdefghijklmnopqrstuvwxyz" t)
  g_SIGNS : mg "SIGNS" = some (.ref a.aSIGNS)
  v_SIGNS : BwK.IntDct K a.aSIGNS signF
  g_WORDS : mg "WORDS" = some (.ref a.aWORDS)
  v_WORDS : TupK K a.aWORDS [.str "measures", .str "up", .str "down", .str "item"]
  g_NAME : ∃ t, mg "NAME" = some (.str "a name" t)
  g_NUMBER : ∃ t, mg "NUMBER" = some (.str "a number" t)
  g_END : ∃ t, mg "END" = some (.str "the end" t)
  g_TOO_LONG : ∃ t, mg "TOO_LONG" = some (.int 1 t)
  g_NO_TOKEN : ∃ t, mg "NO_TOKEN" = some (.int 2 t)
  g_NOT_ALLOWED : ∃ t, mg "NOT_ALLOWED" = some (.int 3 t)
  g_TOO_MANY : ∃ t, mg "TOO_MANY" = some (.int 4 t)
  g_HAD_ALREADY : ∃ t, mg "HAD_ALREADY" = some (.int 5 t)
  g_TOO_GREAT : ∃ t, mg "TOO_GREAT" = some (.int 7 t)
  g_MOST_MEASURES : ∃ t, mg "MOST_MEASURES" = some (.int 4 t)
  g_MOST_ITEMS : ∃ t, mg "MOST_ITEMS" = some (.int 16 t)
  g_MOST_VALUE : ∃ t, mg "MOST_VALUE" = some (.int 1000 t)
  g_MOST_WEIGHT : ∃ t, mg "MOST_WEIGHT" = some (.int 100 t)
  g_NOTHING : mg "NOTHING" = some (.ref a.aNOTHING)
  v_NOTHING : TupK K a.aNOTHING [.int 0, .int 1]
  g_ALL : mg "ALL" = some (.ref a.aALL)
  v_ALL : TupK K a.aALL [.int 1, .int 1]
  g_NO_LIST : ∃ t, mg "NO_LIST" = some (.int (-1) t)
  g_NO_ITEM : ∃ t, mg "NO_ITEM" = some (.int (-2) t)
  g_NO_COUNT : ∃ t, mg "NO_COUNT" = some (.int (-3) t)
  g_NO_WEIGHTS : ∃ t, mg "NO_WEIGHTS" = some (.int (-4) t)
  g_NO_MEASURES : ∃ t, mg "NO_MEASURES" = some (.int (-5) t)
  g_NO_SHARE : ∃ t, mg "NO_SHARE" = some (.int (-6) t)
  g_MOST_BEST : ∃ t, mg "MOST_BEST" = some (.int 16 t)
  g_MOST_BELOW : ∃ t, mg "MOST_BELOW" = some (.int 1000 t)
  g_LOAD : ∃ t, mg "LOAD" = some (.int 0 t)
  g_NUMBER_COUNTS : mg "NUMBER_COUNTS" = some (.ref a.aNUMBER_COUNTS)
  v_NUMBER_COUNTS : TupK K a.aNUMBER_COUNTS [.int 0, .int 0, .int 1, .int 1, .int 1, .int 2, .int 4, .int 3]
  g_HAS_ROW : mg "HAS_ROW" = some (.ref a.aHAS_ROW)
  v_HAS_ROW : TupK K a.aHAS_ROW [.bl true, .bl true, .bl true, .bl true, .bl true, .bl false, .bl false, .bl false]
  g_ASKING : mg "ASKING" = some (.ref a.aASKING)
  v_ASKING : BwK.IntDct K a.aASKING (askF a)
  b_abs : mg "abs" = none
  b_all : mg "all" = none
  b_len : mg "len" = none
  b_list : mg "list" = none
  b_max : mg "max" = none
  b_min : mg "min" = none
  b_range : mg "range" = none
  b_sorted : mg "sorted" = none
  b_sum : mg "sum" = none
  b_zip : mg "zip" = none
  t_is_letter : TopFn K mg "is_letter" s_is_letter
  t_is_figure : TopFn K mg "is_figure" s_is_figure
  t_sign_of : TopFn K mg "sign_of" s_sign_of
  t_end_of_name : TopFn K mg "end_of_name" s_end_of_name
  t_end_of_number : TopFn K mg "end_of_number" s_end_of_number
  t_end_of_remark : TopFn K mg "end_of_remark" s_end_of_remark
  t_name_at : TopFn K mg "name_at" s_name_at
  t_number_at : TopFn K mg "number_at" s_number_at
  t_token_at : TopFn K mg "token_at" s_token_at
  t_behind_token : TopFn K mg "behind_token" s_behind_token
  t_tokens_of : TopFn K mg "tokens_of" s_tokens_of
  t_here : TopFn K mg "here" s_here
  t_refuse_here : TopFn K mg "refuse_here" s_refuse_here
  t_take : TopFn K mg "take" s_take
  t_take_name : TopFn K mg "take_name" s_take_name
  t_read_measures : TopFn K mg "read_measures" s_read_measures
  t_read_value : TopFn K mg "read_value" s_read_value
  t_read_good_values : TopFn K mg "read_good_values" s_read_good_values
  t_read_items : TopFn K mg "read_items" s_read_items
  t_read_list : TopFn K mg "read_list" s_read_list
  t_are_weights : TopFn K mg "are_weights" s_are_weights
  t_weighed : TopFn K mg "weighed" s_weighed
  t_scores_of : TopFn K mg "scores_of" s_scores_of
  t_in_order : TopFnC K mg "in_order" s_in_order a.oc
  t_first_in_order : TopFn K mg "first_in_order" s_first_in_order
  t_count_greater : TopFn K mg "count_greater" s_count_greater
  t_count_alike : TopFn K mg "count_alike" s_count_alike
  t_sorted_by : TopFn K mg "sorted_by" s_sorted_by
  t_weighing : TopFn K mg "weighing" s_weighing
  t_seen_at : TopFn K mg "seen_at" s_seen_at
  t_limit_at : TopFn K mg "limit_at" s_limit_at
  t_may_stop : TopFn K mg "may_stop" s_may_stop
  t_depth_for : TopFn K mg "depth_for" s_depth_for
  t_looked : TopFn K mg "looked" s_looked
  t_common_part : TopFn K mg "common_part" s_common_part
  t_lowest : TopFn K mg "lowest" s_lowest
  t_is_less : TopFn K mg "is_less" s_is_less
  t_lines_of : TopFn K mg "lines_of" s_lines_of
  t_first_line : TopFnC K mg "first_line" s_first_line a.fc
  t_crossing : TopFn K mg "crossing" s_crossing
  t_crossings : TopFn K mg "crossings" s_crossings
  t_is_nearer : TopFn K mg "is_nearer" s_is_nearer
  t_next_piece : TopFn K mg "next_piece" s_next_piece
  t_pieces : TopFn K mg "pieces" s_pieces
  t_worth_at : TopFn K mg "worth_at" s_worth_at
  t_best_at : TopFn K mg "best_at" s_best_at
  t_greater : TopFn K mg "greater" s_greater
  t_lesser : TopFn K mg "lesser" s_lesser
  t_narrowed : TopFn K mg "narrowed" s_narrowed
  t_shares_of : TopFn K mg "shares_of" s_shares_of
  t_must_be : TopFn K mg "must_be" s_must_be
  t_must_be_item : TopFn K mg "must_be_item" s_must_be_item
  t_must_be_count : TopFn K mg "must_be_count" s_must_be_count
  t_must_be_weights : TopFn K mg "must_be_weights" s_must_be_weights
  t_must_be_measures : TopFn K mg "must_be_measures" s_must_be_measures
  t_load : TopFn K mg "load" s_load
  t_scores : TopFnA K mg "scores" s_scores a.f_scores
  t_top : TopFnA K mg "top" s_top a.f_top
  t_looks : TopFnA K mg "looks" s_looks a.f_looks
  t_rank : TopFnA K mg "rank" s_rank a.f_rank
  t_between : TopFnA K mg "between" s_between a.f_between
  t_best_for : TopFnA K mg "best_for" s_best_for a.f_best_for
  t_shares : TopFnA K mg "shares" s_shares a.f_shares
  t_asked : TopFn K mg "asked" s_asked
  t_answered : TopFn K mg "answered" s_answered
  t_row_at : TopFn K mg "row_at" s_row_at
  t_answers : TopFn K mg "answers" s_answers
  k_Token : ClsTx K mg "Token" "Token.__init__" a.cToken s_Token___init__ ["kind", "told", "place"]
  k_Listing : ClsTx K mg "Listing" "Listing.__init__" a.cListing s_Listing___init__ ["ups", "items_told"]
  k_Reader : ClsTx K mg "Reader" "Reader.__init__" a.cReader s_Reader___init__ ["tokens", "at"]
  k_Looks : ClsTx K mg "Looks" "Looks.__init__" a.cLooks s_Looks___init__ ["measures", "rows", "scores"]
  k_Holder : ClsTx K mg "Holder" "Holder.__init__" a.cHolder s_Holder___init__ ["listing"]
  k_Fault : ExcTx K mg "Fault" "Fault.__init__" a.cFault s_Fault___init__ ["code", "place"]
  k_Refused : ExcTx K mg "Refused" "Refused.__init__" a.cRefused s_Refused___init__ ["number"]
  tb_o : LamX.TabB base mg a.oc a.op
  tb_f : LamX.TabB base mg a.fc a.fp
  op_fp : a.op ≠ a.fp
end BwW
end

section
set_option Elab.async false
set_option linter.all false
set_option maxRecDepth 100000
set_option maxHeartbeats 2000000
namespace BwW
open PySem PySem.Spec PyProof.Rows L2 BwK
/-! ### defs that keep their promises -/
section
variable (P : Program) (w : World) (K : PySem.W.Frag) (mg : Str → Option Value) (base : Heap)
/-- a def of the top that keeps a promise -/
def Def (CX : CXT) (k : Nat) (x : Str) (ps : List Str) (sp : Sp) : Prop := ∃ f fd, FnOk P w K mg base CX k f fd ps sp ∧ mg x = some (.ref f) ∧ PySem.W.keepIn K (.ref f) = true ∧ Binds K fd ps []
/-- a class of the top whose __init__ keeps a promise -/
def ClsDef (k : Nat) (x : Str) (C : Addr) (ps : List Str) (sp : Sp) : Prop := ∃ f fd, Mk K C f ∧ FnOk P w K mg base CX0 k f fd ps sp ∧ mg x = some (.ref C) ∧ Binds K fd ps []
/-- an exception's class -/
def ExcDef (k : Nat) (x : Str) (C : Addr) (ps : List Str) (sp : Sp) : Prop := OexC K C ∧ mg x = some (.ref C) ∧ ∃ f fd, PySem.W.findIn K (.ref C) "__init__" = some (some (.ref f)) ∧ PySem.W.typeIn K (.ref f) = some (.type "function") ∧
  FnOk P w K mg base CX0 k f fd ps sp ∧ Binds K fd ps []
end
section
variable {X : Cx} {CX : CXT} {k : Nat} {x : Str} {C : Addr} {ps : List Str} {sp : Sp} {p pos : Pos} {e : Expr} {es : List Expr} {t : TA} {E : XK} {W : WX}
theorem pe_dC (D : Def X.prog X.w X.K X.mg X.base CX k x ps sp) (hr : Room k X.A) (hx : Passes CX X E) (ha : PA X (e :: es) t) (hg : Gl X x := by rfl) (hdb : (x == ("__debug__" : Str)) = false := by decide)
    (he : starEach (e :: es) X.env = (false, eval e X.env) :: starEach es X.env := by rfl) (hpl : (backTo pos (starEach es X.env)).any (·.1) = false := by rfl) : PE X (.Call (.Name x p) (e :: es) [] pos) (tCall sp [] E t) := by
  obtain ⟨f, fd, F, hm, kp, b⟩ := D
  exact pe_call F hr hg hm kp b .nil hx ha hdb he hpl
/-- f(..), f lets no exception out -/
theorem pe_d (D : Def X.prog X.w X.K X.mg X.base CX0 k x ps sp) (hr : Room k X.A) (ha : PA X (e :: es) t) (hg : Gl X x := by rfl) (hdb : (x == ("__debug__" : Str)) = false := by decide)
    (he : starEach (e :: es) X.env = (false, eval e X.env) :: starEach es X.env := by rfl) (hpl : (backTo pos (starEach es X.env)).any (·.1) = false := by rfl) : PE X (.Call (.Name x p) (e :: es) [] pos) (tCall sp [] E0 t) :=
  pe_dC D hr pass0 ha hg hdb he hpl
/-- f(..), what f raises leaves the def -/
theorem pe_dX (D : Def X.prog X.w X.K X.mg X.base (L2.CX X.prog X.w) k x ps sp) (hr : Room k X.A) (tk : Takes X (fun cls d _ H => E cls d H)) (ha : PA X (e :: es) t) (hg : Gl X x := by rfl) (hdb : (x == ("__debug__" : Str)) = false := by decide)
    (he : starEach (e :: es) X.env = (false, eval e X.env) :: starEach es X.env := by rfl) (hpl : (backTo pos (starEach es X.env)).any (·.1) = false := by rfl) : PE X (.Call (.Name x p) (e :: es) [] pos) (tCall sp [] E t) :=
  pe_dC D hr (passes_call tk fun _ _ _ _ z => z) ha hg hdb he hpl
/-- f(..) within a try -/
theorem pe_dS (D : Def X.prog X.w X.K X.mg X.base (L2.CX X.prog X.w) k x ps sp) (hr : Room k X.A) (tk : Takes X W) (ha : PA X (e :: es) t) (hg : Gl X x := by rfl) (hdb : (x == ("__debug__" : Str)) = false := by decide)
    (he : starEach (e :: es) X.env = (false, eval e X.env) :: starEach es X.env := by rfl) (hpl : (backTo pos (starEach es X.env)).any (·.1) = false := by rfl) : PE X (.Call (.Name x p) (e :: es) [] pos) (tCallS sp (WE W) t) := by
  obtain ⟨f, fd, F, hm, kp, b⟩ := D
  exact pe_callS F hr hg hm kp b (fun σ => passAt tk σ) ha hdb he hpl
/-- C(..) -/
theorem pe_c (D : ClsDef X.prog X.w X.K X.mg X.base k x C ps sp) (hr : Room (k + 1) X.A) (ha : PA X (e :: es) t) (hg : Gl X x := by rfl) (hdb : (x == ("__debug__" : Str)) = false := by decide)
    (he : starEach (e :: es) X.env = (false, eval e X.env) :: starEach es X.env := by rfl) (hpl : (backTo pos (starEach es X.env)).any (·.1) = false := by rfl) : PE X (.Call (.Name x p) (e :: es) [] pos) (tMake C sp [] E0 t) := by
  obtain ⟨f, fd, M, F, hm, b⟩ := D
  exact pe_make M F hr hg hm b .nil pass0 ha hdb he hpl
theorem pe_c0 (D : ClsDef X.prog X.w X.K X.mg X.base k x C ps sp) (hr : Room (k + 1) X.A) (hg : Gl X x := by rfl) (hdb : (x == ("__debug__" : Str)) = false := by decide) : PE X (.Call (.Name x p) [] [] pos) (tMake C sp [] E0 tNil) := by
  obtain ⟨f, fd, M, F, hm, b⟩ := D
  exact pe_make0 M F hr hg hm b .nil pass0 hdb
/-- an exception C(..) is made -/
theorem pmk_c (D : ExcDef X.prog X.w X.K X.mg X.base k x C ps sp) (hr : Room (k + 1) X.A) (ha : PA X (e :: es) t) (hg : Gl X x := by rfl) (hdb : (x == ("__debug__" : Str)) = false := by decide)
    (he : starEach (e :: es) X.env = (false, eval e X.env) :: starEach es X.env := by rfl) (hpl : (backTo pos (starEach es X.env)).any (·.1) = false := by rfl) : PMk X (.Call (.Name x p) (e :: es) [] pos) (tMkO C sp [] t) := by
  obtain ⟨T, hm, f, fd, iC, tI, F, b⟩ := D
  exact pmk_oex T iC tI F hr b .nil (fun _ _ _ _ _ _ _ h => h.elim) hg hm ha hdb he hpl
/-- a name of the top that holds a whole number or a text -/
theorem pe_gi {n : Int} (h : ∃ t, X.mg x = some (.int n t)) (hg : Gl X x := by rfl) (hd : (x == ("__debug__" : Str)) = false := by decide) : PE X (.Name x pos) (tC (.int n)) := by
  obtain ⟨t, h⟩ := h
  exact pe_glob hg h ⟨_, rfl⟩ hd
theorem pe_gs {n : Str} (h : ∃ t, X.mg x = some (.str n t)) (hg : Gl X x := by rfl) (hd : (x == ("__debug__" : Str)) = false := by decide) : PE X (.Name x pos) (tC (.str n)) := by
  obtain ⟨t, h⟩ := h
  exact pe_glob hg h ⟨_, rfl⟩ hd
theorem pe_gr {a : Addr} (h : X.mg x = some (.ref a)) (hg : Gl X x := by rfl) (hd : (x == ("__debug__" : Str)) = false := by decide) : PE X (.Name x pos) (tC (.ref a)) := pe_glob hg h rfl hd
end
section
variable {P : Program} {w : World} {K : PySem.W.Frag} {mg : Str → Option Value} {base : Heap}
/-- how so many arguments bind -/
abbrev BindsFn (x qual : Str) (st : Stmt) (ps : List Str) : Prop := ∀ (kV doc pm : Value) (an : Option Addr) (cdv ct : Value) (us : List Value), us.length = ps.length → bindArgs (PySem.W.fnOf x qual (defArgs st) (defBody st) (defScope st) .none kV doc pm an cdv ct) ⟨us, []⟩ = pure (ps.zip us)
theorem def_of {x : Str} {st : Stmt} {CX : CXT} {k : Nat} {ps : List Str} {sp : Sp} (h : TopFn K mg x st) (hb : BindsFn x x st ps) (ok : ∀ f fd, Fun K x x st f fd → FnOk P w K mg base CX k f fd ps sp) : Def P w K mg base CX k x ps sp := by
  obtain ⟨f, fd, F, hm⟩ := h
  exact ⟨f, fd, ok f fd F, hm, F.kp, F.binds hb⟩
theorem cls_of {x q : Str} {C : Addr} {st : Stmt} {as : List Str} {k : Nat} {ps : List Str} {sp : Sp} (h : ClsTx K mg x q C st as) (hb : BindsFn "__init__" q st ps) (ok : ∀ f fd, Fun K "__init__" q st f fd → FnOk P w K mg base CX0 k f fd ps sp) : ClsDef P w K mg base k x C ps sp := by
  obtain ⟨f, fd, M, F⟩ := h.mi
  exact ⟨f, fd, M, ok f fd F, h.g, F.binds hb⟩
theorem exc_of {x q : Str} {C : Addr} {st : Stmt} {as : List Str} {k : Nat} {ps : List Str} {sp : Sp} (h : ExcTx K mg x q C st as) (hb : BindsFn "__init__" q st ps) (ok : ∀ f fd, Fun K "__init__" q st f fd → FnOk P w K mg base CX0 k f fd ps sp) : ExcDef P w K mg base k x C ps sp := by
  obtain ⟨f, fd, i, t, F⟩ := h.mi
  exact ⟨h.ox, h.g, f, fd, i, t, ok f fd F, F.binds hb⟩
/-- a loop, its measure; nothing is asked of the test's reading -/
theorem while_d {c : TT} {tb : TS} {D : Ends} {σ : L2.St} {H : Hp} (Pv : L2.St → Hp → Prop) (μ : L2.St → Hp → Nat) (h0 : Pv σ H)
    (hs : ∀ σ H, Pv σ H → c σ H fun b H1 => if b = true then ∃ N : L2.St → Hp → Prop, (∀ σ' H', N σ' H' → ∃ m', m' < μ σ H ∧ (m' = μ σ' H' ∧ Pv σ' H')) ∧ tb { D with nx := N, ct := N, bk := D.nx } σ H1 else D.nx σ H1) : tWhile c tb D σ H := by
  refine ⟨fun m σ H => m = μ σ H ∧ Pv σ H, ⟨_, rfl, h0⟩, ?_⟩
  rintro m σ H ⟨rfl, p⟩
  exact hs σ H p
/-- bytes as values, as a text -/
def byV (b : VaskyBase.Bytes) : List V := b.map fun (c : UInt8) => V.int (c.toNat : Int)
def strOf (b : VaskyBase.Bytes) : Str := ⟨(b.map UInt8.toNat).toArray⟩
end
end BwW
end

section
set_option Elab.async false
set_option linter.all false
set_option maxRecDepth 100000
set_option maxHeartbeats 2000000
namespace BwW
open PySem PySem.Spec PyProof.Rows L2 BwK
section
variable {P : Program} {w : World} {K : PySem.W.Frag} {mg : Str → Option Value} {base : Heap} {A : Ads}
def sp_is_letter (K : PySem.W.Frag) (A : Ads) : Sp := fun vs H Q _ => ∃ u : UInt8, vs = [.int (u.toNat : Int)] ∧ Q (.bl (VaskyBase.isLetter u)) H
theorem d_is_letter (T : Tx K mg base A) : Def P w K mg base CX0 1 "is_letter" ["byte"] (sp_is_letter K A) := def_of T.t_is_letter (fun _ _ _ _ _ _ us hl => match us, hl with | [_], _ => rfl) fun f fd F => by
  have nd := sc_is_letter.nd
  refine F.ok sc_is_letter (fun vs H Q E h => ?_) (fun cdv Ar outer s H vs Q E hr h => ⟨_, (pss_one (ps_ret (pe_or (pe_chain op_le op_lt pe_int (pe_op op_sub (pv 0) (pe_gi T.g_GREAT_A)) pe_int) (pe_one (pe_chain op_le op_lt pe_int (pe_op op_sub (pv 0) (pe_gi T.g_SMALL_A)) pe_int))))), ?_⟩)
  · obtain ⟨u, rfl, _⟩ := h
    rfl
  · obtain ⟨u, rfl, q⟩ := h
    have fin : ∀ b : Bool, VaskyBase.isLetter u = b → Q (.bl b) H := fun b e => e ▸ q
    have hb : u.toNat < 256 := u.toNat_lt
    refine ⟨_, rfl, _, _, rfl, rfl, 0, _, rfl, rfl, _, rfl, ite2 (fun h1 => ⟨_, _, rfl, rfl, _, rfl, ite2 (fun h2 => fin _ ?_) fun h2 => ?_⟩) fun h1 => ⟨_, rfl, ite2 (fun h2 => by cases h2) fun _ => ?_⟩⟩
    · unfold VaskyBase.isLetter
      simp only [decide_eq_true_eq] at h1 h2
      simp only [Bool.or_eq_true, decide_eq_true_eq]
      omega
    all_goals
      refine ⟨_, rfl, _, _, rfl, rfl, 0, _, rfl, rfl, _, rfl, ite2 (fun h3 => ⟨_, _, rfl, rfl, fin _ ?_⟩) fun h3 => fin _ ?_⟩
      all_goals
        unfold VaskyBase.isLetter
        rw [Bool.eq_iff_iff]
        simp only [decide_eq_true_eq] at *
        simp only [Bool.or_eq_true, decide_eq_true_eq, Bool.false_eq_true, iff_false]
        omega
def sp_is_figure (K : PySem.W.Frag) (A : Ads) : Sp := fun vs H Q _ => ∃ u : UInt8, vs = [.int (u.toNat : Int)] ∧ Q (.bl (VaskyBase.isDigit u)) H
theorem d_is_figure (T : Tx K mg base A) : Def P w K mg base CX0 1 "is_figure" ["byte"] (sp_is_figure K A) := def_of T.t_is_figure (fun _ _ _ _ _ _ us hl => match us, hl with | [_], _ => rfl) fun f fd F => by
  have nd := sc_is_figure.nd
  refine F.ok sc_is_figure (fun vs H Q E h => ?_) (fun cdv Ar outer s H vs Q E hr h => ⟨_, (pss_one (ps_ret (pe_chain op_le op_le (pe_gi T.g_NOUGHT) (pv 0) (pe_gi T.g_NINE)))), ?_⟩)
  · obtain ⟨u, rfl, _⟩ := h
    rfl
  · obtain ⟨u, rfl, q⟩ := h
    have fin : ∀ b : Bool, VaskyBase.isDigit u = b → Q (.bl b) H := fun b e => e ▸ q
    refine ⟨_, rfl, 48, _, rfl, rfl, _, rfl, ite2 (fun h1 => ⟨_, _, rfl, rfl, fin _ ?_⟩) fun h1 => fin _ ?_⟩
    all_goals
      unfold VaskyBase.isDigit
      rw [Bool.eq_iff_iff]
      simp only [decide_eq_true_eq, Bool.false_eq_true, iff_false] at *
      omega
theorem digit_at : ∀ n : Nat, n < 58 → 48 ≤ n → atI (("0123456789" : Str)).cps.toList ((n : Int) - 48) = some n := by decide +kernel
theorem small_at : ∀ n : Nat, n < 123 → 97 ≤ n → atI (("abcdefghijklmnopqrstuvwxyz" : Str)).cps.toList ((n : Int) - 97) = some n := by decide +kernel
theorem great_at : ∀ n : Nat, n < 91 → 65 ≤ n → atI (("ABCDEFGHIJKLMNOPQRSTUVWXYZ" : Str)).cps.toList ((n : Int) - 65) = some n := by decide +kernel
def sp_sign_of (K : PySem.W.Frag) (A : Ads) : Sp := fun vs H Q _ => ∃ u : UInt8, vs = [.int (u.toNat : Int)] ∧ (VaskyBase.isLetter u || VaskyBase.isDigit u) = true ∧ Q (.str (strOf [u])) H
theorem d_sign_of (T : Tx K mg base A) : Def P w K mg base CX0 2 "sign_of" ["byte"] (sp_sign_of K A) := def_of T.t_sign_of (fun _ _ _ _ _ _ us hl => match us, hl with | [_], _ => rfl) fun f fd F => by
  have nd := sc_sign_of.nd
  have d_is_figure := d_is_figure (P := P) (w := w) T
  refine F.ok sc_sign_of (fun vs H Q E h => ?_) (fun cdv Ar outer s H vs Q E hr h => ⟨_, (pss_cons (ps_if (pt_val (pe_d d_is_figure (hr.mono (by decide)) (pa_cons (pv 0) pa_nil))) (pss_one (ps_ret (pe_ix ix_str (pe_gs T.g_FIGURES) (pe_op op_sub (pv 0) (pe_gi T.g_NOUGHT)) (fun _ _ => rfl)))) pss_nil)
        (pss_cons (ps_if (pt_cmpR op_ge (pv 0) (pe_gi T.g_SMALL_A) (nomark _)) (pss_one (ps_ret (pe_ix ix_str (pe_gs T.g_SMALL_LETTERS) (pe_op op_sub (pv 0) (pe_gi T.g_SMALL_A)) (fun _ _ => rfl)))) pss_nil)
        (pss_one (ps_ret (pe_ix ix_str (pe_gs T.g_GREAT_LETTERS) (pe_op op_sub (pv 0) (pe_gi T.g_GREAT_A)) (fun _ _ => rfl)))))), ?_⟩)
  · obtain ⟨u, rfl, _⟩ := h
    rfl
  · obtain ⟨u, rfl, hu, q⟩ := h
    have q' : Q (.str ⟨#[u.toNat]⟩) H := q
    refine ⟨_, rfl, u, rfl, _, rfl, ite2 (fun h1 => ?_) fun h1 => ⟨_, rfl, _, _, rfl, rfl, _, rfl, ite2 (fun h2 => ?_) fun h2 => ?_⟩⟩
    · unfold VaskyBase.isDigit at h1
      simp only [decide_eq_true_eq] at h1
      exact ⟨_, rfl, _, _, rfl, rfl, _, _, _, rfl, rfl, by decide +kernel, digit_at _ (by omega) h1.1, q'⟩
    all_goals
      unfold VaskyBase.isLetter VaskyBase.isDigit at hu
      unfold VaskyBase.isDigit at h1
      simp only [decide_eq_true_eq, Bool.or_eq_true] at h1 hu h2
    · exact ⟨_, rfl, _, _, rfl, rfl, _, _, _, rfl, rfl, by decide +kernel, small_at _ (by omega) (by omega), q'⟩
    · exact ⟨_, rfl, _, _, rfl, rfl, _, _, _, rfl, rfl, by decide +kernel, great_at _ (by omega) (by omega), q'⟩
/-! ### where a run ends -/
def runEnd (p : UInt8 → Bool) (B : VaskyBase.Bytes) (n : Nat) : Nat := n + ((B.drop n).takeWhile p).length
theorem runEnd_yes {p : UInt8 → Bool} {B : VaskyBase.Bytes} {n : Nat} {u : UInt8} (h : B[n]? = some u) (hu : p u = true) : runEnd p B n = runEnd p B (n + 1) := by
  obtain ⟨h1, h2⟩ := List.getElem?_eq_some_iff.mp h
  unfold runEnd
  rw [List.drop_eq_getElem_cons h1, h2, List.takeWhile_cons_of_pos hu, List.length_cons]
  omega
theorem runEnd_no {p : UInt8 → Bool} {B : VaskyBase.Bytes} {n : Nat} {u : UInt8} (h : B[n]? = some u) (hu : p u = false) : runEnd p B n = n := by
  obtain ⟨h1, h2⟩ := List.getElem?_eq_some_iff.mp h
  unfold runEnd
  rw [List.drop_eq_getElem_cons h1, h2, List.takeWhile_cons_of_neg (by simp [hu])]
  rfl
theorem runEnd_end {p : UInt8 → Bool} {B : VaskyBase.Bytes} {n : Nat} (h : B.length ≤ n) : runEnd p B n = n := by
  unfold runEnd
  rw [List.drop_eq_nil_of_le h]
  rfl
theorem byV_at {B : VaskyBase.Bytes} {m : Nat} {u : UInt8} (h : B[m]? = some u) : (byV B)[m]? = some (.int (u.toNat : Int)) := by
  unfold byV
  rw [List.getElem?_map, h]
  rfl
theorem byV_len (B : VaskyBase.Bytes) : (byV B).length = B.length := List.length_map ..
def sp_end (p : UInt8 → Bool) (K : PySem.W.Frag) : Sp := fun vs H Q _ => ∃ (a : Addr) (B : VaskyBase.Bytes) (n : Nat), vs = [.ref a, .int (n : Int)] ∧ SqL K H a (byV B) ∧ Q (.int (runEnd p B n : Nat)) H
abbrev nameB : UInt8 → Bool := fun c => VaskyBase.isLetter c || VaskyBase.isDigit c
def sp_end_of_name (K : PySem.W.Frag) (A : Ads) : Sp := sp_end nameB K
def sp_end_of_number (K : PySem.W.Frag) (A : Ads) : Sp := sp_end VaskyBase.isDigit K
def sp_end_of_remark (K : PySem.W.Frag) (A : Ads) : Sp := sp_end (· != 10) K
theorem runEnd_le {p : UInt8 → Bool} {B : VaskyBase.Bytes} {n : Nat} (h : n ≤ B.length) : runEnd p B n ≤ B.length := by
  unfold runEnd
  have := List.IsPrefix.length_le (List.takeWhile_prefix p (l := B.drop n))
  rw [List.length_drop] at this
  omega
theorem le_runEnd {p : UInt8 → Bool} {B : VaskyBase.Bytes} {n : Nat} : n ≤ runEnd p B n := Nat.le_add_right ..
/-- the invariant of the three loops -/
def runW (p : UInt8 → Bool) (a : Addr) (B : VaskyBase.Bytes) (n : Nat) (H : Hp) : Nat → L2.St → Hp → Prop := fun k σ H' => ∃ m : Nat, k = B.length - m ∧ σ = [some (.ref a), some (.int (m : Int))] ∧ H' = H ∧ runEnd p B m = runEnd p B n
theorem runW_next {p : UInt8 → Bool} {a : Addr} {B : VaskyBase.Bytes} {n m : Nat} {H : Hp} {u : UInt8} (hm : runEnd p B m = runEnd p B n) (hu : B[m]? = some u) (hp : p u = true) : ∃ m', m' < B.length - m ∧ runW p a B n H m' [some (.ref a), some (.int ((m : Int) + 1))] H := by
  have h1 := (List.getElem?_eq_some_iff.mp hu).1
  exact ⟨B.length - (m + 1), by omega, m + 1, rfl, rfl, rfl, by rw [← runEnd_yes hu hp, hm]⟩
theorem d_end_of_name (T : Tx K mg base A) : Def P w K mg base CX0 2 "end_of_name" ["text", "at"] (sp_end_of_name K A) := def_of T.t_end_of_name (fun _ _ _ _ _ _ us hl => match us, hl with | [_, _], _ => rfl) fun f fd F => by
  have nd := sc_end_of_name.nd
  have d_is_letter := d_is_letter (P := P) (w := w) T
  have d_is_figure := d_is_figure (P := P) (w := w) T
  refine F.ok sc_end_of_name (fun vs H Q E h => ?_) (fun cdv Ar outer s H vs Q E hr h => ⟨_, (pss_cons (ps_while PassesOwn.never (PW.pt (pw_and (pt_cmpR op_lt (pv 1) (pe_callB call_len_seq (by rfl) T.b_len PySem.boot_len (pa_cons (pv 0) pa_nil)) (nomark _)) (pw_and1 (PW.pt (pw_or (pt_val (pe_d d_is_letter (hr.mono (by decide)) (pa_cons (pe_ix ix_list (pv 0) (pv 1) (fun _ _ => rfl)) pa_nil))) (pw_or1 (pt_val (pe_d d_is_figure (hr.mono (by decide)) (pa_cons (pe_ix ix_list (pv 0) (pv 1) (fun _ _ => rfl)) pa_nil))))))))) (pss_one (ps_set (i := 1) nd rfl (Or.inl rfl) (pe_op op_add (pv 1) pe_int))))
        (pss_one (ps_ret (pv 1)))), ?_⟩)
  · obtain ⟨a, B, n, rfl, _⟩ := h
    rfl
  · obtain ⟨a, B, n, rfl, hB, q⟩ := h
    refine ⟨runW nameB a B n H, ⟨_, n, rfl, rfl, rfl, rfl⟩, ?_⟩
    rintro k σ H' ⟨m, rfl, rfl, rfl, hm⟩
    have fin : runEnd nameB B m = m → tRet (tVar 1) { nx := fun _ H' => Q .non H', rt := Q } [some (.ref a), some (.int (m : Int))] H' := fun e => ⟨_, rfl, by rw [← hm, e] at q; exact q⟩
    refine ⟨_, rfl, _, rfl, a, _, rfl, .inl hB, _, _, rfl, rfl, _, rfl, ite2 (fun h1 => ?_) fun h1 => iteF (fin (runEnd_end (by simpa [byV_len] using h1)))⟩
    have h1' : m < B.length := by simpa [byV_len] using h1
    have hu := List.getElem?_eq_getElem h1'
    generalize B[m] = u at hu
    have at_ := atI_nat (byV_at hu)
    refine ⟨_, rfl, _, rfl, a, _, _, _, rfl, rfl, hB, at_, u, rfl, _, rfl, ite2 (fun h2 => iteT ⟨_, fun _ _ h => h, _, rfl, m, 1, rfl, rfl, runW_next hm hu ?_⟩) fun h2 => ⟨_, rfl, _, rfl, a, _, _, _, rfl, rfl, hB, at_, u, rfl, _, rfl, ite2 (fun h3 => ⟨_, fun _ _ h => h, _, rfl, m, 1, rfl, rfl, runW_next hm hu ?_⟩) fun h3 => fin (runEnd_no hu ?_)⟩⟩
    all_goals
      show (_ || _) = _
      simp_all
theorem d_end_of_number (T : Tx K mg base A) : Def P w K mg base CX0 2 "end_of_number" ["text", "at"] (sp_end_of_number K A) := def_of T.t_end_of_number (fun _ _ _ _ _ _ us hl => match us, hl with | [_, _], _ => rfl) fun f fd F => by
  have nd := sc_end_of_number.nd
  have d_is_figure := d_is_figure (P := P) (w := w) T
  refine F.ok sc_end_of_number (fun vs H Q E h => ?_) (fun cdv Ar outer s H vs Q E hr h => ⟨_, (pss_cons (ps_while PassesOwn.never (PW.pt (pw_and (pt_cmpR op_lt (pv 1) (pe_callB call_len_seq (by rfl) T.b_len PySem.boot_len (pa_cons (pv 0) pa_nil)) (nomark _)) (pw_and1 (pt_val (pe_d d_is_figure (hr.mono (by decide)) (pa_cons (pe_ix ix_list (pv 0) (pv 1) (fun _ _ => rfl)) pa_nil)))))) (pss_one (ps_set (i := 1) nd rfl (Or.inl rfl) (pe_op op_add (pv 1) pe_int))))
        (pss_one (ps_ret (pv 1)))), ?_⟩)
  · obtain ⟨a, B, n, rfl, _⟩ := h
    rfl
  · obtain ⟨a, B, n, rfl, hB, q⟩ := h
    refine ⟨runW VaskyBase.isDigit a B n H, ⟨_, n, rfl, rfl, rfl, rfl⟩, ?_⟩
    rintro k σ H' ⟨m, rfl, rfl, rfl, hm⟩
    have fin : runEnd VaskyBase.isDigit B m = m → tRet (tVar 1) { nx := fun _ H' => Q .non H', rt := Q } [some (.ref a), some (.int (m : Int))] H' := fun e => ⟨_, rfl, by rw [← hm, e] at q; exact q⟩
    refine ⟨_, rfl, _, rfl, a, _, rfl, .inl hB, _, _, rfl, rfl, _, rfl, ite2 (fun h1 => ?_) fun h1 => iteF (fin (runEnd_end (by simpa [byV_len] using h1)))⟩
    have h1' : m < B.length := by simpa [byV_len] using h1
    have hu := List.getElem?_eq_getElem h1'
    generalize B[m] = u at hu
    have at_ := atI_nat (byV_at hu)
    exact ⟨_, rfl, _, rfl, a, _, _, _, rfl, rfl, hB, at_, u, rfl, _, rfl, ite2 (fun h2 => ⟨_, fun _ _ h => h, _, rfl, m, 1, rfl, rfl, runW_next hm hu h2⟩) fun h2 => fin (runEnd_no hu (by simpa using h2))⟩
theorem d_end_of_remark (T : Tx K mg base A) : Def P w K mg base CX0 1 "end_of_remark" ["text", "at"] (sp_end_of_remark K A) := def_of T.t_end_of_remark (fun _ _ _ _ _ _ us hl => match us, hl with | [_, _], _ => rfl) fun f fd F => by
  have nd := sc_end_of_remark.nd
  refine F.ok sc_end_of_remark (fun vs H Q E h => ?_) (fun cdv Ar outer s H vs Q E hr h => ⟨_, (pss_cons (ps_while PassesOwn.never (PW.pt (pw_and (pt_cmpR op_lt (pv 1) (pe_callB call_len_seq (by rfl) T.b_len PySem.boot_len (pa_cons (pv 0) pa_nil)) (nomark _)) (pw_and1 (pt_cmpR op_ne (pe_ix ix_list (pv 0) (pv 1) (fun _ _ => rfl)) (pe_gi T.g_LINE_END) (nomark _))))) (pss_one (ps_set (i := 1) nd rfl (Or.inl rfl) (pe_op op_add (pv 1) pe_int))))
        (pss_one (ps_ret (pv 1)))), ?_⟩)
  · obtain ⟨a, B, n, rfl, _⟩ := h
    rfl
  · obtain ⟨a, B, n, rfl, hB, q⟩ := h
    refine ⟨runW (· != 10) a B n H, ⟨_, n, rfl, rfl, rfl, rfl⟩, ?_⟩
    rintro k σ H' ⟨m, rfl, rfl, rfl, hm⟩
    have fin : runEnd (· != 10) B m = m → tRet (tVar 1) { nx := fun _ H' => Q .non H', rt := Q } [some (.ref a), some (.int (m : Int))] H' := fun e => ⟨_, rfl, by rw [← hm, e] at q; exact q⟩
    refine ⟨_, rfl, _, rfl, a, _, rfl, .inl hB, _, _, rfl, rfl, _, rfl, ite2 (fun h1 => ?_) fun h1 => iteF (fin (runEnd_end (by simpa [byV_len] using h1)))⟩
    have h1' : m < B.length := by simpa [byV_len] using h1
    have hu := List.getElem?_eq_getElem h1'
    generalize B[m] = u at hu
    have at_ := atI_nat (byV_at hu)
    have hd : decide (V.int (u.toNat : Int) = V.int 10) = (u == 10) := by
      rw [Bool.eq_iff_iff, decide_eq_true_eq, beq_iff_eq]
      constructor
      · intro e
        exact UInt8.toNat_inj.mp (by injection e with e; exact_mod_cast e)
      · rintro rfl
        rfl
    refine ⟨_, rfl, _, rfl, a, _, _, _, rfl, rfl, hB, at_, rfl, _, rfl, ?_⟩
    rw [hd]
    exact ite2 (fun h2 => ⟨_, fun _ _ h => h, _, rfl, m, 1, rfl, rfl, runW_next hm hu h2⟩) fun h2 => fin (runEnd_no hu (by simpa using h2))
end
end BwW
end

section
set_option Elab.async false
set_option linter.all false
set_option maxRecDepth 100000
set_option maxHeartbeats 2000000
namespace BwW
open PySem PySem.Spec PyProof.Rows L2 BwK
open Bw (Kd kdOf okTok)
section
variable {P : Program} {w : World} {K : PySem.W.Frag} {mg : Str → Option Value} {base : Heap} {A : Ads}
theorem lk_here {k : Str} {v : V} {r : List (Str × V)} : List.lookup k ((k, v) :: r) = some v := by
  have e : (k == k) = true := beq_self_eq_true k
  simp only [List.lookup, e]
theorem lk_past {k g : Str} {v : V} {r : List (Str × V)} (h : (k == g) = false) : List.lookup k ((g, v) :: r) = List.lookup k r := by
  simp only [List.lookup, h]
theorem put_here {f : Str} {v x : V} {r : List (Str × V)} : putF f v ((f, x) :: r) = (f, v) :: r := if_pos rfl
theorem put_past {f g : Str} {v x : V} {r : List (Str × V)} (h : ¬ g = f) : putF f v ((g, x) :: r) = (g, x) :: putF f v r := if_neg h
/-! ### a fault is made -/
def sp_Fault___init__ (A : Ads) : Sp := fun vs H Q _ => ∃ (a : Addr) (c pl : V), vs = [.ref a, c, pl] ∧ H a = some (exo a A.cFault none) ∧
  ∀ (d : Addr) (H' : Hp), H d = none → d ≠ a → H' a = some (exo a A.cFault (some d)) → H' d = some (exd d [("place", pl), ("code", c)]) → (∀ b o, b ≠ a → H b = some o → H' b = some o) → Q .non H'
theorem d_Fault (T : Tx K mg base A) : ExcDef P w K mg base 1 "Fault" A.cFault ["self", "code", "place"] (sp_Fault___init__ A) := exc_of T.k_Fault (fun _ _ _ _ _ _ us hl => match us, hl with | [_, _, _], _ => rfl) fun f fd F => by
  have nd := sc_Fault___init__.nd
  refine F.ok sc_Fault___init__ (fun vs H Q E h => ?_) (fun cdv Ar outer s H vs Q E hr h => ⟨_, (pss_cons (ps_ost (pv 0) (pv 1))
        (pss_one (ps_ost (pv 0) (pv 2)))), ?_⟩)
  · obtain ⟨a, c, pl, rfl, _⟩ := h
    rfl
  · obtain ⟨a, c, pl, rfl, ha, q⟩ := h
    have n1 := T.k_Fault.no "code" (by simp)
    have n2 := T.k_Fault.no "place" (by simp)
    refine ⟨_, rfl, _, rfl, a, A.cFault, rfl, T.k_Fault.ox, n1, .inl ⟨ha, fun dx hdx ne => ?_⟩⟩
    refine ⟨_, rfl, _, rfl, a, A.cFault, rfl, T.k_Fault.ox, n2, .inr ⟨dx, [("code", c)], upd_same, ?_, by show 1 ≤ 900; decide, ?_⟩⟩
    · rw [upd_ne ne, upd_same]
    · refine q dx _ hdx ne ?_ upd_same fun b o hb e => ?_
      · rw [upd_ne (Ne.symm ne), upd_same]
      · have nd : b ≠ dx := ne_of_none e hdx
        rw [upd_ne nd, upd_ne hb, upd_ne nd]
        exact e
/-- a fault leaves the def -/
def FaultOut (A : Ads) (H : Hp) (E : XK) (c n : Int) : Prop := ∀ (d : Addr) (H' : Hp), H d = none → Same H H' → H' d = some (.xd [("place", .int n), ("code", .int c)]) → E (.ref A.cFault) (some d) H'
theorem mk_fault {H : Hp} {E : XK} {c n : Int} (h : FaultOut A H E c n) : ([V.int c, V.int n] : List V).length ≤ 1000 ∧ ∀ a, H a = none → sp_Fault___init__ A (.ref a :: ([V.int c, V.int n] ++ [])) (upd H a (exo a A.cFault none))
    (fun v H2 => v = .non ∧ ∃ (d : Addr) (fs : List (Str × V)), H2 a = some (exo a A.cFault (some d)) ∧ H2 d = some (exd d fs) ∧ H d = none ∧ E (.ref A.cFault) (some d) (upd (del H2 a) d (.xd fs))) (fun _ _ _ => False) := by
  refine ⟨by show 2 ≤ 1000; decide, fun a ha => ⟨a, .int c, .int n, rfl, upd_same, fun d H' hd ne h1 h2 h3 => ⟨rfl, d, _, h1, h2, ?_, ?_⟩⟩⟩
  · rw [upd_ne ne] at hd
    exact hd
  · rw [upd_ne ne] at hd
    refine h d _ hd (fun b o e => ?_) upd_same
    have na : b ≠ a := ne_of_none e ha
    rw [upd_ne (ne_of_none e hd), del_ne na]
    exact h3 b o na (by rw [upd_ne na]; exact e)
/-! ### tokens -/
def sp_Token___init__ (K : PySem.W.Frag) (A : Ads) : Sp := fun vs H Q _ => ∃ (p dx : Addr) (k t pl : V), vs = [.ref p, k, t, pl] ∧ H p = some (.ins A.cToken dx []) ∧
  ∀ H' : Hp, H' p = some (.ins A.cToken dx [("kind", k), ("told", t), ("place", pl)]) → (∀ b o, b ≠ p → H b = some o → H' b = some o) → Q .non H'
theorem d_Token (T : Tx K mg base A) : ClsDef P w K mg base 1 "Token" A.cToken ["self", "kind", "told", "place"] (sp_Token___init__ K A) := cls_of T.k_Token (fun _ _ _ _ _ _ us hl => match us, hl with | [_, _, _, _], _ => rfl) fun f fd F => by
  have nd := sc_Token___init__.nd
  refine F.ok sc_Token___init__ (fun vs H Q E h => ?_) (fun cdv Ar outer s H vs Q E hr h => ⟨_, (pss_cons (ps_fld (pv 0) (pv 1) rfl)
        (pss_cons (ps_fld (pv 0) (pv 2) rfl)
        (pss_one (ps_fld (pv 0) (pv 3) rfl)))), ?_⟩)
  · obtain ⟨p, dx, k, t, pl, rfl, _⟩ := h
    rfl
  · obtain ⟨p, dx, k, t, pl, rfl, hp, q⟩ := h
    have C := T.k_Token.cl
    have n1 := T.k_Token.no "kind" (by simp)
    have n2 := T.k_Token.no "told" (by simp)
    have n3 := T.k_Token.no "place" (by simp)
    refine ⟨_, rfl, _, rfl, p, _, dx, _, rfl, hp, C, n1, by show 0 < 1000; decide, ?_⟩
    refine ⟨_, rfl, _, rfl, p, _, dx, _, rfl, upd_same, C, n2, by show 1 < 1000; decide, ?_⟩
    refine ⟨_, rfl, _, rfl, p, _, dx, _, rfl, upd_same, C, n3, by show 2 < 1000; decide, ?_⟩
    refine q _ upd_same fun b o hb e => ?_
    rw [upd_ne hb, upd_ne hb, upd_ne hb]
    exact e
def kS : Kd → Str
  | .measures => "measures" | .up => "up" | .down => "down" | .item => "item" | .comma => "," | .colon => ":" | .semi => ";" | .minus => "-" | .name => "a name" | .number => "a number" | .fin => "the end"
theorem kS_inj : ∀ a b : Kd, kS a = kS b → a = b := by
  intro a b
  cases a <;> cases b <;> first | (intro _; rfl) | (intro h; exact absurd h (by decide +kernel))
def toldV (t : VaskyBase.Tok) : V := match t with
  | .name b => .str (strOf b)
  | .num n => .int (n : Int)
  | .sign _ => .str (kS (kdOf t))
  | .last => .str "the end"
def tokF (t : VaskyBase.PTok) : List (Str × V) := [("kind", .str (kS (kdOf t.tok))), ("told", toldV t.tok), ("place", .int (t.place : Int))]
def TokAt (A : Ads) (H : Hp) (p : Addr) (t : VaskyBase.PTok) : Prop := ∃ dx, H p = some (.ins A.cToken dx (tokF t))
theorem mk_tok {H : Hp} {Q : VK} {k t pl : V} (h : ∀ (p dx : Addr) (H' : Hp), H p = none → Same H H' → H' p = some (.ins A.cToken dx [("kind", k), ("told", t), ("place", pl)]) → Q (.ref p) H') :
    ∀ x dx, H x = none → H dx = none → dx ≠ x → sp_Token___init__ K A (.ref x :: ([k, t, pl] ++ [])) (upd (upd H dx (.own x)) x (.ins A.cToken dx [])) (fun v H2 => v = .non ∧ Q (.ref x) H2) E0 := by
  intro x dx nx ndx ne
  refine ⟨x, dx, k, t, pl, rfl, upd_same, fun H' h1 h2 => ⟨rfl, h x dx H' nx (fun b o e => ?_) h1⟩⟩
  have nb : b ≠ x := ne_of_none e nx
  exact h2 b o nb (by rw [upd_ne nb, upd_ne (ne_of_none e ndx)]; exact e)
theorem strOf_inj {a b : VaskyBase.Bytes} (h : strOf a = strOf b) : a = b := by
  unfold strOf at h
  have h1 := congrArg Str.cps h
  have h2 : a.map UInt8.toNat = b.map UInt8.toNat := by simpa using h1
  exact (List.map_inj_right fun x y e => UInt8.toNat_inj.mp e).mp h2
theorem lc_put {I : Hp → Prop} {H4 : Hp} {D : Addr} {out : Nat → List V} {i : Nat} {y : V} (h : I (upd H4 D (.lst (out i ++ [y])))) (hD : H4 D = some (.lst (out i))) (hl : (out i).length < sizeLine) (e : out (i + 1) = out i ++ [y]) :
    ∃ acc, H4 D = some (.lst acc) ∧ acc.length < sizeLine ∧ (I (upd H4 D (.lst (acc ++ [y]))) ∧ (upd H4 D (.lst (acc ++ [y]))) D = some (.lst (out (i + 1)))) :=
  ⟨_, hD, hl, h, by rw [upd_same, e]⟩
theorem same_upd {H0 H : Hp} {D : Addr} {o : HO} (h : Same H0 H) (hD : H0 D = none) : Same H0 (upd H D o) := fun b u e => by
  rw [upd_ne (ne_of_none e hD)]
  exact h b u e
theorem take_more {α : Type} {l : List α} {i : Nat} {x : α} (h : l[i]? = some x) : l.take (i + 1) = l.take i ++ [x] := by
  rw [List.take_add_one, h]
  rfl
theorem cut_run {p : UInt8 → Bool} {B : VaskyBase.Bytes} {n : Nat} (h : n ≤ B.length) : cutV (byV B) (some (n : Int)) (some (runEnd p B n : Nat)) = byV ((B.drop n).takeWhile p) := by
  have h2 := runEnd_le (p := p) h
  unfold cutV
  rw [HT.sIx_nat, HT.sIx_nat, byV_len, Nat.min_eq_left h, Nat.min_eq_left h2]
  unfold byV runEnd
  rw [← List.map_drop, ← List.map_take, Nat.add_sub_cancel_left]
  congr 1
  exact (List.prefix_iff_eq_take.mp (List.takeWhile_prefix p)).symm
theorem sum_ones : ∀ W : VaskyBase.Bytes, (W.map ((·.length) ∘ fun u => strOf [u])).sum = W.length
  | [] => rfl
  | a :: r => by
    rw [List.map_cons, List.sum_cons, sum_ones r, List.length_cons]
    show 1 + _ = _
    omega
theorem joinL_nil : ∀ l : List (List Nat), TL.joinL [] l = l.flatten
  | [] => rfl
  | [p] => by simp [TL.joinL]
  | p :: q :: r => by
    show p ++ ([] ++ TL.joinL [] (q :: r)) = _
    rw [joinL_nil (q :: r)]
    rfl
theorem flat_ones : ∀ W : VaskyBase.Bytes, (W.map fun u => [u.toNat]).flatten = W.map UInt8.toNat
  | [] => rfl
  | a :: r => by
    rw [List.map_cons, List.flatten_cons, flat_ones r]
    rfl
theorem join_by (W : VaskyBase.Bytes) : Txt.join "" (W.map fun u => strOf [u]) = strOf W := by
  have h := SX.join_S [] (W.map fun u => [u.toNat])
  rw [joinL_nil] at h
  have e1 : (W.map fun u => strOf [u]) = (W.map fun u => [u.toNat]).map SX.S := by
    rw [List.map_map]
    rfl
  have e2 : (W.map fun u => [u.toNat]).flatten = W.map UInt8.toNat := flat_ones W
  rw [e1]
  rw [e2] at h
  exact h
theorem inV_words (b : VaskyBase.Bytes) : (inV (.str (strOf b)) [.str "measures", .str "up", .str "down", .str "item"] = true ∧ kS (kdOf (.name b)) = strOf b) ∨ (inV (.str (strOf b)) [.str "measures", .str "up", .str "down", .str "item"] = false ∧ kdOf (.name b) = .name) := by
  rcases Bw.kd_cases b with rfl | rfl | rfl | rfl | ⟨a1, a2, a3, a4⟩
  · exact .inl (by decide +kernel)
  · exact .inl (by decide +kernel)
  · exact .inl (by decide +kernel)
  · exact .inl (by decide +kernel)
  · refine .inr ⟨?_, Bw.k5 a1 a2 a3 a4⟩
    have e : ∀ (x : String) (s : Str), strOf (VaskyBase.word x) = s → b ≠ VaskyBase.word x → (s == strOf b) = false := fun x s h1 h2 => by
      rw [← h1]
      exact beq_false_of_ne fun z => h2 (strOf_inj z.symm)
    have b1 := e "measures" "measures" (by decide +kernel) a1
    have b2 := e "up" "up" (by decide +kernel) a2
    have b3 := e "down" "down" (by decide +kernel) a3
    have b4 := e "item" "item" (by decide +kernel) a4
    simp only [inV, List.any_cons, List.any_nil, eqV, b1, b2, b3, b4, Bool.or_false]
def sp_name_at (K : PySem.W.Frag) (A : Ads) : Sp := fun vs H Q E => ∃ (a : Addr) (B : VaskyBase.Bytes) (n : Nat), vs = [.ref a, .int (n : Int)] ∧ SqL K H a (byV B) ∧ n ≤ B.length ∧
  (16 < ((B.drop n).takeWhile nameB).length → FaultOut A H E 2 n) ∧
  (¬ 16 < ((B.drop n).takeWhile nameB).length → ∀ (p : Addr) (H' : Hp), H p = none → Same H H' → TokAt A H' p ⟨n, .name ((B.drop n).takeWhile nameB)⟩ → Q (.ref p) H')
theorem d_name_at (T : Tx K mg base A) : Def P w K mg base (L2.CX P w) 5 "name_at" ["text", "at"] (sp_name_at K A) := def_of T.t_name_at (fun _ _ _ _ _ _ us hl => match us, hl with | [_, _], _ => rfl) fun f fd F => by
  have nd := sc_name_at.nd
  have d_end_of_name := d_end_of_name (P := P) (w := w) T
  have d_Token := d_Token (P := P) (w := w) T
  have d_Fault := d_Fault (P := P) (w := w) T
  have d_sign_of := d_sign_of (P := P) (w := w) T
  refine F.okX sc_name_at (fun vs H Q E h => ?_) (fun cdv Ar outer s H vs Q E hr h => ⟨_, (pss_cons (ps_set (i := 2) nd rfl (Or.inl rfl) (pe_d d_end_of_name (hr.mono (by decide)) (pa_cons (pv 0) (pa_cons (pv 1) pa_nil))))
        (pss_cons (ps_if (pt_cmpR op_gt (pe_op op_sub (pv 2) (pv 1)) (pe_gi T.g_MOST_NAME) (nomark _)) (pss_one (ps_raise rfl (takes_of rfl rfl rfl rfl) (pmk_c d_Fault (hr.mono (by decide)) (pa_cons (pe_gi T.g_NO_TOKEN) (pa_cons (pv 1) pa_nil))))) pss_nil)
        (pss_cons (ps_set (i := 3) nd rfl (Or.inl rfl) (pe_bm PySem.F.plainAttrs_str PySem.F.slot_str_join PySem.F.type_str_join mt_join pe_str (pa_cons (pe_lc (own := [("byte", 4)]) (g := gName 4) (by rfl) nd (pi_list (pe_slice sl_list (pv 0) (po_some (pv 1)) (po_some (pv 2)))) (blkOk_by (own := [("byte", 4)]) (N := N_name_at) (sc := defScope s_name_at) (by decide +kernel)) (fun _ _ _ _ _ => (pg_name (i := 4) nd rfl (Or.inl rfl))) (fun _ _ _ _ _ => pts_nil) (fun _ _ _ _ _ => (pe_d d_sign_of (hr.mono (by decide)) (pa_cons (pv 4) pa_nil)))) pa_nil)))
        (pss_cons (ps_if (pt_cmpR op_in_seq (pv 3) (pe_gr T.g_WORDS) (by rfl)) (pss_one (ps_ret (pe_c d_Token (hr.mono (by decide)) (pa_cons (pv 3) (pa_cons (pv 3) (pa_cons (pv 1) pa_nil)))))) pss_nil)
        (pss_one (ps_ret (pe_c d_Token (hr.mono (by decide)) (pa_cons (pe_gs T.g_NAME) (pa_cons (pv 3) (pa_cons (pv 1) pa_nil)))))))))), ?_⟩)
  · obtain ⟨a, B, n, rfl, _⟩ := h
    rfl
  · obtain ⟨a, B, n, rfl, hB, hn, qE, q⟩ := h
    refine ⟨_, rfl, _, rfl, a, B, n, rfl, hB, ?_⟩
    have hlen : ((runEnd nameB B n : Nat) : Int) - (n : Int) = (((B.drop n).takeWhile nameB).length : Int) := by
      unfold runEnd
      omega
    refine ⟨_, rfl, _, rfl, _, _, rfl, rfl, _, _, rfl, rfl, _, rfl, ite2 (fun h1 => ?_) fun h1 => ?_⟩
    · rw [hlen] at h1
      exact ⟨_, rfl, mk_fault (qE (by simp at h1; omega))⟩
    · rw [hlen] at h1
      have hw : ¬ 16 < ((B.drop n).takeWhile nameB).length := by simp at h1; omega
      have q := q hw
      generalize hW : (B.drop n).takeWhile nameB = W at *
      refine ⟨rfl, _, rfl, _, rfl, _, rfl, _, rfl, _, rfl, a, _, rfl, hB, fun p hp => ?_⟩
      rw [cut_run hn, hW]
      have hWn : ∀ u ∈ W, nameB u = true := fun u hu => by
        rw [← hW] at hu
        exact List.all_eq_true.mp List.all_takeWhile u hu
      have hsz : W.length < sizeLine := Nat.lt_of_le_of_lt (show W.length ≤ 16 by omega) (by decide)
      refine ⟨p, rfl, ⟨_, SqL.of upd_same⟩, fun D hD => lc_list (K := K) (a := p) (xs := byV W) (fun i H' => Same (upd H p (.lst (byV W))) H' ∧ H' D = some (.lst ((W.take i).map fun u => V.str (strOf [u])))) ⟨same_upd (Same.refl _) hD, upd_same⟩ (fun i H' _ z => z.1.seq (SqL.of upd_same)) ?_ ?_⟩
      · rintro i x H' hx ⟨hS, hDD⟩
        obtain ⟨u, hu, rfl⟩ : ∃ u, W[i]? = some u ∧ V.int (u.toNat : Int) = x := by
          unfold byV at hx
          rw [List.getElem?_map] at hx
          cases e : W[i]? with
          | none => rw [e] at hx; cases hx
          | some u => rw [e] at hx; exact ⟨u, rfl, Option.some.inj hx⟩
        have hi := (List.getElem?_eq_some_iff.mp hu).1
        refine ⟨rfl, _, rfl, u, rfl, hWn u (List.mem_of_getElem? hu), _, hDD, ?_, same_upd hS hD, ?_⟩
        · rw [List.length_map, List.length_take]
          omega
        · rw [upd_same, take_more hu, List.map_append]
          rfl
      · rintro H' ⟨hS, hDD⟩
        have hlen : (byV W).length = W.length := byV_len W
        rw [hlen, List.take_length] at hDD
        refine ⟨_, D, W.map fun u => strOf [u], rfl, rfl, .inl ?_, ?_, ?_⟩
        · rw [List.map_map]
          exact SqL.of hDD
        · have : ((W.map fun u => strOf [u]).map (·.length)).sum + (W.map fun u => strOf [u]).length * ("" : Str).length = W.length := by
            have e0 : ("" : Str).length = 0 := rfl
            rw [List.map_map, e0, Nat.mul_zero, Nat.add_zero]
            exact sum_ones W
          rw [this]
          omega
        · rw [join_by]
          have tok : ∀ (kd : Str) (p : Addr) (dx : Addr) (H2 : Hp), kS (kdOf (.name W)) = kd → H' p = none → Same H' H2 → H2 p = some (.ins A.cToken dx [("kind", .str kd), ("told", .str (strOf W)), ("place", .int (n : Int))]) → Q (.ref p) H2 := fun kd p' dx H2 e hp' hS2 h2 => by
            have hS0 : Same H H' := fun b o e => hS b o (by rw [upd_ne (ne_of_none e hp)]; exact e)
            refine q p' H2 (hS0.free hp') (hS0.trans hS2) ⟨dx, ?_⟩
            rw [h2]
            unfold tokF toldV
            rw [e]
          refine ⟨_, rfl, A.aWORDS, _, rfl, .inr (T.v_WORDS _), rfl, rfl, _, rfl, ?_⟩
          rcases inV_words W with ⟨e1, e2⟩ | ⟨e1, e2⟩
          · rw [e1]
            exact iteT ⟨_, rfl, _, rfl, _, rfl, mk_tok (K := K) fun p' dx H2 h1 h2 h3 => tok _ p' dx H2 e2 h1 h2 h3⟩
          · rw [e1]
            exact iteF ⟨_, rfl, _, rfl, mk_tok (K := K) fun p' dx H2 h1 h2 h3 => tok _ p' dx H2 (by rw [e2]; rfl) h1 h2 h3⟩
end
end BwW
end

section
set_option Elab.async false
set_option linter.all false
set_option maxRecDepth 100000
set_option maxHeartbeats 2000000
namespace BwW
open PySem PySem.Spec PyProof.Rows L2 BwK
open Bw (Kd kdOf okTok)
section
variable {P : Program} {w : World} {K : PySem.W.Frag} {mg : Str → Option Value} {base : Heap} {A : Ads}
theorem tAnd_val {T1 T2 : TT} {σ : L2.St} {H : Hp} {Q : Bool → Hp → Prop} (d1 d2 : Bool) (h1 : ∀ Q' : Bool → Hp → Prop, Q' d1 H → T1 σ H Q') (h2 : d1 = true → ∀ Q' : Bool → Hp → Prop, Q' d2 H → T2 σ H Q') (q : Q (d1 && d2) H) : tAnd T1 T2 σ H Q := by
  refine h1 _ ?_
  cases d1 with
  | true => exact iteT (h2 rfl _ q)
  | false => exact iteF q
theorem tOr_val {T1 T2 : TT} {σ : L2.St} {H : Hp} {Q : Bool → Hp → Prop} (d1 d2 : Bool) (h1 : ∀ Q' : Bool → Hp → Prop, Q' d1 H → T1 σ H Q') (h2 : d1 = false → ∀ Q' : Bool → Hp → Prop, Q' d2 H → T2 σ H Q') (q : Q (d1 || d2) H) : tOr T1 T2 σ H Q := by
  refine h1 _ ?_
  cases d1 with
  | true => exact iteT q
  | false => exact iteF (h2 rfl _ q)
theorem seq_or {T1 T2 : TT} {a b r : TS} {D : Ends} {σ : L2.St} {H : Hp} (d1 d2 : Bool) (h1 : ∀ Q' : Bool → Hp → Prop, Q' d1 H → T1 σ H Q') (h2 : d1 = false → ∀ Q' : Bool → Hp → Prop, Q' d2 H → T2 σ H Q')
    (q : if (d1 || d2) = true then a { D with nx := r D } σ H else b { D with nx := r D } σ H) : tSeq (tIfS (tOr T1 T2) a b) r D σ H := tOr_val (Q := fun b' H1 => if b' = true then a { D with nx := r D } σ H1 else b { D with nx := r D } σ H1) d1 d2 h1 h2 q
theorem seq_and {T1 T2 : TT} {a b r : TS} {D : Ends} {σ : L2.St} {H : Hp} (d1 d2 : Bool) (h1 : ∀ Q' : Bool → Hp → Prop, Q' d1 H → T1 σ H Q') (h2 : d1 = true → ∀ Q' : Bool → Hp → Prop, Q' d2 H → T2 σ H Q')
    (q : if (d1 && d2) = true then a { D with nx := r D } σ H else b { D with nx := r D } σ H) : tSeq (tIfS (tAnd T1 T2) a b) r D σ H := tAnd_val (Q := fun b' H1 => if b' = true then a { D with nx := r D } σ H1 else b { D with nx := r D } σ H1) d1 d2 h1 h2 q
theorem dec_byte (u : UInt8) (v : UInt8) : decide (V.int (u.toNat : Int) = V.int (v.toNat : Int)) = (u == v) := by
  rw [Bool.eq_iff_iff, decide_eq_true_eq, beq_iff_eq]
  constructor
  · intro e
    exact UInt8.toNat_inj.mp (by injection e with e; exact_mod_cast e)
  · rintro rfl
    rfl
theorem decimal_snoc (l : VaskyBase.Bytes) (u : UInt8) : VaskyBase.decimal (l ++ [u]) = 10 * VaskyBase.decimal l + (u.toNat - 48) := by
  unfold VaskyBase.decimal
  rw [List.foldl_append]
  rfl
theorem byV_mem {W : VaskyBase.Bytes} {i : Nat} {x : V} (h : (byV W)[i]? = some x) : ∃ u, W[i]? = some u ∧ V.int (u.toNat : Int) = x := by
  unfold byV at h
  rw [List.getElem?_map] at h
  cases e : W[i]? with
  | none => rw [e] at h; cases h
  | some u => rw [e] at h; exact ⟨u, rfl, Option.some.inj h⟩
def sp_number_at (K : PySem.W.Frag) (A : Ads) : Sp := fun vs H Q E => ∃ (a : Addr) (B : VaskyBase.Bytes) (n : Nat) (u : UInt8), vs = [.ref a, .int (n : Int)] ∧ SqL K H a (byV B) ∧ B[n]? = some u ∧ VaskyBase.isDigit u = true ∧
  (VaskyBase.numberOf ((B.drop n).takeWhile VaskyBase.isDigit) = none → FaultOut A H E 2 n) ∧
  (∀ v, VaskyBase.numberOf ((B.drop n).takeWhile VaskyBase.isDigit) = some v → ∀ (p : Addr) (H' : Hp), H p = none → Same H H' → TokAt A H' p ⟨n, .num v⟩ → Q (.ref p) H')
theorem d_number_at (T : Tx K mg base A) : Def P w K mg base (L2.CX P w) 5 "number_at" ["text", "at"] (sp_number_at K A) := def_of T.t_number_at (fun _ _ _ _ _ _ us hl => match us, hl with | [_, _], _ => rfl) fun f fd F => by
  have nd := sc_number_at.nd
  have d_end_of_number := d_end_of_number (P := P) (w := w) T
  have d_Token := d_Token (P := P) (w := w) T
  have d_Fault := d_Fault (P := P) (w := w) T
  refine F.okX sc_number_at (fun vs H Q E h => ?_) (fun cdv Ar outer s H vs Q E hr h => ⟨_, (pss_cons (ps_set (i := 2) nd rfl (Or.inl rfl) (pe_d d_end_of_number (hr.mono (by decide)) (pa_cons (pv 0) (pa_cons (pv 1) pa_nil))))
        (pss_cons (ps_if (PW.pt (pw_or (pt_cmpR op_gt (pe_op op_sub (pv 2) (pv 1)) (pe_gi T.g_MOST_FIGURES) (nomark _)) (pw_or1 (PW.pt (pw_and (pt_cmpR op_eq (pe_ix ix_list (pv 0) (pv 1) (fun _ _ => rfl)) (pe_gi T.g_NOUGHT) (nomark _)) (pw_and1 (pt_cmpR op_gt (pe_op op_sub (pv 2) (pv 1)) pe_int (nomark _)))))))) (pss_one (ps_raise rfl (takes_of rfl rfl rfl rfl) (pmk_c d_Fault (hr.mono (by decide)) (pa_cons (pe_gi T.g_NO_TOKEN) (pa_cons (pv 1) pa_nil))))) pss_nil)
        (pss_cons (ps_set (i := 3) nd rfl (Or.inl rfl) pe_int)
        (pss_cons (ps_for (passes_of rfl) rfl (pi_list (pe_slice sl_list (pv 0) (po_some (pv 1)) (po_some (pv 2)))) (pg_name (i := 4) nd rfl (Or.inl rfl)) (pss_one (ps_set (i := 3) nd rfl (Or.inl rfl) (pe_op op_sub (pe_op op_add (pe_op op_mul pe_int (pv 3)) (pv 4)) (pe_gi T.g_NOUGHT)))))
        (pss_cons (ps_if (pt_cmpR op_gt (pv 3) (pe_gi T.g_MOST_NUMBER) (nomark _)) (pss_one (ps_raise rfl (takes_of rfl rfl rfl rfl) (pmk_c d_Fault (hr.mono (by decide)) (pa_cons (pe_gi T.g_NO_TOKEN) (pa_cons (pv 1) pa_nil))))) pss_nil)
        (pss_one (ps_ret (pe_c d_Token (hr.mono (by decide)) (pa_cons (pe_gs T.g_NUMBER) (pa_cons (pv 3) (pa_cons (pv 1) pa_nil))))))))))), ?_⟩)
  · obtain ⟨a, B, n, u, rfl, _⟩ := h
    rfl
  · obtain ⟨a, B, n, u, rfl, hB, hu, hd, qE, q⟩ := h
    have hn1 := (List.getElem?_eq_some_iff.mp hu).1
    have hn : n ≤ B.length := Nat.le_of_lt hn1
    have hcut := cut_run (p := VaskyBase.isDigit) hn
    have hlen : ((runEnd VaskyBase.isDigit B n : Nat) : Int) - (n : Int) = (((B.drop n).takeWhile VaskyBase.isDigit).length : Int) := by
      unfold runEnd
      omega
    have hWd : ∀ x ∈ (B.drop n).takeWhile VaskyBase.isDigit, VaskyBase.isDigit x = true := fun x hx => List.all_eq_true.mp List.all_takeWhile x hx
    have hW0 : ∃ r, (B.drop n).takeWhile VaskyBase.isDigit = u :: r := by
      rw [List.drop_eq_getElem_cons hn1, (List.getElem?_eq_some_iff.mp hu).2, List.takeWhile_cons_of_pos hd]
      exact ⟨_, rfl⟩
    refine ⟨_, rfl, _, rfl, a, B, n, rfl, hB, ?_⟩
    generalize (B.drop n).takeWhile VaskyBase.isDigit = W at *
    obtain ⟨r, hr0⟩ := hW0
    have hno : VaskyBase.numberOf W = if 10 < W.length ∨ (1 < W.length ∧ u = 48) ∨ 1000000000 < VaskyBase.decimal W then none else some (VaskyBase.decimal W) := by
      rw [hr0]
      unfold VaskyBase.numberOf VaskyBase.NUMBER
      simp
    have bad : (10 < W.length ∨ (1 < W.length ∧ u = 48) ∨ 1000000000 < VaskyBase.decimal W) → FaultOut A H E 2 n := fun z => qE (by rw [hno, if_pos z])
    dsimp only [gName]
    refine seq_or (decide ((10 : Int) < (W.length : Int))) (decide (1 < W.length ∧ u = 48)) (fun Q' q' => ⟨_, rfl, _, rfl, _, _, rfl, rfl, _, _, rfl, rfl, _, rfl, by rw [hlen]; exact q'⟩) (fun _ Q' q' => tAnd_val (u == 48) (decide ((1 : Int) < (W.length : Int)))
      (fun Q' q' => ⟨_, rfl, _, rfl, a, _, _, _, rfl, rfl, hB, atI_nat (byV_at hu), rfl, _, rfl, by rw [show decide (V.int (u.toNat : Int) = V.int 48) = (u == 48) from dec_byte u 48]; exact q'⟩)
      (fun _ Q' q' => ⟨_, rfl, _, rfl, _, _, rfl, rfl, _, _, rfl, rfl, _, rfl, by rw [hlen]; exact q'⟩) ?_) ?_
    · have e : ((u == 48) && decide ((1 : Int) < (W.length : Int))) = decide (1 < W.length ∧ u = 48) := by
        rw [Bool.eq_iff_iff]
        simp only [Bool.and_eq_true, beq_iff_eq, decide_eq_true_eq]
        exact ⟨fun z => ⟨by omega, z.1⟩, fun z => ⟨z.2, by omega⟩⟩
      rw [e]
      exact q'
    refine ite2 (fun h1 => ?_) fun h1 => ?_
    · simp only [Bool.or_eq_true, decide_eq_true_eq] at h1
      exact ⟨_, rfl, mk_fault (bad (h1.elim (fun z => .inl (by omega)) fun z => .inr (.inl z)))⟩
    · simp only [Bool.or_eq_true, decide_eq_true_eq] at h1
      have hc : ¬ (1 < W.length ∧ u = 48) := fun z => h1 (.inr z)
      refine ⟨_, rfl, _, rfl, _, rfl, _, rfl, _, rfl, a, _, rfl, hB, fun p hp => ?_⟩
      rw [hcut]
      have hS0 : Same H (upd H p (.lst (byV W))) := same_upd (Same.refl _) hp
      refine ⟨p, rfl, ⟨_, SqL.of upd_same⟩, for_list (K := K) (a := p) (xs := byV W) (fun i σ H' => H' = upd H p (.lst (byV W)) ∧ ∃ y, σ = [some (.ref a), some (.int (n : Int)), some (.int (runEnd VaskyBase.isDigit B n : Nat)), some (.int (VaskyBase.decimal (W.take i) : Nat)), y])
        ⟨rfl, none, rfl⟩ (fun i σ H' _ z => by rw [z.1]; exact SqL.of upd_same) ?_ ?_⟩
      · rintro i x σ H' hx ⟨rfl, y, rfl⟩
        obtain ⟨v, hv, rfl⟩ := byV_mem hx
        have hvd := of_decide_eq_true (hWd v (List.mem_of_getElem? hv))
        refine ⟨_, rfl, 10, _, rfl, rfl, .inl ⟨by decide, by decide⟩, _, rfl, _, _, rfl, rfl, _, _, rfl, rfl, rfl, some (.int (v.toNat : Int)), ?_⟩
        rw [take_more hv, decimal_snoc]
        have e : (10 * (VaskyBase.decimal (W.take i) : Int) + (v.toNat : Int) - 48) = ((10 * VaskyBase.decimal (W.take i) + (v.toNat - 48) : Nat) : Int) := by omega
        rw [← e]
        rfl
      · rintro σ H' ⟨rfl, y, rfl⟩
        have e : W.take (byV W).length = W := by
          rw [byV_len]
          exact List.take_length
        rw [e]
        refine ⟨_, rfl, _, _, rfl, rfl, _, rfl, ite2 (fun h3 => ?_) fun h3 => ?_⟩
        · simp only [decide_eq_true_eq] at h3
          have h3' : 1000000000 < VaskyBase.decimal W := by omega
          refine ⟨_, rfl, mk_fault fun d H' h1 h2 h3 => bad (.inr (.inr h3')) d H' ?_ (hS0.trans h2) h3⟩
          exact hS0.free h1
        · simp only [decide_eq_true_eq] at h3
          have ev : VaskyBase.numberOf W = some (VaskyBase.decimal W) := by
            rw [hno, if_neg]
            rintro (z | z | z)
            · exact h1 (.inl (by omega))
            · exact hc z
            · omega
          exact ⟨_, rfl, _, rfl, mk_tok (K := K) fun p' dx H2 h1 h2 h3 => q _ ev p' H2 (hS0.free h1) (hS0.trans h2) ⟨dx, h3⟩⟩
end
end BwW
end

section
set_option Elab.async false
set_option linter.all false
set_option maxRecDepth 100000
set_option maxHeartbeats 2000000
namespace BwW
open PySem PySem.Spec PyProof.Rows L2 BwK
open Bw (Kd kdOf okTok)
section
variable {P : Program} {w : World} {K : PySem.W.Frag} {mg : Str → Option Value} {base : Heap} {A : Ads}
theorem drop_at {B : VaskyBase.Bytes} {n : Nat} {u : UInt8} (h : B[n]? = some u) : B.drop n = u :: B.drop (n + 1) := by
  obtain ⟨h1, h2⟩ := List.getElem?_eq_some_iff.mp h
  rw [List.drop_eq_getElem_cons h1, h2]
theorem signF_is (u : UInt8) : (VaskyBase.SIGNS.contains u = true ∧ signF (u.toNat : Int) = some (.str (kS (kdOf (.sign u.toNat))))) ∨ (VaskyBase.SIGNS.contains u = false ∧ signF (u.toNat : Int) = none) := by
  by_cases h1 : u = 44
  · subst h1; exact .inl (by decide +kernel)
  · by_cases h2 : u = 58
    · subst h2; exact .inl (by decide +kernel)
    · by_cases h3 : u = 59
      · subst h3; exact .inl (by decide +kernel)
      · by_cases h4 : u = 45
        · subst h4; exact .inl (by decide +kernel)
        · refine .inr ⟨?_, ?_⟩
          · unfold VaskyBase.SIGNS
            simp [List.contains_cons, h1, h2, h3, h4]
          · have e : ∀ v : UInt8, u ≠ v → ¬ ((u.toNat : Int) = (v.toNat : Int)) := fun v hv z => hv (UInt8.toNat_inj.mp (by exact_mod_cast z))
            have e1 : ¬ ((u.toNat : Int) = 44) := e 44 h1
            have e2 : ¬ ((u.toNat : Int) = 58) := e 58 h2
            have e3 : ¬ ((u.toNat : Int) = 59) := e 59 h3
            have e4 : ¬ ((u.toNat : Int) = 45) := e 45 h4
            unfold signF
            rw [if_neg e1, if_neg e2, if_neg e3, if_neg e4]
def sp_token_at (K : PySem.W.Frag) (A : Ads) : Sp := fun vs H Q E => ∃ (a : Addr) (B : VaskyBase.Bytes) (n : Nat) (u : UInt8), vs = [.ref a, .int (n : Int)] ∧ SqL K H a (byV B) ∧ B[n]? = some u ∧
  (VaskyBase.token (B.drop n) = none → FaultOut A H E 2 n) ∧
  (∀ t l, VaskyBase.token (B.drop n) = some (t, l) → ∀ (p : Addr) (H' : Hp), H p = none → Same H H' → TokAt A H' p ⟨n, t⟩ → Q (.ref p) H')
theorem d_token_at (T : Tx K mg base A) : Def P w K mg base (L2.CX P w) 6 "token_at" ["text", "at"] (sp_token_at K A) := def_of T.t_token_at (fun _ _ _ _ _ _ us hl => match us, hl with | [_, _], _ => rfl) fun f fd F => by
  have nd := sc_token_at.nd
  have d_is_letter := d_is_letter (P := P) (w := w) T
  have d_is_figure := d_is_figure (P := P) (w := w) T
  have d_Token := d_Token (P := P) (w := w) T
  have d_name_at := d_name_at (P := P) (w := w) T
  have d_number_at := d_number_at (P := P) (w := w) T
  have d_Fault := d_Fault (P := P) (w := w) T
  refine F.okX sc_token_at (fun vs H Q E h => ?_) (fun cdv Ar outer s H vs Q E hr h => ⟨_, (pss_cons (ps_set (i := 2) nd rfl (Or.inl rfl) (pe_ix ix_list (pv 0) (pv 1) (fun _ _ => rfl)))
        (pss_cons (ps_if (pt_val (pe_d d_is_letter (hr.mono (by decide)) (pa_cons (pv 2) pa_nil))) (pss_one (ps_ret (pe_dX d_name_at (hr.mono (by decide)) (takes_of rfl rfl rfl rfl) (pa_cons (pv 0) (pa_cons (pv 1) pa_nil))))) pss_nil)
        (pss_cons (ps_if (pt_val (pe_d d_is_figure (hr.mono (by decide)) (pa_cons (pv 2) pa_nil))) (pss_one (ps_ret (pe_dX d_number_at (hr.mono (by decide)) (takes_of rfl rfl rfl rfl) (pa_cons (pv 0) (pa_cons (pv 1) pa_nil))))) pss_nil)
        (pss_cons (ps_if (pt_cmpR op_notIn_idct (pv 2) (pe_gr T.g_SIGNS) (by rfl)) (pss_one (ps_raise rfl (takes_of rfl rfl rfl rfl) (pmk_c d_Fault (hr.mono (by decide)) (pa_cons (pe_gi T.g_NO_TOKEN) (pa_cons (pv 1) pa_nil))))) pss_nil)
        (pss_one (ps_ret (pe_c d_Token (hr.mono (by decide)) (pa_cons (pe_ix ix_idct (pe_gr T.g_SIGNS) (pv 2) (fun _ _ => rfl)) (pa_cons (pe_ix ix_idct (pe_gr T.g_SIGNS) (pv 2) (fun _ _ => rfl)) (pa_cons (pv 1) pa_nil)))))))))), ?_⟩)
  · obtain ⟨a, B, n, u, rfl, _⟩ := h
    rfl
  · obtain ⟨a, B, n, u, rfl, hB, hu, qE, q⟩ := h
    have hn1 := (List.getElem?_eq_some_iff.mp hu).1
    have hd := drop_at hu
    have htk : VaskyBase.token (B.drop n) = if VaskyBase.isLetter u = true then (if 16 < ((B.drop n).takeWhile nameB).length then none else some (.name ((B.drop n).takeWhile nameB), ((B.drop n).takeWhile nameB).length))
        else if VaskyBase.isDigit u = true then (VaskyBase.numberOf ((B.drop n).takeWhile VaskyBase.isDigit)).map fun m => (.num m, ((B.drop n).takeWhile VaskyBase.isDigit).length)
        else if VaskyBase.SIGNS.contains u = true then some (.sign u.toNat, 1) else none := by
      rw [hd]
      rfl
    refine ⟨_, rfl, _, rfl, a, _, _, _, rfl, rfl, hB, atI_nat (byV_at hu), ?_⟩
    refine ⟨_, rfl, u, rfl, _, rfl, ite2 (fun h1 => ?_) fun h1 => ⟨_, rfl, u, rfl, _, rfl, ite2 (fun h2 => ?_) fun h2 => ?_⟩⟩
    · rw [if_pos h1] at htk
      refine ⟨_, rfl, _, rfl, a, B, n, rfl, hB, Nat.le_of_lt hn1, fun z => qE (by rw [htk, if_pos z]), fun z p H' h1 h2 h3 => q _ _ (by rw [htk, if_neg z]) p H' h1 h2 h3⟩
    · rw [if_neg h1, if_pos h2] at htk
      exact ⟨_, rfl, _, rfl, a, B, n, u, rfl, hB, hu, h2, fun z => qE (by rw [htk, z]; rfl), fun v z p H' h1 h2 h3 => q _ _ (by rw [htk, z]; rfl) p H' h1 h2 h3⟩
    · rw [if_neg h1, if_neg h2] at htk
      rcases signF_is u with ⟨c1, c2⟩ | ⟨c1, c2⟩
      · rw [if_pos c1] at htk
        refine ⟨_, rfl, A.aSIGNS, _, signF, rfl, rfl, T.v_SIGNS, _, rfl, ?_⟩
        rw [c2]
        refine iteF ⟨_, rfl, A.aSIGNS, _, signF, _, rfl, rfl, T.v_SIGNS, c2, _, rfl, A.aSIGNS, _, signF, _, rfl, rfl, T.v_SIGNS, c2, _, rfl, mk_tok (K := K) fun p' dx H2 h1 h2 h3 => q _ _ htk p' H2 h1 h2 ⟨dx, h3⟩⟩
      · rw [if_neg (by rw [c1]; exact Bool.false_ne_true)] at htk
        refine ⟨_, rfl, A.aSIGNS, _, signF, rfl, rfl, T.v_SIGNS, _, rfl, ?_⟩
        rw [c2]
        exact iteT ⟨_, rfl, mk_fault (qE htk)⟩
theorem dec_kS (k j : Kd) : decide (V.str (kS k) = V.str (kS j)) = decide (k = j) := by
  rw [Bool.eq_iff_iff, decide_eq_true_eq, decide_eq_true_eq]
  exact ⟨fun h => kS_inj k j (by injection h), fun h => by rw [h]⟩
theorem inV_kd (k : Kd) : inV (.str (kS k)) [.str "measures", .str "up", .str "down", .str "item"] = decide (k = .measures ∨ k = .up ∨ k = .down ∨ k = .item) := by
  cases k <;> decide +kernel
def behindM (B : VaskyBase.Bytes) (t : VaskyBase.PTok) : Nat := match t.tok with
  | .name _ => runEnd nameB B t.place
  | .num _ => runEnd VaskyBase.isDigit B t.place
  | _ => t.place + 1
theorem tokF_kind (t : VaskyBase.PTok) : (tokF t).lookup ("kind" : Str) = some (.str (kS (kdOf t.tok))) := lk_here
theorem tokF_told (t : VaskyBase.PTok) : (tokF t).lookup ("told" : Str) = some (toldV t.tok) := (lk_past (by decide +kernel)).trans lk_here
theorem tokF_place (t : VaskyBase.PTok) : (tokF t).lookup ("place" : Str) = some (.int (t.place : Int)) := (lk_past (by decide +kernel)).trans ((lk_past (by decide +kernel)).trans lk_here)
def sp_behind_token (K : PySem.W.Frag) (A : Ads) : Sp := fun vs H Q _ => ∃ (a : Addr) (B : VaskyBase.Bytes) (p : Addr) (t : VaskyBase.PTok), vs = [.ref a, .ref p] ∧ SqL K H a (byV B) ∧ TokAt A H p t ∧ okTok t.tok = true ∧ t.tok ≠ .last ∧ Q (.int (behindM B t : Nat)) H
theorem d_behind_token (T : Tx K mg base A) : Def P w K mg base CX0 3 "behind_token" ["text", "token"] (sp_behind_token K A) := def_of T.t_behind_token (fun _ _ _ _ _ _ us hl => match us, hl with | [_, _], _ => rfl) fun f fd F => by
  have nd := sc_behind_token.nd
  have d_end_of_number := d_end_of_number (P := P) (w := w) T
  have d_end_of_name := d_end_of_name (P := P) (w := w) T
  refine F.ok sc_behind_token (fun vs H Q E h => ?_) (fun cdv Ar outer s H vs Q E hr h => ⟨_, (pss_cons (ps_if (pt_cmpR op_eq (pe_fld (pv 1) rfl) (pe_gs T.g_NUMBER) (nomark _)) (pss_one (ps_ret (pe_d d_end_of_number (hr.mono (by decide)) (pa_cons (pv 0) (pa_cons (pe_fld (pv 1) rfl) pa_nil))))) pss_nil)
        (pss_cons (ps_if (PW.pt (pw_or (pt_cmpR op_eq (pe_fld (pv 1) rfl) (pe_gs T.g_NAME) (nomark _)) (pw_or1 (pt_cmpR op_in_seq (pe_fld (pv 1) rfl) (pe_gr T.g_WORDS) (by rfl))))) (pss_one (ps_ret (pe_d d_end_of_name (hr.mono (by decide)) (pa_cons (pv 0) (pa_cons (pe_fld (pv 1) rfl) pa_nil))))) pss_nil)
        (pss_one (ps_ret (pe_op op_add (pe_fld (pv 1) rfl) pe_int))))), ?_⟩)
  · obtain ⟨a, B, p, t, rfl, _⟩ := h
    rfl
  · obtain ⟨a, B, p, t, rfl, hB, ⟨dx, hp⟩, ok, hl, q⟩ := h
    have C := T.k_Token.cl
    have n1 := T.k_Token.no "kind" (by simp)
    have n3 := T.k_Token.no "place" (by simp)
    refine ⟨_, rfl, p, _, dx, _, _, rfl, hp, C, n1, tokF_kind t, rfl, _, rfl, ?_⟩
    rw [show decide (V.str (kS (kdOf t.tok)) = V.str "a number") = decide (kdOf t.tok = .number) from dec_kS (kdOf t.tok) .number]
    have hk := Bw.kd_number ok
    refine ite2 (fun h1 => ?_) fun h1 => ?_
    · obtain ⟨m, e⟩ := hk.mp (of_decide_eq_true h1)
      have eb : behindM B t = runEnd VaskyBase.isDigit B t.place := by unfold behindM; rw [e]
      rw [eb] at q
      exact ⟨_, rfl, _, rfl, p, _, dx, _, _, rfl, hp, C, n3, tokF_place t, a, B, t.place, rfl, hB, q⟩
    · have nn : ∀ m, t.tok ≠ .num m := fun m z => h1 (decide_eq_true (hk.mpr ⟨m, z⟩))
      dsimp only [tNext]
      refine seq_or (decide (kdOf t.tok = .name)) (decide (kdOf t.tok = .measures ∨ kdOf t.tok = .up ∨ kdOf t.tok = .down ∨ kdOf t.tok = .item))
        (fun Q' q' => ⟨_, rfl, p, _, dx, _, _, rfl, hp, C, n1, tokF_kind t, rfl, _, rfl, by rw [show decide (V.str (kS (kdOf t.tok)) = V.str "a name") = decide (kdOf t.tok = .name) from dec_kS (kdOf t.tok) .name]; exact q'⟩)
        (fun _ Q' q' => ⟨_, rfl, p, _, dx, _, _, rfl, hp, C, n1, tokF_kind t, A.aWORDS, _, rfl, .inr (T.v_WORDS _), rfl, rfl, _, rfl, by rw [if_neg Bool.false_ne_true, inV_kd]; exact q'⟩) ?_
      refine ite2 (fun h2 => ?_) fun h2 => ?_
      · have e : ∃ b, t.tok = .name b := by
          simp only [Bool.or_eq_true, decide_eq_true_eq] at h2
          cases ht : t.tok with
          | name b => exact ⟨b, rfl⟩
          | num m => exact absurd ht (nn m)
          | sign c =>
            rw [ht] at h2 ok
            have h' : c = 44 ∨ c = 58 ∨ c = 59 ∨ c = 45 := of_decide_eq_true ok
            rcases h' with rfl | rfl | rfl | rfl <;> simp [kdOf] at h2
          | last => exact absurd ht hl
        obtain ⟨b, e⟩ := e
        have eb : behindM B t = runEnd nameB B t.place := by unfold behindM; rw [e]
        rw [eb] at q
        exact ⟨_, rfl, _, rfl, p, _, dx, _, _, rfl, hp, C, n3, tokF_place t, a, B, t.place, rfl, hB, q⟩
      · have eb : behindM B t = t.place + 1 := by
          unfold behindM
          cases ht : t.tok with
          | name b =>
            exfalso
            apply h2
            rw [ht]
            rcases Bw.kd_cases b with rfl | rfl | rfl | rfl | ⟨a1, a2, a3, a4⟩
            · decide +kernel
            · decide +kernel
            · decide +kernel
            · decide +kernel
            · rw [Bw.k5 a1 a2 a3 a4]
              decide +kernel
          | num m => exact absurd ht (nn m)
          | sign c => rfl
          | last => exact absurd ht hl
        rw [eb] at q
        exact ⟨_, rfl, p, _, dx, _, _, rfl, hp, C, n3, tokF_place t, _, _, rfl, rfl, q⟩
end
end BwW
end

section
set_option Elab.async false
set_option linter.all false
set_option maxRecDepth 100000
set_option maxHeartbeats 2000000
namespace BwW
open PySem PySem.Spec PyProof.Rows L2 BwK
open Bw (Kd kdOf okTok)
section
variable {P : Program} {w : World} {K : PySem.W.Frag} {mg : Str → Option Value} {base : Heap} {A : Ads}
/-! ### the tokens of a text, plainly -/
theorem lex_nil (n m : Nat) : VaskyBase.lex (n + 1) m [] = .ok [⟨m, .last⟩] := rfl
theorem lex_blank {n m : Nat} {u : UInt8} {r : VaskyBase.Bytes} (h : VaskyBase.isBlank u = true) : VaskyBase.lex (n + 1) m (u :: r) = VaskyBase.lex n (m + 1) r := by
  show (if VaskyBase.isBlank u = true then _ else _) = _
  rw [if_pos h]
theorem lex_remark {n m : Nat} {u : UInt8} {r : VaskyBase.Bytes} (h : VaskyBase.isBlank u = false) (h2 : (u == 35) = true) : VaskyBase.lex (n + 1) m (u :: r) = VaskyBase.lex n (m + 1 + (r.takeWhile (· != 10)).length) (r.dropWhile (· != 10)) := by
  show (if VaskyBase.isBlank u = true then _ else if (u == 35) = true then _ else _) = _
  rw [if_neg (by rw [h]; exact Bool.false_ne_true), if_pos h2]
theorem lex_token {n m : Nat} {u : UInt8} {r : VaskyBase.Bytes} (h : VaskyBase.isBlank u = false) (h2 : (u == 35) = false) : VaskyBase.lex (n + 1) m (u :: r) = match VaskyBase.token (u :: r) with
    | none => .error ⟨2, m⟩
    | some x => (VaskyBase.lex n (m + x.2) ((u :: r).drop x.2)).map fun l => ⟨m, x.1⟩ :: l := by
  show (if VaskyBase.isBlank u = true then _ else if (u == 35) = true then _ else _) = _
  rw [if_neg (by rw [h]; exact Bool.false_ne_true), if_neg (by rw [h2]; exact Bool.false_ne_true)]
  cases VaskyBase.token (u :: r) <;> rfl
theorem token_ok {u : UInt8} {r : VaskyBase.Bytes} {t : VaskyBase.Tok} {l : Nat} (h : VaskyBase.token (u :: r) = some (t, l)) : okTok t = true ∧ t ≠ .last ∧ 0 < l := by
  have e : VaskyBase.token (u :: r) = if VaskyBase.isLetter u = true then (if 16 < ((u :: r).takeWhile nameB).length then none else some (.name ((u :: r).takeWhile nameB), ((u :: r).takeWhile nameB).length))
        else if VaskyBase.isDigit u = true then (VaskyBase.numberOf ((u :: r).takeWhile VaskyBase.isDigit)).map fun m => (.num m, ((u :: r).takeWhile VaskyBase.isDigit).length)
        else if VaskyBase.SIGNS.contains u = true then some (.sign u.toNat, 1) else none := rfl
  rw [e] at h
  by_cases h1 : VaskyBase.isLetter u = true
  · rw [if_pos h1] at h
    split at h
    · cases h
    · cases h
      have hp : nameB u = true := by show (_ || _) = true; rw [h1]; rfl
      exact ⟨rfl, by simp, by rw [List.takeWhile_cons_of_pos hp]; simp⟩
  · rw [if_neg h1] at h
    by_cases h2 : VaskyBase.isDigit u = true
    · rw [if_pos h2] at h
      cases e2 : VaskyBase.numberOf ((u :: r).takeWhile VaskyBase.isDigit) with
      | none => rw [e2] at h; cases h
      | some m =>
        rw [e2] at h
        cases h
        exact ⟨rfl, by simp, by rw [List.takeWhile_cons_of_pos h2]; simp⟩
    · rw [if_neg h2] at h
      split at h
      · rename_i h3
        cases h
        refine ⟨?_, by simp, Nat.one_pos⟩
        have h4 : u = 44 ∨ u = 58 ∨ u = 59 ∨ u = 45 := by simpa [VaskyBase.SIGNS] using h3
        rcases h4 with rfl | rfl | rfl | rfl <;> decide +kernel
      · cases h
theorem behind_is {B : VaskyBase.Bytes} {m : Nat} {u : UInt8} {t : VaskyBase.Tok} {l : Nat} (hu : B[m]? = some u) (h : VaskyBase.token (B.drop m) = some (t, l)) : behindM B ⟨m, t⟩ = m + l := by
  have hd := drop_at hu
  have e : VaskyBase.token (B.drop m) = if VaskyBase.isLetter u = true then (if 16 < ((B.drop m).takeWhile nameB).length then none else some (.name ((B.drop m).takeWhile nameB), ((B.drop m).takeWhile nameB).length))
        else if VaskyBase.isDigit u = true then (VaskyBase.numberOf ((B.drop m).takeWhile VaskyBase.isDigit)).map fun x => (.num x, ((B.drop m).takeWhile VaskyBase.isDigit).length)
        else if VaskyBase.SIGNS.contains u = true then some (.sign u.toNat, 1) else none := by
    rw [hd]
    rfl
  rw [e] at h
  split at h
  · split at h
    · cases h
    · cases h
      rfl
  · split at h
    · cases e2 : VaskyBase.numberOf ((B.drop m).takeWhile VaskyBase.isDigit) with
      | none => rw [e2] at h; cases h
      | some x =>
        rw [e2] at h
        cases h
        rfl
    · split at h
      · cases h
        rfl
      · cases h
theorem token_len {B : VaskyBase.Bytes} {m : Nat} {u : UInt8} {t : VaskyBase.Tok} {l : Nat} (hu : B[m]? = some u) (h : VaskyBase.token (B.drop m) = some (t, l)) : m + l ≤ B.length := by
  have hlt := (List.getElem?_eq_some_iff.mp hu).1
  rw [← behind_is hu h]
  unfold behindM
  cases t with
  | name b => exact runEnd_le (Nat.le_of_lt hlt)
  | num n => exact runEnd_le (Nat.le_of_lt hlt)
  | sign c => exact hlt
  | last => exact hlt
theorem remark_is {B : VaskyBase.Bytes} {m : Nat} {u : UInt8} (hu : B[m]? = some u) (h : (u == 35) = true) : m + 1 + ((B.drop (m + 1)).takeWhile (· != 10)).length = runEnd (· != 10) B m ∧ (B.drop (m + 1)).dropWhile (· != 10) = B.drop (runEnd (· != 10) B m) := by
  have hp : (u != 10) = true := by
    obtain rfl : u = 35 := by simpa using h
    decide +kernel
  have e := runEnd_yes (p := (· != 10)) hu hp
  rw [e]
  refine ⟨rfl, ?_⟩
  unfold runEnd
  have h3 := List.takeWhile_append_dropWhile (p := (· != 10)) (l := B.drop (m + 1))
  have h4 : (B.drop (m + 1)).drop ((B.drop (m + 1)).takeWhile (· != 10)).length = (B.drop (m + 1)).dropWhile (· != 10) := by
    have := List.drop_left' (l₁ := (B.drop (m + 1)).takeWhile (· != 10)) (l₂ := (B.drop (m + 1)).dropWhile (· != 10)) rfl
    rw [h3] at this
    exact this
  rw [← h4, List.drop_drop]
theorem inV_blank (u : UInt8) : inV (.int (u.toNat : Int)) [.int 32, .int 9, .int 10] = VaskyBase.isBlank u := by
  have e : ∀ v : UInt8, ((v.toNat : Int) == (u.toNat : Int)) = (u == v) := fun v => by
    rw [Bool.eq_iff_iff, beq_iff_eq, beq_iff_eq]
    exact ⟨fun h => UInt8.toNat_inj.mp (by exact_mod_cast h.symm), fun h => by rw [h]⟩
  have e1 := e 32
  have e2 := e 9
  have e3 := e 10
  have e1' : ((32 : Int) == (u.toNat : Int)) = (u == 32) := e1
  have e2' : ((9 : Int) == (u.toNat : Int)) = (u == 9) := e2
  have e3' : ((10 : Int) == (u.toNat : Int)) = (u == 10) := e3
  unfold inV VaskyBase.isBlank
  simp only [List.any_cons, List.any_nil, eqV, e1', e2', e3', Bool.or_false]
/-! ### the tokens in the heap -/
theorem mk_tokx {H : Hp} {R : VK} {k t pl : V} {x dx : Addr} (nx : H x = none) (ndx : H dx = none) (ne : dx ≠ x) (h : ∀ H' : Hp, Same H H' → H' x = some (.ins A.cToken dx [("kind", k), ("told", t), ("place", pl)]) → R .non H') :
    sp_Token___init__ K A (.ref x :: ([k, t, pl] ++ [])) (upd (upd H dx (.own x)) x (.ins A.cToken dx [])) R E0 := by
  refine ⟨x, dx, k, t, pl, rfl, upd_same, fun H' h1 h2 => h H' (fun b o e => ?_) h1⟩
  have nb : b ≠ x := ne_of_none e nx
  exact h2 b o nb (by rw [upd_ne nb, upd_ne (ne_of_none e ndx)]; exact e)
def ToksAt (A : Ads) (H : Hp) : List Addr → List VaskyBase.PTok → Prop
  | [], [] => True
  | p :: ps, t :: ts => TokAt A H p t ∧ ToksAt A H ps ts
  | _, _ => False
theorem ToksAt.mono {H H' : Hp} (h : ∀ b C dx fs, H b = some (.ins C dx fs) → H' b = some (.ins C dx fs)) : ∀ {ps : List Addr} {ts : List VaskyBase.PTok}, ToksAt A H ps ts → ToksAt A H' ps ts
  | [], [], _ => trivial
  | _ :: _, _ :: _, ⟨⟨dx, a⟩, b⟩ => ⟨⟨dx, h _ _ _ _ a⟩, ToksAt.mono h b⟩
theorem ToksAt.snoc {H : Hp} {p : Addr} {t : VaskyBase.PTok} (h : TokAt A H p t) : ∀ {ps : List Addr} {ts : List VaskyBase.PTok}, ToksAt A H ps ts → ToksAt A H (ps ++ [p]) (ts ++ [t])
  | [], [], _ => ⟨h, trivial⟩
  | _ :: _, _ :: _, ⟨a, b⟩ => ⟨a, ToksAt.snoc h b⟩
theorem ToksAt.len {H : Hp} : ∀ {ps : List Addr} {ts : List VaskyBase.PTok}, ToksAt A H ps ts → ps.length = ts.length
  | [], [], _ => rfl
  | _ :: _, _ :: _, ⟨_, b⟩ => congrArg (· + 1) (ToksAt.len b)
theorem ToksAt.get {H : Hp} : ∀ {ps : List Addr} {ts : List VaskyBase.PTok} {i : Nat} {t : VaskyBase.PTok}, ToksAt A H ps ts → ts[i]? = some t → ∃ p, ps[i]? = some p ∧ TokAt A H p t
  | [], [], i, _, _, h => by simp at h
  | p :: _, _ :: _, 0, _, ⟨a, _⟩, h => ⟨p, rfl, by cases h; exact a⟩
  | _ :: ps, _ :: ts, i + 1, t, ⟨_, b⟩, h => ToksAt.get (i := i) b h
theorem FaultOut.mono {H H' : Hp} {E : XK} {c n : Int} (s : Same H H') (h : FaultOut A H E c n) : FaultOut A H' E c n := fun d H2 h1 h2 h3 => h d H2 (s.free h1) (s.trans h2) h3
def sp_tokens_of (K : PySem.W.Frag) (A : Ads) : Sp := fun vs H Q E => ∃ (a : Addr) (B : VaskyBase.Bytes), vs = [.ref a] ∧ SqL K H a (byV B) ∧
  (∀ f, VaskyBase.tokens B = .error f → FaultOut A H E f.code f.place) ∧
  (∀ l, VaskyBase.tokens B = .ok l → ∀ (p : Addr) (ts : List Addr) (H' : Hp), Same H H' → H' p = some (.lst (ts.map V.ref)) → ToksAt A H' ts l → ts.length ≤ 4097 → Q (.ref p) H')
theorem d_tokens_of (T : Tx K mg base A) : Def P w K mg base (L2.CX P w) 7 "tokens_of" ["text"] (sp_tokens_of K A) := def_of T.t_tokens_of (fun _ _ _ _ _ _ us hl => match us, hl with | [_], _ => rfl) fun f fd F => by
  have nd := sc_tokens_of.nd
  have d_Fault := d_Fault (P := P) (w := w) T
  have d_Token := d_Token (P := P) (w := w) T
  have d_end_of_remark := d_end_of_remark (P := P) (w := w) T
  have d_behind_token := d_behind_token (P := P) (w := w) T
  have d_token_at := d_token_at (P := P) (w := w) T
  refine F.okX sc_tokens_of (fun vs H Q E h => ?_) (fun cdv Ar outer s H vs Q E hr h => ⟨_, (pss_cons (ps_if (pt_cmpR op_gt (pe_callB call_len_seq (by rfl) T.b_len PySem.boot_len (pa_cons (pv 0) pa_nil)) (pe_gi T.g_MOST_BYTES) (nomark _)) (pss_one (ps_raise rfl (takes_of rfl rfl rfl rfl) (pmk_c d_Fault (hr.mono (by decide)) (pa_cons (pe_gi T.g_TOO_LONG) (pa_cons (pe_gi T.g_MOST_BYTES) pa_nil))))) pss_nil)
        (pss_cons (ps_set (i := 1) nd rfl (Or.inl rfl) (pe_lst pa_nil))
        (pss_cons (ps_set (i := 2) nd rfl (Or.inl rfl) pe_int)
        (pss_cons (ps_while (passes_of rfl) (pt_cmpR op_lt (pv 2) (pe_callB call_len_seq (by rfl) T.b_len PySem.boot_len (pa_cons (pv 0) pa_nil)) (nomark _)) (pss_one (ps_if (pt_cmpR op_in_seq (pe_ix ix_list (pv 0) (pv 2) (fun _ _ => rfl)) (pe_gr T.g_BLANKS) (by rfl)) (pss_one (ps_set (i := 2) nd rfl (Or.inl rfl) (pe_op op_add (pv 2) pe_int))) (pss_one (ps_if (pt_cmpR op_eq (pe_ix ix_list (pv 0) (pv 2) (fun _ _ => rfl)) (pe_gi T.g_REMARK) (nomark _)) (pss_one (ps_set (i := 2) nd rfl (Or.inl rfl) (pe_d d_end_of_remark (hr.mono (by decide)) (pa_cons (pv 0) (pa_cons (pv 2) pa_nil))))) (pss_cons (ps_expr (pe_bm PySem.F.plainAttrs_list PySem.F.slot_list_append PySem.F.type_list_append mt_append (pv 1) (pa_cons (pe_dX d_token_at (hr.mono (by decide)) (takes_of rfl rfl rfl rfl) (pa_cons (pv 0) (pa_cons (pv 2) pa_nil))) pa_nil)))
        (pss_one (ps_set (i := 2) nd rfl (Or.inl rfl) (pe_d d_behind_token (hr.mono (by decide)) (pa_cons (pv 0) (pa_cons (pe_ix ix_list (pv 1) (pe_un un_neg pe_int) (fun _ _ => rfl)) pa_nil)))))))))))
        (pss_one (ps_ret (pe_op op_cat (pv 1) (pe_lst (pa_cons (pe_c d_Token (hr.mono (by decide)) (pa_cons (pe_gs T.g_END) (pa_cons (pe_gs T.g_END) (pa_cons (pe_callB call_len_seq (by rfl) T.b_len PySem.boot_len (pa_cons (pv 0) pa_nil)) pa_nil)))) pa_nil))))))))), ?_⟩)
  · obtain ⟨a, B, rfl, _⟩ := h
    rfl
  · obtain ⟨a, B, rfl, hB, qE, q⟩ := h
    refine ⟨_, rfl, a, _, rfl, .inl hB, _, _, rfl, rfl, _, rfl, ?_⟩
    rw [byV_len]
    refine ite2 (fun h1 => ?_) fun h1 => ?_
    · have h1' : 4096 < B.length := by simp only [decide_eq_true_eq] at h1; omega
      exact mk_fault (qE ⟨1, 4096⟩ (if_pos h1'))
    · have hle : B.length ≤ 4096 := by simp only [decide_eq_true_eq] at h1; omega
      have htok : VaskyBase.tokens B = VaskyBase.lex (B.length + 1) 0 B := if_neg (by show ¬ 4096 < B.length; omega)
      have hs4 : 4097 ≤ sizeLine := by decide
      refine ⟨by decide, fun F hF => ?_⟩
      let W : Nat → L2.St → Hp → Prop := fun k σ H' => ∃ (m fuel : Nat) (l : List VaskyBase.PTok) (ts : List Addr), k = B.length - m ∧ m ≤ B.length ∧ B.length - m < fuel ∧ σ = [some (.ref a), some (.ref F), some (.int (m : Int))] ∧
        VaskyBase.tokens B = (VaskyBase.lex fuel m (B.drop m)).map (l ++ ·) ∧ Same H H' ∧ H' F = some (.lst (ts.map V.ref)) ∧ ToksAt A H' ts l ∧ ts.length ≤ m
      refine ⟨W, ⟨_, 0, B.length + 1, [], [], rfl, Nat.zero_le _, by omega, rfl, ?_, same_upd (Same.refl _) hF, upd_same, trivial, Nat.le_refl _⟩, ?_⟩
      · rw [htok]
        show _ = (VaskyBase.lex (B.length + 1) 0 B).map _
        cases VaskyBase.lex (B.length + 1) 0 B <;> rfl
      rintro k σ H' ⟨m, fuel, l, ts, rfl, hm, hf, rfl, hlex, hS, hFF, hts, htl⟩
      obtain ⟨fuel, rfl⟩ : ∃ f, fuel = f + 1 := ⟨fuel - 1, by omega⟩
      have hB' := hS.seq hB
      refine ⟨_, rfl, _, rfl, a, _, rfl, .inl hB', _, _, rfl, rfl, _, rfl, ?_⟩
      rw [byV_len]
      refine ite2 (fun h2 => ?_) fun h2 => ?_
      · have hlt : m < B.length := by simp only [decide_eq_true_eq] at h2; omega
        have hu := List.getElem?_eq_getElem hlt
        generalize B[m] = u at hu
        have hd := drop_at hu
        have at_ := atI_nat (byV_at hu)
        refine ⟨fun σ' H'' => ∃ m', m' < B.length - m ∧ W m' σ' H'', fun _ _ h => h, ?_⟩
        refine ⟨_, rfl, _, rfl, a, _, _, _, rfl, rfl, hB', at_, A.aBLANKS, _, rfl, .inr (T.v_BLANKS _), rfl, rfl, _, rfl, ?_⟩
        rw [if_neg Bool.false_ne_true, inV_blank]
        rw [hd] at hlex
        refine ite2 (fun h3 => ?_) fun h3 => ?_
        · rw [lex_blank h3] at hlex
          exact ⟨_, rfl, _, _, rfl, rfl, B.length - (m + 1), by omega, m + 1, fuel, l, ts, rfl, hlt, by omega, rfl, hlex, hS, hFF, hts, by omega⟩
        · have h3' : VaskyBase.isBlank u = false := by simpa using h3
          refine ⟨_, rfl, _, rfl, a, _, _, _, rfl, rfl, hB', at_, rfl, _, rfl, ?_⟩
          rw [show decide (V.int (u.toNat : Int) = V.int 35) = (u == 35) from dec_byte u 35]
          refine ite2 (fun h4 => ?_) fun h4 => ?_
          · rw [lex_remark h3' h4, (remark_is hu h4).1, (remark_is hu h4).2] at hlex
            have hgt : m < runEnd (· != 10) B m := by
              rw [← (remark_is hu h4).1]
              omega
            have hle2 := runEnd_le (p := (· != 10)) hm
            exact ⟨_, rfl, _, rfl, a, B, m, rfl, hB', B.length - runEnd (· != 10) B m, by omega, runEnd (· != 10) B m, fuel, l, ts, rfl, hle2, by omega, rfl, hlex, hS, hFF, hts, by omega⟩
          · have h4' : (u == 35) = false := by simpa using h4
            rw [lex_token h3' h4', ← hd] at hlex
            refine ⟨_, rfl, .inl ⟨rfl, _, SqL.of hFF⟩, _, rfl, _, rfl, a, B, m, u, rfl, hB', hu, fun z => ?_, fun t len z p H2 hp hS2 htp => ?_⟩
            · rw [z] at hlex
              exact (qE ⟨2, m⟩ hlex).mono hS
            · rw [z] at hlex
              have hb := behind_is hu z
              have hl2 := token_len hu z
              rw [hd] at z
              obtain ⟨ok, nl, hpos⟩ := token_ok z
              have hFF2 : H2 F = some (.lst (ts.map V.ref)) := hS2 _ _ hFF
              have hS3 : Same H H2 := hS.trans hS2
              have hSF : Same H (upd H2 F (.lst (ts.map V.ref ++ [V.ref p]))) := same_upd hS3 hF
              have hB3 := hSF.seq hB
              have mono : ∀ (H3 : Hp) (b C dx : Addr) (fs : List (Str × V)), H3 b = some (.ins C dx fs) → H3 F = some (.lst (ts.map V.ref)) → upd H3 F (.lst (ts.map V.ref ++ [V.ref p])) b = some (.ins C dx fs) := fun H3 b C dx fs e1 e2 => by
                rw [upd_ne fun zz => by rw [zz, e2] at e1; cases e1]
                exact e1
              obtain ⟨dx, hdx⟩ := htp
              have htp' : TokAt A (upd H2 F (.lst (ts.map V.ref ++ [V.ref p]))) p ⟨m, t⟩ := ⟨dx, mono H2 _ _ _ _ hdx hFF2⟩
              have hF3 : (upd H2 F (.lst (ts.map V.ref ++ [V.ref p]))) F = some (.lst ((ts ++ [p]).map V.ref)) := by
                rw [upd_same, List.map_append]
                rfl
              refine ⟨F, _, _, rfl, rfl, hFF2, ?_, ?_⟩
              · rw [List.length_map]
                omega
              refine ⟨_, rfl, _, rfl, 1, rfl, F, _, _, _, rfl, rfl, SqL.of hF3, ?_, a, B, p, ⟨m, t⟩, rfl, hB3, htp', ok, nl, ?_⟩
              · rw [List.map_append]
                exact atI_last _ _
              · rw [hb]
                refine ⟨B.length - (m + len), by omega, m + len, fuel, l ++ [⟨m, t⟩], ts ++ [p], rfl, hl2, by omega, rfl, ?_, hSF, hF3, ?_, ?_⟩
                · rw [hlex]
                  show ((VaskyBase.lex fuel (m + len) ((B.drop m).drop len)).map _).map _ = _
                  rw [List.drop_drop]
                  cases VaskyBase.lex fuel (m + len) (B.drop (m + len)) with
                  | error f => rfl
                  | ok y =>
                    show Except.ok (l ++ (⟨m, t⟩ :: y)) = Except.ok (l ++ [⟨m, t⟩] ++ y)
                    rw [List.append_assoc]
                    rfl
                · exact ToksAt.snoc htp' (hts.mono fun b C dx fs e => mono H2 b C dx fs (hS2 _ _ e) hFF2)
                · rw [List.length_append, List.length_singleton]
                  omega
      · have hme : m = B.length := by simp only [decide_eq_true_eq] at h2; omega
        rw [hme, List.drop_length, lex_nil] at hlex
        refine ⟨_, rfl, _, rfl, a, _, rfl, .inl hB', ?_⟩
        rw [byV_len]
        intro p dx n1 n2 n3
        refine mk_tokx (K := K) n1 n2 n3 fun H2 hS2 h2 => ⟨rfl, ?_⟩
        refine ⟨by show 1 ≤ sizeLine; decide, fun L hL => ⟨F, L, ts.map V.ref, [V.ref p], rfl, rfl, ?_, upd_same, ?_, fun p2 hp2 => ?_⟩⟩
        · rw [upd_ne (ne_of_none (hS2 _ _ hFF) hL)]
          exact hS2 _ _ hFF
        · rw [List.length_map]
          show _ + 1 ≤ sizeLine
          omega
        · have g : ∀ b o, H2 b = some o → upd (upd H2 L (.lst [V.ref p])) p2 (.lst (ts.map V.ref ++ [V.ref p])) b = some o := fun b o e => by
            have e2 : upd H2 L (.lst [V.ref p]) b = some o := by
              rw [upd_ne (ne_of_none e hL)]
              exact e
            rw [upd_ne (ne_of_none e2 hp2)]
            exact e2
          refine q _ hlex p2 (ts ++ [p]) _ (fun b o e => g b o (hS2 _ _ (hS _ _ e))) ?_ ?_ ?_
          · rw [upd_same, List.map_append]
            rfl
          · exact ToksAt.snoc ⟨dx, g _ _ h2⟩ (hts.mono fun b C dx fs e => g _ _ (hS2 _ _ e))
          · rw [List.length_append, List.length_singleton]
            omega
end
end BwW
end

section
set_option Elab.async false
set_option linter.all false
set_option maxRecDepth 100000
set_option maxHeartbeats 2000000
namespace BwW
open PySem PySem.Spec PyProof.Rows L2 BwK
open Bw (Kd kdOf okTok takeM takeNameM numberM valueM)
section
variable {P : Program} {w : World} {K : PySem.W.Frag} {mg : Str → Option Value} {base : Heap} {A : Ads}
/-- all that was tracked is as it was, but at S -/
def SameOff (S : Addr → Prop) (H H' : Hp) : Prop := ∀ b o, ¬ S b → H b = some o → H' b = some o
theorem SameOff.refl {S : Addr → Prop} {H : Hp} : SameOff S H H := fun _ _ _ h => h
theorem SameOff.trans {S : Addr → Prop} {H H1 H2 : Hp} (a : SameOff S H H1) (b : SameOff S H1 H2) : SameOff S H H2 := fun c o n e => b c o n (a c o n e)
theorem SameOff.same {S : Addr → Prop} {H H1 H2 : Hp} (a : SameOff S H H1) (b : Same H1 H2) : SameOff S H H2 := fun c o n e => b c o (a c o n e)
theorem SameOff.of {S : Addr → Prop} {H H1 : Hp} (a : Same H H1) : SameOff S H H1 := fun c o _ e => a c o e
theorem SameOff.mono {S S' : Addr → Prop} {H H1 : Hp} (h : ∀ b, S b → S' b) (a : SameOff S H H1) : SameOff S' H H1 := fun c o n e => a c o (fun z => n (h c z)) e
theorem SameOff.put {S : Addr → Prop} {H H1 : Hp} {x : Addr} {o : HO} (a : SameOff S H H1) (h : S x) : SameOff S H (upd H1 x o) := fun c u n e => by
  rw [upd_ne fun z => n (by rw [z]; exact h)]
  exact a c u n e
theorem SameOff.new {S : Addr → Prop} {H H1 : Hp} {x : Addr} {o : HO} (a : SameOff S H H1) (h : H1 x = none) : SameOff S H (upd H1 x o) := a.same (same_upd (Same.refl _) h)
def FaultOff (S : Addr → Prop) (A : Ads) (H : Hp) (E : XK) (c n : Int) : Prop := ∀ (d : Addr) (H' : Hp), SameOff S H H' → H' d = some (.xd [("place", .int n), ("code", .int c)]) → E (.ref A.cFault) (some d) H'
theorem FaultOff.out {S : Addr → Prop} {H H1 : Hp} {E : XK} {c n : Int} (h : FaultOff S A H E c n) (s : SameOff S H H1) : FaultOut A H1 E c n := fun d H' _ h2 h3 => h d H' (s.same h2) h3
theorem FaultOff.off {S S' : Addr → Prop} {H H1 : Hp} {E : XK} {c n : Int} (h : FaultOff S A H E c n) (s : SameOff S H H1) (hs : ∀ b, S' b → S b) : FaultOff S' A H1 E c n := fun d H' h2 h3 => h d H' (s.trans (h2.mono hs)) h3
/-! ### the reader -/
def rdF (T : Addr) (n : Nat) : List (Str × V) := [("tokens", .ref T), ("at", .int (n : Int))]
theorem rdF_tokens (T : Addr) (n : Nat) : (rdF T n).lookup ("tokens" : Str) = some (.ref T) := lk_here
theorem rdF_at (T : Addr) (n : Nat) : (rdF T n).lookup ("at" : Str) = some (.int (n : Int)) := (lk_past (by decide +kernel)).trans lk_here
theorem rdF_put (T : Addr) (n : Nat) (m : Int) (h : m = ((n + 1 : Nat) : Int)) : putF "at" (.int m) (rdF T n) = rdF T (n + 1) := by
  subst h
  exact (put_past (by decide +kernel)).trans (congrArg _ put_here)
/-- at R: a reader of the tokens l, at the n-th -/
structure RdAt (K : PySem.W.Frag) (A : Ads) (H : Hp) (R dx T : Addr) (ts : List Addr) (l : List VaskyBase.PTok) (n : Nat) : Prop where
  r : H R = some (.ins A.cReader dx (rdF T n))
  t : SqL K H T (ts.map V.ref)
  k : ToksAt A H ts l
def rdO (A : Ads) (dx T : Addr) (n : Nat) : HO := .ins A.cReader dx (rdF T n)
theorem sqL_upd {H : Hp} {T R : Addr} {xs : List V} {o : HO} {C dx : Addr} {fs : List (Str × V)} (h : SqL K H T xs) (hR : H R = some (.ins C dx fs)) : SqL K (upd H R o) T xs := by
  have ne : ∀ u, H T = some u → (∀ C dx fs, u ≠ .ins C dx fs) → (upd H R o) T = some u := fun u e n => by
    rw [upd_ne fun z => by rw [z, hR] at e; exact n _ _ _ (Option.some.inj e).symm]
    exact e
  rcases h with (h | ⟨u, h⟩) | h
  · exact .inl (.inl (ne _ h (by intro _ _ _ z; cases z)))
  · exact .inl (.inr ⟨u, ne _ h (by intro _ _ _ z; cases z)⟩)
  · exact .inr h
theorem sqL_off {S : Addr → Prop} {H H' : Hp} {T : Addr} {xs : List V} (h : SqL K H T xs) (s : SameOff S H H') (hs : ¬ S T) : SqL K H' T xs := by
  rcases h with (h | ⟨u, h⟩) | h
  · exact .inl (.inl (s _ _ hs h))
  · exact .inl (.inr ⟨u, s _ _ hs h⟩)
  · exact .inr h
theorem TokAt.ne {H : Hp} {p R : Addr} {t : VaskyBase.PTok} {C dx T : Addr} {n : Nat} (h : TokAt A H p t) (hR : H R = some (.ins C dx (rdF T n))) : p ≠ R := fun z => by
  obtain ⟨d, h⟩ := h
  rw [z, hR] at h
  have h1 := congrArg (fun o : HO => match o with | .ins _ _ fs => fs.length | _ => 0) (Option.some.inj h)
  exact absurd (show (2 : Nat) = 3 from h1) (by decide)
theorem ToksAt.mono2 {H H' : Hp} (h : ∀ p t, TokAt A H p t → TokAt A H' p t) : ∀ {ps : List Addr} {ts : List VaskyBase.PTok}, ToksAt A H ps ts → ToksAt A H' ps ts
  | [], [], _ => trivial
  | _ :: _, _ :: _, ⟨a, b⟩ => ⟨h _ _ a, ToksAt.mono2 h b⟩
/-- the reader stands elsewhere, all else as it was -/
theorem RdAt.next {H H' : Hp} {R dx T : Addr} {ts : List Addr} {l : List VaskyBase.PTok} {n m : Nat} (h : RdAt K A H R dx T ts l n) (s : SameOff (· = R) H H') (e : H' R = some (rdO A dx T m)) : RdAt K A H' R dx T ts l m where
  r := e
  t := by
    rcases h.t with (q | ⟨u, q⟩) | q
    · exact .inl (.inl (s _ _ (fun z => by rw [z, h.r] at q; cases q) q))
    · exact .inl (.inr ⟨u, s _ _ (fun z => by rw [z, h.r] at q; cases q) q⟩)
    · exact .inr q
  k := h.k.mono2 fun p t q => by
    have ne := q.ne h.r
    obtain ⟨d, q⟩ := q
    exact ⟨d, s _ _ ne q⟩
theorem RdAt.same {H H' : Hp} {R dx T : Addr} {ts : List Addr} {l : List VaskyBase.PTok} {n : Nat} (h : RdAt K A H R dx T ts l n) (s : Same H H') : RdAt K A H' R dx T ts l n := h.next (.of s) (s _ _ h.r)
def sp_here (K : PySem.W.Frag) (A : Ads) : Sp := fun vs H Q _ => ∃ (R dx T : Addr) (ts : List Addr) (l : List VaskyBase.PTok) (n : Nat) (t : VaskyBase.PTok), vs = [.ref R] ∧ RdAt K A H R dx T ts l n ∧ l[n]? = some t ∧ ∀ p, TokAt A H p t → Q (.ref p) H
theorem d_here (T : Tx K mg base A) : Def P w K mg base CX0 1 "here" ["reader"] (sp_here K A) := def_of T.t_here (fun _ _ _ _ _ _ us hl => match us, hl with | [_], _ => rfl) fun f fd F => by
  have nd := sc_here.nd
  refine F.ok sc_here (fun vs H Q E h => ?_) (fun cdv Ar outer s H vs Q E hr h => ⟨_, (pss_one (ps_ret (pe_ix ix_list (pe_fld (pv 0) rfl) (pe_fld (pv 0) rfl) (fun _ _ => rfl)))), ?_⟩)
  · obtain ⟨R, dx, T, ts, l, n, t, rfl, _⟩ := h
    rfl
  · obtain ⟨R, dx, T', ts, l, n, t, rfl, hR, ht, q⟩ := h
    have C := T.k_Reader.cl
    have n1 := T.k_Reader.no "tokens" (by simp)
    have n2 := T.k_Reader.no "at" (by simp)
    obtain ⟨p, hp, htp⟩ := hR.k.get ht
    exact ⟨_, rfl, R, _, dx, _, _, rfl, hR.r, C, n1, rdF_tokens _ _, _, rfl, R, _, dx, _, _, rfl, hR.r, C, n2, rdF_at _ _, T', _, _, _, rfl, rfl, hR.t, atI_nat (by rw [List.getElem?_map, hp]; rfl), q p htp⟩
def sp_refuse_here (K : PySem.W.Frag) (A : Ads) : Sp := fun vs H _ E => ∃ (R dx T : Addr) (ts : List Addr) (l : List VaskyBase.PTok) (n : Nat) (t : VaskyBase.PTok) (c : Int), vs = [.ref R, .int c] ∧ RdAt K A H R dx T ts l n ∧ l[n]? = some t ∧ FaultOut A H E c t.place
theorem d_refuse_here (T : Tx K mg base A) : Def P w K mg base (L2.CX P w) 3 "refuse_here" ["reader", "code"] (sp_refuse_here K A) := def_of T.t_refuse_here (fun _ _ _ _ _ _ us hl => match us, hl with | [_, _], _ => rfl) fun f fd F => by
  have nd := sc_refuse_here.nd
  have d_Fault := d_Fault (P := P) (w := w) T
  have d_here := d_here (P := P) (w := w) T
  refine F.okX sc_refuse_here (fun vs H Q E h => ?_) (fun cdv Ar outer s H vs Q E hr h => ⟨_, (pss_one (ps_raise rfl (takes_of rfl rfl rfl rfl) (pmk_c d_Fault (hr.mono (by decide)) (pa_cons (pv 1) (pa_cons (pe_fld (pe_d d_here (hr.mono (by decide)) (pa_cons (pv 0) pa_nil)) rfl) pa_nil))))), ?_⟩)
  · obtain ⟨R, dx, T, ts, l, n, t, c, rfl, _⟩ := h
    rfl
  · obtain ⟨R, dx, T', ts, l, n, t, c, rfl, hR, ht, q⟩ := h
    have C := T.k_Token.cl
    have n1 := T.k_Token.no "place" (by simp)
    exact ⟨_, rfl, _, rfl, R, dx, T', ts, l, n, t, rfl, hR, ht, fun p ⟨d, hp⟩ => ⟨p, _, d, _, _, rfl, hp, C, n1, tokF_place t, mk_fault q⟩⟩
def kdV (ks : List Kd) : List V := ks.map fun k => V.str (kS k)
theorem kdV_flat (ks : List Kd) : (kdV ks).all flatV = true := by
  rw [List.all_eq_true]
  intro x hx
  obtain ⟨k, _, rfl⟩ := List.mem_map.mp hx
  rfl
theorem inV_kdV (k : Kd) (ks : List Kd) : inV (.str (kS k)) (kdV ks) = decide (k ∈ ks) := by
  rw [Bool.eq_iff_iff, decide_eq_true_eq]
  unfold inV kdV
  rw [List.any_eq_true]
  constructor
  · rintro ⟨x, hx, e⟩
    obtain ⟨j, hj, rfl⟩ := List.mem_map.mp hx
    have : kS j = kS k := by simpa [eqV] using e
    rw [← kS_inj _ _ this]
    exact hj
  · intro h
    exact ⟨_, List.mem_map.mpr ⟨k, h, rfl⟩, by simp [eqV]⟩
def sp_take (K : PySem.W.Frag) (A : Ads) : Sp := fun vs H Q E => ∃ (R dx T kl : Addr) (ts : List Addr) (l : List VaskyBase.PTok) (n : Nat) (t : VaskyBase.PTok) (ks : List Kd), vs = [.ref R, .ref kl] ∧ RdAt K A H R dx T ts l n ∧ l[n]? = some t ∧ SqL K H kl (kdV ks) ∧
  (kdOf t.tok ∉ ks → FaultOut A H E 3 t.place) ∧ (kdOf t.tok ∈ ks → ∀ p, TokAt A (upd H R (rdO A dx T (n + 1))) p t → Q (.ref p) (upd H R (rdO A dx T (n + 1))))
theorem d_take (T : Tx K mg base A) : Def P w K mg base (L2.CX P w) 4 "take" ["reader", "kinds"] (sp_take K A) := def_of T.t_take (fun _ _ _ _ _ _ us hl => match us, hl with | [_, _], _ => rfl) fun f fd F => by
  have nd := sc_take.nd
  have d_here := d_here (P := P) (w := w) T
  have d_refuse_here := d_refuse_here (P := P) (w := w) T
  refine F.okX sc_take (fun vs H Q E h => ?_) (fun cdv Ar outer s H vs Q E hr h => ⟨_, (pss_cons (ps_set (i := 2) nd rfl (Or.inl rfl) (pe_d d_here (hr.mono (by decide)) (pa_cons (pv 0) pa_nil)))
        (pss_cons (ps_if (pt_cmpR op_notIn_seq (pe_fld (pv 2) rfl) (pv 1) (by rfl)) (pss_one (ps_expr (pe_dX d_refuse_here (hr.mono (by decide)) (takes_of rfl rfl rfl rfl) (pa_cons (pv 0) (pa_cons (pe_gi T.g_NOT_ALLOWED) pa_nil))))) pss_nil)
        (pss_cons (ps_fld (pv 0) (pe_op op_add (pe_fld (pv 0) rfl) pe_int) rfl)
        (pss_one (ps_ret (pv 2)))))), ?_⟩)
  · obtain ⟨R, dx, T, kl, ts, l, n, t, ks, rfl, _⟩ := h
    rfl
  · obtain ⟨R, dx, T', kl, ts, l, n, t, ks, rfl, hR, ht, hk, qE, q⟩ := h
    have C := T.k_Token.cl
    have C2 := T.k_Reader.cl
    have n1 := T.k_Token.no "kind" (by simp)
    have n2 := T.k_Reader.no "at" (by simp)
    refine ⟨_, rfl, R, dx, T', ts, l, n, t, rfl, hR, ht, fun p ⟨d, hp⟩ => ?_⟩
    refine ⟨_, rfl, p, _, d, _, _, rfl, hp, C, n1, tokF_kind t, _, rfl, kl, _, rfl, .inl hk, rfl, kdV_flat _, _, rfl, ?_⟩
    rw [if_pos rfl, inV_kdV]
    refine ite2 (fun h1 => ?_) fun h1 => ?_
    · exact ⟨_, rfl, R, dx, T', ts, l, n, t, 3, rfl, hR, ht, qE (by simpa using h1)⟩
    · have h1' : kdOf t.tok ∈ ks := by simpa using h1
      refine ⟨_, rfl, R, _, dx, _, _, rfl, hR.r, C2, n2, rdF_at _ _, _, _, rfl, rfl, _, rfl, R, _, dx, _, rfl, hR.r, C2, n2, by show 2 < 1000; decide, ?_⟩
      show tRet (tVar 2) _ _ (upd H R (.ins A.cReader dx (putF "at" (.int ((n : Int) + 1)) (rdF T' n))))
      rw [rdF_put T' n ((n : Int) + 1) rfl]
      refine ⟨_, rfl, q h1' p ⟨d, ?_⟩⟩
      rw [upd_ne (TokAt.ne ⟨d, hp⟩ hR.r)]
      exact hp
def nmV (ns : List VaskyBase.Bytes) : List V := ns.map fun b => V.str (strOf b)
theorem nmV_flat (ks : List VaskyBase.Bytes) : (nmV ks).all flatV = true := by
  rw [List.all_eq_true]
  intro x hx
  obtain ⟨k, _, rfl⟩ := List.mem_map.mp hx
  rfl
theorem inV_nmV (b : VaskyBase.Bytes) (ns : List VaskyBase.Bytes) : inV (.str (strOf b)) (nmV ns) = decide (b ∈ ns) := by
  rw [Bool.eq_iff_iff, decide_eq_true_eq]
  unfold inV nmV
  rw [List.any_eq_true]
  constructor
  · rintro ⟨x, hx, e⟩
    obtain ⟨j, hj, rfl⟩ := List.mem_map.mp hx
    have : strOf j = strOf b := by simpa [eqV] using e
    rw [← strOf_inj this]
    exact hj
  · intro h
    exact ⟨_, List.mem_map.mpr ⟨b, h, rfl⟩, by simp [eqV]⟩
theorem told_name {t : VaskyBase.Tok} (ok : okTok t = true) (h : kdOf t = .name) : toldV t = .str (strOf (Bw.nameOf t)) := by
  obtain ⟨b, rfl, _⟩ := (Bw.kd_name ok).mp h
  rfl
theorem told_number {t : VaskyBase.Tok} (ok : okTok t = true) (h : kdOf t = .number) : toldV t = .int (Bw.numOf t : Int) := by
  obtain ⟨b, rfl⟩ := (Bw.kd_number ok).mp h
  rfl
theorem drop_get {l : List VaskyBase.PTok} {n : Nat} {t : VaskyBase.PTok} (h : l[n]? = some t) : l.drop n = t :: l.drop (n + 1) := by
  obtain ⟨h1, h2⟩ := List.getElem?_eq_some_iff.mp h
  rw [List.drop_eq_getElem_cons h1, h2]
def sp_take_name (K : PySem.W.Frag) (A : Ads) : Sp := fun vs H Q E => ∃ (R dx T nl : Addr) (ts : List Addr) (l : List VaskyBase.PTok) (n : Nat) (t : VaskyBase.PTok) (ns : List VaskyBase.Bytes) (most : Nat), vs = [.ref R, .ref nl, .int (most : Int)] ∧ RdAt K A H R dx T ts l n ∧ l[n]? = some t ∧ okTok t.tok = true ∧ SqL K H nl (nmV ns) ∧
  (∀ f, takeNameM ns most (l.drop n) = .error f → FaultOff (· = R) A H E f.code f.place) ∧
  (∀ b r, takeNameM ns most (l.drop n) = .ok (b, r) → ∀ H', SameOff (· = R) H H' → H' R = some (rdO A dx T (n + 1)) → Q (.str (strOf b)) H')
theorem d_take_name (T : Tx K mg base A) : Def P w K mg base (L2.CX P w) 5 "take_name" ["reader", "names", "most"] (sp_take_name K A) := def_of T.t_take_name (fun _ _ _ _ _ _ us hl => match us, hl with | [_, _, _], _ => rfl) fun f fd F => by
  have nd := sc_take_name.nd
  have d_refuse_here := d_refuse_here (P := P) (w := w) T
  have d_take := d_take (P := P) (w := w) T
  have d_here := d_here (P := P) (w := w) T
  refine F.okX sc_take_name (fun vs H Q E h => ?_) (fun cdv Ar outer s H vs Q E hr h => ⟨_, (pss_cons (ps_if (PW.pt (pw_and (pt_cmpR op_eq (pe_fld (pe_d d_here (hr.mono (by decide)) (pa_cons (pv 0) pa_nil)) rfl) (pe_gs T.g_NAME) (nomark _)) (pw_and1 (pt_cmpR op_ge (pe_callB call_len_seq (by rfl) T.b_len PySem.boot_len (pa_cons (pv 1) pa_nil)) (pv 2) (nomark _))))) (pss_one (ps_expr (pe_dX d_refuse_here (hr.mono (by decide)) (takes_of rfl rfl rfl rfl) (pa_cons (pv 0) (pa_cons (pe_gi T.g_TOO_MANY) pa_nil))))) pss_nil)
        (pss_cons (ps_if (PW.pt (pw_and (pt_cmpR op_eq (pe_fld (pe_d d_here (hr.mono (by decide)) (pa_cons (pv 0) pa_nil)) rfl) (pe_gs T.g_NAME) (nomark _)) (pw_and1 (pt_cmpR op_in_seq (pe_fld (pe_d d_here (hr.mono (by decide)) (pa_cons (pv 0) pa_nil)) rfl) (pv 1) (by rfl))))) (pss_one (ps_expr (pe_dX d_refuse_here (hr.mono (by decide)) (takes_of rfl rfl rfl rfl) (pa_cons (pv 0) (pa_cons (pe_gi T.g_HAD_ALREADY) pa_nil))))) pss_nil)
        (pss_one (ps_ret (pe_fld (pe_dX d_take (hr.mono (by decide)) (takes_of rfl rfl rfl rfl) (pa_cons (pv 0) (pa_cons (pe_lst (pa_cons (pe_gs T.g_NAME) pa_nil)) pa_nil))) rfl))))), ?_⟩)
  · obtain ⟨R, dx, T, nl, ts, l, n, t, ns, most, rfl, _⟩ := h
    rfl
  · obtain ⟨R, dx, T', nl, ts, l, n, t, ns, most, rfl, hR, ht, ok, hn, qE, q⟩ := h
    have C := T.k_Token.cl
    have n1 := T.k_Token.no "kind" (by simp)
    have n2 := T.k_Token.no "told" (by simp)
    have hm : takeNameM ns most (l.drop n) = if kdOf t.tok = .name then (if most ≤ ns.length then .error ⟨4, t.place⟩ else if Bw.nameOf t.tok ∈ ns then .error ⟨5, t.place⟩ else .ok (Bw.nameOf t.tok, l.drop (n + 1))) else .error ⟨3, t.place⟩ := by
      rw [drop_get ht]
      rfl
    have isName : ∀ (σ : L2.St) (Q' : Bool → Hp → Prop), σ[0]? = some (some (.ref R)) → Q' (decide (kdOf t.tok = .name)) H → tTest (tOp rEq (tFld K (tCall (sp_here K A) [] E0 (tCons (tVar 0) tNil)) "kind") (tC (.str "a name"))) σ H Q' := fun σ Q' hσ q' =>
      ⟨_, hσ, R, dx, T', ts, l, n, t, rfl, hR, ht, fun p ⟨d, hp⟩ => ⟨p, _, d, _, _, rfl, hp, C, n1, tokF_kind t, rfl, _, rfl, by rw [show decide (V.str (kS (kdOf t.tok)) = V.str "a name") = decide (kdOf t.tok = .name) from dec_kS _ .name]; exact q'⟩⟩
    refine seq_and (decide (kdOf t.tok = .name)) (decide (most ≤ ns.length)) (fun Q' q' => isName _ Q' rfl q') (fun _ Q' q' => ⟨_, rfl, nl, _, rfl, .inl hn, _, rfl, _, _, rfl, rfl, _, rfl, ?_⟩) ?_
    · rw [show (nmV ns).length = ns.length from List.length_map ..]
      have e : decide ((most : Int) ≤ (ns.length : Int)) = decide (most ≤ ns.length) := by
        rw [Bool.eq_iff_iff, decide_eq_true_eq, decide_eq_true_eq]
        omega
      rw [e]
      exact q'
    refine ite2 (fun h1 => ?_) fun h1 => ?_
    · simp only [Bool.and_eq_true, decide_eq_true_eq] at h1
      exact ⟨_, rfl, R, dx, T', ts, l, n, t, 4, rfl, hR, ht, (qE ⟨4, t.place⟩ (by rw [hm, if_pos h1.1, if_pos h1.2])).out .refl⟩
    simp only [Bool.and_eq_true, decide_eq_true_eq] at h1
    dsimp only [tNext]
    refine seq_and (decide (kdOf t.tok = .name)) (decide (Bw.nameOf t.tok ∈ ns)) (fun Q' q' => isName _ Q' rfl q') (fun z Q' q' => ⟨_, rfl, R, dx, T', ts, l, n, t, rfl, hR, ht, fun p ⟨d, hp⟩ => ⟨p, _, d, _, _, rfl, hp, C, n2, tokF_told t, _, rfl, nl, _, rfl, .inl hn, ?_, nmV_flat _, _, rfl, ?_⟩⟩) ?_
    · rw [told_name ok (of_decide_eq_true z)]
      rfl
    · rw [if_neg Bool.false_ne_true, told_name ok (of_decide_eq_true z), inV_nmV]
      exact q'
    refine ite2 (fun h2 => ?_) fun h2 => ?_
    · simp only [Bool.and_eq_true, decide_eq_true_eq] at h2
      exact ⟨_, rfl, R, dx, T', ts, l, n, t, 5, rfl, hR, ht, (qE ⟨5, t.place⟩ (by rw [hm, if_pos h2.1, if_neg (fun z => h1 ⟨h2.1, z⟩), if_pos h2.2])).out .refl⟩
    simp only [Bool.and_eq_true, decide_eq_true_eq] at h2
    refine ⟨_, rfl, by show 1 ≤ sizeLine; decide, fun kl hkl => ?_⟩
    have hS := same_upd (o := .lst [.str "a name"]) (Same.refl H) hkl
    refine ⟨R, dx, T', kl, ts, l, n, t, [.name], rfl, hR.same hS, ht, SqL.of upd_same, fun z => ?_, fun z p htp => ?_⟩
    · have z' : ¬ kdOf t.tok = .name := by simpa using z
      exact (qE ⟨3, t.place⟩ (by rw [hm, if_neg z'])).out (.of hS)
    · have z' : kdOf t.tok = .name := by simpa using z
      obtain ⟨d, hp⟩ := htp
      refine ⟨p, _, d, _, _, rfl, hp, C, n2, tokF_told t, ?_⟩
      rw [told_name ok z']
      exact q _ _ (by rw [hm, if_pos z', if_neg (fun y => h1 ⟨z', y⟩), if_neg (fun y => h2 ⟨z', y⟩)]) _ ((SameOff.of hS).put rfl) upd_same
end
end BwW
end

section
set_option Elab.async false
set_option linter.all false
set_option maxRecDepth 100000
set_option maxHeartbeats 2000000
namespace BwW
open PySem PySem.Spec PyProof.Rows L2 BwK
open Bw (Kd kdOf okTok takeM takeNameM numberM valueM)
section
variable {P : Program} {w : World} {K : PySem.W.Frag} {mg : Str → Option Value} {base : Heap} {A : Ads}
/-- what the reader asks of the tokens -/
structure LOk (l : List VaskyBase.PTok) : Prop where
  ok : ∀ t ∈ l, okTok t.tok = true
  ends : ∀ n t, l[n]? = some t → kdOf t.tok ≠ .fin → ∃ t', l[n + 1]? = some t'
theorem LOk.at {l : List VaskyBase.PTok} (h : LOk l) {n : Nat} {t : VaskyBase.PTok} (e : l[n]? = some t) : okTok t.tok = true := h.ok t (List.mem_of_getElem? e)
def sp_read_value (K : PySem.W.Frag) (A : Ads) : Sp := fun vs H Q E => ∃ (R dx T : Addr) (ts : List Addr) (l : List VaskyBase.PTok) (n : Nat) (t : VaskyBase.PTok), vs = [.ref R] ∧ RdAt K A H R dx T ts l n ∧ l[n]? = some t ∧ LOk l ∧
  (∀ f, valueM (l.drop n) = .error f → FaultOff (· = R) A H E f.code f.place) ∧
  (∀ v m, n < m → (∃ t', l[m]? = some t') → valueM (l.drop n) = .ok (v, l.drop m) → ∀ H', SameOff (· = R) H H' → H' R = some (rdO A dx T m) → Q (.int v) H')
theorem d_read_value (T : Tx K mg base A) : Def P w K mg base (L2.CX P w) 5 "read_value" ["reader"] (sp_read_value K A) := def_of T.t_read_value (fun _ _ _ _ _ _ us hl => match us, hl with | [_], _ => rfl) fun f fd F => by
  have nd := sc_read_value.nd
  have d_take := d_take (P := P) (w := w) T
  have d_refuse_here := d_refuse_here (P := P) (w := w) T
  have d_here := d_here (P := P) (w := w) T
  refine F.okX sc_read_value (fun vs H Q E h => ?_) (fun cdv Ar outer s H vs Q E hr h => ⟨_, (pss_cons (ps_set (i := 1) nd rfl (Or.inl rfl) pe_int)
        (pss_cons (ps_if (pt_cmpR op_eq (pe_fld (pe_d d_here (hr.mono (by decide)) (pa_cons (pv 0) pa_nil)) rfl) pe_str (nomark _)) (pss_cons (ps_expr (pe_dX d_take (hr.mono (by decide)) (takes_of rfl rfl rfl rfl) (pa_cons (pv 0) (pa_cons (pe_lst (pa_cons pe_str pa_nil)) pa_nil))))
        (pss_one (ps_set (i := 1) nd rfl (Or.inl rfl) (pe_un un_neg pe_int)))) pss_nil)
        (pss_cons (ps_if (PW.pt (pw_and (pt_cmpR op_eq (pe_fld (pe_d d_here (hr.mono (by decide)) (pa_cons (pv 0) pa_nil)) rfl) (pe_gs T.g_NUMBER) (nomark _)) (pw_and1 (pt_cmpR op_gt (pe_fld (pe_d d_here (hr.mono (by decide)) (pa_cons (pv 0) pa_nil)) rfl) (pe_gi T.g_MOST_VALUE) (nomark _))))) (pss_one (ps_expr (pe_dX d_refuse_here (hr.mono (by decide)) (takes_of rfl rfl rfl rfl) (pa_cons (pv 0) (pa_cons (pe_gi T.g_TOO_GREAT) pa_nil))))) pss_nil)
        (pss_one (ps_ret (pe_op op_mul (pv 1) (pe_fld (pe_dX d_take (hr.mono (by decide)) (takes_of rfl rfl rfl rfl) (pa_cons (pv 0) (pa_cons (pe_lst (pa_cons (pe_gs T.g_NUMBER) pa_nil)) pa_nil))) rfl))))))), ?_⟩)
  · obtain ⟨R, dx, T, ts, l, n, t, rfl, _⟩ := h
    rfl
  · obtain ⟨R, dx, T', ts, l, n, t, rfl, hR, ht, hl, qE, q⟩ := h
    have C := T.k_Token.cl
    have n1 := T.k_Token.no "kind" (by simp)
    have n2 := T.k_Token.no "told" (by simp)
    have kindIs : ∀ (H1 : Hp) (m : Nat) (t1 : VaskyBase.PTok) (k : Kd) (σ : L2.St) (Q' : Bool → Hp → Prop), RdAt K A H1 R dx T' ts l m → l[m]? = some t1 → σ[0]? = some (some (.ref R)) → Q' (decide (kdOf t1.tok = k)) H1 → tTest (tOp rEq (tFld K (tCall (sp_here K A) [] E0 (tCons (tVar 0) tNil)) "kind") (tC (.str (kS k)))) σ H1 Q' := fun H1 m t1 k σ Q' hR1 ht1 hσ q' =>
      ⟨_, hσ, R, dx, T', ts, l, m, t1, rfl, hR1, ht1, fun p ⟨d, hp⟩ => ⟨p, _, d, _, _, rfl, hp, C, n1, tokF_kind t1, rfl, _, rfl, by rw [dec_kS]; exact q'⟩⟩
    refine kindIs H n t .minus _ _ hR ht rfl ?_
    have hv0 : valueM (l.drop n) = if kdOf t.tok = .minus then numberM (-1) (l.drop (n + 1)) else numberM 1 (l.drop n) := by
      rw [drop_get ht]
      rfl
    refine ite2 (fun h1 => ?_) fun h1 => ?_
    · have h1' := of_decide_eq_true h1
      rw [if_pos h1'] at hv0
      refine ⟨_, rfl, by show 1 ≤ sizeLine; decide, fun kl hkl => ?_⟩
      have hS := same_upd (o := .lst [.str "-"]) (Same.refl H) hkl
      refine ⟨R, dx, T', kl, ts, l, n, t, [.minus], rfl, hR.same hS, ht, SqL.of upd_same, fun z => absurd h1' (by simpa using z), fun _ p0 _ => ?_⟩
      have hS1 : SameOff (· = R) H (upd (upd H kl (.lst [.str "-"])) R (rdO A dx T' (n + 1))) := (SameOff.of hS).put rfl
      have hR1 := hR.next hS1 upd_same
      obtain ⟨t1, ht1⟩ := hl.ends n t ht (by rw [h1']; simp)
      have hs : (-(2 ^ 64) : Int) < -1 ∧ (-1 : Int) < 2 ^ 64 := by decide
      refine ⟨1, rfl, ?_⟩
      generalize upd (upd H kl (.lst [.str "-"])) R (rdO A dx T' (n + 1)) = H1 at *
      dsimp only [gName]
      have hnum : numberM (-1) (l.drop (n + 1)) = if kdOf t1.tok = .number then (if 1000 < Bw.numOf t1.tok then .error ⟨7, t1.place⟩ else .ok ((-1 : Int) * (Bw.numOf t1.tok : Int), l.drop ((n + 1) + 1))) else .error ⟨3, t1.place⟩ := by
        rw [drop_get ht1]
        rfl
      refine seq_and (decide (kdOf t1.tok = .number)) (decide (1000 < Bw.numOf t1.tok)) (fun Q' q' => kindIs _ _ _ .number _ _ hR1 ht1 rfl q') (fun z Q' q' => ⟨_, rfl, R, dx, T', ts, l, (n + 1), t1, rfl, hR1, ht1, fun p ⟨d, hp⟩ => ⟨p, _, d, _, _, rfl, hp, C, n2, tokF_told t1, _, _, told_number (hl.at ht1) (of_decide_eq_true z), rfl, _, rfl, ?_⟩⟩) ?_
      · have e : decide ((1000 : Int) < (Bw.numOf t1.tok : Int)) = decide (1000 < Bw.numOf t1.tok) := by
          rw [Bool.eq_iff_iff, decide_eq_true_eq, decide_eq_true_eq]
          omega
        rw [e]
        exact q'
      refine ite2 (fun h2 => ?_) fun h2 => ?_
      · simp only [Bool.and_eq_true, decide_eq_true_eq] at h2
        exact ⟨_, rfl, R, dx, T', ts, l, (n + 1), t1, 7, rfl, hR1, ht1, (qE ⟨7, t1.place⟩ (by rw [hv0, hnum, if_pos h2.1, if_pos h2.2])).out hS1⟩
      · simp only [Bool.and_eq_true, decide_eq_true_eq] at h2
        refine ⟨_, rfl, _, rfl, by show 1 ≤ sizeLine; decide, fun kl hkl => ?_⟩
        have hS' := same_upd (o := .lst [.str "a number"]) (Same.refl _) hkl
        refine ⟨R, dx, T', kl, ts, l, (n + 1), t1, [.number], rfl, hR1.same hS', ht1, SqL.of upd_same, fun z => ?_, fun z p htp => ?_⟩
        · have z' : ¬ kdOf t1.tok = .number := by simpa using z
          exact (qE ⟨3, t1.place⟩ (by rw [hv0, hnum, if_neg z'])).out (hS1.same hS')
        · have z' : kdOf t1.tok = .number := by simpa using z
          obtain ⟨d, hp⟩ := htp
          refine ⟨p, _, d, _, _, rfl, hp, C, n2, tokF_told t1, _, _, rfl, told_number (hl.at ht1) z', .inl hs, ?_⟩
          exact q _ ((n + 1) + 1) (by omega) (hl.ends _ _ ht1 (by rw [z']; simp)) (by rw [hv0, hnum, if_pos z', if_neg fun y => h2 ⟨z', y⟩]) _ ((hS1.same hS').put rfl) upd_same
    · have h1' := of_decide_eq_false (by simpa using h1)
      rw [if_neg h1'] at hv0
      have hS1 : SameOff (· = R) H H := .refl
      have hR1 := hR
      have ht1 := ht
      have hs : (-(2 ^ 64) : Int) < 1 ∧ (1 : Int) < 2 ^ 64 := by decide
      dsimp only [tNext]
      have hnum : numberM (1) (l.drop n) = if kdOf t.tok = .number then (if 1000 < Bw.numOf t.tok then .error ⟨7, t.place⟩ else .ok ((1 : Int) * (Bw.numOf t.tok : Int), l.drop (n + 1))) else .error ⟨3, t.place⟩ := by
        rw [drop_get ht1]
        rfl
      refine seq_and (decide (kdOf t.tok = .number)) (decide (1000 < Bw.numOf t.tok)) (fun Q' q' => kindIs _ _ _ .number _ _ hR1 ht1 rfl q') (fun z Q' q' => ⟨_, rfl, R, dx, T', ts, l, n, t, rfl, hR1, ht1, fun p ⟨d, hp⟩ => ⟨p, _, d, _, _, rfl, hp, C, n2, tokF_told t, _, _, told_number (hl.at ht1) (of_decide_eq_true z), rfl, _, rfl, ?_⟩⟩) ?_
      · have e : decide ((1000 : Int) < (Bw.numOf t.tok : Int)) = decide (1000 < Bw.numOf t.tok) := by
          rw [Bool.eq_iff_iff, decide_eq_true_eq, decide_eq_true_eq]
          omega
        rw [e]
        exact q'
      refine ite2 (fun h2 => ?_) fun h2 => ?_
      · simp only [Bool.and_eq_true, decide_eq_true_eq] at h2
        exact ⟨_, rfl, R, dx, T', ts, l, n, t, 7, rfl, hR1, ht1, (qE ⟨7, t.place⟩ (by rw [hv0, hnum, if_pos h2.1, if_pos h2.2])).out hS1⟩
      · simp only [Bool.and_eq_true, decide_eq_true_eq] at h2
        refine ⟨_, rfl, _, rfl, by show 1 ≤ sizeLine; decide, fun kl hkl => ?_⟩
        have hS' := same_upd (o := .lst [.str "a number"]) (Same.refl _) hkl
        refine ⟨R, dx, T', kl, ts, l, n, t, [.number], rfl, hR1.same hS', ht1, SqL.of upd_same, fun z => ?_, fun z p htp => ?_⟩
        · have z' : ¬ kdOf t.tok = .number := by simpa using z
          exact (qE ⟨3, t.place⟩ (by rw [hv0, hnum, if_neg z'])).out (hS1.same hS')
        · have z' : kdOf t.tok = .number := by simpa using z
          obtain ⟨d, hp⟩ := htp
          refine ⟨p, _, d, _, _, rfl, hp, C, n2, tokF_told t, _, _, rfl, told_number (hl.at ht1) z', .inl hs, ?_⟩
          exact q _ (n + 1) (by omega) (hl.ends _ _ ht1 (by rw [z']; simp)) (by rw [hv0, hnum, if_pos z', if_neg fun y => h2 ⟨z', y⟩]) _ ((hS1.same hS').put rfl) upd_same
end
end BwW
end

section
set_option Elab.async false
set_option linter.all false
set_option maxRecDepth 100000
set_option maxHeartbeats 2000000
namespace BwW
open PySem PySem.Spec PyProof.Rows L2 BwK
open Bw (Kd kdOf okTok takeM takeNameM numberM valueM goodsM measLoop itemsLoop)
section
variable {P : Program} {w : World} {K : PySem.W.Frag} {mg : Str → Option Value} {base : Heap} {A : Ads}
theorem SameOff.fresh {S : Addr → Prop} {H H1 : Hp} {x : Addr} {o : HO} (a : SameOff S H H1) (h : H x = none) : SameOff S H (upd H1 x o) := fun c u n e => by
  rw [upd_ne (ne_of_none e h)]
  exact a c u n e
theorem take1 {i : Nat} {E : XK} {Q : VK} {σ : L2.St} {H : Hp} {R dx T : Addr} {ts : List Addr} {l : List VaskyBase.PTok} {n : Nat} {t : VaskyBase.PTok} (kd : Kd) (hσ : σ[i]? = some (some (.ref R))) (hR : RdAt K A H R dx T ts l n) (ht : l[n]? = some t)
    (hE : kdOf t.tok ≠ kd → FaultOut A H E 3 t.place) (hQ : kdOf t.tok = kd → ∀ p H', SameOff (· = R) H H' → H' R = some (rdO A dx T (n + 1)) → TokAt A H' p t → Q (.ref p) H') :
    tCall (sp_take K A) [] E (tCons (tVar i) (tCons (tLst (tCons (tC (.str (kS kd))) tNil)) tNil)) σ H Q := by
  refine ⟨_, hσ, by show 1 ≤ sizeLine; decide, fun kl hkl => ?_⟩
  have hS' := same_upd (o := .lst [.str (kS kd)]) (Same.refl H) hkl
  refine ⟨R, dx, T, kl, ts, l, n, t, [kd], rfl, hR.same hS', ht, SqL.of upd_same, fun z => (hE (by simpa using z)).mono hS', fun z p htp => hQ (by simpa using z) p _ ((SameOff.of hS').put rfl) upd_same htp⟩
theorem take2 {E : XK} {Q : VK} {σ : L2.St} {H : Hp} {R dx T : Addr} {ts : List Addr} {l : List VaskyBase.PTok} {n : Nat} {t : VaskyBase.PTok} (k1 k2 : Kd) (hσ : σ[0]? = some (some (.ref R))) (hR : RdAt K A H R dx T ts l n) (ht : l[n]? = some t)
    (hE : kdOf t.tok ∉ [k1, k2] → FaultOut A H E 3 t.place) (hQ : kdOf t.tok ∈ [k1, k2] → ∀ p H', SameOff (· = R) H H' → H' R = some (rdO A dx T (n + 1)) → TokAt A H' p t → Q (.ref p) H') :
    tCall (sp_take K A) [] E (tCons (tVar 0) (tCons (tLst (tCons (tC (.str (kS k1))) (tCons (tC (.str (kS k2))) tNil))) tNil)) σ H Q := by
  refine ⟨_, hσ, by show 2 ≤ sizeLine; decide, fun kl hkl => ?_⟩
  have hS' := same_upd (o := .lst [.str (kS k1), .str (kS k2)]) (Same.refl H) hkl
  refine ⟨R, dx, T, kl, ts, l, n, t, [k1, k2], rfl, hR.same hS', ht, SqL.of upd_same, fun z => (hE z).mono hS', fun z p htp => hQ z p _ ((SameOff.of hS').put rfl) upd_same htp⟩
def lsF (u it : Addr) : List (Str × V) := [("ups", .ref u), ("items_told", .ref it)]
theorem lsF_ups (u it : Addr) : (lsF u it).lookup ("ups" : Str) = some (.ref u) := lk_here
theorem lsF_items (u it : Addr) : (lsF u it).lookup ("items_told" : Str) = some (.ref it) := (lk_past (by decide +kernel)).trans lk_here
theorem rd_ls {T u it : Addr} {n : Nat} (e : rdF T n = lsF u it) : False := by
  have e2 := congrArg (fun x : List (Str × V) => x.head?.map (·.1)) e
  have e3 : (some ("tokens" : Str)) = some ("ups" : Str) := e2
  exact absurd e3 (by decide +kernel)
theorem dp_ints {K : PySem.W.Frag} {H : Hp} : ∀ ns : List Int, DpAll K H (ns.map V.int) (ns.map PyData.int)
  | [] => .nil
  | n :: r => .cons (.int n) (dp_ints r)
theorem lay_ints : ∀ ns : List Int, PyData.canLayAll0 (ns.map PyData.int) = true ∧ PyData.depthAll (ns.map PyData.int) = 0
  | [] => ⟨rfl, rfl⟩
  | n :: r => by
    obtain ⟨a, b⟩ := lay_ints r
    simp [List.map_cons, PyData.canLayAll0, PyData.canLay0, PyData.depthAll, PyData.depth, a, b]
theorem shaped_ints (ns : List Int) : SeqAt.shaped (.list (ns.map PyData.int)) = true := by
  obtain ⟨a, b⟩ := lay_ints ns
  simp [SeqAt.shaped, PyData.canLay0, PyData.depth, a, b]
theorem eqv_nil (ns : List Int) : PyData.eqv (.list (ns.map PyData.int)) (.list []) = decide (ns = []) := by
  cases ns with
  | nil => rfl
  | cons n r => rfl
def sp_read_good_values (K : PySem.W.Frag) (A : Ads) : Sp := fun vs H Q E => ∃ (R dx T li dl u it : Addr) (ts : List Addr) (l : List VaskyBase.PTok) (n : Nat) (ups : List Bool), vs = [.ref R, .ref li] ∧ RdAt K A H R dx T ts l n ∧ (∃ t, l[n]? = some t) ∧ LOk l ∧
  H li = some (.ins A.cListing dl (lsF u it)) ∧ H u = some (.lst (ups.map V.bl)) ∧ ups.length < sizeLine ∧
  (∀ f, goodsM ups [] (l.drop n) = .error f → FaultOff (· = R) A H E f.code f.place) ∧
  (∀ vs m, n ≤ m → (∃ t', l[m]? = some t') → goodsM ups [] (l.drop n) = .ok (vs, l.drop m) → ∀ p H', SameOff (· = R) H H' → H' R = some (rdO A dx T m) → H p = none → H' p = some (.lst (vs.map V.int)) → Q (.ref p) H')
theorem d_read_good_values (T : Tx K mg base A) : Def P w K mg base (L2.CX P w) 6 "read_good_values" ["reader", "listing"] (sp_read_good_values K A) := def_of T.t_read_good_values (fun _ _ _ _ _ _ us hl => match us, hl with | [_, _], _ => rfl) fun f fd F => by
  have nd := sc_read_good_values.nd
  have d_read_value := d_read_value (P := P) (w := w) T
  have d_take := d_take (P := P) (w := w) T
  refine F.okX sc_read_good_values (fun vs H Q E h => ?_) (fun cdv Ar outer s H vs Q E hr h => ⟨_, (pss_cons (ps_set (i := 2) nd rfl (Or.inl rfl) (pe_lst pa_nil))
        (pss_cons (ps_for (passes_of rfl) rfl (pi_list (pe_fld (pv 1) rfl)) (pg_name (i := 3) nd rfl (Or.inl rfl)) (pss_cons (ps_if (pt_cmpR (op_neD hr.units) (pv 2) (pe_lst pa_nil) (nomark _)) (pss_one (ps_expr (pe_dX d_take (hr.mono (by decide)) (takes_of rfl rfl rfl rfl) (pa_cons (pv 0) (pa_cons (pe_lst (pa_cons pe_str pa_nil)) pa_nil))))) pss_nil)
        (pss_cons (ps_set (i := 4) nd rfl (Or.inl rfl) (pe_dX d_read_value (hr.mono (by decide)) (takes_of rfl rfl rfl rfl) (pa_cons (pv 0) pa_nil)))
        (pss_one (ps_expr (pe_bm PySem.F.plainAttrs_list PySem.F.slot_list_append PySem.F.type_list_append mt_append (pv 2) (pa_cons (pe_ifExp (pt_val (pv 3)) (pv 4) (pe_op op_sub pe_int (pv 4))) pa_nil)))))))
        (pss_one (ps_ret (pv 2))))), ?_⟩)
  · obtain ⟨R, dx, T, li, dl, u, it, ts, l, n, ups, rfl, _⟩ := h
    rfl
  · obtain ⟨R, dx, T', li, dl, u, it, ts, l, n, ups, rfl, hR, ht, hl, hli, hu, hz, qE, q⟩ := h
    have C := T.k_Listing.cl
    have n1 := T.k_Listing.no "ups" (by simp)
    refine ⟨by show 0 ≤ sizeLine; decide, fun F hF => ?_⟩
    have neu : ∀ {H' : Hp}, SameOff (· = R) H H' → H' u = some (.lst (ups.map V.bl)) := fun s => s _ _ (fun z => by rw [z, hR.r] at hu; cases hu) hu
    have nli : ∀ {H' : Hp}, SameOff (· = R) H H' → H' li = some (.ins A.cListing dl (lsF u it)) := fun s => s _ _ (fun z => by
      rw [z, hR.r] at hli
      have e := Option.some.inj hli
      injection e with _ _ e
      exact rd_ls e) hli
    have hFR : F ≠ R := fun z => by rw [z, hR.r] at hF; cases hF
    have hS0 := same_upd (o := .lst []) (Same.refl H) hF
    refine ⟨_, rfl, li, _, dl, _, _, rfl, hS0 _ _ hli, C, n1, lsF_ups u it, u, rfl, ⟨_, SqL.of (hS0 _ _ hu)⟩, for_list (K := K) (a := u) (xs := ups.map V.bl)
      (fun i σ H' => ∃ (m : Nat) (vs : List Int) (y z : Option V), σ = [some (.ref R), some (.ref li), some (.ref F), y, z] ∧ SameOff (· = R) H H' ∧ H' F = some (.lst (vs.map V.int)) ∧ H' R = some (rdO A dx T' m) ∧ n ≤ m ∧ (∃ t', l[m]? = some t') ∧ goodsM ups [] (l.drop n) = goodsM (ups.drop i) vs (l.drop m) ∧ vs.length = i)
      ⟨n, [], none, none, rfl, .of hS0, upd_same, hS0 _ _ hR.r, Nat.le_refl _, ht, rfl, rfl⟩ (fun i σ H' _ ⟨_, _, _, _, _, s, _⟩ => SqL.of (neu s)) ?_ ?_⟩
    · rintro i x σ H' hx ⟨m, vs, y, z, rfl, hS, hFv, hRm, hnm, ⟨t, ht⟩, hg, hvl⟩
      obtain ⟨b, hb, rfl⟩ : ∃ b, ups[i]? = some b ∧ V.bl b = x := by
        rw [List.getElem?_map] at hx
        cases e : ups[i]? with
        | none => rw [e] at hx; cases hx
        | some b => rw [e] at hx; exact ⟨b, rfl, Option.some.inj hx⟩
      have hi := (List.getElem?_eq_some_iff.mp hb).1
      have hdrop : ups.drop i = b :: ups.drop (i + 1) := by
        rw [List.drop_eq_getElem_cons hi, (List.getElem?_eq_some_iff.mp hb).2]
      have hR1 := hR.next hS hRm
      have hg1 : goodsM ups [] (l.drop n) = (if vs = [] then .ok (l.drop m) else (takeM [.comma] (l.drop m)).map fun x => x.2).bind fun r => (valueM r).bind fun x => goodsM (ups.drop (i + 1)) (vs ++ [if b = true then x.1 else 0 - x.1]) x.2 := by
        rw [hg, hdrop]
        rfl
      refine ⟨_, rfl, by show 0 ≤ sizeLine; decide, fun e0 he0 => ?_⟩
      have hSe := same_upd (o := .lst []) (Same.refl H') he0
      refine ⟨.list (vs.map PyData.int), .list [], .lst (SqL.of (hSe _ _ hFv)) (dp_ints vs), .lst (SqL.of upd_same) .nil, shaped_ints vs, rfl, _, rfl, ?_⟩
      rw [eqv_nil]
      have hS2 : SameOff (· = R) H (upd H' e0 (.lst [])) := hS.same hSe
      have hR2 := hR1.same hSe
      have hF2 := hSe _ _ hFv
      generalize upd H' e0 (.lst []) = H1 at *
      refine ite2 (fun h1 => ?_) fun h1 => ?_
      · have hne : vs ≠ [] := by simpa using h1
        rw [if_neg hne] at hg1
        have htm : takeM [.comma] (l.drop m) = if kdOf t.tok ∈ [Kd.comma] then .ok (t, l.drop (m + 1)) else .error ⟨3, t.place⟩ := by
          rw [drop_get ht]
          rfl
        refine take1 (A := A) .comma rfl hR2 ht (fun z => (qE ⟨3, t.place⟩ (by rw [hg1, htm, if_neg (by simpa using z)]; rfl)).out hS2) fun z p Hc hsc hrc _ => ?_
        rw [htm, if_pos (by simpa using z)] at hg1
        have hg2 : goodsM ups [] (l.drop n) = (valueM (l.drop (m + 1))).bind fun x => goodsM (ups.drop (i + 1)) (vs ++ [if b = true then x.1 else 0 - x.1]) x.2 := hg1
        obtain ⟨t1, htc⟩ := hl.ends m t ht (by rw [z]; simp)
        have hSc := hS2.trans hsc
        have hFc := hsc _ _ hFR hF2
        have hRc := hR2.next hsc hrc
        refine ⟨_, rfl, R, dx, T', ts, l, (m + 1), t1, rfl, hRc, htc, hl, fun f hf => (qE f (by rw [hg2, hf]; rfl)).off hSc (fun _ h => h), fun v m2 hlt hex hv H2 hs2 hr2 => ?_⟩
        have hF3 := hs2 _ _ hFR hFc
        have hs3 := hSc.trans hs2
        have hsz : (vs.map V.int).length < sizeLine := by
          rw [List.length_map]
          omega
        have hrF : ∀ o, upd H2 F o R = some (rdO A dx T' m2) := fun o => by
          rw [upd_ne (Ne.symm hFR)]
          exact hr2
        have hgf : ∀ val : Int, (if b = true then v else 0 - v) = val → goodsM ups [] (l.drop n) = goodsM (ups.drop (i + 1)) (vs ++ [val]) (l.drop m2) := fun val e => by
          rw [hg2, hv, ← e]
          rfl
        refine ⟨_, rfl, .inl ⟨rfl, _, SqL.of hF3⟩, _, rfl, b, rfl, ite2 (fun hb1 => ⟨_, rfl, F, _, _, rfl, rfl, hF3, hsz, m2, vs ++ [v], _, _, rfl, hs3.fresh hF, ?_, hrF _, by omega, hex, hgf _ (if_pos hb1), ?_⟩) (fun hb1 => ⟨_, rfl, 0, v, rfl, rfl, F, _, _, rfl, rfl, hF3, hsz, m2, vs ++ [0 - v], _, _, rfl, hs3.fresh hF, ?_, hrF _, by omega, hex, hgf _ (if_neg hb1), ?_⟩)⟩
        · rw [upd_same, List.map_append]
          rfl
        · rw [List.length_append, hvl]
          rfl
        · rw [upd_same, List.map_append]
          rfl
        · rw [List.length_append, hvl]
          rfl
      · have hne : vs = [] := by simpa using h1
        rw [if_pos hne] at hg1
        have hg2 : goodsM ups [] (l.drop n) = (valueM (l.drop m)).bind fun x => goodsM (ups.drop (i + 1)) (vs ++ [if b = true then x.1 else 0 - x.1]) x.2 := hg1
        obtain ⟨t1, ht1⟩ : ∃ t1, t1 = t := ⟨t, rfl⟩
        have htc : l[m]? = some t1 := by rw [ht1]; exact ht
        have hSc := hS2
        have hFc := hF2
        have hRc := hR2
        refine ⟨_, rfl, R, dx, T', ts, l, m, t1, rfl, hRc, htc, hl, fun f hf => (qE f (by rw [hg2, hf]; rfl)).off hSc (fun _ h => h), fun v m2 hlt hex hv H2 hs2 hr2 => ?_⟩
        have hF3 := hs2 _ _ hFR hFc
        have hs3 := hSc.trans hs2
        have hsz : (vs.map V.int).length < sizeLine := by
          rw [List.length_map]
          omega
        have hrF : ∀ o, upd H2 F o R = some (rdO A dx T' m2) := fun o => by
          rw [upd_ne (Ne.symm hFR)]
          exact hr2
        have hgf : ∀ val : Int, (if b = true then v else 0 - v) = val → goodsM ups [] (l.drop n) = goodsM (ups.drop (i + 1)) (vs ++ [val]) (l.drop m2) := fun val e => by
          rw [hg2, hv, ← e]
          rfl
        refine ⟨_, rfl, .inl ⟨rfl, _, SqL.of hF3⟩, _, rfl, b, rfl, ite2 (fun hb1 => ⟨_, rfl, F, _, _, rfl, rfl, hF3, hsz, m2, vs ++ [v], _, _, rfl, hs3.fresh hF, ?_, hrF _, by omega, hex, hgf _ (if_pos hb1), ?_⟩) (fun hb1 => ⟨_, rfl, 0, v, rfl, rfl, F, _, _, rfl, rfl, hF3, hsz, m2, vs ++ [0 - v], _, _, rfl, hs3.fresh hF, ?_, hrF _, by omega, hex, hgf _ (if_neg hb1), ?_⟩)⟩
        · rw [upd_same, List.map_append]
          rfl
        · rw [List.length_append, hvl]
          rfl
        · rw [upd_same, List.map_append]
          rfl
        · rw [List.length_append, hvl]
          rfl
    · rintro σ H' ⟨m, vs, y, z, rfl, hS, hFv, hRm, hnm, ht', hg, hvl⟩
      rw [List.length_map, List.drop_length] at hg
      exact ⟨_, rfl, q vs m hnm ht' hg F H' hS hRm hF hFv⟩
end
end BwW
end

section
set_option Elab.async false
set_option linter.all false
set_option maxRecDepth 100000
set_option maxHeartbeats 2000000
namespace BwW
open PySem PySem.Spec PyProof.Rows L2 BwK
open Bw (Kd kdOf okTok takeM takeNameM numberM valueM goodsM measLoop itemsLoop)
section
variable {P : Program} {w : World} {K : PySem.W.Frag} {mg : Str → Option Value} {base : Heap} {A : Ads}
theorem takeM_at {l : List VaskyBase.PTok} {n : Nat} {t : VaskyBase.PTok} (ks : List Kd) (ht : l[n]? = some t) : takeM ks (l.drop n) = if kdOf t.tok ∈ ks then .ok (t, l.drop (n + 1)) else .error ⟨3, t.place⟩ := by
  rw [drop_get ht]
  rfl
theorem takeNameM_at {ns : List VaskyBase.Bytes} {most : Nat} {l : List VaskyBase.PTok} {n : Nat} {t : VaskyBase.PTok} {b : VaskyBase.Bytes} {r : VaskyBase.Toks} (ht : l[n]? = some t) (h : takeNameM ns most (l.drop n) = .ok (b, r)) : r = l.drop (n + 1) ∧ kdOf t.tok = .name ∧ ns.length < most := by
  rw [drop_get ht] at h
  unfold takeNameM at h
  simp only at h
  split at h
  · rename_i h1
    split at h
    · cases h
    · rename_i h2
      split at h
      · cases h
      · cases h
        exact ⟨rfl, h1, by omega⟩
  · cases h
theorem RdAt.next2 {S : Addr → Prop} {H H' : Hp} {R dx T : Addr} {ts : List Addr} {l : List VaskyBase.PTok} {n m : Nat} (h : RdAt K A H R dx T ts l n) (s : SameOff S H H') (hS : ∀ b, S b → b = R ∨ ∃ xs, H b = some (.lst xs) ∧ xs ≠ ts.map V.ref) (e : H' R = some (rdO A dx T m)) : RdAt K A H' R dx T ts l m where
  r := e
  t := by
    rcases h.t with (q | ⟨u, q⟩) | q
    · refine .inl (.inl (s _ _ (fun z => ?_) q))
      rcases hS _ z with z | ⟨xs, z, y⟩
      · rw [z, h.r] at q; cases q
      · rw [z] at q
        exact y (by injection q with q; injection q)
    · refine .inl (.inr ⟨u, s _ _ (fun z => ?_) q⟩)
      rcases hS _ z with z | ⟨xs, z, y⟩
      · rw [z, h.r] at q; cases q
      · rw [z] at q; cases q
    · exact .inr q
  k := h.k.mono2 fun p t q => by
    have ne := q.ne h.r
    obtain ⟨d, q⟩ := q
    refine ⟨d, s _ _ (fun z => ?_) q⟩
    rcases hS _ z with z | ⟨xs, z, y⟩
    · exact ne z
    · rw [z] at q; cases q
theorem toks_ne {H : Hp} {ts : List Addr} {l : List VaskyBase.PTok} {n : Nat} {t : VaskyBase.PTok} (h : ToksAt A H ts l) (ht : l[n]? = some t) : ([] : List V) ≠ ts.map V.ref := fun z => by
  have h1 := h.len
  have h2 := (List.getElem?_eq_some_iff.mp ht).1
  have h3 := congrArg List.length z
  rw [List.length_map] at h3
  simp at h3
  omega
theorem meas_step {fuel : Nat} {ns : List VaskyBase.Bytes} {ups : List Bool} {L : VaskyBase.Toks} : measLoop (fuel + 1) ns ups L = (takeNameM ns 4 L).bind fun x => (takeM [.up, .down] x.2).bind fun u => (takeM [.comma, .semi] u.2).bind fun m =>
      if kdOf m.1.tok = .comma then measLoop fuel (ns ++ [x.1]) (ups ++ [decide (kdOf u.1.tok = .up)]) m.2 else .ok (ups ++ [decide (kdOf u.1.tok = .up)], m.2) := rfl
def measM (L : VaskyBase.Toks) : Except VaskyBase.Fault (List Bool × VaskyBase.Toks) := (takeM [.measures] L).bind fun a => measLoop (a.2.length + 1) [] [] a.2
def sp_read_measures (K : PySem.W.Frag) (A : Ads) : Sp := fun vs H Q E => ∃ (R dx T li dl u it : Addr) (ts : List Addr) (l : List VaskyBase.PTok) (n : Nat), vs = [.ref R, .ref li] ∧ RdAt K A H R dx T ts l n ∧ (∃ t, l[n]? = some t) ∧ LOk l ∧
  H li = some (.ins A.cListing dl (lsF u it)) ∧ H u = some (.lst []) ∧
  (∀ f, measM (l.drop n) = .error f → FaultOff (fun b => b = R ∨ b = u) A H E f.code f.place) ∧
  (∀ ups m, (∃ t', l[m]? = some t') → measM (l.drop n) = .ok (ups, l.drop m) → ups.length ≤ 4 → ∀ H', SameOff (fun b => b = R ∨ b = u) H H' → H' R = some (rdO A dx T m) → H' u = some (.lst (ups.map V.bl)) → Q .non H')
theorem d_read_measures (T : Tx K mg base A) : Def P w K mg base (L2.CX P w) 6 "read_measures" ["reader", "listing"] (sp_read_measures K A) := def_of T.t_read_measures (fun _ _ _ _ _ _ us hl => match us, hl with | [_, _], _ => rfl) fun f fd F => by
  have nd := sc_read_measures.nd
  have d_take := d_take (P := P) (w := w) T
  have d_take_name := d_take_name (P := P) (w := w) T
  refine F.okX sc_read_measures (fun vs H Q E h => ?_) (fun cdv Ar outer s H vs Q E hr h => ⟨_, (pss_cons (ps_set (i := 2) nd rfl (Or.inl rfl) (pe_lst pa_nil))
        (pss_cons (ps_expr (pe_dX d_take (hr.mono (by decide)) (takes_of rfl rfl rfl rfl) (pa_cons (pv 0) (pa_cons (pe_lst (pa_cons pe_str pa_nil)) pa_nil))))
        (pss_cons (ps_set (i := 3) nd rfl (Or.inl rfl) pe_str)
        (pss_one (ps_while (passes_of rfl) (pt_cmpR op_eq (pv 3) pe_str (nomark _)) (pss_cons (ps_expr (pe_bm PySem.F.plainAttrs_list PySem.F.slot_list_append PySem.F.type_list_append mt_append (pv 2) (pa_cons (pe_dX d_take_name (hr.mono (by decide)) (takes_of rfl rfl rfl rfl) (pa_cons (pv 0) (pa_cons (pv 2) (pa_cons (pe_gi T.g_MOST_MEASURES) pa_nil)))) pa_nil)))
        (pss_cons (ps_expr (pe_bm PySem.F.plainAttrs_list PySem.F.slot_list_append PySem.F.type_list_append mt_append (pe_fld (pv 1) rfl) (pa_cons (pe_cmpR op_eq (pe_fld (pe_dX d_take (hr.mono (by decide)) (takes_of rfl rfl rfl rfl) (pa_cons (pv 0) (pa_cons (pe_lst (pa_cons pe_str (pa_cons pe_str pa_nil))) pa_nil))) rfl) pe_str (nomark _)) pa_nil)))
        (pss_one (ps_set (i := 3) nd rfl (Or.inl rfl) (pe_fld (pe_dX d_take (hr.mono (by decide)) (takes_of rfl rfl rfl rfl) (pa_cons (pv 0) (pa_cons (pe_lst (pa_cons pe_str (pa_cons pe_str pa_nil))) pa_nil))) rfl)))))))))), ?_⟩)
  · obtain ⟨R, dx, T, li, dl, u, it, ts, l, n, rfl, _⟩ := h
    rfl
  · obtain ⟨R, dx, T', li, dl, u, it, ts, l, n, rfl, hR, ⟨t0, ht0⟩, hl, hli, hu, qE, q⟩ := h
    have C := T.k_Listing.cl
    have C2 := T.k_Token.cl
    have n1 := T.k_Listing.no "ups" (by simp)
    have n2 := T.k_Token.no "kind" (by simp)
    refine ⟨by show 0 ≤ sizeLine; decide, fun NL hNL => ?_⟩
    have hS0 := same_upd (o := .lst []) (Same.refl H) hNL
    have huR : u ≠ R := fun z => by rw [z, hR.r] at hu; cases hu
    have hliR : li ≠ R := fun z => by
      rw [z, hR.r] at hli
      have e := Option.some.inj hli
      injection e with _ _ e
      exact rd_ls e
    have hliu : li ≠ u := fun z => by rw [z, hu] at hli; cases hli
    have hNR : NL ≠ R := fun z => by rw [z, hR.r] at hNL; cases hNL
    have hNu : NL ≠ u := fun z => by rw [z, hu] at hNL; cases hNL
    have sR : ∀ b, b = R → b = R ∨ b = u := fun b z => .inl z
    have hR0 := hR.same hS0
    have hms : measM (l.drop n) = if kdOf t0.tok ∈ [Kd.measures] then measLoop ((l.drop (n + 1)).length + 1) [] [] (l.drop (n + 1)) else .error ⟨3, t0.place⟩ := by
      unfold measM
      rw [takeM_at _ ht0]
      split <;> rfl
    refine take1 (A := A) .measures rfl hR0 ht0 (fun z => (qE ⟨3, t0.place⟩ (by rw [hms, if_neg (by simpa using z)])).out (.of hS0)) fun z p0 H1 hs1 hr1 _ => ?_
    rw [if_pos (by simpa using z)] at hms
    obtain ⟨t1, ht1⟩ := hl.ends n t0 ht0 (by rw [z]; simp)
    have hN1 : H1 NL = some (.lst []) := hs1 _ _ hNR upd_same
    have hu1 : H1 u = some (.lst []) := hs1 _ _ huR (hS0 _ _ hu)
    have hsH1 : SameOff (fun b => b = R ∨ b = u) H H1 := (SameOff.of hS0).trans (hs1.mono sR)
    let W : Nat → L2.St → Hp → Prop := fun k σ H' => ∃ (kd : Kd) (m : Nat) (ns : List VaskyBase.Bytes) (ups : List Bool), σ = [some (.ref R), some (.ref li), some (.ref NL), some (.str (kS kd))] ∧ k = (if kd = .comma then l.length - m + 1 else 0) ∧ SameOff (fun b => b = R ∨ b = u) H H' ∧ H' R = some (rdO A dx T' m) ∧
      H' NL = some (.lst (nmV ns)) ∧ H' u = some (.lst (ups.map V.bl)) ∧ (∃ t', l[m]? = some t') ∧ ns.length ≤ 4 ∧ ups.length = ns.length ∧
      ∃ fuel, (l.drop m).length < fuel ∧ measM (l.drop n) = (if kd = .comma then measLoop fuel ns ups (l.drop m) else .ok (ups, l.drop m))
    refine ⟨W, ⟨_, .comma, n + 1, [], [], rfl, rfl, hsH1, hr1, hN1, hu1, ⟨t1, ht1⟩, by simp, rfl, _, Nat.lt_succ_self _, ?_⟩, ?_⟩
    · rw [if_pos rfl]
      exact hms
    rintro k σ H' ⟨kd, m, ns, ups, rfl, rfl, hS, hRm, hNm, hum, ⟨t, ht⟩, hn4, hul, fuel, hfu, hov⟩
    obtain ⟨fuel, rfl⟩ : ∃ f, fuel = f + 1 := ⟨fuel - 1, by omega⟩
    refine ⟨_, rfl, rfl, _, rfl, ?_⟩
    rw [show decide (V.str (kS kd) = V.str ",") = decide (kd = .comma) from dec_kS kd .comma]
    refine ite2 (fun h1 => ?_) fun h1 => ?_
    · obtain rfl : kd = .comma := of_decide_eq_true h1
      rw [if_pos rfl, meas_step] at hov
      rw [if_pos rfl]
      have hRd : RdAt K A H' R dx T' ts l m := hR.next2 hS (fun b z => z.imp id fun z => ⟨[], by rw [z]; exact hu, toks_ne hR.k ht0⟩) hRm
      refine ⟨fun σ' H'' => ∃ m', m' < l.length - m + 1 ∧ W m' σ' H'', fun _ _ h => h, ?_⟩
      refine ⟨_, rfl, .inl ⟨rfl, _, SqL.of hNm⟩, _, rfl, _, rfl, R, dx, T', NL, ts, l, m, t, ns, 4, rfl, hRd, ht, hl.at ht, SqL.of hNm, fun f hf => ?_, fun b r hbr H2 hs2 hr2 => ?_⟩
      · exact (qE f (by rw [hov, hf]; rfl)).off hS sR
      obtain ⟨rfl, hk0, hn3⟩ := takeNameM_at ht hbr
      rw [hbr] at hov
      obtain ⟨t2, ht2⟩ := hl.ends m t ht (by rw [hk0]; simp)
      have hov2 : measM (l.drop n) = (takeM [.up, .down] (l.drop (m + 1))).bind fun u => (takeM [.comma, .semi] u.2).bind fun x =>
          if kdOf x.1.tok = .comma then measLoop fuel (ns ++ [b]) (ups ++ [decide (kdOf u.1.tok = .up)]) x.2 else .ok (ups ++ [decide (kdOf u.1.tok = .up)], x.2) := hov
      rw [takeM_at _ ht2] at hov2
      have hN2 := hs2 _ _ hNR hNm
      have hu2 := hs2 _ _ huR hum
      have hls2 : ∀ {Hx : Hp}, SameOff (fun b => b = R ∨ b = u) H Hx → Hx li = some (.ins A.cListing dl (lsF u it)) := fun s => s _ _ (fun z => z.elim hliR hliu) hli
      refine ⟨NL, _, _, rfl, rfl, hN2, ?_, ?_⟩
      · unfold nmV
        rw [List.length_map]
        exact Nat.lt_of_le_of_lt hn4 (by decide)
      have hsA : SameOff (fun b => b = R ∨ b = u) H (upd H2 NL (.lst (nmV ns ++ [.str (strOf b)]))) := (hS.trans (hs2.mono sR)).fresh hNL
      have hrA : (upd H2 NL (.lst (nmV ns ++ [.str (strOf b)]))) R = some (rdO A dx T' (m + 1)) := by rw [upd_ne (Ne.symm hNR)]; exact hr2
      have hNA : (upd H2 NL (.lst (nmV ns ++ [.str (strOf b)]))) NL = some (.lst (nmV (ns ++ [b]))) := by
        rw [upd_same]
        unfold nmV
        rw [List.map_append]
        rfl
      have huA : (upd H2 NL (.lst (nmV ns ++ [.str (strOf b)]))) u = some (.lst (ups.map V.bl)) := by rw [upd_ne (Ne.symm hNu)]; exact hu2
      generalize upd H2 NL (.lst (nmV ns ++ [.str (strOf b)])) = HA at *
      have hRA : RdAt K A HA R dx T' ts l (m + 1) := hR.next2 hsA (fun b z => z.imp id fun z => ⟨[], by rw [z]; exact hu, toks_ne hR.k ht0⟩) hrA
      refine ⟨_, rfl, li, _, dl, _, _, rfl, hls2 hsA, C, n1, lsF_ups u it, .inl ⟨rfl, _, SqL.of huA⟩, ?_⟩
      refine take2 (A := A) .up .down rfl hRA ht2 (fun z => (qE ⟨3, t2.place⟩ (by rw [hov2, if_neg z]; rfl)).out hsA) fun z p Hb hsb hrb ⟨d, hp⟩ => ⟨p, _, d, _, _, rfl, hp, C2, n2, tokF_kind t2, rfl, ?_⟩
      rw [if_pos z] at hov2
      have hov3 : measM (l.drop n) = (takeM [.comma, .semi] (l.drop (m + 1 + 1))).bind fun x =>
          if kdOf x.1.tok = .comma then measLoop fuel (ns ++ [b]) (ups ++ [decide (kdOf t2.tok = .up)]) x.2 else .ok (ups ++ [decide (kdOf t2.tok = .up)], x.2) := hov2
      obtain ⟨t3, ht3⟩ := hl.ends (m + 1) t2 ht2 (fun y => by rw [y] at z; simp at z)
      rw [takeM_at _ ht3] at hov3
      rw [show decide (V.str (kS (kdOf t2.tok)) = V.str "up") = decide (kdOf t2.tok = .up) from dec_kS _ .up]
      have hub := hsb _ _ huR huA
      have hNb := hsb _ _ hNR hNA
      refine ⟨u, _, _, rfl, rfl, hub, ?_, ?_⟩
      · rw [List.length_map]
        exact Nat.lt_of_le_of_lt (show ups.length ≤ 4 by omega) (by decide)
      have hsC : SameOff (fun b => b = R ∨ b = u) H (upd Hb u (.lst (ups.map V.bl ++ [.bl (decide (kdOf t2.tok = .up))]))) := (hsA.trans (hsb.mono sR)).put (.inr rfl)
      have hrC : (upd Hb u (.lst (ups.map V.bl ++ [.bl (decide (kdOf t2.tok = .up))]))) R = some (rdO A dx T' (m + 1 + 1)) := by rw [upd_ne (Ne.symm huR)]; exact hrb
      have hNC : (upd Hb u (.lst (ups.map V.bl ++ [.bl (decide (kdOf t2.tok = .up))]))) NL = some (.lst (nmV (ns ++ [b]))) := by rw [upd_ne hNu]; exact hNb
      have huC : (upd Hb u (.lst (ups.map V.bl ++ [.bl (decide (kdOf t2.tok = .up))]))) u = some (.lst ((ups ++ [decide (kdOf t2.tok = .up)]).map V.bl)) := by
        rw [upd_same, List.map_append]
        rfl
      generalize upd Hb u (.lst (ups.map V.bl ++ [.bl (decide (kdOf t2.tok = .up))])) = HC at *
      have hRC : RdAt K A HC R dx T' ts l (m + 1 + 1) := hR.next2 hsC (fun b z => z.imp id fun z => ⟨[], by rw [z]; exact hu, toks_ne hR.k ht0⟩) hrC
      refine take2 (A := A) .comma .semi rfl hRC ht3 (fun z => (qE ⟨3, t3.place⟩ (by rw [hov3, if_neg z]; rfl)).out hsC) fun z3 p3 HD hsd hrd ⟨d3, hp3⟩ => ⟨p3, _, d3, _, _, rfl, hp3, C2, n2, tokF_kind t3, ?_⟩
      rw [if_pos z3] at hov3
      have hov4 : measM (l.drop n) = if kdOf t3.tok = .comma then measLoop fuel (ns ++ [b]) (ups ++ [decide (kdOf t2.tok = .up)]) (l.drop (m + 1 + 1 + 1)) else .ok (ups ++ [decide (kdOf t2.tok = .up)], l.drop (m + 1 + 1 + 1)) := hov3
      obtain ⟨t4, ht4⟩ := hl.ends (m + 1 + 1) t3 ht3 (fun y => by rw [y] at z3; simp at z3)
      have hml : m + 1 + 1 + 1 < l.length := (List.getElem?_eq_some_iff.mp ht4).1
      refine ⟨_, ?_, kdOf t3.tok, m + 1 + 1 + 1, ns ++ [b], ups ++ [decide (kdOf t2.tok = .up)], rfl, rfl, hsC.trans (hsd.mono sR), hrd, hsd _ _ hNR hNC, hsd _ _ huR huC, ⟨t4, ht4⟩, ?_, ?_, fuel, ?_, hov4⟩
      · split <;> omega
      · rw [List.length_append, List.length_singleton]
        omega
      · rw [List.length_append, List.length_append, hul]
        rfl
      · rw [List.length_drop] at hfu ⊢
        omega
    · have h1' : kd ≠ .comma := fun z => h1 (decide_eq_true z)
      rw [if_neg h1'] at hov
      exact q ups m ⟨t, ht⟩ hov (by omega) H' hS hRm hum
end
end BwW
end

section
set_option Elab.async false
set_option linter.all false
set_option maxRecDepth 100000
set_option maxHeartbeats 2000000
namespace BwW
open PySem PySem.Spec PyProof.Rows L2 BwK
open Bw (Kd kdOf okTok takeM takeNameM numberM valueM goodsM measLoop itemsLoop)
section
variable {P : Program} {w : World} {K : PySem.W.Frag} {mg : Str → Option Value} {base : Heap} {A : Ads}
/-- at a: lists of whole numbers, one each row -/
def RowsAt (H : Hp) : List Addr → List (List Int) → Prop
  | [], [] => True
  | p :: ps, r :: rs => H p = some (.lst (r.map V.int)) ∧ RowsAt H ps rs
  | _, _ => False
theorem RowsAt.mono {H H' : Hp} : ∀ {ps : List Addr} {rs : List (List Int)}, (∀ p ∈ ps, ∀ xs, H p = some (.lst xs) → H' p = some (.lst xs)) → RowsAt H ps rs → RowsAt H' ps rs
  | [], [], _, _ => trivial
  | _ :: _, _ :: _, h, ⟨a, b⟩ => ⟨h _ (List.mem_cons_self ..) _ a, RowsAt.mono (fun p hp => h p (List.mem_cons_of_mem _ hp)) b⟩
theorem RowsAt.snoc {H : Hp} {p : Addr} {r : List Int} (h : H p = some (.lst (r.map V.int))) : ∀ {ps : List Addr} {rs : List (List Int)}, RowsAt H ps rs → RowsAt H (ps ++ [p]) (rs ++ [r])
  | [], [], _ => ⟨h, trivial⟩
  | _ :: _, _ :: _, ⟨a, b⟩ => ⟨a, RowsAt.snoc h b⟩
theorem RowsAt.len {H : Hp} : ∀ {ps : List Addr} {rs : List (List Int)}, RowsAt H ps rs → ps.length = rs.length
  | [], [], _ => rfl
  | _ :: _, _ :: _, ⟨_, b⟩ => congrArg (· + 1) (RowsAt.len b)
theorem RowsAt.get {H : Hp} : ∀ {ps : List Addr} {rs : List (List Int)} {i : Nat} {r : List Int}, RowsAt H ps rs → rs[i]? = some r → ∃ p, ps[i]? = some p ∧ H p = some (.lst (r.map V.int))
  | [], [], i, _, _, h => by simp at h
  | p :: _, _ :: _, 0, _, ⟨a, _⟩, h => ⟨p, rfl, by cases h; exact a⟩
  | _ :: ps, _ :: ts, i + 1, t, ⟨_, b⟩, h => RowsAt.get (i := i) b h
theorem RowsAt.mem {H : Hp} : ∀ {ps : List Addr} {rs : List (List Int)} {p : Addr}, RowsAt H ps rs → p ∈ ps → ∃ xs, H p = some (.lst xs)
  | p :: _, _ :: _, q, ⟨a, b⟩, h => (List.mem_cons.mp h).elim (fun e => by rw [e]; exact ⟨_, a⟩) fun h => RowsAt.mem b h
theorem items_step {ups : List Bool} {fuel : Nat} {ns : List VaskyBase.Bytes} {rows : List (List Int)} {L : VaskyBase.Toks} : itemsLoop ups (fuel + 1) ns rows L = if kdOf ((L.head?.map VaskyBase.PTok.tok).getD .last) = .item then
      (if 16 ≤ ns.length then .error ⟨4, VaskyBase.here L⟩ else (takeM [.item] L).bind fun a => (takeNameM ns 16 a.2).bind fun x => (takeM [.colon] x.2).bind fun c => (goodsM ups [] c.2).bind fun v => (takeM [.semi] v.2).bind fun m =>
        itemsLoop ups fuel (ns ++ [x.1]) (rows ++ [v.1]) m.2)
    else .ok (rows, L) := rfl
def sp_read_items (K : PySem.W.Frag) (A : Ads) : Sp := fun vs H Q E => ∃ (R dx T li dl u it : Addr) (ts : List Addr) (l : List VaskyBase.PTok) (n : Nat) (ups : List Bool), vs = [.ref R, .ref li] ∧ RdAt K A H R dx T ts l n ∧ (∃ t, l[n]? = some t) ∧ LOk l ∧
  H li = some (.ins A.cListing dl (lsF u it)) ∧ H u = some (.lst (ups.map V.bl)) ∧ ups.length ≤ 4 ∧ H it = some (.lst []) ∧ u ≠ it ∧
  (∀ f, itemsLoop ups ((l.drop n).length + 1) [] [] (l.drop n) = .error f → FaultOff (fun b => b = R ∨ b = it) A H E f.code f.place) ∧
  (∀ rows m, (∃ t', l[m]? = some t') → itemsLoop ups ((l.drop n).length + 1) [] [] (l.drop n) = .ok (rows, l.drop m) → rows.length ≤ 16 → ∀ rs H', SameOff (fun b => b = R ∨ b = it) H H' → H' R = some (rdO A dx T m) → H' it = some (.lst (rs.map V.ref)) → RowsAt H' rs rows → (∀ p ∈ rs, H p = none) → Q .non H')
theorem d_read_items (T : Tx K mg base A) : Def P w K mg base (L2.CX P w) 7 "read_items" ["reader", "listing"] (sp_read_items K A) := def_of T.t_read_items (fun _ _ _ _ _ _ us hl => match us, hl with | [_, _], _ => rfl) fun f fd F => by
  have nd := sc_read_items.nd
  have d_take := d_take (P := P) (w := w) T
  have d_here := d_here (P := P) (w := w) T
  have d_refuse_here := d_refuse_here (P := P) (w := w) T
  have d_take_name := d_take_name (P := P) (w := w) T
  have d_read_good_values := d_read_good_values (P := P) (w := w) T
  refine F.okX sc_read_items (fun vs H Q E h => ?_) (fun cdv Ar outer s H vs Q E hr h => ⟨_, (pss_cons (ps_set (i := 2) nd rfl (Or.inl rfl) (pe_lst pa_nil))
        (pss_one (ps_while (passes_of rfl) (pt_cmpR op_eq (pe_fld (pe_d d_here (hr.mono (by decide)) (pa_cons (pv 0) pa_nil)) rfl) pe_str (nomark _)) (pss_cons (ps_if (pt_cmpR op_ge (pe_callB call_len_seq (by rfl) T.b_len PySem.boot_len (pa_cons (pv 2) pa_nil)) (pe_gi T.g_MOST_ITEMS) (nomark _)) (pss_one (ps_expr (pe_dX d_refuse_here (hr.mono (by decide)) (takes_of rfl rfl rfl rfl) (pa_cons (pv 0) (pa_cons (pe_gi T.g_TOO_MANY) pa_nil))))) pss_nil)
        (pss_cons (ps_expr (pe_dX d_take (hr.mono (by decide)) (takes_of rfl rfl rfl rfl) (pa_cons (pv 0) (pa_cons (pe_lst (pa_cons pe_str pa_nil)) pa_nil))))
        (pss_cons (ps_expr (pe_bm PySem.F.plainAttrs_list PySem.F.slot_list_append PySem.F.type_list_append mt_append (pv 2) (pa_cons (pe_dX d_take_name (hr.mono (by decide)) (takes_of rfl rfl rfl rfl) (pa_cons (pv 0) (pa_cons (pv 2) (pa_cons (pe_gi T.g_MOST_ITEMS) pa_nil)))) pa_nil)))
        (pss_cons (ps_expr (pe_dX d_take (hr.mono (by decide)) (takes_of rfl rfl rfl rfl) (pa_cons (pv 0) (pa_cons (pe_lst (pa_cons pe_str pa_nil)) pa_nil))))
        (pss_cons (ps_expr (pe_bm PySem.F.plainAttrs_list PySem.F.slot_list_append PySem.F.type_list_append mt_append (pe_fld (pv 1) rfl) (pa_cons (pe_dX d_read_good_values (hr.mono (by decide)) (takes_of rfl rfl rfl rfl) (pa_cons (pv 0) (pa_cons (pv 1) pa_nil))) pa_nil)))
        (pss_one (ps_expr (pe_dX d_take (hr.mono (by decide)) (takes_of rfl rfl rfl rfl) (pa_cons (pv 0) (pa_cons (pe_lst (pa_cons pe_str pa_nil)) pa_nil))))))))))))), ?_⟩)
  · obtain ⟨R, dx, T, li, dl, u, it, ts, l, n, ups, rfl, _⟩ := h
    rfl
  · obtain ⟨R, dx, T', li, dl, u, it, ts, l, n, ups, rfl, hR, ⟨t0, ht0⟩, hl, hli, hu, hul, hit, hui, qE, q⟩ := h
    have C := T.k_Listing.cl
    have C2 := T.k_Token.cl
    have n1 := T.k_Listing.no "items_told" (by simp)
    have n2 := T.k_Token.no "kind" (by simp)
    refine ⟨by show 0 ≤ sizeLine; decide, fun NL hNL => ?_⟩
    have hS0 := same_upd (o := .lst []) (Same.refl H) hNL
    have hiR : it ≠ R := fun z => by rw [z, hR.r] at hit; cases hit
    have huR : u ≠ R := fun z => by rw [z, hR.r] at hu; cases hu
    have hliR : li ≠ R := fun z => by
      rw [z, hR.r] at hli
      have e := Option.some.inj hli
      injection e with _ _ e
      exact rd_ls e
    have hliI : li ≠ it := fun z => by rw [z, hit] at hli; cases hli
    have hNR : NL ≠ R := fun z => by rw [z, hR.r] at hNL; cases hNL
    have hNi : NL ≠ it := fun z => by rw [z, hit] at hNL; cases hNL
    have sR : ∀ b, b = R → b = R ∨ b = it := fun b z => .inl z
    have hov0 : ∃ ov, itemsLoop ups ((l.drop n).length + 1) [] [] (l.drop n) = ov := ⟨_, rfl⟩
    obtain ⟨ov, hov0⟩ := hov0
    rw [hov0] at qE q
    let W : Nat → L2.St → Hp → Prop := fun k σ H' => ∃ (m : Nat) (ns : List VaskyBase.Bytes) (rows : List (List Int)) (rs : List Addr), σ = [some (.ref R), some (.ref li), some (.ref NL)] ∧ k = l.length - m ∧ SameOff (fun b => b = R ∨ b = it) H H' ∧ H' R = some (rdO A dx T' m) ∧
      H' NL = some (.lst (nmV ns)) ∧ H' it = some (.lst (rs.map V.ref)) ∧ RowsAt H' rs rows ∧ (∀ p ∈ rs, H p = none ∧ p ≠ NL) ∧ (∃ t', l[m]? = some t') ∧ ns.length ≤ 16 ∧ rows.length = ns.length ∧
      ∃ fuel, (l.drop m).length < fuel ∧ ov = itemsLoop ups fuel ns rows (l.drop m)
    have hRx : ∀ {Hx : Hp} {m : Nat}, SameOff (fun b => b = R ∨ b = it) H Hx → Hx R = some (rdO A dx T' m) → RdAt K A Hx R dx T' ts l m := fun s e => hR.next2 s (fun b z => z.imp id fun z => ⟨[], by rw [z]; exact hit, toks_ne hR.k ht0⟩) e
    have hls : ∀ {Hx : Hp}, SameOff (fun b => b = R ∨ b = it) H Hx → Hx li = some (.ins A.cListing dl (lsF u it)) := fun s => s _ _ (fun z => z.elim hliR hliI) hli
    have hus : ∀ {Hx : Hp}, SameOff (fun b => b = R ∨ b = it) H Hx → Hx u = some (.lst (ups.map V.bl)) := fun s => s _ _ (fun z => z.elim huR hui) hu
    refine ⟨W, ⟨_, n, [], [], [], rfl, rfl, .of hS0, hS0 _ _ hR.r, upd_same, hS0 _ _ hit, trivial, fun p hp => absurd hp (by simp), ⟨t0, ht0⟩, by simp, rfl, _, Nat.lt_succ_self _, hov0.symm⟩, ?_⟩
    rintro k σ H' ⟨m, ns, rows, rs, rfl, rfl, hS, hRm, hNm, him, hrm, hrn, ⟨t, ht⟩, hn16, hrl, fuel, hfu, hov⟩
    obtain ⟨fuel, rfl⟩ : ∃ f, fuel = f + 1 := ⟨fuel - 1, by omega⟩
    have hRd := hRx hS hRm
    have hov1 : ov = if kdOf t.tok = .item then (if 16 ≤ ns.length then .error ⟨4, t.place⟩ else (takeM [.item] (l.drop m)).bind fun a => (takeNameM ns 16 a.2).bind fun x => (takeM [.colon] x.2).bind fun c => (goodsM ups [] c.2).bind fun v => (takeM [.semi] v.2).bind fun y =>
        itemsLoop ups fuel (ns ++ [x.1]) (rows ++ [v.1]) y.2) else .ok (rows, l.drop m) := by
      rw [hov, items_step, drop_get ht]
      rfl
    refine ⟨_, rfl, R, dx, T', ts, l, m, t, rfl, hRd, ht, fun p ⟨d, hp⟩ => ⟨p, _, d, _, _, rfl, hp, C2, n2, tokF_kind t, rfl, _, rfl, ?_⟩⟩
    rw [show decide (V.str (kS (kdOf t.tok)) = V.str "item") = decide (kdOf t.tok = .item) from dec_kS _ .item]
    refine ite2 (fun h1 => ?_) fun h1 => ?_
    · have hk := of_decide_eq_true h1
      rw [if_pos hk] at hov1
      refine ⟨fun σ' H'' => ∃ m', m' < l.length - m ∧ W m' σ' H'', fun _ _ h => h, ?_⟩
      refine ⟨_, rfl, NL, _, rfl, .inl (SqL.of hNm), _, _, rfl, rfl, _, rfl, ?_⟩
      rw [show (nmV ns).length = ns.length from List.length_map ..]
      refine ite2 (fun h2 => ?_) fun h2 => ?_
      · have h2' : 16 ≤ ns.length := by simp only [decide_eq_true_eq] at h2; omega
        rw [if_pos h2'] at hov1
        exact ⟨_, rfl, R, dx, T', ts, l, m, t, 4, rfl, hRd, ht, (qE ⟨4, t.place⟩ hov1).out hS⟩
      have h2' : ¬ 16 ≤ ns.length := by simp only [decide_eq_true_eq] at h2; omega
      rw [if_neg h2', takeM_at _ ht, if_pos (by simp [hk])] at hov1
      refine take1 (A := A) .item rfl hRd ht (fun z => absurd hk z) fun _ p1 H1 hs1 hr1 _ => ?_
      have hov2 : ov = (takeNameM ns 16 (l.drop (m + 1))).bind fun x => (takeM [.colon] x.2).bind fun c => (goodsM ups [] c.2).bind fun v => (takeM [.semi] v.2).bind fun y =>
        itemsLoop ups fuel (ns ++ [x.1]) (rows ++ [v.1]) y.2 := hov1
      obtain ⟨t1, ht1⟩ := hl.ends m t ht (by rw [hk]; simp)
      have hsA := hS.trans (hs1.mono sR)
      have hR1 := hRx hsA hr1
      have hN1 := hs1 _ _ hNR hNm
      have hi1 := hs1 _ _ hiR him
      have rowR : ∀ {Ha Hb : Hp} {rs : List Addr} {rows : List (List Int)} {j : Nat}, RowsAt Ha rs rows → Ha R = some (rdO A dx T' j) → SameOff (· = R) Ha Hb → RowsAt Hb rs rows := fun hr ha s => hr.mono fun p hp xs e => s _ _ (fun z => by rw [z, ha] at e; cases e) e
      have hrA := rowR hrm hRm hs1
      refine ⟨_, rfl, .inl ⟨rfl, _, SqL.of hN1⟩, _, rfl, _, rfl, R, dx, T', NL, ts, l, m + 1, t1, ns, 16, rfl, hR1, ht1, hl.at ht1, SqL.of hN1, fun f hf => (qE f (by rw [hov2, hf]; rfl)).off hsA sR, fun b r hbr H2 hs2 hr2 => ?_⟩
      obtain ⟨rfl, hk1, _⟩ := takeNameM_at ht1 hbr
      rw [hbr] at hov2
      obtain ⟨t2, ht2⟩ := hl.ends (m + 1) t1 ht1 (by rw [hk1]; simp)
      have hov3 : ov = (takeM [.colon] (l.drop (m + 1 + 1))).bind fun c => (goodsM ups [] c.2).bind fun v => (takeM [.semi] v.2).bind fun y =>
        itemsLoop ups fuel (ns ++ [b]) (rows ++ [v.1]) y.2 := hov2
      rw [takeM_at _ ht2] at hov3
      have hN2 := hs2 _ _ hNR hN1
      have hi2 := hs2 _ _ hiR hi1
      have hrB := rowR hrA hr1 hs2
      have hnl : (nmV ns).length = ns.length := List.length_map ..
      refine ⟨NL, _, _, rfl, rfl, hN2, by rw [hnl]; exact Nat.lt_of_le_of_lt hn16 (by decide), ?_⟩
      have hsC : SameOff (fun b => b = R ∨ b = it) H (upd H2 NL (.lst (nmV ns ++ [.str (strOf b)]))) := (hsA.trans (hs2.mono sR)).fresh hNL
      have hrC : (upd H2 NL (.lst (nmV ns ++ [.str (strOf b)]))) R = some (rdO A dx T' (m + 1 + 1)) := by rw [upd_ne (Ne.symm hNR)]; exact hr2
      have hNC : (upd H2 NL (.lst (nmV ns ++ [.str (strOf b)]))) NL = some (.lst (nmV (ns ++ [b]))) := by
        rw [upd_same]
        unfold nmV
        rw [List.map_append]
        rfl
      have hiC : (upd H2 NL (.lst (nmV ns ++ [.str (strOf b)]))) it = some (.lst (rs.map V.ref)) := by rw [upd_ne (Ne.symm hNi)]; exact hi2
      have hrwC : RowsAt (upd H2 NL (.lst (nmV ns ++ [.str (strOf b)]))) rs rows := hrB.mono fun p hp xs e => by
        rw [upd_ne (hrn p hp).2]
        exact e
      generalize upd H2 NL (.lst (nmV ns ++ [.str (strOf b)])) = HC at *
      have hRC := hRx hsC hrC
      refine take1 (A := A) .colon rfl hRC ht2 (fun z => (qE ⟨3, t2.place⟩ (by rw [hov3, if_neg (by simpa using z)]; rfl)).out hsC) fun z2 p2 HD hsd hrd _ => ?_
      rw [if_pos (by simpa using z2)] at hov3
      have hov4 : ov = (goodsM ups [] (l.drop (m + 1 + 1 + 1))).bind fun v => (takeM [.semi] v.2).bind fun y => itemsLoop ups fuel (ns ++ [b]) (rows ++ [v.1]) y.2 := hov3
      obtain ⟨t3, ht3⟩ := hl.ends (m + 1 + 1) t2 ht2 (by rw [z2]; simp)
      have hsD := hsC.trans (hsd.mono sR)
      have hRD := hRx hsD hrd
      have hND := hsd _ _ hNR hNC
      have hiD := hsd _ _ hiR hiC
      have hrwD := rowR hrwC hrC hsd
      refine ⟨_, rfl, li, _, dl, _, _, rfl, hls hsD, C, n1, lsF_items u it, .inl ⟨rfl, _, SqL.of hiD⟩, ?_⟩
      refine ⟨_, rfl, _, rfl, R, dx, T', li, dl, u, it, ts, l, m + 1 + 1 + 1, ups, rfl, hRD, ⟨t3, ht3⟩, hl, hls hsD, hus hsD, Nat.lt_of_le_of_lt hul (by decide), fun f hf => (qE f (by rw [hov4, hf]; rfl)).off hsD sR, fun vs m2 hlt hex hv pv HE hse hre hpn hpv => ?_⟩
      obtain ⟨t4, ht4⟩ := hex
      rw [hv] at hov4
      have hov5 : ov = (takeM [.semi] (l.drop m2)).bind fun y => itemsLoop ups fuel (ns ++ [b]) (rows ++ [vs]) y.2 := hov4
      rw [takeM_at _ ht4] at hov5
      have hNE := hse _ _ hNR hND
      have hiE := hse _ _ hiR hiD
      have hrwE := rowR hrwD hrd hse
      have hpi : pv ≠ it := fun z => by rw [z, hiD] at hpn; cases hpn
      have hpN : pv ≠ NL := fun z => by rw [z, hND] at hpn; cases hpn
      have hpR : pv ≠ R := fun z => by rw [z, hrd] at hpn; cases hpn
      have hpH : H pv = none := by
        cases e : H pv with
        | none => rfl
        | some o => rw [hsD _ _ (fun z => z.elim hpR hpi) e] at hpn; cases hpn
      have hrsl : (rs.map V.ref).length < sizeLine := by
        rw [List.length_map, hrm.len, hrl]
        exact Nat.lt_of_le_of_lt hn16 (by decide)
      refine ⟨it, _, _, rfl, rfl, hiE, hrsl, ?_⟩
      have hsF : SameOff (fun b => b = R ∨ b = it) H (upd HE it (.lst (rs.map V.ref ++ [.ref pv]))) := (hsD.trans (hse.mono sR)).put (.inr rfl)
      have hrF : (upd HE it (.lst (rs.map V.ref ++ [.ref pv]))) R = some (rdO A dx T' m2) := by rw [upd_ne (Ne.symm hiR)]; exact hre
      have hNF : (upd HE it (.lst (rs.map V.ref ++ [.ref pv]))) NL = some (.lst (nmV (ns ++ [b]))) := by rw [upd_ne hNi]; exact hNE
      have hiF : (upd HE it (.lst (rs.map V.ref ++ [.ref pv]))) it = some (.lst ((rs ++ [pv]).map V.ref)) := by
        rw [upd_same, List.map_append]
        rfl
      have hrwF : RowsAt (upd HE it (.lst (rs.map V.ref ++ [.ref pv]))) (rs ++ [pv]) (rows ++ [vs]) := by
        refine RowsAt.snoc ?_ (hrwE.mono fun p hp xs e => ?_)
        · rw [upd_ne hpi]
          exact hpv
        · rw [upd_ne fun z => ?_]
          · exact e
          · have := (hrn p hp).1
            rw [z, hit] at this
            cases this
      have hrnF : ∀ p ∈ rs ++ [pv], H p = none ∧ p ≠ NL := fun p hp => (List.mem_append.mp hp).elim (hrn p) fun hp => by
        rw [List.mem_singleton.mp hp]
        exact ⟨hpH, hpN⟩
      generalize upd HE it (.lst (rs.map V.ref ++ [.ref pv])) = HF at *
      have hRF := hRx hsF hrF
      refine take1 (A := A) .semi rfl hRF ht4 (fun z => (qE ⟨3, t4.place⟩ (by rw [hov5, if_neg (by simpa using z)]; rfl)).out hsF) fun z4 p4 HG hsg hrg _ => ?_
      rw [if_pos (by simpa using z4)] at hov5
      have hov6 : ov = itemsLoop ups fuel (ns ++ [b]) (rows ++ [vs]) (l.drop (m2 + 1)) := hov5
      obtain ⟨t5, ht5⟩ := hl.ends m2 t4 ht4 (by rw [z4]; simp)
      have hm5 := (List.getElem?_eq_some_iff.mp ht5).1
      refine ⟨_, ?_, m2 + 1, ns ++ [b], rows ++ [vs], rs ++ [pv], rfl, rfl, hsF.trans (hsg.mono sR), hrg, hsg _ _ hNR hNF, hsg _ _ hiR hiF, rowR hrwF hrF hsg, hrnF, ⟨t5, ht5⟩, ?_, ?_, fuel, ?_, hov6⟩
      · omega
      · rw [List.length_append, List.length_singleton]
        omega
      · rw [List.length_append, List.length_append, hrl]
        rfl
      · rw [List.length_drop] at hfu ⊢
        omega
    · have h1' : kdOf t.tok ≠ .item := fun z => h1 (decide_eq_true z)
      rw [if_neg h1'] at hov1
      exact q rows m ⟨t, ht⟩ hov1 (by omega) rs H' hS hRm him hrm fun p hp => (hrn p hp).1
end
end BwW
end

section
set_option Elab.async false
set_option linter.all false
set_option maxRecDepth 100000
set_option maxHeartbeats 2000000
namespace BwW
open PySem PySem.Spec PyProof.Rows L2 BwK
open Bw (Kd kdOf okTok takeM takeNameM numberM valueM goodsM measLoop itemsLoop readM)
section
variable {P : Program} {w : World} {K : PySem.W.Frag} {mg : Str → Option Value} {base : Heap} {A : Ads}
/-! ### the tokens end well -/
def Ended (l : List VaskyBase.PTok) : Prop := (∀ t ∈ l, okTok t.tok = true) ∧ ∃ l' e, l = l' ++ [e] ∧ e.tok = .last ∧ ∀ t ∈ l', t.tok ≠ .last
theorem ended_one (m : Nat) : Ended [⟨m, .last⟩] := ⟨fun t h => by rw [List.mem_singleton.mp h]; rfl, [], ⟨m, .last⟩, rfl, rfl, fun t h => absurd h (by simp)⟩
theorem Ended.cons {t : VaskyBase.PTok} {l : List VaskyBase.PTok} (h1 : okTok t.tok = true) (h2 : t.tok ≠ .last) (h : Ended l) : Ended (t :: l) := by
  obtain ⟨a, l', e, rfl, b, c⟩ := h
  exact ⟨fun x hx => (List.mem_cons.mp hx).elim (fun z => by rw [z]; exact h1) (a x), t :: l', e, rfl, b, fun x hx => (List.mem_cons.mp hx).elim (fun z => by rw [z]; exact h2) (c x)⟩
theorem lex_ended : ∀ (fuel m : Nat) (L : VaskyBase.Bytes) (l : VaskyBase.Toks), VaskyBase.lex fuel m L = .ok l → Ended l
  | 0, m, L, l, h => by
    cases h
    exact ended_one m
  | fuel + 1, m, [], l, h => by
    cases h
    exact ended_one m
  | fuel + 1, m, u :: r, l, h => by
    by_cases h1 : VaskyBase.isBlank u = true
    · rw [lex_blank h1] at h
      exact lex_ended fuel _ _ l h
    · have h1' : VaskyBase.isBlank u = false := by simpa using h1
      by_cases h2 : (u == 35) = true
      · rw [lex_remark h1' h2] at h
        exact lex_ended fuel _ _ l h
      · have h2' : (u == 35) = false := by simpa using h2
        rw [lex_token h1' h2'] at h
        cases e : VaskyBase.token (u :: r) with
        | none => rw [e] at h; cases h
        | some x =>
          rw [e] at h
          obtain ⟨t, len⟩ := x
          obtain ⟨ok, nl, _⟩ := token_ok e
          have h' : (VaskyBase.lex fuel (m + len) ((u :: r).drop len)).map (fun l => ⟨m, t⟩ :: l) = .ok l := h
          cases e2 : VaskyBase.lex fuel (m + len) ((u :: r).drop len) with
          | error f => rw [e2] at h'; cases h'
          | ok l2 =>
            rw [e2] at h'
            cases h'
            exact (lex_ended fuel _ _ l2 e2).cons ok nl
theorem fin_iff {t : VaskyBase.Tok} (ok : okTok t = true) : kdOf t = .fin ↔ t = .last := by
  cases t with
  | name b =>
    rcases Bw.kd_cases b with rfl | rfl | rfl | rfl | ⟨a1, a2, a3, a4⟩
    · rw [Bw.k1]; simp
    · rw [Bw.k2]; simp
    · rw [Bw.k3]; simp
    · rw [Bw.k4]; simp
    · rw [Bw.k5 a1 a2 a3 a4]; simp
  | num n => simp [kdOf]
  | sign c =>
    have h' : c = 44 ∨ c = 58 ∨ c = 59 ∨ c = 45 := of_decide_eq_true ok
    rcases h' with rfl | rfl | rfl | rfl <;> simp [kdOf]
  | last => simp [kdOf]
theorem Ended.lok {l : List VaskyBase.PTok} (h : Ended l) : LOk l := by
  obtain ⟨a, l', e, rfl, b, c⟩ := h
  refine ⟨a, fun n t ht hk => ?_⟩
  have hn : n < l'.length := by
    have h1 := (List.getElem?_eq_some_iff.mp ht).1
    rw [List.length_append, List.length_singleton] at h1
    by_cases hn : n = l'.length
    · subst hn
      rw [List.getElem?_append_right (Nat.le_refl _), Nat.sub_self] at ht
      have ht' : e = t := by simpa using ht
      rw [← ht'] at hk
      exact absurd (by rw [b]; rfl) hk
    · omega
  exact ⟨_, List.getElem?_eq_getElem (by rw [List.length_append, List.length_singleton]; omega)⟩
theorem Ended.first {l : List VaskyBase.PTok} (h : Ended l) : ∃ t, l[0]? = some t := by
  obtain ⟨_, l', e, rfl, _⟩ := h
  cases l' with
  | nil => exact ⟨e, rfl⟩
  | cons x r => exact ⟨x, rfl⟩
theorem tokens_ended {B : VaskyBase.Bytes} {l : VaskyBase.Toks} (h : VaskyBase.tokens B = .ok l) : Ended l := by
  unfold VaskyBase.tokens at h
  split at h
  · cases h
  · exact lex_ended _ _ _ _ h
/-! ### read_list -/
def sp_Reader___init__ (K : PySem.W.Frag) (A : Ads) : Sp := fun vs H Q _ => ∃ (p dx T : Addr), vs = [.ref p, .ref T] ∧ H p = some (.ins A.cReader dx []) ∧
  ∀ H' : Hp, H' p = some (rdO A dx T 0) → (∀ b o, b ≠ p → H b = some o → H' b = some o) → Q .non H'
theorem d_Reader (T : Tx K mg base A) : ClsDef P w K mg base 1 "Reader" A.cReader ["self", "tokens"] (sp_Reader___init__ K A) := cls_of T.k_Reader (fun _ _ _ _ _ _ us hl => match us, hl with | [_, _], _ => rfl) fun f fd F => by
  have nd := sc_Reader___init__.nd
  refine F.ok sc_Reader___init__ (fun vs H Q E h => ?_) (fun cdv Ar outer s H vs Q E hr h => ⟨_, (pss_cons (ps_fld (pv 0) (pv 1) rfl)
        (pss_one (ps_fld (pv 0) pe_int rfl))), ?_⟩)
  · obtain ⟨p, dx, T, rfl, _⟩ := h
    rfl
  · obtain ⟨p, dx, T', rfl, hp, q⟩ := h
    have C := T.k_Reader.cl
    have n1 := T.k_Reader.no "tokens" (by simp)
    have n2 := T.k_Reader.no "at" (by simp)
    refine ⟨_, rfl, _, rfl, p, _, dx, _, rfl, hp, C, n1, by show 0 < 1000; decide, ?_⟩
    refine ⟨_, rfl, p, _, dx, _, rfl, upd_same, C, n2, by show 1 < 1000; decide, ?_⟩
    refine q _ upd_same fun b o hb e => ?_
    rw [upd_ne hb, upd_ne hb]
    exact e
def sp_Listing___init__ (K : PySem.W.Frag) (A : Ads) : Sp := fun vs H Q _ => ∃ (p dx : Addr), vs = [.ref p] ∧ H p = some (.ins A.cListing dx []) ∧
  ∀ (u it : Addr) (H' : Hp), H u = none → H it = none → u ≠ it → H' p = some (.ins A.cListing dx (lsF u it)) → H' u = some (.lst []) → H' it = some (.lst []) → (∀ b o, b ≠ p → H b = some o → H' b = some o) → Q .non H'
theorem d_Listing (T : Tx K mg base A) : ClsDef P w K mg base 1 "Listing" A.cListing ["self"] (sp_Listing___init__ K A) := cls_of T.k_Listing (fun _ _ _ _ _ _ us hl => match us, hl with | [_], _ => rfl) fun f fd F => by
  have nd := sc_Listing___init__.nd
  refine F.ok sc_Listing___init__ (fun vs H Q E h => ?_) (fun cdv Ar outer s H vs Q E hr h => ⟨_, (pss_cons (ps_fld (pv 0) (pe_lst pa_nil) rfl)
        (pss_one (ps_fld (pv 0) (pe_lst pa_nil) rfl))), ?_⟩)
  · obtain ⟨p, dx, rfl, _⟩ := h
    rfl
  · obtain ⟨p, dx, rfl, hp, q⟩ := h
    have C := T.k_Listing.cl
    have n1 := T.k_Listing.no "ups" (by simp)
    have n2 := T.k_Listing.no "items_told" (by simp)
    refine ⟨by show 0 ≤ sizeLine; decide, fun u hu => ?_⟩
    have hpu : p ≠ u := ne_of_none hp hu
    refine ⟨_, rfl, p, _, dx, _, rfl, by rw [upd_ne hpu]; exact hp, C, n1, by show 0 < 1000; decide, ?_⟩
    refine ⟨by show 0 ≤ sizeLine; decide, fun it hit => ?_⟩
    have hpi : p ≠ it := ne_of_none upd_same hit
    have hui : u ≠ it := fun z => by
      rw [← z, upd_ne (Ne.symm hpu), upd_same] at hit
      cases hit
    have hit0 : H it = none := by rw [upd_ne (Ne.symm hpi), upd_ne (Ne.symm hui)] at hit; exact hit
    refine ⟨_, rfl, p, _, dx, _, rfl, by rw [upd_ne hpi, upd_same], C, n2, by show 1 < 1000; decide, ?_⟩
    refine q u it _ hu hit0 hui upd_same ?_ ?_ fun b o hb e => ?_
    · rw [upd_ne (Ne.symm hpu), upd_ne hui, upd_ne (Ne.symm hpu), upd_same]
    · rw [upd_ne (Ne.symm hpi), upd_same]
    · rw [upd_ne hb, upd_ne (ne_of_none e hit0), upd_ne hb, upd_ne (ne_of_none e hu)]
      exact e
/-- at li: the list of ups and rows -/
structure LsAt (A : Ads) (H : Hp) (li dl u it : Addr) (ups : List Bool) (rs : List Addr) (rows : List (List Int)) : Prop where
  l : H li = some (.ins A.cListing dl (lsF u it))
  u : H u = some (.lst (ups.map V.bl))
  i : H it = some (.lst (rs.map V.ref))
  r : RowsAt H rs rows
theorem RowsAt.same {H H' : Hp} (s : Same H H') {ps : List Addr} {rs : List (List Int)} (h : RowsAt H ps rs) : RowsAt H' ps rs := h.mono fun p _ xs e => s _ _ e
theorem LsAt.same {H H' : Hp} {li dl u it : Addr} {ups : List Bool} {rs : List Addr} {rows : List (List Int)} (h : LsAt A H li dl u it ups rs rows) (s : Same H H') : LsAt A H' li dl u it ups rs rows :=
  ⟨s _ _ h.l, s _ _ h.u, s _ _ h.i, h.r.same s⟩
theorem readM_is (l : VaskyBase.Toks) : readM l = (measM l).bind fun m => (itemsLoop m.1 (m.2.length + 1) [] [] m.2).bind fun x => (takeM [.fin] x.2).map fun _ => (m.1, x.1) := by
  unfold readM measM
  cases takeM [.measures] l <;> rfl
def readB (B : VaskyBase.Bytes) : Except VaskyBase.Fault (List Bool × List (List Int)) := (VaskyBase.tokens B).bind readM
def sp_read_list (K : PySem.W.Frag) (A : Ads) : Sp := fun vs H Q E => ∃ (a : Addr) (B : VaskyBase.Bytes), vs = [.ref a] ∧ SqL K H a (byV B) ∧
  (∀ f, readB B = .error f → FaultOff (fun _ => False) A H E f.code f.place) ∧
  (∀ ups rows, readB B = .ok (ups, rows) → ∀ li dl u it rs H', Same H H' → LsAt A H' li dl u it ups rs rows → H u = none → H it = none → (∀ p ∈ rs, H p = none) → Q (.ref li) H')
theorem d_read_list (T : Tx K mg base A) : Def P w K mg base (L2.CX P w) 8 "read_list" ["text"] (sp_read_list K A) := def_of T.t_read_list (fun _ _ _ _ _ _ us hl => match us, hl with | [_], _ => rfl) fun f fd F => by
  have nd := sc_read_list.nd
  have d_Reader := d_Reader (P := P) (w := w) T
  have d_Listing := d_Listing (P := P) (w := w) T
  have d_read_measures := d_read_measures (P := P) (w := w) T
  have d_read_items := d_read_items (P := P) (w := w) T
  have d_take := d_take (P := P) (w := w) T
  have d_tokens_of := d_tokens_of (P := P) (w := w) T
  refine F.okX sc_read_list (fun vs H Q E h => ?_) (fun cdv Ar outer s H vs Q E hr h => ⟨_, (pss_cons (ps_set (i := 1) nd rfl (Or.inl rfl) (pe_c d_Reader (hr.mono (by decide)) (pa_cons (pe_dX d_tokens_of (hr.mono (by decide)) (takes_of rfl rfl rfl rfl) (pa_cons (pv 0) pa_nil)) pa_nil)))
        (pss_cons (ps_set (i := 2) nd rfl (Or.inl rfl) (pe_c0 d_Listing (hr.mono (by decide))))
        (pss_cons (ps_expr (pe_dX d_read_measures (hr.mono (by decide)) (takes_of rfl rfl rfl rfl) (pa_cons (pv 1) (pa_cons (pv 2) pa_nil))))
        (pss_cons (ps_expr (pe_dX d_read_items (hr.mono (by decide)) (takes_of rfl rfl rfl rfl) (pa_cons (pv 1) (pa_cons (pv 2) pa_nil))))
        (pss_cons (ps_expr (pe_dX d_take (hr.mono (by decide)) (takes_of rfl rfl rfl rfl) (pa_cons (pv 1) (pa_cons (pe_lst (pa_cons (pe_gs T.g_END) pa_nil)) pa_nil))))
        (pss_one (ps_ret (pv 2)))))))), ?_⟩)
  · obtain ⟨a, B, rfl, _⟩ := h
    rfl
  · obtain ⟨a, B, rfl, hB, qE, q⟩ := h
    refine ⟨_, rfl, a, B, rfl, hB, fun f hf => (qE f (by unfold readB; rw [hf]; rfl)).out .refl, fun l hl p ts H1 hS1 hp hts _ => ?_⟩
    have hrd : readB B = readM l := by
      unfold readB
      rw [hl]
      rfl
    rw [readM_is] at hrd
    have hE := tokens_ended hl
    have hLok := hE.lok
    obtain ⟨t0, ht0⟩ := hE.first
    intro R dx nR ndx neR
    refine ⟨R, dx, p, rfl, upd_same, fun H2 h2R h2 => ⟨rfl, ?_⟩⟩
    have hS2 : Same H1 H2 := fun b o e => by
      have nb : b ≠ R := ne_of_none e nR
      exact h2 b o nb (by rw [upd_ne nb, upd_ne (ne_of_none e ndx)]; exact e)
    intro li dl nli ndl neli
    refine ⟨li, dl, rfl, upd_same, fun u it H3 hu hit hui h3l h3u h3i h3 => ⟨rfl, ?_⟩⟩
    have e2 : ∀ b o, H2 b = some o → upd (upd H2 dl (.own li)) li (.ins A.cListing dl []) b = some o := fun b o e => by
      rw [upd_ne (ne_of_none e nli), upd_ne (ne_of_none e ndl)]
      exact e
    have hS3 : Same H2 H3 := fun b o e => h3 b o (ne_of_none e nli) (e2 b o e)
    have hR3 : RdAt K A H3 R dx p ts l 0 := ⟨hS3 _ _ h2R, SqL.of (hS3 _ _ (hS2 _ _ hp)), hts.mono fun b C dx fs e => hS3 _ _ (hS2 _ _ e)⟩
    have nH : ∀ b, H2 b = none → H b = none := fun b e => by
      cases z : H b with
      | none => rfl
      | some o => rw [hS2 _ _ (hS1 _ _ z)] at e; cases e
    have hu2 : H2 u = none := by
      cases z : H2 u with
      | none => rfl
      | some o => rw [e2 _ _ z] at hu; cases hu
    have hi2 : H2 it = none := by
      cases z : H2 it with
      | none => rfl
      | some o => rw [e2 _ _ z] at hit; cases hit
    have hRH : H R = none := by
      cases z : H R with
      | none => rfl
      | some o => rw [hS1 _ _ z] at nR; cases nR
    have hS : Same H H3 := (hS1.trans hS2).trans hS3
    have sS : ∀ {S : Addr → Prop} {Hx Hy : Hp}, Same H Hx → SameOff S Hx Hy → (∀ b, S b → H b = none) → Same H Hy := fun s o h b v e => o b v (fun z => by rw [h b z] at e; cases e) (s b v e)
    have off1 : ∀ b, (b = R ∨ b = u) → H b = none := fun b z => z.elim (fun z => z ▸ hRH) fun z => z ▸ nH u hu2
    have off2 : ∀ b, (b = R ∨ b = it) → H b = none := fun b z => z.elim (fun z => z ▸ hRH) fun z => z ▸ nH it hi2
    have qO : ∀ {S : Addr → Prop} {Hx : Hp} (f : VaskyBase.Fault), Same H Hx → (∀ b, S b → H b = none) → readB B = .error f → FaultOff S A Hx E f.code f.place := fun f s h e d H' s2 hd => qE f e d H' (.of (sS s s2 h)) hd
    have hms : measM (l.drop 0) = measM l := rfl
    refine ⟨_, rfl, _, rfl, R, dx, p, li, dl, u, it, ts, l, 0, rfl, hR3, ⟨t0, ht0⟩, hLok, h3l, h3u, fun f hf => qO f hS off1 (by rw [hrd, ← hms, hf]; rfl), fun ups m hex hm hu4 H4 hs4 hr4 hu4' => ?_⟩
    rw [← hms, hm] at hrd
    have hrd2 : readB B = (itemsLoop ups ((l.drop m).length + 1) [] [] (l.drop m)).bind fun x => (takeM [.fin] x.2).map fun _ => (ups, x.1) := hrd
    have hS4 : Same H H4 := sS hS hs4 off1
    have liR : li ≠ R := fun z => by rw [z, h2R] at nli; cases nli
    have iR : it ≠ R := fun z => by rw [z, h2R] at hi2; cases hi2
    have uR : u ≠ R := fun z => by rw [z, h2R] at hu2; cases hu2
    have liu : li ≠ u := fun z => by rw [z, h3u] at h3l; cases h3l
    have lii : li ≠ it := fun z => by rw [z, h3i] at h3l; cases h3l
    have h4l := hs4 _ _ (fun z => z.elim liR liu) h3l
    have h4i := hs4 _ _ (fun z => z.elim iR (Ne.symm hui)) h3i
    obtain ⟨t1, ht1⟩ := hex
    have hR4 : RdAt K A H4 R dx p ts l m := hR3.next2 hs4 (fun b z => z.imp id fun z => ⟨[], by rw [z]; exact h3u, toks_ne hR3.k ht0⟩) hr4
    refine ⟨_, rfl, _, rfl, R, dx, p, li, dl, u, it, ts, l, m, ups, rfl, hR4, ⟨t1, ht1⟩, hLok, h4l, hu4', hu4, h4i, hui, fun f hf => qO f hS4 off2 (by rw [hrd2, hf]; rfl), fun rows m2 hex2 hm2 hr16 rs H5 hs5 hr5 hi5 hrows hrsn => ?_⟩
    rw [hm2] at hrd2
    obtain ⟨t2, ht2⟩ := hex2
    have hrd3 : readB B = (takeM [.fin] (l.drop m2)).map fun _ => (ups, rows) := hrd2
    rw [takeM_at _ ht2] at hrd3
    have hS5 : Same H H5 := sS hS4 hs5 off2
    have hR5 : RdAt K A H5 R dx p ts l m2 := hR4.next2 hs5 (fun b z => z.imp id fun z => ⟨[], by rw [z]; exact h4i, toks_ne hR3.k ht0⟩) hr5
    refine take1 (A := A) .fin rfl hR5 ht2 (fun z => (qE ⟨3, t2.place⟩ (by rw [hrd3, if_neg (by simpa using z)]; rfl)).out (.of hS5)) fun z p6 H6 hs6 hr6 _ => ?_
    rw [if_pos (by simpa using z)] at hrd3
    have hS6 : Same H H6 := sS hS5 hs6 (fun b z => z ▸ hRH)
    refine ⟨_, rfl, q ups rows hrd3 li dl u it rs H6 hS6 ⟨?_, ?_, ?_, ?_⟩ (nH u hu2) (nH it hi2) fun p hp => hS4.free (hrsn p hp)⟩
    · exact hs6 _ _ liR (hs5 _ _ (fun z => z.elim liR lii) h4l)
    · exact hs6 _ _ uR (hs5 _ _ (fun z => z.elim uR hui) hu4')
    · exact hs6 _ _ iR hi5
    · exact hrows.mono fun p _ xs e => hs6 _ _ (fun z => by rw [z, hr5] at e; cases e) e
end
end BwW
end

section
set_option Elab.async false
set_option linter.all false
set_option maxRecDepth 100000
set_option maxHeartbeats 2000000
namespace BwW
open PySem PySem.Spec PyProof.Rows L2 BwK
open Bw (okW weighed scoresM scAt inOrder natI)
section
variable {P : Program} {w : World} {K : PySem.W.Frag} {mg : Str → Option Value} {base : Heap} {A : Ads}
theorem pe_fldK {X : Cx} {e : Expr} {f : Str} {pos : Pos} {ta : TE} (hk : X.K = K) (he : PE X e ta) (hb : attributeBase e f X.env (eval e X.env) = eval e X.env := by rfl) : PE X (.Attribute e f pos) (tFld K ta f) := by
  rw [← hk]
  exact pe_fld he hb
theorem lc_fin {H1 H4 : Hp} {D : Addr} {out : Nat → List V} {i : Nat} {y : V} (hS : Same H1 H4) (hn : H1 D = none) (h4 : H4 D = some (.lst (out i))) (hl : (out i).length < sizeLine) (e : out (i + 1) = out i ++ [y]) :
    ∃ acc, H4 D = some (.lst acc) ∧ acc.length < sizeLine ∧ (Same H1 (upd H4 D (.lst (acc ++ [y]))) ∧ (upd H4 D (.lst (acc ++ [y]))) D = some (.lst (out (i + 1)))) :=
  ⟨_, h4, hl, same_upd hS hn, by rw [upd_same, e]⟩
theorem same_upd' {H0 H : Hp} {D : Addr} {o : HO} (h : Same H0 H) (hD : H D = none) : Same H0 (upd H D o) := fun b u e => by
  rw [upd_ne (ne_of_none (h b u e) hD)]
  exact h b u e
theorem map_at {α : Type} {f : α → V} {xs : List α} {i : Nat} {x : V} (h : (xs.map f)[i]? = some x) : ∃ y, xs[i]? = some y ∧ f y = x := by
  rw [List.getElem?_map] at h
  cases e : xs[i]? with
  | none => rw [e] at h; cases h
  | some y => rw [e] at h; exact ⟨y, rfl, Option.some.inj h⟩
theorem take_len_lt {α : Type} {xs : List α} {i n : Nat} (h : xs.length ≤ n) (hi : i < xs.length) (hn : n ≤ sizeLine) : (xs.take i).length < sizeLine := by
  rw [List.length_take]
  omega
def sp_are_weights (K : PySem.W.Frag) (A : Ads) : Sp := fun vs H Q _ => ∃ (li dl u it wl : Addr) (ups : List Bool) (rs : List Addr) (rows : List (List Int)) (W : List Int), vs = [.ref li, .ref wl] ∧ LsAt A H li dl u it ups rs rows ∧ SqL K H wl (W.map V.int) ∧ W.length < sizeLine ∧
  ∀ H', Same H H' → Q (.bl (okW ups.length W)) H'
theorem d_are_weights (T : Tx K mg base A) : Def P w K mg base CX0 1 "are_weights" ["listing", "weights"] (sp_are_weights K A) := def_of T.t_are_weights (fun _ _ _ _ _ _ us hl => match us, hl with | [_, _], _ => rfl) fun f fd F => by
  have nd := sc_are_weights.nd
  refine F.ok sc_are_weights (fun vs H Q E h => ?_) (fun cdv Ar outer s H vs Q E hr h => ⟨_, (pss_cons (ps_if (PW.pt (pw_or (pt_cmpR op_ne (pe_callB call_len_seq (by rfl) T.b_len PySem.boot_len (pa_cons (pv 1) pa_nil)) (pe_callB call_len_seq (by rfl) T.b_len PySem.boot_len (pa_cons (pe_fld (pv 0) rfl) pa_nil)) (nomark _)) (pw_or1 (pt_not (pt_val (pe_callB (cr_all rfl) (by rfl) T.b_all (by decide +kernel) (pa_cons (pe_lc (own := [("weight", 2)]) (g := gName 2) (by rfl) nd (pi_list (pv 1)) (blkOk_by (own := [("weight", 2)]) (N := N_are_weights) (sc := defScope s_are_weights) (by decide +kernel)) (fun _ _ _ _ _ => (pg_name (i := 2) nd rfl (Or.inl rfl))) (fun _ _ _ _ _ => pts_nil) (fun _ _ _ _ _ => (pe_chain op_le op_le pe_int (pv 2) (pe_gi T.g_MOST_WEIGHT)))) pa_nil))))))) (pss_one (ps_ret pe_bl)) pss_nil)
        (pss_one (ps_ret (pe_cmpR op_gt (pe_callB (cr_sum rfl) (by rfl) T.b_sum (by decide +kernel) (pa_cons (pv 1) pa_nil)) pe_int (nomark _))))), ?_⟩)
  · obtain ⟨li, dl, u, it, wl, ups, rs, rows, W, rfl, _⟩ := h
    rfl
  · obtain ⟨li, dl, u, it, wl, ups, rs, rows, W, rfl, hL, hW, hz, q⟩ := h
    have C := T.k_Listing.cl
    have n1 := T.k_Listing.no "ups" (by simp)
    refine ⟨_, rfl, wl, _, rfl, .inl hW, _, rfl, li, _, dl, _, _, rfl, hL.l, C, n1, lsF_ups u it, u, _, rfl, .inl (SqL.of hL.u), rfl, _, rfl, ?_⟩
    rw [List.length_map, List.length_map]
    have hlen : decide (V.int (W.length : Int) = V.int (ups.length : Int)) = decide (W.length = ups.length) := by
      rw [Bool.eq_iff_iff, decide_eq_true_eq, decide_eq_true_eq]
      exact ⟨fun h => by injection h with h; exact_mod_cast h, fun h => by rw [h]⟩
    rw [hlen]
    have hok : okW ups.length W = (decide (W.length = ups.length) && (W.all fun z => decide (0 ≤ z) && decide (z ≤ 100)) && decide (0 < W.sum)) := rfl
    refine ite2 (fun h1 => iteT ?_) fun h1 => ?_
    · have h1' : ¬ W.length = ups.length := by simpa using h1
      have e : okW ups.length W = false := by rw [hok, decide_eq_false h1']; rfl
      have := q H (Same.refl H)
      rw [e] at this
      exact this
    · have h1' : W.length = ups.length := by simpa using h1
      refine ⟨_, rfl, wl, rfl, ⟨_, hW⟩, fun D hD => lc_it (walk_list (K := K) (a := wl) (xs := W.map V.int)) (fun i H' => Same H H' ∧ H' D = some (.lst ((W.take i).map fun z => V.bl (decide (0 ≤ z) && decide (z ≤ 100))))) ⟨same_upd (Same.refl _) hD, upd_same⟩ (fun i H' _ z => z.1.seq hW) ?_ ?_⟩
      · rintro i x H' H'' hi ⟨hS, hDD⟩ ⟨rfl, hx⟩
        obtain ⟨z, hz2, rfl⟩ := map_at hx
        rw [List.length_map] at hi
        have fin : ∀ v : Bool, v = (decide (0 ≤ z) && decide (z ≤ 100)) → ∃ acc, H'' D = some (.lst acc) ∧ acc.length < sizeLine ∧ (Same H (upd H'' D (.lst (acc ++ [V.bl v]))) ∧ (upd H'' D (.lst (acc ++ [V.bl v]))) D = some (.lst ((W.take (i + 1)).map fun z => V.bl (decide (0 ≤ z) && decide (z ≤ 100))))) := fun v e =>
          lc_fin (out := fun i => (W.take i).map fun z => V.bl (decide (0 ≤ z) && decide (z ≤ 100))) hS hD hDD (by rw [List.length_map, List.length_take]; omega) (by show ((W.take (i + 1)).map _) = _; rw [take_more hz2, List.map_append, e]; rfl)
        refine ⟨rfl, _, rfl, 0, z, rfl, rfl, _, rfl, ite2 (fun h2 => ⟨z, 100, rfl, rfl, fin _ ?_⟩) fun h2 => fin _ ?_⟩
        · rw [h2, Bool.true_and]
        · have h2' : decide (0 ≤ z) = false := by simpa using h2
          rw [h2']
          rfl
      · rintro H' ⟨hS, hDD⟩
        rw [List.length_map, List.take_length] at hDD
        refine ⟨D, W.map fun z => decide (0 ≤ z) && decide (z ≤ 100), rfl, SqL.of (by rw [List.map_map]; exact hDD), _, rfl, ?_⟩
        have e2 : (W.map fun z => decide (0 ≤ z) && decide (z ≤ 100)).all id = W.all fun z => decide (0 ≤ z) && decide (z ≤ 100) := by
          rw [List.all_map]
          rfl
        rw [e2]
        refine ite2 (fun h2 => ?_) fun h2 => ?_
        · have h2' : (W.all fun z => decide (0 ≤ z) && decide (z ≤ 100)) = false := by simpa using h2
          have e : okW ups.length W = false := by rw [hok, h2', Bool.and_false]; rfl
          have := q H' hS
          rw [e] at this
          exact this
        · have h2' : (W.all fun z => decide (0 ≤ z) && decide (z ≤ 100)) = true := by simpa using h2
          have e : okW ups.length W = decide (0 < W.sum) := by rw [hok, h2', decide_eq_true h1']; rfl
          have := q H' hS
          rw [e] at this
          exact ⟨_, rfl, wl, W, rfl, hS.seq hW, _, 0, rfl, rfl, this⟩
def sp_weighed (K : PySem.W.Frag) (A : Ads) : Sp := fun vs H Q _ => ∃ (wl vl : Addr) (W r : List Int), vs = [.ref wl, .ref vl] ∧ SqL K H wl (W.map V.int) ∧ SqL K H vl (r.map V.int) ∧ W.length = r.length ∧ W.length < sizeLine ∧ (∀ z ∈ W, -(2 ^ 64) < z ∧ z < 2 ^ 64) ∧
  ∀ H', Same H H' → Q (.int (weighed W r)) H'
theorem d_weighed (T : Tx K mg base A) : Def P w K mg base CX0 1 "weighed" ["weights", "values"] (sp_weighed K A) := def_of T.t_weighed (fun _ _ _ _ _ _ us hl => match us, hl with | [_, _], _ => rfl) fun f fd F => by
  have nd := sc_weighed.nd
  refine F.ok sc_weighed (fun vs H Q E h => ?_) (fun cdv Ar outer s H vs Q E hr h => ⟨_, (pss_one (ps_ret (pe_callB (cr_sum rfl) (by rfl) T.b_sum (by decide +kernel) (pa_cons (pe_lc (own := [("weight", 2), ("value", 3)]) (g := gTup K 2 (gCons (gName 2) (gCons (gName 3) (gNil)))) (by rfl) nd (pi_zip (by rfl) T.b_zip (pa_cons (pv 0) (pa_cons (pv 1) pa_nil))) (blkOk_by (own := [("weight", 2), ("value", 3)]) (N := N_weighed) (sc := defScope s_weighed) (by decide +kernel)) (fun _ _ _ _ _ => (pg_tup rfl (pgs_cons (pg_name (i := 2) nd rfl (Or.inl rfl)) (pgs_cons (pg_name (i := 3) nd rfl (Or.inl rfl)) pgs_nil)))) (fun _ _ _ _ _ => pts_nil) (fun _ _ _ _ _ => (pe_op op_mul (pv 2) (pv 3)))) pa_nil)))), ?_⟩)
  · obtain ⟨wl, vl, W, r, rfl, _⟩ := h
    rfl
  · obtain ⟨wl, vl, W, r, rfl, hW, hr0, hlen, hz, hb, q⟩ := h
    refine ⟨_, rfl, _, rfl, wl, vl, _, _, rfl, hW, hr0, fun D hD => lc_it (walk_zip (n := W.length) (by rw [List.length_map, List.length_map]; omega)) (fun i H' => Same H H' ∧ H' D = some (.lst (((W.zip r).take i).map fun x => V.int (x.1 * x.2)))) ⟨same_upd (Same.refl _) hD, upd_same⟩ (fun i H' _ z => ⟨z.1.seq hW, z.1.seq hr0⟩) ?_ ?_⟩
    · rintro i x H' H'' hi ⟨hS, hDD⟩ ⟨Tp, x1, x2, rfl, hT, rfl, hx1, hx2⟩
      obtain ⟨z1, hz1, rfl⟩ := map_at hx1
      obtain ⟨z2, hz2, rfl⟩ := map_at hx2
      have hzip : (W.zip r)[i]? = some (z1, z2) := by
        rw [List.getElem?_zip_eq_some]
        exact ⟨hz1, hz2⟩
      have hTD : D ≠ Tp := fun z => by rw [← z, hDD] at hT; cases hT
      have hD4 : upd H' Tp (.tup [.int z1, .int z2]) D = some (.lst (((W.zip r).take i).map fun x => V.int (x.1 * x.2))) := by rw [upd_ne hTD]; exact hDD
      refine ⟨Tp, _, rfl, SqT.of upd_same, rfl, _, _, rfl, _, _, rfl, rfl, rfl, _, rfl, _, rfl, z1, z2, rfl, rfl, .inl (hb z1 (List.mem_of_getElem? hz1)), ?_⟩
      exact lc_fin (out := fun i => ((W.zip r).take i).map fun x => V.int (x.1 * x.2)) (same_upd' hS hT) hD hD4 (by rw [List.length_map, List.length_take, List.length_zip]; omega) (by show (((W.zip r).take (i + 1)).map _) = _; rw [take_more hzip, List.map_append]; rfl)
    · rintro H' ⟨hS, hDD⟩
      have e : (W.zip r).take W.length = W.zip r := by
        have : (W.zip r).length = W.length := by rw [List.length_zip]; omega
        rw [← this, List.take_length]
      rw [e] at hDD
      exact ⟨D, (W.zip r).map fun x : Int × Int => x.1 * x.2, rfl, SqL.of (by rw [List.map_map]; exact hDD), q H' hS⟩
/-- what a list that is held is like -/
structure LsOk (ups : List Bool) (rows : List (List Int)) : Prop where
  u : ups.length ≤ 4
  n : rows.length ≤ 16
  r : ∀ r ∈ rows, r.length = ups.length ∧ ∀ z ∈ r, z.natAbs ≤ 1000
theorem okW_bd {n : Nat} {W : List Int} (h : okW n W = true) : W.length = n ∧ ∀ z ∈ W, 0 ≤ z ∧ z ≤ 100 := by
  unfold okW at h
  simp only [Bool.and_eq_true, decide_eq_true_eq, List.all_eq_true] at h
  exact ⟨h.1.1, h.1.2⟩
def sp_scores_of (K : PySem.W.Frag) (A : Ads) : Sp := fun vs H Q _ => ∃ (li dl u it wl : Addr) (ups : List Bool) (rs : List Addr) (rows : List (List Int)) (W : List Int), vs = [.ref li, .ref wl] ∧ LsAt A H li dl u it ups rs rows ∧ LsOk ups rows ∧ SqL K H wl (W.map V.int) ∧ okW ups.length W = true ∧
  ∀ p H', Same H H' → H p = none → H' p = some (.lst ((scoresM W rows).map V.int)) → Q (.ref p) H'
theorem d_scores_of (T : Tx K mg base A) : Def P w K mg base CX0 2 "scores_of" ["listing", "weights"] (sp_scores_of K A) := def_of T.t_scores_of (fun _ _ _ _ _ _ us hl => match us, hl with | [_, _], _ => rfl) fun f fd F => by
  have nd := sc_scores_of.nd
  have d_weighed := d_weighed (P := P) (w := w) T
  refine F.ok sc_scores_of (fun vs H Q E h => ?_) (fun cdv Ar outer s H vs Q E hr h => ⟨_, (pss_one (ps_ret (pe_lc (own := [("values", 2)]) (g := gName 2) (by rfl) nd (pi_list (pe_fld (pv 0) rfl)) (blkOk_by (own := [("values", 2)]) (N := N_scores_of) (sc := defScope s_scores_of) (by decide +kernel)) (fun _ _ _ _ _ => (pg_name (i := 2) nd rfl (Or.inl rfl))) (fun _ _ _ _ _ => pts_nil) (fun _ _ _ _ _ => (pe_d d_weighed (hr.mono (by decide)) (pa_cons (pv 1) (pa_cons (pv 2) pa_nil))))))), ?_⟩)
  · obtain ⟨li, dl, u, it, wl, ups, rs, rows, W, rfl, _⟩ := h
    rfl
  · obtain ⟨li, dl, u, it, wl, ups, rs, rows, W, rfl, hL, hO, hW, hok, q⟩ := h
    have C := T.k_Listing.cl
    have n1 := T.k_Listing.no "items_told" (by simp)
    obtain ⟨hWl, hWb⟩ := okW_bd hok
    have hu4 := hO.u
    have hn16 := hO.n
    have hrl := hL.r.len
    have s16 : 16 < sizeLine := by decide
    refine ⟨_, rfl, li, _, dl, _, _, rfl, hL.l, C, n1, lsF_items u it, it, rfl, ⟨_, SqL.of hL.i⟩, fun D hD => lc_it (walk_list (K := K) (a := it) (xs := rs.map V.ref)) (fun i H' => Same H H' ∧ H' D = some (.lst ((rows.take i).map fun r => V.int (weighed W r)))) ⟨same_upd (Same.refl _) hD, upd_same⟩ (fun i H' _ z => SqL.of (z.1 _ _ hL.i)) ?_ ?_⟩
    · rintro i x H' H'' hi ⟨hS, hDD⟩ ⟨rfl, hx⟩
      obtain ⟨pr, hpr, rfl⟩ := map_at hx
      rw [List.length_map] at hi
      have hrow := List.getElem?_eq_getElem (show i < rows.length by omega)
      generalize rows[i] = r at hrow
      obtain ⟨p2, hp2, hp3⟩ := hL.r.get hrow
      rw [hpr] at hp2
      cases hp2
      have hrm := hO.r r (List.mem_of_getElem? hrow)
      refine ⟨rfl, _, rfl, _, rfl, wl, pr, W, r, rfl, hS.seq hW, SqL.of (hS _ _ hp3), by omega, by omega, fun z hz => by have := hWb z hz; omega, fun H3 hS3 => ?_⟩
      exact lc_fin (out := fun i => (rows.take i).map fun r => V.int (weighed W r)) (hS.trans hS3) hD (hS3 _ _ hDD) (by rw [List.length_map, List.length_take]; omega) (by show ((rows.take (i + 1)).map _) = _; rw [take_more hrow, List.map_append]; rfl)
    · rintro H' ⟨hS, hDD⟩
      rw [List.length_map, hrl, List.take_length] at hDD
      exact q D H' hS hD (by unfold scoresM; rw [List.map_map]; exact hDD)
end
end BwW
end

section
set_option Elab.async false
set_option linter.all false
set_option maxRecDepth 100000
set_option maxHeartbeats 2000000
namespace BwW
open PySem PySem.Spec PyProof.Rows L2 BwK
open LamX (ExtN Tabs TabS)
open Bw (okW weighed scoresM scAt inOrder natI wgt sortedM)
section
variable {P : Program} {w : World} {K : PySem.W.Frag} {mg : Str → Option Value} {base : Heap} {A : Ads}
theorem filter_more {α : Type} {l : List α} {i : Nat} {x : α} {p : α → Bool} (h : l[i]? = some x) : (l.take (i + 1)).filter p = (l.take i).filter p ++ (if p x = true then [x] else []) := by
  rw [take_more h, List.filter_append]
  by_cases hp : p x = true
  · rw [if_pos hp, List.filter_cons_of_pos hp]
    rfl
  · rw [if_neg hp, List.filter_cons_of_neg hp]
    rfl
theorem scAt_at {sc : List Int} {i : Nat} (h : i < sc.length) : (sc.map V.int)[i]? = some (.int (scAt sc i)) := by
  rw [List.getElem?_map]
  unfold scAt
  simp [List.getD, h]
def sp_count (p : Int → Int → Bool) (K : PySem.W.Frag) : Sp := fun vs H Q _ => ∃ (sl : Addr) (sc : List Int) (i : Nat), vs = [.ref sl, .int (i : Int)] ∧ SqL K H sl (sc.map V.int) ∧ i < sc.length ∧ sc.length < sizeLine ∧
  ∀ H', Same H H' → Q (.int ((sc.filter (p (scAt sc i))).length : Nat)) H'
def sp_count_greater (K : PySem.W.Frag) (A : Ads) : Sp := sp_count (fun v u => decide (v < u)) K
def sp_count_alike (K : PySem.W.Frag) (A : Ads) : Sp := sp_count (fun v u => u == v) K
theorem d_count_greater (T : Tx K mg base A) : Def P w K mg base CX0 1 "count_greater" ["scores", "item"] (sp_count_greater K A) := def_of T.t_count_greater (fun _ _ _ _ _ _ us hl => match us, hl with | [_, _], _ => rfl) fun f fd F => by
  have nd := sc_count_greater.nd
  refine F.ok sc_count_greater (fun vs H Q E h => ?_) (fun cdv Ar outer s H vs Q E hr h => ⟨_, (pss_one (ps_ret (pe_callB call_len_seq (by rfl) T.b_len PySem.boot_len (pa_cons (pe_lc (own := [("score", 2)]) (g := gName 2) (by rfl) nd (pi_list (pv 0)) (blkOk_by (own := [("score", 2)]) (N := N_count_greater) (sc := defScope s_count_greater) (by decide +kernel)) (fun _ _ _ _ _ => (pg_name (i := 2) nd rfl (Or.inl rfl))) (fun _ _ _ _ _ => pts_one (pt_cmpR op_gt (pv 2) (pe_ix (show IxR _ (rIxL K) from ix_list) (pv 0) (pv 1) (fun _ _ => rfl)) (nomark _))) (fun _ _ _ _ _ => (pv 2))) pa_nil)))), ?_⟩)
  · obtain ⟨sl, sc, i, rfl, _⟩ := h
    rfl
  · obtain ⟨sl, sc, i, rfl, hsc, hi, hz, q⟩ := h
    refine ⟨_, rfl, sl, rfl, ⟨_, hsc⟩, fun D hD => lc_it (walk_list (K := K) (a := sl) (xs := sc.map V.int)) (fun j H' => Same H H' ∧ H' D = some (.lst (((sc.take j).filter fun u => decide (scAt sc i < u)).map V.int))) ⟨same_upd (Same.refl _) hD, upd_same⟩ (fun j H' _ z => z.1.seq hsc) ?_ ?_⟩
    · rintro j x H' H'' hj ⟨hS, hDD⟩ ⟨rfl, hx⟩
      obtain ⟨z, hz2, rfl⟩ := map_at hx
      rw [List.length_map] at hj
      have hle : ((sc.take j).filter fun u => decide (scAt sc i < u)).length ≤ j := Nat.le_trans (List.length_filter_le _ _) (by rw [List.length_take]; omega)
      refine ⟨rfl, _, rfl, _, rfl, _, rfl, sl, _, _, _, rfl, rfl, hS.seq hsc, atI_nat (scAt_at hi), z, _, rfl, rfl, _, rfl, ite2 (fun h1 => ⟨_, rfl, ?_⟩) fun h1 => ⟨hS, ?_⟩⟩
      · exact lc_fin (out := fun j => ((sc.take j).filter fun u => decide (scAt sc i < u)).map V.int) hS hD hDD (by rw [List.length_map]; omega) (by show (((sc.take (j + 1)).filter _).map _) = _; rw [filter_more hz2, if_pos h1, List.map_append]; rfl)
      · rw [hDD, filter_more hz2, if_neg h1, List.append_nil]
    · rintro H' ⟨hS, hDD⟩
      rw [List.length_map, List.take_length] at hDD
      have := q H' hS
      refine ⟨D, _, rfl, .inl (SqL.of hDD), ?_⟩
      rw [List.length_map]
      exact this
theorem d_count_alike (T : Tx K mg base A) : Def P w K mg base CX0 1 "count_alike" ["scores", "item"] (sp_count_alike K A) := def_of T.t_count_alike (fun _ _ _ _ _ _ us hl => match us, hl with | [_, _], _ => rfl) fun f fd F => by
  have nd := sc_count_alike.nd
  refine F.ok sc_count_alike (fun vs H Q E h => ?_) (fun cdv Ar outer s H vs Q E hr h => ⟨_, (pss_one (ps_ret (pe_callB call_len_seq (by rfl) T.b_len PySem.boot_len (pa_cons (pe_lc (own := [("score", 2)]) (g := gName 2) (by rfl) nd (pi_list (pv 0)) (blkOk_by (own := [("score", 2)]) (N := N_count_alike) (sc := defScope s_count_alike) (by decide +kernel)) (fun _ _ _ _ _ => (pg_name (i := 2) nd rfl (Or.inl rfl))) (fun _ _ _ _ _ => pts_one (pt_cmpR op_eq (pv 2) (pe_ix (show IxR _ (rIxL K) from ix_list) (pv 0) (pv 1) (fun _ _ => rfl)) (nomark _))) (fun _ _ _ _ _ => (pv 2))) pa_nil)))), ?_⟩)
  · obtain ⟨sl, sc, i, rfl, _⟩ := h
    rfl
  · obtain ⟨sl, sc, i, rfl, hsc, hi, hz, q⟩ := h
    refine ⟨_, rfl, sl, rfl, ⟨_, hsc⟩, fun D hD => lc_it (walk_list (K := K) (a := sl) (xs := sc.map V.int)) (fun j H' => Same H H' ∧ H' D = some (.lst (((sc.take j).filter fun u => u == scAt sc i).map V.int))) ⟨same_upd (Same.refl _) hD, upd_same⟩ (fun j H' _ z => z.1.seq hsc) ?_ ?_⟩
    · rintro j x H' H'' hj ⟨hS, hDD⟩ ⟨rfl, hx⟩
      obtain ⟨z, hz2, rfl⟩ := map_at hx
      rw [List.length_map] at hj
      have hle : ((sc.take j).filter fun u => u == scAt sc i).length ≤ j := Nat.le_trans (List.length_filter_le _ _) (by rw [List.length_take]; omega)
      refine ⟨rfl, _, rfl, _, rfl, _, rfl, sl, _, _, _, rfl, rfl, hS.seq hsc, atI_nat (scAt_at hi), rfl, _, rfl, ?_⟩
      have e : decide (V.int z = V.int (scAt sc i)) = (z == scAt sc i) := by
        rw [Bool.eq_iff_iff, decide_eq_true_eq, beq_iff_eq]
        exact ⟨fun h => by injection h, fun h => by rw [h]⟩
      rw [e]
      refine ite2 (fun h1 => ⟨_, rfl, ?_⟩) fun h1 => ⟨hS, ?_⟩
      · exact lc_fin (out := fun j => ((sc.take j).filter fun u => u == scAt sc i).map V.int) hS hD hDD (by rw [List.length_map]; omega) (by show (((sc.take (j + 1)).filter _).map _) = _; rw [filter_more hz2, if_pos h1, List.map_append]; rfl)
      · rw [hDD, filter_more hz2, if_neg h1, List.append_nil]
    · rintro H' ⟨hS, hDD⟩
      rw [List.length_map, List.take_length] at hDD
      have := q H' hS
      refine ⟨D, _, rfl, .inl (SqL.of hDD), ?_⟩
      rw [List.length_map]
      exact this
theorem range0 {i : Nat} {H H' : Hp} {x : V} (h : YFn (fun i => .int ((0 : Int) + (i : Nat))) i H x H') : H' = H ∧ x = .int (i : Int) := ⟨h.1, by rw [h.2]; show V.int ((0 : Int) + (i : Int)) = _; rw [Int.zero_add]⟩
theorem range_at {n i : Nat} (h : i < n) : (List.range n)[i]? = some i := by
  rw [List.getElem?_range h]
def sp_weighing (K : PySem.W.Frag) (A : Ads) : Sp := fun vs H Q _ => ∃ (wl : Addr) (W : List Int), vs = [.ref wl] ∧ SqL K H wl (W.map V.int) ∧ W.length < 1000 ∧
  ∀ p H', Same H H' → H p = none → H' p = some (.lst ((natI (wgt W)).map V.int)) → Q (.ref p) H'
theorem d_weighing (T : Tx K mg base A) : Def P w K mg base CX0 1 "weighing" ["weights"] (sp_weighing K A) := def_of T.t_weighing (fun _ _ _ _ _ _ us hl => match us, hl with | [_], _ => rfl) fun f fd F => by
  have nd := sc_weighing.nd
  refine F.ok sc_weighing (fun vs H Q E h => ?_) (fun cdv Ar outer s H vs Q E hr h => ⟨_, (pss_one (ps_ret (pe_lc (own := [("measure", 1)]) (g := gName 1) (by rfl) nd (pi_range1 (by rfl) T.b_range (pa_cons (pe_callB call_len_seq (by rfl) T.b_len PySem.boot_len (pa_cons (pv 0) pa_nil)) pa_nil)) (blkOk_by (own := [("measure", 1)]) (N := N_weighing) (sc := defScope s_weighing) (by decide +kernel)) (fun _ _ _ _ _ => (pg_name (i := 1) nd rfl (Or.inl rfl))) (fun _ _ _ _ _ => pts_one (pt_cmpR op_gt (pe_ix (show IxR _ (rIxL K) from ix_list) (pv 0) (pv 1) (fun _ _ => rfl)) pe_int (nomark _))) (fun _ _ _ _ _ => (pv 1))))), ?_⟩)
  · obtain ⟨wl, W, rfl, _⟩ := h
    rfl
  · obtain ⟨wl, W, rfl, hW, hz, q⟩ := h
    have s1 : 1000 < sizeLine := by decide
    refine ⟨_, rfl, wl, _, rfl, .inl hW, _, rfl, by omega, by rw [List.length_map]; omega, fun D hD => ?_⟩
    rw [List.length_map]
    refine lc_it (walk_range) (fun j H' => Same H H' ∧ H' D = some (.lst ((((List.range W.length).take j).filter fun m => decide (0 < W.getD m 0)).map fun m => V.int ((m : Nat) : Int)))) ⟨same_upd (Same.refl _) hD, upd_same⟩ (fun _ _ _ _ => trivial) ?_ ?_
    · rintro j x H' H'' hj ⟨hS, hDD⟩ hy
      obtain ⟨rfl, rfl⟩ := range0 hy
      rw [Int.toNat_natCast] at hj
      have hat : (W.map V.int)[j]? = some (.int (W.getD j 0)) := scAt_at hj
      have hle : (((List.range W.length).take j).filter fun m => decide (0 < W.getD m 0)).length ≤ j := Nat.le_trans (List.length_filter_le _ _) (by rw [List.length_take]; omega)
      refine ⟨rfl, _, rfl, _, rfl, wl, _, _, _, rfl, rfl, hS.seq hW, atI_nat hat, _, 0, rfl, rfl, _, rfl, ite2 (fun h1 => ⟨_, rfl, ?_⟩) fun h1 => ⟨hS, ?_⟩⟩
      · exact lc_fin (out := fun j => (((List.range W.length).take j).filter fun m => decide (0 < W.getD m 0)).map fun m => V.int ((m : Nat) : Int)) hS hD hDD (by rw [List.length_map]; omega) (by show ((((List.range W.length).take (j + 1)).filter _).map _) = _; rw [filter_more (range_at hj), if_pos h1, List.map_append]; rfl)
      · rw [hDD, filter_more (range_at hj), if_neg h1, List.append_nil]
    · rintro H' ⟨hS, hDD⟩
      rw [Int.toNat_natCast] at hDD
      refine q D H' hS hD ?_
      rw [hDD]
      have : (List.range W.length).take W.length = List.range W.length := by
        have := List.take_length (l := List.range W.length)
        rw [List.length_range] at this
        exact this
      rw [this]
      unfold natI wgt
      rw [List.map_map]
      rfl
end
end BwW
end

section
set_option Elab.async false
set_option linter.all false
set_option maxRecDepth 100000
set_option maxHeartbeats 2000000
namespace BwW
open PySem PySem.Spec PyProof.Rows L2 BwK
open LamX (ExtN Tabs TabS)
open Bw (okW weighed scoresM scAt inOrder natI wgt sortedM)
section
variable {P : Program} {w : World} {K : PySem.W.Frag} {mg : Str → Option Value} {base : Heap} {A : Ads}
/-- a def whose code's place is known -/
theorem fun_okC {x qual : Str} {st : Stmt} {f c : Addr} {fd : FuncData} {N ps : List Str} {k : Nat} {sp : Sp} (F : Fun K x qual st f fd) (hc : fd.code = .ref c) (S : FnScope N ps (defScope st)) (len : ∀ vs H Q E, sp vs H Q E → vs.length = ps.length)
    (hbody : ∀ (Ar : Around) (outer : List Env) (s : Shared) (H : Hp) (vs : List V) (Q : VK) (E : XK), Room k (Ar.deeper (envOfC qual (defScope st) s.heap.objs.size f (.ref c))) → sp vs H Q E →
      ∃ t, PSs (cxOf CX0 P w K mg base N qual (defScope st) f (.ref c) Ar outer s H E).nox (defBody st) t ∧ t { nx := fun _ H' => Q .non H', rt := Q } (L2.start N vs) H) : FnOk P w K mg base CX0 (k + 1) f fd ps sp := by
  obtain ⟨oc, od, kV, doc, pm, an, cdv, ct, osl, rfl, lk, hcd⟩ := F.ex
  obtain rfl : cdv = .ref c := hc
  refine fn_of lk hcd S len fun Ar outer s H vs Q E hr hsp => ?_
  obtain ⟨t, h, q⟩ := hbody Ar outer s H vs Q E hr hsp
  exact ⟨t, h.nox, q⟩
theorem def_ofC {x : Str} {st : Stmt} {CX : CXT} {k : Nat} {ps : List Str} {sp : Sp} {c : Addr} (h : TopFnC K mg x st c) (hb : BindsFn x x st ps) (ok : ∀ f fd, Fun K x x st f fd → fd.code = .ref c → FnOk P w K mg base CX k f fd ps sp) : Def P w K mg base CX k x ps sp := by
  obtain ⟨f, fd, F, hm, hc⟩ := h
  exact ⟨f, fd, ok f fd F hc, hm, F.kp, F.binds hb⟩
/-- the two tables -/
def tabsT (A : Ads) : List (Addr × Str) := [(A.op, "in_order.<locals>.<lambda>"), (A.fp, "first_line.<locals>.<lambda>")]
def NewT (H : Hp) (p : Addr) : Prop := ∀ o, H p = some o → ∃ ps, o = .tbl ps
theorem NewT.of {H H' : Hp} {p : Addr} (e : ExtN H H') (h : H' p = none) : NewT H p := fun o ho => by
  cases o with
  | tbl ps => exact ⟨ps, rfl⟩
  | _ =>
    have := e _ _ ho (fun ps z => by cases z)
    rw [h] at this
    cases this
theorem NewT.none {H : Hp} {p : Addr} (h : H p = none) : NewT H p := fun o ho => by rw [h] at ho; cases ho
theorem NewT.back {H H' : Hp} {p : Addr} (e : ExtN H H') (h : NewT H' p) : NewT H p := fun o ho => by
  cases o with
  | tbl ps => exact ⟨ps, rfl⟩
  | _ =>
    obtain ⟨ps, z⟩ := h _ (e _ _ ho (fun ps z => by cases z))
    cases z
def sp_in_order (K : PySem.W.Frag) (A : Ads) : Sp := fun vs H Q _ => ∃ (sl cl : Addr) (its : List Nat) (sc : List Int), vs = [.ref sl, .ref cl] ∧ SqL K H sl ((natI its).map V.int) ∧ SqL K H cl (sc.map V.int) ∧ (∀ j ∈ its, j < sc.length) ∧ Tabs (tabsT A) H ∧
  ∀ p H', ExtN H H' → Tabs (tabsT A) H' → NewT H p → H' p = some (.lst ((natI (inOrder (scAt sc) its)).map V.int)) → Q (.ref p) H'
theorem sqL_ext {H H' : Hp} {a : Addr} {xs : List V} (e : ExtN H H') (h : SqL K H a xs) : SqL K H' a xs := by
  rcases h with (h | ⟨o, h⟩) | h
  · exact .inl (.inl (e _ _ h (fun _ z => by cases z)))
  · exact .inl (.inr ⟨o, e _ _ h (fun _ z => by cases z)⟩)
  · exact .inr h
theorem d_in_order (T : Tx K mg base A) : Def P w K mg base CX0 2 "in_order" ["some", "scores"] (sp_in_order K A) := def_ofC T.t_in_order (fun _ _ _ _ _ _ us hl => match us, hl with | [_, _], _ => rfl) fun f fd F hc => by
  have nd := sc_in_order.nd
  refine fun_okC F hc sc_in_order (fun vs H Q E h => ?_) (fun Ar outer s H vs Q E hr h => ⟨_, (pss_one (ps_ret (pe_callKL (T := tabsT A) (sorted_KL (i := 1) (hr.mono (by decide : 1 ≤ 1)) rfl rfl rfl) (by rfl) T.b_sorted (by decide +kernel) (pa_cons (pv 0) pa_nil) T.tb_o rfl ?_ ?_ rfl ?_))), ?_⟩)
  · obtain ⟨sl, cl, its, sc, rfl, _⟩ := h
    rfl
  · exact List.mem_cons_self ..
  · intro p hp e
    rcases List.mem_cons.mp hp with rfl | hp
    · rfl
    · rw [List.mem_singleton.mp hp] at e
      exact absurd e.symm T.op_fp
  · intro y hy e
    have hy' : y ∈ [((Str.ofString "item" : Str), NameKind.local), ((Str.ofString "scores" : Str), NameKind.free)] := hy
    simp only [List.mem_cons, List.not_mem_nil, or_false] at hy'
    rcases hy' with rfl | rfl
    · cases e
    · exact .inl rfl
  · obtain ⟨sl, cl, its, sc, rfl, h1, h2, h3, h4, q⟩ := h
    refine ⟨_, rfl, h4, fun H2 e2 t2 => ⟨sl, cl, its, sc, rfl, rfl, sqL_ext e2 h1, sqL_ext e2 h2, h3, fun p H' k hn hp => q p H' (e2.trans (.of k)) (t2.ext k) (NewT.of e2 hn) hp⟩⟩
theorem rows_ext {H H' : Hp} (e : ExtN H H') {ps : List Addr} {rs : List (List Int)} (h : RowsAt H ps rs) : RowsAt H' ps rs := h.mono fun p _ xs h => e _ _ h (fun _ z => by cases z)
theorem LsAt.ext {H H' : Hp} {li dl u it : Addr} {ups : List Bool} {rs : List Addr} {rows : List (List Int)} (h : LsAt A H li dl u it ups rs rows) (e : ExtN H H') : LsAt A H' li dl u it ups rs rows :=
  ⟨e _ _ h.l (fun _ z => by cases z), e _ _ h.u (fun _ z => by cases z), e _ _ h.i (fun _ z => by cases z), rows_ext e h.r⟩
theorem rgV_nat (n : Nat) : rgV 0 (n : Int) = (natI (List.range n)).map V.int := by
  unfold rgV natI
  rw [List.map_map]
  simp
theorem cut_first (xs : List V) (k : Nat) : cutV xs none (some (k : Int)) = xs.take k := by
  unfold cutV
  rw [HT.sIx_none, HT.sIx_nat]
  simp [List.take_eq_take_iff]
def sp_first_in_order (K : PySem.W.Frag) (A : Ads) : Sp := fun vs H Q _ => ∃ (li dl u it wl : Addr) (ups : List Bool) (rs : List Addr) (rows : List (List Int)) (W : List Int) (k : Nat), vs = [.ref li, .ref wl, .int (k : Int)] ∧ LsAt A H li dl u it ups rs rows ∧ LsOk ups rows ∧ SqL K H wl (W.map V.int) ∧ okW ups.length W = true ∧ Tabs (tabsT A) H ∧
  ∀ p H', ExtN H H' → Tabs (tabsT A) H' → NewT H p → H' p = some (.lst ((natI ((inOrder (scAt (scoresM W rows)) (List.range rows.length)).take k)).map V.int)) → Q (.ref p) H'
theorem d_first_in_order (T : Tx K mg base A) : Def P w K mg base CX0 3 "first_in_order" ["listing", "weights", "many"] (sp_first_in_order K A) := def_of T.t_first_in_order (fun _ _ _ _ _ _ us hl => match us, hl with | [_, _, _], _ => rfl) fun f fd F => by
  have nd := sc_first_in_order.nd
  have d_scores_of := d_scores_of (P := P) (w := w) T
  have d_in_order := d_in_order (P := P) (w := w) T
  refine F.ok sc_first_in_order (fun vs H Q E h => ?_) (fun cdv Ar outer s H vs Q E hr h => ⟨_, (pss_cons (ps_set (i := 3) nd rfl (Or.inl rfl) (pe_d d_scores_of (hr.mono (by decide)) (pa_cons (pv 0) (pa_cons (pv 1) pa_nil))))
        (pss_one (ps_ret (pe_slice sl_list (pe_d d_in_order (hr.mono (by decide)) (pa_cons (pe_listRg rfl (by rfl) T.b_list (prg_1 (by rfl) T.b_range (pe_callB call_len_seq (by rfl) T.b_len PySem.boot_len (pa_cons (pv 3) pa_nil)))) (pa_cons (pv 3) pa_nil))) po_none (po_some (pv 2)))))), ?_⟩)
  · obtain ⟨li, dl, u, it, wl, ups, rs, rows, W, k, rfl, _⟩ := h
    rfl
  · obtain ⟨li, dl, u, it, wl, ups, rs, rows, W, k, rfl, hL, hO, hW, hok, hT, q⟩ := h
    have hsl : (scoresM W rows).length = rows.length := List.length_map ..
    have hn := hO.n
    refine ⟨_, rfl, _, rfl, li, dl, u, it, wl, ups, rs, rows, W, rfl, hL, hO, hW, hok, fun p H1 hS1 hp hp1 => ?_⟩
    refine ⟨_, rfl, p, _, rfl, .inl (SqL.of hp1), _, rfl, ?_⟩
    rw [List.length_map, hsl]
    refine ⟨⟨by decide, by decide, by omega, by omega, by omega⟩, fun rl hrl => ?_⟩
    rw [rgV_nat]
    have hS2 := same_upd (o := .lst ((natI (List.range rows.length)).map V.int)) (Same.refl H1) hrl
    refine ⟨_, rfl, rl, p, _, _, rfl, SqL.of upd_same, SqL.of (hS2 _ _ hp1), fun j hj => by rw [hsl]; exact List.mem_range.mp hj, (hT.ext hS1).ext hS2, fun p2 H3 e3 t3 n3 h3 => ?_⟩
    refine ⟨_, rfl, _, rfl, p2, _, rfl, SqL.of h3, fun p3 hp3 => ?_⟩
    have e : ExtN H H3 := (ExtN.of (fun b o z => hS2 b o (hS1 b o z))).trans e3
    have hS4 : Same H3 (upd H3 p3 (.lst (cutV ((natI (inOrder (scAt (scoresM W rows)) (List.range rows.length))).map V.int) none (some (k : Int))))) := same_upd (Same.refl _) hp3
    refine q p3 _ (e.trans (.of hS4)) (t3.ext hS4) (NewT.of e hp3) ?_
    rw [upd_same, cut_first]
    unfold natI
    rw [List.map_take, List.map_take]
def sp_sorted_by (K : PySem.W.Frag) (A : Ads) : Sp := fun vs H Q _ => ∃ (li dl u it : Addr) (ups : List Bool) (rs : List Addr) (rows : List (List Int)) (m : Nat), vs = [.ref li, .int (m : Int)] ∧ LsAt A H li dl u it ups rs rows ∧ LsOk ups rows ∧ m < ups.length ∧ Tabs (tabsT A) H ∧
  ∀ p H', ExtN H H' → Tabs (tabsT A) H' → NewT H p → H' p = some (.lst ((natI (sortedM rows m)).map V.int)) → Q (.ref p) H'
theorem d_sorted_by (T : Tx K mg base A) : Def P w K mg base CX0 3 "sorted_by" ["listing", "measure"] (sp_sorted_by K A) := def_of T.t_sorted_by (fun _ _ _ _ _ _ us hl => match us, hl with | [_, _], _ => rfl) fun f fd F => by
  have nd := sc_sorted_by.nd
  have d_in_order := d_in_order (P := P) (w := w) T
  refine F.ok sc_sorted_by (fun vs H Q E h => ?_) (fun cdv Ar outer s H vs Q E hr h => ⟨_, (pss_cons (ps_setLc (i := 2) (own := [("values", 3)]) (g := gName 3) (by rfl) nd rfl rfl (sw_true rfl rfl rfl (by decide +kernel)) (pi_list (pe_fld (pv 0) rfl)) (blkOk_by (own := [("values", 3)]) (N := N_sorted_by) (sc := defScope s_sorted_by) (by decide +kernel)) (fun _ _ _ _ _ => (pg_name (i := 3) nd rfl (Or.inl rfl))) (fun _ _ _ _ _ => pts_nil) (fun _ _ _ _ _ => (pe_ix (show IxR _ (rIxL K) from ix_list) (pv 3) (pv 1) (fun _ _ => rfl))))
        (pss_one (ps_ret (pe_d d_in_order (hr.mono (by decide)) (pa_cons (pe_listRg rfl (by rfl) T.b_list (prg_1 (by rfl) T.b_range (pe_callB call_len_seq (by rfl) T.b_len PySem.boot_len (pa_cons (pv 2) pa_nil)))) (pa_cons (pv 2) pa_nil)))))), ?_⟩)
  · obtain ⟨li, dl, u, it, ups, rs, rows, m, rfl, _⟩ := h
    rfl
  · obtain ⟨li, dl, u, it, ups, rs, rows, m, rfl, hL, hO, hm, hT, q⟩ := h
    have C := T.k_Listing.cl
    have n1 := T.k_Listing.no "items_told" (by simp)
    have hn := hO.n
    have hrl := hL.r.len
    have s16 : 16 < sizeLine := by decide
    refine ⟨_, rfl, li, _, dl, _, _, rfl, hL.l, C, n1, lsF_items u it, it, rfl, ⟨_, SqL.of hL.i⟩, fun D hD => lc_it (walk_list (K := K) (a := it) (xs := rs.map V.ref)) (fun i H' => Same H H' ∧ H' D = some (.lst ((rows.take i).map fun r => V.int (r.getD m 0)))) ⟨same_upd (Same.refl _) hD, upd_same⟩ (fun i H' _ z => SqL.of (z.1 _ _ hL.i)) ?_ ?_⟩
    · rintro i x H' H'' hi ⟨hS, hDD⟩ ⟨rfl, hx⟩
      obtain ⟨pr, hpr, rfl⟩ := map_at hx
      rw [List.length_map] at hi
      have hrow := List.getElem?_eq_getElem (show i < rows.length by omega)
      generalize rows[i] = r at hrow
      obtain ⟨p2, hp2, hp3⟩ := hL.r.get hrow
      rw [hpr] at hp2
      cases hp2
      have hrm := hO.r r (List.mem_of_getElem? hrow)
      have hat : (r.map V.int)[m]? = some (.int (r.getD m 0)) := scAt_at (by omega)
      refine ⟨rfl, _, rfl, _, rfl, pr, _, _, _, rfl, rfl, SqL.of (hS _ _ hp3), atI_nat hat, ?_⟩
      exact lc_fin (out := fun i => (rows.take i).map fun r => V.int (r.getD m 0)) hS hD hDD (by rw [List.length_map, List.length_take]; omega) (by show ((rows.take (i + 1)).map _) = _; rw [take_more hrow, List.map_append]; rfl)
    · rintro H' ⟨hS, hDD⟩
      rw [List.length_map, hrl, List.take_length] at hDD
      have hDD' : H' D = some (.lst ((rows.map fun r => r.getD m 0).map V.int)) := by rw [List.map_map]; exact hDD
      refine ⟨_, rfl, D, _, rfl, .inl (SqL.of hDD), _, rfl, ?_⟩
      rw [List.length_map]
      refine ⟨⟨by decide, by decide, by omega, by omega, by omega⟩, fun rl hrl => ?_⟩
      rw [rgV_nat]
      have hS2 := same_upd (o := .lst ((natI (List.range rows.length)).map V.int)) (Same.refl H') hrl
      refine ⟨_, rfl, rl, D, _, _, rfl, SqL.of upd_same, SqL.of (hS2 _ _ hDD'), fun j hj => by rw [List.length_map]; exact List.mem_range.mp hj, (hT.ext hS).ext hS2, fun p2 H3 e3 t3 n3 h3 => ?_⟩
      have e : ExtN H (upd H' rl (.lst ((natI (List.range rows.length)).map V.int))) := ExtN.of (fun b o z => hS2 b o (hS b o z))
      exact q p2 H3 (e.trans e3) t3 (n3.back e) h3
end
end BwW
end

section
set_option Elab.async false
set_option linter.all false
set_option maxRecDepth 100000
set_option maxHeartbeats 2000000
namespace BwW
open PySem PySem.Spec PyProof.Rows L2 BwK
open LamX (ExtN Tabs TabS)
open Bw (okW weighed scoresM scAt inOrder natI wgt sortedM seenM limM limT stopM depM)
section
variable {P : Program} {w : World} {K : PySem.W.Frag} {mg : Str → Option Value} {base : Heap} {A : Ads}
def lkF (ml rl sl : Addr) : List (Str × V) := [("measures", .ref ml), ("rows", .ref rl), ("scores", .ref sl)]
theorem lkF_measures (ml rl sl : Addr) : (lkF ml rl sl).lookup ("measures" : Str) = some (.ref ml) := lk_here
theorem lkF_rows (ml rl sl : Addr) : (lkF ml rl sl).lookup ("rows" : Str) = some (.ref rl) := (lk_past (by decide +kernel)).trans lk_here
theorem lkF_scores (ml rl sl : Addr) : (lkF ml rl sl).lookup ("scores" : Str) = some (.ref sl) := (lk_past (by decide +kernel)).trans ((lk_past (by decide +kernel)).trans lk_here)
structure LkAt (A : Ads) (H : Hp) (lk dk ml rl sl : Addr) (rws : List Addr) (W : List Int) (rows : List (List Int)) : Prop where
  l : H lk = some (.ins A.cLooks dk (lkF ml rl sl))
  m : H ml = some (.lst ((natI (wgt W)).map V.int))
  r : H rl = some (.lst (rws.map V.ref))
  w : RowsAt H rws ((wgt W).map fun m => natI (sortedM rows m))
  s : H sl = some (.lst ((scoresM W rows).map V.int))
theorem LkAt.ext {H H' : Hp} {lk dk ml rl sl : Addr} {rws : List Addr} {W : List Int} {rows : List (List Int)} (h : LkAt A H lk dk ml rl sl rws W rows) (e : ExtN H H') : LkAt A H' lk dk ml rl sl rws W rows :=
  ⟨e _ _ h.l (fun _ z => by cases z), e _ _ h.m (fun _ z => by cases z), e _ _ h.r (fun _ z => by cases z), rows_ext e h.w, e _ _ h.s (fun _ z => by cases z)⟩
theorem LkAt.same {H H' : Hp} {lk dk ml rl sl : Addr} {rws : List Addr} {W : List Int} {rows : List (List Int)} (h : LkAt A H lk dk ml rl sl rws W rows) (e : Same H H') : LkAt A H' lk dk ml rl sl rws W rows := h.ext (.of e)
theorem wgt_lt {W : List Int} {i m : Nat} (h : (wgt W)[i]? = some m) : m < W.length ∧ 0 < W.getD m 0 := Bw.mem_wgt.mp (List.mem_of_getElem? h)
theorem wgt_len (W : List Int) : (wgt W).length ≤ W.length := by
  unfold wgt
  refine Nat.le_trans (List.length_filter_le _ _) ?_
  rw [List.length_range]
  exact Nat.le_refl _
theorem natI_at {l : List Nat} {i : Nat} {x : V} (h : ((natI l).map V.int)[i]? = some x) : ∃ m, l[i]? = some m ∧ x = .int (m : Int) := by
  obtain ⟨y, h1, h2⟩ := map_at h
  unfold natI at h1
  rw [List.getElem?_map] at h1
  cases e : l[i]? with
  | none => rw [e] at h1; cases h1
  | some m =>
    rw [e] at h1
    exact ⟨m, rfl, by rw [← h2, ← Option.some.inj h1]⟩
theorem natI_get {l : List Nat} {i m : Nat} (h : l[i]? = some m) : ((natI l).map V.int)[i]? = some (.int (m : Int)) := by
  unfold natI
  rw [List.getElem?_map, List.getElem?_map, h]
  rfl
theorem natI_len (l : List Nat) : (natI l).length = l.length := List.length_map ..
def sp_Looks___init__ (K : PySem.W.Frag) (A : Ads) : Sp := fun vs H Q _ => ∃ (p dx li dl u it wl : Addr) (ups : List Bool) (rs : List Addr) (rows : List (List Int)) (W : List Int), vs = [.ref p, .ref li, .ref wl] ∧ H p = some (.ins A.cLooks dx []) ∧ LsAt A H li dl u it ups rs rows ∧ LsOk ups rows ∧ SqL K H wl (W.map V.int) ∧ okW ups.length W = true ∧ p ≠ li ∧ Tabs (tabsT A) H ∧
  ∀ ml rl sl rws H', LkAt A H' p dx ml rl sl rws W rows → (∀ b o, b ≠ p → H b = some o → (∀ ps, o ≠ .tbl ps) → H' b = some o) → Tabs (tabsT A) H' → Q .non H'
theorem tabs_put {H : Hp} {p : Addr} {o o' : HO} (h : Tabs (tabsT A) H) (hp : H p = some o) (hn : ∀ ps, o ≠ .tbl ps) (hc : ∀ c q, o ≠ LamX.CodeO c q) : Tabs (tabsT A) (upd H p o') := by
  intro t ht
  obtain ⟨ps, h1, h2, h3⟩ := h t ht
  refine ⟨ps, ?_, h2, fun pos cv hc' => ?_⟩
  · rw [upd_ne fun z => by rw [z, hp] at h1; exact hn _ (Option.some.inj h1)]
    exact h1
  · obtain ⟨c, e1, e2⟩ := h3 pos cv hc'
    refine ⟨c, e1, ?_⟩
    rw [upd_ne fun z => by rw [z, hp] at e2; exact hc _ _ (Option.some.inj e2)]
    exact e2
theorem tabs_new {H : Hp} {p : Addr} {o' : HO} (h : Tabs (tabsT A) H) (hp : H p = none) : Tabs (tabsT A) (upd H p o') := h.ext (same_upd (Same.refl _) hp)
theorem ins_code {C dx : Addr} {fs : List (Str × V)} : ∀ c q, (HO.ins C dx fs) ≠ LamX.CodeO c q := fun c q z => by cases z
theorem lst_code {xs : List V} : ∀ c q, (HO.lst xs) ≠ LamX.CodeO c q := fun c q z => by cases z
theorem d_Looks (T : Tx K mg base A) : ClsDef P w K mg base 4 "Looks" A.cLooks ["self", "listing", "weights"] (sp_Looks___init__ K A) := cls_of T.k_Looks (fun _ _ _ _ _ _ us hl => match us, hl with | [_, _, _], _ => rfl) fun f fd F => by
  have nd := sc_Looks___init__.nd
  have d_weighing := d_weighing (P := P) (w := w) T
  have d_scores_of := d_scores_of (P := P) (w := w) T
  have d_sorted_by := d_sorted_by (P := P) (w := w) T
  refine F.ok sc_Looks___init__ (fun vs H Q E h => ?_) (fun cdv Ar outer s H vs Q E hr h => ⟨_, (pss_cons (ps_fld (pv 0) (pe_d d_weighing (hr.mono (by decide)) (pa_cons (pv 2) pa_nil)) rfl)
        (pss_cons (ps_fld (pv 0) (pe_lc (own := [("measure", 3)]) (g := gName 3) (by rfl) nd (pi_list (pe_fld (pv 0) rfl)) (blkOk_by (own := [("measure", 3)]) (N := N_Looks___init__) (sc := defScope s_Looks___init__) (by decide +kernel)) (fun _ _ _ _ _ => (pg_name (i := 3) nd rfl (Or.inl rfl))) (fun _ _ _ _ _ => pts_nil) (fun _ _ _ _ _ => (pe_d d_sorted_by (hr.mono (by decide)) (pa_cons (pv 1) (pa_cons (pv 3) pa_nil))))) rfl)
        (pss_one (ps_fld (pv 0) (pe_d d_scores_of (hr.mono (by decide)) (pa_cons (pv 1) (pa_cons (pv 2) pa_nil))) rfl)))), ?_⟩)
  · obtain ⟨p, dx, li, dl, u, it, wl, ups, rs, rows, W, rfl, _⟩ := h
    rfl
  · obtain ⟨p, dx, li, dl, u, it, wl, ups, rs, rows, W, rfl, hp, hL, hO, hW, hok, hpl, hT, q⟩ := h
    have C := T.k_Looks.cl
    have n1 := T.k_Looks.no "measures" (by simp)
    have n2 := T.k_Looks.no "rows" (by simp)
    have n3 := T.k_Looks.no "scores" (by simp)
    obtain ⟨hWl, hWb⟩ := okW_bd hok
    have hu4 := hO.u
    have hwl := wgt_len W
    have s16 : 16 < sizeLine := by decide
    refine ⟨_, rfl, wl, W, rfl, hW, by omega, fun ml H1 hS1 hml hm1 => ?_⟩
    refine ⟨_, rfl, p, _, dx, _, rfl, hS1 _ _ hp, C, n1, by show 0 < 1000; decide, ?_⟩
    have hpm : ml ≠ p := fun z => by rw [z, hp] at hml; cases hml
    -- H2: the field measures is set
    have hp2 : upd H1 p (.ins A.cLooks dx [("measures", .ref ml)]) p = some (.ins A.cLooks dx [("measures", .ref ml)]) := upd_same
    have k2 : ∀ b o, b ≠ p → H b = some o → upd H1 p (.ins A.cLooks dx [("measures", .ref ml)]) b = some o := fun b o hb e => by
      rw [upd_ne hb]
      exact hS1 _ _ e
    have t2 : Tabs (tabsT A) (upd H1 p (.ins A.cLooks dx [("measures", .ref ml)])) := tabs_put (hT.ext hS1) (hS1 _ _ hp) (fun _ z => by cases z) ins_code
    have m2 : upd H1 p (.ins A.cLooks dx [("measures", .ref ml)]) ml = some (.lst ((natI (wgt W)).map V.int)) := by
      rw [upd_ne hpm]
      exact hm1
    have lsK : ∀ {Hx : Hp}, (∀ b o, b ≠ p → H b = some o → (∀ ps, o ≠ .tbl ps) → Hx b = some o) → LsAt A Hx li dl u it ups rs rows := fun k => by
      refine ⟨k _ _ (Ne.symm hpl) hL.l (fun _ z => by cases z), k _ _ (fun z => ?_) hL.u (fun _ z => by cases z), k _ _ (fun z => ?_) hL.i (fun _ z => by cases z), hL.r.mono fun b hb xs e => k _ _ (fun z => ?_) e (fun _ z => by cases z)⟩
      · have := hL.u
        rw [z, hp] at this
        cases this
      · have := hL.i
        rw [z, hp] at this
        cases this
      · rw [z, hp] at e
        cases e
    have wK : ∀ {Hx : Hp}, (∀ b o, b ≠ p → H b = some o → (∀ ps, o ≠ .tbl ps) → Hx b = some o) → SqL K Hx wl (W.map V.int) := fun k => by
      rcases hW with (h | ⟨o, h⟩) | h
      · exact .inl (.inl (k _ _ (fun z => by rw [z, hp] at h; cases h) h (fun _ z => by cases z)))
      · exact .inl (.inr ⟨o, k _ _ (fun z => by rw [z, hp] at h; cases h) h (fun _ z => by cases z)⟩)
      · exact .inr h
    generalize hH2 : upd H1 p (.ins A.cLooks dx [("measures", .ref ml)]) = H2 at *
    show tSeq _ _ _ _ (upd H1 p (.ins A.cLooks dx [("measures", .ref ml)]))
    rw [hH2]
    refine ⟨_, rfl, p, _, dx, _, _, rfl, hp2, C, n1, lk_here, ml, rfl, ⟨_, SqL.of m2⟩, fun D hD => lc_it (walk_list (K := K) (a := ml) (xs := (natI (wgt W)).map V.int)) (fun i H' => ExtN H2 H' ∧ Tabs (tabsT A) H' ∧ ∃ rws : List Addr, H' D = some (.lst (rws.map V.ref)) ∧ RowsAt H' rws (((wgt W).take i).map fun m => natI (sortedM rows m)) ∧ ∀ b ∈ rws, b ≠ D)
      ⟨.of (same_upd (Same.refl _) hD), tabs_new t2 hD, [], upd_same, trivial, fun b hb => absurd hb (by simp)⟩ (fun i H' _ z => SqL.of (z.1 _ _ m2 (fun _ z => by cases z))) ?_ ?_⟩
    · rintro i x H' H'' hi ⟨hE, hT', rws, hDD, hrw, hnd⟩ ⟨rfl, hx⟩
      obtain ⟨m, hm, rfl⟩ := natI_at hx
      rw [List.length_map, natI_len] at hi
      obtain ⟨hm1', hm2'⟩ := wgt_lt hm
      have hrl := hrw.len
      rw [List.length_map, List.length_take] at hrl
      refine ⟨rfl, _, rfl, _, rfl, li, dl, u, it, ups, rs, rows, m, rfl, lsK fun b o hb e n => hE _ _ (k2 b o hb e) n, hO, by omega, hT', fun pr H3 e3 t3 n3 h3 => ?_⟩
      have hD3 := e3 _ _ hDD (fun _ z => by cases z)
      have hDp : ∀ {q : Addr} {xs : List V}, H'' q = some (.lst xs) → pr ≠ q := fun {q xs} hq z => by
        obtain ⟨ps, y⟩ := n3 _ (by rw [z]; exact hq)
        cases y
      have nD : pr ≠ D := hDp hDD
      refine ⟨_, hD3, by rw [List.length_map]; omega, ?_, tabs_put t3 hD3 (fun _ z => by cases z) lst_code, rws ++ [pr], by rw [upd_same, List.map_append]; rfl, ?_, fun b hb => (List.mem_append.mp hb).elim (hnd b) fun hb => by rw [List.mem_singleton.mp hb]; exact nD⟩
      · intro b o e n
        have nb : b ≠ D := ne_of_none e hD
        rw [upd_ne nb]
        exact e3 _ _ (hE _ _ e n) n
      · rw [take_more hm, List.map_append]
        refine RowsAt.snoc ?_ (hrw.mono fun b hb xs e => ?_)
        · rw [upd_ne nD]
          exact h3
        · rw [upd_ne (hnd b hb)]
          exact e3 _ _ e (fun _ z => by cases z)
    · rintro H' ⟨hE, hT', rws, hDD, hrw, _⟩
      have hlen : ((natI (wgt W)).map V.int).length = (wgt W).length := by rw [List.length_map, natI_len]
      rw [hlen, List.take_length] at hrw
      have hp3 := hE _ _ hp2 (fun _ z => by cases z)
      have hm3 := hE _ _ m2 (fun _ z => by cases z)
      refine ⟨_, rfl, p, _, dx, _, rfl, hp3, C, n2, by show 1 < 1000; decide, ?_⟩
      have pl : ∀ {Hx : Hp} {o : HO} {b : Addr} {xs : List V} {fs : List (Str × V)}, Hx p = some (.ins A.cLooks dx fs) → Hx b = some (.lst xs) → upd Hx p o b = some (.lst xs) := fun {Hx o b xs fs} e1 e2 => by
        rw [upd_ne fun z => by rw [z, e1] at e2; cases e2]
        exact e2
      have k3 : ∀ b o, b ≠ p → H b = some o → (∀ ps, o ≠ .tbl ps) → upd H' p (.ins A.cLooks dx [("measures", .ref ml), ("rows", .ref D)]) b = some o := fun b o hb e n => by
        rw [upd_ne hb]
        exact hE _ _ (k2 b o hb e) n
      refine ⟨_, rfl, _, rfl, li, dl, u, it, wl, ups, rs, rows, W, rfl, lsK k3, hO, wK k3, hok, fun sl H5 hS5 hsl h5 => ?_⟩
      have hp5 : H5 p = some (.ins A.cLooks dx [("measures", .ref ml), ("rows", .ref D)]) := hS5 _ _ upd_same
      have t5 : Tabs (tabsT A) H5 := (tabs_put hT' hp3 (fun _ z => by cases z) ins_code).ext hS5
      refine ⟨_, rfl, p, _, dx, _, rfl, hp5, C, n3, by show 2 < 1000; decide, ?_⟩
      refine q ml D sl rws _ ⟨upd_same, pl hp5 (hS5 _ _ (pl hp3 hm3)), pl hp5 (hS5 _ _ (pl hp3 hDD)), hrw.mono fun b _ xs e => pl hp5 (hS5 _ _ (pl hp3 e)), pl hp5 h5⟩ (fun b o hb e n => ?_) (tabs_put t5 hp5 (fun _ z => by cases z) ins_code)
      rw [upd_ne hb]
      exact hS5 _ _ (k3 b o hb e n)
theorem inV_nat (j : Nat) (fs : List Nat) : inV (.int (j : Int)) ((natI fs).map V.int) = decide (j ∈ fs) := by
  rw [Bool.eq_iff_iff, decide_eq_true_eq]
  unfold inV natI
  rw [List.any_eq_true]
  constructor
  · rintro ⟨x, hx, e⟩
    rw [List.map_map] at hx
    obtain ⟨k, hk, rfl⟩ := List.mem_map.mp hx
    have : (k : Int) = (j : Int) := by simpa [eqV] using e
    obtain rfl : k = j := by exact_mod_cast this
    exact hk
  · intro h
    exact ⟨.int (j : Int), by rw [List.map_map]; exact List.mem_map.mpr ⟨j, h, rfl⟩, by simp [eqV]⟩
theorem nat_flat (fs : List Nat) : ((natI fs).map V.int).all flatV = true := by
  rw [List.all_eq_true]
  intro x hx
  obtain ⟨k, _, rfl⟩ := List.mem_map.mp hx
  rfl
def sp_seen_at (K : PySem.W.Frag) (A : Ads) : Sp := fun vs H Q _ => ∃ (lk dk ml rl sl : Addr) (rws : List Addr) (W : List Int) (rows : List (List Int)) (d : Nat), vs = [.ref lk, .int (d : Int)] ∧ LkAt A H lk dk ml rl sl rws W rows ∧ rows.length ≤ 16 ∧ W.length ≤ 4 ∧
  ∀ p H', Same H H' → H p = none → H' p = some (.lst ((natI (seenM rows W d)).map V.int)) → Q (.ref p) H'
theorem d_seen_at (T : Tx K mg base A) : Def P w K mg base CX0 1 "seen_at" ["looks", "depth"] (sp_seen_at K A) := def_of T.t_seen_at (fun _ _ _ _ _ _ us hl => match us, hl with | [_, _], _ => rfl) fun f fd F => by
  have nd := sc_seen_at.nd
  refine F.ok sc_seen_at (fun vs H Q E h => ?_) (fun cdv Ar outer s H vs Q E hr h => ⟨_, (pss_cons (ps_set (i := 2) nd rfl (Or.inr rfl) (pe_lst pa_nil))
        (pss_cons (ps_for PassesOwn.never rfl (pi_list (pe_fld (pv 0) rfl)) (pg_name (i := 3) nd rfl (Or.inl rfl)) (pss_one (ps_expr (pe_bm PySem.F.plainAttrs_list PySem.F.slot_list_extend PySem.F.type_list_extend mt_extend (pv 2) (pa_cons (pe_lc (own := [("item", 4)]) (g := gName 4) (by rfl) nd (pi_list (pe_slice sl_list (pv 3) po_none (po_some (pv 1)))) (blkOk_by (own := [("item", 4)]) (N := N_seen_at) (sc := defScope s_seen_at) (by decide +kernel)) (fun _ _ _ _ _ => (pg_name (i := 4) nd rfl (Or.inl rfl))) (fun _ _ _ _ _ => pts_one (pt_cmpR (show OpR _ (compareOp .NotIn) (rIn K true) from op_notIn_seq) (pv 4) (pv 2) (by rfl))) (fun _ _ _ _ _ => (pv 4))) pa_nil)))))
        (pss_one (ps_ret (pe_callB cr_sortedI (by rfl) T.b_sorted (by decide +kernel) (pa_cons (pv 2) pa_nil)))))), ?_⟩)
  · obtain ⟨lk, dk, ml, rl, sl, rws, W, rows, d, rfl, _⟩ := h
    rfl
  · obtain ⟨lk, dk, ml, rl, sl, rws, W, rows, d, rfl, hL, hn, hw4, q⟩ := h
    have C := T.k_Looks.cl
    have n2 := T.k_Looks.no "rows" (by simp)
    have s1 : 1000 < sizeLine := by decide
    have hrl := hL.w.len
    rw [List.length_map] at hrl
    have hwl := wgt_len W
    refine ⟨by show 0 ≤ sizeLine; decide, fun Fa hF => ?_⟩
    have hS0 := same_upd (o := .lst []) (Same.refl H) hF
    refine ⟨_, rfl, lk, _, dk, _, _, rfl, hS0 _ _ hL.l, C, n2, lkF_rows ml rl sl, rl, rfl, ⟨_, SqL.of (hS0 _ _ hL.r)⟩, for_it (walk_list (K := K) (a := rl) (xs := rws.map V.ref))
      (fun i σ H' => ∃ (fs : List Nat) (y : Option V), σ = [some (.ref lk), some (.int (d : Int)), some (.ref Fa), y, none] ∧ Same H H' ∧ H' Fa = some (.lst ((natI fs).map V.int)) ∧ fs.Nodup ∧ fs.length ≤ 16 ∧ (∀ j ∈ fs, j < rows.length) ∧ ∀ j, j ∈ fs ↔ ∃ m ∈ (wgt W).take i, j ∈ (sortedM rows m).take d)
      ⟨[], none, rfl, hS0, upd_same, List.nodup_nil, by simp, by simp, by simp⟩ (fun i σ H' _ ⟨_, _, _, s, _⟩ => SqL.of (s _ _ hL.r)) ?_ ?_⟩
    · rintro i x σ H' H'' hi ⟨fs, y, rfl, hS, hFv, hnd, hf16, hflt, hmem⟩ ⟨rfl, hx⟩
      obtain ⟨pr, hpr, rfl⟩ := map_at hx
      rw [List.length_map] at hi
      have hwm := List.getElem?_eq_getElem (show i < (wgt W).length by omega)
      generalize (wgt W)[i] = m at hwm
      obtain ⟨p2, hp2, hp3⟩ := hL.w.get (i := i) (r := natI (sortedM rows m)) (by rw [List.getElem?_map, hwm]; rfl)
      rw [hpr] at hp2
      cases hp2
      refine ⟨_, rfl, .inl ⟨rfl, _, SqL.of hFv⟩, _, rfl, _, rfl, _, rfl, pr, _, rfl, SqL.of (hS _ _ hp3), fun ps hps => ?_⟩
      have ecut : cutV ((natI (sortedM rows m)).map V.int) none (some (d : Int)) = (natI ((sortedM rows m).take d)).map V.int := by
        rw [cut_first]
        unfold natI
        rw [List.map_take, List.map_take]
      rw [ecut]
      have hS1 := same_upd (o := .lst ((natI ((sortedM rows m).take d)).map V.int)) (Same.refl H'') hps
      refine ⟨ps, rfl, ⟨_, SqL.of upd_same⟩, fun D hD => lc_it (walk_list (K := K) (a := ps) (xs := (natI ((sortedM rows m).take d)).map V.int)) (fun j H' => Same (upd H'' ps (.lst ((natI ((sortedM rows m).take d)).map V.int))) H' ∧ H' D = some (.lst ((natI ((((sortedM rows m).take d).take j).filter fun k => !decide (k ∈ fs))).map V.int)))
        ⟨same_upd (Same.refl _) hD, upd_same⟩ (fun j H' _ z => z.1.seq (SqL.of upd_same)) ?_ ?_⟩
      · rintro j x H2 H3 hj ⟨hS2, hDD⟩ ⟨rfl, hx⟩
        obtain ⟨k, hk, rfl⟩ := natI_at hx
        have hlen : ((sortedM rows m).take d).length ≤ rows.length := by
          rw [List.length_take, Bw.sortedM_len]
          omega
        rw [List.length_map, natI_len] at hj
        have hle : ((((sortedM rows m).take d).take j).filter fun k => !decide (k ∈ fs)).length ≤ j := Nat.le_trans (List.length_filter_le _ _) (by rw [List.length_take]; omega)
        refine ⟨rfl, _, rfl, _, rfl, Fa, _, rfl, .inl (SqL.of (hS2 _ _ (hS1 _ _ hFv))), rfl, nat_flat fs, _, rfl, ?_⟩
        rw [if_pos rfl, inV_nat]
        refine ite2 (fun h1 => ⟨_, rfl, ?_⟩) fun h1 => ⟨hS2, ?_⟩
        · exact lc_fin (out := fun j => (natI ((((sortedM rows m).take d).take j).filter fun k => !decide (k ∈ fs))).map V.int) hS2 hD hDD (by rw [List.length_map, natI_len]; omega) (by show (natI ((((sortedM rows m).take d).take (j + 1)).filter _)).map V.int = _; rw [filter_more hk, if_pos h1]; unfold natI; rw [List.map_append, List.map_append]; rfl)
        · rw [hDD, filter_more hk, if_neg h1, List.append_nil]
      · rintro H2 ⟨hS2, hDD⟩
        have hlen : ((natI ((sortedM rows m).take d)).map V.int).length = ((sortedM rows m).take d).length := by rw [List.length_map, natI_len]
        rw [hlen, List.take_length] at hDD
        have hF2 := hS2 _ _ (hS1 _ _ hFv)
        have hDF : D ≠ Fa := fun z => by
          rw [z] at hD
          rw [hS1 _ _ hFv] at hD
          cases hD
        have hmlt : ∀ k ∈ fs ++ (((sortedM rows m).take d).filter fun k => !decide (k ∈ fs)), k < rows.length := fun k hk => (List.mem_append.mp hk).elim (hflt k) fun hk => Bw.sortedM_mem.mp (List.mem_of_mem_take (List.mem_filter.mp hk).1)
        have hnd2 : (fs ++ (((sortedM rows m).take d).filter fun k => !decide (k ∈ fs))).Nodup := by
          refine List.nodup_append.mpr ⟨hnd, ((Bw.sortedM_nodup rows m).take).filter _, fun a ha b hb e => ?_⟩
          have := (List.mem_filter.mp hb).2
          rw [← e] at this
          simp [ha] at this
        have hl16 : (fs ++ (((sortedM rows m).take d).filter fun k => !decide (k ∈ fs))).length ≤ 16 := by
          have h1 := hnd2.length_le_of_subset (l₂ := List.range rows.length) fun k hk => List.mem_range.mpr (hmlt k hk)
          rw [List.length_range] at h1
          omega
        have hl16' := hl16
        rw [List.length_append] at hl16'
        refine ⟨Fa, D, _, _, rfl, rfl, hF2, hDD, by rw [List.length_map, List.length_map, natI_len, natI_len]; omega, fs ++ (((sortedM rows m).take d).filter fun k => !decide (k ∈ fs)), _, rfl, ?_, ?_, hnd2, hl16, hmlt, fun k => ?_⟩
        · exact same_upd (fun b o e => hS2 _ _ (hS1 _ _ (hS _ _ e))) hF
        · rw [upd_same]
          unfold natI
          rw [List.map_append, List.map_append]
        · rw [take_more hwm, List.mem_append, hmem k, List.mem_filter]
          constructor
          · rintro (⟨m', h1, h2⟩ | ⟨h1, h2⟩)
            · exact ⟨m', List.mem_append.mpr (.inl h1), h2⟩
            · exact ⟨m, List.mem_append.mpr (.inr (by simp)), h1⟩
          · rintro ⟨m', h1, h2⟩
            rcases List.mem_append.mp h1 with h1 | h1
            · exact .inl ⟨m', h1, h2⟩
            · obtain rfl := List.mem_singleton.mp h1
              by_cases hk : k ∈ fs
              · exact .inl ((hmem k).mp hk)
              · exact .inr ⟨h2, by simp [hk]⟩
    · rintro σ H' ⟨fs, y, rfl, hS, hFv, hnd, hf16, hflt, hmem⟩
      rw [List.length_map, hrl, List.take_length] at hmem
      refine ⟨_, rfl, Fa, _, rfl, SqL.of hFv, fun ns p hperm hsort hp => ?_⟩
      have e := Bw.seen_uniq hnd hmem hperm hsort
      subst e
      exact q p _ (same_upd' hS hp) (hS.free hp) upd_same
end
end BwW
end

section
set_option Elab.async false
set_option linter.all false
set_option maxRecDepth 100000
set_option maxHeartbeats 2000000
namespace BwW
open PySem PySem.Spec PyProof.Rows L2 BwK
open LamX (ExtN Tabs TabS)
open Bw (okW weighed scoresM scAt inOrder natI wgt sortedM seenM limM limT stopM depM cntM firstM)
section
variable {P : Program} {w : World} {K : PySem.W.Frag} {mg : Str → Option Value} {base : Heap} {A : Ads}
theorem getD_at {α : Type} {l : List α} {i : Nat} {d : α} (h : i < l.length) : l[i]? = some (l.getD i d) := by
  simp [List.getD, h]
def sp_limit_at (K : PySem.W.Frag) (A : Ads) : Sp := fun vs H Q _ => ∃ (li dl u it wl lk dk ml rl sl : Addr) (ups : List Bool) (rs rws : List Addr) (rows : List (List Int)) (W : List Int) (d : Nat), vs = [.ref li, .ref wl, .ref lk, .int (d : Int)] ∧ LsAt A H li dl u it ups rs rows ∧ LsOk ups rows ∧ SqL K H wl (W.map V.int) ∧ okW ups.length W = true ∧
  LkAt A H lk dk ml rl sl rws W rows ∧ 0 < d ∧ d ≤ rows.length ∧ ∀ H', Same H H' → Q (.int (limM rows W d)) H'
theorem d_limit_at (T : Tx K mg base A) : Def P w K mg base CX0 1 "limit_at" ["listing", "weights", "looks", "depth"] (sp_limit_at K A) := def_of T.t_limit_at (fun _ _ _ _ _ _ us hl => match us, hl with | [_, _, _, _], _ => rfl) fun f fd F => by
  have nd := sc_limit_at.nd
  refine F.ok sc_limit_at (fun vs H Q E h => ?_) (fun cdv Ar outer s H vs Q E hr h => ⟨_, (pss_cons (ps_set (i := 4) nd rfl (Or.inl rfl) pe_int)
        (pss_cons (ps_for PassesOwn.never rfl (pi_zip (by rfl) T.b_zip (pa_cons (pe_fld (pv 2) rfl) (pa_cons (pe_fld (pv 2) rfl) pa_nil))) (pg_tup rfl (pgs_cons (pg_name (i := 5) nd rfl (Or.inl rfl)) (pgs_cons (pg_name (i := 6) nd rfl (Or.inl rfl)) pgs_nil))) (pss_one (ps_set (i := 4) nd rfl (Or.inl rfl) (pe_op op_add (pv 4) (pe_op op_mul (pe_ix ix_list (pv 1) (pv 5) (fun _ _ => rfl)) (pe_ix ix_list (pe_ix ix_list (pe_fld (pv 0) rfl) (pe_ix ix_list (pv 6) (pe_op op_sub (pv 3) pe_int) (fun _ _ => rfl)) (fun _ _ => rfl)) (pv 5) (fun _ _ => rfl)))))))
        (pss_one (ps_ret (pv 4))))), ?_⟩)
  · obtain ⟨li, dl, u, it, wl, lk, dk, ml, rl, sl, ups, rs, rws, rows, W, d, rfl, _⟩ := h
    rfl
  · obtain ⟨li, dl, u, it, wl, lk, dk, ml, rl, sl, ups, rs, rws, rows, W, d, rfl, hL, hO, hW, hok, hK, hd0, hd, q⟩ := h
    have C := T.k_Looks.cl
    have C2 := T.k_Listing.cl
    have n1 := T.k_Looks.no "measures" (by simp)
    have n2 := T.k_Looks.no "rows" (by simp)
    have n3 := T.k_Listing.no "items_told" (by simp)
    obtain ⟨hWl, hWb⟩ := okW_bd hok
    have hrl := hK.w.len
    rw [List.length_map] at hrl
    refine ⟨_, rfl, lk, _, dk, _, _, rfl, hK.l, C, n1, lkF_measures ml rl sl, _, rfl, lk, _, dk, _, _, rfl, hK.l, C, n2, lkF_rows ml rl sl, ml, rl, _, _, rfl, SqL.of hK.m, SqL.of hK.r, for_it (walk_zip (n := (wgt W).length) (by rw [List.length_map, List.length_map, natI_len]; omega))
      (fun i σ H' => ∃ y z : Option V, σ = [some (.ref li), some (.ref wl), some (.ref lk), some (.int (d : Int)), some (.int (((wgt W).take i).map (limT rows W d)).sum), y, z] ∧ Same H H') ⟨none, none, rfl, Same.refl _⟩ (fun i σ H' _ ⟨_, _, _, s⟩ => ⟨SqL.of (s _ _ hK.m), SqL.of (s _ _ hK.r)⟩) ?_ ?_⟩
    · rintro i x σ H' H'' hi ⟨y, z, rfl, hS⟩ ⟨Tp, x1, x2, rfl, hT, rfl, hx1, hx2⟩
      obtain ⟨m, hm, rfl⟩ := natI_at hx1
      obtain ⟨pr, hpr, rfl⟩ := map_at hx2
      obtain ⟨hm1, hm2⟩ := wgt_lt hm
      obtain ⟨p2, hp2, hp3⟩ := hK.w.get (i := i) (r := natI (sortedM rows m)) (by rw [List.getElem?_map, hm]; rfl)
      rw [hpr] at hp2
      cases hp2
      have hS2 : Same H (upd H' Tp (.tup [.int (m : Int), .ref pr])) := same_upd' hS hT
      have hsl := Bw.sortedM_len rows m
      have hs1 : (sortedM rows m)[d - 1]? = some ((sortedM rows m).getD (d - 1) 0) := getD_at (by omega)
      have hslt : (sortedM rows m).getD (d - 1) 0 < rows.length := Bw.sortedM_mem.mp (List.mem_of_getElem? hs1)
      have hr1 := getD_at (d := ([] : List Int)) hslt
      obtain ⟨p4, hp4, hp5⟩ := hL.r.get hr1
      have hrm := (hO.r _ (List.mem_of_getElem? hr1)).1
      have hv1 : ((rows.getD ((sortedM rows m).getD (d - 1) 0) []).map V.int)[m]? = some (.int ((rows.getD ((sortedM rows m).getD (d - 1) 0) []).getD m 0)) := scAt_at (by omega)
      have hw1 : (W.map V.int)[m]? = some (.int (W.getD m 0)) := scAt_at hm1
      have hwb := hWb (W.getD m 0) (List.mem_of_getElem? (getD_at (d := 0) hm1))
      have ed : (d : Int) - 1 = ((d - 1 : Nat) : Int) := by omega
      refine ⟨Tp, _, rfl, SqT.of upd_same, rfl, _, _, rfl, _, _, rfl, rfl, ?_⟩
      refine ⟨_, rfl, _, rfl, _, rfl, wl, _, _, _, rfl, rfl, hS2.seq hW, atI_nat hw1, ?_⟩
      refine ⟨_, rfl, li, _, dl, _, _, rfl, hS2 _ _ hL.l, C2, n3, lsF_items u it, _, rfl, _, rfl, _, _, rfl, rfl, pr, _, _, _, rfl, rfl, SqL.of (hS2 _ _ hp3), by rw [ed]; exact atI_nat (natI_get hs1), it, _, _, _, rfl, rfl, SqL.of (hS2 _ _ hL.i), atI_nat (by rw [List.getElem?_map, hp4]; rfl), _, rfl, p4, _, _, _, rfl, rfl, SqL.of (hS2 _ _ hp5), atI_nat hv1, _, _, rfl, rfl, .inl ⟨by omega, by omega⟩, _, _, rfl, rfl, some (.int (m : Int)), some (.ref pr), ?_, hS2⟩
      rw [take_more hm, List.map_append, List.sum_append, List.map_singleton, List.sum_singleton]
      rfl
    · rintro σ H' ⟨y, z, rfl, hS⟩
      rw [List.take_length]
      exact ⟨_, rfl, q H' hS⟩
def sp_may_stop (K : PySem.W.Frag) (A : Ads) : Sp := fun vs H Q _ => ∃ (li dl u it wl lk dk ml rl sl : Addr) (ups : List Bool) (rs rws : List Addr) (rows : List (List Int)) (W : List Int) (k d : Nat), vs = [.ref li, .ref wl, .ref lk, .int (k : Int), .int (d : Int)] ∧ LsAt A H li dl u it ups rs rows ∧ LsOk ups rows ∧ SqL K H wl (W.map V.int) ∧ okW ups.length W = true ∧
  LkAt A H lk dk ml rl sl rws W rows ∧ d ≤ rows.length ∧ ∀ H', Same H H' → Q (.bl (stopM rows W k d)) H'
theorem d_may_stop (T : Tx K mg base A) : Def P w K mg base CX0 2 "may_stop" ["listing", "weights", "looks", "many", "depth"] (sp_may_stop K A) := def_of T.t_may_stop (fun _ _ _ _ _ _ us hl => match us, hl with | [_, _, _, _, _], _ => rfl) fun f fd F => by
  have nd := sc_may_stop.nd
  have d_limit_at := d_limit_at (P := P) (w := w) T
  have d_seen_at := d_seen_at (P := P) (w := w) T
  refine F.ok sc_may_stop (fun vs H Q E h => ?_) (fun cdv Ar outer s H vs Q E hr h => ⟨_, (pss_cons (ps_if (PW.pt (pw_or (pt_cmpR op_eq (pv 3) pe_int (nomark _)) (pw_or1 (pt_cmpR op_eq (pv 4) (pe_callB call_len_seq (by rfl) T.b_len PySem.boot_len (pa_cons (pe_fld (pv 2) rfl) pa_nil)) (nomark _))))) (pss_one (ps_ret pe_bl)) pss_nil)
        (pss_cons (ps_if (pt_cmpR op_eq (pv 4) pe_int (nomark _)) (pss_one (ps_ret pe_bl)) pss_nil)
        (pss_cons (ps_set (i := 5) nd rfl (Or.inr rfl) (pe_d d_limit_at (hr.mono (by decide)) (pa_cons (pv 0) (pa_cons (pv 1) (pa_cons (pv 2) (pa_cons (pv 4) pa_nil))))))
        (pss_cons (ps_setLc (i := 6) (own := [("item", 7)]) (g := gName 7) (by rfl) nd rfl rfl (sw_true rfl rfl rfl (by decide +kernel)) (pi_list (pe_d d_seen_at (hr.mono (by decide)) (pa_cons (pv 2) (pa_cons (pv 4) pa_nil)))) (blkOk_by (own := [("item", 7)]) (N := N_may_stop) (sc := defScope s_may_stop) (by decide +kernel)) (fun _ _ _ _ _ => (pg_name (i := 7) nd rfl (Or.inl rfl))) (fun _ _ _ _ _ => pts_one (pt_cmpR op_gt (pe_ix (show IxR _ (rIxL K) from ix_list) (pe_fldK (K := K) rfl (pv 2)) (pv 7) (fun _ _ => rfl)) (pv 5) (nomark _))) (fun _ _ _ _ _ => (pv 7)))
        (pss_one (ps_ret (pe_cmpR op_ge (pe_callB call_len_seq (by rfl) T.b_len PySem.boot_len (pa_cons (pv 6) pa_nil)) (pv 3) (nomark _)))))))), ?_⟩)
  · obtain ⟨li, dl, u, it, wl, lk, dk, ml, rl, sl, ups, rs, rws, rows, W, k, d, rfl, _⟩ := h
    rfl
  · obtain ⟨li, dl, u, it, wl, lk, dk, ml, rl, sl, ups, rs, rws, rows, W, k, d, rfl, hL, hO, hW, hok, hK, hd, q⟩ := h
    have C := T.k_Looks.cl
    have n1 := T.k_Looks.no "scores" (by simp)
    obtain ⟨hWl, hWb⟩ := okW_bd hok
    have hu4 := hO.u
    have hn16 := hO.n
    have s1 : 1000 < sizeLine := by decide
    have hsl : (scoresM W rows).length = rows.length := List.length_map ..
    have dI : ∀ a b : Nat, decide (V.int (a : Int) = V.int (b : Int)) = decide (a = b) := fun a b => by
      rw [Bool.eq_iff_iff, decide_eq_true_eq, decide_eq_true_eq]
      exact ⟨fun h => by injection h with h; exact_mod_cast h, fun h => by rw [h]⟩
    refine seq_or (decide (k = 0)) (decide (d = rows.length)) (fun Q' q' => ⟨_, rfl, rfl, _, rfl, by rw [show decide (V.int (k : Int) = V.int 0) = decide (k = 0) from dI k 0]; exact q'⟩)
      (fun _ Q' q' => ⟨_, rfl, _, rfl, lk, _, dk, _, _, rfl, hK.l, C, n1, lkF_scores ml rl sl, sl, _, rfl, .inl (SqL.of hK.s), rfl, _, rfl, by rw [List.length_map, hsl, dI]; exact q'⟩) ?_
    refine ite2 (fun h1 => ?_) fun h1 => ?_
    · simp only [Bool.or_eq_true, decide_eq_true_eq] at h1
      have := q H (Same.refl H)
      unfold stopM at this
      rw [if_pos h1] at this
      exact this
    simp only [Bool.or_eq_true, decide_eq_true_eq] at h1
    refine ⟨_, rfl, rfl, _, rfl, ?_⟩
    rw [show decide (V.int (d : Int) = V.int 0) = decide (d = 0) from dI d 0]
    refine ite2 (fun h2 => ?_) fun h2 => ?_
    · have := q H (Same.refl H)
      unfold stopM at this
      rw [if_neg h1, if_pos (of_decide_eq_true h2)] at this
      exact this
    have h2' : ¬ d = 0 := fun z => h2 (decide_eq_true z)
    refine ⟨_, rfl, _, rfl, _, rfl, _, rfl, li, dl, u, it, wl, lk, dk, ml, rl, sl, ups, rs, rws, rows, W, d, rfl, hL, hO, hW, hok, hK, by omega, hd, fun H1 hS1 => ?_⟩
    refine ⟨_, rfl, _, rfl, lk, dk, ml, rl, sl, rws, W, rows, d, rfl, hK.same hS1, hn16, by omega, fun ps H2 hS2 hps hps2 => ?_⟩
    have hsn := Bw.seenM_nodup rows W d
    have hsl16 : (seenM rows W d).length ≤ 16 := by
      have h1 := hsn.length_le_of_subset (l₂ := List.range rows.length) fun j hj => List.mem_range.mpr (Bw.seenM_lt hj)
      rw [List.length_range] at h1
      omega
    refine ⟨ps, rfl, ⟨_, SqL.of hps2⟩, fun D hD => lc_it (walk_list (K := K) (a := ps) (xs := (natI (seenM rows W d)).map V.int)) (fun j H' => Same H2 H' ∧ H' D = some (.lst ((natI (((seenM rows W d).take j).filter fun i => decide (limM rows W d < scAt (scoresM W rows) i))).map V.int))) ⟨same_upd (Same.refl _) hD, upd_same⟩ (fun j H' _ z => z.1.seq (SqL.of hps2)) ?_ ?_⟩
    · rintro j x H3 H4 hj ⟨hS3, hDD⟩ ⟨rfl, hx⟩
      obtain ⟨i, hi, rfl⟩ := natI_at hx
      rw [List.length_map, natI_len] at hj
      have hilt := Bw.seenM_lt (List.mem_of_getElem? hi)
      have hle : (((seenM rows W d).take j).filter fun i => decide (limM rows W d < scAt (scoresM W rows) i)).length ≤ j := Nat.le_trans (List.length_filter_le _ _) (by rw [List.length_take]; omega)
      have hK4 := ((hK.same hS1).same hS2).same hS3
      have hat : ((scoresM W rows).map V.int)[i]? = some (.int (scAt (scoresM W rows) i)) := scAt_at (by omega)
      refine ⟨rfl, _, rfl, lk, _, dk, _, _, rfl, hK4.l, C, n1, lkF_scores ml rl sl, _, rfl, sl, _, _, _, rfl, rfl, SqL.of hK4.s, atI_nat hat, _, rfl, _, _, rfl, rfl, _, rfl, ite2 (fun h3 => ⟨_, rfl, ?_⟩) fun h3 => ⟨hS3, ?_⟩⟩
      · exact lc_fin (out := fun j => (natI (((seenM rows W d).take j).filter fun i => decide (limM rows W d < scAt (scoresM W rows) i))).map V.int) hS3 hD hDD (by rw [List.length_map, natI_len]; omega) (by show (natI (((seenM rows W d).take (j + 1)).filter _)).map V.int = _; rw [filter_more hi, if_pos h3]; unfold natI; rw [List.map_append, List.map_append]; rfl)
      · rw [hDD, filter_more hi, if_neg h3, List.append_nil]
    · rintro H3 ⟨hS3, hDD⟩
      have hlen : ((natI (seenM rows W d)).map V.int).length = (seenM rows W d).length := by rw [List.length_map, natI_len]
      rw [hlen, List.take_length] at hDD
      refine ⟨_, rfl, D, _, rfl, .inl (SqL.of hDD), _, rfl, _, _, rfl, rfl, ?_⟩
      rw [List.length_map, natI_len]
      have := q H3 ((hS1.trans hS2).trans hS3)
      unfold stopM at this
      rw [if_neg h1, if_neg h2'] at this
      have e : decide ((k : Int) ≤ (((seenM rows W d).filter fun i => decide (limM rows W d < scAt (scoresM W rows) i)).length : Int)) = decide (k ≤ cntM rows W d) := by
        rw [Bool.eq_iff_iff, decide_eq_true_eq, decide_eq_true_eq]
        unfold cntM
        omega
      rw [← e] at this
      exact this
end
end BwW
end

section
set_option Elab.async false
set_option linter.all false
set_option maxRecDepth 100000
set_option maxHeartbeats 2000000
namespace BwW
open PySem PySem.Spec PyProof.Rows L2 BwK
open LamX (ExtN Tabs TabS)
open Bw (okW weighed scoresM scAt inOrder natI wgt sortedM seenM limM limT stopM depM cntM firstM)
section
variable {P : Program} {w : World} {K : PySem.W.Frag} {mg : Str → Option Value} {base : Heap} {A : Ads}
def sp_depth_for (K : PySem.W.Frag) (A : Ads) : Sp := fun vs H Q _ => ∃ (li dl u it wl lk dk ml rl sl : Addr) (ups : List Bool) (rs rws : List Addr) (rows : List (List Int)) (W : List Int) (k : Nat), vs = [.ref li, .ref wl, .ref lk, .int (k : Int)] ∧ LsAt A H li dl u it ups rs rows ∧ LsOk ups rows ∧ SqL K H wl (W.map V.int) ∧ okW ups.length W = true ∧
  LkAt A H lk dk ml rl sl rws W rows ∧ ∀ H', Same H H' → Q (.int (depM rows W k : Nat)) H'
theorem d_depth_for (T : Tx K mg base A) : Def P w K mg base CX0 3 "depth_for" ["listing", "weights", "looks", "many"] (sp_depth_for K A) := def_of T.t_depth_for (fun _ _ _ _ _ _ us hl => match us, hl with | [_, _, _, _], _ => rfl) fun f fd F => by
  have nd := sc_depth_for.nd
  have d_may_stop := d_may_stop (P := P) (w := w) T
  refine F.ok sc_depth_for (fun vs H Q E h => ?_) (fun cdv Ar outer s H vs Q E hr h => ⟨_, (pss_cons (ps_set (i := 4) nd rfl (Or.inl rfl) (pe_listRg rfl (by rfl) T.b_list (prg_1 (by rfl) T.b_range (pe_op op_add (pe_callB call_len_seq (by rfl) T.b_len PySem.boot_len (pa_cons (pe_fld (pv 2) rfl) pa_nil)) pe_int))))
        (pss_one (ps_ret (pe_callB (cr_min rfl) (by rfl) T.b_min (by decide +kernel) (pa_cons (pe_lc (own := [("depth", 5)]) (g := gName 5) (by rfl) nd (pi_list (pv 4)) (blkOk_by (own := [("depth", 5)]) (N := N_depth_for) (sc := defScope s_depth_for) (by decide +kernel)) (fun _ _ _ _ _ => (pg_name (i := 5) nd rfl (Or.inl rfl))) (fun _ _ _ _ _ => pts_one (pt_val (pe_d d_may_stop (hr.mono (by decide)) (pa_cons (pv 0) (pa_cons (pv 1) (pa_cons (pv 2) (pa_cons (pv 3) (pa_cons (pv 5) pa_nil)))))))) (fun _ _ _ _ _ => (pv 5))) pa_nil))))), ?_⟩)
  · obtain ⟨li, dl, u, it, wl, lk, dk, ml, rl, sl, ups, rs, rws, rows, W, k, rfl, _⟩ := h
    rfl
  · obtain ⟨li, dl, u, it, wl, lk, dk, ml, rl, sl, ups, rs, rws, rows, W, k, rfl, hL, hO, hW, hok, hK, q⟩ := h
    have C := T.k_Looks.cl
    have n1 := T.k_Looks.no "scores" (by simp)
    obtain ⟨hWl, hWb⟩ := okW_bd hok
    have hn16 := hO.n
    have s1 : 1000 < sizeLine := by decide
    have hsl : (scoresM W rows).length = rows.length := List.length_map ..
    refine ⟨_, rfl, lk, _, dk, _, _, rfl, hK.l, C, n1, lkF_scores ml rl sl, sl, _, rfl, .inl (SqL.of hK.s), _, _, rfl, rfl, _, rfl, ?_⟩
    rw [List.length_map, hsl]
    have en : (rows.length : Int) + 1 = ((rows.length + 1 : Nat) : Int) := rfl
    refine ⟨⟨by decide, by decide, by omega, by omega, by omega⟩, fun dl2 hdl => ?_⟩
    rw [en, rgV_nat]
    have hS1 := same_upd (o := .lst ((natI (List.range (rows.length + 1))).map V.int)) (Same.refl H) hdl
    have hd1 : upd H dl2 (.lst ((natI (List.range (rows.length + 1))).map V.int)) dl2 = some (.lst ((natI (List.range (rows.length + 1))).map V.int)) := upd_same
    generalize upd H dl2 (.lst ((natI (List.range (rows.length + 1))).map V.int)) = H1 at *
    refine ⟨_, rfl, dl2, rfl, ⟨_, SqL.of hd1⟩, fun D hD => lc_it (walk_list (K := K) (a := dl2) (xs := (natI (List.range (rows.length + 1))).map V.int)) (fun j H' => Same H1 H' ∧ H' D = some (.lst ((natI (((List.range (rows.length + 1)).take j).filter (stopM rows W k))).map V.int))) ⟨same_upd (Same.refl _) hD, upd_same⟩ (fun j H' _ z => z.1.seq (SqL.of hd1)) ?_ ?_⟩
    · rintro j x H' H'' hj ⟨hS, hDD⟩ ⟨rfl, hx⟩
      obtain ⟨d, hd, rfl⟩ := natI_at hx
      rw [List.length_map, natI_len, List.length_range] at hj
      obtain rfl : d = j := by
        rw [range_at hj] at hd
        exact (Option.some.inj hd).symm
      have hS' := hS1.trans hS
      have hle : (((List.range (rows.length + 1)).take d).filter (stopM rows W k)).length ≤ d := Nat.le_trans (List.length_filter_le _ _) (by rw [List.length_take]; omega)
      refine ⟨rfl, _, rfl, _, rfl, _, rfl, _, rfl, _, rfl, li, dl, u, it, wl, lk, dk, ml, rl, sl, ups, rs, rws, rows, W, k, d, rfl, hL.same hS', hO, hS'.seq hW, hok, hK.same hS', by omega, fun H3 hS3 => ⟨_, rfl, ite2 (fun h1 => ⟨_, rfl, ?_⟩) fun h1 => ⟨hS.trans hS3, ?_⟩⟩⟩
      · exact lc_fin (out := fun j => (natI (((List.range (rows.length + 1)).take j).filter (stopM rows W k))).map V.int) (hS.trans hS3) hD (hS3 _ _ hDD) (by rw [List.length_map, natI_len]; omega) (by show (natI (((List.range (rows.length + 1)).take (d + 1)).filter _)).map V.int = _; rw [filter_more hd, if_pos h1]; unfold natI; rw [List.map_append, List.map_append]; rfl)
      · rw [hS3 _ _ hDD, filter_more hd, if_neg h1, List.append_nil]
    · rintro H' ⟨hS, hDD⟩
      have hlen : ((natI (List.range (rows.length + 1))).map V.int).length = (List.range (rows.length + 1)).length := by rw [List.length_map, natI_len]
      rw [hlen, List.take_length] at hDD
      have hw0 : ∀ z ∈ W, 0 ≤ z := fun z hz => (hWb z hz).1
      refine ⟨D, _, rfl, SqL.of hDD, ?_, fun m hm ha => ?_⟩
      · rw [natI_len]
        exact List.length_pos_of_mem (Bw.dep_some rows W k)
      · rw [Bw.dep_uniq hw0 hm ha]
        exact q H' (hS1.trans hS)
def lookM (rows : List (List Int)) (W : List Int) (k : Nat) : List Int := [((depM rows W k : Nat) : Int), ((depM rows W k : Nat) : Int) * ((wgt W).length : Int), ((seenM rows W (depM rows W k)).length : Int), ((firstM rows W k).length : Int)] ++ natI (firstM rows W k)
theorem made {H : Hp} {x dx : Addr} {C : Addr} (nx : H x = none) (nd : H dx = none) : ∀ b o, H b = some o → upd (upd H dx (.own x)) x (.ins C dx []) b = some o := fun b o e => by
  rw [upd_ne (ne_of_none e nx), upd_ne (ne_of_none e nd)]
  exact e
def sp_looked (K : PySem.W.Frag) (A : Ads) : Sp := fun vs H Q _ => ∃ (li dl u it wl : Addr) (ups : List Bool) (rs : List Addr) (rows : List (List Int)) (W : List Int) (k : Nat), vs = [.ref li, .ref wl, .int (k : Int)] ∧ LsAt A H li dl u it ups rs rows ∧ LsOk ups rows ∧ SqL K H wl (W.map V.int) ∧ okW ups.length W = true ∧ Tabs (tabsT A) H ∧
  ∀ p H', ExtN H H' → Tabs (tabsT A) H' → NewT H p → H' p = some (.lst ((lookM rows W k).map V.int)) → Q (.ref p) H'
theorem d_looked (T : Tx K mg base A) : Def P w K mg base CX0 6 "looked" ["listing", "weights", "many"] (sp_looked K A) := def_of T.t_looked (fun _ _ _ _ _ _ us hl => match us, hl with | [_, _, _], _ => rfl) fun f fd F => by
  have nd := sc_looked.nd
  have d_Looks := d_Looks (P := P) (w := w) T
  have d_depth_for := d_depth_for (P := P) (w := w) T
  have d_seen_at := d_seen_at (P := P) (w := w) T
  have d_in_order := d_in_order (P := P) (w := w) T
  refine F.ok sc_looked (fun vs H Q E h => ?_) (fun cdv Ar outer s H vs Q E hr h => ⟨_, (pss_cons (ps_set (i := 3) nd rfl (Or.inl rfl) (pe_c d_Looks (hr.mono (by decide)) (pa_cons (pv 0) (pa_cons (pv 1) pa_nil))))
        (pss_cons (ps_set (i := 4) nd rfl (Or.inl rfl) (pe_d d_depth_for (hr.mono (by decide)) (pa_cons (pv 0) (pa_cons (pv 1) (pa_cons (pv 3) (pa_cons (pv 2) pa_nil))))))
        (pss_cons (ps_set (i := 5) nd rfl (Or.inl rfl) (pe_d d_seen_at (hr.mono (by decide)) (pa_cons (pv 3) (pa_cons (pv 4) pa_nil))))
        (pss_cons (ps_set (i := 6) nd rfl (Or.inl rfl) (pe_slice sl_list (pe_d d_in_order (hr.mono (by decide)) (pa_cons (pv 5) (pa_cons (pe_fld (pv 3) rfl) pa_nil))) po_none (po_some (pv 2))))
        (pss_one (ps_ret (pe_op op_cat (pe_lst (pa_cons (pv 4) (pa_cons (pe_op op_mul (pv 4) (pe_callB call_len_seq (by rfl) T.b_len PySem.boot_len (pa_cons (pe_fld (pv 3) rfl) pa_nil))) (pa_cons (pe_callB call_len_seq (by rfl) T.b_len PySem.boot_len (pa_cons (pv 5) pa_nil)) (pa_cons (pe_callB call_len_seq (by rfl) T.b_len PySem.boot_len (pa_cons (pv 6) pa_nil)) pa_nil))))) (pv 6)))))))), ?_⟩)
  · obtain ⟨li, dl, u, it, wl, ups, rs, rows, W, k, rfl, _⟩ := h
    rfl
  · obtain ⟨li, dl, u, it, wl, ups, rs, rows, W, k, rfl, hL, hO, hW, hok, hT, q⟩ := h
    have C := T.k_Looks.cl
    have n1 := T.k_Looks.no "scores" (by simp)
    have n2 := T.k_Looks.no "rows" (by simp)
    obtain ⟨hWl, hWb⟩ := okW_bd hok
    have hn16 := hO.n
    have hu4 := hO.u
    have s1 : 1000 < sizeLine := by decide
    have hsl : (scoresM W rows).length = rows.length := List.length_map ..
    have hdl := Bw.dep_le (l := rows) (w := W) (k := k)
    have hwl := wgt_len W
    refine ⟨_, rfl, _, rfl, fun lk dk nlk ndk nek => ?_⟩
    have m1 := made (C := A.cLooks) nlk ndk
    have hlkli : lk ≠ li := fun z => by rw [z, hL.l] at nlk; cases nlk
    refine ⟨lk, dk, li, dl, u, it, wl, ups, rs, rows, W, rfl, upd_same, hL.same m1, hO, Same.seq m1 hW, hok, hlkli, hT.ext m1, fun ml rl sl rws H1 hK1 k1 t1 => ⟨rfl, ?_⟩⟩
    have e1 : ExtN H H1 := fun b o e n => k1 b o (ne_of_none e nlk) (m1 _ _ e) n
    refine ⟨_, rfl, _, rfl, _, rfl, _, rfl, li, dl, u, it, wl, lk, dk, ml, rl, sl, ups, rs, rws, rows, W, k, rfl, hL.ext e1, hO, sqL_ext e1 hW, hok, hK1, fun H2 hS2 => ?_⟩
    refine ⟨_, rfl, _, rfl, lk, dk, ml, rl, sl, rws, W, rows, depM rows W k, rfl, hK1.same hS2, hn16, by omega, fun ps H3 hS3 hps hps3 => ?_⟩
    have hK3 := (hK1.same hS2).same hS3
    have e3 : ExtN H H3 := e1.trans (.of (hS2.trans hS3))
    have t3 := (t1.ext hS2).ext hS3
    refine ⟨_, rfl, _, rfl, lk, _, dk, _, _, rfl, hK3.l, C, n1, lkF_scores ml rl sl, ps, sl, _, _, rfl, SqL.of hps3, SqL.of hK3.s, fun j hj => by rw [hsl]; exact Bw.seenM_lt hj, t3, fun p4 H4 e4 t4 n4 h4 => ?_⟩
    refine ⟨_, rfl, _, rfl, p4, _, rfl, SqL.of h4, fun p5 hp5 => ?_⟩
    have ecut : cutV ((natI (inOrder (scAt (scoresM W rows)) (seenM rows W (depM rows W k)))).map V.int) none (some (k : Int)) = (natI (firstM rows W k)).map V.int := by
      rw [cut_first]
      unfold natI firstM
      rw [List.map_take, List.map_take]
    rw [ecut]
    have hS5 := same_upd (o := .lst ((natI (firstM rows W k)).map V.int)) (Same.refl H4) hp5
    have hp5' : upd H4 p5 (.lst ((natI (firstM rows W k)).map V.int)) p5 = some (.lst ((natI (firstM rows W k)).map V.int)) := upd_same
    generalize upd H4 p5 (.lst ((natI (firstM rows W k)).map V.int)) = H5 at *
    have hK5 := (hK3.ext e4).same hS5
    have hps5 := hS5 _ _ (e4 _ _ hps3 (fun _ z => by cases z))
    have e5 : ExtN H H5 := (e3.trans e4).trans (.of hS5)
    have t5 := t4.ext hS5
    have hrl := hK5.w.len
    rw [List.length_map] at hrl
    have hf16 : (firstM rows W k).length ≤ 16 := by
      have h1 := (Bw.seenM_nodup rows W (depM rows W k)).length_le_of_subset (l₂ := List.range rows.length) fun j hj => List.mem_range.mpr (Bw.seenM_lt hj)
      rw [List.length_range] at h1
      unfold firstM
      rw [List.length_take, Bw.inOrder_len]
      omega
    refine ⟨_, rfl, _, rfl, _, rfl, lk, _, dk, _, _, rfl, hK5.l, C, n2, lkF_rows ml rl sl, rl, _, rfl, .inl (SqL.of hK5.r), _, _, rfl, rfl, .inl ⟨by omega, by omega⟩, _, rfl, ps, _, rfl, .inl (SqL.of hps5), _, rfl, p5, _, rfl, .inl (SqL.of hp5'), by show 4 ≤ sizeLine; decide, fun p6 hp6 => ?_⟩
    have hS6 : Same H5 (upd H5 p6 (.lst [.int (depM rows W k : Nat), .int ((depM rows W k : Nat) * ((rws.map V.ref).length : Int)), .int (((natI (seenM rows W (depM rows W k))).map V.int).length : Nat), .int (((natI (firstM rows W k)).map V.int).length : Nat)])) := same_upd (Same.refl _) hp6
    refine ⟨_, rfl, p6, p5, _, _, rfl, rfl, upd_same, hS6 _ _ hp5', ?_, fun p7 hp7 => ?_⟩
    · show 4 + ((natI (firstM rows W k)).map V.int).length ≤ sizeLine
      rw [List.length_map, natI_len]
      omega
    · have hS7 := same_upd' (o := .lst ([.int (depM rows W k : Nat), .int ((depM rows W k : Nat) * ((rws.map V.ref).length : Int)), .int (((natI (seenM rows W (depM rows W k))).map V.int).length : Nat), .int (((natI (firstM rows W k)).map V.int).length : Nat)] ++ (natI (firstM rows W k)).map V.int)) hS6 hp7
      refine q p7 _ (e5.trans (.of hS7)) (t5.ext hS7) (NewT.of (e5.trans (.of hS6)) hp7) ?_
      rw [upd_same]
      unfold lookM
      rw [List.map_append, List.length_map, List.length_map, List.length_map, natI_len, natI_len, hrl]
      rfl
end
end BwW
end

section
set_option Elab.async false
set_option linter.all false
set_option maxRecDepth 100000
set_option maxHeartbeats 2000000
namespace BwW
open PySem PySem.Spec PyProof.Rows L2 BwK
open LamX (ExtN Tabs TabS)
open VaskyBase (Frac less whole frac)
open Bw (natI ln lineOf lowestF crossF risers crossL nearer nextStep nextP)
section
variable {P : Program} {w : World} {K : PySem.W.Frag} {mg : Str → Option Value} {base : Heap} {A : Ads}
def sp_common_part (K : PySem.W.Frag) (A : Ads) : Sp := fun vs H Q _ => ∃ x y : Nat, vs = [.int (x : Int), .int (y : Int)] ∧ Q (.int (Nat.gcd x y : Nat)) H
theorem d_common_part (T : Tx K mg base A) : Def P w K mg base CX0 1 "common_part" ["one", "other"] (sp_common_part K A) := def_of T.t_common_part (fun _ _ _ _ _ _ us hl => match us, hl with | [_, _], _ => rfl) fun f fd F => by
  have nd := sc_common_part.nd
  refine F.ok sc_common_part (fun vs H Q E h => ?_) (fun cdv Ar outer s H vs Q E hr h => ⟨_, (pss_cons (ps_while PassesOwn.never (pt_cmpR op_gt (pv 1) pe_int (nomark _)) (pss_one (ps_par (i := 0) (j := 1) (by rfl) nd rfl rfl (by decide) rfl rfl (pa_cons (pv 1) (pa_cons (pe_op op_modN (pv 0) (pv 1)) pa_nil)) (by rfl))))
        (pss_one (ps_ret (pv 0)))), ?_⟩)
  · obtain ⟨x, y, rfl, _⟩ := h
    rfl
  · obtain ⟨x, y, rfl, q⟩ := h
    refine ⟨fun k σ H' => ∃ a b : Nat, k = b ∧ σ = [some (.int (a : Int)), some (.int (b : Int))] ∧ H' = H ∧ Nat.gcd a b = Nat.gcd x y, ⟨_, x, y, rfl, rfl, rfl, rfl⟩, ?_⟩
    rintro k σ H' ⟨a, b, rfl, rfl, rfl, hg⟩
    refine ⟨_, rfl, _, 0, rfl, rfl, _, rfl, ite2 (fun h1 => ?_) fun h1 => ?_⟩
    · have h1' : 0 < k := by simp only [decide_eq_true_eq] at h1; omega
      refine ⟨_, fun _ _ h => h, _, rfl, _, rfl, _, rfl, _, _, rfl, rfl, by omega, _, _, rfl, a % k, Nat.mod_lt _ h1', k, a % k, rfl, ?_, rfl, ?_⟩
      · have e : (a : Int).fmod (k : Int) = ((a % k : Nat) : Int) := by
          rw [Int.fmod_eq_emod_of_nonneg _ (by omega)]
          exact (Int.natCast_emod a k).symm
        show [some (V.int (k : Int)), some (V.int ((a : Int).fmod (k : Int)))] = _
        rw [e]
      · rw [← hg, Nat.gcd_comm k (a % k), ← Nat.gcd_rec, Nat.gcd_comm]
    · have h1' : k = 0 := by simp only [decide_eq_true_eq] at h1; omega
      subst h1'
      rw [Nat.gcd_zero_right] at hg
      exact ⟨_, rfl, by rw [hg]; exact q⟩
def frV (f : Frac) : List V := [.int f.num, .int (f.den : Int)]
theorem lowest_is {a b : Int} (hb : b ≠ 0) : (lowestF a b).num = a.fdiv (if b < 0 then 0 - (Nat.gcd a.natAbs b.natAbs : Int) else (Nat.gcd a.natAbs b.natAbs : Int)) ∧ ((lowestF a b).den : Int) = b.fdiv (if b < 0 then 0 - (Nat.gcd a.natAbs b.natAbs : Int) else (Nat.gcd a.natAbs b.natAbs : Int)) := by
  have hg : 0 < Nat.gcd a.natAbs b.natAbs := Nat.gcd_pos_of_pos_right _ (by omega)
  obtain ⟨c, hc⟩ : (Nat.gcd a.natAbs b.natAbs : Int) ∣ a := Bw.dvd_l a b.natAbs
  obtain ⟨d, hd⟩ : (Nat.gcd a.natAbs b.natAbs : Int) ∣ b := by
    have := Nat.gcd_dvd_right a.natAbs b.natAbs
    exact Int.natAbs_dvd_natAbs.mp (by rw [Int.natAbs_natCast]; exact this)
  have hgi : (Nat.gcd a.natAbs b.natAbs : Int) ≠ 0 := by omega
  unfold lowestF frac
  by_cases h : b < 0
  · rw [if_pos h, if_pos h, Int.natAbs_neg]
    simp only [Nat.ne_of_gt hg, if_false]
    have hn : (b.natAbs : Int) = -b := by omega
    generalize Nat.gcd a.natAbs b.natAbs = g at *
    constructor
    · rw [hc, Int.zero_sub, ← Int.mul_neg, Int.mul_ediv_cancel_left _ hgi]
      have : (g : Int) * c = (-(g : Int)) * (-c) := by rw [Int.neg_mul_neg]
      rw [this, Int.mul_fdiv_cancel_left _ (by omega)]
    · rw [Int.natCast_ediv, hn, Int.zero_sub, hd, ← Int.mul_neg, Int.mul_ediv_cancel_left _ hgi]
      have : (g : Int) * d = (-(g : Int)) * (-d) := by rw [Int.neg_mul_neg]
      rw [this, Int.mul_fdiv_cancel_left _ (by omega)]
  · rw [if_neg h, if_neg h]
    simp only [Nat.ne_of_gt hg, if_false]
    have hn : (b.natAbs : Int) = b := by omega
    generalize Nat.gcd a.natAbs b.natAbs = g at *
    constructor
    · rw [hc, Int.mul_ediv_cancel_left _ hgi, Int.mul_fdiv_cancel_left _ hgi]
    · rw [Int.natCast_ediv, hn, hd, Int.mul_ediv_cancel_left _ hgi, Int.mul_fdiv_cancel_left _ hgi]
theorem lowest_bd (a b : Int) : (lowestF a b).num.natAbs ≤ a.natAbs ∧ (lowestF a b).den ≤ b.natAbs + 1 := by
  have key : ∀ (x : Int) (y : Nat), (frac x y).num.natAbs ≤ x.natAbs ∧ (frac x y).den ≤ y + 1 := fun x y => by
    unfold frac
    by_cases h : Nat.gcd x.natAbs y = 0
    · simp only [h, if_true]
      exact ⟨Nat.zero_le _, by omega⟩
    · simp only [h, if_false]
      refine ⟨?_, Nat.le_trans (Nat.div_le_self _ _) (Nat.le_succ _)⟩
      obtain ⟨c, hc⟩ : (Nat.gcd x.natAbs y : Int) ∣ x := Bw.dvd_l x y
      have hgi : (Nat.gcd x.natAbs y : Int) ≠ 0 := by omega
      generalize Nat.gcd x.natAbs y = g at *
      rw [hc, Int.mul_ediv_cancel_left _ hgi, Int.natAbs_mul, Int.natAbs_natCast]
      exact Nat.le_mul_of_pos_left _ (Nat.pos_of_ne_zero h)
  unfold lowestF
  by_cases h : b < 0
  · rw [if_pos h]
    have := key (-a) b.natAbs
    rw [Int.natAbs_neg] at this
    exact this
  · rw [if_neg h]
    exact key a b.natAbs
def sp_lowest (K : PySem.W.Frag) (A : Ads) : Sp := fun vs H Q _ => ∃ a b : Int, vs = [.int a, .int b] ∧ b ≠ 0 ∧ b.natAbs < 1000000 ∧ ∀ t H', Same H H' → H t = none → H' t = some (.tup (frV (lowestF a b))) → Q (.ref t) H'
theorem d_lowest (T : Tx K mg base A) : Def P w K mg base CX0 2 "lowest" ["above", "below"] (sp_lowest K A) := def_of T.t_lowest (fun _ _ _ _ _ _ us hl => match us, hl with | [_, _], _ => rfl) fun f fd F => by
  have nd := sc_lowest.nd
  have d_common_part := d_common_part (P := P) (w := w) T
  refine F.ok sc_lowest (fun vs H Q E h => ?_) (fun cdv Ar outer s H vs Q E hr h => ⟨_, (pss_cons (ps_set (i := 2) nd rfl (Or.inl rfl) (pe_d d_common_part (hr.mono (by decide)) (pa_cons (pe_callB call_abs (by rfl) T.b_abs (by decide +kernel) (pa_cons (pv 0) pa_nil)) (pa_cons (pe_callB call_abs (by rfl) T.b_abs (by decide +kernel) (pa_cons (pv 1) pa_nil)) pa_nil))))
        (pss_cons (ps_if (pt_cmpR op_lt (pv 1) pe_int (nomark _)) (pss_one (ps_set (i := 2) nd rfl (Or.inl rfl) (pe_op op_sub pe_int (pv 2)))) pss_nil)
        (pss_one (ps_ret (pe_tup (pa_cons (pe_op op_fdivN (pv 0) (pv 2)) (pa_cons (pe_op op_fdivN (pv 1) (pv 2)) pa_nil))))))), ?_⟩)
  · obtain ⟨a, b, rfl, _⟩ := h
    rfl
  · obtain ⟨a, b, rfl, hb, hz, q⟩ := h
    have ab : ∀ x : Int, (if x < 0 then -x else x) = (x.natAbs : Int) := fun x => by split <;> omega
    refine ⟨_, rfl, _, rfl, _, rfl, _, rfl, a.natAbs, b.natAbs, ?_, ?_⟩
    · rw [ab, ab]
      rfl
    obtain ⟨e1, e2⟩ := lowest_is (a := a) hb
    have hg : 0 < Nat.gcd a.natAbs b.natAbs := Nat.gcd_pos_of_pos_right _ (by omega)
    have hgle : Nat.gcd a.natAbs b.natAbs ≤ b.natAbs := Nat.gcd_le_right _ (by omega)
    generalize Nat.gcd a.natAbs b.natAbs = g at *
    refine ⟨_, rfl, _, 0, rfl, rfl, _, rfl, ite2 (fun h1 => ?_) fun h1 => ?_⟩
    · have h1' : b < 0 := of_decide_eq_true h1
      rw [if_pos h1'] at e1 e2
      refine ⟨_, rfl, 0, _, rfl, rfl, _, rfl, _, rfl, _, _, rfl, rfl, ⟨by omega, by omega⟩, _, rfl, _, rfl, _, _, rfl, rfl, ⟨by omega, by omega⟩, by show 2 ≤ sizeLine; decide, fun t ht => q t _ (same_upd (Same.refl _) ht) ht ?_⟩
      rw [upd_same]
      unfold frV
      rw [e1, e2]
    · have h1' : ¬ b < 0 := fun z => h1 (decide_eq_true z)
      rw [if_neg h1'] at e1 e2
      refine ⟨_, rfl, _, rfl, _, _, rfl, rfl, ⟨by omega, by omega⟩, _, rfl, _, rfl, _, _, rfl, rfl, ⟨by omega, by omega⟩, by show 2 ≤ sizeLine; decide, fun t ht => q t _ (same_upd (Same.refl _) ht) ht ?_⟩
      rw [upd_same]
      unfold frV
      rw [e1, e2]
def sp_is_less (K : PySem.W.Frag) (A : Ads) : Sp := fun vs H Q _ => ∃ (a b : Addr) (f g : Frac), vs = [.ref a, .ref b] ∧ SqT K H a (frV f) ∧ SqT K H b (frV g) ∧ f.num.natAbs < 1000000 ∧ g.num.natAbs < 1000000 ∧ Q (.bl (less f g)) H
theorem d_is_less (T : Tx K mg base A) : Def P w K mg base CX0 1 "is_less" ["one", "other"] (sp_is_less K A) := def_of T.t_is_less (fun _ _ _ _ _ _ us hl => match us, hl with | [_, _], _ => rfl) fun f fd F => by
  have nd := sc_is_less.nd
  refine F.ok sc_is_less (fun vs H Q E h => ?_) (fun cdv Ar outer s H vs Q E hr h => ⟨_, (pss_one (ps_ret (pe_cmpR op_lt (pe_op op_mul (pe_ix ix_tup (pv 0) pe_int (fun _ _ => rfl)) (pe_ix ix_tup (pv 1) pe_int (fun _ _ => rfl))) (pe_op op_mul (pe_ix ix_tup (pv 1) pe_int (fun _ _ => rfl)) (pe_ix ix_tup (pv 0) pe_int (fun _ _ => rfl))) (nomark _)))), ?_⟩)
  · obtain ⟨a, b, f, g, rfl, _⟩ := h
    rfl
  · obtain ⟨a, b, f, g, rfl, ha, hb, hf, hg, q⟩ := h
    exact ⟨_, rfl, a, _, 0, _, rfl, rfl, ha, rfl, _, rfl, b, _, 1, _, rfl, rfl, hb, rfl, _, _, rfl, rfl, .inl ⟨by omega, by omega⟩, _, rfl, b, _, 0, _, rfl, rfl, hb, rfl, _, rfl, a, _, 1, _, rfl, rfl, ha, rfl, _, _, rfl, rfl, .inl ⟨by omega, by omega⟩, _, _, rfl, rfl, q⟩
/-- pairs, tracked -/
def PrsAt (H : Hp) : List Addr → List (Int × Int) → Prop
  | [], [] => True
  | p :: ps, x :: xs => H p = some (.tup [.int x.1, .int x.2]) ∧ PrsAt H ps xs
  | _, _ => False
theorem PrsAt.same {H H' : Hp} (s : Same H H') : ∀ {ps : List Addr} {rs : List (Int × Int)}, PrsAt H ps rs → PrsAt H' ps rs
  | [], [], _ => trivial
  | _ :: _, _ :: _, ⟨a, b⟩ => ⟨s _ _ a, PrsAt.same s b⟩
theorem PrsAt.mono {H H' : Hp} : ∀ {ps : List Addr} {rs : List (Int × Int)}, (∀ p ∈ ps, ∀ xs, H p = some (.tup xs) → H' p = some (.tup xs)) → PrsAt H ps rs → PrsAt H' ps rs
  | [], [], _, _ => trivial
  | _ :: _, _ :: _, h, ⟨a, b⟩ => ⟨h _ (List.mem_cons_self ..) _ a, PrsAt.mono (fun p hp => h p (List.mem_cons_of_mem _ hp)) b⟩
theorem PrsAt.snoc {H : Hp} {p : Addr} {x : Int × Int} (h : H p = some (.tup [.int x.1, .int x.2])) : ∀ {ps : List Addr} {rs : List (Int × Int)}, PrsAt H ps rs → PrsAt H (ps ++ [p]) (rs ++ [x])
  | [], [], _ => ⟨h, trivial⟩
  | _ :: _, _ :: _, ⟨a, b⟩ => ⟨a, PrsAt.snoc h b⟩
theorem PrsAt.len {H : Hp} : ∀ {ps : List Addr} {rs : List (Int × Int)}, PrsAt H ps rs → ps.length = rs.length
  | [], [], _ => rfl
  | _ :: _, _ :: _, ⟨_, b⟩ => congrArg (· + 1) (PrsAt.len b)
theorem PrsAt.get {H : Hp} : ∀ {ps : List Addr} {rs : List (Int × Int)} {i : Nat} {t : Addr} {x : Int × Int}, PrsAt H ps rs → ps[i]? = some t → rs[i]? = some x → H t = some (.tup [.int x.1, .int x.2])
  | [], [], i, _, _, _, h, _ => by simp at h
  | p :: _, _ :: _, 0, _, _, ⟨a, _⟩, h, h' => by cases h; cases h'; exact a
  | _ :: ps, _ :: ts, i + 1, t, x, ⟨_, b⟩, h, h' => PrsAt.get (i := i) b h h'
theorem PrsAt.pairs {H : Hp} {D : Addr} {ps : List Addr} {l : List (Int × Int)} (h : PrsAt H ps l) (hD : H D = some (.lst (ps.map V.ref))) : PairsAt K H D l :=
  ⟨ps, SqL.of hD, h.len, fun i t x h1 h2 => SqT.of (h.get h1 h2)⟩
def sp_lines_of (K : PySem.W.Frag) (A : Ads) : Sp := fun vs H Q _ => ∃ (li dl u it : Addr) (ups : List Bool) (rs : List Addr) (rows : List (List Int)) (m k : Nat), vs = [.ref li, .int (m : Int), .int (k : Int)] ∧ LsAt A H li dl u it ups rs rows ∧ LsOk ups rows ∧ m < ups.length ∧ k < ups.length ∧
  ∀ p H', Same H H' → PairsAt K H' p ((Vaskyc.twoOf rows m k).map lineOf) → Q (.ref p) H'
theorem d_lines_of (T : Tx K mg base A) : Def P w K mg base CX0 1 "lines_of" ["listing", "m", "k"] (sp_lines_of K A) := def_of T.t_lines_of (fun _ _ _ _ _ _ us hl => match us, hl with | [_, _, _], _ => rfl) fun f fd F => by
  have nd := sc_lines_of.nd
  refine F.ok sc_lines_of (fun vs H Q E h => ?_) (fun cdv Ar outer s H vs Q E hr h => ⟨_, (pss_one (ps_ret (pe_lc (own := [("values", 3)]) (g := gName 3) (by rfl) nd (pi_list (pe_fld (pv 0) rfl)) (blkOk_by (own := [("values", 3)]) (N := N_lines_of) (sc := defScope s_lines_of) (by decide +kernel)) (fun _ _ _ _ _ => (pg_name (i := 3) nd rfl (Or.inl rfl))) (fun _ _ _ _ _ => pts_nil) (fun _ _ _ _ _ => (pe_tup (pa_cons (pe_ix (show IxR _ (rIxL K) from ix_list) (pv 3) (pv 2) (fun _ _ => rfl)) (pa_cons (pe_op op_sub (pe_ix (show IxR _ (rIxL K) from ix_list) (pv 3) (pv 1) (fun _ _ => rfl)) (pe_ix (show IxR _ (rIxL K) from ix_list) (pv 3) (pv 2) (fun _ _ => rfl))) pa_nil))))))), ?_⟩)
  · obtain ⟨li, dl, u, it, ups, rs, rows, m, k, rfl, _⟩ := h
    rfl
  · obtain ⟨li, dl, u, it, ups, rs, rows, m, k, rfl, hL, hO, hm, hk, q⟩ := h
    have C := T.k_Listing.cl
    have n1 := T.k_Listing.no "items_told" (by simp)
    have hn16 := hO.n
    have hrl := hL.r.len
    have s16 : 16 < sizeLine := by decide
    refine ⟨_, rfl, li, _, dl, _, _, rfl, hL.l, C, n1, lsF_items u it, it, rfl, ⟨_, SqL.of hL.i⟩, fun D hD => lc_it (walk_list (K := K) (a := it) (xs := rs.map V.ref)) (fun i H' => Same H H' ∧ ∃ ps : List Addr, H' D = some (.lst (ps.map V.ref)) ∧ PrsAt H' ps ((rows.take i).map fun r => (r.getD k 0, r.getD m 0 - r.getD k 0))) ⟨same_upd (Same.refl _) hD, [], upd_same, trivial⟩ (fun i H' _ z => SqL.of (z.1 _ _ hL.i)) ?_ ?_⟩
    · rintro i x H' H'' hi ⟨hS, ps, hDD, hps⟩ ⟨rfl, hx⟩
      obtain ⟨pr, hpr, rfl⟩ := map_at hx
      rw [List.length_map] at hi
      have hrow := List.getElem?_eq_getElem (show i < rows.length by omega)
      generalize rows[i] = r at hrow
      obtain ⟨p2, hp2, hp3⟩ := hL.r.get hrow
      rw [hpr] at hp2
      cases hp2
      have hrm := (hO.r r (List.mem_of_getElem? hrow)).1
      have hat1 : (r.map V.int)[k]? = some (.int (r.getD k 0)) := scAt_at (by omega)
      have hat2 : (r.map V.int)[m]? = some (.int (r.getD m 0)) := scAt_at (by omega)
      have hr0 := SqL.of (K := K) (hS _ _ hp3)
      have hpl := hps.len
      rw [List.length_map, List.length_take] at hpl
      refine ⟨rfl, _, rfl, _, rfl, pr, _, _, _, rfl, rfl, hr0, atI_nat hat1, _, rfl, _, rfl, pr, _, _, _, rfl, rfl, hr0, atI_nat hat2, _, rfl, _, rfl, pr, _, _, _, rfl, rfl, hr0, atI_nat hat1, _, _, rfl, rfl, by show 2 ≤ sizeLine; decide, fun t ht => ?_⟩
      have hS2 := same_upd (o := .tup [.int (r.getD k 0), .int (r.getD m 0 - r.getD k 0)]) (Same.refl H'') ht
      have htD : D ≠ t := fun z => by rw [← z, hDD] at ht; cases ht
      refine ⟨_, hS2 _ _ hDD, by rw [List.length_map]; omega, same_upd (fun b o e => hS2 b o (hS b o e)) hD, ps ++ [t], by rw [upd_same, List.map_append]; rfl, ?_⟩
      rw [take_more hrow, List.map_append]
      refine PrsAt.snoc ?_ ((hps.same hS2).mono fun p _ xs e => ?_)
      · rw [upd_ne (Ne.symm htD), upd_same]
      · rw [upd_ne fun z => ?_]
        · exact e
        · rw [z, hS2 _ _ hDD] at e
          cases e
    · rintro H' ⟨hS, ps, hDD, hps⟩
      rw [List.length_map, hrl, List.take_length] at hps
      refine q D H' hS ?_
      have e : (Vaskyc.twoOf rows m k).map lineOf = rows.map fun r => (r.getD k 0, r.getD m 0 - r.getD k 0) := by
        unfold Vaskyc.twoOf
        rw [List.map_map]
        rfl
      rw [e]
      exact hps.pairs hDD
end
end BwW
end

section
set_option Elab.async false
set_option linter.all false
set_option maxRecDepth 100000
set_option maxHeartbeats 2000000
namespace BwW
open PySem PySem.Spec PyProof.Rows L2 BwK
open LamX (ExtN Tabs TabS)
open VaskyBase (Frac less whole frac)
open Bw (natI ln lineOf lowestF crossF risers crossL nearer nextStep nextP IsFirst)
section
variable {P : Program} {w : World} {K : PySem.W.Frag} {mg : Str → Option Value} {base : Heap} {A : Ads}
theorem sqT_ext {H H' : Hp} {a : Addr} {xs : List V} (e : ExtN H H') (h : SqT K H a xs) : SqT K H' a xs := by
  rcases h with (h | ⟨o, h⟩) | h
  · exact .inl (.inl (e _ _ h (fun _ z => by cases z)))
  · exact .inl (.inr ⟨o, e _ _ h (fun _ z => by cases z)⟩)
  · exact .inr h
theorem pairs_ext {H H' : Hp} {b : Addr} {l : List (Int × Int)} (e : ExtN H H') (h : PairsAt K H b l) : PairsAt K H' b l := by
  obtain ⟨ts, h1, h2, h3⟩ := h
  exact ⟨ts, sqL_ext e h1, h2, fun i t x a c => sqT_ext e (h3 i t x a c)⟩
theorem pairs_same {H H' : Hp} {b : Addr} {l : List (Int × Int)} (e : Same H H') (h : PairsAt K H b l) : PairsAt K H' b l := pairs_ext (.of e) h
theorem pairs_at {H : Hp} {b : Addr} {l : List (Int × Int)} {i : Nat} (h : PairsAt K H b l) (hi : i < l.length) : ∃ (xs : List V) (t : Addr), SqL K H b xs ∧ xs.length = l.length ∧ atI xs (i : Int) = some (.ref t) ∧ SqT K H t [.int (ln l i).1, .int (ln l i).2] := by
  obtain ⟨ts, h1, h2, h3⟩ := h
  have ht := List.getElem?_eq_getElem (show i < ts.length by omega)
  exact ⟨_, ts[i], h1, by rw [List.length_map, h2], atI_nat (by rw [List.getElem?_map, ht]; rfl), h3 i _ _ ht (Bw.ln_get hi)⟩
theorem pairs_len {H : Hp} {b : Addr} {l : List (Int × Int)} (h : PairsAt K H b l) : ∃ xs : List V, SqL K H b xs ∧ xs.length = l.length := by
  obtain ⟨ts, h1, h2, h3⟩ := h
  exact ⟨_, h1, by rw [List.length_map, h2]⟩
def LnOk (l : List (Int × Int)) : Prop := l.length ≤ 16 ∧ ∀ x ∈ l, x.1.natAbs ≤ 1000 ∧ x.2.natAbs ≤ 2000
theorem LnOk.at {l : List (Int × Int)} (h : LnOk l) {i : Nat} (hi : i < l.length) : (ln l i).1.natAbs ≤ 1000 ∧ (ln l i).2.natAbs ≤ 2000 := h.2 _ (List.mem_of_getElem? (Bw.ln_get hi))
/-! ### the first line -/
def sp_first_line (K : PySem.W.Frag) (A : Ads) : Sp := fun vs H Q _ => ∃ (b : Addr) (l : List (Int × Int)), vs = [.ref b] ∧ PairsAt K H b l ∧ l ≠ [] ∧ l.length ≤ 16 ∧ Tabs (tabsT A) H ∧
  ∀ (j : Nat) H', IsFirst l j → ExtN H H' → Tabs (tabsT A) H' → Q (.int (j : Int)) H'
theorem d_first_line (T : Tx K mg base A) : Def P w K mg base CX0 2 "first_line" ["lines"] (sp_first_line K A) := def_ofC T.t_first_line (fun _ _ _ _ _ _ us hl => match us, hl with | [_], _ => rfl) fun f fd F hc => by
  have nd := sc_first_line.nd
  refine fun_okC F hc sc_first_line (fun vs H Q E h => ?_) (fun Ar outer s H vs Q E hr h => ⟨_, (pss_one (ps_ret (pe_callKL (T := tabsT A) (max_KL (i := 0) (hr.mono (by decide : 1 ≤ 1)) rfl rfl rfl rfl) (by rfl) T.b_max (by decide +kernel) (pa_cons (pe_listRg rfl (by rfl) T.b_list (prg_1 (by rfl) T.b_range (pe_callB call_len_seq (by rfl) T.b_len PySem.boot_len (pa_cons (pv 0) pa_nil)))) pa_nil) T.tb_f rfl ?_ ?_ rfl ?_))), ?_⟩)
  · obtain ⟨b, l, rfl, _⟩ := h
    rfl
  · exact List.mem_cons_of_mem _ (List.mem_cons_self ..)
  · intro p hp e
    rcases List.mem_cons.mp hp with rfl | hp
    · exact absurd e T.op_fp
    · rw [List.mem_singleton.mp hp]
      rfl
  · intro y hy e
    have hy' : y ∈ [((Str.ofString "item" : Str), NameKind.local), ((Str.ofString "lines" : Str), NameKind.free)] := hy
    simp only [List.mem_cons, List.not_mem_nil, or_false] at hy'
    rcases hy' with rfl | rfl
    · cases e
    · exact .inl rfl
  · obtain ⟨b, l, rfl, h1, h2, h3, h4, q⟩ := h
    obtain ⟨xs, hx1, hx2⟩ := pairs_len h1
    refine ⟨_, rfl, b, _, rfl, .inl hx1, _, rfl, ?_⟩
    rw [hx2]
    refine ⟨⟨by decide, by decide, by omega, by omega, by omega⟩, fun rl hrl => ?_⟩
    rw [rgV_nat]
    have hS := same_upd (o := .lst ((natI (List.range l.length)).map V.int)) (Same.refl H) hrl
    exact ⟨h4.ext hS, fun H2 e2 t2 => ⟨rl, b, l, rfl, rfl, sqL_ext e2 (SqL.of upd_same), pairs_ext e2 (pairs_same hS h1), h2, fun j hj => q j H2 hj ((ExtN.of hS).trans e2) t2⟩⟩
def sp_crossing (K : PySem.W.Frag) (A : Ads) : Sp := fun vs H Q _ => ∃ (b : Addr) (l : List (Int × Int)) (i j : Nat), vs = [.ref b, .int (i : Int), .int (j : Int)] ∧ PairsAt K H b l ∧ LnOk l ∧ i < l.length ∧ j < l.length ∧ (ln l j).2 ≠ (ln l i).2 ∧
  ∀ t H', Same H H' → H t = none → H' t = some (.tup (frV (crossF l i j))) → Q (.ref t) H'
theorem d_crossing (T : Tx K mg base A) : Def P w K mg base CX0 3 "crossing" ["lines", "item", "other"] (sp_crossing K A) := def_of T.t_crossing (fun _ _ _ _ _ _ us hl => match us, hl with | [_, _, _], _ => rfl) fun f fd F => by
  have nd := sc_crossing.nd
  have d_lowest := d_lowest (P := P) (w := w) T
  refine F.ok sc_crossing (fun vs H Q E h => ?_) (fun cdv Ar outer s H vs Q E hr h => ⟨_, (pss_one (ps_ret (pe_d d_lowest (hr.mono (by decide)) (pa_cons (pe_op op_sub (pe_ix ix_tup (pe_ix ix_list (pv 0) (pv 1) (fun _ _ => rfl)) pe_int (fun _ _ => rfl)) (pe_ix ix_tup (pe_ix ix_list (pv 0) (pv 2) (fun _ _ => rfl)) pe_int (fun _ _ => rfl))) (pa_cons (pe_op op_sub (pe_ix ix_tup (pe_ix ix_list (pv 0) (pv 2) (fun _ _ => rfl)) pe_int (fun _ _ => rfl)) (pe_ix ix_tup (pe_ix ix_list (pv 0) (pv 1) (fun _ _ => rfl)) pe_int (fun _ _ => rfl))) pa_nil))))), ?_⟩)
  · obtain ⟨b, l, i, j, rfl, _⟩ := h
    rfl
  · obtain ⟨b, l, i, j, rfl, hl, ho, hi, hj, hne, q⟩ := h
    obtain ⟨xs, ti, a1, _, a2, a3⟩ := pairs_at hl hi
    obtain ⟨ys, tj, b1, _, b2, b3⟩ := pairs_at hl hj
    have h1 := ho.at hi
    have h2 := ho.at hj
    exact ⟨_, rfl, _, rfl, b, _, _, _, rfl, rfl, a1, a2, ti, _, 0, _, rfl, rfl, a3, rfl, _, rfl, _, rfl, b, _, _, _, rfl, rfl, b1, b2, tj, _, 0, _, rfl, rfl, b3, rfl, _, _, rfl, rfl,
      _, rfl, _, rfl, b, _, _, _, rfl, rfl, b1, b2, tj, _, 1, _, rfl, rfl, b3, rfl, _, rfl, _, rfl, b, _, _, _, rfl, rfl, a1, a2, ti, _, 1, _, rfl, rfl, a3, rfl, _, _, rfl, rfl, _, _, rfl, by omega, by omega, fun t H' hS ht ht' => q t H' hS ht ht'⟩
/-- a crossing, tracked -/
def CrOne (H : Hp) (p : Addr) (c : Frac × Nat) : Prop := ∃ fa, H p = some (.tup [.ref fa, .int (c.2 : Int)]) ∧ H fa = some (.tup (frV c.1))
theorem CrOne.same {H H' : Hp} {p : Addr} {c : Frac × Nat} (s : Same H H') (h : CrOne H p c) : CrOne H' p c := let ⟨fa, a, b⟩ := h; ⟨fa, s _ _ a, s _ _ b⟩
def CrAt (H : Hp) : List Addr → List (Frac × Nat) → Prop
  | [], [] => True
  | p :: ps, x :: xs => CrOne H p x ∧ CrAt H ps xs
  | _, _ => False
theorem CrAt.mono {H H' : Hp} (h : ∀ p c, CrOne H p c → CrOne H' p c) : ∀ {ps : List Addr} {rs : List (Frac × Nat)}, CrAt H ps rs → CrAt H' ps rs
  | [], [], _ => trivial
  | _ :: _, _ :: _, ⟨a, b⟩ => ⟨h _ _ a, CrAt.mono h b⟩
theorem CrAt.same {H H' : Hp} (s : Same H H') {ps : List Addr} {rs : List (Frac × Nat)} (h : CrAt H ps rs) : CrAt H' ps rs := h.mono fun _ _ z => z.same s
theorem CrAt.snoc {H : Hp} {p : Addr} {x : Frac × Nat} (h : CrOne H p x) : ∀ {ps : List Addr} {rs : List (Frac × Nat)}, CrAt H ps rs → CrAt H (ps ++ [p]) (rs ++ [x])
  | [], [], _ => ⟨h, trivial⟩
  | _ :: _, _ :: _, ⟨a, b⟩ => ⟨a, CrAt.snoc h b⟩
theorem CrAt.len {H : Hp} : ∀ {ps : List Addr} {rs : List (Frac × Nat)}, CrAt H ps rs → ps.length = rs.length
  | [], [], _ => rfl
  | _ :: _, _ :: _, ⟨_, b⟩ => congrArg (· + 1) (CrAt.len b)
theorem CrAt.get {H : Hp} : ∀ {ps : List Addr} {rs : List (Frac × Nat)} {i : Nat} {t : Addr}, CrAt H ps rs → ps[i]? = some t → ∃ c, rs[i]? = some c ∧ CrOne H t c
  | [], [], i, _, _, h => by simp at h
  | p :: _, c :: _, 0, _, ⟨a, _⟩, h => ⟨c, rfl, by cases h; exact a⟩
  | _ :: ps, _ :: ts, i + 1, t, ⟨_, b⟩, h => CrAt.get (i := i) b h
theorem CrOne.put {H : Hp} {D p : Addr} {xs : List V} {o : HO} {c : Frac × Nat} (h : CrOne H p c) (hD : H D = some (.lst xs)) : CrOne (upd H D o) p c := by
  obtain ⟨fa, a, b⟩ := h
  refine ⟨fa, ?_, ?_⟩
  · rw [upd_ne fun z => by rw [z, hD] at a; cases a]
    exact a
  · rw [upd_ne fun z => by rw [z, hD] at b; cases b]
    exact b
theorem risers_at {l : List (Int × Int)} {i j : Nat} (h : j ∈ risers l i) : j < l.length ∧ (ln l i).2 < (ln l j).2 := by
  unfold risers at h
  have := List.mem_filter.mp h
  exact ⟨List.mem_range.mp this.1, of_decide_eq_true this.2⟩
theorem risers_len (l : List (Int × Int)) (i : Nat) : (risers l i).length ≤ l.length := by
  unfold risers
  refine Nat.le_trans (List.length_filter_le _ _) ?_
  rw [List.length_range]
  exact Nat.le_refl _
theorem cross_bd {l : List (Int × Int)} (h : LnOk l) {i j : Nat} (hi : i < l.length) (hj : j < l.length) : (crossF l i j).num.natAbs ≤ 3000 ∧ (crossF l i j).den ≤ 5000 := by
  have h1 := h.at hi
  have h2 := h.at hj
  have := lowest_bd ((ln l i).1 - (ln l j).1) ((ln l j).2 - (ln l i).2)
  unfold crossF
  omega
def sp_crossings (K : PySem.W.Frag) (A : Ads) : Sp := fun vs H Q _ => ∃ (b : Addr) (l : List (Int × Int)) (i : Nat), vs = [.ref b, .int (i : Int)] ∧ PairsAt K H b l ∧ LnOk l ∧ i < l.length ∧
  ∀ p cs H', Same H H' → H' p = some (.lst (cs.map V.ref)) → CrAt H' cs (crossL l i) → Q (.ref p) H'
theorem d_crossings (T : Tx K mg base A) : Def P w K mg base CX0 4 "crossings" ["lines", "item"] (sp_crossings K A) := def_of T.t_crossings (fun _ _ _ _ _ _ us hl => match us, hl with | [_, _], _ => rfl) fun f fd F => by
  have nd := sc_crossings.nd
  have d_crossing := d_crossing (P := P) (w := w) T
  have d_is_less := d_is_less (P := P) (w := w) T
  refine F.ok sc_crossings (fun vs H Q E h => ?_) (fun cdv Ar outer s H vs Q E hr h => ⟨_, (pss_cons (ps_setLc (i := 2) (own := [("other", 4)]) (g := gName 4) (by rfl) nd rfl rfl (sw_true rfl rfl rfl (by decide +kernel)) (pi_range1 (by rfl) T.b_range (pa_cons (pe_callB call_len_seq (by rfl) T.b_len PySem.boot_len (pa_cons (pv 0) pa_nil)) pa_nil)) (blkOk_by (own := [("other", 4)]) (N := N_crossings) (sc := defScope s_crossings) (by decide +kernel)) (fun _ _ _ _ _ => (pg_name (i := 4) nd rfl (Or.inl rfl))) (fun _ _ _ _ _ => pts_one (pt_cmpR op_gt (pe_ix (show IxR _ (rIxT K) from ix_tup) (pe_ix (show IxR _ (rIxL K) from ix_list) (pv 0) (pv 4) (fun _ _ => rfl)) pe_int (fun _ _ => rfl)) (pe_ix (show IxR _ (rIxT K) from ix_tup) (pe_ix (show IxR _ (rIxL K) from ix_list) (pv 0) (pv 1) (fun _ _ => rfl)) pe_int (fun _ _ => rfl)) (nomark _))) (fun _ _ _ _ _ => (pv 4)))
        (pss_cons (ps_setLc (i := 3) (own := [("other", 4)]) (g := gName 4) (by rfl) nd rfl rfl (sw_true rfl rfl rfl (by decide +kernel)) (pi_list (pv 2)) (blkOk_by (own := [("other", 4)]) (N := N_crossings) (sc := defScope s_crossings) (by decide +kernel)) (fun _ _ _ _ _ => (pg_name (i := 4) nd rfl (Or.inl rfl))) (fun _ _ _ _ _ => pts_nil) (fun _ _ _ _ _ => (pe_tup (pa_cons (pe_d d_crossing (hr.mono (by decide)) (pa_cons (pv 0) (pa_cons (pv 1) (pa_cons (pv 4) pa_nil)))) (pa_cons (pv 4) pa_nil)))))
        (pss_one (ps_ret (pe_lc (own := [("pair", 5)]) (g := gName 5) (by rfl) nd (pi_list (pv 3)) (blkOk_by (own := [("pair", 5)]) (N := N_crossings) (sc := defScope s_crossings) (by decide +kernel)) (fun _ _ _ _ _ => (pg_name (i := 5) nd rfl (Or.inl rfl))) (fun _ _ _ _ _ => pts_one (pt_val (pe_d d_is_less (hr.mono (by decide)) (pa_cons (pe_ix (show IxR _ (rIxT K) from ix_tup) (pv 5) pe_int (fun _ _ => rfl)) (pa_cons (pe_gr T.g_ALL) pa_nil))))) (fun _ _ _ _ _ => (pv 5))))))), ?_⟩)
  · obtain ⟨b, l, i, rfl, _⟩ := h
    rfl
  · obtain ⟨b, l, i, rfl, hl, ho, hi, q⟩ := h
    have hl16 := ho.1
    have s1 : 1000 < sizeLine := by decide
    obtain ⟨xs0, hx1, hx2⟩ := pairs_len hl
    have hrl := risers_len l i
    refine ⟨_, rfl, b, _, rfl, .inl hx1, _, rfl, by omega, by omega, fun D hD => ?_⟩
    rw [hx2]
    refine lc_it (walk_range) (fun j H' => Same H H' ∧ H' D = some (.lst ((natI (((List.range l.length).take j).filter fun j => decide ((ln l i).2 < (ln l j).2))).map V.int))) ⟨same_upd (Same.refl _) hD, upd_same⟩ (fun _ _ _ _ => trivial) ?_ ?_
    · rintro j x H' H'' hj ⟨hS, hDD⟩ hy
      obtain ⟨rfl, rfl⟩ := range0 hy
      rw [Int.toNat_natCast] at hj
      obtain ⟨xs, ti, a1, _, a2, a3⟩ := pairs_at (pairs_same hS hl) hi
      obtain ⟨ys, tj, b1, _, b2, b3⟩ := pairs_at (pairs_same hS hl) hj
      have hle : (((List.range l.length).take j).filter fun j => decide ((ln l i).2 < (ln l j).2)).length ≤ j := Nat.le_trans (List.length_filter_le _ _) (by rw [List.length_take]; omega)
      refine ⟨rfl, _, rfl, _, rfl, b, _, _, _, rfl, rfl, b1, b2, tj, _, 1, _, rfl, rfl, b3, rfl, _, rfl, _, rfl, b, _, _, _, rfl, rfl, a1, a2, ti, _, 1, _, rfl, rfl, a3, rfl, _, _, rfl, rfl, _, rfl, ite2 (fun h1 => ⟨_, rfl, ?_⟩) fun h1 => ⟨hS, ?_⟩⟩
      · exact lc_fin (out := fun j => (natI (((List.range l.length).take j).filter fun j => decide ((ln l i).2 < (ln l j).2))).map V.int) hS hD hDD (by rw [List.length_map, natI_len]; omega) (by show (natI (((List.range l.length).take (j + 1)).filter _)).map V.int = _; rw [filter_more (range_at hj), if_pos h1]; unfold natI; rw [List.map_append, List.map_append]; rfl)
      · rw [hDD, filter_more (range_at hj), if_neg h1, List.append_nil]
    rintro H1 ⟨hS1, hDD⟩
    have hDD1 : H1 D = some (.lst ((natI (risers l i)).map V.int)) := by
      rw [Int.toNat_natCast] at hDD
      have e : (List.range l.length).take l.length = List.range l.length := by
        have := List.take_length (l := List.range l.length)
        rw [List.length_range] at this
        exact this
      rw [e] at hDD
      exact hDD
    refine ⟨_, rfl, D, rfl, ⟨_, SqL.of hDD1⟩, fun D2 hD2 => lc_it (walk_list (K := K) (a := D) (xs := (natI (risers l i)).map V.int)) (fun j H' => Same H1 H' ∧ ∃ cs : List Addr, H' D2 = some (.lst (cs.map V.ref)) ∧ CrAt H' cs (((risers l i).take j).map fun j => (crossF l i j, j))) ⟨same_upd (Same.refl _) hD2, [], upd_same, trivial⟩ (fun j H' _ z => z.1.seq (SqL.of hDD1)) ?_ ?_⟩
    · rintro j x H' H'' hj ⟨hS, cs, hDD, hcs⟩ ⟨rfl, hx⟩
      obtain ⟨o, ho', rfl⟩ := natI_at hx
      rw [List.length_map, natI_len] at hj
      obtain ⟨ho1, ho2⟩ := risers_at (List.mem_of_getElem? ho')
      have hcl := hcs.len
      rw [List.length_map, List.length_take] at hcl
      refine ⟨rfl, _, rfl, _, rfl, _, rfl, b, l, i, o, rfl, pairs_same (hS1.trans hS) hl, ho, hi, ho1, by omega, fun fa H3 hS3 hfa hfa3 => ?_⟩
      refine ⟨_, rfl, by show 2 ≤ sizeLine; decide, fun t ht => ?_⟩
      have hS4 := same_upd (o := .tup [.ref fa, .int (o : Int)]) (Same.refl H3) ht
      have ht4 : upd H3 t (.tup [.ref fa, .int (o : Int)]) t = some (.tup [.ref fa, .int (o : Int)]) := upd_same
      generalize upd H3 t (.tup [.ref fa, .int (o : Int)]) = H4 at *
      have hD4 := hS4 _ _ (hS3 _ _ hDD)
      have hone : CrOne H4 t (crossF l i o, o) := ⟨fa, ht4, hS4 _ _ hfa3⟩
      refine ⟨_, hD4, by rw [List.length_map]; omega, same_upd (fun b o e => hS4 b o (hS3 b o (hS b o e))) hD2, cs ++ [t], by rw [upd_same, List.map_append]; rfl, ?_⟩
      rw [take_more ho', List.map_append]
      exact CrAt.snoc (hone.put hD4) (((hcs.same hS3).same hS4).mono fun p c z => z.put hD4)
    rintro H2 ⟨hS2, cs, hDD2, hcs⟩
    have hlen : ((natI (risers l i)).map V.int).length = (risers l i).length := by rw [List.length_map, natI_len]
    rw [hlen, List.take_length] at hcs
    have hcl := hcs.len
    rw [List.length_map] at hcl
    refine ⟨_, rfl, D2, rfl, ⟨_, SqL.of hDD2⟩, fun D3 hD3 => lc_it (walk_list (K := K) (a := D2) (xs := cs.map V.ref)) (fun j H' => Same H2 H' ∧ ∃ cs' : List Addr, H' D3 = some (.lst (cs'.map V.ref)) ∧ CrAt H' cs' ((((risers l i).map fun j => (crossF l i j, j)).take j).filter fun p => less p.1 (whole 1))) ⟨same_upd (Same.refl _) hD3, [], upd_same, trivial⟩ (fun j H' _ z => z.1.seq (SqL.of hDD2)) ?_ ?_⟩
    · rintro j x H' H'' hj ⟨hS, cs', hDD, hcs'⟩ ⟨rfl, hx⟩
      obtain ⟨t, ht, rfl⟩ := map_at hx
      rw [List.length_map] at hj
      obtain ⟨c, hc, hone⟩ := hcs.get ht
      have hone' := hone.same hS
      obtain ⟨fa, h1, h2⟩ := hone'
      have hcm := List.mem_of_getElem? hc
      obtain ⟨o, ho', rfl⟩ := List.mem_map.mp hcm
      have hbd := cross_bd ho hi (risers_at ho').1
      have hle : ((((risers l i).map fun j => (crossF l i j, j)).take j).filter fun p => less p.1 (whole 1)).length ≤ j := Nat.le_trans (List.length_filter_le _ _) (by rw [List.length_take]; omega)
      have hcl' := hcs'.len
      refine ⟨rfl, _, rfl, t, _, 0, _, rfl, rfl, SqT.of h1, rfl, fa, A.aALL, crossF l i o, whole 1, rfl, SqT.of h2, T.v_ALL _, by omega, by decide, _, rfl, ite2 (fun h3 => ⟨_, rfl, ?_⟩) fun h3 => ⟨hS, ?_⟩⟩
      · refine ⟨_, hDD, by rw [List.length_map]; omega, same_upd hS hD3, cs' ++ [t], by rw [upd_same, List.map_append]; rfl, ?_⟩
        rw [filter_more hc, if_pos h3]
        exact CrAt.snoc ((hone.same hS).put hDD) (hcs'.mono fun p c z => z.put hDD)
      · refine ⟨cs', hDD, ?_⟩
        rw [filter_more hc, if_neg h3, List.append_nil]
        exact hcs'
    rintro H3 ⟨hS3, cs', hDD3, hcs'⟩
    have hlen2 : (cs.map V.ref).length = ((risers l i).map fun j => (crossF l i j, j)).length := by rw [List.length_map, List.length_map, hcl]
    rw [hlen2, List.take_length] at hcs'
    exact q D3 cs' H3 ((hS1.trans hS2).trans hS3) hDD3 hcs'
end
end BwW
end

section
set_option Elab.async false
set_option linter.all false
set_option maxRecDepth 100000
set_option maxHeartbeats 2000000
namespace BwW
open PySem PySem.Spec PyProof.Rows L2 BwK
open LamX (ExtN Tabs TabS)
open VaskyBase (Frac less whole frac)
open Bw (natI ln lineOf lowestF crossF risers crossL nearer nextStep nextP IsFirst)
section
variable {P : Program} {w : World} {K : PySem.W.Frag} {mg : Str → Option Value} {base : Heap} {A : Ads}
theorem dec_nat (a b : Nat) : decide (V.int (a : Int) = V.int (b : Int)) = decide (a = b) := by
  rw [Bool.eq_iff_iff, decide_eq_true_eq, decide_eq_true_eq]
  exact ⟨fun h => by injection h with h; exact_mod_cast h, fun h => by rw [h]⟩
theorem dec_int' (a b : Int) : decide (V.int a = V.int b) = decide (a = b) := by
  rw [Bool.eq_iff_iff, decide_eq_true_eq, decide_eq_true_eq]
  exact ⟨fun h => by injection h, fun h => by rw [h]⟩
theorem eqv_fr (f g : Frac) : PyData.eqv (.tuple [.int f.num, .int (f.den : Int)]) (.tuple [.int g.num, .int (g.den : Int)]) = decide (f = g) := by
  rw [Bool.eq_iff_iff, decide_eq_true_eq]
  simp only [PyData.eqv, PyData.eqvAll, Bool.and_true, Bool.and_eq_true, beq_iff_eq]
  constructor
  · rintro ⟨h1, h2⟩
    cases f
    cases g
    simp only [Frac.mk.injEq] at *
    exact ⟨h1, by exact_mod_cast h2⟩
  · rintro rfl
    exact ⟨rfl, rfl⟩
theorem dp_fr {H : Hp} {a : Addr} {f : Frac} (h : SqT K H a (frV f)) : Dp K H (.ref a) (.tuple [.int f.num, .int (f.den : Int)]) := .tup h (.cons (.int _) (.cons (.int _) .nil))
theorem shaped_fr (f : Frac) : SeqAt.shaped (.tuple [.int f.num, .int (f.den : Int)]) = true := by
  simp [SeqAt.shaped, PyData.canLay0, PyData.canLayAll0, PyData.depth, PyData.depthAll]
def sp_is_nearer (K : PySem.W.Frag) (A : Ads) : Sp := fun vs H Q _ => ∃ (b p1 p2 : Addr) (l : List (Int × Int)) (c1 c2 : Frac × Nat), vs = [.ref b, .ref p1, .ref p2] ∧ PairsAt K H b l ∧ CrOne H p1 c1 ∧ CrOne H p2 c2 ∧ c1.2 < l.length ∧ c2.2 < l.length ∧ c1.1.num.natAbs ≤ 3000 ∧ c2.1.num.natAbs ≤ 3000 ∧ Q (.bl (nearer l c1 c2)) H
theorem d_is_nearer (T : Tx K mg base A) : Def P w K mg base CX0 2 "is_nearer" ["lines", "pair", "best"] (sp_is_nearer K A) := def_of T.t_is_nearer (fun _ _ _ _ _ _ us hl => match us, hl with | [_, _, _], _ => rfl) fun f fd F => by
  have nd := sc_is_nearer.nd
  have d_is_less := d_is_less (P := P) (w := w) T
  refine F.ok sc_is_nearer (fun vs H Q E h => ?_) (fun cdv Ar outer s H vs Q E hr h => ⟨_, (pss_cons (ps_if (pt_cmpR (op_neD hr.units) (pe_ix ix_tup (pv 1) pe_int (fun _ _ => rfl)) (pe_ix ix_tup (pv 2) pe_int (fun _ _ => rfl)) (nomark _)) (pss_one (ps_ret (pe_d d_is_less (hr.mono (by decide)) (pa_cons (pe_ix ix_tup (pv 1) pe_int (fun _ _ => rfl)) (pa_cons (pe_ix ix_tup (pv 2) pe_int (fun _ _ => rfl)) pa_nil))))) pss_nil)
        (pss_cons (ps_if (pt_cmpR op_ne (pe_ix ix_tup (pe_ix ix_list (pv 0) (pe_ix ix_tup (pv 1) pe_int (fun _ _ => rfl)) (fun _ _ => rfl)) pe_int (fun _ _ => rfl)) (pe_ix ix_tup (pe_ix ix_list (pv 0) (pe_ix ix_tup (pv 2) pe_int (fun _ _ => rfl)) (fun _ _ => rfl)) pe_int (fun _ _ => rfl)) (nomark _)) (pss_one (ps_ret (pe_cmpR op_gt (pe_ix ix_tup (pe_ix ix_list (pv 0) (pe_ix ix_tup (pv 1) pe_int (fun _ _ => rfl)) (fun _ _ => rfl)) pe_int (fun _ _ => rfl)) (pe_ix ix_tup (pe_ix ix_list (pv 0) (pe_ix ix_tup (pv 2) pe_int (fun _ _ => rfl)) (fun _ _ => rfl)) pe_int (fun _ _ => rfl)) (nomark _)))) pss_nil)
        (pss_one (ps_ret (pe_cmpR op_lt (pe_ix ix_tup (pv 1) pe_int (fun _ _ => rfl)) (pe_ix ix_tup (pv 2) pe_int (fun _ _ => rfl)) (nomark _)))))), ?_⟩)
  · obtain ⟨b, p1, p2, l, c1, c2, rfl, _⟩ := h
    rfl
  · obtain ⟨b, p1, p2, l, c1, c2, rfl, hl, ⟨f1, a1, a2⟩, ⟨f2, b1, b2⟩, hi, hj, hd1, hd2, q⟩ := h
    obtain ⟨xs, ti, e1, _, e2, e3⟩ := pairs_at hl hi
    obtain ⟨ys, tj, g1, _, g2, g3⟩ := pairs_at hl hj
    have hnr : nearer l c1 c2 = if c1.1 ≠ c2.1 then less c1.1 c2.1 else if (ln l c1.2).2 ≠ (ln l c2.2).2 then decide ((ln l c2.2).2 < (ln l c1.2).2) else decide (c1.2 < c2.2) := rfl
    refine ⟨_, rfl, p1, _, 0, _, rfl, rfl, SqT.of a1, rfl, _, rfl, p2, _, 0, _, rfl, rfl, SqT.of b1, rfl, _, _, dp_fr (SqT.of a2), dp_fr (SqT.of b2), shaped_fr _, shaped_fr _, _, rfl, ?_⟩
    rw [eqv_fr]
    refine ite2 (fun h1 => ?_) fun h1 => ?_
    · have h1' : c1.1 ≠ c2.1 := by simpa using h1
      rw [hnr, if_pos h1'] at q
      exact ⟨_, rfl, p1, _, 0, _, rfl, rfl, SqT.of a1, rfl, _, rfl, p2, _, 0, _, rfl, rfl, SqT.of b1, rfl, f1, f2, c1.1, c2.1, rfl, SqT.of a2, SqT.of b2, by omega, by omega, q⟩
    · have h1' : ¬ c1.1 ≠ c2.1 := by simpa using h1
      rw [hnr, if_neg h1'] at q
      refine ⟨_, rfl, _, rfl, p1, _, 1, _, rfl, rfl, SqT.of a1, rfl, b, _, _, _, rfl, rfl, e1, e2, ti, _, 1, _, rfl, rfl, e3, rfl, _, rfl, _, rfl, p2, _, 1, _, rfl, rfl, SqT.of b1, rfl, b, _, _, _, rfl, rfl, g1, g2, tj, _, 1, _, rfl, rfl, g3, rfl, rfl, _, rfl, ?_⟩
      rw [dec_int']
      refine ite2 (fun h2 => ?_) fun h2 => ?_
      · have h2' : (ln l c1.2).2 ≠ (ln l c2.2).2 := by simpa using h2
        rw [if_pos h2'] at q
        exact ⟨_, rfl, _, rfl, p1, _, 1, _, rfl, rfl, SqT.of a1, rfl, b, _, _, _, rfl, rfl, e1, e2, ti, _, 1, _, rfl, rfl, e3, rfl, _, rfl, _, rfl, p2, _, 1, _, rfl, rfl, SqT.of b1, rfl, b, _, _, _, rfl, rfl, g1, g2, tj, _, 1, _, rfl, rfl, g3, rfl, _, _, rfl, rfl, q⟩
      · have h2' : ¬ (ln l c1.2).2 ≠ (ln l c2.2).2 := by simpa using h2
        rw [if_neg h2'] at q
        refine ⟨_, rfl, p1, _, 1, _, rfl, rfl, SqT.of a1, rfl, _, rfl, p2, _, 1, _, rfl, rfl, SqT.of b1, rfl, _, _, rfl, rfl, ?_⟩
        have e : decide ((c1.2 : Int) < (c2.2 : Int)) = decide (c1.2 < c2.2) := by
          rw [Bool.eq_iff_iff, decide_eq_true_eq, decide_eq_true_eq]
          omega
        rw [← e] at q
        exact q
/-- what best holds -/
def BestAt (H : Hp) : Option V → Option (Frac × Nat) → Prop := fun v c => match c with
  | none => v = some .non
  | some c => ∃ t, v = some (.ref t) ∧ CrOne H t c
theorem BestAt.same {H H' : Hp} (s : Same H H') {v : Option V} {c : Option (Frac × Nat)} (h : BestAt H v c) : BestAt H' v c := by
  cases c with
  | none => exact h
  | some c =>
    obtain ⟨t, a, b⟩ := h
    exact ⟨t, a, b.same s⟩
theorem fold_mem {l : List (Int × Int)} : ∀ {cs : List (Frac × Nat)} {b : Option (Frac × Nat)} {c : Frac × Nat}, cs.foldl (nextStep l) b = some c → c ∈ cs ∨ b = some c
  | [], b, c, h => .inr h
  | x :: cs, b, c, h => by
    rcases fold_mem (cs := cs) h with h | h
    · exact .inl (List.mem_cons_of_mem _ h)
    · cases b with
      | none =>
        have : some x = some c := h
        exact .inl (by rw [Option.some.inj this]; exact List.mem_cons_self ..)
      | some y =>
        have h' : (if nearer l x y = true then some x else some y) = some c := h
        split at h'
        · exact .inl (by rw [Option.some.inj h']; exact List.mem_cons_self ..)
        · exact .inr h'
theorem crossL_ok {l : List (Int × Int)} (ho : LnOk l) {i : Nat} (hi : i < l.length) {c : Frac × Nat} (h : c ∈ crossL l i) : c.2 < l.length ∧ c.1.num.natAbs ≤ 3000 ∧ c.1.den ≤ 5000 := by
  unfold crossL at h
  obtain ⟨j, hj, rfl⟩ := List.mem_map.mp (List.mem_filter.mp h).1
  have h1 := risers_at hj
  have := cross_bd ho hi h1.1
  exact ⟨h1.1, this⟩
def sp_next_piece (K : PySem.W.Frag) (A : Ads) : Sp := fun vs H Q _ => ∃ (b : Addr) (l : List (Int × Int)) (i : Nat), vs = [.ref b, .int (i : Int)] ∧ PairsAt K H b l ∧ LnOk l ∧ i < l.length ∧ ∀ v H', Same H H' → BestAt H' (some v) (nextP l i) → Q v H'
theorem d_next_piece (T : Tx K mg base A) : Def P w K mg base CX0 5 "next_piece" ["lines", "item"] (sp_next_piece K A) := def_of T.t_next_piece (fun _ _ _ _ _ _ us hl => match us, hl with | [_, _], _ => rfl) fun f fd F => by
  have nd := sc_next_piece.nd
  have d_crossings := d_crossings (P := P) (w := w) T
  have d_is_nearer := d_is_nearer (P := P) (w := w) T
  refine F.ok sc_next_piece (fun vs H Q E h => ?_) (fun cdv Ar outer s H vs Q E hr h => ⟨_, (pss_cons (ps_set (i := 2) nd rfl (Or.inl rfl) pe_non)
        (pss_cons (ps_for PassesOwn.never rfl (pi_list (pe_d d_crossings (hr.mono (by decide)) (pa_cons (pv 0) (pa_cons (pv 1) pa_nil)))) (pg_name (i := 3) nd rfl (Or.inl rfl)) (pss_one (ps_if (PW.pt (pw_or (pt_cmpR op_isN (pv 2) pe_non (nomark _)) (pw_or1 (pt_val (pe_d d_is_nearer (hr.mono (by decide)) (pa_cons (pv 0) (pa_cons (pv 3) (pa_cons (pv 2) pa_nil)))))))) (pss_one (ps_set (i := 2) nd rfl (Or.inl rfl) (pv 3))) pss_nil)))
        (pss_one (ps_ret (pv 2))))), ?_⟩)
  · obtain ⟨b, l, i, rfl, _⟩ := h
    rfl
  · obtain ⟨b, l, i, rfl, hl, ho, hi, q⟩ := h
    refine ⟨_, rfl, _, rfl, b, l, i, rfl, hl, ho, hi, fun p cs H1 hS1 hp hcs => ?_⟩
    have hcl := hcs.len
    refine ⟨p, rfl, ⟨_, SqL.of hp⟩, for_it (walk_list (K := K) (a := p) (xs := cs.map V.ref)) (fun j σ H' => ∃ y z : Option V, σ = [some (.ref b), some (.int (i : Int)), y, z] ∧ Same H1 H' ∧ BestAt H' y (((crossL l i).take j).foldl (nextStep l) none)) ⟨some .non, none, rfl, Same.refl _, rfl⟩ (fun j σ H' _ ⟨_, _, _, s, _⟩ => SqL.of (s _ _ hp)) ?_ ?_⟩
    · rintro j x σ H' H'' hj ⟨y, z, rfl, hS, hbest⟩ ⟨rfl, hx⟩
      obtain ⟨t, ht, rfl⟩ := map_at hx
      obtain ⟨c, hc, hone⟩ := hcs.get ht
      have hone' := hone.same hS
      obtain ⟨k1, k2, k3⟩ := crossL_ok ho hi (List.mem_of_getElem? hc)
      have hl' := pairs_same (K := K) (hS1.trans hS) hl
      have step : ((crossL l i).take (j + 1)).foldl (nextStep l) none = nextStep l (((crossL l i).take j).foldl (nextStep l) none) c := by
        rw [take_more hc, List.foldl_append]
        rfl
      rw [step]
      generalize hb : ((crossL l i).take j).foldl (nextStep l) none = bst at *
      cases bst with
      | none =>
        obtain rfl : y = some .non := hbest
        refine ⟨_, rfl, rfl, _, rfl, iteT (iteT ⟨_, rfl, some (.ref t), some (.ref t), rfl, hS, t, rfl, hone'⟩)⟩
      | some c0 =>
        obtain ⟨t0, rfl, hone0⟩ := hbest
        have hm0 : c0 ∈ crossL l i := by
          rcases fold_mem hb with h | h
          · exact List.mem_of_mem_take h
          · cases h
        obtain ⟨m1, m2, m3⟩ := crossL_ok ho hi hm0
        refine ⟨_, rfl, rfl, _, rfl, iteF ⟨_, rfl, _, rfl, _, rfl, b, t, t0, l, c, c0, rfl, hl', hone', hone0, k1, m1, k2, m2, _, rfl, ?_⟩⟩
        have es : nextStep l (some c0) c = if nearer l c c0 = true then some c else some c0 := rfl
        rw [es]
        refine ite2 (fun h1 => ?_) fun h1 => ?_
        · rw [if_pos h1]
          exact ⟨_, rfl, some (.ref t), some (.ref t), rfl, hS, t, rfl, hone'⟩
        · rw [if_neg h1]
          exact ⟨some (.ref t0), some (.ref t), rfl, hS, t0, rfl, hone0⟩
    · rintro σ H' ⟨y, z, rfl, hS, hbest⟩
      have hlen : (cs.map V.ref).length = (crossL l i).length := by rw [List.length_map, hcl]
      rw [hlen, List.take_length] at hbest
      have hb : BestAt H' y (nextP l i) := hbest
      cases hn : nextP l i with
      | none =>
        rw [hn] at hb q
        obtain rfl : y = some .non := hb
        exact ⟨_, rfl, q _ H' (hS1.trans hS) rfl⟩
      | some c =>
        rw [hn] at hb q
        obtain ⟨t, rfl, h2⟩ := hb
        exact ⟨_, rfl, q _ H' (hS1.trans hS) ⟨t, rfl, h2⟩⟩
end
end BwW
end

section
set_option Elab.async false
set_option linter.all false
set_option maxRecDepth 100000
set_option maxHeartbeats 2000000
namespace BwW
open PySem PySem.Spec PyProof.Rows L2 BwK
open LamX (ExtN Tabs TabS)
open VaskyBase (Frac less whole frac)
open Bw (natI ln lineOf lowestF crossF risers crossL nearer nextStep nextP IsFirst piecesGo more)
section
variable {P : Program} {w : World} {K : PySem.W.Frag} {mg : Str → Option Value} {base : Heap} {A : Ads}
def PcOne (K : PySem.W.Frag) (H : Hp) (t : Addr) (p : Vaskyc.Piece) : Prop := ∃ sa ea, H t = some (.tup [.int (p.i : Int), .ref sa, .ref ea]) ∧ SqT K H sa (frV p.from_) ∧ SqT K H ea (frV p.to)
theorem PcOne.ext {H H' : Hp} {t : Addr} {p : Vaskyc.Piece} (e : ExtN H H') (h : PcOne K H t p) : PcOne K H' t p := let ⟨sa, ea, a, b, c⟩ := h; ⟨sa, ea, e _ _ a (fun _ z => by cases z), sqT_ext e b, sqT_ext e c⟩
def PcAt (K : PySem.W.Frag) (H : Hp) : List Addr → List Vaskyc.Piece → Prop
  | [], [] => True
  | p :: ps, x :: xs => PcOne K H p x ∧ PcAt K H ps xs
  | _, _ => False
theorem PcAt.mono {H H' : Hp} (h : ∀ p c, PcOne K H p c → PcOne K H' p c) : ∀ {ps : List Addr} {rs : List Vaskyc.Piece}, PcAt K H ps rs → PcAt K H' ps rs
  | [], [], _ => trivial
  | _ :: _, _ :: _, ⟨a, b⟩ => ⟨h _ _ a, PcAt.mono h b⟩
theorem PcAt.snoc {H : Hp} {p : Addr} {x : Vaskyc.Piece} (h : PcOne K H p x) : ∀ {ps : List Addr} {rs : List Vaskyc.Piece}, PcAt K H ps rs → PcAt K H (ps ++ [p]) (rs ++ [x])
  | [], [], _ => ⟨h, trivial⟩
  | _ :: _, _ :: _, ⟨a, b⟩ => ⟨a, PcAt.snoc h b⟩
theorem PcAt.len {H : Hp} : ∀ {ps : List Addr} {rs : List Vaskyc.Piece}, PcAt K H ps rs → ps.length = rs.length
  | [], [], _ => rfl
  | _ :: _, _ :: _, ⟨_, b⟩ => congrArg (· + 1) (PcAt.len b)
theorem PcAt.get {H : Hp} : ∀ {ps : List Addr} {rs : List Vaskyc.Piece} {i : Nat} {t : Addr}, PcAt K H ps rs → ps[i]? = some t → ∃ c, rs[i]? = some c ∧ PcOne K H t c
  | [], [], i, _, _, h => by simp at h
  | p :: _, c :: _, 0, _, ⟨a, _⟩, h => ⟨c, rfl, by cases h; exact a⟩
  | _ :: ps, _ :: ts, i + 1, t, ⟨_, b⟩, h => PcAt.get (i := i) b h
theorem sqT_put {H : Hp} {D a : Addr} {xs ys : List V} {o : HO} (h : SqT K H a xs) (hD : H D = some (.lst ys)) : SqT K (upd H D o) a xs := by
  rcases h with (h | ⟨u, h⟩) | h
  · refine .inl (.inl ?_)
    rw [upd_ne fun z => by rw [z, hD] at h; cases h]
    exact h
  · refine .inl (.inr ⟨u, ?_⟩)
    rw [upd_ne fun z => by rw [z, hD] at h; cases h]
    exact h
  · exact .inr h
theorem PcOne.put {H : Hp} {D p : Addr} {xs : List V} {o : HO} {c : Vaskyc.Piece} (h : PcOne K H p c) (hD : H D = some (.lst xs)) : PcOne K (upd H D o) p c := by
  obtain ⟨sa, ea, a, b, c⟩ := h
  refine ⟨sa, ea, ?_, sqT_put b hD, sqT_put c hD⟩
  rw [upd_ne fun z => by rw [z, hD] at a; cases a]
  exact a
theorem pairs_put {H : Hp} {D b : Addr} {l : List (Int × Int)} {xs : List V} {o : HO} (h : PairsAt K H b l) (hD : H D = some (.lst xs)) (hb : b ≠ D) : PairsAt K (upd H D o) b l := by
  obtain ⟨ts, h1, h2, h3⟩ := h
  refine ⟨ts, ?_, h2, fun i t x a c => sqT_put (h3 i t x a c) hD⟩
  rcases h1 with (h | ⟨u, h⟩) | h
  · refine .inl (.inl ?_)
    rw [upd_ne hb]
    exact h
  · refine .inl (.inr ⟨u, ?_⟩)
    rw [upd_ne hb]
    exact h
  · exact .inr h
theorem BestAt.put {H : Hp} {D : Addr} {xs : List V} {o : HO} {v : Option V} {c : Option (Frac × Nat)} (h : BestAt H v c) (hD : H D = some (.lst xs)) : BestAt (upd H D o) v c := by
  cases c with
  | none => exact h
  | some c =>
    obtain ⟨t, a, b⟩ := h
    exact ⟨t, a, b.put hD⟩
theorem dp_pairs {H : Hp} : ∀ {ts : List Addr} {l : List (Int × Int)}, ts.length = l.length → (∀ (i : Nat) (t : Addr) (x : Int × Int), ts[i]? = some t → l[i]? = some x → SqT K H t [V.int x.1, V.int x.2]) → DpAll K H (ts.map V.ref) (l.map fun x => .tuple [.int x.1, .int x.2])
  | [], [], _, _ => .nil
  | t :: ts, x :: l, h, hh => .cons (.tup (hh 0 t x rfl rfl) (.cons (.int _) (.cons (.int _) .nil))) (dp_pairs (by simpa using h) fun i t' x' a b => hh (i + 1) t' x' a b)
theorem lay_pairs : ∀ l : List (Int × Int), PyData.canLayAll0 (l.map fun x => PyData.tuple [.int x.1, .int x.2]) = true ∧ PyData.depthAll (l.map fun x => PyData.tuple [.int x.1, .int x.2]) ≤ 1
  | [] => ⟨rfl, by decide⟩
  | x :: r => by
    obtain ⟨a, b⟩ := lay_pairs r
    refine ⟨?_, ?_⟩
    · simp [List.map_cons, PyData.canLayAll0, PyData.canLay0, a]
    · rw [List.map_cons]
      simp only [PyData.depthAll, PyData.depth]
      omega
theorem shaped_pairs (l : List (Int × Int)) : SeqAt.shaped (.list (l.map fun x => PyData.tuple [.int x.1, .int x.2])) = true := by
  obtain ⟨a, b⟩ := lay_pairs l
  unfold SeqAt.shaped
  rw [Bool.and_eq_true]
  refine ⟨by rw [PyData.canLay0]; exact a, decide_eq_true ?_⟩
  rw [PyData.depth]
  omega
theorem eqv_pairs (l : List (Int × Int)) : PyData.eqv (.list (l.map fun x => PyData.tuple [.int x.1, .int x.2])) (.list []) = decide (l = []) := by
  cases l with
  | nil => rfl
  | cons n r => rfl
theorem extN_fresh {H H' : Hp} {D : Addr} {o : HO} (e : ExtN H H') (h : H D = none) : ExtN H (upd H' D o) := fun b u z n => by
  rw [upd_ne (ne_of_none z h)]
  exact e b u z n
theorem go_succ {l : List (Int × Int)} {n i : Nat} {s : Frac} : piecesGo l (n + 1) i s = match nextP l i with
    | none => [⟨i, s, whole 1⟩]
    | some c => ⟨i, s, c.1⟩ :: piecesGo l n c.2 c.1 := rfl
def sp_pieces (K : PySem.W.Frag) (A : Ads) : Sp := fun vs H Q _ => ∃ (b : Addr) (X : List (Int × Int)), vs = [.ref b] ∧ PairsAt K H b (X.map lineOf) ∧ LnOk (X.map lineOf) ∧ Tabs (tabsT A) H ∧
  ∀ p ps H', ExtN H H' → Tabs (tabsT A) H' → H' p = some (.lst (ps.map V.ref)) → PcAt K H' ps (Vaskyc.pieces X) → (Vaskyc.pieces X).length ≤ 17 → Q (.ref p) H'
theorem d_pieces (T : Tx K mg base A) : Def P w K mg base CX0 6 "pieces" ["lines"] (sp_pieces K A) := def_of T.t_pieces (fun _ _ _ _ _ _ us hl => match us, hl with | [_], _ => rfl) fun f fd F => by
  have nd := sc_pieces.nd
  have d_first_line := d_first_line (P := P) (w := w) T
  have d_next_piece := d_next_piece (P := P) (w := w) T
  refine F.ok sc_pieces (fun vs H Q E h => ?_) (fun cdv Ar outer s H vs Q E hr h => ⟨_, (pss_cons (ps_if (pt_cmpR (op_eqD hr.units) (pv 0) (pe_lst pa_nil) (nomark _)) (pss_one (ps_ret (pe_lst pa_nil))) pss_nil)
        (pss_cons (ps_set (i := 1) nd rfl (Or.inl rfl) (pe_d d_first_line (hr.mono (by decide)) (pa_cons (pv 0) pa_nil)))
        (pss_cons (ps_set (i := 2) nd rfl (Or.inl rfl) (pe_lst pa_nil))
        (pss_cons (ps_set (i := 3) nd rfl (Or.inl rfl) (pe_gr T.g_NOTHING))
        (pss_cons (ps_set (i := 4) nd rfl (Or.inl rfl) (pe_d d_next_piece (hr.mono (by decide)) (pa_cons (pv 0) (pa_cons (pv 1) pa_nil))))
        (pss_cons (ps_while PassesOwn.never (pt_cmpR op_notN (pv 4) pe_non (nomark _)) (pss_cons (ps_expr (pe_bm PySem.F.plainAttrs_list PySem.F.slot_list_append PySem.F.type_list_append mt_append (pv 2) (pa_cons (pe_tup (pa_cons (pv 1) (pa_cons (pv 3) (pa_cons (pe_ix ix_tup (pv 4) pe_int (fun _ _ => rfl)) pa_nil)))) pa_nil)))
        (pss_cons (ps_set (i := 3) nd rfl (Or.inl rfl) (pe_ix ix_tup (pv 4) pe_int (fun _ _ => rfl)))
        (pss_cons (ps_set (i := 1) nd rfl (Or.inl rfl) (pe_ix ix_tup (pv 4) pe_int (fun _ _ => rfl)))
        (pss_one (ps_set (i := 4) nd rfl (Or.inl rfl) (pe_d d_next_piece (hr.mono (by decide)) (pa_cons (pv 0) (pa_cons (pv 1) pa_nil)))))))))
        (pss_one (ps_ret (pe_op op_cat (pv 2) (pe_lst (pa_cons (pe_tup (pa_cons (pv 1) (pa_cons (pv 3) (pa_cons (pe_gr T.g_ALL) pa_nil)))) pa_nil))))))))))), ?_⟩)
  · obtain ⟨b, X, rfl, _⟩ := h
    rfl
  · obtain ⟨b, X, rfl, hl, ho, hT, q⟩ := h
    have s1 : 1000 < sizeLine := by decide
    obtain ⟨l, hlX⟩ : ∃ l, l = X.map lineOf := ⟨_, rfl⟩
    rw [← hlX] at hl ho
    have hl16 := ho.1
    obtain ⟨ts, t1, t2, t3⟩ := id hl
    refine ⟨_, rfl, by show 0 ≤ sizeLine; decide, fun e0 he0 => ?_⟩
    have hSe := same_upd (o := .lst []) (Same.refl H) he0
    have t3' : ∀ (i : Nat) (t : Addr) (x : Int × Int), ts[i]? = some t → l[i]? = some x → SqT K (upd H e0 (.lst [])) t [V.int x.1, V.int x.2] := fun i t x a c => sqT_ext (.of hSe) (t3 i t x a c)
    refine ⟨_, _, .lst (hSe.seq t1) (dp_pairs t2 t3'), .lst (SqL.of upd_same) .nil, shaped_pairs l, rfl, _, rfl, ?_⟩
    rw [eqv_pairs]
    generalize upd H e0 (.lst []) = H0 at *
    have hl0 := pairs_same (K := K) hSe hl
    have hT0 := hT.ext hSe
    refine ite2 (fun h1 => ?_) fun h1 => ?_
    · have h1' : l = [] := of_decide_eq_true h1
      have hX : X = [] := by
        rw [h1'] at hlX
        exact List.map_eq_nil_iff.mp hlX.symm
      refine ⟨by show 0 ≤ sizeLine; decide, fun p hp => ?_⟩
      refine q p [] _ (.of (same_upd' hSe hp)) (tabs_new hT0 hp) upd_same ?_ ?_
      · rw [hX, Bw.pieces_nil]
        trivial
      · rw [hX, Bw.pieces_nil]
        exact Nat.zero_le _
    have h1' : l ≠ [] := fun z => h1 (decide_eq_true z)
    refine ⟨_, rfl, b, l, rfl, hl0, h1', hl16, hT0, fun i0 H1 hfi e1 t1' => ?_⟩
    refine ⟨by show 0 ≤ sizeLine; decide, fun Fa hF => ?_⟩
    have e01 : ExtN H H1 := (ExtN.of hSe).trans e1
    have hl1 : PairsAt K H1 b l := pairs_ext e1 hl0
    have hpc : Vaskyc.pieces X = piecesGo l (more l i0) i0 (whole 0) := by
      rw [hlX] at hfi ⊢
      exact (Bw.pieces_are hfi (Nat.le_refl _)).symm
    have hm0 : more l i0 ≤ 16 := Nat.le_trans (risers_len l i0) hl16
    have hSF := same_upd (o := .lst []) (Same.refl H1) hF
    have hF0 : upd H1 Fa (.lst []) Fa = some (.lst (([] : List Addr).map V.ref)) := upd_same
    refine ⟨_, rfl, _, rfl, b, l, i0, rfl, pairs_same hSF hl1, ho, hfi.1, fun y0 H2 hS2 hy0 => ?_⟩
    let W : Nat → L2.St → Hp → Prop := fun k σ H' => ∃ (i n : Nat) (don : List Vaskyc.Piece) (fs : List Addr) (sa : Addr) (s : Frac) (y : V), k = more l i ∧ σ = [some (.ref b), some (.int (i : Int)), some (.ref Fa), some (.ref sa), some y] ∧ ExtN H1 H' ∧ Tabs (tabsT A) H' ∧ H' Fa = some (.lst (fs.map V.ref)) ∧
      PcAt K H' fs don ∧ SqT K H' sa (frV s) ∧ BestAt H' (some y) (nextP l i) ∧ i < l.length ∧ more l i ≤ n ∧ Vaskyc.pieces X = don ++ piecesGo l n i s ∧ don.length + more l i ≤ 16
    refine ⟨W, ⟨_, i0, more l i0, [], [], A.aNOTHING, whole 0, y0, rfl, rfl, (ExtN.of hSF).trans (.of hS2), (t1'.ext hSF).ext hS2, hS2 _ _ hF0, trivial, T.v_NOTHING _, hy0, hfi.1, Nat.le_refl _, hpc, by simpa using hm0⟩, ?_⟩
    rintro k σ H' ⟨i, n, don, fs, sa, s', y, rfl, rfl, hE, hT', hFF, hpcs, hsa, hbest, hi, hn, hout, h16⟩
    have hfl := hpcs.len
    refine ⟨_, rfl, rfl, _, rfl, ?_⟩
    cases hnx : nextP l i with
    | none =>
      rw [hnx] at hbest
      obtain rfl : y = .non := Option.some.inj hbest
      have hgo : piecesGo l n i s' = [⟨i, s', whole 1⟩] := by
        cases n with
        | zero => rfl
        | succ n => rw [go_succ, hnx]
      rw [hgo] at hout
      refine iteF ⟨_, rfl, _, rfl, _, rfl, by show 3 ≤ sizeLine; decide, fun t ht => ⟨by show 1 ≤ sizeLine; decide, fun L hL => ?_⟩⟩
      have hSt := same_upd (o := .tup [.int (i : Int), .ref sa, .ref A.aALL]) (Same.refl H') ht
      have htt : upd H' t (.tup [.int (i : Int), .ref sa, .ref A.aALL]) t = some (.tup [.int (i : Int), .ref sa, .ref A.aALL]) := upd_same
      generalize upd H' t (.tup [.int (i : Int), .ref sa, .ref A.aALL]) = H3 at *
      have hone : PcOne K H3 t ⟨i, s', whole 1⟩ := ⟨sa, A.aALL, htt, sqT_ext (.of hSt) hsa, T.v_ALL _⟩
      have hSL := same_upd (o := .lst [.ref t]) (Same.refl H3) hL
      have hLL : upd H3 L (.lst [.ref t]) L = some (.lst [.ref t]) := upd_same
      generalize upd H3 L (.lst [.ref t]) = H4 at *
      have hF4 := hSL _ _ (hSt _ _ hFF)
      refine ⟨Fa, L, fs.map V.ref, [.ref t], rfl, rfl, hF4, hLL, ?_, fun p hp => ?_⟩
      · rw [List.length_map]
        show _ + 1 ≤ sizeLine
        omega
      · have hSp := same_upd (o := .lst (fs.map V.ref ++ [.ref t])) (Same.refl H4) hp
        have ef : ExtN H' (upd H4 p (.lst (fs.map V.ref ++ [.ref t]))) := (ExtN.of hSt).trans ((ExtN.of hSL).trans (.of hSp))
        refine q p (fs ++ [t]) _ (e01.trans (hE.trans ef)) (((hT'.ext hSt).ext hSL).ext hSp) (by rw [upd_same, List.map_append]; rfl) ?_ ?_
        · rw [hout]
          exact PcAt.snoc (hone.ext ((ExtN.of hSL).trans (.of hSp))) (hpcs.mono fun p c z => z.ext ef)
        · rw [hout, List.length_append, List.length_singleton]
          omega
    | some c =>
      rw [hnx] at hbest
      obtain ⟨ty, hty, hone⟩ := hbest
      obtain rfl : y = .ref ty := Option.some.inj hty
      obtain ⟨hcm, _⟩ := Bw.next_some hnx
      obtain ⟨hc1, hc2, _, _⟩ := Bw.mem_crossL.mp hcm
      have hml := Bw.more_less hc1 hc2
      obtain ⟨n, rfl⟩ : ∃ m, n = m + 1 := ⟨n - 1, by omega⟩
      have hgo : piecesGo l (n + 1) i s' = ⟨i, s', c.1⟩ :: piecesGo l n c.2 c.1 := by
        rw [go_succ, hnx]
      rw [hgo] at hout
      obtain ⟨fa, ha1, ha2⟩ := id hone
      refine iteT ⟨fun σ' H'' => ∃ m', m' < more l i ∧ W m' σ' H'', fun _ _ h => h, ?_⟩
      refine ⟨_, rfl, .inl ⟨rfl, _, SqL.of hFF⟩, _, rfl, _, rfl, _, rfl, ty, _, 0, _, rfl, rfl, SqT.of ha1, rfl, by show 3 ≤ sizeLine; decide, fun t ht => ?_⟩
      have hSt := same_upd (o := .tup [.int (i : Int), .ref sa, .ref fa]) (Same.refl H') ht
      have htt : upd H' t (.tup [.int (i : Int), .ref sa, .ref fa]) t = some (.tup [.int (i : Int), .ref sa, .ref fa]) := upd_same
      generalize upd H' t (.tup [.int (i : Int), .ref sa, .ref fa]) = H3 at *
      have hF3 := hSt _ _ hFF
      refine ⟨Fa, _, _, rfl, rfl, hF3, by rw [List.length_map]; omega, ?_⟩
      have honep : PcOne K H3 t ⟨i, s', c.1⟩ := ⟨sa, fa, htt, sqT_ext (.of hSt) hsa, SqT.of (hSt _ _ ha2)⟩
      have hE3 : ExtN H1 (upd H3 Fa (.lst (fs.map V.ref ++ [.ref t]))) := extN_fresh (hE.trans (.of hSt)) hF
      have hT3 : Tabs (tabsT A) (upd H3 Fa (.lst (fs.map V.ref ++ [.ref t]))) := tabs_put (hT'.ext hSt) hF3 (fun _ z => by cases z) lst_code
      have hF4 : upd H3 Fa (.lst (fs.map V.ref ++ [.ref t])) Fa = some (.lst ((fs ++ [t]).map V.ref)) := by
        rw [upd_same, List.map_append]
        rfl
      have hpcs4 : PcAt K (upd H3 Fa (.lst (fs.map V.ref ++ [.ref t]))) (fs ++ [t]) (don ++ [⟨i, s', c.1⟩]) := PcAt.snoc (honep.put hF3) (hpcs.mono fun p c z => (z.ext (.of hSt)).put hF3)
      have hone4 : CrOne (upd H3 Fa (.lst (fs.map V.ref ++ [.ref t]))) ty c := (hone.same hSt).put hF3
      generalize upd H3 Fa (.lst (fs.map V.ref ++ [.ref t])) = H4 at *
      obtain ⟨fa4, hb1, hb2⟩ := id hone4
      refine ⟨_, rfl, ty, _, 0, _, rfl, rfl, SqT.of hb1, rfl, _, rfl, ty, _, 1, _, rfl, rfl, SqT.of hb1, rfl, _, rfl, _, rfl, b, l, c.2, rfl, pairs_ext hE3 hl1, ho, hc1, fun y5 H5 hS5 hy5 => ?_⟩
      refine ⟨_, hml, c.2, n, don ++ [⟨i, s', c.1⟩], fs ++ [t], fa4, c.1, y5, rfl, rfl, hE3.trans (.of hS5), hT3.ext hS5, hS5 _ _ hF4, hpcs4.mono fun p c z => z.ext (.of hS5), SqT.of (hS5 _ _ hb2), hy5, hc1, by omega, ?_, ?_⟩
      · rw [hout, List.append_assoc]
        rfl
      · rw [List.length_append, List.length_singleton]
        omega
end
end BwW
end

section
set_option Elab.async false
set_option linter.all false
set_option maxRecDepth 100000
set_option maxHeartbeats 2000000
namespace BwW
open PySem PySem.Spec PyProof.Rows L2 BwK
open LamX (ExtN Tabs TabS)
open VaskyBase (Frac less whole frac)
open Bw (natI ln lineOf lowestF worthAt bestAtM greaterF lesserF sharesM)
section
variable {P : Program} {w : World} {K : PySem.W.Frag} {mg : Str → Option Value} {base : Heap} {A : Ads}
def sp_worth_at (K : PySem.W.Frag) (A : Ads) : Sp := fun vs H Q _ => ∃ (t : Addr) (x : Int × Int) (p d : Int), vs = [.ref t, .int p, .int d] ∧ SqT K H t [.int x.1, .int x.2] ∧ p.natAbs ≤ 1000 ∧ d.natAbs ≤ 1000 ∧ Q (.int (worthAt p d x)) H
theorem d_worth_at (T : Tx K mg base A) : Def P w K mg base CX0 1 "worth_at" ["line", "p", "q"] (sp_worth_at K A) := def_of T.t_worth_at (fun _ _ _ _ _ _ us hl => match us, hl with | [_, _, _], _ => rfl) fun f fd F => by
  have nd := sc_worth_at.nd
  refine F.ok sc_worth_at (fun vs H Q E h => ?_) (fun cdv Ar outer s H vs Q E hr h => ⟨_, (pss_one (ps_ret (pe_op op_add (pe_op op_mul (pv 2) (pe_ix ix_tup (pv 0) pe_int (fun _ _ => rfl))) (pe_op op_mul (pv 1) (pe_ix ix_tup (pv 0) pe_int (fun _ _ => rfl)))))), ?_⟩)
  · obtain ⟨t, x, p, d, rfl, _⟩ := h
    rfl
  · obtain ⟨t, x, p, d, rfl, ht, hp, hd, q⟩ := h
    exact ⟨_, rfl, _, rfl, t, _, 0, _, rfl, rfl, ht, rfl, _, _, rfl, rfl, .inl ⟨by omega, by omega⟩, _, rfl, _, rfl, t, _, 1, _, rfl, rfl, ht, rfl, _, _, rfl, rfl, .inl ⟨by omega, by omega⟩, _, _, rfl, rfl, q⟩
theorem worst_max {l : List (Int × Int)} {p d m : Int} (hm : m ∈ l.map (worthAt p d)) (ha : ∀ y ∈ l.map (worthAt p d), y ≤ m) {i : Nat} (hi : i < l.length) : decide (V.int (worthAt p d (ln l i)) = V.int m) = l.all fun y => decide (worthAt p d y ≤ worthAt p d (ln l i)) := by
  rw [dec_int', Bool.eq_iff_iff, decide_eq_true_eq, List.all_eq_true]
  have hmem : worthAt p d (ln l i) ∈ l.map (worthAt p d) := List.mem_map.mpr ⟨_, List.mem_of_getElem? (Bw.ln_get hi), rfl⟩
  constructor
  · intro e y hy
    have := ha _ (List.mem_map.mpr ⟨y, hy, rfl⟩)
    exact decide_eq_true (by omega)
  · intro h
    obtain ⟨y, hy, rfl⟩ := List.mem_map.mp hm
    have h1 := of_decide_eq_true (h y hy)
    have h2 := ha _ hmem
    omega
def sp_best_at (K : PySem.W.Frag) (A : Ads) : Sp := fun vs H Q _ => ∃ (b : Addr) (l : List (Int × Int)) (p d : Int), vs = [.ref b, .int p, .int d] ∧ PairsAt K H b l ∧ l.length ≤ 16 ∧ p.natAbs ≤ 1000 ∧ d.natAbs ≤ 1000 ∧
  ∀ t H', Same H H' → H' t = some (.lst ((natI (bestAtM l p d)).map V.int)) → (bestAtM l p d).length ≤ 16 → Q (.ref t) H'
theorem d_best_at (T : Tx K mg base A) : Def P w K mg base CX0 2 "best_at" ["lines", "p", "q"] (sp_best_at K A) := def_of T.t_best_at (fun _ _ _ _ _ _ us hl => match us, hl with | [_, _, _], _ => rfl) fun f fd F => by
  have nd := sc_best_at.nd
  have d_worth_at := d_worth_at (P := P) (w := w) T
  refine F.ok sc_best_at (fun vs H Q E h => ?_) (fun cdv Ar outer s H vs Q E hr h => ⟨_, (pss_cons (ps_set (i := 3) nd rfl (Or.inr rfl) (pe_lc (own := [("line", 4)]) (g := gName 4) (by rfl) nd (pi_list (pv 0)) (blkOk_by (own := [("line", 4)]) (N := N_best_at) (sc := defScope s_best_at) (by decide +kernel)) (fun _ _ _ _ _ => (pg_name (i := 4) nd rfl (Or.inl rfl))) (fun _ _ _ _ _ => pts_nil) (fun _ _ _ _ _ => (pe_d d_worth_at (hr.mono (by decide)) (pa_cons (pv 4) (pa_cons (pv 1) (pa_cons (pv 2) pa_nil)))))))
        (pss_one (ps_ret (pe_lc (own := [("item", 5)]) (g := gName 5) (by rfl) nd (pi_range1 (by rfl) T.b_range (pa_cons (pe_callB call_len_seq (by rfl) T.b_len PySem.boot_len (pa_cons (pv 3) pa_nil)) pa_nil)) (blkOk_by (own := [("item", 5)]) (N := N_best_at) (sc := defScope s_best_at) (by decide +kernel)) (fun _ _ _ _ _ => (pg_name (i := 5) nd rfl (Or.inl rfl))) (fun _ _ _ _ _ => pts_one (pt_cmpR op_eq (pe_ix (show IxR _ (rIxL K) from ix_list) (pv 3) (pv 5) (fun _ _ => rfl)) (pe_callB (show CallR _ (.builtin "max") (rMax K) from cr_max rfl) (by rfl) T.b_max (by decide +kernel) (pa_cons (pv 3) pa_nil)) (nomark _))) (fun _ _ _ _ _ => (pv 5)))))), ?_⟩)
  · obtain ⟨b, l, p, d, rfl, _⟩ := h
    rfl
  · obtain ⟨b, l, p, d, rfl, hl, hl16, hp, hd, q⟩ := h
    have s1 : 1000 < sizeLine := by decide
    obtain ⟨ts, t1, t2, t3⟩ := id hl
    refine ⟨_, rfl, b, rfl, ⟨_, t1⟩, fun D hD => lc_it (walk_list (K := K) (a := b) (xs := ts.map V.ref)) (fun j H' => Same H H' ∧ H' D = some (.lst ((l.take j).map fun x => V.int (worthAt p d x)))) ⟨same_upd (Same.refl _) hD, upd_same⟩ (fun j H' _ z => z.1.seq t1) ?_ ?_⟩
    · rintro j x H' H'' hj ⟨hS, hDD⟩ ⟨rfl, hx⟩
      obtain ⟨t, ht, rfl⟩ := map_at hx
      rw [List.length_map] at hj
      have hxx := List.getElem?_eq_getElem (show j < l.length by omega)
      have htx := sqT_ext (.of hS) (t3 j t _ ht hxx)
      refine ⟨rfl, _, rfl, _, rfl, _, rfl, t, l[j], p, d, rfl, htx, hp, hd, ?_⟩
      exact lc_fin (out := fun j => (l.take j).map fun x => V.int (worthAt p d x)) hS hD hDD (by rw [List.length_map, List.length_take]; omega) (by show (l.take (j + 1)).map _ = _; rw [take_more hxx, List.map_append]; rfl)
    rintro H1 ⟨hS1, hDD⟩
    have hD1 : H1 D = some (.lst ((l.map (worthAt p d)).map V.int)) := by
      rw [List.length_map, t2, List.take_length] at hDD
      rw [List.map_map]
      exact hDD
    refine ⟨_, rfl, D, _, rfl, .inl (SqL.of hD1), _, rfl, by omega, by rw [List.length_map, List.length_map]; omega, fun D2 hD2 => ?_⟩
    rw [List.length_map, List.length_map]
    refine lc_it (walk_range) (fun j H' => Same H1 H' ∧ H' D2 = some (.lst ((natI (((List.range l.length).take j).filter fun i => l.all fun y => decide (worthAt p d y ≤ worthAt p d (ln l i)))).map V.int))) ⟨same_upd (Same.refl _) hD2, upd_same⟩ (fun _ _ _ _ => trivial) ?_ ?_
    · rintro j x H' H'' hj ⟨hS, hDD⟩ hy
      obtain ⟨rfl, rfl⟩ := range0 hy
      rw [Int.toNat_natCast] at hj
      have hD' := SqL.of (K := K) (hS _ _ hD1)
      have hat : ((l.map (worthAt p d)).map V.int)[j]? = some (.int (worthAt p d (ln l j))) := by
        rw [List.getElem?_map, List.getElem?_map, Bw.ln_get hj]
        rfl
      have hle : (((List.range l.length).take j).filter fun i => l.all fun y => decide (worthAt p d y ≤ worthAt p d (ln l i))).length ≤ j := Nat.le_trans (List.length_filter_le _ _) (by rw [List.length_take]; omega)
      refine ⟨rfl, _, rfl, _, rfl, D, _, _, _, rfl, rfl, hD', atI_nat hat, _, rfl, D, _, rfl, hD', by rw [List.length_map]; omega, fun m hm ha => ⟨rfl, _, rfl, ?_⟩⟩
      rw [worst_max hm ha hj]
      refine ite2 (fun h1 => ⟨_, rfl, ?_⟩) fun h1 => ⟨hS, ?_⟩
      · exact lc_fin (out := fun j => (natI (((List.range l.length).take j).filter fun i => l.all fun y => decide (worthAt p d y ≤ worthAt p d (ln l i)))).map V.int) hS hD2 hDD (by rw [List.length_map, natI_len]; omega) (by show (natI (((List.range l.length).take (j + 1)).filter _)).map V.int = _; rw [filter_more (range_at hj), if_pos h1]; unfold natI; rw [List.map_append, List.map_append]; rfl)
      · rw [hDD, filter_more (range_at hj), if_neg h1, List.append_nil]
    · rintro H2 ⟨hS2, hDD2⟩
      rw [Int.toNat_natCast] at hDD2
      have e : (List.range l.length).take l.length = List.range l.length := by
        have := List.take_length (l := List.range l.length)
        rw [List.length_range] at this
        exact this
      rw [e] at hDD2
      refine q D2 H2 (hS1.trans hS2) hDD2 ?_
      unfold bestAtM
      refine Nat.le_trans (List.length_filter_le _ _) ?_
      rw [List.length_range]
      exact hl16
def sp_pick (g : Frac → Frac → Bool) (K : PySem.W.Frag) : Sp := fun vs H Q _ => ∃ (a b : Addr) (f h : Frac), vs = [.ref a, .ref b] ∧ SqT K H a (frV f) ∧ SqT K H b (frV h) ∧ f.num.natAbs ≤ 3000 ∧ h.num.natAbs ≤ 3000 ∧ Q (.ref (if g f h = true then b else a)) H
def sp_greater (K : PySem.W.Frag) (A : Ads) : Sp := sp_pick (fun f h => less f h) K
def sp_lesser (K : PySem.W.Frag) (A : Ads) : Sp := sp_pick (fun f h => less h f) K
theorem d_greater (T : Tx K mg base A) : Def P w K mg base CX0 2 "greater" ["one", "other"] (sp_greater K A) := def_of T.t_greater (fun _ _ _ _ _ _ us hl => match us, hl with | [_, _], _ => rfl) fun f fd F => by
  have nd := sc_greater.nd
  have d_is_less := d_is_less (P := P) (w := w) T
  refine F.ok sc_greater (fun vs H Q E h => ?_) (fun cdv Ar outer s H vs Q E hr h => ⟨_, (pss_cons (ps_if (pt_val (pe_d d_is_less (hr.mono (by decide)) (pa_cons (pv 0) (pa_cons (pv 1) pa_nil)))) (pss_one (ps_ret (pv 1))) pss_nil)
        (pss_one (ps_ret (pv 0)))), ?_⟩)
  · obtain ⟨a, b, f, g, rfl, _⟩ := h
    rfl
  · obtain ⟨a, b, f, g, rfl, ha, hb, hf, hg, q⟩ := h
    refine ⟨_, rfl, _, rfl, a, b, f, g, rfl, ha, hb, by omega, by omega, _, rfl, ite2 (fun h1 => ?_) fun h1 => ?_⟩
    · rw [if_pos h1] at q
      exact ⟨_, rfl, q⟩
    · rw [if_neg h1] at q
      exact ⟨_, rfl, q⟩
theorem d_lesser (T : Tx K mg base A) : Def P w K mg base CX0 2 "lesser" ["one", "other"] (sp_lesser K A) := def_of T.t_lesser (fun _ _ _ _ _ _ us hl => match us, hl with | [_, _], _ => rfl) fun f fd F => by
  have nd := sc_lesser.nd
  have d_is_less := d_is_less (P := P) (w := w) T
  refine F.ok sc_lesser (fun vs H Q E h => ?_) (fun cdv Ar outer s H vs Q E hr h => ⟨_, (pss_cons (ps_if (pt_val (pe_d d_is_less (hr.mono (by decide)) (pa_cons (pv 1) (pa_cons (pv 0) pa_nil)))) (pss_one (ps_ret (pv 1))) pss_nil)
        (pss_one (ps_ret (pv 0)))), ?_⟩)
  · obtain ⟨a, b, f, g, rfl, _⟩ := h
    rfl
  · obtain ⟨a, b, f, g, rfl, ha, hb, hf, hg, q⟩ := h
    refine ⟨_, rfl, _, rfl, b, a, g, f, rfl, hb, ha, by omega, by omega, _, rfl, ite2 (fun h1 => ?_) fun h1 => ?_⟩
    · rw [if_pos h1] at q
      exact ⟨_, rfl, q⟩
    · rw [if_neg h1] at q
      exact ⟨_, rfl, q⟩
/-- two ends, or None -/
def EnAt (K : PySem.W.Frag) (H : Hp) : V → Option (Frac × Frac) → Prop := fun v e => match e with
  | none => v = .non
  | some e => ∃ t a b, v = .ref t ∧ H t = some (.tup [.ref a, .ref b]) ∧ SqT K H a (frV e.1) ∧ SqT K H b (frV e.2)
theorem EnAt.same {H H' : Hp} (s : Same H H') {v : V} {e : Option (Frac × Frac)} (h : EnAt K H v e) : EnAt K H' v e := by
  cases e with
  | none => exact h
  | some e =>
    obtain ⟨t, a, b, h1, h2, h3, h4⟩ := h
    exact ⟨t, a, b, h1, s _ _ h2, sqT_ext (.of s) h3, sqT_ext (.of s) h4⟩
def EnOk (e : Option (Frac × Frac)) : Prop := ∀ x, e = some x → x.1.num.natAbs ≤ 3000 ∧ x.2.num.natAbs ≤ 3000
theorem pick_sq {H : Hp} {g : Bool} {a b : Addr} {f h : Frac} (ha : SqT K H a (frV f)) (hb : SqT K H b (frV h)) : SqT K H (if g = true then b else a) (frV (if g = true then h else f)) := by
  cases g with
  | true => exact hb
  | false => exact ha
def sp_narrowed (K : PySem.W.Frag) (A : Ads) : Sp := fun vs H Q _ => ∃ (v : V) (t o : Addr) (x y : Int × Int) (e : Option (Frac × Frac)), vs = [v, .ref t, .ref o] ∧ EnAt K H v e ∧ SqT K H t [.int x.1, .int x.2] ∧ SqT K H o [.int y.1, .int y.2] ∧ x.1.natAbs ≤ 1000 ∧ x.2.natAbs ≤ 2000 ∧ y.1.natAbs ≤ 1000 ∧ y.2.natAbs ≤ 2000 ∧ EnOk e ∧
  ∀ v' H', Same H H' → EnAt K H' v' (Bw.narrowed e x y) → EnOk (Bw.narrowed e x y) → Q v' H'
theorem d_narrowed (T : Tx K mg base A) : Def P w K mg base CX0 3 "narrowed" ["ends", "line", "other"] (sp_narrowed K A) := def_of T.t_narrowed (fun _ _ _ _ _ _ us hl => match us, hl with | [_, _, _], _ => rfl) fun f fd F => by
  have nd := sc_narrowed.nd
  have d_is_less := d_is_less (P := P) (w := w) T
  have d_greater := d_greater (P := P) (w := w) T
  have d_lesser := d_lesser (P := P) (w := w) T
  have d_lowest := d_lowest (P := P) (w := w) T
  refine F.ok sc_narrowed (fun vs H Q E h => ?_) (fun cdv Ar outer s H vs Q E hr h => ⟨_, (pss_cons (ps_if (pt_cmpR op_isN (pv 0) pe_non (nomark _)) (pss_one (ps_ret pe_non)) pss_nil)
        (pss_cons (ps_set (i := 3) nd rfl (Or.inl rfl) (pe_op op_sub (pe_ix ix_tup (pv 1) pe_int (fun _ _ => rfl)) (pe_ix ix_tup (pv 2) pe_int (fun _ _ => rfl))))
        (pss_cons (ps_set (i := 4) nd rfl (Or.inl rfl) (pe_op op_sub (pe_ix ix_tup (pv 1) pe_int (fun _ _ => rfl)) (pe_ix ix_tup (pv 2) pe_int (fun _ _ => rfl))))
        (pss_cons (ps_if (pt_cmpR op_eq (pv 4) pe_int (nomark _)) (pss_one (ps_ret (pe_ifExp (pt_cmpR op_ge (pv 3) pe_int (nomark _)) (pv 0) pe_non))) pss_nil)
        (pss_cons (ps_if (pt_cmpR op_gt (pv 4) pe_int (nomark _)) (pss_one (ps_set (i := 5) nd rfl (Or.inl rfl) (pe_tup (pa_cons (pe_d d_greater (hr.mono (by decide)) (pa_cons (pe_ix ix_tup (pv 0) pe_int (fun _ _ => rfl)) (pa_cons (pe_d d_lowest (hr.mono (by decide)) (pa_cons (pe_op op_sub pe_int (pv 3)) (pa_cons (pv 4) pa_nil))) pa_nil))) (pa_cons (pe_ix ix_tup (pv 0) pe_int (fun _ _ => rfl)) pa_nil))))) (pss_one (ps_set (i := 5) nd rfl (Or.inl rfl) (pe_tup (pa_cons (pe_ix ix_tup (pv 0) pe_int (fun _ _ => rfl)) (pa_cons (pe_d d_lesser (hr.mono (by decide)) (pa_cons (pe_ix ix_tup (pv 0) pe_int (fun _ _ => rfl)) (pa_cons (pe_d d_lowest (hr.mono (by decide)) (pa_cons (pe_op op_sub pe_int (pv 3)) (pa_cons (pv 4) pa_nil))) pa_nil))) pa_nil))))))
        (pss_cons (ps_if (pt_val (pe_d d_is_less (hr.mono (by decide)) (pa_cons (pe_ix ix_tup (pv 5) pe_int (fun _ _ => rfl)) (pa_cons (pe_ix ix_tup (pv 5) pe_int (fun _ _ => rfl)) pa_nil)))) (pss_one (ps_ret pe_non)) pss_nil)
        (pss_one (ps_ret (pv 5))))))))), ?_⟩)
  · obtain ⟨v, t, o, x, y, e, rfl, _⟩ := h
    rfl
  · obtain ⟨v, t, o, x, y, e, rfl, he, ht, ho, b1, b2, b3, b4, hok, q⟩ := h
    refine ⟨_, rfl, rfl, _, rfl, ?_⟩
    cases e with
    | none =>
      obtain rfl : v = .non := he
      exact iteT (q .non H (Same.refl _) rfl hok)
    | some e =>
      obtain ⟨te, a, b, rfl, h1, h2, h3⟩ := id he
      have hbd := hok e rfl
      refine iteF ⟨_, rfl, t, _, 0, _, rfl, rfl, ht, rfl, _, rfl, o, _, 0, _, rfl, rfl, ho, rfl, _, _, rfl, rfl, _, rfl, t, _, 1, _, rfl, rfl, ht, rfl, _, rfl, o, _, 1, _, rfl, rfl, ho, rfl, _, _, rfl, rfl, _, rfl, rfl, _, rfl, ?_⟩
      rw [dec_int']
      have hnr : Bw.narrowed (some e) x y = if x.2 - y.2 = 0 then (if 0 ≤ x.1 - y.1 then some e else none) else
          (if less (if 0 < x.2 - y.2 then (greaterF e.1 (lowestF (0 - (x.1 - y.1)) (x.2 - y.2)), e.2) else (e.1, lesserF e.2 (lowestF (0 - (x.1 - y.1)) (x.2 - y.2)))).2 (if 0 < x.2 - y.2 then (greaterF e.1 (lowestF (0 - (x.1 - y.1)) (x.2 - y.2)), e.2) else (e.1, lesserF e.2 (lowestF (0 - (x.1 - y.1)) (x.2 - y.2)))).1 = true then none
            else some (if 0 < x.2 - y.2 then (greaterF e.1 (lowestF (0 - (x.1 - y.1)) (x.2 - y.2)), e.2) else (e.1, lesserF e.2 (lowestF (0 - (x.1 - y.1)) (x.2 - y.2))))) := rfl
      refine ite2 (fun c1 => ?_) fun c1 => ?_
      · have c1' : x.2 - y.2 = 0 := of_decide_eq_true c1
        rw [hnr, if_pos c1'] at q
        refine ⟨_, rfl, _, 0, rfl, rfl, _, rfl, ite2 (fun c2 => ?_) fun c2 => ?_⟩
        · have c2' : 0 ≤ x.1 - y.1 := of_decide_eq_true c2
          rw [if_pos c2'] at q
          exact ⟨_, rfl, q _ H (Same.refl _) he hok⟩
        · have c2' : ¬ 0 ≤ x.1 - y.1 := fun z => c2 (decide_eq_true z)
          rw [if_neg c2'] at q
          exact q _ H (Same.refl _) rfl (fun _ z => by cases z)
      · have c1' : ¬ x.2 - y.2 = 0 := fun z => c1 (decide_eq_true z)
        rw [hnr, if_neg c1'] at q
        have hlb := lowest_bd (0 - (x.1 - y.1)) (x.2 - y.2)
        have hln : (lowestF (0 - (x.1 - y.1)) (x.2 - y.2)).num.natAbs ≤ 3000 := by omega
        refine ⟨_, rfl, _, 0, rfl, rfl, _, rfl, ite2 (fun c2 => ?_) fun c2 => ?_⟩
        · have c2' : 0 < x.2 - y.2 := of_decide_eq_true c2
          simp only [if_pos c2'] at q
          refine ⟨_, rfl, te, _, 0, _, rfl, rfl, SqT.of h1, rfl, _, rfl, 0, _, rfl, rfl, _, rfl, 0 - (x.1 - y.1), x.2 - y.2, rfl, c1', by omega, fun lo H1 hS1 hlo hlo1 => ?_⟩
          refine ⟨a, lo, e.1, _, rfl, sqT_ext (.of hS1) h2, SqT.of hlo1, hbd.1, hln, ?_⟩
          have hpk := pick_sq (K := K) (H := H1) (g := less e.1 (lowestF (0 - (x.1 - y.1)) (x.2 - y.2))) (sqT_ext (.of hS1) h2) (SqT.of hlo1)
          generalize (if less e.1 (lowestF (0 - (x.1 - y.1)) (x.2 - y.2)) = true then lo else a) = ga at *
          have hgf : greaterF e.1 (lowestF (0 - (x.1 - y.1)) (x.2 - y.2)) = if less e.1 (lowestF (0 - (x.1 - y.1)) (x.2 - y.2)) = true then lowestF (0 - (x.1 - y.1)) (x.2 - y.2) else e.1 := rfl
          rw [← hgf] at hpk
          have hgb : (greaterF e.1 (lowestF (0 - (x.1 - y.1)) (x.2 - y.2))).num.natAbs ≤ 3000 := by
            rw [hgf]
            split
            · exact hln
            · exact hbd.1
          refine ⟨_, rfl, te, _, 1, _, rfl, rfl, SqT.of (hS1 _ _ h1), rfl, by show 2 ≤ sizeLine; decide, fun tn htn => ?_⟩
          have hS2 := same_upd (o := .tup [.ref ga, .ref b]) (Same.refl H1) htn
          have htt : upd H1 tn (.tup [.ref ga, .ref b]) tn = some (.tup [.ref ga, .ref b]) := upd_same
          generalize upd H1 tn (.tup [.ref ga, .ref b]) = H2 at *
          refine ⟨_, rfl, tn, _, 1, _, rfl, rfl, SqT.of htt, rfl, _, rfl, tn, _, 0, _, rfl, rfl, SqT.of htt, rfl, b, ga, e.2, _, rfl, sqT_ext (.of (hS1.trans hS2)) h3, sqT_ext (.of hS2) hpk, by omega, by omega, _, rfl, ite2 (fun c3 => ?_) fun c3 => ?_⟩
          · rw [if_pos c3] at q
            exact q _ H2 (hS1.trans hS2) rfl (fun _ z => by cases z)
          · rw [if_neg c3] at q
            exact ⟨_, rfl, q _ H2 (hS1.trans hS2) ⟨tn, ga, b, rfl, htt, sqT_ext (.of hS2) hpk, sqT_ext (.of (hS1.trans hS2)) h3⟩ (fun _ z => by rw [← Option.some.inj z]; exact ⟨hgb, hbd.2⟩)⟩
        · have c2' : ¬ 0 < x.2 - y.2 := fun z => c2 (decide_eq_true z)
          simp only [if_neg c2'] at q
          refine ⟨_, rfl, te, _, 0, _, rfl, rfl, SqT.of h1, rfl, _, rfl, te, _, 1, _, rfl, rfl, SqT.of h1, rfl, _, rfl, 0, _, rfl, rfl, _, rfl, 0 - (x.1 - y.1), x.2 - y.2, rfl, c1', by omega, fun lo H1 hS1 hlo hlo1 => ?_⟩
          refine ⟨b, lo, e.2, _, rfl, sqT_ext (.of hS1) h3, SqT.of hlo1, hbd.2, hln, ?_⟩
          have hpk := pick_sq (K := K) (H := H1) (g := less (lowestF (0 - (x.1 - y.1)) (x.2 - y.2)) e.2) (sqT_ext (.of hS1) h3) (SqT.of hlo1)
          generalize (if less (lowestF (0 - (x.1 - y.1)) (x.2 - y.2)) e.2 = true then lo else b) = gb at *
          have hgf : lesserF e.2 (lowestF (0 - (x.1 - y.1)) (x.2 - y.2)) = if less (lowestF (0 - (x.1 - y.1)) (x.2 - y.2)) e.2 = true then lowestF (0 - (x.1 - y.1)) (x.2 - y.2) else e.2 := rfl
          rw [← hgf] at hpk
          have hgb : (lesserF e.2 (lowestF (0 - (x.1 - y.1)) (x.2 - y.2))).num.natAbs ≤ 3000 := by
            rw [hgf]
            split
            · exact hln
            · exact hbd.2
          refine ⟨by show 2 ≤ sizeLine; decide, fun tn htn => ?_⟩
          have hS2 := same_upd (o := .tup [.ref a, .ref gb]) (Same.refl H1) htn
          have htt : upd H1 tn (.tup [.ref a, .ref gb]) tn = some (.tup [.ref a, .ref gb]) := upd_same
          generalize upd H1 tn (.tup [.ref a, .ref gb]) = H2 at *
          refine ⟨_, rfl, tn, _, 1, _, rfl, rfl, SqT.of htt, rfl, _, rfl, tn, _, 0, _, rfl, rfl, SqT.of htt, rfl, gb, a, _, e.1, rfl, sqT_ext (.of hS2) hpk, sqT_ext (.of (hS1.trans hS2)) h2, by omega, by omega, _, rfl, ite2 (fun c3 => ?_) fun c3 => ?_⟩
          · rw [if_pos c3] at q
            exact q _ H2 (hS1.trans hS2) rfl (fun _ z => by cases z)
          · rw [if_neg c3] at q
            exact ⟨_, rfl, q _ H2 (hS1.trans hS2) ⟨tn, a, gb, rfl, htt, sqT_ext (.of (hS1.trans hS2)) h2, sqT_ext (.of hS2) hpk⟩ (fun _ z => by rw [← Option.some.inj z]; exact ⟨hbd.1, hgb⟩)⟩
def sp_shares_of (K : PySem.W.Frag) (A : Ads) : Sp := fun vs H Q _ => ∃ (b : Addr) (l : List (Int × Int)) (i : Nat), vs = [.ref b, .int (i : Int)] ∧ PairsAt K H b l ∧ LnOk l ∧ i < l.length ∧ ∀ v H', Same H H' → EnAt K H' v (sharesM l i) → Q v H'
theorem d_shares_of (T : Tx K mg base A) : Def P w K mg base CX0 4 "shares_of" ["lines", "item"] (sp_shares_of K A) := def_of T.t_shares_of (fun _ _ _ _ _ _ us hl => match us, hl with | [_, _], _ => rfl) fun f fd F => by
  have nd := sc_shares_of.nd
  have d_narrowed := d_narrowed (P := P) (w := w) T
  refine F.ok sc_shares_of (fun vs H Q E h => ?_) (fun cdv Ar outer s H vs Q E hr h => ⟨_, (pss_cons (ps_set (i := 2) nd rfl (Or.inl rfl) (pe_tup (pa_cons (pe_gr T.g_NOTHING) (pa_cons (pe_gr T.g_ALL) pa_nil))))
        (pss_cons (ps_for PassesOwn.never rfl (pi_list (pv 0)) (pg_name (i := 3) nd rfl (Or.inl rfl)) (pss_one (ps_set (i := 2) nd rfl (Or.inl rfl) (pe_d d_narrowed (hr.mono (by decide)) (pa_cons (pv 2) (pa_cons (pe_ix ix_list (pv 0) (pv 1) (fun _ _ => rfl)) (pa_cons (pv 3) pa_nil)))))))
        (pss_one (ps_ret (pv 2))))), ?_⟩)
  · obtain ⟨b, l, i, rfl, _⟩ := h
    rfl
  · obtain ⟨b, l, i, rfl, hl, ho, hi, q⟩ := h
    obtain ⟨ts, t1, t2, t3⟩ := id hl
    refine ⟨by show 2 ≤ sizeLine; decide, fun t0 ht0 => ?_⟩
    have hS0 := same_upd (o := .tup [.ref A.aNOTHING, .ref A.aALL]) (Same.refl H) ht0
    have htt : upd H t0 (.tup [.ref A.aNOTHING, .ref A.aALL]) t0 = some (.tup [.ref A.aNOTHING, .ref A.aALL]) := upd_same
    refine ⟨_, rfl, b, rfl, ⟨_, hS0.seq t1⟩, for_it (walk_list (K := K) (a := b) (xs := ts.map V.ref)) (fun j σ H' => ∃ (v : V) (z : Option V), σ = [some (.ref b), some (.int (i : Int)), some v, z] ∧ Same H H' ∧ EnAt K H' v ((l.take j).foldl (fun e o => Bw.narrowed e (ln l i) o) (some (whole 0, whole 1))) ∧ EnOk ((l.take j).foldl (fun e o => Bw.narrowed e (ln l i) o) (some (whole 0, whole 1))))
      ⟨.ref t0, none, rfl, hS0, ⟨t0, A.aNOTHING, A.aALL, rfl, htt, T.v_NOTHING _, T.v_ALL _⟩, fun x hx => by cases hx; exact ⟨by decide, by decide⟩⟩ (fun j σ H' _ ⟨_, _, _, s, _⟩ => s.seq t1) ?_ ?_⟩
    · rintro j x σ H' H'' hj ⟨v, z, rfl, hS, hen, hok⟩ ⟨rfl, hx⟩
      obtain ⟨t, ht, rfl⟩ := map_at hx
      rw [List.length_map] at hj
      have hxx := List.getElem?_eq_getElem (show j < l.length by omega)
      have htx := sqT_ext (.of hS) (t3 j t _ ht hxx)
      obtain ⟨xs, ti, a1, _, a2, a3⟩ := pairs_at (pairs_same hS hl) hi
      have hb1 := ho.at hi
      have hb2 := ho.2 _ (List.mem_of_getElem? hxx)
      refine ⟨_, rfl, _, rfl, _, rfl, b, _, _, _, rfl, rfl, a1, a2, _, rfl, v, ti, t, ln l i, l[j], _, rfl, hen, a3, htx, hb1.1, hb1.2, hb2.1, hb2.2, hok, fun v' H' hS' hen' hok' => ?_⟩
      refine ⟨v', some (.ref t), rfl, hS.trans hS', ?_, ?_⟩
      · rw [take_more hxx, List.foldl_append]
        exact hen'
      · rw [take_more hxx, List.foldl_append]
        exact hok'
    · rintro σ H' ⟨v, z, rfl, hS, hen, _⟩
      have hlen : (ts.map V.ref).length = l.length := by rw [List.length_map, t2]
      rw [hlen, List.take_length] at hen
      exact ⟨_, rfl, q v H' hS hen⟩
end
end BwW
end

section
set_option Elab.async false
set_option linter.all false
set_option maxRecDepth 100000
set_option maxHeartbeats 2000000
namespace BwW
open PySem PySem.Spec PyProof.Rows L2 BwK
open LamX (ExtN Tabs TabS)
open Bw (natI okW)
section
variable {P : Program} {w : World} {K : PySem.W.Frag} {mg : Str → Option Value} {base : Heap} {A : Ads}
def sp_Refused___init__ (A : Ads) : Sp := fun vs H Q _ => ∃ (a : Addr) (c : V), vs = [.ref a, c] ∧ H a = some (exo a A.cRefused none) ∧
  ∀ (d : Addr) (H' : Hp), H d = none → d ≠ a → H' a = some (exo a A.cRefused (some d)) → H' d = some (exd d [("number", c)]) → (∀ b o, b ≠ a → H b = some o → H' b = some o) → Q .non H'
theorem d_Refused (T : Tx K mg base A) : ExcDef P w K mg base 1 "Refused" A.cRefused ["self", "number"] (sp_Refused___init__ A) := exc_of T.k_Refused (fun _ _ _ _ _ _ us hl => match us, hl with | [_, _], _ => rfl) fun f fd F => by
  have nd := sc_Refused___init__.nd
  refine F.ok sc_Refused___init__ (fun vs H Q E h => ?_) (fun cdv Ar outer s H vs Q E hr h => ⟨_, (pss_one (ps_ost (pv 0) (pv 1))), ?_⟩)
  · obtain ⟨a, c, rfl, _⟩ := h
    rfl
  · obtain ⟨a, c, rfl, ha, q⟩ := h
    have n1 := T.k_Refused.no "number" (by simp)
    refine ⟨_, rfl, _, rfl, a, A.cRefused, rfl, T.k_Refused.ox, n1, .inl ⟨ha, fun dx hdx ne => ?_⟩⟩
    refine q dx _ hdx ne upd_same ?_ fun b o hb e => ?_
    · rw [upd_ne ne, upd_same]
    · have nd : b ≠ dx := ne_of_none e hdx
      rw [upd_ne hb, upd_ne nd]
      exact e
/-- a refusal leaves the def -/
def RefOut (A : Ads) (H : Hp) (E : XK) (n : Int) : Prop := ∀ (d : Addr) (H' : Hp), ExtN H H' → Tabs (tabsT A) H' → H' d = some (.xd [("number", .int n)]) → E (.ref A.cRefused) (some d) H'
theorem RefOut.ext {H H' : Hp} {E : XK} {n : Int} (e : ExtN H H') (h : RefOut A H E n) : RefOut A H' E n := fun d H2 h1 h2 h3 => h d H2 (e.trans h1) h2 h3
theorem mk_refused {H : Hp} {E : XK} {n : Int} (t : Tabs (tabsT A) H) (h : RefOut A H E n) : ([V.int n] : List V).length ≤ 1000 ∧ ∀ a, H a = none → sp_Refused___init__ A (.ref a :: ([V.int n] ++ [])) (upd H a (exo a A.cRefused none))
    (fun v H2 => v = .non ∧ ∃ (d : Addr) (fs : List (Str × V)), H2 a = some (exo a A.cRefused (some d)) ∧ H2 d = some (exd d fs) ∧ H d = none ∧ E (.ref A.cRefused) (some d) (upd (del H2 a) d (.xd fs))) (fun _ _ _ => False) := by
  refine ⟨by show 1 ≤ 1000; decide, fun a ha => ⟨a, .int n, rfl, upd_same, fun d H' hd ne h1 h2 h3 => ⟨rfl, d, _, h1, h2, ?_, ?_⟩⟩⟩
  · rw [upd_ne ne] at hd
    exact hd
  · rw [upd_ne ne] at hd
    have hS : Same H (upd (del H' a) d (.xd [("number", .int n)])) := fun b o e => by
      have na : b ≠ a := ne_of_none e ha
      rw [upd_ne (ne_of_none e hd), del_ne na]
      exact h3 b o na (by rw [upd_ne na]; exact e)
    exact h d _ (.of hS) (t.ext hS) upd_same
def sp_must_be (K : PySem.W.Frag) (A : Ads) : Sp := fun vs H Q E => ∃ (b : Bool) (n : Int), vs = [.bl b, .int n] ∧ Tabs (tabsT A) H ∧ (b = true → Q .non H) ∧ (b = false → RefOut A H E n)
theorem d_must_be (T : Tx K mg base A) : Def P w K mg base (L2.CX P w) 3 "must_be" ["is_so", "number"] (sp_must_be K A) := def_of T.t_must_be (fun _ _ _ _ _ _ us hl => match us, hl with | [_, _], _ => rfl) fun f fd F => by
  have nd := sc_must_be.nd
  have d_Refused := d_Refused (P := P) (w := w) T
  refine F.okX sc_must_be (fun vs H Q E h => ?_) (fun cdv Ar outer s H vs Q E hr h => ⟨_, (pss_one (ps_if (pt_not (pt_val (pv 0))) (pss_one (ps_raise rfl (takes_of rfl rfl rfl rfl) (pmk_c d_Refused (hr.mono (by decide)) (pa_cons (pv 1) pa_nil)))) pss_nil)), ?_⟩)
  · obtain ⟨b, n, rfl, _⟩ := h
    rfl
  · obtain ⟨b, n, rfl, t, q, qE⟩ := h
    refine ⟨_, rfl, b, rfl, ?_⟩
    cases b with
    | true => exact iteF (q rfl)
    | false => exact iteT ⟨_, rfl, mk_refused t (qE rfl)⟩
def sp_must_be_item (K : PySem.W.Frag) (A : Ads) : Sp := fun vs H Q E => ∃ (li dl u it : Addr) (ups : List Bool) (rs : List Addr) (rows : List (List Int)) (i : Int), vs = [.ref li, .int i] ∧ LsAt A H li dl u it ups rs rows ∧ Tabs (tabsT A) H ∧ (0 ≤ i ∧ i < (rows.length : Int) → Q .non H) ∧ (¬ (0 ≤ i ∧ i < (rows.length : Int)) → RefOut A H E (-2))
theorem d_must_be_item (T : Tx K mg base A) : Def P w K mg base (L2.CX P w) 4 "must_be_item" ["listing", "i"] (sp_must_be_item K A) := def_of T.t_must_be_item (fun _ _ _ _ _ _ us hl => match us, hl with | [_, _], _ => rfl) fun f fd F => by
  have nd := sc_must_be_item.nd
  have d_must_be := d_must_be (P := P) (w := w) T
  refine F.okX sc_must_be_item (fun vs H Q E h => ?_) (fun cdv Ar outer s H vs Q E hr h => ⟨_, (pss_one (ps_expr (pe_dX d_must_be (hr.mono (by decide)) (takes_of rfl rfl rfl rfl) (pa_cons (pe_chain op_le op_lt pe_int (pv 1) (pe_callB call_len_seq (by rfl) T.b_len PySem.boot_len (pa_cons (pe_fld (pv 0) rfl) pa_nil))) (pa_cons (pe_gi T.g_NO_ITEM) pa_nil))))), ?_⟩)
  · obtain ⟨li, dl, u, it, ups, rs, rows, i, rfl, _⟩ := h
    rfl
  · obtain ⟨li, dl, u, it, ups, rs, rows, i, rfl, hL, t, q, qE⟩ := h
    have C := T.k_Listing.cl
    have n1 := T.k_Listing.no "items_told" (by simp)
    have hrl := hL.r.len
    have fin : ∀ b : Bool, b = decide (0 ≤ i ∧ i < (rows.length : Int)) → sp_must_be K A ([.bl b, .int (-2)] ++ []) H (fun _ H1 => Q .non H1) E := fun b e => ⟨b, -2, rfl, t, fun z => q (of_decide_eq_true (by rw [← e]; exact z)), fun z => qE (of_decide_eq_false (by rw [← e]; exact z))⟩
    refine ⟨_, rfl, 0, _, rfl, rfl, _, rfl, ite2 (fun h1 => ⟨_, rfl, li, _, dl, _, _, rfl, hL.l, C, n1, lsF_items u it, it, _, rfl, .inl (SqL.of hL.i), _, _, rfl, rfl, fin _ ?_⟩) fun h1 => fin _ ?_⟩
    · rw [List.length_map, hrl, Bool.eq_iff_iff, decide_eq_true_eq, decide_eq_true_eq]
      have := of_decide_eq_true h1
      exact ⟨fun z => ⟨this, z⟩, fun z => z.2⟩
    · exact (decide_eq_false fun z => h1 (decide_eq_true z.1)).symm
def sp_must_be_count (K : PySem.W.Frag) (A : Ads) : Sp := fun vs H Q E => ∃ (k : Int), vs = [.int k] ∧ Tabs (tabsT A) H ∧ (0 ≤ k ∧ k ≤ 16 → Q .non H) ∧ (¬ (0 ≤ k ∧ k ≤ 16) → RefOut A H E (-3))
theorem d_must_be_count (T : Tx K mg base A) : Def P w K mg base (L2.CX P w) 4 "must_be_count" ["k"] (sp_must_be_count K A) := def_of T.t_must_be_count (fun _ _ _ _ _ _ us hl => match us, hl with | [_], _ => rfl) fun f fd F => by
  have nd := sc_must_be_count.nd
  have d_must_be := d_must_be (P := P) (w := w) T
  refine F.okX sc_must_be_count (fun vs H Q E h => ?_) (fun cdv Ar outer s H vs Q E hr h => ⟨_, (pss_one (ps_expr (pe_dX d_must_be (hr.mono (by decide)) (takes_of rfl rfl rfl rfl) (pa_cons (pe_chain op_le op_le pe_int (pv 0) (pe_gi T.g_MOST_BEST)) (pa_cons (pe_gi T.g_NO_COUNT) pa_nil))))), ?_⟩)
  · obtain ⟨k, rfl, _⟩ := h
    rfl
  · obtain ⟨k, rfl, t, q, qE⟩ := h
    have fin : ∀ b : Bool, b = decide (0 ≤ k ∧ k ≤ 16) → sp_must_be K A ([.bl b, .int (-3)] ++ []) H (fun _ H1 => Q .non H1) E := fun b e => ⟨b, -3, rfl, t, fun z => q (of_decide_eq_true (by rw [← e]; exact z)), fun z => qE (of_decide_eq_false (by rw [← e]; exact z))⟩
    refine ⟨_, rfl, 0, _, rfl, rfl, _, rfl, ite2 (fun h1 => ⟨_, _, rfl, rfl, fin _ ?_⟩) fun h1 => fin _ ?_⟩
    · rw [Bool.eq_iff_iff, decide_eq_true_eq, decide_eq_true_eq]
      have := of_decide_eq_true h1
      exact ⟨fun z => ⟨this, z⟩, fun z => z.2⟩
    · exact (decide_eq_false fun z => h1 (decide_eq_true z.1)).symm
def sp_must_be_weights (K : PySem.W.Frag) (A : Ads) : Sp := fun vs H Q E => ∃ (li dl u it wl : Addr) (ups : List Bool) (rs : List Addr) (rows : List (List Int)) (W : List Int), vs = [.ref li, .ref wl] ∧ LsAt A H li dl u it ups rs rows ∧ SqL K H wl (W.map V.int) ∧ W.length < sizeLine ∧ Tabs (tabsT A) H ∧
  (okW ups.length W = true → ∀ H', Same H H' → Q .non H') ∧ (okW ups.length W = false → RefOut A H E (-4))
theorem d_must_be_weights (T : Tx K mg base A) : Def P w K mg base (L2.CX P w) 4 "must_be_weights" ["listing", "weights"] (sp_must_be_weights K A) := def_of T.t_must_be_weights (fun _ _ _ _ _ _ us hl => match us, hl with | [_, _], _ => rfl) fun f fd F => by
  have nd := sc_must_be_weights.nd
  have d_must_be := d_must_be (P := P) (w := w) T
  have d_are_weights := d_are_weights (P := P) (w := w) T
  refine F.okX sc_must_be_weights (fun vs H Q E h => ?_) (fun cdv Ar outer s H vs Q E hr h => ⟨_, (pss_one (ps_expr (pe_dX d_must_be (hr.mono (by decide)) (takes_of rfl rfl rfl rfl) (pa_cons (pe_d d_are_weights (hr.mono (by decide)) (pa_cons (pv 0) (pa_cons (pv 1) pa_nil))) (pa_cons (pe_gi T.g_NO_WEIGHTS) pa_nil))))), ?_⟩)
  · obtain ⟨li, dl, u, it, wl, ups, rs, rows, W, rfl, _⟩ := h
    rfl
  · obtain ⟨li, dl, u, it, wl, ups, rs, rows, W, rfl, hL, hW, hz, t, q, qE⟩ := h
    exact ⟨_, rfl, _, rfl, li, dl, u, it, wl, ups, rs, rows, W, rfl, hL, hW, hz, fun H' hS => ⟨_, -4, rfl, t.ext hS, fun z => q z H' hS, fun z => (qE z).ext (.of hS)⟩⟩
def sp_must_be_measures (K : PySem.W.Frag) (A : Ads) : Sp := fun vs H Q E => ∃ (li dl u it : Addr) (ups : List Bool) (rs : List Addr) (rows : List (List Int)) (m k : Int), vs = [.ref li, .int m, .int k] ∧ LsAt A H li dl u it ups rs rows ∧ Tabs (tabsT A) H ∧
  ((0 ≤ m ∧ m < (ups.length : Int)) ∧ (0 ≤ k ∧ k < (ups.length : Int)) ∧ m ≠ k → Q .non H) ∧ (¬ ((0 ≤ m ∧ m < (ups.length : Int)) ∧ (0 ≤ k ∧ k < (ups.length : Int)) ∧ m ≠ k) → RefOut A H E (-5))
theorem d_must_be_measures (T : Tx K mg base A) : Def P w K mg base (L2.CX P w) 4 "must_be_measures" ["listing", "m", "k"] (sp_must_be_measures K A) := def_of T.t_must_be_measures (fun _ _ _ _ _ _ us hl => match us, hl with | [_, _, _], _ => rfl) fun f fd F => by
  have nd := sc_must_be_measures.nd
  have d_must_be := d_must_be (P := P) (w := w) T
  refine F.okX sc_must_be_measures (fun vs H Q E h => ?_) (fun cdv Ar outer s H vs Q E hr h => ⟨_, (pss_cons (ps_set (i := 3) nd rfl (Or.inl rfl) (pe_callB call_len_seq (by rfl) T.b_len PySem.boot_len (pa_cons (pe_fld (pv 0) rfl) pa_nil)))
        (pss_one (ps_expr (pe_dX d_must_be (hr.mono (by decide)) (takes_of rfl rfl rfl rfl) (pa_cons (pe_and (pe_chain op_le op_lt pe_int (pv 1) (pv 3)) (pe_and (pe_chain op_le op_lt pe_int (pv 2) (pv 3)) (pe_one (pe_cmpR op_ne (pv 1) (pv 2) (nomark _))))) (pa_cons (pe_gi T.g_NO_MEASURES) pa_nil)))))), ?_⟩)
  · obtain ⟨li, dl, u, it, ups, rs, rows, m, k, rfl, _⟩ := h
    rfl
  · obtain ⟨li, dl, u, it, ups, rs, rows, m, k, rfl, hL, t, q, qE⟩ := h
    have C := T.k_Listing.cl
    have n1 := T.k_Listing.no "ups" (by simp)
    have fin : ∀ b : Bool, b = decide ((0 ≤ m ∧ m < (ups.length : Int)) ∧ (0 ≤ k ∧ k < (ups.length : Int)) ∧ m ≠ k) → sp_must_be K A ([.bl b, .int (-5)] ++ []) H (fun _ H1 => Q .non H1) E := fun b e => ⟨b, -5, rfl, t, fun z => q (of_decide_eq_true (by rw [← e]; exact z)), fun z => qE (of_decide_eq_false (by rw [← e]; exact z))⟩
    refine ⟨_, rfl, li, _, dl, _, _, rfl, hL.l, C, n1, lsF_ups u it, u, _, rfl, .inl (SqL.of hL.u), ?_⟩
    rw [List.length_map]
    have bad : ¬ ((0 ≤ m ∧ m < (ups.length : Int)) ∧ (0 ≤ k ∧ k < (ups.length : Int)) ∧ m ≠ k) → sp_must_be K A ([.bl false, .int (-5)] ++ []) H (fun _ H1 => Q .non H1) E := fun z => fin false (decide_eq_false z).symm
    refine ⟨_, rfl, 0, m, rfl, rfl, _, rfl, ite2 (fun h1 => ?_) fun h1 => ⟨_, rfl, iteF (bad fun z => h1 (decide_eq_true z.1.1))⟩⟩
    refine ⟨_, rfl, _, _, rfl, rfl, _, rfl, ite2 (fun h2 => ?_) fun h2 => bad fun z => h2 (decide_eq_true z.1.2)⟩
    refine ⟨_, rfl, 0, k, rfl, rfl, _, rfl, ite2 (fun h3 => ?_) fun h3 => ⟨_, rfl, iteF (bad fun z => h3 (decide_eq_true z.2.1.1))⟩⟩
    refine ⟨_, rfl, _, _, rfl, rfl, _, rfl, ite2 (fun h4 => ?_) fun h4 => bad fun z => h4 (decide_eq_true z.2.1.2)⟩
    refine ⟨_, rfl, _, rfl, rfl, ?_⟩
    refine fin _ ?_
    rw [dec_int', Bool.eq_iff_iff]
    simp only [Bool.not_eq_true', decide_eq_true_eq, decide_eq_false_iff_not]
    have a1 := of_decide_eq_true h1
    have a2 := of_decide_eq_true h2
    have a3 := of_decide_eq_true h3
    have a4 := of_decide_eq_true h4
    exact ⟨fun z => ⟨⟨a1, a2⟩, ⟨a3, a4⟩, z⟩, fun z => z.2.2⟩
end
end BwW
end

section
set_option Elab.async false
set_option linter.all false
set_option maxRecDepth 100000
set_option maxHeartbeats 2000000
namespace BwW
open PySem PySem.Spec PyProof.Rows L2 BwK
open LamX (ExtN Tabs TabS)
open VaskyBase (Frac less whole frac)
open Bw (natI okW weighed scoresM scAt inOrder lineOf worthAt bestAtM sharesM)
section
variable {P : Program} {w : World} {K : PySem.W.Frag} {mg : Str → Option Value} {base : Heap} {A : Ads}
def sp_Holder___init__ (K : PySem.W.Frag) (A : Ads) : Sp := fun vs H Q _ => ∃ (p dx : Addr), vs = [.ref p] ∧ H p = some (.ins A.cHolder dx []) ∧
  ∀ H' : Hp, H' p = some (.ins A.cHolder dx [("listing", .non)]) → (∀ b o, b ≠ p → H b = some o → H' b = some o) → Q .non H'
theorem d_Holder (T : Tx K mg base A) : ClsDef P w K mg base 1 "Holder" A.cHolder ["self"] (sp_Holder___init__ K A) := cls_of T.k_Holder (fun _ _ _ _ _ _ us hl => match us, hl with | [_], _ => rfl) fun f fd F => by
  have nd := sc_Holder___init__.nd
  refine F.ok sc_Holder___init__ (fun vs H Q E h => ?_) (fun cdv Ar outer s H vs Q E hr h => ⟨_, (pss_one (ps_fld (pv 0) pe_non rfl)), ?_⟩)
  · obtain ⟨p, dx, rfl, _⟩ := h
    rfl
  · obtain ⟨p, dx, rfl, hp, q⟩ := h
    have C := T.k_Holder.cl
    have n1 := T.k_Holder.no "listing" (by simp)
    refine ⟨_, rfl, p, _, dx, _, rfl, hp, C, n1, by show 0 < 1000; decide, ?_⟩
    refine q _ upd_same fun b o hb e => ?_
    rw [upd_ne hb]
    exact e
def sp_load (K : PySem.W.Frag) (A : Ads) : Sp := fun vs H Q _ => ∃ (h dh a : Addr) (v : V) (B : VaskyBase.Bytes), vs = [.ref h, .ref a] ∧ H h = some (.ins A.cHolder dh [("listing", v)]) ∧ SqL K H a (byV B) ∧
  (∀ f, readB B = .error f → ∀ p H', Same H H' → H p = none → H' p = some (.lst ([0, (f.code : Int), (f.place : Int)].map V.int)) → Q (.ref p) H') ∧
  (∀ ups rows, readB B = .ok (ups, rows) → ∀ p li dl u it rs H', SameOff (· = h) H H' → H' h = some (.ins A.cHolder dh [("listing", .ref li)]) → LsAt A H' li dl u it ups rs rows → H u = none → H it = none → (∀ p ∈ rs, H p = none) → H p = none → H' p = some (.lst ([1, (ups.length : Int), (rows.length : Int)].map V.int)) → Q (.ref p) H')
theorem d_load (T : Tx K mg base A) : Def P w K mg base CX0 9 "load" ["holder", "text"] (sp_load K A) := def_of T.t_load (fun _ _ _ _ _ _ us hl => match us, hl with | [_, _], _ => rfl) fun f fd F => by
  have nd := sc_load.nd
  have d_read_list := d_read_list (P := P) (w := w) T
  refine F.ok sc_load (fun vs H Q E h => ?_) (fun cdv Ar outer s H vs Q E hr h => ⟨_, (pss_cons (ps_try_as (i := 3) rfl rfl nd rfl rfl ⟨rfl, by decide, .inl T.k_Fault.g⟩ takes0 (fun W pn xe tk _ => (pss_one (ps_set (i := 2) nd rfl (Or.inl rfl) (pe_dS d_read_list (hr.mono (by decide)) tk (pa_cons (pv 1) pa_nil))))) (fun a oe cls d pn hz hf => (pss_one (ps_ret (pe_lst (pa_cons pe_int (pa_cons (pe_xf T.k_Fault.xf (T.k_Fault.no "code" (by simp)) hz hf (pv 3)) (pa_cons (pe_xf T.k_Fault.xf (T.k_Fault.no "place" (by simp)) hz hf (pv 3)) pa_nil))))))))
        (pss_cons (ps_fld (pv 0) (pv 2) rfl)
        (pss_one (ps_ret (pe_lst (pa_cons pe_int (pa_cons (pe_callB call_len_seq (by rfl) T.b_len PySem.boot_len (pa_cons (pe_fld (pv 2) rfl) pa_nil)) (pa_cons (pe_callB call_len_seq (by rfl) T.b_len PySem.boot_len (pa_cons (pe_fld (pv 2) rfl) pa_nil)) pa_nil)))))))), ?_⟩)
  · obtain ⟨h, dh, a, v, B, rfl, _⟩ := h
    rfl
  · obtain ⟨h, dh, a, v, B, rfl, hh, hB, qE, q⟩ := h
    have C := T.k_Holder.cl
    have C2 := T.k_Listing.cl
    have n1 := T.k_Holder.no "listing" (by simp)
    have n2 := T.k_Listing.no "ups" (by simp)
    have n3 := T.k_Listing.no "items_told" (by simp)
    refine ⟨_, rfl, a, B, rfl, hB, fun f hf => fun d H' hs hd => ⟨true, T.k_Fault.em, fun _ a0 _ => ?_, fun z => Bool.noConfusion z⟩, fun ups rows hr li dl u it rs H1 hS1 hL nu ni nr => ?_⟩
    · have hS : Same H H' := fun b o e => hs b o id e
      refine ⟨_, rfl, rfl, rfl, d, _, _, rfl, hd, (lk_past (by decide +kernel)).trans lk_here, _, rfl, rfl, rfl, d, _, _, rfl, hd, lk_here, by show 3 ≤ sizeLine; decide, fun p hp => ?_⟩
      exact qE f hf p _ (same_upd' hS hp) (hS.free hp) upd_same
    · have hh1 := hS1 _ _ hh
      have hlh : li ≠ h := fun z => by
        have := hL.l
        rw [z, hh1] at this
        have e := Option.some.inj this
        injection e with _ _ e
        have e2 := congrArg List.length e
        exact absurd (show (1 : Nat) = 2 from e2) (by decide)
      refine ⟨_, rfl, _, rfl, h, _, dh, _, rfl, hh1, C, n1, by show 1 < 1000; decide, ?_⟩
      have hput : putF ("listing" : Str) (.ref li) [(("listing" : Str), v)] = [(("listing" : Str), .ref li)] := put_here
      rw [hput]
      have hoff : SameOff (· = h) H (upd H1 h (.ins A.cHolder dh [("listing", .ref li)])) := (SameOff.of hS1).put rfl
      have hh2 : upd H1 h (.ins A.cHolder dh [("listing", .ref li)]) h = some (.ins A.cHolder dh [("listing", .ref li)]) := upd_same
      have hL2 : LsAt A (upd H1 h (.ins A.cHolder dh [("listing", .ref li)])) li dl u it ups rs rows := by
        refine ⟨by rw [upd_ne hlh]; exact hL.l, ?_, ?_, hL.r.mono fun p _ xs e => ?_⟩
        · rw [upd_ne fun z => by have := hL.u; rw [z, hh1] at this; cases this]
          exact hL.u
        · rw [upd_ne fun z => by have := hL.i; rw [z, hh1] at this; cases this]
          exact hL.i
        · rw [upd_ne fun z => by rw [z, hh1] at e; cases e]
          exact e
      generalize upd H1 h (.ins A.cHolder dh [("listing", .ref li)]) = H2 at *
      have hrl := hL2.r.len
      refine ⟨_, rfl, li, _, dl, _, _, rfl, hL2.l, C2, n2, lsF_ups u it, u, _, rfl, .inl (SqL.of hL2.u), _, rfl, li, _, dl, _, _, rfl, hL2.l, C2, n3, lsF_items u it, it, _, rfl, .inl (SqL.of hL2.i), by show 3 ≤ sizeLine; decide, fun p hp => ?_⟩
      have hSp := same_upd (o := .lst [.int 1, .int ((ups.map V.bl).length : Nat), .int ((rs.map V.ref).length : Nat)]) (Same.refl H2) hp
      have hph : p ≠ h := fun z => by rw [z, hh2] at hp; cases hp
      have hpn : H p = none := by
        cases e : H p with
        | none => rfl
        | some o => rw [hoff _ _ hph e] at hp; cases hp
      refine q ups rows hr p li dl u it rs _ (hoff.same hSp) (hSp _ _ hh2) (hL2.same hSp) nu ni nr hpn ?_
      rw [upd_same, List.length_map, List.length_map, hrl]
      rfl
/-! ### what is asked of a list that is held -/
def sp_ask (n : Nat) (g : List Bool → List (List Int) → List Int → List Int → Except Int (List Int)) (K : PySem.W.Frag) (A : Ads) : Sp := fun vs H Q E => ∃ (li dl u it nl wl : Addr) (ups : List Bool) (rs : List Addr) (rows : List (List Int)) (ns W : List Int), vs = [.ref li, .ref nl, .ref wl] ∧
  LsAt A H li dl u it ups rs rows ∧ LsOk ups rows ∧ SqL K H nl (ns.map V.int) ∧ ns.length = n ∧ SqL K H wl (W.map V.int) ∧ W.length < 10000 ∧ Tabs (tabsT A) H ∧
  (∀ e, g ups rows ns W = .error e → RefOut A H E e) ∧ (∀ out, g ups rows ns W = .ok out → ∀ p H', ExtN H H' → Tabs (tabsT A) H' → NewT H p → H' p = some (.lst (out.map V.int)) → out.length ≤ 1000 → Q (.ref p) H')
def withW (ups : List Bool) (W : List Int) (x : List Int) : Except Int (List Int) := if okW ups.length W = true then .ok x else .error (-4)
def g_scores (ups : List Bool) (rows : List (List Int)) (_ W : List Int) : Except Int (List Int) := withW ups W ((rows.length : Int) :: scoresM W rows)
def sp_scores (K : PySem.W.Frag) (A : Ads) : Sp := sp_ask 0 g_scores K A
theorem s10000 : 10000 < sizeLine := by decide
theorem d_scores (T : Tx K mg base A) : Def P w K mg base (L2.CX P w) 5 "scores" ["listing", "numbers", "weights"] (sp_scores K A) := def_of T.t_scores.fn (fun _ _ _ _ _ _ us hl => match us, hl with | [_, _, _], _ => rfl) fun f fd F => by
  have nd := sc_scores.nd
  have d_must_be_weights := d_must_be_weights (P := P) (w := w) T
  have d_scores_of := d_scores_of (P := P) (w := w) T
  refine F.okX sc_scores (fun vs H Q E h => ?_) (fun cdv Ar outer s H vs Q E hr h => ⟨_, (pss_cons (ps_expr (pe_dX d_must_be_weights (hr.mono (by decide)) (takes_of rfl rfl rfl rfl) (pa_cons (pv 0) (pa_cons (pv 2) pa_nil))))
        (pss_cons (ps_set (i := 3) nd rfl (Or.inl rfl) (pe_d d_scores_of (hr.mono (by decide)) (pa_cons (pv 0) (pa_cons (pv 2) pa_nil))))
        (pss_one (ps_ret (pe_op op_cat (pe_lst (pa_cons (pe_callB call_len_seq (by rfl) T.b_len PySem.boot_len (pa_cons (pv 3) pa_nil)) pa_nil)) (pv 3)))))), ?_⟩)
  · obtain ⟨li, dl, u, it, nl, wl, ups, rs, rows, ns, W, rfl, _⟩ := h
    rfl
  · obtain ⟨li, dl, u, it, nl, wl, ups, rs, rows, ns, W, rfl, hL, hO, hN, hn, hW, hz, hT, qE, q⟩ := h
    have s1 := s10000
    have hn16 := hO.n
    refine ⟨_, rfl, _, rfl, li, dl, u, it, wl, ups, rs, rows, W, rfl, hL, hW, by omega, hT, fun hok H1 hS1 => ?_, fun hok => qE (-4) (by unfold g_scores withW; rw [hok]; rfl)⟩
    have q := q ((rows.length : Int) :: scoresM W rows) (by unfold g_scores withW; rw [hok]; rfl)
    refine ⟨_, rfl, _, rfl, li, dl, u, it, wl, ups, rs, rows, W, rfl, hL.same hS1, hO, hS1.seq hW, hok, fun ps H2 hS2 hps hps2 => ?_⟩
    refine ⟨_, rfl, ps, _, rfl, .inl (SqL.of hps2), by show 1 ≤ sizeLine; decide, fun p3 hp3 => ?_⟩
    have hS3 := same_upd (o := .lst [.int (((scoresM W rows).map V.int).length : Nat)]) (Same.refl H2) hp3
    have hp3' : upd H2 p3 (.lst [.int (((scoresM W rows).map V.int).length : Nat)]) p3 = some (.lst [.int (((scoresM W rows).map V.int).length : Nat)]) := upd_same
    generalize upd H2 p3 (.lst [.int (((scoresM W rows).map V.int).length : Nat)]) = H3 at *
    have hsl : (scoresM W rows).length = rows.length := List.length_map ..
    refine ⟨_, rfl, p3, ps, _, _, rfl, rfl, hp3', hS3 _ _ hps2, ?_, fun p4 hp4 => ?_⟩
    · show 1 + ((scoresM W rows).map V.int).length ≤ sizeLine
      rw [List.length_map]
      omega
    · have hS := (hS1.trans hS2).trans hS3
      refine q p4 _ (.of (same_upd' hS hp4)) (hT.ext (same_upd' hS hp4)) (NewT.none (hS.free hp4)) ?_ (by rw [List.length_cons]; omega)
      rw [upd_same, List.length_map, hsl]
      rfl
end
end BwW
end

section
set_option Elab.async false
set_option linter.all false
set_option maxRecDepth 100000
set_option maxHeartbeats 2000000
namespace BwW
open PySem PySem.Spec PyProof.Rows L2 BwK
open LamX (ExtN Tabs TabS)
open VaskyBase (Frac less whole frac)
open Bw (natI okW weighed scoresM scAt inOrder lineOf worthAt bestAtM sharesM)
section
variable {P : Program} {w : World} {K : PySem.W.Frag} {mg : Str → Option Value} {base : Heap} {A : Ads}
theorem len_cat {σ : L2.St} {H : Hp} {Q : VK} {p : Addr} {xs : List Int} {i : Nat} (hσ : σ[i]? = some (some (.ref p))) (hp : H p = some (.lst (xs.map V.int))) (hz : xs.length ≤ 1000)
    (hq : ∀ r H', Same H H' → H r = none → H' r = some (.lst (((xs.length : Int) :: xs).map V.int)) → Q (.ref r) H') :
    tOp rCat (tLst (tCons (tCB (fun xs H Q => ∃ p ys, xs = [.ref p] ∧ (SqL K H p ys ∨ SqT K H p ys) ∧ Q (.int ys.length) H) (tCons (tVar i) tNil)) tNil)) (tVar i) σ H Q := by
  have s1 := s10000
  refine ⟨_, hσ, p, _, rfl, .inl (SqL.of hp), by show 1 ≤ sizeLine; decide, fun p3 hp3 => ?_⟩
  have hS3 := same_upd (o := .lst [.int ((xs.map V.int).length : Nat)]) (Same.refl H) hp3
  refine ⟨_, hσ, p3, p, _, _, rfl, rfl, upd_same, hS3 _ _ hp, ?_, fun p4 hp4 => ?_⟩
  · show 1 + (xs.map V.int).length ≤ sizeLine
    rw [List.length_map]
    omega
  · refine hq p4 _ (same_upd' hS3 hp4) (hS3.free hp4) ?_
    rw [upd_same, List.length_map]
    rfl
theorem at0 {ns : List Int} (h : 0 < ns.length) : atI (ns.map V.int) (0 : Int) = some (.int (ns.getD 0 0)) := atI_nat (j := 0) (scAt_at h)
theorem at1 {ns : List Int} (h : 1 < ns.length) : atI (ns.map V.int) (1 : Int) = some (.int (ns.getD 1 0)) := atI_nat (j := 1) (scAt_at h)
theorem at2 {ns : List Int} (h : 2 < ns.length) : atI (ns.map V.int) (2 : Int) = some (.int (ns.getD 2 0)) := atI_nat (j := 2) (scAt_at h)
def withK (k : Int) (x : Except Int (List Int)) : Except Int (List Int) := if 0 ≤ k ∧ k ≤ 16 then x else .error (-3)
def withI (rows : List (List Int)) (i : Int) (x : Except Int (List Int)) : Except Int (List Int) := if 0 ≤ i ∧ i < (rows.length : Int) then x else .error (-2)
def with2 (ups : List Bool) (m k : Int) (x : Except Int (List Int)) : Except Int (List Int) := if (0 ≤ m ∧ m < (ups.length : Int)) ∧ (0 ≤ k ∧ k < (ups.length : Int)) ∧ m ≠ k then x else .error (-5)
def topL (rows : List (List Int)) (W : List Int) (k : Nat) : List Nat := (inOrder (scAt (scoresM W rows)) (List.range rows.length)).take k
theorem topL_len (rows : List (List Int)) (W : List Int) (k : Nat) : (topL rows W k).length ≤ rows.length := by
  unfold topL
  rw [List.length_take, Bw.inOrder_len, List.length_range]
  omega
def g_top (ups : List Bool) (rows : List (List Int)) (ns W : List Int) : Except Int (List Int) := withK (ns.getD 0 0) (withW ups W (((topL rows W (ns.getD 0 0).toNat).length : Int) :: natI (topL rows W (ns.getD 0 0).toNat)))
def sp_top (K : PySem.W.Frag) (A : Ads) : Sp := sp_ask 1 g_top K A
theorem d_top (T : Tx K mg base A) : Def P w K mg base (L2.CX P w) 5 "top" ["listing", "numbers", "weights"] (sp_top K A) := def_of T.t_top.fn (fun _ _ _ _ _ _ us hl => match us, hl with | [_, _, _], _ => rfl) fun f fd F => by
  have nd := sc_top.nd
  have d_must_be_count := d_must_be_count (P := P) (w := w) T
  have d_must_be_weights := d_must_be_weights (P := P) (w := w) T
  have d_first_in_order := d_first_in_order (P := P) (w := w) T
  refine F.okX sc_top (fun vs H Q E h => ?_) (fun cdv Ar outer s H vs Q E hr h => ⟨_, (pss_cons (ps_expr (pe_dX d_must_be_count (hr.mono (by decide)) (takes_of rfl rfl rfl rfl) (pa_cons (pe_ix ix_list (pv 1) pe_int (fun _ _ => rfl)) pa_nil)))
        (pss_cons (ps_expr (pe_dX d_must_be_weights (hr.mono (by decide)) (takes_of rfl rfl rfl rfl) (pa_cons (pv 0) (pa_cons (pv 2) pa_nil))))
        (pss_cons (ps_set (i := 3) nd rfl (Or.inl rfl) (pe_d d_first_in_order (hr.mono (by decide)) (pa_cons (pv 0) (pa_cons (pv 2) (pa_cons (pe_ix ix_list (pv 1) pe_int (fun _ _ => rfl)) pa_nil)))))
        (pss_one (ps_ret (pe_op op_cat (pe_lst (pa_cons (pe_callB call_len_seq (by rfl) T.b_len PySem.boot_len (pa_cons (pv 3) pa_nil)) pa_nil)) (pv 3))))))), ?_⟩)
  · obtain ⟨li, dl, u, it, nl, wl, ups, rs, rows, ns, W, rfl, _⟩ := h
    rfl
  · obtain ⟨li, dl, u, it, nl, wl, ups, rs, rows, ns, W, rfl, hL, hO, hN, hn, hW, hz, hT, qE, q⟩ := h
    have s1 := s10000
    have hn16 := hO.n
    refine ⟨_, rfl, nl, _, 0, _, rfl, rfl, hN, at0 (by omega), ns.getD 0 0, rfl, hT, fun hk => ?_, fun hk => qE (-3) (if_neg hk)⟩
    refine ⟨_, rfl, _, rfl, li, dl, u, it, wl, ups, rs, rows, W, rfl, hL, hW, by omega, hT, fun hok H1 hS1 => ?_, fun hok => qE (-4) (by unfold g_top withK withW; rw [if_pos hk, hok]; rfl)⟩
    obtain ⟨k, hk'⟩ : ∃ k : Nat, ns.getD 0 0 = (k : Int) := ⟨_, (Int.toNat_of_nonneg hk.1).symm⟩
    have hkt : (ns.getD 0 0).toNat = k := by omega
    have q := q _ (show g_top ups rows ns W = .ok (((topL rows W k).length : Int) :: natI (topL rows W k)) by unfold g_top withK withW; rw [if_pos hk, hok, hkt]; rfl)
    refine ⟨_, rfl, _, rfl, _, rfl, nl, _, 0, _, rfl, rfl, hS1.seq hN, at0 (by omega), li, dl, u, it, wl, ups, rs, rows, W, k, by rw [hk']; rfl, hL.same hS1, hO, hS1.seq hW, hok, hT.ext hS1, fun p H2 e2 t2 n2 h2 => ?_⟩
    have htl := topL_len rows W k
    have hlen : (natI (topL rows W k)).length = (topL rows W k).length := natI_len _
    refine len_cat (K := K) rfl h2 (by rw [natI_len]; show (topL rows W k).length ≤ 1000; omega) fun r H3 hS3 hr h3 => ?_
    refine q r H3 (((ExtN.of hS1).trans e2).trans (.of hS3)) (t2.ext hS3) (NewT.of ((ExtN.of hS1).trans e2) hr) ?_ (by rw [List.length_cons, natI_len]; omega)
    rw [← hlen]
    exact h3
def g_looks (ups : List Bool) (rows : List (List Int)) (ns W : List Int) : Except Int (List Int) := withK (ns.getD 0 0) (withW ups W (lookM rows W (ns.getD 0 0).toNat))
def sp_looks (K : PySem.W.Frag) (A : Ads) : Sp := sp_ask 1 g_looks K A
theorem lookM_len {rows : List (List Int)} {W : List Int} {k : Nat} (h : rows.length ≤ 16) : (lookM rows W k).length ≤ 1000 := by
  unfold lookM
  rw [List.length_append, natI_len]
  have h1 := (Bw.seenM_nodup rows W (Bw.depM rows W k)).length_le_of_subset (l₂ := List.range rows.length) fun j hj => List.mem_range.mpr (Bw.seenM_lt hj)
  rw [List.length_range] at h1
  unfold Bw.firstM
  rw [List.length_take, Bw.inOrder_len]
  show 4 + _ ≤ 1000
  omega
theorem d_looks (T : Tx K mg base A) : Def P w K mg base (L2.CX P w) 7 "looks" ["listing", "numbers", "weights"] (sp_looks K A) := def_of T.t_looks.fn (fun _ _ _ _ _ _ us hl => match us, hl with | [_, _, _], _ => rfl) fun f fd F => by
  have nd := sc_looks.nd
  have d_must_be_count := d_must_be_count (P := P) (w := w) T
  have d_must_be_weights := d_must_be_weights (P := P) (w := w) T
  have d_looked := d_looked (P := P) (w := w) T
  refine F.okX sc_looks (fun vs H Q E h => ?_) (fun cdv Ar outer s H vs Q E hr h => ⟨_, (pss_cons (ps_expr (pe_dX d_must_be_count (hr.mono (by decide)) (takes_of rfl rfl rfl rfl) (pa_cons (pe_ix ix_list (pv 1) pe_int (fun _ _ => rfl)) pa_nil)))
        (pss_cons (ps_expr (pe_dX d_must_be_weights (hr.mono (by decide)) (takes_of rfl rfl rfl rfl) (pa_cons (pv 0) (pa_cons (pv 2) pa_nil))))
        (pss_one (ps_ret (pe_d d_looked (hr.mono (by decide)) (pa_cons (pv 0) (pa_cons (pv 2) (pa_cons (pe_ix ix_list (pv 1) pe_int (fun _ _ => rfl)) pa_nil)))))))), ?_⟩)
  · obtain ⟨li, dl, u, it, nl, wl, ups, rs, rows, ns, W, rfl, _⟩ := h
    rfl
  · obtain ⟨li, dl, u, it, nl, wl, ups, rs, rows, ns, W, rfl, hL, hO, hN, hn, hW, hz, hT, qE, q⟩ := h
    have s1 := s10000
    have hn16 := hO.n
    refine ⟨_, rfl, nl, _, 0, _, rfl, rfl, hN, at0 (by omega), ns.getD 0 0, rfl, hT, fun hk => ?_, fun hk => qE (-3) (if_neg hk)⟩
    refine ⟨_, rfl, _, rfl, li, dl, u, it, wl, ups, rs, rows, W, rfl, hL, hW, by omega, hT, fun hok H1 hS1 => ?_, fun hok => qE (-4) (by unfold g_looks withK withW; rw [if_pos hk, hok]; rfl)⟩
    obtain ⟨k, hk'⟩ : ∃ k : Nat, ns.getD 0 0 = (k : Int) := ⟨_, (Int.toNat_of_nonneg hk.1).symm⟩
    have hkt : (ns.getD 0 0).toNat = k := by omega
    have q := q _ (show g_looks ups rows ns W = .ok (lookM rows W k) by unfold g_looks withK withW; rw [if_pos hk, hok, hkt]; rfl)
    exact ⟨_, rfl, _, rfl, _, rfl, nl, _, 0, _, rfl, rfl, hS1.seq hN, at0 (by omega), li, dl, u, it, wl, ups, rs, rows, W, k, by rw [hk']; rfl, hL.same hS1, hO, hS1.seq hW, hok, hT.ext hS1, fun p H2 e2 t2 n2 h2 => q p H2 ((ExtN.of hS1).trans e2) t2 (n2.back (.of hS1)) h2 (lookM_len hn16)⟩
def g_rank (ups : List Bool) (rows : List (List Int)) (ns W : List Int) : Except Int (List Int) := withI rows (ns.getD 0 0) (withW ups W [1, 1 + (((scoresM W rows).filter fun u => decide (scAt (scoresM W rows) (ns.getD 0 0).toNat < u)).length : Int), (((scoresM W rows).filter fun u => u == scAt (scoresM W rows) (ns.getD 0 0).toNat).length : Int)])
def sp_rank (K : PySem.W.Frag) (A : Ads) : Sp := sp_ask 1 g_rank K A
theorem d_rank (T : Tx K mg base A) : Def P w K mg base (L2.CX P w) 5 "rank" ["listing", "numbers", "weights"] (sp_rank K A) := def_of T.t_rank.fn (fun _ _ _ _ _ _ us hl => match us, hl with | [_, _, _], _ => rfl) fun f fd F => by
  have nd := sc_rank.nd
  have d_must_be_item := d_must_be_item (P := P) (w := w) T
  have d_must_be_weights := d_must_be_weights (P := P) (w := w) T
  have d_scores_of := d_scores_of (P := P) (w := w) T
  have d_count_alike := d_count_alike (P := P) (w := w) T
  have d_count_greater := d_count_greater (P := P) (w := w) T
  refine F.okX sc_rank (fun vs H Q E h => ?_) (fun cdv Ar outer s H vs Q E hr h => ⟨_, (pss_cons (ps_expr (pe_dX d_must_be_item (hr.mono (by decide)) (takes_of rfl rfl rfl rfl) (pa_cons (pv 0) (pa_cons (pe_ix ix_list (pv 1) pe_int (fun _ _ => rfl)) pa_nil))))
        (pss_cons (ps_expr (pe_dX d_must_be_weights (hr.mono (by decide)) (takes_of rfl rfl rfl rfl) (pa_cons (pv 0) (pa_cons (pv 2) pa_nil))))
        (pss_cons (ps_set (i := 3) nd rfl (Or.inl rfl) (pe_d d_scores_of (hr.mono (by decide)) (pa_cons (pv 0) (pa_cons (pv 2) pa_nil))))
        (pss_one (ps_ret (pe_lst (pa_cons pe_int (pa_cons (pe_op op_add pe_int (pe_d d_count_greater (hr.mono (by decide)) (pa_cons (pv 3) (pa_cons (pe_ix ix_list (pv 1) pe_int (fun _ _ => rfl)) pa_nil)))) (pa_cons (pe_d d_count_alike (hr.mono (by decide)) (pa_cons (pv 3) (pa_cons (pe_ix ix_list (pv 1) pe_int (fun _ _ => rfl)) pa_nil))) pa_nil))))))))), ?_⟩)
  · obtain ⟨li, dl, u, it, nl, wl, ups, rs, rows, ns, W, rfl, _⟩ := h
    rfl
  · obtain ⟨li, dl, u, it, nl, wl, ups, rs, rows, ns, W, rfl, hL, hO, hN, hn, hW, hz, hT, qE, q⟩ := h
    have s1 := s10000
    have hn16 := hO.n
    refine ⟨_, rfl, _, rfl, nl, _, 0, _, rfl, rfl, hN, at0 (by omega), li, dl, u, it, ups, rs, rows, ns.getD 0 0, rfl, hL, hT, fun hk => ?_, fun hk => qE (-2) (if_neg hk)⟩
    refine ⟨_, rfl, _, rfl, li, dl, u, it, wl, ups, rs, rows, W, rfl, hL, hW, by omega, hT, fun hok H1 hS1 => ?_, fun hok => qE (-4) (by unfold g_rank withI withW; rw [if_pos hk, hok]; rfl)⟩
    obtain ⟨i, hi'⟩ : ∃ k : Nat, ns.getD 0 0 = (k : Int) := ⟨_, (Int.toNat_of_nonneg hk.1).symm⟩
    have hit : (ns.getD 0 0).toNat = i := by omega
    have hil : i < rows.length := by omega
    have q := q _ (show g_rank ups rows ns W = .ok [1, 1 + (((scoresM W rows).filter fun u => decide (scAt (scoresM W rows) i < u)).length : Int), (((scoresM W rows).filter fun u => u == scAt (scoresM W rows) i).length : Int)] by unfold g_rank withI withW; rw [if_pos hk, hok, hit]; rfl)
    have hsl : (scoresM W rows).length = rows.length := List.length_map ..
    refine ⟨_, rfl, _, rfl, li, dl, u, it, wl, ups, rs, rows, W, rfl, hL.same hS1, hO, hS1.seq hW, hok, fun ps H2 hS2 hps hps2 => ?_⟩
    have hS12 := hS1.trans hS2
    refine ⟨_, rfl, _, rfl, nl, _, 0, _, rfl, rfl, hS12.seq hN, at0 (by omega), ps, scoresM W rows, i, by rw [hi']; rfl, SqL.of hps2, by omega, by omega, fun H3 hS3 => ?_⟩
    have hS13 := hS12.trans hS3
    refine ⟨1, _, rfl, rfl, _, rfl, _, rfl, nl, _, 0, _, rfl, rfl, hS13.seq hN, at0 (by omega), ps, scoresM W rows, i, by rw [hi']; rfl, SqL.of (hS3 _ _ hps2), by omega, by omega, fun H4 hS4 => ⟨by show 3 ≤ sizeLine; decide, fun p hp => ?_⟩⟩
    have hS14 := hS13.trans hS4
    exact q p _ (.of (same_upd' hS14 hp)) (hT.ext (same_upd' hS14 hp)) (NewT.none (hS14.free hp)) upd_same (by show 3 ≤ 1000; decide)
end
end BwW
end

section
set_option Elab.async false
set_option linter.all false
set_option maxRecDepth 100000
set_option maxHeartbeats 2000000
namespace BwW
open PySem PySem.Spec PyProof.Rows L2 BwK
open LamX (ExtN Tabs TabS)
open VaskyBase (Frac less whole frac)
open Bw (natI okW weighed scoresM scAt inOrder lineOf worthAt bestAtM sharesM)
section
variable {P : Program} {w : World} {K : PySem.W.Frag} {mg : Str → Option Value} {base : Heap} {A : Ads}
theorem two_ok {ups : List Bool} {rows : List (List Int)} (hO : LsOk ups rows) {m k : Nat} (hm : m < ups.length) (hk : k < ups.length) : LnOk ((Vaskyc.twoOf rows m k).map lineOf) := by
  have hn16 := hO.n
  refine ⟨by unfold Vaskyc.twoOf; rw [List.length_map, List.length_map]; exact hn16, fun x hx => ?_⟩
  obtain ⟨y, hy, rfl⟩ := List.mem_map.mp hx
  unfold Vaskyc.twoOf at hy
  obtain ⟨r, hr, rfl⟩ := List.mem_map.mp hy
  obtain ⟨h1, h2⟩ := hO.r r hr
  have a1 := h2 (r.getD m 0) (List.mem_of_getElem? (getD_at (d := 0) (by omega)))
  have a2 := h2 (r.getD k 0) (List.mem_of_getElem? (getD_at (d := 0) (by omega)))
  show (r.getD k 0).natAbs ≤ 1000 ∧ (r.getD m 0 - r.getD k 0).natAbs ≤ 2000
  omega
def pcRow (p : Vaskyc.Piece) : List Int := [(p.i : Int), p.from_.num, (p.from_.den : Int), p.to.num, (p.to.den : Int)]
theorem flat_len : ∀ l : List Vaskyc.Piece, (l.flatMap pcRow).length = 5 * l.length
  | [] => rfl
  | x :: r => by
    rw [List.flatMap_cons, List.length_append, flat_len r, List.length_cons]
    show 5 + _ = _
    omega
def g_between (ups : List Bool) (rows : List (List Int)) (ns _ : List Int) : Except Int (List Int) := with2 ups (ns.getD 0 0) (ns.getD 1 0) (.ok (((Vaskyc.pieces (Vaskyc.twoOf rows (ns.getD 0 0).toNat (ns.getD 1 0).toNat)).length : Int) :: (Vaskyc.pieces (Vaskyc.twoOf rows (ns.getD 0 0).toNat (ns.getD 1 0).toNat)).flatMap pcRow))
def sp_between (K : PySem.W.Frag) (A : Ads) : Sp := sp_ask 2 g_between K A
theorem d_between (T : Tx K mg base A) : Def P w K mg base (L2.CX P w) 7 "between" ["listing", "numbers", "weights"] (sp_between K A) := def_of T.t_between.fn (fun _ _ _ _ _ _ us hl => match us, hl with | [_, _, _], _ => rfl) fun f fd F => by
  have nd := sc_between.nd
  have d_must_be_measures := d_must_be_measures (P := P) (w := w) T
  have d_pieces := d_pieces (P := P) (w := w) T
  have d_lines_of := d_lines_of (P := P) (w := w) T
  refine F.okX sc_between (fun vs H Q E h => ?_) (fun cdv Ar outer s H vs Q E hr h => ⟨_, (pss_cons (ps_expr (pe_dX d_must_be_measures (hr.mono (by decide)) (takes_of rfl rfl rfl rfl) (pa_cons (pv 0) (pa_cons (pe_ix ix_list (pv 1) pe_int (fun _ _ => rfl)) (pa_cons (pe_ix ix_list (pv 1) pe_int (fun _ _ => rfl)) pa_nil)))))
        (pss_cons (ps_set (i := 3) nd rfl (Or.inl rfl) (pe_d d_pieces (hr.mono (by decide)) (pa_cons (pe_d d_lines_of (hr.mono (by decide)) (pa_cons (pv 0) (pa_cons (pe_ix ix_list (pv 1) pe_int (fun _ _ => rfl)) (pa_cons (pe_ix ix_list (pv 1) pe_int (fun _ _ => rfl)) pa_nil)))) pa_nil)))
        (pss_cons (ps_set (i := 4) nd rfl (Or.inl rfl) (pe_lst (pa_cons (pe_callB call_len_seq (by rfl) T.b_len PySem.boot_len (pa_cons (pv 3) pa_nil)) pa_nil)))
        (pss_cons (ps_for (passes_of rfl) rfl (pi_list (pv 3)) (pg_tup rfl (pgs_cons (pg_name (i := 5) nd rfl (Or.inl rfl)) (pgs_cons (pg_name (i := 6) nd rfl (Or.inl rfl)) (pgs_cons (pg_name (i := 7) nd rfl (Or.inl rfl)) pgs_nil)))) (pss_one (ps_expr (pe_bm PySem.F.plainAttrs_list PySem.F.slot_list_extend PySem.F.type_list_extend mt_extend (pv 4) (pa_cons (pe_lst (pa_cons (pv 5) (pa_cons (pe_ix ix_tup (pv 6) pe_int (fun _ _ => rfl)) (pa_cons (pe_ix ix_tup (pv 6) pe_int (fun _ _ => rfl)) (pa_cons (pe_ix ix_tup (pv 7) pe_int (fun _ _ => rfl)) (pa_cons (pe_ix ix_tup (pv 7) pe_int (fun _ _ => rfl)) pa_nil)))))) pa_nil)))))
        (pss_one (ps_ret (pv 4))))))), ?_⟩)
  · obtain ⟨li, dl, u, it, nl, wl, ups, rs, rows, ns, W, rfl, _⟩ := h
    rfl
  · obtain ⟨li, dl, u, it, nl, wl, ups, rs, rows, ns, W, rfl, hL, hO, hN, hn, hW, hz, hT, qE, q⟩ := h
    have s1 := s10000
    refine ⟨_, rfl, _, rfl, nl, _, 0, _, rfl, rfl, hN, at0 (by omega), _, rfl, nl, _, 1, _, rfl, rfl, hN, at1 (by omega), li, dl, u, it, ups, rs, rows, ns.getD 0 0, ns.getD 1 0, rfl, hL, hT, fun hk => ?_, fun hk => qE (-5) (if_neg hk)⟩
    obtain ⟨m, hm'⟩ : ∃ k : Nat, ns.getD 0 0 = (k : Int) := ⟨_, (Int.toNat_of_nonneg hk.1.1).symm⟩
    obtain ⟨k, hk'⟩ : ∃ k : Nat, ns.getD 1 0 = (k : Int) := ⟨_, (Int.toNat_of_nonneg hk.2.1.1).symm⟩
    have hmt : (ns.getD 0 0).toNat = m := by omega
    have hkt : (ns.getD 1 0).toNat = k := by omega
    have hmu : m < ups.length := by omega
    have hku : k < ups.length := by omega
    have q := q _ (show g_between ups rows ns W = .ok (((Vaskyc.pieces (Vaskyc.twoOf rows m k)).length : Int) :: (Vaskyc.pieces (Vaskyc.twoOf rows m k)).flatMap pcRow) by unfold g_between with2; rw [if_pos hk, hmt, hkt])
    refine ⟨_, rfl, _, rfl, nl, _, 0, _, rfl, rfl, hN, at0 (by omega), _, rfl, nl, _, 1, _, rfl, rfl, hN, at1 (by omega), li, dl, u, it, ups, rs, rows, m, k, by rw [hm', hk']; rfl, hL, hO, hmu, hku, fun pl H1 hS1 hpl => ?_⟩
    refine ⟨pl, Vaskyc.twoOf rows m k, rfl, hpl, two_ok hO hmu hku, hT.ext hS1, fun pp ps H2 e2 t2 hpp hps h17 => ?_⟩
    generalize Vaskyc.pieces (Vaskyc.twoOf rows m k) = PS at *
    have hpsl := hps.len
    refine ⟨_, rfl, pp, _, rfl, .inl (SqL.of hpp), by show 1 ≤ sizeLine; decide, fun Fa hF => ?_⟩
    rw [List.length_map, hpsl]
    have hS3 := same_upd (o := .lst [.int (PS.length : Nat)]) (Same.refl H2) hF
    have eH2 : ExtN H H2 := (ExtN.of hS1).trans e2
    refine ⟨_, rfl, pp, rfl, ⟨_, SqL.of (hS3 _ _ hpp)⟩, for_it (walk_list (K := K) (a := pp) (xs := ps.map V.ref)) (fun j σ H' => ∃ y1 y2 y3 : Option V, σ = [some (.ref li), some (.ref nl), some (.ref wl), some (.ref pp), some (.ref Fa), y1, y2, y3] ∧ Same H2 H' ∧ H' Fa = some (.lst (((PS.length : Int) :: (PS.take j).flatMap pcRow).map V.int)))
      ⟨none, none, none, rfl, hS3, upd_same⟩ (fun j σ H' _ ⟨_, _, _, _, s, _⟩ => SqL.of (s _ _ hpp)) ?_ ?_⟩
    · rintro j x σ H' H'' hj ⟨y1, y2, y3, rfl, hS, hFv⟩ ⟨rfl, hx⟩
      obtain ⟨t, ht, rfl⟩ := map_at hx
      rw [List.length_map] at hj
      obtain ⟨c, hc, sa, ea, h1, h2, h3⟩ := hps.get ht
      have h1' := hS _ _ h1
      have h2' := sqT_ext (K := K) (.of hS) h2
      have h3' := sqT_ext (K := K) (.of hS) h3
      refine ⟨t, _, rfl, SqT.of h1', rfl, _, _, rfl, _, _, rfl, _, _, rfl, rfl, ?_⟩
      refine ⟨_, rfl, .inl ⟨rfl, _, SqL.of hFv⟩, _, rfl, _, rfl, sa, _, 0, _, rfl, rfl, h2', rfl, _, rfl, sa, _, 1, _, rfl, rfl, h2', rfl, _, rfl, ea, _, 0, _, rfl, rfl, h3', rfl, _, rfl, ea, _, 1, _, rfl, rfl, h3', rfl, by show 5 ≤ sizeLine; decide, fun p5 hp5 => ?_⟩
      have hS5 := same_upd (o := .lst ((pcRow c).map V.int)) (Same.refl H'') hp5
      have hp5' : upd H'' p5 (.lst ((pcRow c).map V.int)) p5 = some (.lst ((pcRow c).map V.int)) := upd_same
      have hle : (PS.take j).length ≤ 17 := by rw [List.length_take]; omega
      have hfl := flat_len (PS.take j)
      refine ⟨Fa, p5, _, _, rfl, rfl, hS5 _ _ hFv, hp5', ?_, _, _, _, rfl, ?_, ?_⟩
      · rw [List.length_map, List.length_cons, hfl, List.length_map]
        show _ + 5 ≤ sizeLine
        omega
      · exact same_upd (fun b o e => hS5 b o (hS b o e)) hF
      · rw [upd_same, take_more hc, List.flatMap_append, List.map_cons, List.map_cons, List.map_append]
        simp only [List.flatMap_cons, List.flatMap_nil, List.append_nil]
        rfl
    · rintro σ H' ⟨y1, y2, y3, rfl, hS, hFv⟩
      rw [List.length_map, hpsl, List.take_length] at hFv
      have hfl := flat_len PS
      exact ⟨_, rfl, q Fa H' (eH2.trans (.of hS)) (t2.ext hS) (NewT.of eH2 hF) hFv (by rw [List.length_cons, hfl]; omega)⟩
def withS (p d : Int) (x : Except Int (List Int)) : Except Int (List Int) := if (1 ≤ d ∧ d ≤ 1000) ∧ (0 ≤ p ∧ p ≤ d) then x else .error (-6)
def bestL (rows : List (List Int)) (m k : Nat) (p d : Int) : List Nat := bestAtM ((Vaskyc.twoOf rows m k).map lineOf) p d
def g_best_for (ups : List Bool) (rows : List (List Int)) (ns _ : List Int) : Except Int (List Int) := with2 ups (ns.getD 0 0) (ns.getD 1 0) (withS (ns.getD 2 0) (ns.getD 3 0) (.ok (((bestL rows (ns.getD 0 0).toNat (ns.getD 1 0).toNat (ns.getD 2 0) (ns.getD 3 0)).length : Int) :: natI (bestL rows (ns.getD 0 0).toNat (ns.getD 1 0).toNat (ns.getD 2 0) (ns.getD 3 0)))))
def sp_best_for (K : PySem.W.Frag) (A : Ads) : Sp := sp_ask 4 g_best_for K A
theorem d_best_for (T : Tx K mg base A) : Def P w K mg base (L2.CX P w) 7 "best_for" ["listing", "numbers", "weights"] (sp_best_for K A) := def_of T.t_best_for.fn (fun _ _ _ _ _ _ us hl => match us, hl with | [_, _, _], _ => rfl) fun f fd F => by
  have nd := sc_best_for.nd
  have d_must_be_measures := d_must_be_measures (P := P) (w := w) T
  have d_must_be := d_must_be (P := P) (w := w) T
  have d_best_at := d_best_at (P := P) (w := w) T
  have d_lines_of := d_lines_of (P := P) (w := w) T
  refine F.okX sc_best_for (fun vs H Q E h => ?_) (fun cdv Ar outer s H vs Q E hr h => ⟨_, (pss_cons (ps_asg (pv 1) (pg_unl rfl (pgs_cons (pg_name (i := 3) nd rfl (Or.inl rfl)) (pgs_cons (pg_name (i := 4) nd rfl (Or.inl rfl)) (pgs_cons (pg_name (i := 5) nd rfl (Or.inl rfl)) (pgs_cons (pg_name (i := 6) nd rfl (Or.inl rfl)) pgs_nil))))))
        (pss_cons (ps_expr (pe_dX d_must_be_measures (hr.mono (by decide)) (takes_of rfl rfl rfl rfl) (pa_cons (pv 0) (pa_cons (pv 3) (pa_cons (pv 4) pa_nil)))))
        (pss_cons (ps_expr (pe_dX d_must_be (hr.mono (by decide)) (takes_of rfl rfl rfl rfl) (pa_cons (pe_and (pe_chain op_le op_le pe_int (pv 6) (pe_gi T.g_MOST_BELOW)) (pe_one (pe_chain op_le op_le pe_int (pv 5) (pv 6)))) (pa_cons (pe_gi T.g_NO_SHARE) pa_nil))))
        (pss_cons (ps_set (i := 7) nd rfl (Or.inl rfl) (pe_d d_best_at (hr.mono (by decide)) (pa_cons (pe_d d_lines_of (hr.mono (by decide)) (pa_cons (pv 0) (pa_cons (pv 3) (pa_cons (pv 4) pa_nil)))) (pa_cons (pv 5) (pa_cons (pv 6) pa_nil)))))
        (pss_one (ps_ret (pe_op op_cat (pe_lst (pa_cons (pe_callB call_len_seq (by rfl) T.b_len PySem.boot_len (pa_cons (pv 7) pa_nil)) pa_nil)) (pv 7)))))))), ?_⟩)
  · obtain ⟨li, dl, u, it, nl, wl, ups, rs, rows, ns, W, rfl, _⟩ := h
    rfl
  · obtain ⟨li, dl, u, it, nl, wl, ups, rs, rows, ns, W, rfl, hL, hO, hN, hn, hW, hz, hT, qE, q⟩ := h
    have s1 := s10000
    obtain ⟨m0, k0, p, d, rfl⟩ : ∃ a b c e, ns = [a, b, c, e] := by
      match ns, hn with
      | [a, b, c, e], _ => exact ⟨a, b, c, e, rfl⟩
    refine ⟨_, rfl, nl, _, rfl, hN, rfl, _, _, rfl, _, _, rfl, _, _, rfl, _, _, rfl, rfl, ?_⟩
    refine ⟨_, rfl, _, rfl, _, rfl, li, dl, u, it, ups, rs, rows, m0, k0, rfl, hL, hT, fun hk => ?_, fun hk => qE (-5) (if_neg hk)⟩
    obtain ⟨m, rfl⟩ : ∃ k : Nat, m0 = (k : Int) := ⟨_, (Int.toNat_of_nonneg hk.1.1).symm⟩
    obtain ⟨k, rfl⟩ : ∃ j : Nat, k0 = (j : Int) := ⟨_, (Int.toNat_of_nonneg hk.2.1.1).symm⟩
    have hmu : m < ups.length := by omega
    have hku : k < ups.length := by omega
    have hg : g_best_for ups rows [(m : Int), (k : Int), p, d] W = withS p d (.ok (((bestL rows m k p d).length : Int) :: natI (bestL rows m k p d))) := by
      unfold g_best_for with2
      exact if_pos hk
    have bad : ¬ ((1 ≤ d ∧ d ≤ 1000) ∧ (0 ≤ p ∧ p ≤ d)) → RefOut A H E (-6) := fun z => qE (-6) (by rw [hg]; unfold withS; rw [if_neg z])
    have fin : (1 ≤ d ∧ d ≤ 1000) ∧ (0 ≤ p ∧ p ≤ d) → ∀ r H', ExtN H H' → Tabs (tabsT A) H' → NewT H r → H' r = some (.lst ((((bestL rows m k p d).length : Int) :: natI (bestL rows m k p d)).map V.int)) → (bestL rows m k p d).length ≤ 16 → Q (.ref r) H' := fun z r H' a b c e f => q _ (by rw [hg]; unfold withS; rw [if_pos z]) r H' a b c e (by rw [List.length_cons, natI_len]; omega)
    refine ⟨_, rfl, 1, d, rfl, rfl, _, rfl, ite2 (fun h1 => ⟨_, _, rfl, rfl, _, rfl, ite2 (fun h2 => ⟨_, rfl, 0, p, rfl, rfl, _, rfl, ite2 (fun h3 => ⟨_, rfl, _, _, rfl, rfl, _, -6, rfl, hT, fun z => ?_, fun z => bad fun hs => absurd hs.2.2 (of_decide_eq_false z)⟩) fun h3 => ⟨false, -6, rfl, hT, (fun z => nomatch z), fun _ => bad fun hs => h3 (decide_eq_true hs.2.1)⟩⟩) fun h2 => ⟨false, -6, rfl, hT, (fun z => nomatch z), fun _ => bad fun hs => h2 (decide_eq_true hs.1.2)⟩⟩) fun h1 => ⟨_, rfl, iteF ⟨false, -6, rfl, hT, (fun z => nomatch z), fun _ => bad fun hs => h1 (decide_eq_true hs.1.1)⟩⟩⟩
    · have hs : (1 ≤ d ∧ d ≤ 1000) ∧ (0 ≤ p ∧ p ≤ d) := ⟨⟨of_decide_eq_true h1, of_decide_eq_true h2⟩, of_decide_eq_true h3, of_decide_eq_true z⟩
      refine ⟨_, rfl, _, rfl, _, rfl, li, dl, u, it, ups, rs, rows, m, k, rfl, hL, hO, hmu, hku, fun pl H1 hS1 hpl => ?_⟩
      have hl16 := (two_ok hO hmu hku).1
      refine ⟨_, rfl, _, rfl, pl, _, p, d, rfl, hpl, hl16, by omega, by omega, fun t H2 hS2 ht h16 => ?_⟩
      have hS12 := hS1.trans hS2
      refine len_cat (K := K) rfl ht (by rw [natI_len]; omega) fun r H3 hS3 hr h3 => ?_
      have hS13 := hS12.trans hS3
      refine fin hs r H3 (.of hS13) (hT.ext hS13) (NewT.none (hS12.free hr)) ?_ h16
      have hlen : (natI (bestL rows m k p d)).length = (bestL rows m k p d).length := natI_len _
      rw [← hlen]
      exact h3
def sharesL (e : Option (Frac × Frac)) : List Int := match e with
  | none => [0]
  | some e => [1, e.1.num, (e.1.den : Int), e.2.num, (e.2.den : Int)]
def g_shares (ups : List Bool) (rows : List (List Int)) (ns _ : List Int) : Except Int (List Int) := withI rows (ns.getD 0 0) (with2 ups (ns.getD 1 0) (ns.getD 2 0) (.ok (sharesL (sharesM ((Vaskyc.twoOf rows (ns.getD 1 0).toNat (ns.getD 2 0).toNat).map lineOf) (ns.getD 0 0).toNat))))
def sp_shares (K : PySem.W.Frag) (A : Ads) : Sp := sp_ask 3 g_shares K A
theorem d_shares (T : Tx K mg base A) : Def P w K mg base (L2.CX P w) 6 "shares" ["listing", "numbers", "weights"] (sp_shares K A) := def_of T.t_shares.fn (fun _ _ _ _ _ _ us hl => match us, hl with | [_, _, _], _ => rfl) fun f fd F => by
  have nd := sc_shares.nd
  have d_must_be_item := d_must_be_item (P := P) (w := w) T
  have d_must_be_measures := d_must_be_measures (P := P) (w := w) T
  have d_shares_of := d_shares_of (P := P) (w := w) T
  have d_lines_of := d_lines_of (P := P) (w := w) T
  refine F.okX sc_shares (fun vs H Q E h => ?_) (fun cdv Ar outer s H vs Q E hr h => ⟨_, (pss_cons (ps_expr (pe_dX d_must_be_item (hr.mono (by decide)) (takes_of rfl rfl rfl rfl) (pa_cons (pv 0) (pa_cons (pe_ix ix_list (pv 1) pe_int (fun _ _ => rfl)) pa_nil))))
        (pss_cons (ps_expr (pe_dX d_must_be_measures (hr.mono (by decide)) (takes_of rfl rfl rfl rfl) (pa_cons (pv 0) (pa_cons (pe_ix ix_list (pv 1) pe_int (fun _ _ => rfl)) (pa_cons (pe_ix ix_list (pv 1) pe_int (fun _ _ => rfl)) pa_nil)))))
        (pss_cons (ps_set (i := 3) nd rfl (Or.inl rfl) (pe_d d_shares_of (hr.mono (by decide)) (pa_cons (pe_d d_lines_of (hr.mono (by decide)) (pa_cons (pv 0) (pa_cons (pe_ix ix_list (pv 1) pe_int (fun _ _ => rfl)) (pa_cons (pe_ix ix_list (pv 1) pe_int (fun _ _ => rfl)) pa_nil)))) (pa_cons (pe_ix ix_list (pv 1) pe_int (fun _ _ => rfl)) pa_nil))))
        (pss_cons (ps_if (pt_cmpR op_isN (pv 3) pe_non (nomark _)) (pss_one (ps_ret (pe_lst (pa_cons pe_int pa_nil)))) pss_nil)
        (pss_one (ps_ret (pe_lst (pa_cons pe_int (pa_cons (pe_ix ix_tup (pe_ix ix_tup (pv 3) pe_int (fun _ _ => rfl)) pe_int (fun _ _ => rfl)) (pa_cons (pe_ix ix_tup (pe_ix ix_tup (pv 3) pe_int (fun _ _ => rfl)) pe_int (fun _ _ => rfl)) (pa_cons (pe_ix ix_tup (pe_ix ix_tup (pv 3) pe_int (fun _ _ => rfl)) pe_int (fun _ _ => rfl)) (pa_cons (pe_ix ix_tup (pe_ix ix_tup (pv 3) pe_int (fun _ _ => rfl)) pe_int (fun _ _ => rfl)) pa_nil)))))))))))), ?_⟩)
  · obtain ⟨li, dl, u, it, nl, wl, ups, rs, rows, ns, W, rfl, _⟩ := h
    rfl
  · obtain ⟨li, dl, u, it, nl, wl, ups, rs, rows, ns, W, rfl, hL, hO, hN, hn, hW, hz, hT, qE, q⟩ := h
    have s1 := s10000
    refine ⟨_, rfl, _, rfl, nl, _, 0, _, rfl, rfl, hN, at0 (by omega), li, dl, u, it, ups, rs, rows, ns.getD 0 0, rfl, hL, hT, fun hi => ?_, fun hk => qE (-2) (if_neg hk)⟩
    refine ⟨_, rfl, _, rfl, nl, _, 1, _, rfl, rfl, hN, at1 (by omega), _, rfl, nl, _, 2, _, rfl, rfl, hN, at2 (by omega), li, dl, u, it, ups, rs, rows, ns.getD 1 0, ns.getD 2 0, rfl, hL, hT, fun hk => ?_, fun hk => qE (-5) (by unfold g_shares withI with2; rw [if_pos hi, if_neg hk])⟩
    obtain ⟨i, hi'⟩ : ∃ k : Nat, ns.getD 0 0 = (k : Int) := ⟨_, (Int.toNat_of_nonneg hi.1).symm⟩
    obtain ⟨m, hm'⟩ : ∃ k : Nat, ns.getD 1 0 = (k : Int) := ⟨_, (Int.toNat_of_nonneg hk.1.1).symm⟩
    obtain ⟨k, hk'⟩ : ∃ k : Nat, ns.getD 2 0 = (k : Int) := ⟨_, (Int.toNat_of_nonneg hk.2.1.1).symm⟩
    have hit : (ns.getD 0 0).toNat = i := by omega
    have hmt : (ns.getD 1 0).toNat = m := by omega
    have hkt : (ns.getD 2 0).toNat = k := by omega
    have hmu : m < ups.length := by omega
    have hku : k < ups.length := by omega
    have q := q _ (show g_shares ups rows ns W = .ok (sharesL (sharesM ((Vaskyc.twoOf rows m k).map lineOf) i)) by unfold g_shares withI with2; rw [if_pos hi, if_pos hk, hit, hmt, hkt])
    have hil : i < ((Vaskyc.twoOf rows m k).map lineOf).length := by
      unfold Vaskyc.twoOf
      rw [List.length_map, List.length_map]
      omega
    refine ⟨_, rfl, _, rfl, nl, _, 1, _, rfl, rfl, hN, at1 (by omega), _, rfl, nl, _, 2, _, rfl, rfl, hN, at2 (by omega), li, dl, u, it, ups, rs, rows, m, k, by rw [hm', hk']; rfl, hL, hO, hmu, hku, fun pl H1 hS1 hpl => ?_⟩
    refine ⟨_, rfl, nl, _, 0, _, rfl, rfl, hS1.seq hN, at0 (by omega), pl, _, i, by rw [hi']; rfl, hpl, two_ok hO hmu hku, hil, fun v H2 hS2 hen => ?_⟩
    generalize sharesM ((Vaskyc.twoOf rows m k).map lineOf) i = e at *
    have hS12 := hS1.trans hS2
    refine ⟨_, rfl, rfl, _, rfl, ?_⟩
    cases e with
    | none =>
      obtain rfl : v = .non := hen
      refine iteT ⟨by show 1 ≤ sizeLine; decide, fun r hr => ?_⟩
      exact q r _ (.of (same_upd' hS12 hr)) (hT.ext (same_upd' hS12 hr)) (NewT.none (hS12.free hr)) upd_same (by show 1 ≤ 1000; decide)
    | some e =>
      obtain ⟨t, a, b, rfl, h1, h2, h3⟩ := hen
      refine iteF ⟨_, rfl, t, _, 0, _, rfl, rfl, SqT.of h1, rfl, a, _, 0, _, rfl, rfl, h2, rfl, _, rfl, t, _, 0, _, rfl, rfl, SqT.of h1, rfl, a, _, 1, _, rfl, rfl, h2, rfl, _, rfl, t, _, 1, _, rfl, rfl, SqT.of h1, rfl, b, _, 0, _, rfl, rfl, h3, rfl, _, rfl, t, _, 1, _, rfl, rfl, SqT.of h1, rfl, b, _, 1, _, rfl, rfl, h3, rfl, by show 5 ≤ sizeLine; decide, fun r hr => ?_⟩
      exact q r _ (.of (same_upd' hS12 hr)) (hT.ext (same_upd' hS12 hr)) (NewT.none (hS12.free hr)) upd_same (by show 5 ≤ 1000; decide)
end
end BwW
end

section
set_option Elab.async false
set_option linter.all false
set_option maxRecDepth 100000
set_option maxHeartbeats 2000000
namespace BwW
open PySem PySem.Spec PyProof.Rows L2 BwK
open LamX (ExtN Tabs TabS)
section
variable {P : Program} {w : World} {K : PySem.W.Frag} {mg : Str → Option Value} {base : Heap} {A : Ads}
/-! ### a call of what a name holds -/
def tLocX (P : Program) (w : World) (K : PySem.W.Frag) (mg : Str → Option Value) (base : Heap) (k i : Nat) (E : XK) (t : TA) : TE := fun σ H Q => ∃ (f : Addr) (fd : FuncData) (ps : List Str) (sp : Sp), σ[i]? = some (some (.ref f)) ∧ FnOk P w K mg base (L2.CX P w) k f fd ps sp ∧ PySem.W.keepIn K (.ref f) = true ∧ Binds K fd ps [] ∧
  t σ H fun vs H1 => sp (vs ++ []) H1 Q E
theorem pe_locX {X : Cx} {i k : Nat} {x : Str} {e : Expr} {es : List Expr} {t : TA} {E : XK} {p pos : Pos} (tk : Takes X (fun cls d _ H => E cls d H)) (hr : Room k X.A) (hN : X.N[i]? = some x) (hv : Vis X.env.scope x) (ha : PA X (e :: es) t)
    (hdb : (x == ("__debug__" : Str)) = false := by decide) (hcd : (x == ("__classdict__" : Str)) = false := by decide)
    (he : starEach (e :: es) X.env = (false, eval e X.env) :: starEach es X.env := by rfl) (hpl : (backTo pos (starEach es X.env)).any (·.1) = false := by rfl) :
    PE X (.Call (.Name x p) (e :: es) [] pos) (tLocX X.prog X.w X.K X.mg X.base k i E t) := by
  refine ⟨fun pins s σ H Q I h => ?_⟩
  obtain ⟨f, fd, ps, sp, hs, F, hk, hb, ht⟩ := h
  exact (pe_callL (i := i) (f := f) (sp := sp) (dvs := []) (E := E) F hr hN hv hk hb .nil (passes_call tk fun _ _ _ _ z => z) ha hdb hcd he hpl).run pins s σ H Q I ⟨hs, ht⟩
theorem def_at {CX : CXT} {k : Nat} {x : Str} {ps : List Str} {sp : Sp} {f0 : Addr} (D : Def P w K mg base CX k x ps sp) (hm : mg x = some (.ref f0)) : ∃ fd, FnOk P w K mg base CX k f0 fd ps sp ∧ PySem.W.keepIn K (.ref f0) = true ∧ Binds K fd ps [] := by
  obtain ⟨f, fd, F, hm', hk, hb⟩ := D
  rw [hm] at hm'
  obtain rfl : f0 = f := by injection hm' with h; injection h
  exact ⟨fd, F, hk, hb⟩
/-! ### the calls, plainly -/
abbrev St0 := Option (List Bool × List (List Int))
def arW (w : Int) : Nat := if w = 0 ∨ w = 1 then 0 else if w = 5 then 2 else if w = 6 then 4 else if w = 7 then 3 else 1
def gW (w : Int) : List Bool → List (List Int) → List Int → List Int → Except Int (List Int) := if w = 1 then g_scores else if w = 2 then g_top else if w = 3 then g_looks else if w = 4 then g_rank else if w = 5 then g_between else if w = 6 then g_best_for else g_shares
def gAsked (st : St0) (w : Int) (ns W : List Int) : Except Int (List Int) := match st with
  | none => .error (-1)
  | some s => gW w s.1 s.2 ns W
def stOf (st : St0) (w : Int) (W : List Int) : St0 := if w = 0 then (match readB (VaskycNeutral.bytesOf W) with
  | .error _ => st
  | .ok x => some x) else st
def outOf (st : St0) (w : Int) (ns W : List Int) : List Int := if w = 0 then (match readB (VaskycNeutral.bytesOf W) with
  | .error f => [0, (f.code : Int), (f.place : Int)]
  | .ok x => [1, (x.1.length : Int), (x.2.length : Int)]) else (match gAsked st w ns W with
  | .error e => [e]
  | .ok out => out)
theorem _root_.BwW.TopFnA.hm {st : Stmt} {x : Str} {f : Addr} (h : TopFnA K mg x st f) : mg x = some (.ref f) := by
  obtain ⟨_, _, h⟩ := h
  exact h
theorem asking (T : Tx K mg base A) {word : Int} (h1 : 1 ≤ word) (h7 : word ≤ 7) : ∃ (f : Addr) (fd : FuncData) (ps : List Str), askF A word = some (.ref f) ∧ FnOk P w K mg base (L2.CX P w) 7 f fd ps (sp_ask (arW word) (gW word) K A) ∧ PySem.W.keepIn K (.ref f) = true ∧ Binds K fd ps [] := by
  have key : ∀ {x : Str} {ps : List Str} {k : Nat} {n : Nat} {g : List Bool → List (List Int) → List Int → List Int → Except Int (List Int)} {f0 : Addr}, k ≤ 7 → Def P w K mg base (L2.CX P w) k x ps (sp_ask n g K A) → mg x = some (.ref f0) → askF A word = some (.ref f0) → arW word = n → gW word = g →
      ∃ (f : Addr) (fd : FuncData) (ps : List Str), askF A word = some (.ref f) ∧ FnOk P w K mg base (L2.CX P w) 7 f fd ps (sp_ask (arW word) (gW word) K A) ∧ PySem.W.keepIn K (.ref f) = true ∧ Binds K fd ps [] := fun {x ps k n g f0} hk D hm ha hn hg => by
    obtain ⟨fd, F, kp, b⟩ := def_at D hm
    exact ⟨f0, fd, ps, ha, by rw [hn, hg]; exact F.mono hk, kp, b⟩
  have cases7 : word = 1 ∨ word = 2 ∨ word = 3 ∨ word = 4 ∨ word = 5 ∨ word = 6 ∨ word = 7 := by omega
  rcases cases7 with rfl | rfl | rfl | rfl | rfl | rfl | rfl
  · exact key (by decide) (d_scores T) (T.t_scores.hm) rfl rfl rfl
  · exact key (by decide) (d_top T) (T.t_top.hm) rfl rfl rfl
  · exact key (by decide) (d_looks T) (T.t_looks.hm) rfl rfl rfl
  · exact key (by decide) (d_rank T) (T.t_rank.hm) rfl rfl rfl
  · exact key (by decide) (d_between T) (T.t_between.hm) rfl rfl rfl
  · exact key (by decide) (d_best_for T) (T.t_best_for.hm) rfl rfl rfl
  · exact key (by decide) (d_shares T) (T.t_shares.hm) rfl rfl rfl
/-- the object, its lists away from Fa -/
def HoldAt (A : Ads) (H : Hp) (h dh Fa : Addr) (st : St0) : Prop := match st with
  | none => H h = some (.ins A.cHolder dh [("listing", .non)])
  | some s => ∃ li dl u it rs, H h = some (.ins A.cHolder dh [("listing", .ref li)]) ∧ LsAt A H li dl u it s.1 rs s.2 ∧ LsOk s.1 s.2 ∧ u ≠ Fa ∧ it ≠ Fa ∧ ∀ p ∈ rs, p ≠ Fa
theorem HoldAt.h {H : Hp} {h dh Fa : Addr} {st : St0} (x : HoldAt A H h dh Fa st) : ∃ v, H h = some (.ins A.cHolder dh [("listing", v)]) := by
  cases st with
  | none => exact ⟨_, x⟩
  | some s =>
    obtain ⟨li, dl, u, it, rs, h1, _⟩ := x
    exact ⟨_, h1⟩
theorem HoldAt.ext {H H' : Hp} {h dh Fa : Addr} {st : St0} (e : ExtN H H') (x : HoldAt A H h dh Fa st) : HoldAt A H' h dh Fa st := by
  cases st with
  | none => exact e _ _ x (fun _ z => by cases z)
  | some s =>
    obtain ⟨li, dl, u, it, rs, h1, h2, h3⟩ := x
    exact ⟨li, dl, u, it, rs, e _ _ h1 (fun _ z => by cases z), h2.ext e, h3⟩
theorem HoldAt.put {H : Hp} {h dh Fa : Addr} {st : St0} {xs : List V} {o : HO} (x : HoldAt A H h dh Fa st) (hF : H Fa = some (.lst xs)) : HoldAt A (upd H Fa o) h dh Fa st := by
  have ni : ∀ {b C d : Addr} {fs : List (Str × V)}, H b = some (.ins C d fs) → b ≠ Fa := fun hb z => by rw [z, hF] at hb; cases hb
  cases st with
  | none =>
    show (upd H Fa o) h = _
    rw [upd_ne (ni x)]
    exact x
  | some s =>
    obtain ⟨li, dl, u, it, rs, h1, h2, h3, h4, h5, h6⟩ := x
    refine ⟨li, dl, u, it, rs, by rw [upd_ne (ni h1)]; exact h1, ⟨by rw [upd_ne (ni h2.l)]; exact h2.l, by rw [upd_ne h4]; exact h2.u, by rw [upd_ne h5]; exact h2.i, h2.r.mono fun p hp xs e => by rw [upd_ne (h6 p hp)]; exact e⟩, h3, h4, h5, h6⟩
def sp_asked (K : PySem.W.Frag) (A : Ads) : Sp := fun vs H Q E => ∃ (h dh Fa nl wl : Addr) (word : Int) (ns W : List Int) (st : St0), vs = [.ref h, .int word, .ref nl, .ref wl] ∧ HoldAt A H h dh Fa st ∧ SqL K H nl (ns.map V.int) ∧ ns.length = arW word ∧ SqL K H wl (W.map V.int) ∧ W.length < 10000 ∧ 1 ≤ word ∧ word ≤ 7 ∧ Tabs (tabsT A) H ∧
  (∀ e, gAsked st word ns W = .error e → RefOut A H E e) ∧ (∀ out, gAsked st word ns W = .ok out → ∀ p H', ExtN H H' → Tabs (tabsT A) H' → NewT H p → H' p = some (.lst (out.map V.int)) → out.length ≤ 1000 → Q (.ref p) H')
theorem d_asked (T : Tx K mg base A) : Def P w K mg base (L2.CX P w) 8 "asked" ["holder", "word", "numbers", "row"] (sp_asked K A) := def_of T.t_asked (fun _ _ _ _ _ _ us hl => match us, hl with | [_, _, _, _], _ => rfl) fun f fd F => by
  have nd := sc_asked.nd
  have d_must_be := d_must_be (P := P) (w := w) T
  refine F.okX sc_asked (fun vs H Q E h => ?_) (fun cdv Ar outer s H vs Q E hr h => ⟨_, (pss_cons (ps_expr (pe_dX d_must_be (hr.mono (by decide)) (takes_of rfl rfl rfl rfl) (pa_cons (pe_cmpR op_notN (pe_fld (pv 0) rfl) pe_non (nomark _)) (pa_cons (pe_gi T.g_NO_LIST) pa_nil))))
        (pss_cons (ps_set (i := 4) nd rfl (Or.inl rfl) (pe_ix ix_idct (pe_gr T.g_ASKING) (pv 1) (fun _ _ => rfl)))
        (pss_one (ps_ret (pe_locX (i := 4) (k := 7) (takes_of rfl rfl rfl rfl) (hr.mono (by decide)) rfl (Or.inl rfl) (pa_cons (pe_fld (pv 0) rfl) (pa_cons (pv 2) (pa_cons (pv 3) pa_nil)))))))), ?_⟩)
  · obtain ⟨h, dh, Fa, nl, wl, word, ns, W, st, rfl, _⟩ := h
    rfl
  · obtain ⟨h, dh, Fa, nl, wl, word, ns, W, st, rfl, hh, hN, hn, hW, hz, h1, h7, hT, qE, q⟩ := h
    have C := T.k_Holder.cl
    have n1 := T.k_Holder.no "listing" (by simp)
    obtain ⟨v, hv⟩ := hh.h
    refine ⟨_, rfl, h, _, dh, _, _, rfl, hv, C, n1, lk_here, rfl, _, -1, rfl, hT, fun z => ?_, fun z => ?_⟩
    · cases st with
      | none =>
        have hh' : H h = some (.ins A.cHolder dh [("listing", .non)]) := hh
        rw [hv] at hh'
        have e := Option.some.inj hh'
        injection e with _ _ e
        injection e with e _
        injection e with _ e
        rw [e] at z
        simp at z
      | some s =>
        obtain ⟨li, dl, u, it, rs, hh1, hL, hO, _⟩ := hh
        obtain ⟨f0, fd0, ps0, e1, F0, kp0, b0⟩ := asking (P := P) (w := w) T h1 h7
        exact ⟨_, rfl, A.aASKING, word, _, _, rfl, rfl, T.v_ASKING, e1, f0, fd0, ps0, _, rfl, F0, kp0, b0, _, rfl, h, _, dh, _, _, rfl, hh1, C, n1, lk_here, _, rfl, _, rfl, li, dl, u, it, nl, wl, s.1, rs, s.2, ns, W, rfl, hL, hO, hN, hn, hW, hz, hT, qE, q⟩
    · cases st with
      | none => exact qE (-1) rfl
      | some s =>
        obtain ⟨li, dl, u, it, rs, hh1, _⟩ := hh
        rw [hv] at hh1
        have e := Option.some.inj hh1
        injection e with _ _ e
        injection e with e _
        injection e with _ e
        rw [e] at z
        simp at z
end
end BwW
end

section
set_option autoImplicit false
set_option linter.all false
namespace BwW
open Bw VaskyBase
theorem measLoop_ok : ∀ {n : Nat} {names : List Bytes} {ups : List Bool} {l : Toks} {x : List Bool × Toks}, Wf l → names.length = ups.length → measLoop n names ups l = .ok x → x.1.length ≤ 4 ∧ Wf x.2
  | 0, names, ups, l, x, hw, hl, h => by cases h
  | n + 1, names, ups, l, x, hw, hl, h => by
    obtain ⟨a, ha, h⟩ := bind_ok h
    obtain ⟨u, hu, h⟩ := bind_ok h
    obtain ⟨m, hm, h⟩ := bind_ok h
    have w1 := (nameM_wf hw ha).1
    have w2 := (takeM_wf w1 hu).1
    have w3 := (takeM_wf w2 hm).1
    have hlt : names.length < 4 := by
      unfold takeNameM at ha
      cases l with
      | nil => cases ha
      | cons t r =>
        dsimp only at ha
        split at ha
        · split at ha
          · cases ha
          · omega
        · cases ha
    split at h
    · exact measLoop_ok w3 (by rw [List.length_append, List.length_append, hl]; rfl) h
    · cases h
      refine ⟨?_, w3⟩
      rw [List.length_append, ← hl]
      show names.length + 1 ≤ 4
      omega
theorem goodsM_ok : ∀ {us : List Bool} {vs : List Int} {l : Toks} {x : List Int × Toks}, Wf l → (∀ z ∈ vs, z.natAbs ≤ 1000) → goodsM us vs l = .ok x → x.1.length = vs.length + us.length ∧ (∀ z ∈ x.1, z.natAbs ≤ 1000) ∧ Wf x.2
  | [], vs, l, x, hw, hv, h => by cases h; exact ⟨rfl, hv, hw⟩
  | u :: us, vs, l, x, hw, hv, h => by
    obtain ⟨r, hr, h⟩ := bind_ok h
    obtain ⟨v, hvv, h⟩ := bind_ok h
    have wr : Wf r := by
      split at hr
      · cases hr
        exact hw
      · cases e : takeM [.comma] l with
        | error f => rw [e] at hr; cases hr
        | ok y =>
          rw [e] at hr
          cases hr
          exact (takeM_wf hw e).1
    obtain ⟨w2, _, hz⟩ := valueM_wf wr hvv
    obtain ⟨e1, e2, e3⟩ := goodsM_ok (us := us) w2 (fun z hz' => by
      rcases List.mem_append.mp hz' with h1 | h1
      · exact hv z h1
      · rw [List.mem_singleton.mp h1]
        split <;> omega) h
    refine ⟨?_, e2, e3⟩
    rw [e1, List.length_append]
    show vs.length + 1 + us.length = vs.length + (us.length + 1)
    omega
theorem itemsLoop_ok {ups : List Bool} : ∀ {n : Nat} {names : List Bytes} {rows : List (List Int)} {l : Toks} {x : List (List Int) × Toks}, Wf l → names.length = rows.length → rows.length ≤ 16 → (∀ r ∈ rows, r.length = ups.length ∧ ∀ z ∈ r, z.natAbs ≤ 1000) →
    itemsLoop ups n names rows l = .ok x → x.1.length ≤ 16 ∧ ∀ r ∈ x.1, r.length = ups.length ∧ ∀ z ∈ r, z.natAbs ≤ 1000
  | 0, names, rows, l, x, hw, hl, h16, hr, h => by cases h
  | n + 1, names, rows, l, x, hw, hl, h16, hr, h => by
    unfold itemsLoop at h
    split at h
    · split at h
      · cases h
      · obtain ⟨a, ha, h⟩ := bind_ok h
        obtain ⟨b, hb, h⟩ := bind_ok h
        obtain ⟨c, hc, h⟩ := bind_ok h
        obtain ⟨v, hv, h⟩ := bind_ok h
        obtain ⟨m, hm, h⟩ := bind_ok h
        have w1 := (takeM_wf hw ha).1
        have w2 := (nameM_wf w1 hb).1
        have w3 := (takeM_wf w2 hc).1
        obtain ⟨e1, e2, w4⟩ := goodsM_ok w3 (fun z hz => absurd hz (by simp)) hv
        have w5 := (takeM_wf w4 hm).1
        refine itemsLoop_ok w5 (by rw [List.length_append, List.length_append, hl]; rfl) (by rw [List.length_append]; show rows.length + 1 ≤ 16; omega) (fun r hr' => ?_) h
        rcases List.mem_append.mp hr' with h1 | h1
        · exact hr r h1
        · rw [List.mem_singleton.mp h1]
          refine ⟨?_, e2⟩
          rw [e1]
          show 0 + ups.length = ups.length
          omega
    · cases h
      exact ⟨h16, hr⟩
theorem readM_ok {l : Toks} {ups : List Bool} {rows : List (List Int)} (hw : Wf l) (h : readM l = .ok (ups, rows)) : LsOk ups rows := by
  unfold readM at h
  obtain ⟨a, ha, h⟩ := bind_ok h
  obtain ⟨m, hm, h⟩ := bind_ok h
  obtain ⟨x, hx, h⟩ := bind_ok h
  have w1 := (takeM_wf hw ha).1
  obtain ⟨h4, w2⟩ := measLoop_ok w1 rfl hm
  have h16 := itemsLoop_ok w2 rfl (by show 0 ≤ 16; omega) (fun r hr => absurd hr (by simp)) hx
  cases e : takeM [.fin] x.2 with
  | error f => rw [e] at h; cases h
  | ok y =>
    rw [e] at h
    cases h
    exact ⟨h4, h16.1, h16.2⟩
end BwW
end

section
set_option Elab.async false
set_option linter.all false
set_option maxRecDepth 100000
set_option maxHeartbeats 2000000
namespace BwW
open PySem PySem.Spec PyProof.Rows L2 BwK
open LamX (ExtN Tabs TabS)
section
variable {P : Program} {w : World} {K : PySem.W.Frag} {mg : Str → Option Value} {base : Heap} {A : Ads}
theorem readB_ok {B : VaskyBase.Bytes} {ups : List Bool} {rows : List (List Int)} (h : readB B = .ok (ups, rows)) : LsOk ups rows := by
  unfold readB at h
  obtain ⟨l, hl, h⟩ := Bw.bind_ok h
  exact readM_ok (tokens_ended hl).1 h
theorem tabs_off {L : List (Addr × Str)} {H H' : Hp} {h C d : Addr} {fs : List (Str × V)} (t : Tabs L H) (e : SameOff (· = h) H H') (hv : H h = some (.ins C d fs)) : Tabs L H' := fun p hp => by
  obtain ⟨ps, h1, h2, h3⟩ := t p hp
  refine ⟨ps, e _ _ (fun z => by rw [show p.1 = h from z, hv] at h1; cases h1) h1, h2, fun pos cv hc => ?_⟩
  obtain ⟨c, e1, e2⟩ := h3 pos cv hc
  exact ⟨c, e1, e _ _ (fun z => by rw [show c = h from z, hv] at e2; cases e2) e2⟩
/-- only one object and tables changed -/
def ExtO (h : Addr) (H H' : Hp) : Prop := ∀ b o, b ≠ h → H b = some o → (∀ ps, o ≠ .tbl ps) → H' b = some o
def sp_answered (K : PySem.W.Frag) (A : Ads) : Sp := fun vs H Q _ => ∃ (h dh Fa nl wl : Addr) (word : Int) (ns W : List Int) (st : St0) (xs : List V), vs = [.ref h, .int word, .ref nl, .ref wl] ∧ HoldAt A H h dh Fa st ∧ H Fa = some (.lst xs) ∧ SqL K H nl (ns.map V.int) ∧ ns.length = arW word ∧ SqL K H wl (W.map V.int) ∧ W.length < 10000 ∧ 0 ≤ word ∧ word ≤ 7 ∧ (word = 0 → W.map V.int = byV (VaskycNeutral.bytesOf W)) ∧ Tabs (tabsT A) H ∧
  (∀ p H', ExtO h H H' → Tabs (tabsT A) H' → HoldAt A H' h dh Fa (stOf st word W) → NewT H p → H' p = some (.lst ((outOf st word ns W).map V.int)) → (outOf st word ns W).length ≤ 1000 → Q (.ref p) H')
theorem d_answered (T : Tx K mg base A) : Def P w K mg base CX0 10 "answered" ["holder", "word", "numbers", "row"] (sp_answered K A) := def_of T.t_answered (fun _ _ _ _ _ _ us hl => match us, hl with | [_, _, _, _], _ => rfl) fun f fd F => by
  have nd := sc_answered.nd
  have d_load := d_load (P := P) (w := w) T
  have d_asked := d_asked (P := P) (w := w) T
  refine F.ok sc_answered (fun vs H Q E h => ?_) (fun cdv Ar outer s H vs Q E hr h => ⟨_, (pss_cons (ps_if (pt_cmpR op_eq (pv 1) (pe_gi T.g_LOAD) (nomark _)) (pss_one (ps_ret (pe_d d_load (hr.mono (by decide)) (pa_cons (pv 0) (pa_cons (pv 3) pa_nil))))) pss_nil)
        (pss_cons (ps_try_as (i := 5) rfl rfl nd rfl rfl ⟨rfl, by decide, .inl T.k_Refused.g⟩ takes0 (fun W pn xe tk _ => (pss_one (ps_set (i := 4) nd rfl (Or.inl rfl) (pe_dS d_asked (hr.mono (by decide)) tk (pa_cons (pv 0) (pa_cons (pv 1) (pa_cons (pv 2) (pa_cons (pv 3) pa_nil)))))))) (fun a oe cls d pn hz hf => (pss_one (ps_ret (pe_lst (pa_cons (pe_xf T.k_Refused.xf (T.k_Refused.no "number" (by simp)) hz hf (pv 5)) pa_nil))))))
        (pss_one (ps_ret (pv 4))))), ?_⟩)
  · obtain ⟨h, dh, Fa, nl, wl, word, ns, W, st, xs, rfl, _⟩ := h
    rfl
  · obtain ⟨h, dh, Fa, nl, wl, word, ns, W, st, xs, rfl, hh, hF, hN, hn, hW, hz, h0, h7, hb, hT, q⟩ := h
    have C := T.k_Holder.cl
    have n1 := T.k_Holder.no "listing" (by simp)
    obtain ⟨v, hv⟩ := hh.h
    refine ⟨_, rfl, rfl, _, rfl, ite2 (fun z => ?_) fun z => ?_⟩
    · rw [dec_int', decide_eq_true_eq] at z
      subst z
      have hb0 : SqL K H wl (byV (VaskycNeutral.bytesOf W)) := by rw [← hb rfl]; exact hW
      refine ⟨_, rfl, _, rfl, h, dh, wl, v, VaskycNeutral.bytesOf W, rfl, hv, hb0, fun f hf p H' hS hn hp => ?_, fun ups rows hr p li dl u it rs H' hS hh' hL nu ni nr hn hp => ?_⟩
      · refine q p H' (fun b o _ e _ => hS b o e) (hT.ext hS) ?_ (NewT.none hn) ?_ ?_
        · have : stOf st 0 W = st := by unfold stOf; rw [if_pos rfl, hf]
          rw [this]
          exact hh.ext (.of hS)
        · have : outOf st 0 ns W = [0, (f.code : Int), (f.place : Int)] := by unfold outOf; rw [if_pos rfl, hf]
          rw [this]
          exact hp
        · have : outOf st 0 ns W = [0, (f.code : Int), (f.place : Int)] := by unfold outOf; rw [if_pos rfl, hf]
          rw [this]
          show 3 ≤ 1000
          decide
      · refine q p H' (fun b o nb e _ => hS b o nb e) (tabs_off hT hS hv) ?_ (NewT.none hn) ?_ ?_
        · have : stOf st 0 W = some (ups, rows) := by unfold stOf; rw [if_pos rfl, hr]
          rw [this]
          refine ⟨li, dl, u, it, rs, hh', hL, readB_ok hr, fun z => ?_, fun z => ?_, fun p hp z => ?_⟩
          · rw [z, hF] at nu; cases nu
          · rw [z, hF] at ni; cases ni
          · have := nr p hp
            rw [z, hF] at this
            cases this
        · have : outOf st 0 ns W = [1, (ups.length : Int), (rows.length : Int)] := by unfold outOf; rw [if_pos rfl, hr]
          rw [this]
          exact hp
        · have : outOf st 0 ns W = [1, (ups.length : Int), (rows.length : Int)] := by unfold outOf; rw [if_pos rfl, hr]
          rw [this]
          show 3 ≤ 1000
          decide
    · have e0 : word ≠ 0 := fun y => z (by rw [y, dec_int']; rfl)
      have eS : stOf st word W = st := by unfold stOf; rw [if_neg e0]
      rw [eS] at q
      refine ⟨_, rfl, _, rfl, _, rfl, _, rfl, h, dh, Fa, nl, wl, word, ns, W, st, rfl, hh, hN, hn, hW, hz, by omega, h7, hT, fun e he => fun d H' hS hT' hd => ⟨true, T.k_Refused.em, fun _ a0 _ => ?_, fun z => Bool.noConfusion z⟩, fun out ho p H' hS hT' hnp hp hl => ?_⟩
      · have : outOf st word ns W = [e] := by unfold outOf; rw [if_neg e0, he]
        rw [this] at q
        refine ⟨_, rfl, rfl, rfl, d, _, _, rfl, hd, lk_here, by show 1 ≤ sizeLine; decide, fun p hp => ?_⟩
        have hS2 := same_upd (o := .lst ([e].map V.int)) (Same.refl H') hp
        refine q p _ (fun b o _ e1 e2 => hS2 _ _ (hS b o e1 e2)) (hT'.ext hS2) (hh.ext (hS.trans (.of hS2))) (NewT.of hS hp) upd_same (by show 1 ≤ 1000; decide)
      · have : outOf st word ns W = out := by unfold outOf; rw [if_neg e0, ho]
        rw [this] at q
        exact ⟨_, rfl, q p H' (fun b o _ e1 e2 => hS b o e1 e2) hT' (hh.ext hS) hnp hp hl⟩
end
end BwW
end

section
set_option Elab.async false
set_option linter.all false
set_option maxRecDepth 100000
set_option maxHeartbeats 2000000
namespace BwW
open PySem PySem.Spec PyProof.Rows L2 BwK
open LamX (ExtN Tabs TabS)
section
variable {P : Program} {w : World} {K : PySem.W.Frag} {mg : Str → Option Value} {base : Heap} {A : Ads}
def rowC (word : Int) (W : List Int) : List Int := if word < 5 then (W.length : Int) :: W else []
def hasRow (word : Int) : Bool := decide (word < 5)
theorem cut_nat (xs : List V) {n m : Nat} (h1 : n ≤ m) (h2 : m ≤ xs.length) : cutV xs (some (n : Int)) (some (m : Int)) = (xs.drop n).take (m - n) := by
  unfold cutV
  rw [HT.sIx_nat, HT.sIx_nat, Nat.min_eq_left h2, Nat.min_eq_left (Nat.le_trans h1 h2)]
theorem cut_pre {l a b : List Int} {n : Nat} (h : l.drop n = a ++ b) (hn : n ≤ l.length) : cutV (l.map V.int) (some (n : Int)) (some ((n + a.length : Nat) : Int)) = a.map V.int := by
  have e := congrArg List.length h
  rw [List.length_drop, List.length_append] at e
  rw [cut_nat _ (by omega) (by rw [List.length_map]; omega), ← List.map_drop, h, Nat.add_sub_cancel_left, ← List.map_take, List.take_left]
theorem has_at {word : Int} (h0 : 0 ≤ word) (h7 : word ≤ 7) : atI ([.bl true, .bl true, .bl true, .bl true, .bl true, .bl false, .bl false, .bl false] : List V) word = some (.bl (hasRow word)) := by
  have : word = 0 ∨ word = 1 ∨ word = 2 ∨ word = 3 ∨ word = 4 ∨ word = 5 ∨ word = 6 ∨ word = 7 := by omega
  rcases this with rfl | rfl | rfl | rfl | rfl | rfl | rfl | rfl <;> rfl
theorem many_at {word : Int} (h0 : 0 ≤ word) (h7 : word ≤ 7) : atI ([.int 0, .int 0, .int 1, .int 1, .int 1, .int 2, .int 4, .int 3] : List V) word = some (.int (arW word : Int)) := by
  have : word = 0 ∨ word = 1 ∨ word = 2 ∨ word = 3 ∨ word = 4 ∨ word = 5 ∨ word = 6 ∨ word = 7 := by omega
  rcases this with rfl | rfl | rfl | rfl | rfl | rfl | rfl | rfl <;> rfl
theorem int_at {l : List Int} {n : Nat} {x : Int} (h : l[n]? = some x) : atI (l.map V.int) (n : Int) = some (.int x) := atI_nat (by rw [List.getElem?_map, h]; rfl)
theorem head_at {l t : List Int} {n : Nat} {x : Int} (h : l.drop n = x :: t) : l[n]? = some x ∧ l.drop (n + 1) = t ∧ n < l.length := by
  have e : (l.drop n)[0]? = some x := by rw [h]; rfl
  rw [List.getElem?_drop] at e
  refine ⟨e, ?_, ?_⟩
  · rw [← List.drop_drop, h]
    rfl
  · obtain ⟨z, _⟩ := List.getElem?_eq_some_iff.mp e
    exact z
def sp_row_at (K : PySem.W.Frag) (A : Ads) : Sp := fun vs H Q _ => ∃ (cl : Addr) (l W t : List Int) (n : Nat) (word : Int), vs = [.ref cl, .int (n : Int), .int word] ∧ SqL K H cl (l.map V.int) ∧ l.drop n = rowC word W ++ t ∧ n ≤ l.length ∧ 0 ≤ word ∧ word ≤ 7 ∧ (5 ≤ word → W = []) ∧
  ∀ t p H', Same H H' → H p = none → H' p = some (.lst (W.map V.int)) → H' t = some (.tup [.ref p, .int ((n + (rowC word W).length : Nat) : Int)]) → Q (.ref t) H'
theorem d_row_at (T : Tx K mg base A) : Def P w K mg base CX0 1 "row_at" ["calls", "at", "word"] (sp_row_at K A) := def_of T.t_row_at (fun _ _ _ _ _ _ us hl => match us, hl with | [_, _, _], _ => rfl) fun f fd F => by
  have nd := sc_row_at.nd
  refine F.ok sc_row_at (fun vs H Q E h => ?_) (fun cdv Ar outer s H vs Q E hr h => ⟨_, (pss_cons (ps_if (pt_not (pt_val (pe_ix ix_tup (pe_gr T.g_HAS_ROW) (pv 2) (fun _ _ => rfl)))) (pss_one (ps_ret (pe_tup (pa_cons (pe_lst pa_nil) (pa_cons (pv 1) pa_nil))))) pss_nil)
        (pss_cons (ps_set (i := 3) nd rfl (Or.inl rfl) (pe_op op_add (pe_op op_add (pv 1) pe_int) (pe_ix ix_list (pv 0) (pv 1) (fun _ _ => rfl))))
        (pss_one (ps_ret (pe_tup (pa_cons (pe_slice sl_list (pv 0) (po_some (pe_op op_add (pv 1) pe_int)) (po_some (pv 3))) (pa_cons (pv 3) pa_nil))))))), ?_⟩)
  · obtain ⟨cl, l, W, t, n, word, rfl, _⟩ := h
    rfl
  · obtain ⟨cl, l, W, t, n, word, rfl, hl, hd, hn, h0, h7, h5, q⟩ := h
    have sz : ∀ x y : V, ([x, y] : List V).length ≤ sizeLine := fun x y => by show 2 ≤ sizeLine; decide
    refine ⟨_, rfl, A.aHAS_ROW, _, word, _, rfl, rfl, T.v_HAS_ROW H, has_at h0 h7, _, rfl, ?_⟩
    by_cases c : word < 5
    · have e : hasRow word = true := decide_eq_true c
      have er : rowC word W = (W.length : Int) :: W := if_pos c
      rw [er] at hd q
      rw [e]
      obtain ⟨d1, d2, d3⟩ := head_at hd
      refine iteF ?_
      have en : (n : Int) + 1 + (W.length : Int) = ((n + 1 + W.length : Nat) : Int) := by omega
      have en1 : (n : Int) + 1 = ((n + 1 : Nat) : Int) := by omega
      refine ⟨_, rfl, _, _, rfl, rfl, _, rfl, _, rfl, cl, _, _, _, rfl, rfl, hl, int_at d1, _, _, rfl, rfl, ?_⟩
      refine ⟨_, rfl, _, rfl, _, _, rfl, rfl, _, rfl, _, rfl, _, rfl, _, _, rfl, hl, fun p hp => ⟨_, rfl, sz _ _, fun t ht => ?_⟩⟩
      rw [en, en1, cut_pre (a := W) (b := _) d2 (by omega)] at ht ⊢
      have hS := same_upd (o := .lst (W.map V.int)) (Same.refl H) hp
      have hS2 := same_upd (o := .tup [.ref p, .int ((n + 1 + W.length : Nat) : Int)]) (Same.refl _) ht
      refine q t p _ (hS.trans hS2) hp (hS2 _ _ upd_same) ?_
      rw [upd_same]
      show some (HO.tup [V.ref p, V.int (((n + 1 : Nat) : Int) + (W.length : Int))]) = _
      rw [show (((n + 1 : Nat) : Int) + (W.length : Int)) = ((n + ((W.length : Int) :: W).length : Nat) : Int) from by rw [List.length_cons]; omega]
    · have e : hasRow word = false := decide_eq_false c
      have er : rowC word W = [] := if_neg c
      rw [er] at q
      obtain rfl : W = [] := h5 (by omega)
      rw [e]
      refine iteT ⟨by show 0 ≤ sizeLine; decide, fun p hp => ⟨_, rfl, sz _ _, fun t ht => ?_⟩⟩
      have hS := same_upd (o := .lst []) (Same.refl H) hp
      have hS2 := same_upd (o := .tup [.ref p, .int (n : Int)]) (Same.refl _) ht
      exact q t p _ (hS.trans hS2) hp (hS2 _ _ upd_same) upd_same
end
end BwW
end

section
set_option Elab.async false
set_option linter.all false
set_option maxRecDepth 100000
set_option maxHeartbeats 2000000
namespace BwW
open PySem PySem.Spec PyProof.Rows L2 BwK
open LamX (ExtN Tabs TabS)
section
variable {P : Program} {w : World} {K : PySem.W.Frag} {mg : Str → Option Value} {base : Heap} {A : Ads}
/-- a call: its word, its numbers, its row -/
abbrev C3 := Int × (List Int × List Int)
def flatC (x : C3) : List Int := x.1 :: (x.2.1 ++ rowC x.1 x.2.2)
structure OkC (x : C3) : Prop where
  h0 : 0 ≤ x.1
  h7 : x.1 ≤ 7
  n : x.2.1.length = arW x.1
  w : x.2.2.length < 10000
  e : 5 ≤ x.1 → x.2.2 = []
  b : x.1 = 0 → x.2.2.map V.int = byV (VaskycNeutral.bytesOf x.2.2)
def tellM : St0 → List C3 → List Int
  | _, [] => []
  | st, x :: r => ((outOf st x.1 x.2.1 x.2.2).length : Int) :: (outOf st x.1 x.2.1 x.2.2 ++ tellM (stOf st x.1 x.2.2) r)
def sp_answers (K : PySem.W.Frag) (A : Ads) : Sp := fun vs H Q _ => ∃ (cl : Addr) (l : List Int) (xs : List C3), vs = [.ref cl] ∧ SqL K H cl (l.map V.int) ∧ l = xs.flatMap flatC ∧ xs.length ≤ 40 ∧ (∀ x ∈ xs, OkC x) ∧ Tabs (tabsT A) H ∧
  ∀ p H', ExtN H H' → Tabs (tabsT A) H' → H' p = some (.lst ((tellM none xs).map V.int)) → Q (.ref p) H'
theorem ok_answers (T : Tx K mg base A) {f : Addr} {fd : FuncData} (F : Fun K "answers" "answers" s_answers f fd) : FnOk P w K mg base CX0 11 f fd ["calls"] (sp_answers K A) := by
  have nd := sc_answers.nd
  have d_Holder := d_Holder (P := P) (w := w) T
  have d_row_at := d_row_at (P := P) (w := w) T
  have d_answered := d_answered (P := P) (w := w) T
  refine F.ok sc_answers (fun vs H Q E h => ?_) (fun cdv Ar outer s H vs Q E hr h => ⟨_, (pss_cons (ps_set (i := 1) nd rfl (Or.inl rfl) (pe_c0 d_Holder (hr.mono (by decide))))
        (pss_cons (ps_set (i := 2) nd rfl (Or.inl rfl) (pe_lst pa_nil))
        (pss_cons (ps_set (i := 3) nd rfl (Or.inl rfl) pe_int)
        (pss_cons (ps_while PassesOwn.never (pt_cmpR op_lt (pv 3) (pe_callB call_len_seq (by rfl) T.b_len PySem.boot_len (pa_cons (pv 0) pa_nil)) (nomark _)) (pss_cons (ps_set (i := 4) nd rfl (Or.inl rfl) (pe_ix ix_list (pv 0) (pv 3) (fun _ _ => rfl)))
        (pss_cons (ps_set (i := 5) nd rfl (Or.inl rfl) (pe_op op_add (pe_op op_add (pv 3) pe_int) (pe_ix ix_tup (pe_gr T.g_NUMBER_COUNTS) (pv 4) (fun _ _ => rfl))))
        (pss_cons (ps_set (i := 6) nd rfl (Or.inl rfl) (pe_slice sl_list (pv 0) (po_some (pe_op op_add (pv 3) pe_int)) (po_some (pv 5))))
        (pss_cons (ps_asg (pe_d d_row_at (hr.mono (by decide)) (pa_cons (pv 0) (pa_cons (pv 5) (pa_cons (pv 4) pa_nil)))) (pg_tup rfl (pgs_cons (pg_name (i := 7) nd rfl (Or.inl rfl)) (pgs_cons (pg_name (i := 3) nd rfl (Or.inl rfl)) pgs_nil))))
        (pss_cons (ps_set (i := 8) nd rfl (Or.inl rfl) (pe_d d_answered (hr.mono (by decide)) (pa_cons (pv 1) (pa_cons (pv 4) (pa_cons (pv 6) (pa_cons (pv 7) pa_nil))))))
        (pss_cons (ps_expr (pe_bm PySem.F.plainAttrs_list PySem.F.slot_list_append PySem.F.type_list_append mt_append (pv 2) (pa_cons (pe_callB call_len_seq (by rfl) T.b_len PySem.boot_len (pa_cons (pv 8) pa_nil)) pa_nil)))
        (pss_one (ps_expr (pe_bm PySem.F.plainAttrs_list PySem.F.slot_list_extend PySem.F.type_list_extend mt_extend (pv 2) (pa_cons (pv 8) pa_nil)))))))))))
        (pss_one (ps_ret (pv 2))))))), ?_⟩)
  · obtain ⟨cl, l, xs, rfl, _⟩ := h
    rfl
  · obtain ⟨cl, l, xs, rfl, hl, hxs, h40, hok, hT, q⟩ := h
    have C := T.k_Holder.cl
    have s1 : 100000 < sizeLine := by decide
    intro h dh nh ndh neh
    refine ⟨h, dh, rfl, upd_same, fun H1 hh1 hk1 => ⟨rfl, ?_⟩⟩
    have hS1 : Same H H1 := fun b o e => by
      have nb : b ≠ h := ne_of_none e nh
      exact hk1 b o nb (by rw [upd_ne nb, upd_ne (ne_of_none e ndh)]; exact e)
    refine ⟨by show 0 ≤ sizeLine; decide, fun F hF => ?_⟩
    have hS2 := same_upd (o := .lst []) (Same.refl H1) hF
    have hF2 : upd H1 F (.lst []) F = some (.lst []) := upd_same
    have hFH : H F = none := by
      cases z : H F with
      | none => rfl
      | some o => rw [hS1 _ _ z] at hF; cases hF
    have hhF : HoldAt A (upd H1 F (.lst [])) h dh F none := hS2 _ _ hh1
    have e2 : ExtN H (upd H1 F (.lst [])) := .of (hS1.trans hS2)
    have hT2 := hT.ext (hS1.trans hS2)
    generalize upd H1 F (.lst []) = H2 at *
    have kp : ∀ {Hx Hy : Hp}, ExtN H Hx → ExtO h Hx Hy → ExtN H Hy := fun e o b u z n => o b u (fun y => by rw [y, nh] at z; cases z) (e b u z n) n
    let Wf : Nat → L2.St → Hp → Prop := fun k σ H' => ∃ (n : Nat) (told : List Int) (r : List C3) (st : St0) (x4 x5 x6 x7 x8 : Option V), σ = [some (.ref cl), some (.ref h), some (.ref F), some (.int (n : Int)), x4, x5, x6, x7, x8] ∧ k = r.length ∧ l.drop n = r.flatMap flatC ∧ n ≤ l.length ∧
      HoldAt A H' h dh F st ∧ Tabs (tabsT A) H' ∧ ExtN H H' ∧ H' F = some (.lst (told.map V.int)) ∧ tellM none xs = told ++ tellM st r ∧ told.length + 1001 * r.length ≤ 40040 ∧ (∀ x ∈ r, OkC x)
    refine ⟨Wf, ⟨_, 0, [], xs, none, none, none, none, none, none, rfl, rfl, hxs, by omega, hhF, hT2, e2, hF2, rfl, by show 0 + 1001 * xs.length ≤ 40040; omega, hok⟩, ?_⟩
    rintro k σ H3 ⟨n, told, r, st, x4, x5, x6, x7, x8, rfl, rfl, hdr, hnl, hh, hT3, e3, hF3, htl, hln, hokr⟩
    have hl3 : SqL K H3 cl (l.map V.int) := sqL_ext e3 hl
    refine ⟨_, rfl, _, rfl, cl, _, rfl, .inl hl3, _, _, rfl, rfl, _, rfl, ite2 (fun z => ?_) fun z => ?_⟩
    · have z1 := of_decide_eq_true z
      rw [List.length_map] at z1
      cases r with
      | nil =>
        have := congrArg List.length hdr
        rw [List.length_drop] at this
        simp at this
        omega
      | cons x r =>
        obtain ⟨word, ns, W⟩ := x
        have ho := hokr _ (List.mem_cons_self ..)
        have h0 : 0 ≤ word := ho.h0
        have h7 : word ≤ 7 := ho.h7
        have hn : ns.length = arW word := ho.n
        have hb : ns.length ≤ 4 := by rw [hn]; unfold arW; split <;> (try split) <;> (try split) <;> (try split) <;> omega
        have eF : List.flatMap flatC ((word, ns, W) :: r) = word :: (ns ++ (rowC word W ++ r.flatMap flatC)) := by
          rw [List.flatMap_cons]
          show (word :: (ns ++ rowC word W)) ++ _ = _
          rw [List.cons_append, List.append_assoc]
        rw [eF] at hdr
        obtain ⟨d1, d2, d3⟩ := head_at hdr
        have d2l := congrArg List.length d2
        rw [List.length_drop, List.length_append] at d2l
        have d4 : l.drop (n + 1 + ns.length) = rowC word W ++ r.flatMap flatC := by rw [← List.drop_drop, d2, List.drop_left]
        have d4l := congrArg List.length d4
        rw [List.length_drop, List.length_append] at d4l
        have d5 : l.drop (n + 1 + ns.length + (rowC word W).length) = r.flatMap flatC := by rw [← List.drop_drop, d4, List.drop_left]
        refine ⟨fun σ' H' => ∃ m', m' < (((word, ns, W) :: r) : List C3).length ∧ Wf m' σ' H', fun _ _ h => h, ?_⟩
        refine ⟨_, rfl, _, rfl, cl, _, _, _, rfl, rfl, hl3, int_at d1, ?_⟩
        refine ⟨_, rfl, _, _, rfl, rfl, _, rfl, A.aNUMBER_COUNTS, _, word, _, rfl, rfl, T.v_NUMBER_COUNTS H3, many_at h0 h7, _, _, rfl, rfl, ?_⟩
        have eb : (n : Int) + 1 + (arW word : Int) = ((n + 1 + ns.length : Nat) : Int) := by omega
        show gName 5 (.int ((n : Int) + 1 + (arW word : Int))) _ _ _
        rw [eb]
        have en1 : (n : Int) + 1 = ((n + 1 : Nat) : Int) := by omega
        refine ⟨_, rfl, _, rfl, _, _, rfl, rfl, _, rfl, _, rfl, _, rfl, cl, _, rfl, hl3, fun p1 hp1 => ?_⟩
        rw [en1, cut_pre (a := ns) (b := _) d2 (by omega)] at *
        have hS4 := same_upd (o := .lst (ns.map V.int)) (Same.refl H3) hp1
        have hp1' : upd H3 p1 (.lst (ns.map V.int)) p1 = some (.lst (ns.map V.int)) := upd_same
        generalize upd H3 p1 (.lst (ns.map V.int)) = H4 at *
        refine ⟨_, rfl, _, rfl, _, rfl, cl, l, W, r.flatMap flatC, n + 1 + ns.length, word, rfl, hS4.seq hl3, d4, by omega, h0, h7, ho.e, fun t p H5 hS5 hpn hp ht => ?_⟩
        refine ⟨t, _, rfl, SqT.of ht, rfl, _, _, rfl, _, _, rfl, rfl, ?_⟩
        have hS35 := hS4.trans hS5
        have hF5 := hS35 _ _ hF3
        refine ⟨_, rfl, _, rfl, _, rfl, _, rfl, h, dh, F, p1, p, word, ns, W, st, _, rfl, hh.ext (.of hS35), hF5, SqL.of (hS5 _ _ hp1'), hn, SqL.of hp, ho.w, h0, h7, ho.b, hT3.ext hS35, fun p6 H6 hX hT6 hh6 hn6 hp6 hl6 => ?_⟩
        have e6 : ExtN H H6 := kp (e3.trans (.of hS35)) hX
        obtain ⟨vh, hvh⟩ := hh.h
        have hFh : F ≠ h := fun z => by rw [z, hvh] at hF3; cases hF3
        have hF6 := hX _ _ hFh hF5 (fun _ z => by cases z)
        have hpF : p6 ≠ F := fun z => by
          obtain ⟨ps, e⟩ := hn6 _ (by rw [z]; exact hF5)
          cases e
        generalize ho' : outOf st word ns W = out at *
        generalize hs' : stOf st word W = st' at *
        have hln' : told.length + 1001 * (r.length + 1) ≤ 40040 := hln
        refine ⟨_, rfl, .inl ⟨rfl, _, SqL.of hF6⟩, _, rfl, p6, _, rfl, .inl (SqL.of hp6), F, _, _, rfl, rfl, hF6, by rw [List.length_map]; omega, ?_⟩
        have hp7 : upd H6 F (.lst (told.map V.int ++ [.int ((out.map V.int).length : Nat)])) p6 = some (.lst (out.map V.int)) := by rw [upd_ne hpF]; exact hp6
        have hF7 : upd H6 F (.lst (told.map V.int ++ [.int ((out.map V.int).length : Nat)])) F = some (.lst ((told ++ [(out.length : Int)]).map V.int)) := by
          rw [upd_same, List.map_append, List.length_map]
          rfl
        have e7 : ExtN H (upd H6 F (.lst (told.map V.int ++ [.int ((out.map V.int).length : Nat)]))) := extN_fresh e6 hFH
        have hT7 : Tabs (tabsT A) (upd H6 F (.lst (told.map V.int ++ [.int ((out.map V.int).length : Nat)]))) := tabs_put hT6 hF6 (fun _ z => by cases z) lst_code
        have hh7 : HoldAt A (upd H6 F (.lst (told.map V.int ++ [.int ((out.map V.int).length : Nat)]))) h dh F st' := hh6.put hF6
        generalize upd H6 F (.lst (told.map V.int ++ [.int ((out.map V.int).length : Nat)])) = H7 at *
        refine ⟨_, rfl, .inl ⟨rfl, _, SqL.of hF7⟩, _, rfl, F, p6, _, _, rfl, rfl, hF7, hp7, by rw [List.length_map, List.length_map, List.length_append]; show told.length + 1 + out.length ≤ sizeLine; omega, ?_⟩
        refine ⟨r.length, Nat.lt_succ_self _, n + 1 + ns.length + (rowC word W).length, told ++ [(out.length : Int)] ++ out, r, st', some (.int word), some (.int ((n + 1 + ns.length : Nat) : Int)), some (.ref p1), some (.ref p), some (.ref p6), rfl, rfl, d5, by omega, hh7.put hF7, tabs_put hT7 hF7 (fun _ z => by cases z) lst_code, extN_fresh e7 hFH, by rw [upd_same, List.map_append, List.map_append, List.map_append], ?_, ?_, fun x hx => hokr x (List.mem_cons_of_mem _ hx)⟩
        · rw [htl]
          show told ++ (((outOf st word ns W).length : Int) :: (outOf st word ns W ++ tellM (stOf st word W) r)) = _
          rw [ho', hs']
          simp
        · rw [List.length_append, List.length_append]
          show told.length + 1 + out.length + 1001 * r.length ≤ 40040
          omega
    · have z1 : ¬ ((n : Int) < (l.length : Int)) := fun y => z (by rw [List.length_map]; exact decide_eq_true y)
      have hr0 : r = [] := by
        cases r with
        | nil => rfl
        | cons x r =>
          have := congrArg List.length hdr
          rw [List.length_drop, List.flatMap_cons, List.length_append] at this
          have e : (flatC x).length = (x.2.1 ++ rowC x.1 x.2.2).length + 1 := rfl
          omega
      subst hr0
      have e : tellM none xs = told := by
        rw [htl]
        exact List.append_nil _
      exact ⟨_, rfl, q F H3 e3 hT3 (by rw [e]; exact hF3)⟩
end
end BwW
end

section
set_option Elab.async false
set_option linter.all false
set_option maxRecDepth 100000
set_option maxHeartbeats 2000000
namespace BwW
open Bw VaskyBase Vaskyc
open VaskycNeutral (encode)
def outE (x : Except Int (List Int)) : List Int := match x with
  | .error e => [e]
  | .ok out => out
abbrev upsS (s : Vaskya.Sheet) : List Bool := s.ms.map Vaskya.Measure.up
abbrev rowsS (s : Vaskya.Sheet) : List (List Int) := Vaskya.rows s
theorem upsS_len (s : Vaskya.Sheet) : (upsS s).length = s.ms.length := List.length_map ..
theorem rowsS_len (s : Vaskya.Sheet) : (rowsS s).length = s.items.length := List.length_map ..
theorem natI_nats (l : List Nat) : natI l = nats l := rfl
theorem okW_nn {n : Nat} {W : List Int} (h : okW n W = true) : ∀ z ∈ W, 0 ≤ z := fun z hz => ((okW_bd h).2 z hz).1
theorem w_is {s : Vaskya.Sheet} {W : List Int} {f : Weights → Answer} {x : List Int} (h : okW s.ms.length W = true → encode (f (W.map Int.toNat)) = x) : encode (withWeights s W f) = outE (withW (upsS s) W x) := by
  rw [withWeights_is]
  unfold withW
  rw [upsS_len]
  split
  · rename_i z
    exact h z
  · rfl
theorem k_is {k : Int} {f : Nat → Answer} {x : Except Int (List Int)} (h : encode (f k.toNat) = outE x) : encode (withCount k f) = outE (withK k x) := by
  unfold withCount withK
  have e16 : (Vaskya.ITEMS : Int) = 16 := rfl
  rw [e16]
  by_cases c : 0 ≤ k ∧ k ≤ 16
  · rw [if_pos c, if_neg (by omega)]
    exact h
  · rw [if_neg c, if_pos (by omega)]
    rfl
theorem i_is {s : Vaskya.Sheet} {i : Int} {f : Nat → Answer} {x : Except Int (List Int)} (h : i.toNat < (rowsS s).length → encode (f i.toNat) = outE x) : encode (Vaskya.withItem s i f) = outE (withI (rowsS s) i x) := by
  unfold Vaskya.withItem withI index
  rw [rowsS_len] at *
  by_cases c : 0 ≤ i ∧ i < (s.items.length : Int)
  · rw [if_pos c, if_pos c]
    exact h (by omega)
  · rw [if_neg c, if_neg c]
    rfl
theorem two_is {s : Vaskya.Sheet} {m k : Int} {f : Two → Answer} {x : Except Int (List Int)} (h : encode (f (twoOf (rowsS s) m.toNat k.toNat)) = outE x) : encode (withTwo s m k f) = outE (with2 (upsS s) m k x) := by
  unfold withTwo with2 index
  rw [upsS_len]
  by_cases c1 : 0 ≤ m ∧ m < (s.ms.length : Int)
  · by_cases c2 : 0 ≤ k ∧ k < (s.ms.length : Int)
    · rw [if_pos c1, if_pos c2]
      dsimp only
      by_cases c3 : m = k
      · rw [if_pos (by rw [c3]), if_neg (by rintro ⟨_, _, z⟩; exact z c3)]
        rfl
      · rw [if_neg (by omega), if_pos ⟨c1, c2, c3⟩]
        exact h
    · have hc : ¬ ((0 ≤ m ∧ m < (s.ms.length : Int)) ∧ (0 ≤ k ∧ k < (s.ms.length : Int)) ∧ m ≠ k) := fun z => c2 z.2.1
      rw [if_pos c1, if_neg c2, if_neg hc]
      rfl
  · have hc : ¬ ((0 ≤ m ∧ m < (s.ms.length : Int)) ∧ (0 ≤ k ∧ k < (s.ms.length : Int)) ∧ m ≠ k) := fun z => c1 z.1
    rw [if_neg c1, if_neg hc]
    rfl
theorem scores_ok (s : Vaskya.Sheet) (W : List Int) : encode (looked s (.scores W)) = outE (g_scores (upsS s) (rowsS s) [] W) := by
  refine w_is fun h => ?_
  rw [scoresM_is (okW_nn h), rowsS_len]
  rfl
theorem top_ok (s : Vaskya.Sheet) (k : Int) (W : List Int) : encode (looked s (.top k W)) = outE (g_top (upsS s) (rowsS s) [k] W) := by
  refine k_is (x := withW _ _ _) (w_is fun h => ?_)
  show encode (listAnswer (topBy (rowsS s) (W.map Int.toNat) k.toNat)) = _
  rw [← topM_is (okW_nn h)]
  rfl
theorem looks_ok (s : Vaskya.Sheet) (k : Int) (W : List Int) : encode (looked s (.looks k W)) = outE (g_looks (upsS s) (rowsS s) [k] W) := by
  refine k_is (x := withW _ _ _) (w_is fun h => ?_)
  show encode _ = lookM (rowsS s) W k.toNat
  unfold lookM
  rw [firstM_is (okW_nn h), wgt_is, seenM_is]
  show (_ :: _ : List Int) = _
  unfold Vaskyc.nats natI depM
  simp
theorem rank_ok (s : Vaskya.Sheet) (i : Int) (W : List Int) : encode (looked s (.rank i W)) = outE (g_rank (upsS s) (rowsS s) [i] W) := by
  refine i_is (x := withW _ _ _) fun _ => w_is fun h => ?_
  rw [scoresM_is (okW_nn h)]
  show (_ :: _ : List Int) = _
  unfold Vaskyc.nats
  simp only [List.map_cons, List.map_nil]
  rw [Int.natCast_add, Int.add_comm]
  rfl
theorem between_ok (s : Vaskya.Sheet) (m k : Int) (W : List Int) : encode (looked s (.between m k)) = outE (g_between (upsS s) (rowsS s) [m, k] W) := two_is (x := .ok _) rfl
theorem best_ok (s : Vaskya.Sheet) (m k p d : Int) (W : List Int) : encode (looked s (.at_ m k p d)) = outE (g_best_for (upsS s) (rowsS s) [m, k, p, d] W) := by
  refine two_is (x := withS _ _ _) ?_
  show encode (if _ then _ else _) = outE (withS p d _)
  have e : (Vaskya.SIZE : Int) = 1000 := rfl
  rw [e]
  unfold withS
  by_cases c : (1 ≤ d ∧ d ≤ 1000) ∧ (0 ≤ p ∧ p ≤ d)
  · rw [if_pos c, if_neg (by omega), bestAt_are (by omega)]
    rfl
  · rw [if_neg c, if_pos (by omega)]
    rfl
theorem shares_ok (s : Vaskya.Sheet) (i m k : Int) (W : List Int) : encode (looked s (.shares i m k)) = outE (g_shares (upsS s) (rowsS s) [i, m, k] W) := by
  refine i_is (x := with2 _ _ _ _) fun hi => two_is (x := .ok _) ?_
  have hl : i.toNat < (twoOf (rowsS s) m.toNat k.toNat).length := by unfold twoOf; rw [List.length_map]; exact hi
  show encode (match sharesOf (twoOf (rowsS s) m.toNat k.toNat) i.toNat with | none => one 0 | some y => ⟨1, fracRow y.1 ++ fracRow y.2⟩) = sharesL (sharesM ((twoOf (rowsS s) m.toNat k.toNat).map lineOf) i.toNat)
  rw [shares_are hl]
  cases sharesM ((twoOf (rowsS s) m.toNat k.toNat).map lineOf) i.toNat with
  | none => rfl
  | some y => rfl
end BwW
end

section
set_option Elab.async false
set_option linter.all false
set_option maxRecDepth 100000
set_option maxHeartbeats 2000000
namespace BwW
open Bw VaskyBase Vaskyc PySem PySem.Spec PyProof.Rows L2 BwK
open VaskycNeutral (encode)
def ofC (x : C3) : List (List Int) := (x.1 :: x.2.1) :: (if x.1 < 5 then [x.2.2] else [])
def stM (o : Vaskyc.Obj) : St0 := o.map fun s => (upsS s, rowsS s)
theorem readB_agree (B : Bytes) : Agree (fun (a : List Bool × List (List Int)) (s : Vaskya.Sheet) => a.1 = upsS s ∧ a.2 = rowsS s) (readB B) (Vaskya.read B) := by
  rw [read_is]
  unfold readB
  cases e : tokens B with
  | error f => exact rfl
  | ok l => exact read_agree (tokens_ended e).1
theorem load_ok (o : Vaskyc.Obj) (ns W : List Int) : stM (Vaskyc.step o (.load (VaskycNeutral.bytesOf W))).1 = stOf (stM o) 0 W ∧ encode (Vaskyc.step o (.load (VaskycNeutral.bytesOf W))).2 = outOf (stM o) 0 ns W := by
  have h := readB_agree (VaskycNeutral.bytesOf W)
  unfold stOf outOf
  rw [if_pos rfl, if_pos rfl]
  show stM (Vaskya.step o (.load (VaskycNeutral.bytesOf W))).1 = _ ∧ encode (Vaskya.step o (.load (VaskycNeutral.bytesOf W))).2 = _
  unfold Vaskya.step
  dsimp only
  cases e1 : readB (VaskycNeutral.bytesOf W) with
  | error f =>
    cases e2 : Vaskya.read (VaskycNeutral.bytesOf W) with
    | error g =>
      rw [e1, e2] at h
      obtain rfl : f = g := h
      exact ⟨rfl, rfl⟩
    | ok s => rw [e1, e2] at h; exact h.elim
  | ok x =>
    cases e2 : Vaskya.read (VaskycNeutral.bytesOf W) with
    | error g => rw [e1, e2] at h; exact h.elim
    | ok s =>
      rw [e1, e2] at h
      obtain ⟨h1, h2⟩ := h
      obtain ⟨ups, rows⟩ := x
      dsimp only at h1 h2
      subst h1 h2
      refine ⟨rfl, ?_⟩
      show [(1 : Int), (s.ms.length : Int), (s.items.length : Int)] = [1, ((upsS s).length : Int), ((rowsS s).length : Int)]
      rw [upsS_len, rowsS_len]
/-- what any other call answers -/
theorem other_ok {word : Int} {ns W : List Int} {k : Vaskyc.Call} (hw : word ≠ 0) (hk : ∀ s, Vaskyc.step (some s) k = (some s, looked s k)) (hn : Vaskyc.step none k = (none, one (-1)))
    (h : ∀ s, encode (looked s k) = outE (gW word (upsS s) (rowsS s) ns W)) (o : Vaskyc.Obj) : stM (Vaskyc.step o k).1 = stOf (stM o) word W ∧ encode (Vaskyc.step o k).2 = outOf (stM o) word ns W := by
  unfold stOf outOf
  rw [if_neg hw, if_neg hw]
  cases o with
  | none =>
    rw [hn]
    exact ⟨rfl, rfl⟩
  | some s =>
    rw [hk]
    exact ⟨rfl, h s⟩
theorem bytes_v : ∀ {b : List Int}, (b.all fun z => VaskycNeutral.natural z 8) = true → b.map V.int = byV (VaskycNeutral.bytesOf b) ∧ NeutralIO.bytes b = true
  | [], _ => ⟨rfl, rfl⟩
  | z :: b, h => by
    rw [List.all_cons, Bool.and_eq_true] at h
    obtain ⟨h1, h2⟩ := bytes_v h.2
    have hz := h.1
    unfold VaskycNeutral.natural at hz
    rw [Bool.and_eq_true, decide_eq_true_eq, decide_eq_true_eq] at hz
    obtain ⟨z0, z1⟩ := hz
    have z2 : z < 256 := z1
    constructor
    · show V.int z :: b.map V.int = V.int ((UInt8.ofNat z.toNat).toNat : Int) :: byV (VaskycNeutral.bytesOf b)
      rw [h1]
      congr 2
      rw [UInt8.toNat_ofNat']
      omega
    · unfold NeutralIO.bytes at h2 ⊢
      rw [List.all_cons, h2, Bool.and_true, Bool.and_eq_true, decide_eq_true_eq, decide_eq_true_eq]
      omega
def StepIs (c : List (List Int)) (x : C3) : Prop := ∀ o, stM (VaskycNeutral.step o c).1 = stOf (stM o) x.1 x.2.2 ∧ (VaskycNeutral.step o c).2 = outOf (stM o) x.1 x.2.1 x.2.2
theorem mkC {word : Int} {ns W : List Int} (h0 : 0 ≤ word) (h7 : word ≤ 7) (n : ns.length = arW word) (w : W.length < 10000) (e : 5 ≤ word → W = []) (b : word = 0 → W.map V.int = byV (VaskycNeutral.bytesOf W)) : OkC (word, ns, W) := ⟨h0, h7, n, w, e, b⟩
theorem call_ok {c : List (List Int)} (h : VaskycNeutral.asked1 c = true) : ∃ x : C3, OkC x ∧ c = ofC x ∧ StepIs c x := by
  have len : ∀ {l : List Int} {n : Nat} {p : Bool}, n ≤ 8192 → (p && decide (l.length ≤ n)) = true → l.length < 10000 := fun {l n p} hn z => by
    rw [Bool.and_eq_true, decide_eq_true_eq] at z
    omega
  unfold VaskycNeutral.asked1 at h
  split at h
  · rename_i b
    rw [Bool.and_eq_true, decide_eq_true_eq] at h
    obtain ⟨b1, b2⟩ := bytes_v h.1
    refine ⟨(0, [], b), mkC (by decide) (by decide) rfl (by show b.length < 10000; omega) (fun z => absurd z (by decide)) (fun _ => b1), rfl, fun o => ?_⟩
    have e : VaskycNeutral.callOf [[0], b] = some (.load (VaskycNeutral.bytesOf b)) := if_pos b2
    unfold VaskycNeutral.step
    rw [e]
    exact load_ok o [] b
  · rename_i l
    exact ⟨(1, [], l), mkC (by decide) (by decide) rfl (len (by decide) h) (fun z => absurd z (by decide)) (fun z => absurd z (by decide)), rfl, other_ok (word := 1) (by decide) (fun _ => rfl) rfl fun s => scores_ok s l⟩
  · rename_i k l
    rw [Bool.and_eq_true] at h
    exact ⟨(2, [k], l), mkC (by decide) (by decide) rfl (len (by decide) h.2) (fun z => absurd z (by decide)) (fun z => absurd z (by decide)), rfl, other_ok (word := 2) (by decide) (fun _ => rfl) rfl fun s => top_ok s k l⟩
  · rename_i k l
    rw [Bool.and_eq_true] at h
    exact ⟨(3, [k], l), mkC (by decide) (by decide) rfl (len (by decide) h.2) (fun z => absurd z (by decide)) (fun z => absurd z (by decide)), rfl, other_ok (word := 3) (by decide) (fun _ => rfl) rfl fun s => looks_ok s k l⟩
  · rename_i k l
    rw [Bool.and_eq_true] at h
    exact ⟨(4, [k], l), mkC (by decide) (by decide) rfl (len (by decide) h.2) (fun z => absurd z (by decide)) (fun z => absurd z (by decide)), rfl, other_ok (word := 4) (by decide) (fun _ => rfl) rfl fun s => rank_ok s k l⟩
  · rename_i m k
    exact ⟨(5, [m, k], []), mkC (by decide) (by decide) rfl (by show 0 < 10000; decide) (fun _ => rfl) (fun z => absurd z (by decide)), rfl, other_ok (word := 5) (by decide) (fun _ => rfl) rfl fun s => between_ok s m k []⟩
  · rename_i m k p d
    exact ⟨(6, [m, k, p, d], []), mkC (by decide) (by decide) rfl (by show 0 < 10000; decide) (fun _ => rfl) (fun z => absurd z (by decide)), rfl, other_ok (word := 6) (by decide) (fun _ => rfl) rfl fun s => best_ok s m k p d []⟩
  · rename_i i m k
    exact ⟨(7, [i, m, k], []), mkC (by decide) (by decide) rfl (by show 0 < 10000; decide) (fun _ => rfl) (fun z => absurd z (by decide)), rfl, other_ok (word := 7) (by decide) (fun _ => rfl) rfl fun s => shares_ok s i m k []⟩
  · cases h
/-! ### the calls read off -/
def flat0 (c : List (List Int)) : List Int := match c with
  | [] => []
  | h :: rs => h ++ rs.flatMap fun r => (r.length : Int) :: r
theorem flat_of (x : C3) : flat0 (ofC x) = flatC x := by
  obtain ⟨word, ns, W⟩ := x
  show (word :: ns) ++ _ = word :: (ns ++ rowC word W)
  unfold rowC
  dsimp only
  split <;> simp
theorem row_flat {l x t : List Int} (h : PyFlat.row l = some (x, t)) : l = (x.length : Int) :: x ++ t := by
  cases l with
  | nil => cases h
  | cons n r =>
    by_cases c : 0 ≤ n ∧ n.toNat ≤ r.length
    · have e : PyFlat.row (n :: r) = some (r.take n.toNat, r.drop n.toNat) := if_pos c
      rw [e] at h
      cases h
      rw [List.length_take, Nat.min_eq_left c.2, List.cons_append, List.take_append_drop]
      congr 1
      omega
    · have e : PyFlat.row (n :: r) = none := if_neg c
      rw [e] at h
      cases h
theorem rows_flat : ∀ {k : Nat} {l t : List Int} {xs : List (List Int)}, PyFlat.rows k l = some (xs, t) → l = (xs.flatMap fun r => (r.length : Int) :: r) ++ t
  | 0, l, t, xs, h => by cases h; rfl
  | k + 1, l, t, xs, h => by
    unfold PyFlat.rows at h
    cases e1 : PyFlat.row l with
    | none => rw [e1] at h; cases h
    | some y =>
      obtain ⟨x, s⟩ := y
      rw [e1] at h
      dsimp only at h
      cases e2 : PyFlat.rows k s with
      | none => rw [e2] at h; cases h
      | some z =>
        obtain ⟨xs', t'⟩ := z
        rw [e2] at h
        cases h
        rw [row_flat e1, rows_flat e2, List.flatMap_cons, List.append_assoc]
theorem call_flat {shape : Int → Option (Nat × Nat)} {l t : List Int} {c : List (List Int)} (h : PyFlat.call shape l = some (c, t)) : l = flat0 c ++ t := by
  cases l with
  | nil => cases h
  | cons p r =>
    unfold PyFlat.call at h
    dsimp only at h
    cases e : shape p with
    | none => rw [e] at h; cases h
    | some nk =>
      obtain ⟨n, k⟩ := nk
      rw [e] at h
      dsimp only at h
      split at h
      · cases h
      · cases e2 : PyFlat.rows k (r.drop n) with
        | none => rw [e2] at h; cases h
        | some z =>
          obtain ⟨xs, t'⟩ := z
          rw [e2] at h
          cases h
          have := rows_flat e2
          show p :: r = (p :: r.take n) ++ _ ++ t
          rw [List.append_assoc, ← this, List.cons_append, List.take_append_drop]
theorem calls_flat {shape : Int → Option (Nat × Nat)} : ∀ {f : Nat} {l : List Int} {cs : List (List (List Int))}, PyFlat.calls shape f l = some cs → l = cs.flatMap flat0
  | f, [], cs, h => by
    unfold PyFlat.calls at h
    cases h
    rfl
  | 0, _ :: _, cs, h => by cases h
  | f + 1, p :: r, cs, h => by
    unfold PyFlat.calls at h
    cases e1 : PyFlat.call shape (p :: r) with
    | none => rw [e1] at h; cases h
    | some y =>
      obtain ⟨c, t⟩ := y
      rw [e1] at h
      dsimp only at h
      cases e2 : PyFlat.calls shape f t with
      | none => rw [e2] at h; cases h
      | some cs' =>
        rw [e2] at h
        cases h
        rw [call_flat e1, calls_flat e2, List.flatMap_cons]
theorem whole_id (c : List (List Int)) : PyVaskyc.whole c = c := by
  unfold PyVaskyc.whole
  split <;> rfl
theorem told_is : ∀ {xs : List C3} {cs : List (List (List Int))} {o : Vaskyc.Obj}, cs.length = xs.length → (∀ (i : Nat) c x, cs[i]? = some c → xs[i]? = some x → StepIs c x) → PyFlat.told (PyFlat.played VaskycNeutral.step o cs) = tellM (stM o) xs
  | [], [], o, _, _ => rfl
  | x :: xs, c :: cs, o, hl, h => by
    obtain ⟨h1, h2⟩ := h 0 c x rfl rfl o
    have ih := told_is (xs := xs) (cs := cs) (o := (VaskycNeutral.step o c).1) (Nat.succ.inj hl) fun i c' x' hc hx => h (i + 1) c' x' hc hx
    unfold PyFlat.told at ih ⊢
    unfold PyFlat.played tellM
    rw [List.flatMap_cons, ih, h1, h2]
    rfl
theorem all_ok : ∀ {cs : List (List (List Int))}, (∀ c ∈ cs, VaskycNeutral.asked1 c = true) → ∃ xs : List C3, cs.length = xs.length ∧ (∀ x ∈ xs, OkC x) ∧ cs.flatMap flat0 = xs.flatMap flatC ∧ ∀ (i : Nat) c x, cs[i]? = some c → xs[i]? = some x → StepIs c x
  | [], _ => ⟨[], rfl, fun _ h => absurd h (by simp), rfl, fun _ _ _ h => by simp at h⟩
  | c :: cs, h => by
    obtain ⟨xs, h1, h2, h3, h4⟩ := all_ok fun c' hc => h c' (List.mem_cons_of_mem _ hc)
    obtain ⟨x, x1, x2, x3⟩ := call_ok (h c (List.mem_cons_self ..))
    refine ⟨x :: xs, congrArg (· + 1) h1, fun y hy => ?_, ?_, fun i c' x' hc hx => ?_⟩
    · rcases List.mem_cons.mp hy with rfl | hy
      · exact x1
      · exact h2 y hy
    · rw [List.flatMap_cons, List.flatMap_cons, h3, x2, flat_of]
    · cases i with
      | zero =>
        cases hc
        cases hx
        exact x3
      | succ i => exact h4 i c' x' hc hx
theorem law_is {l : List Int} (h : PyVaskyc.answers_asked l = true) : ∃ xs : List C3, l = xs.flatMap flatC ∧ xs.length ≤ 40 ∧ (∀ x ∈ xs, OkC x) ∧ tellM none xs = PyVaskyc.answers l := by
  unfold PyVaskyc.answers_asked at h
  cases e : PyFlat.calls PyVaskyc.shape l.length l with
  | none => rw [e] at h; cases h
  | some raw =>
    rw [e] at h
    dsimp only at h
    have hm : raw.map PyVaskyc.whole = raw := by
      rw [show PyVaskyc.whole = id from funext whole_id, List.map_id]
    rw [hm] at h
    simp only [Bool.and_eq_true] at h
    obtain ⟨⟨⟨⟨_, h40⟩, _⟩, hask⟩, _⟩ := h
    unfold VaskycNeutral.asked at hask
    rw [Bool.and_eq_true, List.all_eq_true] at hask
    obtain ⟨xs, x1, x2, x3, x4⟩ := all_ok hask.1
    refine ⟨xs, by rw [calls_flat e, x3], ?_, x2, ?_⟩
    · unfold PyFlat.atMost at h40
      have := of_decide_eq_true h40
      omega
    · unfold PyVaskyc.answers PyVaskyc.calls
      rw [e]
      dsimp only
      rw [hm]
      exact (told_is (o := VaskycNeutral.start) x1 x4).symm
end BwW
end

section
set_option Elab.async false
set_option linter.all false
set_option maxRecDepth 100000
set_option maxHeartbeats 2000000
namespace BwW
open PySem PySem.Spec PyProof.Rows L2 BwK
open LamX (Tabs TabS TabB)
/-! ### what the top has laid down, read off its heap's part -/
def adr (K : PySem.W.Frag) (x : Str) : Addr := match PySem.W.nsIn K mainGlobals x with
  | some (some (.ref a)) => a
  | _ => 0
def tabC (K : PySem.W.Frag) (x : Str) : Addr := ((PySem.W.tabIn K x).getD (0, 0)).1
def tabP (K : PySem.W.Frag) (x : Str) : Addr := ((PySem.W.tabIn K x).getD (0, 0)).2
/-- the addresses -/
abbrev adsOf (K : PySem.W.Frag) (oc op fc fp : Addr) : Ads :=
  { cToken := adr K "Token", cListing := adr K "Listing", cReader := adr K "Reader", cLooks := adr K "Looks", cHolder := adr K "Holder", cFault := adr K "Fault", cRefused := adr K "Refused", aBLANKS := adr K "BLANKS", aSIGNS := adr K "SIGNS", aWORDS := adr K "WORDS",
    aNOTHING := adr K "NOTHING", aALL := adr K "ALL", aNUMBER_COUNTS := adr K "NUMBER_COUNTS", aHAS_ROW := adr K "HAS_ROW", aASKING := adr K "ASKING", f_scores := adr K "scores", f_top := adr K "top", f_looks := adr K "looks", f_rank := adr K "rank", f_between := adr K "between",
    f_best_for := adr K "best_for", f_shares := adr K "shares", oc := oc, op := op, fc := fc, fp := fp }
section
variable {K : PySem.W.Frag} {h : Heap} {mg : Str → Option Value} {x q : Str} {f C a : Addr} {st : Stmt}
theorem adr_is (e : PySem.W.nsIn K mainGlobals x = some (some (.ref f))) : adr K x = f := by
  unfold adr
  rw [e]
theorem gi_mk {n : Int} {t : Nat} (X : K.In h) (G : h.Ns mainGlobals mg) (e : PySem.W.nsIn K mainGlobals x = some (some (.int n t))) : ∃ t, mg x = some (.int n t) := ⟨t, PySem.W.mg_of X G e⟩
theorem gs_mk {n : Str} {t : Nat} (X : K.In h) (G : h.Ns mainGlobals mg) (e : PySem.W.nsIn K mainGlobals x = some (some (.str n t))) : ∃ t, mg x = some (.str n t) := ⟨t, PySem.W.mg_of X G e⟩
theorem gr_mk (X : K.In h) (G : h.Ns mainGlobals mg) (e : PySem.W.nsIn K mainGlobals x = some (some (.ref a))) : mg x = some (.ref (adr K x)) := by
  rw [adr_is e]
  exact PySem.W.mg_of X G e
theorem gn_mk (X : K.In h) (G : h.Ns mainGlobals mg) (e : PySem.W.nsIn K mainGlobals x = some none) : mg x = none := PySem.W.mg_none_of X G e
theorem top_mk {od an : Option Addr} {sl : Array (Option Value)} {oc kV dc pm cd ct : Value} (X : K.In h) (G : h.Ns mainGlobals mg) (e : PySem.W.nsIn K mainGlobals x = some (some (.ref f)))
    (l : K.lookup f = some ⟨oc, od, .func (PySem.W.fnOf x x (defArgs st) (defBody st) (defScope st) .none kV dc pm an cd ct), sl⟩) (c : PySem.W.codeIn K cd x = true) (k : PySem.W.keepIn K (.ref f) = true) : TopFn K mg x st := ⟨f, _, fun_mk l c k, PySem.W.mg_of X G e⟩
theorem topA_mk {od an : Option Addr} {sl : Array (Option Value)} {oc kV dc pm cd ct : Value} (X : K.In h) (G : h.Ns mainGlobals mg) (e : PySem.W.nsIn K mainGlobals x = some (some (.ref f)))
    (l : K.lookup f = some ⟨oc, od, .func (PySem.W.fnOf x x (defArgs st) (defBody st) (defScope st) .none kV dc pm an cd ct), sl⟩) (c : PySem.W.codeIn K cd x = true) (k : PySem.W.keepIn K (.ref f) = true) : TopFnA K mg x st (adr K x) := by
  rw [adr_is e]
  exact ⟨_, fun_mk l c k, PySem.W.mg_of X G e⟩
theorem topC_mk {od an : Option Addr} {sl : Array (Option Value)} {oc kV dc pm cd ct : Value} {c' P' : Addr} (X : K.In h) (G : h.Ns mainGlobals mg) (e : PySem.W.nsIn K mainGlobals x = some (some (.ref f)))
    (l : K.lookup f = some ⟨oc, od, .func (PySem.W.fnOf x x (defArgs st) (defBody st) (defScope st) .none kV dc pm an cd ct), sl⟩) (c : PySem.W.codeIn K cd x = true) (k : PySem.W.keepIn K (.ref f) = true) (t : PySem.W.tabIn K x = some (c', P')) : TopFnC K mg x st (tabC K x) := by
  refine ⟨f, _, fun_mk l c k, PySem.W.mg_of X G e, ?_⟩
  have ec : tabC K x = c' := by
    unfold tabC
    rw [t]
    rfl
  rw [ec]
  unfold PySem.W.tabIn at t
  rw [e] at t
  dsimp only at t
  rw [l] at t
  dsimp only at t
  split at t
  · split at t
    · split at t
      · cases t
        rfl
      · cases t
    · cases t
  · cases t
theorem no_nil : ∀ a ∈ ([] : List Str), NoAttr K C a := fun _ z => absurd z (by simp)
theorem no_cons {b : Str} {r : List Str} (e : PySem.W.findIn K (.ref C) b = some none) (n : ∀ a ∈ r, NoAttr K C a) : ∀ a ∈ b :: r, NoAttr K C a := fun a z => by
  rcases List.mem_cons.mp z with rfl | z
  · exact e
  · exact n a z
theorem cls_mk {as : List Str} {od an : Option Addr} {sl : Array (Option Value)} {oc kV dc pm cd ct : Value} (X : K.In h) (G : h.Ns mainGlobals mg) (e : PySem.W.nsIn K mainGlobals x = some (some (.ref C)))
    (a1 : PySem.W.findIn K (.ref C) "__init__" = some (some (.ref f))) (i1 : PySem.W.isFn K (.ref f) = true) (l : K.lookup f = some ⟨oc, od, .func (PySem.W.fnOf "__init__" q (defArgs st) (defBody st) (defScope st) .none kV dc pm an cd ct), sl⟩) (c : PySem.W.codeIn K cd q = true) (k : PySem.W.keepIn K (.ref f) = true)
    (pg : PySem.W.plainGet K C Str.empty = true) (hd : PySem.W.hasDictIn K C = true) (po : PySem.W.plainOver K C = true) (sa : PySem.W.findIn K (.ref C) "__setattr__" = some (some (.builtin "object.__setattr__"))) (mk : PySem.W.makesIn K C = true) (kc : PySem.W.keepIn K (.ref C) = true)
    (no : ∀ a ∈ as, NoAttr K C a) : ClsTx K mg x q (adr K x) st as := by
  rw [adr_is e]
  exact ⟨⟨f, _, ⟨mk, a1, i1, kc⟩, fun_mk l c k⟩, ⟨pg, hd, po, sa⟩, no, PySem.W.mg_of X G e⟩
theorem exm_mk (h1 : PySem.W.subIn K (.ref C) (.type "BaseException") = some true) (h2 : PySem.W.isClsIn K C = true) (h3 : PySem.W.typeIn K (.ref C) = some (.type "type")) (h4 : PySem.W.subIn K (.ref C) (.ref C) = some true) : PySem.W.exmOne K (.ref C) (.ref C) = some true := by
  unfold PySem.W.exmOne
  unfold PySem.W.isClsIn at h2
  unfold PySem.W.kitCls
  simp only [h1, h2, h3, h4]
  simp
theorem exc_mk {as : List Str} {od an : Option Addr} {sl : Array (Option Value)} {oc kV dc pm cd ct : Value} (X : K.In h) (G : h.Ns mainGlobals mg)
    {nm q' : Str} {N : Addr} {bs bm : List Value} {sn : List Str} {sub : List Value} {ab : Bool} {col : Option Bool} {dd : Option Addr} {m0 m1 m2 m3 m5 : Option Value}
    (e : PySem.W.nsIn K mainGlobals x = some (some (.ref C)))
    (xL : K.lookup C = some (excClassObj nm q' C N bs bm true sn sub ab col dd m0 m1 m2 m3 m5 "ValueError.__new__")) (xV : PySem.HandSPX.refsVE bm = true)
    (sa : PySem.W.findIn K (.ref C) "__setattr__" = some (some (.builtin "object.__setattr__"))) (ga : PySem.W.findIn K (.ref C) "__getattribute__" = some (some (.builtin "BaseException.__getattribute__"))) (gg : PySem.W.findIn K (.ref C) "__getattr__" = some none)
    (a1 : PySem.W.findIn K (.ref C) "__init__" = some (some (.ref f))) (t1 : PySem.W.typeIn K (.ref f) = some (.type "function")) (l : K.lookup f = some ⟨oc, od, .func (PySem.W.fnOf "__init__" q (defArgs st) (defBody st) (defScope st) .none kV dc pm an cd ct), sl⟩) (c : PySem.W.codeIn K cd q = true) (k : PySem.W.keepIn K (.ref f) = true)
    (kC : PySem.W.keepIn K (.ref C) = true) (eC : PySem.W.subIn K (.ref C) (.type "BaseException") = some true) (tC : PySem.W.typeIn K (.ref C) = some (.type "type")) (hC : PySem.W.hasDictIn K C = true) (iC : PySem.W.isClsIn K C = true) (sC : PySem.W.subIn K (.ref C) (.ref C) = some true)
    (no : ∀ a ∈ as, NoAttr K C a) : ExcTx K mg x q (adr K x) st as := by
  rw [adr_is e]
  exact ⟨⟨⟨nm, q', N, bs, bm, sn, sub, ab, col, dd, m0, m1, m2, m3, m5, xL, xV⟩, sa, eC, tC, kC⟩, ⟨ga, gg, eC, hC⟩, ⟨f, _, a1, t1, fun_mk l c k⟩, no, PySem.W.mg_of X G e, exm_mk eC iC tC sC⟩
theorem tup_mk {xs : List V} {its : List Value} {n : Nat} {od : Option Addr} {sl : Array (Option Value)} (e : PySem.W.nsIn K mainGlobals x = some (some (.ref a))) (l : K.lookup a = some ⟨.type "tuple", od, .seq its.toArray n, sl⟩) (hz : its.length ≤ 1000) (r : Vals xs its) : TupK K (adr K x) xs := fun H => by
  rw [adr_is e]
  exact .inr ⟨_, its.toArray, n, l, rfl, rfl, by rw [List.size_toArray]; exact Nat.le_trans hz (by decide), r⟩
theorem rel_ite {c : Prop} [Decidable c] {v v' : Option V} {u u' : Option Value} (h1 : RelO v u) (h2 : RelO v' u') : RelO (if c then v else v') (if c then u else u') := by
  split
  · exact h1
  · exact h2
theorem fb_nil (k : Int) : findBy Value.isInt ([] : List DictEntry).toArray k = none := rfl
theorem fb_cons (k0 : Int) (t : Nat) (v : Value) (hs : Int) (r : List DictEntry) (k : Int) : findBy Value.isInt ((⟨hs, .int k0 t, v⟩ : DictEntry) :: r).toArray k = if k = k0 then some v else findBy Value.isInt r.toArray k := by
  unfold findBy
  rw [List.find?_toArray, List.find?_toArray, List.find?_cons]
  show Option.map _ (match (k0 == k) with | true => _ | false => _) = _
  by_cases z : k = k0
  · subst z
    rw [if_pos rfl, beq_self_eq_true]
    rfl
  · rw [if_neg z, show (k0 == k) = false from beq_false_of_ne fun y => z y.symm]
theorem ik_nil : PySem.IntKeys ([] : List DictEntry).toArray := fun e he => by simp at he
theorem ik_cons {k0 : Int} {t : Nat} {v : Value} {hs : Int} {r : List DictEntry} (e : hs = hashInt k0) (n : PySem.IntKeys r.toArray) : PySem.IntKeys ((⟨hs, .int k0 t, v⟩ : DictEntry) :: r).toArray := fun d hd => by
  rw [List.mem_toArray] at hd
  rcases List.mem_cons.mp hd with rfl | hd
  · exact ⟨k0, t, rfl, e⟩
  · exact n d (List.mem_toArray.mpr hd)
theorem sign_mk {n : Nat} {h1 h2 h3 h4 : Int} {t1 t2 t3 t4 u1 u2 u3 u4 : Nat} (e : PySem.W.nsIn K mainGlobals x = some (some (.ref a))) (s : (a == sysModules) = false)
    (l : K.lookup a = some ⟨.type "dict", none, .dict [⟨h1, .int 44 t1, .str "," u1⟩, ⟨h2, .int 58 t2, .str ":" u2⟩, ⟨h3, .int 59 t3, .str ";" u3⟩, ⟨h4, .int 45 t4, .str "-" u4⟩].toArray n, #[]⟩) (e1 : h1 = hashInt 44) (e2 : h2 = hashInt 58) (e3 : h3 = hashInt 59) (e4 : h4 = hashInt 45) : IntDct K (adr K x) signF := by
  rw [adr_is e]
  refine ⟨s, _, n, l, ik_cons e1 (ik_cons e2 (ik_cons e3 (ik_cons e4 ik_nil))), fun k => ?_⟩
  unfold signF
  rw [fb_cons, fb_cons, fb_cons, fb_cons, fb_nil]
  exact rel_ite ⟨_, rfl⟩ (rel_ite ⟨_, rfl⟩ (rel_ite ⟨_, rfl⟩ (rel_ite ⟨_, rfl⟩ trivial)))
theorem ask_mk {oc op fc fp : Addr} {n : Nat} {h1 h2 h3 h4 h5 h6 h7 : Int} {t1 t2 t3 t4 t5 t6 t7 : Nat} {f1 f2 f3 f4 f5 f6 f7 : Addr} (e : PySem.W.nsIn K mainGlobals x = some (some (.ref a))) (s : (a == sysModules) = false)
    (l : K.lookup a = some ⟨.type "dict", none, .dict [⟨h1, .int 1 t1, .ref f1⟩, ⟨h2, .int 2 t2, .ref f2⟩, ⟨h3, .int 3 t3, .ref f3⟩, ⟨h4, .int 4 t4, .ref f4⟩, ⟨h5, .int 5 t5, .ref f5⟩, ⟨h6, .int 6 t6, .ref f6⟩, ⟨h7, .int 7 t7, .ref f7⟩].toArray n, #[]⟩)
    (e1 : h1 = hashInt 1) (e2 : h2 = hashInt 2) (e3 : h3 = hashInt 3) (e4 : h4 = hashInt 4) (e5 : h5 = hashInt 5) (e6 : h6 = hashInt 6) (e7 : h7 = hashInt 7)
    (g1 : adr K "scores" = f1) (g2 : adr K "top" = f2) (g3 : adr K "looks" = f3) (g4 : adr K "rank" = f4) (g5 : adr K "between" = f5) (g6 : adr K "best_for" = f6) (g7 : adr K "shares" = f7) : IntDct K (adr K x) (askF (adsOf K oc op fc fp)) := by
  rw [adr_is e]
  refine ⟨s, _, n, l, ik_cons e1 (ik_cons e2 (ik_cons e3 (ik_cons e4 (ik_cons e5 (ik_cons e6 (ik_cons e7 ik_nil)))))), fun k => ?_⟩
  unfold askF
  dsimp only [adsOf]
  rw [fb_cons, fb_cons, fb_cons, fb_cons, fb_cons, fb_cons, fb_cons, fb_nil, g1, g2, g3, g4, g5, g6, g7]
  exact rel_ite rfl (rel_ite rfl (rel_ite rfl (rel_ite rfl (rel_ite rfl (rel_ite rfl (rel_ite rfl trivial))))))
end
/-- the promise of answers, by the two stores of code -/
def spEnd (cs : List (Addr × Addr)) (K : PySem.W.Frag) : Sp := match cs with
  | [o, f] => sp_answers K (adsOf K o.1 o.2 f.1 f.2)
  | _ => fun _ _ _ _ => True
theorem binds_to {K : PySem.W.Frag} {fd : FuncData} {f : Addr} {st : Stmt} {x q : Str} (F : Fun K x q st f fd) (hb : BindsFn x q st ["calls"]) (s : Shared) (us : List Value) (hu : us.length = (["calls"] : List Str).length) : BindsTo s fd ⟨us, []⟩ ((["calls"] : List Str).zip us) := by
  obtain ⟨oc, od, kV, doc, pm, an, cdv, ct, osl, rfl, lk, hcd⟩ := F.ex
  exact .of_eq (hb kV doc pm an cdv ct us hu)
theorem op_mk {K : PySem.W.Frag} {x y : Str} {c1 P1 c2 P2 : Addr} (t1 : PySem.W.tabIn K x = some (c1, P1)) (t2 : PySem.W.tabIn K y = some (c2, P2)) (h : (P1 == P2) = false) : tabP K x ≠ tabP K y := by
  unfold tabP
  rw [t1, t2]
  exact fun z => by
    have z' : P1 = P2 := z
    rw [z', beq_self_eq_true] at h
    cases h
theorem tab_eq {K : PySem.W.Frag} {x : Str} {c P : Addr} (t : PySem.W.tabIn K x = some (c, P)) : c = tabC K x ∧ P = tabP K x := by
  unfold tabC tabP
  rw [t]
  exact ⟨rfl, rfl⟩
/-- the function of the promise, by what the top has laid down -/
theorem end_mk {P q : Program} {w : World} {K : PySem.W.Frag} {mg mb : Str → Option Value} {mean : ExcName → Option Value} {loose : List Str} {fa : Addr} {h : Heap} {d1 d2 : DefRec} {c1 P1 c2 P2 : Addr} (KX : K.In h) (T : Top q loose mean mg mb h) (hmg : mg "answers" = some (.ref fa))
    (t1 : PySem.W.tabIn K "in_order" = some (c1, P1)) (t2 : PySem.W.tabIn K "first_line" = some (c2, P2)) (n1 : K.lookup P1 = none) (n2 : K.lookup P2 = none) (r1 : (recsOf q).find? (fun e => e.name == ("in_order" : Str)) = some d1) (r2 : (recsOf q).find? (fun e => e.name == ("first_line" : Str)) = some d2) (F : TopFn K mg "answers" s_answers)
    (hX : ∀ base, TabB base mg (tabC K "in_order") (tabP K "in_order") → TabB base mg (tabC K "first_line") (tabP K "first_line") → Tx K mg base (adsOf K (tabC K "in_order") (tabP K "in_order") (tabC K "first_line") (tabP K "first_line"))) :
    ∃ (cs : List (Addr × Addr)) (fd : FuncData), (∀ p ∈ cs, h.get? p.2 = some { cls := .none, data := .fields #[] }) ∧ (∀ p ∈ cs, K.lookup p.2 = none) ∧ (∀ p ∈ cs, PySem.W.CodeHd h p.1 p.2) ∧
      (∀ (s : Shared) (us : List Value), us.length = (["calls"] : List Str).length → BindsTo s fd ⟨us, []⟩ ((["calls"] : List Str).zip us)) ∧
      ∀ base : Heap, K.In base → base.Ns mainGlobals mg → (∀ p ∈ cs, TabB base mg p.1 p.2) → FnOk P w K mg base CX0 11 fa fd ["calls"] (spEnd cs K) := by
  obtain ⟨a1, b1⟩ := PySem.W.tab_of T KX r1 t1
  obtain ⟨a2, b2⟩ := PySem.W.tab_of T KX r2 t2
  obtain ⟨f, fd, Ff, hf⟩ := F
  rw [hmg] at hf
  obtain rfl : fa = f := by injection hf with z; injection z
  obtain ⟨e1, e2⟩ := tab_eq t1
  obtain ⟨e3, e4⟩ := tab_eq t2
  rw [← e1, ← e2, ← e3, ← e4] at hX
  have two : ∀ {C : Addr × Addr → Prop}, C (c1, P1) → C (c2, P2) → ∀ p ∈ [(c1, P1), (c2, P2)], C p := fun x y p hp => by
    rcases List.mem_cons.mp hp with rfl | hp
    · exact x
    · rw [List.mem_singleton.mp hp]
      exact y
  exact ⟨[(c1, P1), (c2, P2)], fd, two b1 b2, two n1 n2, two a1 a2, binds_to Ff (fun _ _ _ _ _ _ us hl => match us, hl with | [_], _ => rfl), fun base _ _ hb => ok_answers (hX base (hb _ (List.mem_cons_self ..)) (hb _ (List.mem_cons_of_mem _ (List.mem_cons_self ..)))) Ff⟩
/-- the promise, by the law -/
theorem end_sp {cs : List (Addr × Addr)} {K : PySem.W.Frag} {H : Hp} {a : Addr} {l : List Int} {Q : VK} {E : XK} (h0 : ∀ p ∈ cs, H p.2 = some (.tbl #[])) (hask : PyVaskyc.answers_asked l = true) (hs : SqL K H a (l.map V.int))
    (q : ∀ p H', H' p = some (.lst ((PyVaskyc.answers l).map V.int)) → Q (.ref p) H') : spEnd cs K [.ref a] H Q E := by
  unfold spEnd
  split
  · rename_i o f
    obtain ⟨xs, x1, x2, x3, x4⟩ := law_is hask
    refine ⟨a, l, xs, rfl, hs, x1, x2, x3, fun t ht => ?_, fun p H' _ _ hp => q p H' (by rw [← x4]; exact hp)⟩
    rcases List.mem_cons.mp ht with rfl | ht
    · exact TabS.nil (h0 o (List.mem_cons_self ..))
    · rw [List.mem_singleton.mp ht]
      exact TabS.nil (h0 f (List.mem_cons_of_mem _ (List.mem_cons_self ..)))
  · trivial
end BwW
end
open PySem PySem.W PyProof.Rows in
set_option maxRecDepth 100000 in
set_option maxHeartbeats 0 in
theorem PySem.Challenge.cw_bestweights_s01_answers_holds : PySem.Challenge.rw_bestweights_s01_answers.Holds := by
  w_on; k_headS; (case hw => exact ⟨[.list [.int 0, .int 0]], by decide +kernel, by decide +kernel⟩)
  k_fillS
  refine BwK.walk_specT (r := PySem.Challenge.rw_bestweights_s01_answers) (k := 11) (ps := ["calls"]) (sp := BwW.spEnd) (by decide +kernel) rfl rfl ⟨rfl, by decide, by decide⟩ (fun w h Y => PySem.W.kIn_of Y) ?F ?S
  case F =>
    intro w mean mg mb fa h Y KX T G hmg
    refine' BwW.end_mk KX T hmg ?t1 ?t2 ?n1 ?n2 ?r1 ?r2 ?F0 ?hX
    (case t1 => rfl); (case t2 => rfl); (case n1 => rfl); (case n2 => rfl); (case r1 => rfl); (case r2 => rfl)
    (case F0 => refine' BwW.top_mk KX G ?e ?l ?c ?k; (case e => k_is); (case l => k_is); (case c => k_is); (case k => k_is))
    case hX =>
      intro base tb1 tb2
      constructor
      case g_MOST_BYTES => refine' BwW.gi_mk KX G ?e; (case e => k_is)
      case g_MOST_NAME => refine' BwW.gi_mk KX G ?e; (case e => k_is)
      case g_MOST_NUMBER => refine' BwW.gi_mk KX G ?e; (case e => k_is)
      case g_MOST_FIGURES => refine' BwW.gi_mk KX G ?e; (case e => k_is)
      case g_BLANKS => refine' BwW.gr_mk KX G ?e; (case e => k_is)
      case v_BLANKS => refine' BwW.tup_mk (x := "BLANKS") ?e ?l ?z ?r; (case e => k_is); (case l => k_is); (case z => decide); (case r => repeat (first | exact .nil | refine .cons rfl ?_ | refine .cons ⟨_, rfl⟩ ?_))
      case g_REMARK => refine' BwW.gi_mk KX G ?e; (case e => k_is)
      case g_LINE_END => refine' BwW.gi_mk KX G ?e; (case e => k_is)
      case g_NOUGHT => refine' BwW.gi_mk KX G ?e; (case e => k_is)
      case g_NINE => refine' BwW.gi_mk KX G ?e; (case e => k_is)
      case g_GREAT_A => refine' BwW.gi_mk KX G ?e; (case e => k_is)
      case g_SMALL_A => refine' BwW.gi_mk KX G ?e; (case e => k_is)
      case g_FIGURES => refine' BwW.gs_mk KX G ?e; (case e => k_is)
      case g_GREAT_LETTERS => refine' BwW.gs_mk KX G ?e; (case e => k_is)
      case g_SMALL_LETTERS => refine' BwW.gs_mk KX G ?e; (case e => k_is)
      case g_SIGNS => refine' BwW.gr_mk KX G ?e; (case e => k_is)
      case v_SIGNS => refine' BwW.sign_mk (x := "SIGNS") ?e ?s ?l ?q1 ?q2 ?q3 ?q4; (case e => k_is); (case l => k_is); (case s => rfl); (case q1 => rfl); (case q2 => rfl); (case q3 => rfl); (case q4 => rfl)
      case g_WORDS => refine' BwW.gr_mk KX G ?e; (case e => k_is)
      case v_WORDS => refine' BwW.tup_mk (x := "WORDS") ?e ?l ?z ?r; (case e => k_is); (case l => k_is); (case z => decide); (case r => repeat (first | exact .nil | refine .cons rfl ?_ | refine .cons ⟨_, rfl⟩ ?_))
      case g_NAME => refine' BwW.gs_mk KX G ?e; (case e => k_is)
      case g_NUMBER => refine' BwW.gs_mk KX G ?e; (case e => k_is)
      case g_END => refine' BwW.gs_mk KX G ?e; (case e => k_is)
      case g_TOO_LONG => refine' BwW.gi_mk KX G ?e; (case e => k_is)
      case g_NO_TOKEN => refine' BwW.gi_mk KX G ?e; (case e => k_is)
      case g_NOT_ALLOWED => refine' BwW.gi_mk KX G ?e; (case e => k_is)
      case g_TOO_MANY => refine' BwW.gi_mk KX G ?e; (case e => k_is)
      case g_HAD_ALREADY => refine' BwW.gi_mk KX G ?e; (case e => k_is)
      case g_TOO_GREAT => refine' BwW.gi_mk KX G ?e; (case e => k_is)
      case g_MOST_MEASURES => refine' BwW.gi_mk KX G ?e; (case e => k_is)
      case g_MOST_ITEMS => refine' BwW.gi_mk KX G ?e; (case e => k_is)
      case g_MOST_VALUE => refine' BwW.gi_mk KX G ?e; (case e => k_is)
      case g_MOST_WEIGHT => refine' BwW.gi_mk KX G ?e; (case e => k_is)
      case g_NOTHING => refine' BwW.gr_mk KX G ?e; (case e => k_is)
      case v_NOTHING => refine' BwW.tup_mk (x := "NOTHING") ?e ?l ?z ?r; (case e => k_is); (case l => k_is); (case z => decide); (case r => repeat (first | exact .nil | refine .cons rfl ?_ | refine .cons ⟨_, rfl⟩ ?_))
      case g_ALL => refine' BwW.gr_mk KX G ?e; (case e => k_is)
      case v_ALL => refine' BwW.tup_mk (x := "ALL") ?e ?l ?z ?r; (case e => k_is); (case l => k_is); (case z => decide); (case r => repeat (first | exact .nil | refine .cons rfl ?_ | refine .cons ⟨_, rfl⟩ ?_))
      case g_NO_LIST => refine' BwW.gi_mk KX G ?e; (case e => k_is)
      case g_NO_ITEM => refine' BwW.gi_mk KX G ?e; (case e => k_is)
      case g_NO_COUNT => refine' BwW.gi_mk KX G ?e; (case e => k_is)
      case g_NO_WEIGHTS => refine' BwW.gi_mk KX G ?e; (case e => k_is)
      case g_NO_MEASURES => refine' BwW.gi_mk KX G ?e; (case e => k_is)
      case g_NO_SHARE => refine' BwW.gi_mk KX G ?e; (case e => k_is)
      case g_MOST_BEST => refine' BwW.gi_mk KX G ?e; (case e => k_is)
      case g_MOST_BELOW => refine' BwW.gi_mk KX G ?e; (case e => k_is)
      case g_LOAD => refine' BwW.gi_mk KX G ?e; (case e => k_is)
      case g_NUMBER_COUNTS => refine' BwW.gr_mk KX G ?e; (case e => k_is)
      case v_NUMBER_COUNTS => refine' BwW.tup_mk (x := "NUMBER_COUNTS") ?e ?l ?z ?r; (case e => k_is); (case l => k_is); (case z => decide); (case r => repeat (first | exact .nil | refine .cons rfl ?_ | refine .cons ⟨_, rfl⟩ ?_))
      case g_HAS_ROW => refine' BwW.gr_mk KX G ?e; (case e => k_is)
      case v_HAS_ROW => refine' BwW.tup_mk (x := "HAS_ROW") ?e ?l ?z ?r; (case e => k_is); (case l => k_is); (case z => decide); (case r => repeat (first | exact .nil | refine .cons rfl ?_ | refine .cons ⟨_, rfl⟩ ?_))
      case g_ASKING => refine' BwW.gr_mk KX G ?e; (case e => k_is)
      case v_ASKING => refine' BwW.ask_mk (x := "ASKING") ?e ?s ?l ?q1 ?q2 ?q3 ?q4 ?q5 ?q6 ?q7 ?g1 ?g2 ?g3 ?g4 ?g5 ?g6 ?g7; (case e => k_is); (case l => k_is); (case s => rfl); (case q1 => rfl); (case q2 => rfl); (case q3 => rfl); (case q4 => rfl); (case q5 => rfl); (case q6 => rfl); (case q7 => rfl); (case g1 => refine' BwW.adr_is (x := "scores") ?e; (case e => k_is)); (case g2 => refine' BwW.adr_is (x := "top") ?e; (case e => k_is)); (case g3 => refine' BwW.adr_is (x := "looks") ?e; (case e => k_is)); (case g4 => refine' BwW.adr_is (x := "rank") ?e; (case e => k_is)); (case g5 => refine' BwW.adr_is (x := "between") ?e; (case e => k_is)); (case g6 => refine' BwW.adr_is (x := "best_for") ?e; (case e => k_is)); (case g7 => refine' BwW.adr_is (x := "shares") ?e; (case e => k_is))
      case b_abs => refine' BwW.gn_mk KX G ?e; (case e => k_is)
      case b_all => refine' BwW.gn_mk KX G ?e; (case e => k_is)
      case b_len => refine' BwW.gn_mk KX G ?e; (case e => k_is)
      case b_list => refine' BwW.gn_mk KX G ?e; (case e => k_is)
      case b_max => refine' BwW.gn_mk KX G ?e; (case e => k_is)
      case b_min => refine' BwW.gn_mk KX G ?e; (case e => k_is)
      case b_range => refine' BwW.gn_mk KX G ?e; (case e => k_is)
      case b_sorted => refine' BwW.gn_mk KX G ?e; (case e => k_is)
      case b_sum => refine' BwW.gn_mk KX G ?e; (case e => k_is)
      case b_zip => refine' BwW.gn_mk KX G ?e; (case e => k_is)
      case t_is_letter => refine' BwW.top_mk KX G ?e ?l ?c ?k; (case e => k_is); (case l => k_is); (case c => k_is); (case k => k_is)
      case t_is_figure => refine' BwW.top_mk KX G ?e ?l ?c ?k; (case e => k_is); (case l => k_is); (case c => k_is); (case k => k_is)
      case t_sign_of => refine' BwW.top_mk KX G ?e ?l ?c ?k; (case e => k_is); (case l => k_is); (case c => k_is); (case k => k_is)
      case t_end_of_name => refine' BwW.top_mk KX G ?e ?l ?c ?k; (case e => k_is); (case l => k_is); (case c => k_is); (case k => k_is)
      case t_end_of_number => refine' BwW.top_mk KX G ?e ?l ?c ?k; (case e => k_is); (case l => k_is); (case c => k_is); (case k => k_is)
      case t_end_of_remark => refine' BwW.top_mk KX G ?e ?l ?c ?k; (case e => k_is); (case l => k_is); (case c => k_is); (case k => k_is)
      case t_name_at => refine' BwW.top_mk KX G ?e ?l ?c ?k; (case e => k_is); (case l => k_is); (case c => k_is); (case k => k_is)
      case t_number_at => refine' BwW.top_mk KX G ?e ?l ?c ?k; (case e => k_is); (case l => k_is); (case c => k_is); (case k => k_is)
      case t_token_at => refine' BwW.top_mk KX G ?e ?l ?c ?k; (case e => k_is); (case l => k_is); (case c => k_is); (case k => k_is)
      case t_behind_token => refine' BwW.top_mk KX G ?e ?l ?c ?k; (case e => k_is); (case l => k_is); (case c => k_is); (case k => k_is)
      case t_tokens_of => refine' BwW.top_mk KX G ?e ?l ?c ?k; (case e => k_is); (case l => k_is); (case c => k_is); (case k => k_is)
      case t_here => refine' BwW.top_mk KX G ?e ?l ?c ?k; (case e => k_is); (case l => k_is); (case c => k_is); (case k => k_is)
      case t_refuse_here => refine' BwW.top_mk KX G ?e ?l ?c ?k; (case e => k_is); (case l => k_is); (case c => k_is); (case k => k_is)
      case t_take => refine' BwW.top_mk KX G ?e ?l ?c ?k; (case e => k_is); (case l => k_is); (case c => k_is); (case k => k_is)
      case t_take_name => refine' BwW.top_mk KX G ?e ?l ?c ?k; (case e => k_is); (case l => k_is); (case c => k_is); (case k => k_is)
      case t_read_measures => refine' BwW.top_mk KX G ?e ?l ?c ?k; (case e => k_is); (case l => k_is); (case c => k_is); (case k => k_is)
      case t_read_value => refine' BwW.top_mk KX G ?e ?l ?c ?k; (case e => k_is); (case l => k_is); (case c => k_is); (case k => k_is)
      case t_read_good_values => refine' BwW.top_mk KX G ?e ?l ?c ?k; (case e => k_is); (case l => k_is); (case c => k_is); (case k => k_is)
      case t_read_items => refine' BwW.top_mk KX G ?e ?l ?c ?k; (case e => k_is); (case l => k_is); (case c => k_is); (case k => k_is)
      case t_read_list => refine' BwW.top_mk KX G ?e ?l ?c ?k; (case e => k_is); (case l => k_is); (case c => k_is); (case k => k_is)
      case t_are_weights => refine' BwW.top_mk KX G ?e ?l ?c ?k; (case e => k_is); (case l => k_is); (case c => k_is); (case k => k_is)
      case t_weighed => refine' BwW.top_mk KX G ?e ?l ?c ?k; (case e => k_is); (case l => k_is); (case c => k_is); (case k => k_is)
      case t_scores_of => refine' BwW.top_mk KX G ?e ?l ?c ?k; (case e => k_is); (case l => k_is); (case c => k_is); (case k => k_is)
      case t_in_order => refine' BwW.topC_mk KX G ?e ?l ?c ?k ?t; (case e => k_is); (case l => k_is); (case c => k_is); (case k => k_is); (case t => rfl)
      case t_first_in_order => refine' BwW.top_mk KX G ?e ?l ?c ?k; (case e => k_is); (case l => k_is); (case c => k_is); (case k => k_is)
      case t_count_greater => refine' BwW.top_mk KX G ?e ?l ?c ?k; (case e => k_is); (case l => k_is); (case c => k_is); (case k => k_is)
      case t_count_alike => refine' BwW.top_mk KX G ?e ?l ?c ?k; (case e => k_is); (case l => k_is); (case c => k_is); (case k => k_is)
      case t_sorted_by => refine' BwW.top_mk KX G ?e ?l ?c ?k; (case e => k_is); (case l => k_is); (case c => k_is); (case k => k_is)
      case t_weighing => refine' BwW.top_mk KX G ?e ?l ?c ?k; (case e => k_is); (case l => k_is); (case c => k_is); (case k => k_is)
      case t_seen_at => refine' BwW.top_mk KX G ?e ?l ?c ?k; (case e => k_is); (case l => k_is); (case c => k_is); (case k => k_is)
      case t_limit_at => refine' BwW.top_mk KX G ?e ?l ?c ?k; (case e => k_is); (case l => k_is); (case c => k_is); (case k => k_is)
      case t_may_stop => refine' BwW.top_mk KX G ?e ?l ?c ?k; (case e => k_is); (case l => k_is); (case c => k_is); (case k => k_is)
      case t_depth_for => refine' BwW.top_mk KX G ?e ?l ?c ?k; (case e => k_is); (case l => k_is); (case c => k_is); (case k => k_is)
      case t_looked => refine' BwW.top_mk KX G ?e ?l ?c ?k; (case e => k_is); (case l => k_is); (case c => k_is); (case k => k_is)
      case t_common_part => refine' BwW.top_mk KX G ?e ?l ?c ?k; (case e => k_is); (case l => k_is); (case c => k_is); (case k => k_is)
      case t_lowest => refine' BwW.top_mk KX G ?e ?l ?c ?k; (case e => k_is); (case l => k_is); (case c => k_is); (case k => k_is)
      case t_is_less => refine' BwW.top_mk KX G ?e ?l ?c ?k; (case e => k_is); (case l => k_is); (case c => k_is); (case k => k_is)
      case t_lines_of => refine' BwW.top_mk KX G ?e ?l ?c ?k; (case e => k_is); (case l => k_is); (case c => k_is); (case k => k_is)
      case t_first_line => refine' BwW.topC_mk KX G ?e ?l ?c ?k ?t; (case e => k_is); (case l => k_is); (case c => k_is); (case k => k_is); (case t => rfl)
      case t_crossing => refine' BwW.top_mk KX G ?e ?l ?c ?k; (case e => k_is); (case l => k_is); (case c => k_is); (case k => k_is)
      case t_crossings => refine' BwW.top_mk KX G ?e ?l ?c ?k; (case e => k_is); (case l => k_is); (case c => k_is); (case k => k_is)
      case t_is_nearer => refine' BwW.top_mk KX G ?e ?l ?c ?k; (case e => k_is); (case l => k_is); (case c => k_is); (case k => k_is)
      case t_next_piece => refine' BwW.top_mk KX G ?e ?l ?c ?k; (case e => k_is); (case l => k_is); (case c => k_is); (case k => k_is)
      case t_pieces => refine' BwW.top_mk KX G ?e ?l ?c ?k; (case e => k_is); (case l => k_is); (case c => k_is); (case k => k_is)
      case t_worth_at => refine' BwW.top_mk KX G ?e ?l ?c ?k; (case e => k_is); (case l => k_is); (case c => k_is); (case k => k_is)
      case t_best_at => refine' BwW.top_mk KX G ?e ?l ?c ?k; (case e => k_is); (case l => k_is); (case c => k_is); (case k => k_is)
      case t_greater => refine' BwW.top_mk KX G ?e ?l ?c ?k; (case e => k_is); (case l => k_is); (case c => k_is); (case k => k_is)
      case t_lesser => refine' BwW.top_mk KX G ?e ?l ?c ?k; (case e => k_is); (case l => k_is); (case c => k_is); (case k => k_is)
      case t_narrowed => refine' BwW.top_mk KX G ?e ?l ?c ?k; (case e => k_is); (case l => k_is); (case c => k_is); (case k => k_is)
      case t_shares_of => refine' BwW.top_mk KX G ?e ?l ?c ?k; (case e => k_is); (case l => k_is); (case c => k_is); (case k => k_is)
      case t_must_be => refine' BwW.top_mk KX G ?e ?l ?c ?k; (case e => k_is); (case l => k_is); (case c => k_is); (case k => k_is)
      case t_must_be_item => refine' BwW.top_mk KX G ?e ?l ?c ?k; (case e => k_is); (case l => k_is); (case c => k_is); (case k => k_is)
      case t_must_be_count => refine' BwW.top_mk KX G ?e ?l ?c ?k; (case e => k_is); (case l => k_is); (case c => k_is); (case k => k_is)
      case t_must_be_weights => refine' BwW.top_mk KX G ?e ?l ?c ?k; (case e => k_is); (case l => k_is); (case c => k_is); (case k => k_is)
      case t_must_be_measures => refine' BwW.top_mk KX G ?e ?l ?c ?k; (case e => k_is); (case l => k_is); (case c => k_is); (case k => k_is)
      case t_load => refine' BwW.top_mk KX G ?e ?l ?c ?k; (case e => k_is); (case l => k_is); (case c => k_is); (case k => k_is)
      case t_scores => refine' BwW.topA_mk KX G ?e ?l ?c ?k; (case e => k_is); (case l => k_is); (case c => k_is); (case k => k_is)
      case t_top => refine' BwW.topA_mk KX G ?e ?l ?c ?k; (case e => k_is); (case l => k_is); (case c => k_is); (case k => k_is)
      case t_looks => refine' BwW.topA_mk KX G ?e ?l ?c ?k; (case e => k_is); (case l => k_is); (case c => k_is); (case k => k_is)
      case t_rank => refine' BwW.topA_mk KX G ?e ?l ?c ?k; (case e => k_is); (case l => k_is); (case c => k_is); (case k => k_is)
      case t_between => refine' BwW.topA_mk KX G ?e ?l ?c ?k; (case e => k_is); (case l => k_is); (case c => k_is); (case k => k_is)
      case t_best_for => refine' BwW.topA_mk KX G ?e ?l ?c ?k; (case e => k_is); (case l => k_is); (case c => k_is); (case k => k_is)
      case t_shares => refine' BwW.topA_mk KX G ?e ?l ?c ?k; (case e => k_is); (case l => k_is); (case c => k_is); (case k => k_is)
      case t_asked => refine' BwW.top_mk KX G ?e ?l ?c ?k; (case e => k_is); (case l => k_is); (case c => k_is); (case k => k_is)
      case t_answered => refine' BwW.top_mk KX G ?e ?l ?c ?k; (case e => k_is); (case l => k_is); (case c => k_is); (case k => k_is)
      case t_row_at => refine' BwW.top_mk KX G ?e ?l ?c ?k; (case e => k_is); (case l => k_is); (case c => k_is); (case k => k_is)
      case t_answers => refine' BwW.top_mk KX G ?e ?l ?c ?k; (case e => k_is); (case l => k_is); (case c => k_is); (case k => k_is)
      case k_Token => refine' BwW.cls_mk KX G ?e ?a1 ?i1 ?l ?c ?k ?pg ?hd ?po ?sa ?mk ?kc (BwW.no_cons ?n0 (BwW.no_cons ?n1 (BwW.no_cons ?n2 BwW.no_nil))); (case e => k_is); (case a1 => k_is); (case i1 => k_is); (case l => k_is); (case c => k_is); (case k => k_is); (case pg => k_is); (case hd => k_is); (case po => k_is); (case sa => k_is); (case mk => k_is); (case kc => k_is); (case n0 => k_is); (case n1 => k_is); (case n2 => k_is)
      case k_Listing => refine' BwW.cls_mk KX G ?e ?a1 ?i1 ?l ?c ?k ?pg ?hd ?po ?sa ?mk ?kc (BwW.no_cons ?n0 (BwW.no_cons ?n1 BwW.no_nil)); (case e => k_is); (case a1 => k_is); (case i1 => k_is); (case l => k_is); (case c => k_is); (case k => k_is); (case pg => k_is); (case hd => k_is); (case po => k_is); (case sa => k_is); (case mk => k_is); (case kc => k_is); (case n0 => k_is); (case n1 => k_is)
      case k_Reader => refine' BwW.cls_mk KX G ?e ?a1 ?i1 ?l ?c ?k ?pg ?hd ?po ?sa ?mk ?kc (BwW.no_cons ?n0 (BwW.no_cons ?n1 BwW.no_nil)); (case e => k_is); (case a1 => k_is); (case i1 => k_is); (case l => k_is); (case c => k_is); (case k => k_is); (case pg => k_is); (case hd => k_is); (case po => k_is); (case sa => k_is); (case mk => k_is); (case kc => k_is); (case n0 => k_is); (case n1 => k_is)
      case k_Looks => refine' BwW.cls_mk KX G ?e ?a1 ?i1 ?l ?c ?k ?pg ?hd ?po ?sa ?mk ?kc (BwW.no_cons ?n0 (BwW.no_cons ?n1 (BwW.no_cons ?n2 BwW.no_nil))); (case e => k_is); (case a1 => k_is); (case i1 => k_is); (case l => k_is); (case c => k_is); (case k => k_is); (case pg => k_is); (case hd => k_is); (case po => k_is); (case sa => k_is); (case mk => k_is); (case kc => k_is); (case n0 => k_is); (case n1 => k_is); (case n2 => k_is)
      case k_Holder => refine' BwW.cls_mk KX G ?e ?a1 ?i1 ?l ?c ?k ?pg ?hd ?po ?sa ?mk ?kc (BwW.no_cons ?n0 BwW.no_nil); (case e => k_is); (case a1 => k_is); (case i1 => k_is); (case l => k_is); (case c => k_is); (case k => k_is); (case pg => k_is); (case hd => k_is); (case po => k_is); (case sa => k_is); (case mk => k_is); (case kc => k_is); (case n0 => k_is)
      case k_Fault => refine' BwW.exc_mk KX G ?e ?xL ?xV ?sa ?ga ?gg ?a1 ?t1 ?l ?c ?k ?kC ?eC ?tC ?hC ?iC ?sC (BwW.no_cons ?n0 (BwW.no_cons ?n1 BwW.no_nil)); (case e => k_is); (case xL => k_is); (case xV => decide +kernel); (case sa => k_is); (case ga => k_is); (case gg => k_is); (case a1 => k_is); (case t1 => k_is); (case l => k_is); (case c => k_is); (case k => k_is); (case kC => k_is); (case eC => k_is); (case tC => k_is); (case hC => k_is); (case iC => k_is); (case sC => first | rfl | k_is); (case n0 => k_is); (case n1 => k_is)
      case k_Refused => refine' BwW.exc_mk KX G ?e ?xL ?xV ?sa ?ga ?gg ?a1 ?t1 ?l ?c ?k ?kC ?eC ?tC ?hC ?iC ?sC (BwW.no_cons ?n0 BwW.no_nil); (case e => k_is); (case xL => k_is); (case xV => decide +kernel); (case sa => k_is); (case ga => k_is); (case gg => k_is); (case a1 => k_is); (case t1 => k_is); (case l => k_is); (case c => k_is); (case k => k_is); (case kC => k_is); (case eC => k_is); (case tC => k_is); (case hC => k_is); (case iC => k_is); (case sC => first | rfl | k_is); (case n0 => k_is)
      case tb_o => exact tb1
      case tb_f => exact tb2
      case op_fp => refine' BwW.op_mk ?t1 ?t2 ?h; (case t1 => rfl); (case t2 => rfl); (case h => rfl)
  case S =>
    intro cs K H xs a h0 hwi hask hx
    cases hx with
    | cons h1 h2 =>
      cases h2
      cases h1 with
      | lst hs ha =>
        have ea := L2.ints_dw a.1 _ ha
        subst ea
        exact BwW.end_sp h0 hask hs fun p H' hp => .lst (L2.SqL.of hp) (L2.dw_ints _)
