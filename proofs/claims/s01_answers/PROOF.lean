import PyProof.Rows.All
import Wide.All
import OpenK.AllK
import Wide.FinOn
import Open.SpecLaws
import KE.OsGo
import HandS.ForMost
import HandS.ForSpec
import HandS.Walk
import PyUw41
import PySem.Challenge.RW_camfollower_s01_answers
set_option Elab.async false
set_option maxRecDepth 100000
set_option maxHeartbeats 4000000
/-! The plain laws: no program here. -/
namespace Cm
open Uw41
/-! ### places gone round -/
theorem on_int (n t d : Nat) : ((t : Int) + d) % n = ((on n t d : Nat) : Int) := by
  unfold on
  rw [Int.natCast_emod, Int.natCast_add]
theorem back_int {n : Nat} (hn : 0 < n) (t d : Nat) : ((t : Int) - d) % n = ((back n t d : Nat) : Int) := by
  unfold back
  have h1 : d % n < n := Nat.mod_lt d hn
  have e : ((t + n - d % n : Nat) : Int) = (t : Int) + n - ((d % n : Nat) : Int) := by omega
  rw [Int.natCast_emod, e, Int.natCast_emod]
  have h2 : (d : Int) % n + n * ((d : Int) / n) = d := Int.emod_add_mul_ediv _ _
  have h4 : (n : Int) * ((d : Int) / n + 1) = n * ((d : Int) / n) + n := by rw [Int.mul_add, Int.mul_one]
  have h3 : (t : Int) + n - (d : Int) % n = ((t : Int) - d) + n * ((d : Int) / n + 1) := by
    rw [h4]
    omega
  rw [h3, Int.add_mul_emod_self_left]
theorem on_lt {n : Nat} (hn : 0 < n) (t d : Nat) : on n t d < n := Nat.mod_lt _ hn
theorem back_lt {n : Nat} (hn : 0 < n) (t d : Nat) : back n t d < n := Nat.mod_lt _ hn
theorem emod_shift (a b n : Int) : (a % n + b) % n = (a + b) % n := by
  have h2 : a % n + n * (a / n) = a := Int.emod_add_mul_ediv _ _
  have h3 : a + b = (a % n + b) + n * (a / n) := by omega
  rw [h3, Int.add_mul_emod_self_left]
theorem back_on {n t : Nat} (h : t < n) (d : Nat) : back n (on n t d) d = t := by
  have hn : 0 < n := by omega
  have e := back_int hn (on n t d) d
  rw [← on_int, Int.sub_eq_add_neg, emod_shift, show (t : Int) + d + -d = t by omega, Int.emod_eq_of_lt (by omega) (by omega)] at e
  omega
theorem on_back {n t : Nat} (h : t < n) (d : Nat) : on n (back n t d) d = t := by
  have hn : 0 < n := by omega
  have e := on_int n (back n t d) d
  rw [← back_int hn, emod_shift, show (t : Int) - d + d = t by omega, Int.emod_eq_of_lt (by omega) (by omega)] at e
  omega
theorem on_zero {n t : Nat} (h : t < n) : on n t 0 = t := by
  unfold on
  rw [Nat.add_zero, Nat.mod_eq_of_lt h]
/-! ### what the foot reaches -/
def two (foot : List Nat) (n t d : Nat) : List (Nat × Nat) := [(on n t d, foot.getD d 0), (back n t d, foot.getD d 0)]
def pairs (foot : List Nat) (n t : Nat) : List (Nat × Nat) := (List.range foot.length).flatMap (two foot n t)
theorem pairs_lt {foot : List Nat} {n t : Nat} (hn : 0 < n) {q : Nat × Nat} (h : q ∈ pairs foot n t) : q.1 < n := by
  unfold pairs at h
  rw [List.mem_flatMap] at h
  obtain ⟨d, _, h⟩ := h
  unfold two at h
  rcases List.mem_cons.mp h with e | h
  · rw [e]
    exact on_lt hn t d
  · rcases List.mem_cons.mp h with e | h
    · rw [e]
      exact back_lt hn t d
    · cases h
theorem fold_two {α : Type} (p q : Nat → α) (F : α → Nat) : ∀ (L : List Nat) (acc : Nat),
    (L.map fun d => max (F (p d)) (F (q d))).foldl max acc = (L.flatMap fun d => [p d, q d]).foldl (fun a x => max a (F x)) acc
  | [], _ => rfl
  | d :: L, acc => by
    rw [List.map_cons, List.foldl_cons, List.flatMap_cons, List.foldl_append]
    show _ = List.foldl _ (max (max acc (F (p d))) (F (q d))) _
    rw [fold_two p q F L, Nat.max_assoc]
/-- the height by the pairs, one after another -/
def high (r : List Nat) (ps : List (Nat × Nat)) (acc : Nat) : Nat := ps.foldl (fun a q => max a (r.getD q.1 0 - q.2)) acc
theorem height_eq (foot r : List Nat) (t : Nat) : height foot r t = high r (pairs foot r.length t) 0 := by
  unfold height high pairs
  exact fold_two (fun d => (on r.length t d, foot.getD d 0)) (fun d => (back r.length t d, foot.getD d 0)) (fun q => r.getD q.1 0 - q.2) _ 0
def low (h : List Nat) (ps : List (Nat × Nat)) (acc : Nat) : Nat := ps.foldl (fun a q => min a (h.getD q.1 0 + q.2)) acc
theorem fold_min : ∀ (l : List Nat) (a b : Nat), l.foldl min (min a b) = min a (l.foldl min b)
  | [], _, _ => rfl
  | c :: l, a, b => by
    rw [List.foldl_cons, List.foldl_cons, Nat.min_assoc]
    exact fold_min l a (min b c)
theorem least_cons : ∀ (l : List Nat) (a : Nat), least (a :: l) = l.foldl min a
  | [], _ => rfl
  | b :: l, a => by
    show min a (least (b :: l)) = (b :: l).foldl min a
    rw [least_cons l b, List.foldl_cons, fold_min]
theorem least_le : ∀ {l : List Nat} {x : Nat}, x ∈ l → least l ≤ x
  | [a], x, h => by
    rcases List.mem_cons.mp h with e | h
    · rw [e]
      exact Nat.le_refl _
    · cases h
  | a :: b :: l, x, h => by
    show min a (least (b :: l)) ≤ x
    rcases List.mem_cons.mp h with e | h
    · rw [e]
      exact Nat.min_le_left _ _
    · exact Nat.le_trans (Nat.min_le_right _ _) (least_le h)
def cutAt (foot h : List Nat) (s : Nat) : Nat := least ((List.range foot.length).flatMap fun d => [h.getD (on h.length s d) 0 + foot.getD d 0, h.getD (back h.length s d) 0 + foot.getD d 0])
theorem cut_is (foot h : List Nat) : cut foot h = (List.range h.length).map (cutAt foot h) := rfl
theorem flat_map_pairs (foot h : List Nat) (s : Nat) : ∀ L : List Nat, (L.flatMap fun d => [h.getD (on h.length s d) 0 + foot.getD d 0, h.getD (back h.length s d) 0 + foot.getD d 0])
    = (L.flatMap (two foot h.length s)).map fun q => h.getD q.1 0 + q.2
  | [] => rfl
  | d :: L => by
    rw [List.flatMap_cons, List.flatMap_cons, List.map_append, flat_map_pairs foot h s L]
    rfl
theorem cutAt_eq {foot h : List Nat} {s : Nat} (hf : foot.head? = some 0) (hs : s < h.length) : cutAt foot h s = low h (pairs foot h.length s) (h.getD s 0) := by
  unfold cutAt
  rw [flat_map_pairs]
  cases foot with
  | nil => cases hf
  | cons z f =>
    have ez : z = 0 := Option.some.inj hf
    subst ez
    unfold low pairs
    rw [List.length_cons, List.range_succ_eq_map, List.flatMap_cons]
    show least ((h.getD (on h.length s 0) 0 + 0) :: ((h.getD (back h.length s 0) 0 + 0) :: _)) = List.foldl _ (min (min (h.getD s 0) (h.getD (on h.length s 0) 0 + 0)) (h.getD (back h.length s 0) 0 + 0)) _
    rw [least_cons, List.foldl_cons, on_zero hs, Nat.add_zero, Nat.min_self, List.foldl_map]
/-! ### the motion of a cam that is cut from a motion is nowhere higher -/
theorem fold_max_le : ∀ {l : List Nat} {acc B : Nat}, acc ≤ B → (∀ x ∈ l, x ≤ B) → l.foldl max acc ≤ B
  | [], _, _, h, _ => h
  | x :: l, acc, B, h, k => by
    rw [List.foldl_cons]
    exact fold_max_le (Nat.max_le.mpr ⟨h, k x (List.mem_cons_self ..)⟩) fun y hy => k y (List.mem_cons_of_mem _ hy)
theorem getD_map_range {n s : Nat} (f : Nat → Nat) (h : s < n) : ((List.range n).map f).getD s 0 = f s := by
  rw [List.getD_eq_getElem?_getD, List.getElem?_map, List.getElem?_range h]
  rfl
theorem cutAt_le {foot h : List Nat} {s d : Nat} (hd : d < foot.length) : cutAt foot h s ≤ h.getD (on h.length s d) 0 + foot.getD d 0 ∧ cutAt foot h s ≤ h.getD (back h.length s d) 0 + foot.getD d 0 := by
  unfold cutAt
  constructor
  · refine least_le (List.mem_flatMap.mpr ⟨d, List.mem_range.mpr hd, List.mem_cons_self ..⟩)
  · refine least_le (List.mem_flatMap.mpr ⟨d, List.mem_range.mpr hd, List.mem_cons_of_mem _ (List.mem_cons_self ..)⟩)
theorem cut_length (foot h : List Nat) : (cut foot h).length = h.length := by
  rw [cut_is, List.length_map, List.length_range]
theorem motion_length (foot r : List Nat) : (motion foot r).length = r.length := by
  unfold motion
  rw [List.length_map, List.length_range]
theorem height_cut_le {foot h : List Nat} {t : Nat} (ht : t < h.length) : height foot (cut foot h) t ≤ h.getD t 0 := by
  unfold height
  refine fold_max_le (Nat.zero_le _) fun x hx => ?_
  rw [List.mem_map] at hx
  obtain ⟨d, hd, e⟩ := hx
  have hd := List.mem_range.mp hd
  have hn : 0 < h.length := by omega
  rw [← e, cut_length, cut_is, getD_map_range _ (on_lt hn t d), getD_map_range _ (back_lt hn t d)]
  have h1 := (cutAt_le (foot := foot) (h := h) (s := on h.length t d) hd).2
  have h2 := (cutAt_le (foot := foot) (h := h) (s := back h.length t d) hd).1
  rw [back_on ht] at h1
  rw [on_back ht] at h2
  omega
theorem motion_cut_le {foot h : List Nat} (t : Nat) : (motion foot (cut foot h)).getD t 0 ≤ h.getD t 0 := by
  by_cases ht : t < h.length
  · unfold motion
    rw [cut_length, getD_map_range _ ht]
    exact height_cut_le ht
  · rw [List.getD_eq_getElem?_getD, List.getElem?_eq_none (by rw [motion_length, cut_length]; omega)]
    exact Nat.zero_le _
/-! ### sums -/
theorem fold_add : ∀ (l : List Nat) (a : Nat), l.foldl (fun a b => a + b) a = a + l.sum
  | [], a => rfl
  | b :: l, a => by
    rw [List.foldl_cons, fold_add l, List.sum_cons, Nat.add_assoc]
theorem total_eq (l : List Nat) : total l = l.sum := by
  unfold total
  rw [fold_add, Nat.zero_add]
def lower (hs os : List Nat) : Int := ((hs.zip os).map fun p => (p.1 : Int) - p.2).sum
theorem lower_eq : ∀ {hs os : List Nat}, hs.length = os.length → (∀ i, os.getD i 0 ≤ hs.getD i 0) → os.sum ≤ hs.sum ∧ lower hs os = ((hs.sum - os.sum : Nat) : Int)
  | [], [], _, _ => ⟨Nat.le_refl _, rfl⟩
  | [], _ :: _, h, _ => by cases h
  | _ :: _, [], h, _ => by cases h
  | a :: hs, b :: os, h, k => by
    have ih := lower_eq (hs := hs) (os := os) (Nat.succ.inj h) fun i => k (i + 1)
    have k0 : b ≤ a := k 0
    obtain ⟨i1, i2⟩ := ih
    rw [List.sum_cons, List.sum_cons]
    refine ⟨by omega, ?_⟩
    show (((a : Int) - (b : Int)) :: ((hs.zip os).map fun p : Nat × Nat => (p.1 : Int) - p.2)).sum = _
    rw [List.sum_cons]
    show (a : Int) - b + lower hs os = _
    rw [i2]
    omega
theorem short_eq (foot h : List Nat) : lower h (motion foot (cut foot h)) = ((short foot h : Nat) : Int) := by
  unfold short
  rw [total_eq, total_eq]
  exact (lower_eq (by rw [motion_length, cut_length]) motion_cut_le).2
/-! ### the greatest -/
theorem fold_max_ge : ∀ (l : List Nat) (acc : Nat), acc ≤ l.foldl max acc ∧ ∀ x ∈ l, x ≤ l.foldl max acc
  | [], _ => ⟨Nat.le_refl _, fun _ h => by cases h⟩
  | y :: l, acc => by
    have ih := fold_max_ge l (max acc y)
    rw [List.foldl_cons]
    refine ⟨Nat.le_trans (Nat.le_max_left _ _) ih.1, fun x hx => ?_⟩
    rcases List.mem_cons.mp hx with e | hx
    · rw [e]
      exact Nat.le_trans (Nat.le_max_right _ _) ih.1
    · exact ih.2 x hx
theorem max_is {l : List Nat} {m : Int} (hm : m ∈ l.map fun n : Nat => (n : Int)) (hle : ∀ y ∈ l.map (fun n : Nat => (n : Int)), y ≤ m) : m = ((l.foldl max 0 : Nat) : Int) := by
  rw [List.mem_map] at hm
  obtain ⟨k, hk, e⟩ := hm
  have h1 := (fold_max_ge l 0).2 k hk
  have h2 : l.foldl max 0 ≤ k := fold_max_le (Nat.zero_le _) fun x hx => by
    have q := hle (x : Int) (List.mem_map.mpr ⟨x, hx, rfl⟩)
    omega
  omega
/-! ### jams -/
def rises (m : List Nat) (s way : Nat) (t : Nat) : Bool := decide (m.getD t 0 + s < m.getD (if way = 0 then on m.length t 1 else back m.length t 1) 0)
def jamList (m : List Nat) (s way : Nat) : List Nat := (List.range m.length).filter (rises m s way)
theorem jams_eq (foot r : List Nat) (s way : Nat) : jams foot r s way = (jamList (motion foot r) s way).head? := by
  unfold jams jamList
  rw [List.head?_filter, motion_length]
  unfold rises
  rw [motion_length]
/-! ### the calls, flat -/
def nums (l : List Nat) : List Int := l.map fun n : Nat => (n : Int)
theorem nums_length (l : List Nat) : (nums l).length = l.length := List.length_map ..
def flatC : Call → List Int
  | .begins f => 0 :: (f.length : Int) :: nums f
  | .cam r => 1 :: (r.length : Int) :: nums r
  | .motion => [2]
  | .make h => 3 :: (h.length : Int) :: nums h
  | .idle => [4]
  | .jams s w => [5, (s : Int), (w : Int)]
def sized : Call → Prop
  | .begins f => f.length ≤ 6
  | .cam r => r.length ≤ 30
  | .make h => h.length ≤ 30
  | _ => True
def after (s : Cam) (cs : List Call) : Cam := cs.foldl (fun s c => (step s c).1) s
def ansOf (s : Cam) (c : Call) : List Int := Uw41Neutral.out (step s c).2
def run : Cam → List Call → List (List Int)
  | _, [] => []
  | s, c :: r => ansOf s c :: run (step s c).1 r
def tellAll (s : Cam) (cs : List Call) : List Int := PyFlat.told (run s cs)
theorem run_append : ∀ (cs ds : List Call) (s : Cam), run s (cs ++ ds) = run s cs ++ run (after s cs) ds
  | [], _, _ => rfl
  | c :: cs, ds, s => by
    show ansOf s c :: run (step s c).1 (cs ++ ds) = ansOf s c :: (run (step s c).1 cs ++ run (after (step s c).1 cs) ds)
    rw [run_append cs ds]
theorem told_append (a b : List (List Int)) : PyFlat.told (a ++ b) = PyFlat.told a ++ PyFlat.told b := List.flatMap_append
theorem take_more {α : Type} {l : List α} {i : Nat} {x : α} (h : l[i]? = some x) : l.take (i + 1) = l.take i ++ [x] := by
  rw [List.take_add_one, h]
  rfl
theorem after_more {s : Cam} {cs : List Call} {i : Nat} {c : Call} (h : cs[i]? = some c) : after s (cs.take (i + 1)) = (step (after s (cs.take i)) c).1 := by
  unfold after
  rw [take_more h, List.foldl_append]
  rfl
theorem tell_more {s : Cam} {cs : List Call} {i : Nat} {c : Call} (h : cs[i]? = some c) :
    tellAll s (cs.take (i + 1)) = tellAll s (cs.take i) ++ [((ansOf (after s (cs.take i)) c).length : Int)] ++ ansOf (after s (cs.take i)) c := by
  unfold tellAll
  rw [take_more h, run_append, told_append, List.append_assoc]
  congr 1
  show (((ansOf (after s (cs.take i)) c).length : Int) :: ansOf (after s (cs.take i)) c) ++ [] = _
  rw [List.append_nil]
  rfl
/-! ### what holds of the cam -/
structure Good (c : Cam) : Prop where
  f0 : c.foot.head? = some 0
  fl : c.foot.length ≤ 4
  r2 : 2 ≤ c.radii.length
  rl : c.radii.length ≤ 24
theorem good_init : Good init := ⟨rfl, by decide, by decide, by decide⟩
theorem fine_iff {r : List Nat} : fine r = true ↔ (2 ≤ r.length ∧ r.length ≤ 24 ∧ (r.all fun n => decide (n ≤ 100)) = true) := by
  unfold fine PLACES HIGH
  rw [Bool.and_eq_true, Bool.and_eq_true, decide_eq_true_eq, decide_eq_true_eq]
theorem good_step {s : Cam} (g : Good s) (c : Call) : Good (step s c).1 := by
  cases c with
  | begins f =>
    show Good (if f.head? ≠ some 0 ∨ FOOT < f.length ∨ (f.all fun n => decide (n ≤ HIGH)) = false then (s, ok (-1)) else (⟨f, [0, 0]⟩, ok 0)).1
    by_cases h : f.head? ≠ some 0 ∨ FOOT < f.length ∨ (f.all fun n => decide (n ≤ HIGH)) = false
    · rw [if_pos h]
      exact g
    · rw [if_neg h]
      refine ⟨?_, ?_, (show 2 ≤ ([0, 0] : List Nat).length by decide), (show ([0, 0] : List Nat).length ≤ 24 by decide)⟩
      · exact Decidable.not_not.mp fun k => h (.inl k)
      · exact Nat.not_lt.mp fun k => h (.inr (.inl k))
  | cam r =>
    show Good (if fine r = false then (s, ok (-1)) else ({ s with radii := r }, ok (r.length : Nat))).1
    by_cases h : fine r = false
    · rw [if_pos h]
      exact g
    · rw [if_neg h]
      have q := fine_iff.mp (by simpa using h)
      exact ⟨g.f0, g.fl, q.1, q.2.1⟩
  | motion => exact g
  | make h =>
    show Good (if fine h = false then (s, ok (-1)) else ({ s with radii := cut s.foot h }, ⟨(short s.foot h : Nat), cut s.foot h⟩)).1
    by_cases k : fine h = false
    · rw [if_pos k]
      exact g
    · rw [if_neg k]
      have q := fine_iff.mp (by simpa using k)
      refine ⟨g.f0, g.fl, ?_, ?_⟩
      · rw [cut_length]
        exact q.1
      · rw [cut_length]
        exact q.2.1
  | idle => exact g
  | jams a w =>
    show Good (if HIGH < a ∨ 1 < w then (s, ok (-1)) else (s, _)).1
    by_cases k : HIGH < a ∨ 1 < w
    · rw [if_pos k]
      exact g
    · rw [if_neg k]
      exact g
theorem good_after {s : Cam} (g : Good s) (cs : List Call) : Good (after s cs) := by
  induction cs generalizing s with
  | nil => exact g
  | cons c cs ih => exact ih (good_step g c)
theorem out_length (a : Ans) : (Uw41Neutral.out a).length = a.l.length + 1 := by
  unfold Uw41Neutral.out
  rw [List.length_cons, List.length_map]
theorem ans_length {s : Cam} (g : Good s) (c : Call) : (ansOf s c).length ≤ 25 := by
  unfold ansOf
  rw [out_length]
  suffices (step s c).2.l.length ≤ 24 by omega
  cases c with
  | begins f =>
    show (if f.head? ≠ some 0 ∨ FOOT < f.length ∨ (f.all fun n => decide (n ≤ HIGH)) = false then (s, ok (-1)) else (⟨f, [0, 0]⟩, ok 0)).2.l.length ≤ 24
    split <;> exact Nat.zero_le _
  | cam r =>
    show (if fine r = false then (s, ok (-1)) else ({ s with radii := r }, ok (r.length : Nat))).2.l.length ≤ 24
    split <;> exact Nat.zero_le _
  | motion =>
    show (motion s.foot s.radii).length ≤ 24
    rw [motion_length]
    exact g.rl
  | make h =>
    show (if fine h = false then (s, ok (-1)) else ({ s with radii := cut s.foot h }, ⟨(short s.foot h : Nat), cut s.foot h⟩)).2.l.length ≤ 24
    by_cases k : fine h = false
    · rw [if_pos k]
      exact Nat.zero_le _
    · rw [if_neg k]
      have q := fine_iff.mp (by simpa using k)
      show (cut s.foot h).length ≤ 24
      rw [cut_length]
      exact q.2.1
  | idle =>
    show (idle s.foot s.radii).length ≤ 24
    unfold idle
    exact Nat.le_trans (List.length_filter_le ..) (by rw [List.length_range]; exact g.rl)
  | jams a w =>
    show (if HIGH < a ∨ 1 < w then (s, ok (-1)) else (s, match jams s.foot s.radii a w with | none => ok (-6) | some t => ok (t : Nat))).2.l.length ≤ 24
    by_cases k : HIGH < a ∨ 1 < w
    · rw [if_pos k]
      exact Nat.zero_le _
    · rw [if_neg k]
      cases jams s.foot s.radii a w <;> exact Nat.zero_le _
theorem tell_length {s : Cam} (g : Good s) : ∀ (cs : List Call), (tellAll s cs).length ≤ 26 * cs.length := by
  intro cs
  induction cs generalizing s with
  | nil => exact Nat.le_refl _
  | cons c cs ih =>
    have h1 := ans_length g c
    have h2 := ih (good_step g c)
    have e : (tellAll s (c :: cs)).length = (ansOf s c).length + 1 + (tellAll (step s c).1 cs).length := by
      unfold tellAll
      show ((((ansOf s c).length : Int) :: ansOf s c) ++ PyFlat.told (run (step s c).1 cs)).length = _
      rw [List.length_append, List.length_cons]
    rw [e, List.length_cons]
    omega
end Cm

/-! What is handed in, read as calls. -/
namespace Cm
open Uw41
theorem row_inv {l x s : List Int} (h : PyFlat.row l = some (x, s)) : l = (x.length : Int) :: (x ++ s) := by
  cases l with
  | nil => cases h
  | cons n r =>
    have h' : (if 0 ≤ n ∧ n.toNat ≤ r.length then some (r.take n.toNat, r.drop n.toNat) else none) = some (x, s) := h
    by_cases k : 0 ≤ n ∧ n.toNat ≤ r.length
    · rw [if_pos k] at h'
      obtain ⟨e1, e2⟩ := Prod.mk.inj (Option.some.inj h')
      subst e1
      subst e2
      have len : ((r.take n.toNat).length : Int) = n := by
        rw [List.length_take]
        omega
      rw [len, List.take_append_drop]
    · rw [if_neg k] at h'
      cases h'
theorem rows_one {l : List Int} {xs : List (List Int)} {t : List Int} (h : PyFlat.rows 1 l = some (xs, t)) : ∃ x, xs = [x] ∧ l = (x.length : Int) :: (x ++ t) := by
  have h' : (match PyFlat.row l with
    | none => none
    | some (x, s) => some ([x], s)) = some (xs, t) := h
  cases e : PyFlat.row l with
  | none =>
    rw [e] at h'
    cases h'
  | some q =>
    obtain ⟨x, s⟩ := q
    rw [e] at h'
    obtain ⟨e1, e2⟩ := Prod.mk.inj (Option.some.inj (show some ([x], s) = some (xs, t) from h'))
    subst e1
    subst e2
    exact ⟨x, rfl, row_inv e⟩
theorem toNat_nums : ∀ {x : List Int}, x.all Uw41Neutral.nat = true → nums (x.map Int.toNat) = x
  | [], _ => rfl
  | a :: x, h => by
    rw [List.all_cons, Bool.and_eq_true] at h
    have ih := toNat_nums h.2
    have ha : decide (0 ≤ a) = true := (Bool.and_eq_true_iff.mp h.1).1
    have ha := of_decide_eq_true ha
    show ((a.toNat : Nat) : Int) :: nums (x.map Int.toNat) = a :: x
    rw [ih]
    congr 1
    omega
/-- what a call with a row is -/
theorem row_call {p : Int} {r : List Int} {c : List (List Int)} {t : List Int} (hp : PyUw41.shape p = some (0, 1)) (h : PyFlat.call PyUw41.shape (p :: r) = some (c, t)) : ∃ x, c = [[p], x] ∧ r = (x.length : Int) :: (x ++ t) := by
  have h' : (match PyUw41.shape p with
    | none => none
    | some (n, k) => if r.length < n then none else match PyFlat.rows k (r.drop n) with
      | none => none
      | some (ys, u) => some ((p :: r.take n) :: ys, u)) = some (c, t) := h
  rw [hp] at h'
  have h2 : (if r.length < 0 then none else match PyFlat.rows 1 (r.drop 0) with
      | none => none
      | some (ys, u) => some ((p :: r.take 0) :: ys, u)) = some (c, t) := h'
  rw [if_neg (Nat.not_lt_zero _), List.drop_zero] at h2
  cases e : PyFlat.rows 1 r with
  | none =>
    rw [e] at h2
    cases h2
  | some q =>
    obtain ⟨ys, u⟩ := q
    rw [e] at h2
    obtain ⟨x, e1, e2⟩ := rows_one e
    obtain ⟨e3, e4⟩ := Prod.mk.inj (Option.some.inj (show some ((p :: r.take 0) :: ys, u) = some (c, t) from h2))
    subst e4
    subst e1
    exact ⟨x, e3.symm, e2⟩
theorem bare_call {p : Int} {r : List Int} {c : List (List Int)} {t : List Int} {n : Nat} (hp : PyUw41.shape p = some (n, 0)) (h : PyFlat.call PyUw41.shape (p :: r) = some (c, t)) : n ≤ r.length ∧ c = [p :: r.take n] ∧ t = r.drop n := by
  have h' : (match PyUw41.shape p with
    | none => none
    | some (n, k) => if r.length < n then none else match PyFlat.rows k (r.drop n) with
      | none => none
      | some (ys, u) => some ((p :: r.take n) :: ys, u)) = some (c, t) := h
  rw [hp] at h'
  have h2 : (if r.length < n then none else some ([p :: r.take n], r.drop n)) = some (c, t) := h'
  by_cases hl : r.length < n
  · rw [if_pos hl] at h2
    cases h2
  · rw [if_neg hl] at h2
    obtain ⟨e1, e2⟩ := Prod.mk.inj (Option.some.inj h2)
    exact ⟨by omega, e1.symm, e2.symm⟩
theorem callOf_nat {l : List Int} {k : Call} (h : Uw41Neutral.callOf l = some k) : l.all Uw41Neutral.nat = true ∧ Uw41Neutral.callIn (l.map Int.toNat) = some k := by
  unfold Uw41Neutral.callOf at h
  by_cases e : l.all Uw41Neutral.nat = false
  · rw [if_pos e] at h
    cases h
  · rw [if_neg e] at h
    exact ⟨by simpa using e, h⟩
theorem asked_some {l : List Int} (h : Uw41Neutral.asked1 l = true) : ∃ k, Uw41Neutral.callOf l = some k := by
  unfold Uw41Neutral.asked1 at h
  exact Option.isSome_iff_exists.mp h
theorem all_tail {p : Int} {x : List Int} (h : (p :: x).all Uw41Neutral.nat = true) : x.all Uw41Neutral.nat = true := by
  rw [List.all_cons, Bool.and_eq_true] at h
  exact h.2
/-- one call -/
theorem one_call {p : Int} {r : List Int} {c : List (List Int)} {t : List Int} (h : PyFlat.call PyUw41.shape (p :: r) = some (c, t)) (ha : Uw41Neutral.asked1 ((PyUw41.whole c).headD []) = true) :
    ∃ k, p :: r = flatC k ++ t ∧ sized k ∧ Uw41Neutral.callOf ((PyUw41.whole c).headD []) = some k := by
  obtain ⟨k, hk⟩ := asked_some ha
  obtain ⟨hn, hi⟩ := callOf_nat hk
  refine ⟨k, ?_, ?_, hk⟩ <;> clear ha hk
  all_goals
    by_cases p0 : p = 0
    · subst p0
      obtain ⟨x, rfl, rfl⟩ := row_call (by rfl) h
      have hn : (0 :: x).all Uw41Neutral.nat = true := hn
      have hi : (if (x.map Int.toNat).length ≤ 6 then some (Call.begins (x.map Int.toNat)) else none) = some k := hi
      by_cases hl : (x.map Int.toNat).length ≤ 6
      · rw [if_pos hl] at hi
        cases hi
        first
        | exact hl
        | show 0 :: (x.length : Int) :: (x ++ t) = 0 :: ((x.map Int.toNat).length : Int) :: (nums (x.map Int.toNat) ++ t)
          rw [toNat_nums (all_tail hn), List.length_map]
      · rw [if_neg hl] at hi
        cases hi
    by_cases p1 : p = 1
    · subst p1
      obtain ⟨x, rfl, rfl⟩ := row_call (by rfl) h
      have hn : (1 :: x).all Uw41Neutral.nat = true := hn
      have hi : (if (x.map Int.toNat).length ≤ 30 then some (Call.cam (x.map Int.toNat)) else none) = some k := hi
      by_cases hl : (x.map Int.toNat).length ≤ 30
      · rw [if_pos hl] at hi
        cases hi
        first
        | exact hl
        | show 1 :: (x.length : Int) :: (x ++ t) = 1 :: ((x.map Int.toNat).length : Int) :: (nums (x.map Int.toNat) ++ t)
          rw [toNat_nums (all_tail hn), List.length_map]
      · rw [if_neg hl] at hi
        cases hi
    by_cases p2 : p = 2
    · subst p2
      obtain ⟨_, rfl, rfl⟩ := bare_call (n := 0) (by rfl) h
      have hi : some Call.motion = some k := hi
      cases hi
      first
      | exact trivial
      | rfl
    by_cases p3 : p = 3
    · subst p3
      obtain ⟨x, rfl, rfl⟩ := row_call (by rfl) h
      have hn : (3 :: x).all Uw41Neutral.nat = true := hn
      have hi : (if (x.map Int.toNat).length ≤ 30 then some (Call.make (x.map Int.toNat)) else none) = some k := hi
      by_cases hl : (x.map Int.toNat).length ≤ 30
      · rw [if_pos hl] at hi
        cases hi
        first
        | exact hl
        | show 3 :: (x.length : Int) :: (x ++ t) = 3 :: ((x.map Int.toNat).length : Int) :: (nums (x.map Int.toNat) ++ t)
          rw [toNat_nums (all_tail hn), List.length_map]
      · rw [if_neg hl] at hi
        cases hi
    by_cases p4 : p = 4
    · subst p4
      obtain ⟨_, rfl, rfl⟩ := bare_call (n := 0) (by rfl) h
      have hi : some Call.idle = some k := hi
      cases hi
      first
      | exact trivial
      | rfl
    by_cases p5 : p = 5
    · subst p5
      obtain ⟨hl, rfl, rfl⟩ := bare_call (n := 2) (by rfl) h
      match r, hl with
      | [], hl => exact absurd hl (by decide)
      | [_], hl => exact absurd hl (by show ¬ 2 ≤ 1; decide)
      | x :: y :: r, _ =>
        have hn : [5, x, y].all Uw41Neutral.nat = true := hn
        have hi : some (Call.jams x.toNat y.toNat) = some k := hi
        cases hi
        first
        | exact trivial
        | have e := toNat_nums (all_tail hn)
          have e1 : ((x.toNat : Nat) : Int) = x := (List.cons.inj e).1
          have e2 : ((y.toNat : Nat) : Int) = y := (List.cons.inj (List.cons.inj e).2).1
          show 5 :: x :: y :: r = 5 :: ((x.toNat : Nat) : Int) :: ((y.toNat : Nat) : Int) :: r
          rw [e1, e2]
    · have e : PyUw41.shape p = none := by
        unfold PyUw41.shape
        rw [if_neg p0, if_neg p1, if_neg p2, if_neg p3, if_neg p4, if_neg p5]
      have h' : (match PyUw41.shape p with
        | none => none
        | some (n, k) => if r.length < n then none else match PyFlat.rows k (r.drop n) with
          | none => none
          | some (ys, u) => some ((p :: r.take n) :: ys, u)) = some (c, t) := h
      rw [e] at h'
      cases h'
theorem step_of {s : Cam} {l : List Int} {k : Call} (h : Uw41Neutral.callOf l = some k) : Uw41Neutral.step s l = ((step s k).1, ansOf s k) := by
  unfold Uw41Neutral.step
  rw [h]
  rfl
abbrev stepN (s : Uw41Neutral.S) (c : List (List Int)) : Uw41Neutral.S × List Int := Uw41Neutral.step s (c.headD [])
theorem many_calls : ∀ (f : Nat) (l : List Int) (raw : List (List (List Int))), PyFlat.calls PyUw41.shape f l = some raw → (∀ c ∈ raw, Uw41Neutral.asked1 ((PyUw41.whole c).headD []) = true) →
    ∃ cs : List Call, l = cs.flatMap flatC ∧ cs.length = raw.length ∧ (∀ c ∈ cs, sized c) ∧ ∀ s, PyFlat.played stepN s (raw.map PyUw41.whole) = run s cs
  | f, [], raw, h, _ => by
    have h' : some ([] : List (List (List Int))) = some raw := by
      cases f <;> exact h
    cases h'
    exact ⟨[], rfl, rfl, (fun _ h => by cases h), fun _ => rfl⟩
  | 0, _ :: _, _, h, _ => by cases h
  | f + 1, p :: r, raw, h, ha => by
    have h' : (match PyFlat.call PyUw41.shape (p :: r) with
      | none => none
      | some (d, t) => match PyFlat.calls PyUw41.shape f t with
        | none => none
        | some ds => some (d :: ds)) = some raw := h
    cases e : PyFlat.call PyUw41.shape (p :: r) with
    | none =>
      rw [e] at h'
      cases h'
    | some q =>
      obtain ⟨d, t⟩ := q
      rw [e] at h'
      have h2 : (match PyFlat.calls PyUw41.shape f t with
        | none => none
        | some ds => some (d :: ds)) = some raw := h'
      cases e2 : PyFlat.calls PyUw41.shape f t with
      | none =>
        rw [e2] at h2
        cases h2
      | some ds =>
        rw [e2] at h2
        have e3 : d :: ds = raw := Option.some.inj h2
        subst e3
        obtain ⟨k, e4, e5, e6⟩ := one_call e (ha d (List.mem_cons_self ..))
        obtain ⟨cs, i1, i2, i3, i4⟩ := many_calls f t ds e2 fun c hc => ha c (List.mem_cons_of_mem _ hc)
        refine ⟨k :: cs, ?_, ?_, ?_, fun s => ?_⟩
        · rw [e4, List.flatMap_cons, ← i1]
        · rw [List.length_cons, List.length_cons, i2]
        · intro c hc
          rcases List.mem_cons.mp hc with z | hc
          · rw [z]
            exact e5
          · exact i3 c hc
        · show (stepN s (PyUw41.whole d)).2 :: PyFlat.played stepN (stepN s (PyUw41.whole d)).1 (ds.map PyUw41.whole) = ansOf s k :: run (step s k).1 cs
          have e7 : stepN s (PyUw41.whole d) = ((step s k).1, ansOf s k) := step_of e6
          rw [e7, i4]
/-- what is asked, as calls; what is due -/
theorem read {l : List Int} (h : PyUw41.answers_asked l = true) : ∃ cs : List Call, l = cs.flatMap flatC ∧ cs.length ≤ 60 ∧ (∀ c ∈ cs, sized c) ∧ PyUw41.answers l = tellAll init cs := by
  unfold PyUw41.answers_asked at h
  cases e : PyFlat.calls PyUw41.shape l.length l with
  | none =>
    rw [e] at h
    cases h
  | some raw =>
    rw [e] at h
    have h : (!raw.isEmpty && PyFlat.atMost 60 raw && PyInside.calls PyUw41.bound raw && Uw41Neutral.asked ((raw.map PyUw41.whole).map fun c => c.headD []) && PyFlat.short 10000000 (PyUw41.answers l)) = true := h
    rw [Bool.and_eq_true, Bool.and_eq_true, Bool.and_eq_true, Bool.and_eq_true] at h
    obtain ⟨⟨⟨⟨_, h60⟩, _⟩, has⟩, _⟩ := h
    have h60 : raw.length ≤ 60 := of_decide_eq_true h60
    have h1 : ((raw.map PyUw41.whole).map fun c => c.headD []).all Uw41Neutral.asked1 = true := by
      unfold Uw41Neutral.asked at has
      rw [Bool.and_eq_true] at has
      exact has.1
    obtain ⟨cs, e1, e2, e3, e4⟩ := many_calls _ _ _ e fun c hc => by
      rw [List.all_eq_true] at h1
      exact h1 _ (List.mem_map.mpr ⟨_, List.mem_map.mpr ⟨c, hc, rfl⟩, rfl⟩)
    refine ⟨cs, e1, by omega, e3, ?_⟩
    unfold PyUw41.answers PyUw41.calls
    rw [e]
    show PyFlat.told (PyFlat.played stepN Uw41Neutral.start (raw.map PyUw41.whole)) = _
    rw [e4]
    rfl
/-! ### the list handed in, by places -/
def ends (cs : List Call) (i : Nat) : Nat := ((cs.take i).flatMap flatC).length
theorem flat_pos (c : Call) : 0 < (flatC c).length := by
  cases c <;> exact Nat.succ_pos _
theorem flat_split {cs : List Call} {i : Nat} {c : Call} (h : cs[i]? = some c) : cs.flatMap flatC = (cs.take i).flatMap flatC ++ (flatC c ++ (cs.drop (i + 1)).flatMap flatC) := by
  have e : cs = cs.take i ++ (c :: cs.drop (i + 1)) := by
    obtain ⟨hi, rfl⟩ := List.getElem?_eq_some_iff.mp h
    rw [← List.drop_eq_getElem_cons hi, List.take_append_drop]
  conv => lhs; rw [e]
  rw [List.flatMap_append, List.flatMap_cons]
theorem ends_more {cs : List Call} {i : Nat} {c : Call} (h : cs[i]? = some c) : ends cs (i + 1) = ends cs i + (flatC c).length := by
  unfold ends
  rw [take_more h, List.flatMap_append, List.length_append]
  congr 1
  rw [List.flatMap_cons, List.flatMap_nil, List.append_nil]
theorem ends_all {cs : List Call} {i : Nat} (h : cs.length ≤ i) : ends cs i = (cs.flatMap flatC).length := by
  unfold ends
  rw [List.take_of_length_le h]
theorem ends_lt {cs : List Call} {i : Nat} {c : Call} (h : cs[i]? = some c) : ends cs i + (flatC c).length ≤ (cs.flatMap flatC).length := by
  rw [flat_split h, List.length_append, List.length_append]
  unfold ends
  omega
end Cm

/-! The text by its places, lists of numbers as values, heaps. -/
namespace Cm
open PySem PySem.Spec PyProof.Rows L2
/-- the i-th statement of the program -/
def top (i : Nat) : Stmt := PySem.Challenge.pw_camfollower_s01_answers.main.body.getD i (.Pass ⟨0, 0, 0, 0⟩)
abbrev sIsFoot : Stmt := top 4
abbrev sBeside : Stmt := top 5
abbrev sReached : Stmt := top 6
abbrev sHeight : Stmt := top 8
abbrev sMotion : Stmt := top 9
abbrev sRadius : Stmt := top 10
abbrev sCut : Stmt := top 11
abbrev sLower : Stmt := top 12
abbrev sWithout : Stmt := top 14
abbrev sIdle : Stmt := top 15
abbrev sRise : Stmt := top 16
abbrev sJam : Stmt := top 17
abbrev sInit : Stmt := inClass (top 25) 0
abbrev sMBegins : Stmt := inClass (top 25) 1
abbrev sMCam : Stmt := inClass (top 25) 2
abbrev sMMotion : Stmt := inClass (top 25) 3
abbrev sMMake : Stmt := inClass (top 25) 4
abbrev sMIdle : Stmt := inClass (top 25) 5
abbrev sMJams : Stmt := inClass (top 25) 6
abbrev sPlaces : Stmt := top 26
abbrev sEndOf : Stmt := top 27
abbrev sParted : Stmt := top 28
abbrev sAnswer : Stmt := top 29
abbrev sAnswers : Stmt := top 30
/-! ### what the module's names hold -/
structure Glob (K : PySem.W.Frag) (mg : Str → Option Value) : Prop where
  len : mg "len" = none
  range : mg "range" = none
  all : mg "all" = none
  max : mg "max" = none
  min : mg "min" = none
  sum : mg "sum" = none
  zip : mg "zip" = none
  list : mg "list" = none
  mostN : ∃ t, mg "MOST_NUMBERS" = some (.int 4 t)
  most : ∃ t, mg "MOST" = some (.int 100 t)
  leastP : ∃ t, mg "LEAST_PLACES" = some (.int 2 t)
  mostP : ∃ t, mg "MOST_PLACES" = some (.int 24 t)
  out : ∃ t, mg "OUT_OF_BOUNDS" = some (.int (-1) t)
  nowhere : ∃ t, mg "NOWHERE" = some (.int (-6) t)
  jams : ∃ t, mg "JAMS" = some (.int 5 t)
  point : ∃ a, mg "POINT" = some (.ref a) ∧ ∀ H : Hp, SqT K H a [.int 0]
  rows : ∃ a, mg "WITH_ROW" = some (.ref a) ∧ ∀ H : Hp, SqT K H a [.int 0, .int 1, .int 3]
/-! ### numbers as values -/
def iv (l : List Int) : List V := l.map V.int
def nv (l : List Nat) : List V := l.map fun n : Nat => V.int (n : Int)
theorem nv_eq (l : List Nat) : nv l = (nums l).map V.int := by
  unfold nv nums
  rw [List.map_map]
  rfl
theorem nv_length (l : List Nat) : (nv l).length = l.length := List.length_map ..
theorem iv_length (l : List Int) : (iv l).length = l.length := List.length_map ..
theorem nv_get {l : List Nat} {i : Nat} (h : i < l.length) : (nv l)[i]? = some (.int ((l.getD i 0 : Nat) : Int)) := by
  unfold nv
  rw [List.getElem?_map, List.getElem?_eq_getElem h, List.getD_eq_getElem?_getD, List.getElem?_eq_getElem h]
  rfl
theorem nv_at {l : List Nat} {i : Nat} (h : i < l.length) : atI (nv l) (i : Int) = some (.int ((l.getD i 0 : Nat) : Int)) := atI_nat (nv_get h)
theorem nv_of_get {l : List Nat} {i : Nat} {x : V} (h : (nv l)[i]? = some x) : ∃ n, l[i]? = some n ∧ x = .int (n : Int) := by
  unfold nv at h
  rw [List.getElem?_map] at h
  cases e : l[i]? with
  | none =>
    rw [e] at h
    cases h
  | some n =>
    rw [e] at h
    exact ⟨n, rfl, (Option.some.inj h).symm⟩
theorem nv_append (a b : List Nat) : nv (a ++ b) = nv a ++ nv b := List.map_append
theorem iv_append (a b : List Int) : iv (a ++ b) = iv a ++ iv b := List.map_append
theorem small (n : Nat) (h : n ≤ 100000) : n ≤ sizeLine := by
  rw [sizeLine_eq]
  omega
theorem smallLt (n : Nat) (h : n ≤ 100000) : n < sizeLine := by
  rw [sizeLine_eq]
  omega
theorem relI {i : Int} {t : Tok} : RelV (.int i) (.int i t) := ⟨t, rfl⟩
theorem relR {a : Addr} : RelV (.ref a) (.ref a) := rfl
/-! ### heaps -/
theorem same_new {H : Hp} {p : Addr} {o : HO} (h : H p = none) : Same H (upd H p o) := fun b x e => by
  rw [upd_ne (ne_of_none e h)]
  exact e
theorem same_own {H H1 : Hp} {p : Addr} {o : HO} (h : H p = none) (s : Same H H1) : Same H (upd H1 p o) := fun b x e => by
  rw [upd_ne (ne_of_none e h)]
  exact s b x e
theorem same_tup {K : PySem.W.Frag} {H H' : Hp} {a : Addr} {xs : List V} (e : Same H H') (h : SqT K H a xs) : SqT K H' a xs := by
  rcases h with (h | ⟨o, h⟩) | h
  · exact .inl (.inl (e _ _ h))
  · exact .inl (.inr ⟨o, e _ _ h⟩)
  · exact .inr h
/-! ### slices -/
theorem cut_nat (xs : List V) (i j : Nat) (hi : i ≤ xs.length) (hj : j ≤ xs.length) : cutV xs (some (i : Int)) (some (j : Int)) = (xs.drop i).take (j - i) := by
  unfold cutV
  rw [HT.sIx_nat, HT.sIx_nat, Nat.min_eq_left hi, Nat.min_eq_left hj]
theorem cut_from_nat (xs : List V) (i : Nat) (hi : i ≤ xs.length) : cutV xs (some (i : Int)) none = xs.drop i := by
  unfold cutV
  rw [HT.sIx_nat, HT.sIx_none, Nat.min_eq_left hi]
  exact List.take_of_length_le (by rw [List.length_drop]; exact Nat.le_refl _)
theorem cut_to_nat (xs : List V) (j : Nat) (hj : j ≤ xs.length) : cutV xs none (some (j : Int)) = xs.take j := by
  unfold cutV
  rw [HT.sIx_nat, HT.sIx_none, Nat.min_eq_left hj]
  rfl
/-- a test whose answer is known -/
theorem if_true_of {c : Bool} {A B : Prop} (hc : c = true) (h : A) : if c = true then A else B := by
  rw [if_pos hc]
  exact h
theorem if_false_of {c : Bool} {A B : Prop} (hc : c = false) (h : B) : if c = true then A else B := by
  rw [hc, if_neg Bool.false_ne_true]
  exact h
end Cm

namespace Cm
open PySem PySem.Spec PyProof.Rows L2
section
variable {P : Program} {w : World} {K : PySem.W.Frag} {mg : Str → Option Value} {base : Heap}
/-! ### beside -/
def spBeside : Sp := fun vs H Q _ => ∃ n t d : Nat, vs = [.int n, .int t, .int d] ∧ 0 < n ∧
  ∀ p, H p = none → Q (.ref p) (upd H p (.lst [.int ((Uw41.on n t d : Nat) : Int), .int ((Uw41.back n t d : Nat) : Int)]))
theorem scBeside : FnScope ["many", "place", "aside"] ["many", "place", "aside"] (defScope sBeside) := ⟨rfl, rfl, rfl, by decide +kernel, rfl, by decide +kernel, by decide +kernel⟩
theorem ok_beside {f : Addr} {fd : FuncData} (F : Fun K "beside" "beside" sBeside f fd) : FnOk P w K mg base CX0 1 f fd ["many", "place", "aside"] spBeside := by
  refine F.ok scBeside (fun vs H Q E h => ?_) (fun cdv A outer s H vs Q E hr h => ?_)
  · obtain ⟨n, t, d, rfl, _⟩ := h
    rfl
  · obtain ⟨n, t, d, rfl, hn, q⟩ := h
    refine ⟨_, pss_one (ps_ret (pe_lst (pa_cons (pe_op op_mod (pe_op op_add (pv 1) (pv 2)) (pv 0)) (pa_cons (pe_op op_mod (pe_op op_sub (pv 1) (pv 2)) (pv 0)) pa_nil)))), ?_⟩
    have hn' : (0 : Int) < (n : Int) := by omega
    refine ⟨_, rfl, _, rfl, _, _, rfl, rfl, _, rfl, _, _, rfl, rfl, hn', _, rfl, _, rfl, _, _, rfl, rfl, _, rfl, _, _, rfl, rfl, hn', (by show 2 ≤ sizeLine; decide), fun p hp => ?_⟩
    dsimp only
    rw [on_int, back_int hn]
    exact q p hp
/-! ### reached -/
/-- a list of pairs, each an own tuple -/
def Prs (H : Hp) (xs : List V) (ps : List (Nat × Nat)) : Prop := xs.length = ps.length ∧
  ∀ (i : Nat) (x : V), xs[i]? = some x → ∃ (q : Nat × Nat) (a : Addr), ps[i]? = some q ∧ x = .ref a ∧ H a = some (.tup [.int (q.1 : Int), .int (q.2 : Int)])
theorem Prs.nil {H : Hp} : Prs H [] [] := ⟨rfl, fun i x h => by simp at h⟩
theorem Prs.same {H H' : Hp} {xs : List V} {ps : List (Nat × Nat)} (h : Prs H xs ps) (s : Same H H') : Prs H' xs ps := ⟨h.1, fun i x e => by
  obtain ⟨q, a, h1, h2, h3⟩ := h.2 i x e
  exact ⟨q, a, h1, h2, s _ _ h3⟩⟩
theorem Prs.upd {H : Hp} {xs ys zs : List V} {ps : List (Nat × Nat)} {o : Addr} (h : Prs H xs ps) (ho : H o = some (.lst ys)) : Prs (upd H o (.lst zs)) xs ps := ⟨h.1, fun i x e => by
  obtain ⟨q, a, h1, h2, h3⟩ := h.2 i x e
  refine ⟨q, a, h1, h2, ?_⟩
  rw [upd_ne (ne_of h3 ho (by intro z; cases z))]
  exact h3⟩
theorem Prs.snoc {H : Hp} {xs : List V} {ps : List (Nat × Nat)} {q : Nat × Nat} {a : Addr} (h : Prs H xs ps) (ha : H a = some (.tup [.int (q.1 : Int), .int (q.2 : Int)])) : Prs H (xs ++ [.ref a]) (ps ++ [q]) := by
  refine ⟨by rw [List.length_append, List.length_append, h.1]; rfl, fun i x e => ?_⟩
  by_cases hi : i < xs.length
  · rw [List.getElem?_append_left hi] at e
    obtain ⟨q', a', h1, h2, h3⟩ := h.2 i x e
    refine ⟨q', a', ?_, h2, h3⟩
    rw [List.getElem?_append_left (by rw [← h.1]; exact hi)]
    exact h1
  · rw [List.getElem?_append_right (by omega)] at e
    have hj : i - xs.length = 0 := by
      by_cases z : i - xs.length = 0
      · exact z
      · rw [List.getElem?_eq_none (by simp; omega)] at e
        cases e
    rw [hj] at e
    have ex : V.ref a = x := Option.some.inj e
    refine ⟨q, a, ?_, ex.symm, ha⟩
    rw [List.getElem?_append_right (by rw [← h.1]; omega), ← h.1, hj]
    rfl
def spReached (K : PySem.W.Frag) : Sp := fun vs H Q _ => ∃ (fa : Addr) (foot : List Nat) (n t : Nat), vs = [.ref fa, .int n, .int t] ∧ SqL K H fa (nv foot) ∧ foot.length ≤ 4 ∧ 0 < n ∧
  ∀ H' p xs, Same H H' → H p = none → H' p = some (.lst xs) → Prs H' xs (pairs foot n t) → Q (.ref p) H'
theorem scReached : FnScope ["foot", "many", "place", "found", "aside", "other"] ["foot", "many", "place"] (defScope sReached) := ⟨rfl, rfl, rfl, by decide +kernel, rfl, by decide +kernel, by decide +kernel⟩
theorem ok_reached {f fB : Addr} {fd fdB : FuncData} (G : Glob K mg) (F : Fun K "reached" "reached" sReached f fd) (FB : Fun K "beside" "beside" sBeside fB fdB) (bB : Binds K fdB ["many", "place", "aside"] []) (gB : mg "beside" = some (.ref fB)) :
    FnOk P w K mg base CX0 2 f fd ["foot", "many", "place"] (spReached K) := by
  have GB : FnOk P w K mg base CX0 1 fB fdB ["many", "place", "aside"] spBeside := ok_beside FB
  refine F.ok scReached (fun vs H Q E h => ?_) (fun cdv A outer s H vs Q E hr h => ?_)
  · obtain ⟨fa, foot, n, t, rfl, _⟩ := h
    rfl
  · obtain ⟨fa, foot, n, t, rfl, hS, hl, hn, q⟩ := h
    refine ⟨_, pss_cons (ps_set (i := 3) scReached.nd rfl (.inl rfl) (pe_lst pa_nil))
      (pss_cons (ps_for PassesOwn.never rfl (pi_range1 rfl G.range (pa_cons (pe_callB call_len_seq (by rfl) G.len PySem.boot_len (pa_cons (pv 0) pa_nil)) pa_nil)) (pg_name (i := 4) scReached.nd rfl (.inl rfl))
        (pss_one (ps_for PassesOwn.never rfl (pi_list (pe_call GB hr rfl gB FB.kp bB .nil pass0 (pa_cons (pv 1) (pa_cons (pv 2) (pa_cons (pv 4) pa_nil))))) (pg_name (i := 5) scReached.nd rfl (.inl rfl))
          (pss_one (ps_expr (pe_bm PySem.F.plainAttrs_list PySem.F.slot_list_append PySem.F.type_list_append mt_append (pv 3)
            (pa_cons (pe_tup (pa_cons (pv 5) (pa_cons (pe_ix ix_list (pv 0) (pv 4) (fun _ _ => rfl)) pa_nil))) pa_nil)))))))
      (pss_one (ps_ret (pv 3)))), ?_⟩
    -- found = []
    refine ⟨Nat.zero_le _, fun o no => ?_⟩
    have s1 : Same H (upd H o (.lst [])) := same_new no
    -- range(len(foot))
    refine ⟨_, rfl, fa, nv foot, rfl, .inl (s1.seq hS), ((nv foot).length : Int), rfl, ?_, ?_, ?_⟩
    · rw [nv_length]
      omega
    · rw [nv_length]
      omega
    rw [Int.toNat_natCast, nv_length]
    refine for_range (lo := 0) (n := foot.length) (fun i σ H' => ∃ v4 v5 xs, σ = [some (.ref fa), some (.int n), some (.int t), some (.ref o), v4, v5] ∧ Same H H' ∧ H' o = some (.lst xs) ∧ Prs H' xs ((List.range i).flatMap (two foot n t)))
      ⟨none, none, [], rfl, s1, upd_same, Prs.nil⟩ ?_ ?_
    · rintro i σ H1 hi ⟨v4, v5, xs, rfl, s2, ho, hp⟩
      -- beside(many, place, aside)
      refine ⟨_, rfl, _, rfl, _, rfl, n, t, i, ?_, hn, fun b nb => ?_⟩
      · rw [Int.zero_add]
        rfl
      have nbo : b ≠ o := fun z => by
        rw [z, ho] at nb
        cases nb
      have s3 : Same H1 (upd H1 b (.lst [.int ((Uw41.on n t i : Nat) : Int), .int ((Uw41.back n t i : Nat) : Int)])) := same_new nb
      have nHb : H b = none := s2.free nb
      refine ⟨b, rfl, ⟨_, SqL.of upd_same⟩, ?_⟩
      refine for_list (K := K) (a := b) (xs := [.int ((Uw41.on n t i : Nat) : Int), .int ((Uw41.back n t i : Nat) : Int)])
        (fun j σ H' => ∃ v5 xs, σ = [some (.ref fa), some (.int n), some (.int t), some (.ref o), some (.int (i : Int)), v5] ∧ Same H H' ∧ H' b = some (.lst [.int ((Uw41.on n t i : Nat) : Int), .int ((Uw41.back n t i : Nat) : Int)]) ∧ H' o = some (.lst xs) ∧
          Prs H' xs ((List.range i).flatMap (two foot n t) ++ (two foot n t i).take j))
        ⟨v5, xs, ?_, s2.trans s3, upd_same, ?_, ?_⟩ (fun j σ H' _ ⟨_, _, _, _, hb, _, _⟩ => SqL.of hb) ?_ ?_
      · show [some (V.ref fa), some (.int n), some (.int t), some (.ref o), some (.int (0 + (i : Int))), v5] = _
        rw [Int.zero_add]
      · rw [upd_ne nbo.symm]
        exact ho
      · rw [List.take_zero, List.append_nil]
        exact hp.same s3
      · rintro j x σ H2 hj ⟨v5, ys, rfl, s4, hb, ho2, hp2⟩
        -- the item
        obtain ⟨m, hm, ex⟩ : ∃ m : Nat, (two foot n t i)[j]? = some (m, foot.getD i 0) ∧ x = .int (m : Int) := by
          match j, hj with
          | 0, hj => exact ⟨_, rfl, (Option.some.inj hj).symm⟩
          | 1, hj => exact ⟨_, rfl, (Option.some.inj hj).symm⟩
          | j + 2, hj => simp at hj
        subst ex
        have hA : SqL K H2 fa (nv foot) := s4.seq hS
        refine ⟨.ref o, rfl, .inl ⟨rfl, _, SqL.of ho2⟩, _, rfl, .ref fa, rfl, _, rfl, fa, _, _, _, rfl, rfl, hA, nv_at hi, (by show 2 ≤ sizeLine; decide), fun T nT => ?_⟩
        have nTo : o ≠ T := ne_of_none ho2 nT
        have nTb : b ≠ T := ne_of_none hb nT
        have s5 : Same H2 (upd H2 T (.tup [.int (m : Int), .int ((foot.getD i 0 : Nat) : Int)])) := same_new nT
        have hoT : upd H2 T (.tup [.int (m : Int), .int ((foot.getD i 0 : Nat) : Int)]) o = some (.lst ys) := by
          rw [upd_ne nTo]
          exact ho2
        have hlen : ys.length ≤ 2 * foot.length := by
          have e1 := hp2.1
          rw [e1, List.length_append]
          have e2 : ∀ k : Nat, ((List.range k).flatMap (two foot n t)).length = 2 * k := by
            intro k
            induction k with
            | zero => rfl
            | succ k ih =>
              rw [List.range_succ, List.flatMap_append, List.length_append, ih]
              show 2 * k + 2 = _
              omega
          rw [e2]
          have e3 : ((two foot n t i).take j).length ≤ 2 := by
            rw [List.length_take]
            exact Nat.min_le_right _ _
          omega
        refine ⟨o, ys, _, rfl, rfl, hoT, smallLt _ (by omega), ?_⟩
        refine ⟨some (.int (m : Int)), _, rfl, ?_, ?_, upd_same, ?_⟩
        · exact same_own no (s4.trans s5)
        · rw [upd_ne nbo, upd_ne nTb]
          exact hb
        · rw [take_more hm, ← List.append_assoc]
          exact ((hp2.same s5).snoc (q := (m, foot.getD i 0)) upd_same).upd hoT
      · rintro σ H2 ⟨v5, ys, rfl, s4, hb, ho2, hp2⟩
        refine ⟨some (.int (i : Int)), v5, ys, rfl, s4, ho2, ?_⟩
        rw [List.range_succ, List.flatMap_append, List.flatMap_cons, List.flatMap_nil, List.append_nil]
        exact hp2
    · rintro σ H1 ⟨v4, v5, xs, rfl, s2, ho, hp⟩
      exact ⟨.ref o, rfl, q H1 o xs s2 no ho hp⟩
end
end Cm

namespace Cm
open PySem PySem.Spec PyProof.Rows L2
/-- whether numbers are a foot -/
def footOk (f : List Nat) : Bool := !decide (f.head? ≠ some 0 ∨ Uw41.FOOT < f.length ∨ (f.all fun n => decide (n ≤ Uw41.HIGH)) = false)
theorem footOk_eq {f : List Nat} {n : Nat} (h0 : f.head? = some n) : footOk f = ((decide (f.length ≤ 4) && decide (n = 0)) && f.all fun n => decide (n ≤ 100)) := by
  unfold footOk Uw41.FOOT Uw41.HIGH
  rw [h0]
  by_cases h1 : n = 0
  · by_cases h2 : f.length ≤ 4
    · cases h3 : f.all fun n => decide (n ≤ 100)
      · rw [decide_eq_true (.inr (.inr rfl)), Bool.and_false]
        rfl
      · rw [decide_eq_true h1, decide_eq_true h2, decide_eq_false]
        · rfl
        · rintro (k | k | k)
          · exact k (by rw [h1])
          · omega
          · cases k
    · rw [decide_eq_true (.inr (.inl (by omega))), decide_eq_false h2]
      rfl
  · rw [decide_eq_true (.inl fun k => h1 (Option.some.inj k)), decide_eq_false h1, Bool.and_false]
    rfl
theorem footOk_nil : footOk [] = false := rfl
def bits (l : List Nat) : List Bool := l.map fun n => decide (n ≤ 100)
theorem bits_all (l : List Nat) : (bits l).all id = l.all fun n => decide (n ≤ 100) := by
  unfold bits
  rw [List.all_map]
  rfl
theorem fine_eq (r : List Nat) : Uw41.fine r = (decide (2 ≤ r.length) && (decide (r.length ≤ 24) && (bits r).all id)) := by
  rw [bits_all]
  rfl
section
variable {P : Program} {w : World} {K : PySem.W.Frag} {mg : Str → Option Value} {base : Heap}
/-! ### is_foot -/
def spIsFoot (K : PySem.W.Frag) : Sp := fun vs H Q _ => ∃ (a : Addr) (ns : List Nat), vs = [.ref a] ∧ SqL K H a (nv ns) ∧ ns.length ≤ 30 ∧ ∀ H', Same H H' → Q (.bl (footOk ns)) H'
theorem scIsFoot : FnScope ["numbers", "number"] ["numbers"] (defScope sIsFoot) := ⟨rfl, rfl, rfl, by decide +kernel, rfl, by decide +kernel, by decide +kernel⟩
theorem ok_isFoot {f : Addr} {fd : FuncData} (G : Glob K mg) (F : Fun K "is_foot" "is_foot" sIsFoot f fd) : FnOk P w K mg base CX0 1 f fd ["numbers"] (spIsFoot K) := by
  obtain ⟨tm, gm⟩ := G.most
  obtain ⟨tn, gn⟩ := G.mostN
  refine F.ok scIsFoot (fun vs H Q E h => ?_) (fun cdv A outer s H vs Q E hr h => ?_)
  · obtain ⟨a, ns, rfl, _⟩ := h
    rfl
  · obtain ⟨a, ns, rfl, hS, hl, q⟩ := h
    refine ⟨_, pss_cons (ps_if (PW.pt (pw_or (pt_not (pt_chain op_le op_le pe_int (pe_callB call_len_seq (by rfl) G.len PySem.boot_len (pa_cons (pv 0) pa_nil)) (pe_glob rfl gn relI)))
          (pw_or1 (pt_cmpR op_ne (pe_ix ix_list (pv 0) pe_int (fun _ _ => rfl)) pe_int (nomark _)))))
        (pss_one (ps_ret pe_bl)) pss_nil)
      (pss_one (ps_ret (pe_callB (cr_all rfl) (by rfl) G.all (by decide +kernel) (pa_cons
        (pe_lc (own := [("number", 1)]) (g := gName 1) (tt := tYes) rfl scIsFoot.nd (pi_list (pv 0)) (blkOk_by (N := ["numbers", "number"]) (sc := defScope sIsFoot) (by decide +kernel))
          (fun _ _ _ _ _ => pg_name (i := 1) scIsFoot.nd rfl (Or.inl rfl)) (fun _ _ _ _ _ => pts_nil) (fun _ _ _ _ _ => pe_cmpR op_le (pv 1) (pe_glob rfl gm relI) (nomark _))) pa_nil)))), ?_⟩
    -- 1 <= len(numbers)
    refine ⟨_, rfl, a, nv ns, rfl, .inl hS, 1, _, rfl, rfl, _, rfl, ?_⟩
    rw [nv_length]
    cases ns with
    | nil =>
      refine if_false_of (by decide) ⟨_, rfl, ?_⟩
      refine if_true_of (by decide) (if_true_of rfl ?_)
      exact q H (Same.refl H)
    | cons n r =>
      refine if_true_of (decide_eq_true (by rw [List.length_cons]; omega)) ⟨_, _, rfl, rfl, _, rfl, ?_⟩
      by_cases h4 : (n :: r).length ≤ 4
      · refine if_false_of (by rw [decide_eq_true (by omega)]; rfl) ⟨_, rfl, a, _, 0, .int (n : Int), rfl, rfl, hS, atI_nat (j := 0) rfl, rfl, _, rfl, ?_⟩
        by_cases h0 : n = 0
        · subst h0
          refine if_false_of (by decide) ?_
          refine ⟨_, rfl, a, rfl, ⟨_, hS⟩, fun D nD => lc_list (K := K) (a := a) (xs := nv (0 :: r)) (fun i H' => Same H H' ∧ H' D = some (.lst ((bits ((0 :: r).take i)).map V.bl)))
            ⟨same_new nD, upd_same⟩ (fun i H' _ h => h.1.seq hS) ?_ ?_⟩
          · rintro i x H' hi ⟨s1, hD⟩
            obtain ⟨m, hm, rfl⟩ := nv_of_get hi
            refine ⟨rfl, ⟨_, rfl, _, _, rfl, rfl, _, hD, ?_, same_own nD s1, ?_⟩⟩
            · refine smallLt _ ?_
              unfold bits
              rw [List.length_map, List.length_map, List.length_take]
              omega
            · rw [upd_same, take_more hm]
              unfold bits
              rw [List.map_append, List.map_append]
              have e : decide ((m : Int) ≤ 100) = decide (m ≤ 100) := decide_eq_decide.mpr (by omega)
              show some (HO.lst (_ ++ [V.bl (decide ((m : Int) ≤ 100))])) = _
              rw [e]
              rfl
          · rintro H' ⟨s1, hD⟩
            rw [nv_length, List.take_length] at hD
            refine ⟨D, bits (0 :: r), rfl, SqL.of hD, ?_⟩
            have e := footOk_eq (f := 0 :: r) rfl
            rw [decide_eq_true h4, decide_eq_true rfl, ← bits_all] at e
            have e : footOk (0 :: r) = (bits (0 :: r)).all id := e
            rw [← e]
            exact q H' s1
        · refine if_true_of ?_ ?_
          · rw [decide_eq_false]
            · rfl
            · intro z
              have z := V.int.inj z
              omega
          · have e := footOk_eq (f := n :: r) rfl
            rw [decide_eq_false h0, Bool.and_false] at e
            have e : footOk (n :: r) = false := e
            have z := q H (Same.refl H)
            rw [e] at z
            exact z
      · refine if_true_of (by rw [decide_eq_false (by omega)]; rfl) (if_true_of rfl ?_)
        have e := footOk_eq (f := n :: r) rfl
        rw [decide_eq_false h4] at e
        have e : footOk (n :: r) = false := e
        have z := q H (Same.refl H)
        rw [e] at z
        exact z
/-! ### are_places -/
def spPlaces (K : PySem.W.Frag) : Sp := fun vs H Q _ => ∃ (a : Addr) (ns : List Nat), vs = [.ref a] ∧ SqL K H a (nv ns) ∧ ns.length ≤ 30 ∧ ∀ H', Same H H' → Q (.bl (Uw41.fine ns)) H'
theorem scPlaces : FnScope ["numbers", "number"] ["numbers"] (defScope sPlaces) := ⟨rfl, rfl, rfl, by decide +kernel, rfl, by decide +kernel, by decide +kernel⟩
theorem ok_places {f : Addr} {fd : FuncData} (G : Glob K mg) (F : Fun K "are_places" "are_places" sPlaces f fd) : FnOk P w K mg base CX0 1 f fd ["numbers"] (spPlaces K) := by
  obtain ⟨tm, gm⟩ := G.most
  obtain ⟨tl, gl⟩ := G.leastP
  obtain ⟨tp, gp⟩ := G.mostP
  refine F.ok scPlaces (fun vs H Q E h => ?_) (fun cdv A outer s H vs Q E hr h => ?_)
  · obtain ⟨a, ns, rfl, _⟩ := h
    rfl
  · obtain ⟨a, ns, rfl, hS, hl, q⟩ := h
    refine ⟨_, pss_one (ps_ret (pe_and (pe_chain op_le op_le (pe_glob rfl gl relI) (pe_callB call_len_seq (by rfl) G.len PySem.boot_len (pa_cons (pv 0) pa_nil)) (pe_glob rfl gp relI))
      (pe_one (pe_callB (cr_all rfl) (by rfl) G.all (by decide +kernel) (pa_cons
        (pe_lc (own := [("number", 1)]) (g := gName 1) (tt := tYes) rfl scPlaces.nd (pi_list (pv 0)) (blkOk_by (N := ["numbers", "number"]) (sc := defScope sPlaces) (by decide +kernel))
          (fun _ _ _ _ _ => pg_name (i := 1) scPlaces.nd rfl (Or.inl rfl)) (fun _ _ _ _ _ => pts_nil) (fun _ _ _ _ _ => pe_cmpR op_le (pv 1) (pe_glob rfl gm relI) (nomark _))) pa_nil))))), ?_⟩
    have fe := fine_eq ns
    refine ⟨_, rfl, a, nv ns, rfl, .inl hS, _, _, rfl, rfl, _, rfl, ?_⟩
    rw [nv_length]
    by_cases h2 : 2 ≤ ns.length
    · refine if_true_of (decide_eq_true (by omega)) ⟨_, _, rfl, rfl, _, rfl, ?_⟩
      by_cases h24 : ns.length ≤ 24
      · refine if_true_of (decide_eq_true (by omega)) ?_
        refine ⟨_, rfl, a, rfl, ⟨_, hS⟩, fun D nD => lc_list (K := K) (a := a) (xs := nv ns) (fun i H' => Same H H' ∧ H' D = some (.lst ((bits (ns.take i)).map V.bl)))
          ⟨same_new nD, upd_same⟩ (fun i H' _ h => h.1.seq hS) ?_ ?_⟩
        · rintro i x H' hi ⟨s1, hD⟩
          obtain ⟨m, hm, rfl⟩ := nv_of_get hi
          refine ⟨rfl, ⟨_, rfl, _, _, rfl, rfl, _, hD, ?_, same_own nD s1, ?_⟩⟩
          · refine smallLt _ ?_
            unfold bits
            rw [List.length_map, List.length_map, List.length_take]
            omega
          · rw [upd_same, take_more hm]
            unfold bits
            rw [List.map_append, List.map_append]
            have e : decide ((m : Int) ≤ 100) = decide (m ≤ 100) := decide_eq_decide.mpr (by omega)
            show some (HO.lst (_ ++ [V.bl (decide ((m : Int) ≤ 100))])) = _
            rw [e]
            rfl
        · rintro H' ⟨s1, hD⟩
          rw [nv_length, List.take_length] at hD
          refine ⟨D, bits ns, rfl, SqL.of hD, ?_⟩
          rw [decide_eq_true h2, decide_eq_true h24] at fe
          have e : Uw41.fine ns = (bits ns).all id := fe
          rw [← e]
          exact q H' s1
      · refine if_false_of (decide_eq_false (by omega)) ?_
        rw [decide_eq_true h2, decide_eq_false h24] at fe
        have z := q H (Same.refl H)
        rw [fe] at z
        exact z
    · refine if_false_of (decide_eq_false (by omega)) ⟨_, rfl, if_false_of rfl ?_⟩
      rw [decide_eq_false h2] at fe
      have z := q H (Same.refl H)
      rw [fe] at z
      exact z
end
end Cm

namespace Cm
open PySem PySem.Spec PyProof.Rows L2
theorem high_more {r : List Nat} {ps : List (Nat × Nat)} {i acc : Nat} {q : Nat × Nat} (h : ps[i]? = some q) : high r (ps.take (i + 1)) acc = max (high r (ps.take i) acc) (r.getD q.1 0 - q.2) := by
  unfold high
  rw [take_more h, List.foldl_append]
  rfl
theorem low_more {r : List Nat} {ps : List (Nat × Nat)} {i acc : Nat} {q : Nat × Nat} (h : ps[i]? = some q) : low r (ps.take (i + 1)) acc = min (low r (ps.take i) acc) (r.getD q.1 0 + q.2) := by
  unfold low
  rw [take_more h, List.foldl_append]
  rfl
theorem max_int (a b c : Nat) : (if ((b : Int) - c) > (a : Int) then ((b : Int) - c) else (a : Int)) = ((max a (b - c) : Nat) : Int) := by
  split <;> omega
theorem min_int (a b c : Nat) : (if ((b : Int) + c) < (a : Int) then ((b : Int) + c) else (a : Int)) = ((min a (b + c) : Nat) : Int) := by
  split <;> omega
section
variable {P : Program} {w : World} {K : PySem.W.Frag} {mg : Str → Option Value} {base : Heap}
/-! ### height_at -/
def spHeight (K : PySem.W.Frag) : Sp := fun vs H Q _ => ∃ (fa ra : Addr) (foot r : List Nat) (t : Nat), vs = [.ref fa, .ref ra, .int t] ∧ SqL K H fa (nv foot) ∧ SqL K H ra (nv r) ∧ foot.length ≤ 4 ∧ t < r.length ∧
  ∀ H', Same H H' → Q (.int ((Uw41.height foot r t : Nat) : Int)) H'
theorem scHeight : FnScope ["foot", "radii", "place", "found", "other", "higher"] ["foot", "radii", "place"] (defScope sHeight) := ⟨rfl, rfl, rfl, by decide +kernel, rfl, by decide +kernel, by decide +kernel⟩
theorem ok_height {f fR : Addr} {fd fdR : FuncData} (G : Glob K mg) (F : Fun K "height_at" "height_at" sHeight f fd) (FR : Fun K "reached" "reached" sReached fR fdR) (bR : Binds K fdR ["foot", "many", "place"] []) (gR : mg "reached" = some (.ref fR))
    (GR : FnOk P w K mg base CX0 2 fR fdR ["foot", "many", "place"] (spReached K)) : FnOk P w K mg base CX0 3 f fd ["foot", "radii", "place"] (spHeight K) := by
  refine F.ok scHeight (fun vs H Q E h => ?_) (fun cdv A outer s H vs Q E hr h => ?_)
  · obtain ⟨fa, ra, foot, r, t, rfl, _⟩ := h
    rfl
  · obtain ⟨fa, ra, foot, r, t, rfl, hF, hR, hl, ht, q⟩ := h
    refine ⟨_, pss_cons (ps_set (i := 3) scHeight.nd rfl (.inl rfl) pe_int)
      (pss_cons (ps_for PassesOwn.never rfl (pi_list (pe_call GR hr rfl gR FR.kp bR .nil pass0 (pa_cons (pv 0) (pa_cons (pe_callB call_len_seq (by rfl) G.len PySem.boot_len (pa_cons (pv 1) pa_nil)) (pa_cons (pv 2) pa_nil)))))
          (pg_tup rfl (pgs_cons (pg_name (i := 4) scHeight.nd rfl (.inl rfl)) (pgs_cons (pg_name (i := 5) scHeight.nd rfl (.inl rfl)) pgs_nil)))
        (pss_one (ps_set (i := 3) scHeight.nd rfl (.inl rfl) (pe_callB (call_max2 rfl) (by rfl) G.max (by decide +kernel) (pa_cons (pv 3) (pa_cons (pe_op op_sub (pe_ix ix_list (pv 1) (pv 4) (fun _ _ => rfl)) (pv 5)) pa_nil))))))
      (pss_one (ps_ret (pv 3)))), ?_⟩
    have hn : 0 < r.length := by omega
    refine ⟨_, rfl, _, rfl, ra, nv r, rfl, .inl hR, _, rfl, fa, foot, r.length, t, (by rw [nv_length]; rfl), hF, hl, hn, fun H1 p xs s1 np hp hprs => ?_⟩
    refine ⟨p, rfl, ⟨_, SqL.of hp⟩, ?_⟩
    refine for_list (K := K) (a := p) (xs := xs) (fun i σ H' => ∃ v4 v5, σ = [some (.ref fa), some (.ref ra), some (.int t), some (.int ((high r ((pairs foot r.length t).take i) 0 : Nat) : Int)), v4, v5] ∧ Same H1 H')
      ⟨none, none, rfl, Same.refl _⟩ (fun i σ H' _ ⟨_, _, _, s2⟩ => s2.seq (SqL.of hp)) ?_ ?_
    · rintro i x σ H2 hi ⟨v4, v5, rfl, s2⟩
      obtain ⟨z, a, hz, rfl, ha⟩ := hprs.2 i x hi
      have hzl : z.1 < r.length := pairs_lt hn (List.mem_of_getElem? hz)
      refine ⟨a, _, rfl, SqT.of (s2 _ _ ha), rfl, _, _, rfl, _, _, rfl, rfl, ?_⟩
      refine ⟨_, rfl, _, rfl, _, rfl, ra, _, _, _, rfl, rfl, s2.seq (s1.seq hR), nv_at hzl, _, rfl, _, _, rfl, rfl, _, _, rfl, ?_⟩
      refine ⟨some (.int (z.1 : Int)), some (.int (z.2 : Int)), ?_, s2⟩
      have e := max_int (high r ((pairs foot r.length t).take i) 0) (r.getD z.1 0) z.2
      rw [← high_more hz] at e
      exact congrArg (fun y => [some (V.ref fa), some (V.ref ra), some (V.int t), some (V.int y), some (V.int (z.1 : Int)), some (V.int (z.2 : Int))]) e
    · rintro σ H2 ⟨v4, v5, rfl, s2⟩
      refine ⟨_, rfl, ?_⟩
      rw [hprs.1, List.take_length, ← height_eq]
      exact q H2 (s1.trans s2)
/-! ### motion_of -/
def spMotion (K : PySem.W.Frag) : Sp := fun vs H Q _ => ∃ (fa ra : Addr) (foot r : List Nat), vs = [.ref fa, .ref ra] ∧ SqL K H fa (nv foot) ∧ SqL K H ra (nv r) ∧ foot.length ≤ 4 ∧ r.length ≤ 30 ∧
  ∀ H' p, Same H H' → H p = none → H' p = some (.lst (nv (Uw41.motion foot r))) → Q (.ref p) H'
theorem scMotion : FnScope ["foot", "radii", "place"] ["foot", "radii"] (defScope sMotion) := ⟨rfl, rfl, rfl, by decide +kernel, rfl, by decide +kernel, by decide +kernel⟩
theorem ok_motion {f fH : Addr} {fd fdH : FuncData} (G : Glob K mg) (F : Fun K "motion_of" "motion_of" sMotion f fd) (FH : Fun K "height_at" "height_at" sHeight fH fdH) (bH : Binds K fdH ["foot", "radii", "place"] []) (gH : mg "height_at" = some (.ref fH))
    (GH : FnOk P w K mg base CX0 3 fH fdH ["foot", "radii", "place"] (spHeight K)) : FnOk P w K mg base CX0 4 f fd ["foot", "radii"] (spMotion K) := by
  refine F.ok scMotion (fun vs H Q E h => ?_) (fun cdv A outer s H vs Q E hr h => ?_)
  · obtain ⟨fa, ra, foot, r, rfl, _⟩ := h
    rfl
  · obtain ⟨fa, ra, foot, r, rfl, hF, hR, hl, hrl, q⟩ := h
    refine ⟨_, pss_one (ps_ret (pe_lc (own := [("place", 2)]) (g := gName 2) (tt := tYes) rfl scMotion.nd (pi_range1 rfl G.range (pa_cons (pe_callB call_len_seq (by rfl) G.len PySem.boot_len (pa_cons (pv 1) pa_nil)) pa_nil))
      (blkOk_by (N := ["foot", "radii", "place"]) (sc := defScope sMotion) (by decide +kernel))
      (fun _ _ _ _ _ => pg_name (i := 2) scMotion.nd rfl (Or.inl rfl)) (fun _ _ _ _ _ => pts_nil)
      (fun _ _ _ _ _ => pe_call GH hr rfl gH FH.kp bH .nil pass0 (pa_cons (pv 0) (pa_cons (pv 1) (pa_cons (pv 2) pa_nil)))))), ?_⟩
    refine ⟨_, rfl, ra, nv r, rfl, .inl hR, ((nv r).length : Int), rfl, ?_, ?_, ?_⟩
    · rw [nv_length]
      omega
    · rw [nv_length]
      omega
    rw [Int.toNat_natCast, nv_length]
    intro D nD
    refine lc_range (lo := 0) (n := r.length) (fun i H' => Same H H' ∧ H' D = some (.lst (nv ((List.range i).map (Uw41.height foot r))))) ⟨same_new nD, upd_same⟩ ?_ ?_
    · rintro i H1 hi ⟨s1, hD⟩
      refine ⟨rfl, _, rfl, _, rfl, _, rfl, fa, ra, foot, r, i, (by rw [Int.zero_add]; rfl), s1.seq hF, s1.seq hR, hl, hi, fun H2 s2 => ⟨_, s2 _ _ hD, ?_, same_own nD (s1.trans s2), ?_⟩⟩
      · refine smallLt _ ?_
        rw [nv_length, List.length_map, List.length_range]
        omega
      · rw [upd_same, List.range_succ, List.map_append, nv_append]
        rfl
    · rintro H1 ⟨s1, hD⟩
      exact q H1 D s1 nD hD
/-! ### radius_at -/
def spRadius (K : PySem.W.Frag) : Sp := fun vs H Q _ => ∃ (fa ra : Addr) (foot r : List Nat) (t : Nat), vs = [.ref fa, .ref ra, .int t] ∧ SqL K H fa (nv foot) ∧ SqL K H ra (nv r) ∧ foot.length ≤ 4 ∧ foot.head? = some 0 ∧ t < r.length ∧
  ∀ H', Same H H' → Q (.int ((cutAt foot r t : Nat) : Int)) H'
theorem scRadius : FnScope ["foot", "heights", "place", "found", "other", "higher"] ["foot", "heights", "place"] (defScope sRadius) := ⟨rfl, rfl, rfl, by decide +kernel, rfl, by decide +kernel, by decide +kernel⟩
theorem ok_radius {f fR : Addr} {fd fdR : FuncData} (G : Glob K mg) (F : Fun K "radius_at" "radius_at" sRadius f fd) (FR : Fun K "reached" "reached" sReached fR fdR) (bR : Binds K fdR ["foot", "many", "place"] []) (gR : mg "reached" = some (.ref fR))
    (GR : FnOk P w K mg base CX0 2 fR fdR ["foot", "many", "place"] (spReached K)) : FnOk P w K mg base CX0 3 f fd ["foot", "heights", "place"] (spRadius K) := by
  refine F.ok scRadius (fun vs H Q E h => ?_) (fun cdv A outer s H vs Q E hr h => ?_)
  · obtain ⟨fa, ra, foot, r, t, rfl, _⟩ := h
    rfl
  · obtain ⟨fa, ra, foot, r, t, rfl, hF, hR, hl, h0, ht, q⟩ := h
    refine ⟨_, pss_cons (ps_set (i := 3) scRadius.nd rfl (.inl rfl) (pe_ix ix_list (pv 1) (pv 2) (fun _ _ => rfl)))
      (pss_cons (ps_for PassesOwn.never rfl (pi_list (pe_call GR hr rfl gR FR.kp bR .nil pass0 (pa_cons (pv 0) (pa_cons (pe_callB call_len_seq (by rfl) G.len PySem.boot_len (pa_cons (pv 1) pa_nil)) (pa_cons (pv 2) pa_nil)))))
          (pg_tup rfl (pgs_cons (pg_name (i := 4) scRadius.nd rfl (.inl rfl)) (pgs_cons (pg_name (i := 5) scRadius.nd rfl (.inl rfl)) pgs_nil)))
        (pss_one (ps_set (i := 3) scRadius.nd rfl (.inl rfl) (pe_callB (call_min2 rfl) (by rfl) G.min (by decide +kernel) (pa_cons (pv 3) (pa_cons (pe_op op_add (pe_ix ix_list (pv 1) (pv 4) (fun _ _ => rfl)) (pv 5)) pa_nil))))))
      (pss_one (ps_ret (pv 3)))), ?_⟩
    have hn : 0 < r.length := by omega
    refine ⟨_, rfl, _, rfl, ra, _, _, _, rfl, rfl, hR, nv_at ht, ?_⟩
    refine ⟨_, rfl, _, rfl, ra, nv r, rfl, .inl hR, _, rfl, fa, foot, r.length, t, (by rw [nv_length]; rfl), hF, hl, hn, fun H1 p xs s1 np hp hprs => ?_⟩
    refine ⟨p, rfl, ⟨_, SqL.of hp⟩, ?_⟩
    refine for_list (K := K) (a := p) (xs := xs) (fun i σ H' => ∃ v4 v5, σ = [some (.ref fa), some (.ref ra), some (.int t), some (.int ((low r ((pairs foot r.length t).take i) (r.getD t 0) : Nat) : Int)), v4, v5] ∧ Same H1 H')
      ⟨none, none, rfl, Same.refl _⟩ (fun i σ H' _ ⟨_, _, _, s2⟩ => s2.seq (SqL.of hp)) ?_ ?_
    · rintro i x σ H2 hi ⟨v4, v5, rfl, s2⟩
      obtain ⟨z, a, hz, rfl, ha⟩ := hprs.2 i x hi
      have hzl : z.1 < r.length := pairs_lt hn (List.mem_of_getElem? hz)
      refine ⟨a, _, rfl, SqT.of (s2 _ _ ha), rfl, _, _, rfl, _, _, rfl, rfl, ?_⟩
      refine ⟨_, rfl, _, rfl, _, rfl, ra, _, _, _, rfl, rfl, s2.seq (s1.seq hR), nv_at hzl, _, rfl, _, _, rfl, rfl, _, _, rfl, ?_⟩
      refine ⟨some (.int (z.1 : Int)), some (.int (z.2 : Int)), ?_, s2⟩
      have e := min_int (low r ((pairs foot r.length t).take i) (r.getD t 0)) (r.getD z.1 0) z.2
      rw [← low_more hz] at e
      exact congrArg (fun y => [some (V.ref fa), some (V.ref ra), some (V.int t), some (V.int y), some (V.int (z.1 : Int)), some (V.int (z.2 : Int))]) e
    · rintro σ H2 ⟨v4, v5, rfl, s2⟩
      refine ⟨_, rfl, ?_⟩
      rw [hprs.1, List.take_length, ← cutAt_eq h0 ht]
      exact q H2 (s1.trans s2)
/-! ### cut_from -/
def spCut (K : PySem.W.Frag) : Sp := fun vs H Q _ => ∃ (fa ra : Addr) (foot r : List Nat), vs = [.ref fa, .ref ra] ∧ SqL K H fa (nv foot) ∧ SqL K H ra (nv r) ∧ foot.length ≤ 4 ∧ foot.head? = some 0 ∧ r.length ≤ 30 ∧
  ∀ H' p, Same H H' → H p = none → H' p = some (.lst (nv (Uw41.cut foot r))) → Q (.ref p) H'
theorem scCut : FnScope ["foot", "heights", "place"] ["foot", "heights"] (defScope sCut) := ⟨rfl, rfl, rfl, by decide +kernel, rfl, by decide +kernel, by decide +kernel⟩
theorem ok_cut {f fH : Addr} {fd fdH : FuncData} (G : Glob K mg) (F : Fun K "cut_from" "cut_from" sCut f fd) (FH : Fun K "radius_at" "radius_at" sRadius fH fdH) (bH : Binds K fdH ["foot", "heights", "place"] []) (gH : mg "radius_at" = some (.ref fH))
    (GH : FnOk P w K mg base CX0 3 fH fdH ["foot", "heights", "place"] (spRadius K)) : FnOk P w K mg base CX0 4 f fd ["foot", "heights"] (spCut K) := by
  refine F.ok scCut (fun vs H Q E h => ?_) (fun cdv A outer s H vs Q E hr h => ?_)
  · obtain ⟨fa, ra, foot, r, rfl, _⟩ := h
    rfl
  · obtain ⟨fa, ra, foot, r, rfl, hF, hR, hl, h0, hrl, q⟩ := h
    refine ⟨_, pss_one (ps_ret (pe_lc (own := [("place", 2)]) (g := gName 2) (tt := tYes) rfl scCut.nd (pi_range1 rfl G.range (pa_cons (pe_callB call_len_seq (by rfl) G.len PySem.boot_len (pa_cons (pv 1) pa_nil)) pa_nil))
      (blkOk_by (N := ["foot", "heights", "place"]) (sc := defScope sCut) (by decide +kernel))
      (fun _ _ _ _ _ => pg_name (i := 2) scCut.nd rfl (Or.inl rfl)) (fun _ _ _ _ _ => pts_nil)
      (fun _ _ _ _ _ => pe_call GH hr rfl gH FH.kp bH .nil pass0 (pa_cons (pv 0) (pa_cons (pv 1) (pa_cons (pv 2) pa_nil)))))), ?_⟩
    refine ⟨_, rfl, ra, nv r, rfl, .inl hR, ((nv r).length : Int), rfl, ?_, ?_, ?_⟩
    · rw [nv_length]
      omega
    · rw [nv_length]
      omega
    rw [Int.toNat_natCast, nv_length]
    intro D nD
    refine lc_range (lo := 0) (n := r.length) (fun i H' => Same H H' ∧ H' D = some (.lst (nv ((List.range i).map (cutAt foot r))))) ⟨same_new nD, upd_same⟩ ?_ ?_
    · rintro i H1 hi ⟨s1, hD⟩
      refine ⟨rfl, _, rfl, _, rfl, _, rfl, fa, ra, foot, r, i, (by rw [Int.zero_add]; rfl), s1.seq hF, s1.seq hR, hl, h0, hi, fun H2 s2 => ⟨_, s2 _ _ hD, ?_, same_own nD (s1.trans s2), ?_⟩⟩
      · refine smallLt _ ?_
        rw [nv_length, List.length_map, List.length_range]
        omega
      · rw [upd_same, List.range_succ, List.map_append, nv_append]
        rfl
    · rintro H1 ⟨s1, hD⟩
      exact q H1 D s1 nD hD
/-! ### how_much_lower -/
def spLower (K : PySem.W.Frag) : Sp := fun vs H Q _ => ∃ (ha oa : Addr) (hs os : List Nat), vs = [.ref ha, .ref oa] ∧ SqL K H ha (nv hs) ∧ SqL K H oa (nv os) ∧ hs.length = os.length ∧ hs.length ≤ 30 ∧
  ∀ H', Same H H' → Q (.int (lower hs os)) H'
theorem scLower : FnScope ["heights", "others", "height", "other"] ["heights", "others"] (defScope sLower) := ⟨rfl, rfl, rfl, by decide +kernel, rfl, by decide +kernel, by decide +kernel⟩
theorem ok_lower {f : Addr} {fd : FuncData} (G : Glob K mg) (F : Fun K "how_much_lower" "how_much_lower" sLower f fd) : FnOk P w K mg base CX0 1 f fd ["heights", "others"] (spLower K) := by
  refine F.ok scLower (fun vs H Q E h => ?_) (fun cdv A outer s H vs Q E hr h => ?_)
  · obtain ⟨ha, oa, hs, os, rfl, _⟩ := h
    rfl
  · obtain ⟨ha, oa, hs, os, rfl, hH, hO, hl, h30, q⟩ := h
    refine ⟨_, pss_one (ps_ret (pe_callB (cr_sum rfl) (by rfl) G.sum (by decide +kernel) (pa_cons
      (pe_lc (own := [("height", 2), ("other", 3)]) (g := gTup K 2 (gCons (gName 2) (gCons (gName 3) gNil))) (tt := tYes) rfl scLower.nd (pi_zip (by rfl) G.zip (pa_cons (pv 0) (pa_cons (pv 1) pa_nil)))
        (blkOk_by (N := ["heights", "others", "height", "other"]) (sc := defScope sLower) (by decide +kernel))
        (fun _ _ _ _ _ => pg_tup rfl (pgs_cons (pg_name (i := 2) scLower.nd rfl (Or.inl rfl)) (pgs_cons (pg_name (i := 3) scLower.nd rfl (Or.inl rfl)) pgs_nil))) (fun _ _ _ _ _ => pts_nil)
        (fun _ _ _ _ _ => pe_op op_sub (pv 2) (pv 3))) pa_nil))), ?_⟩
    refine ⟨_, rfl, _, rfl, ha, oa, _, _, rfl, hH, hO, fun D nD => ?_⟩
    refine lc_it (walk_zip (K := K) (a := ha) (b := oa) (xs := nv hs) (ys := nv os) (n := hs.length) (by rw [nv_length, nv_length]; omega))
      (fun i H' => Same H H' ∧ H' D = some (.lst (iv (((hs.zip os).take i).map fun p => (p.1 : Int) - p.2)))) ⟨same_new nD, upd_same⟩ (fun i H' _ h => ⟨h.1.seq hH, h.1.seq hO⟩) ?_ ?_
    · rintro i x H1 H2 hi ⟨s1, hD⟩ ⟨T, x1, y1, rfl, nT, rfl, hx, hy⟩
      obtain ⟨a, hxa, rfl⟩ := nv_of_get hx
      obtain ⟨b, hyb, rfl⟩ := nv_of_get hy
      have hz : (hs.zip os)[i]? = some (a, b) := by
        rw [List.getElem?_zip_eq_some]
        exact ⟨hxa, hyb⟩
      have nTD : D ≠ T := ne_of_none hD nT
      refine ⟨T, _, rfl, SqT.of upd_same, rfl, _, _, rfl, _, _, rfl, rfl, rfl, ?_⟩
      refine ⟨_, rfl, _, rfl, _, _, rfl, rfl, _, (upd_ne nTD).trans hD, ?_, same_own nD (s1.trans (same_new nT)), ?_⟩
      · refine smallLt _ ?_
        rw [iv_length, List.length_map, List.length_take, List.length_zip]
        omega
      · rw [upd_same, take_more hz, List.map_append, iv_append]
        rfl
    · rintro H1 ⟨s1, hD⟩
      rw [List.take_of_length_le (by rw [List.length_zip]; omega)] at hD
      exact ⟨D, _, rfl, SqL.of hD, q H1 s1⟩
end
end Cm

namespace Cm
open PySem PySem.Spec PyProof.Rows L2
/-! ### lists of numbers compared -/
def dat (l : List Nat) : PyData := .list ((nums l).map PyData.int)
theorem dp_ints {K : PySem.W.Frag} {H : Hp} : ∀ l : List Int, DpAll K H (l.map V.int) (l.map PyData.int)
  | [] => .nil
  | i :: l => .cons (.int i) (dp_ints l)
theorem dp_nv {K : PySem.W.Frag} {H : Hp} {a : Addr} {l : List Nat} (h : SqL K H a (nv l)) : Dp K H (.ref a) (dat l) := by
  rw [nv_eq] at h
  exact .lst h (dp_ints _)
theorem lay_ints : ∀ l : List Int, PyData.canLayAll0 (l.map PyData.int) = true
  | [] => by simp [PyData.canLayAll0]
  | i :: l => by
    rw [List.map_cons, PyData.canLayAll0, lay_ints l, PyData.canLay0]
    rfl
theorem depth_ints : ∀ l : List Int, PyData.depthAll (l.map PyData.int) = 0
  | [] => by simp [PyData.depthAll]
  | i :: l => by
    rw [List.map_cons, PyData.depthAll, depth_ints l, PyData.depth]
    rfl
theorem dat_shaped (l : List Nat) : SeqAt.shaped (dat l) = true := by
  unfold SeqAt.shaped dat
  rw [PyData.canLay0, lay_ints, PyData.depth, depth_ints]
  rfl
theorem eqv_ints : ∀ ns ms : List Int, PyData.eqvAll (ns.map PyData.int) (ms.map PyData.int) = decide (ns = ms)
  | [], [] => by simp [PyData.eqvAll]
  | [], _ :: _ => by simp [PyData.eqvAll]
  | _ :: _, [] => by simp [PyData.eqvAll]
  | a :: r, b :: t => by
    simp only [List.map_cons, PyData.eqvAll, PyData.eqv, eqv_ints r t]
    by_cases h : a = b <;> by_cases h' : r = t <;> simp [h, h']
theorem nums_inj : ∀ {a b : List Nat}, nums a = nums b → a = b
  | [], [], _ => rfl
  | [], _ :: _, h => by cases h
  | _ :: _, [], h => by cases h
  | x :: a, y :: b, h => by
    have h1 : (x : Int) = y := (List.cons.inj h).1
    have h2 := nums_inj (List.cons.inj h).2
    rw [h2, show x = y by omega]
theorem dat_eqv (a b : List Nat) : PyData.eqv (dat a) (dat b) = (a == b) := by
  unfold dat
  rw [PyData.eqv, eqv_ints]
  by_cases h : a = b
  · subst h
    rw [decide_eq_true rfl]
    simp
  · rw [decide_eq_false fun z => h (nums_inj z)]
    simp [h]
theorem op_eqK {X : Cx} {K : PySem.W.Frag} (hK : X.K = K) (hu : X.A.units + 64 < cLine) : OpR X (compareOp .Eq) (rEqD K) := by
  subst hK
  exact op_eqD hu
theorem range_filter (p : Nat → Bool) (i : Nat) : (List.range (i + 1)).filter p = (List.range i).filter p ++ (if p i = true then [i] else []) := by
  rw [List.range_succ, List.filter_append]
  congr 1
  cases h : p i <;> simp [h]
theorem filter_len (p : Nat → Bool) (i : Nat) : ((List.range i).filter p).length ≤ i := Nat.le_trans (List.length_filter_le ..) (by rw [List.length_range]; exact Nat.le_refl _)
section
variable {P : Program} {w : World} {K : PySem.W.Frag} {mg : Str → Option Value} {base : Heap}
/-! ### without -/
def spWithout (K : PySem.W.Frag) : Sp := fun vs H Q _ => ∃ (ra : Addr) (r : List Nat) (t : Nat), vs = [.ref ra, .int t] ∧ SqL K H ra (nv r) ∧ t < r.length ∧ r.length ≤ 30 ∧
  ∀ H' p, Same H H' → H p = none → H' p = some (.lst (nv (r.set t 0))) → Q (.ref p) H'
theorem scWithout : FnScope ["radii", "place"] ["radii", "place"] (defScope sWithout) := ⟨rfl, rfl, rfl, by decide +kernel, rfl, by decide +kernel, by decide +kernel⟩
theorem set_parts {r : List Nat} {t : Nat} (ht : t < r.length) : nv (r.set t 0) = (nv r).take t ++ [.int 0] ++ (nv r).drop (t + 1) := by
  rw [List.set_eq_take_append_cons_drop, if_pos ht]
  unfold nv
  rw [List.map_append, List.map_cons, List.map_take, List.map_drop, List.append_assoc]
  rfl
theorem ok_without {f : Addr} {fd : FuncData} (F : Fun K "without" "without" sWithout f fd) : FnOk P w K mg base CX0 1 f fd ["radii", "place"] (spWithout K) := by
  refine F.ok scWithout (fun vs H Q E h => ?_) (fun cdv A outer s H vs Q E hr h => ?_)
  · obtain ⟨ra, r, t, rfl, _⟩ := h
    rfl
  · obtain ⟨ra, r, t, rfl, hR, ht, h30, q⟩ := h
    refine ⟨_, pss_one (ps_ret (pe_op op_cat (pe_op op_cat (pe_slice sl_list (pv 0) po_none (po_some (pv 1))) (pe_lst (pa_cons pe_int pa_nil))) (pe_slice sl_list (pv 0) (po_some (pe_op op_add (pv 1) pe_int)) po_none))), ?_⟩
    have hl : (nv r).length = r.length := nv_length r
    -- radii[:place]
    refine ⟨_, rfl, _, rfl, _, rfl, ra, nv r, rfl, hR, fun p1 n1 => ?_⟩
    rw [cut_to_nat _ t (by omega)]
    have s1 : Same H (upd H p1 (.lst ((nv r).take t))) := same_new n1
    -- [0]
    refine ⟨(by show 1 ≤ sizeLine; decide), fun p2 n2 => ?_⟩
    have s2 := same_new (o := .lst [V.int 0]) n2
    have d21 : p1 ≠ p2 := ne_of_none (upd_same (H := H) (a := p1) (o := .lst ((nv r).take t))) n2
    refine ⟨p1, p2, _, _, rfl, rfl, (upd_ne d21).trans upd_same, upd_same, ?_, fun p3 n3 => ?_⟩
    · refine small _ ?_
      rw [List.length_take]
      show _ + 1 ≤ _
      omega
    have s3 := same_new (o := .lst ((nv r).take t ++ [V.int 0])) n3
    have sA := (s1.trans s2).trans s3
    -- radii[place + 1:]
    refine ⟨_, rfl, _, rfl, _, _, rfl, rfl, _, rfl, ra, nv r, rfl, sA.seq hR, fun p4 n4 => ?_⟩
    have s4 := same_new (o := .lst (cutV (nv r) (some ((t : Int) + 1)) none)) n4
    have d43 : p3 ≠ p4 := ne_of_none (upd_same (a := p3)) n4
    refine ⟨p3, p4, _, _, rfl, rfl, (upd_ne d43).trans upd_same, upd_same, ?_, fun p5 n5 => ?_⟩
    · refine small _ ?_
      have z := cutV_length (nv r) (some ((t : Int) + 1)) none
      rw [List.length_append, List.length_take]
      show _ + 1 + _ ≤ _
      omega
    have e : cutV (nv r) (some ((t : Int) + 1)) none = (nv r).drop (t + 1) := cut_from_nat _ (t + 1) (by omega)
    refine q _ p5 (same_own ((sA.trans s4).free n5) (sA.trans s4)) ((sA.trans s4).free n5) ?_
    rw [upd_same, set_parts ht]
    exact congrArg (fun z => some (HO.lst (_ ++ z))) e
/-! ### idle_places -/
def spIdle (K : PySem.W.Frag) : Sp := fun vs H Q _ => ∃ (fa ra : Addr) (foot r : List Nat), vs = [.ref fa, .ref ra] ∧ SqL K H fa (nv foot) ∧ SqL K H ra (nv r) ∧ foot.length ≤ 4 ∧ r.length ≤ 30 ∧
  ∀ H' p, Same H H' → H p = none → H' p = some (.lst (nv (Uw41.idle foot r))) → Q (.ref p) H'
theorem scIdle : FnScope ["foot", "radii", "motion", "place"] ["foot", "radii"] (defScope sIdle) := ⟨rfl, rfl, rfl, by decide +kernel, rfl, by decide +kernel, by decide +kernel⟩
def stays (foot r : List Nat) (t : Nat) : Bool := Uw41.motion foot (r.set t 0) == Uw41.motion foot r
theorem ok_idle {f fM fW : Addr} {fd fdM fdW : FuncData} (G : Glob K mg) (F : Fun K "idle_places" "idle_places" sIdle f fd) (FM : Fun K "motion_of" "motion_of" sMotion fM fdM) (bM : Binds K fdM ["foot", "radii"] []) (gM : mg "motion_of" = some (.ref fM))
    (GM : FnOk P w K mg base CX0 4 fM fdM ["foot", "radii"] (spMotion K)) (FW : Fun K "without" "without" sWithout fW fdW) (bW : Binds K fdW ["radii", "place"] []) (gW : mg "without" = some (.ref fW)) : FnOk P w K mg base CX0 5 f fd ["foot", "radii"] (spIdle K) := by
  have GW : FnOk P w K mg base CX0 1 fW fdW ["radii", "place"] (spWithout K) := ok_without FW
  refine F.ok scIdle (fun vs H Q E h => ?_) (fun cdv A outer s H vs Q E hr h => ?_)
  · obtain ⟨fa, ra, foot, r, rfl, _⟩ := h
    rfl
  · obtain ⟨fa, ra, foot, r, rfl, hF, hR, hl, h30, q⟩ := h
    have hr1 : Room 1 _ := hr.mono (by decide)
    refine ⟨_, pss_cons (ps_set (i := 2) scIdle.nd rfl (.inr rfl) (pe_call GM hr rfl gM FM.kp bM .nil pass0 (pa_cons (pv 0) (pa_cons (pv 1) pa_nil))))
      (pss_one (ps_ret (pe_lc (own := [("place", 3)]) (g := gName 3) rfl scIdle.nd (pi_range1 rfl G.range (pa_cons (pe_callB call_len_seq (by rfl) G.len PySem.boot_len (pa_cons (pv 1) pa_nil)) pa_nil))
        (blkOk_by (N := ["foot", "radii", "motion", "place"]) (sc := defScope sIdle) (by decide +kernel))
        (fun _ _ _ _ _ => pg_name (i := 3) scIdle.nd rfl (Or.inl rfl))
        (fun _ _ _ _ _ => pts_one (pt_cmpR (op_eqK (K := K) rfl hr.units) (pe_call GM hr rfl gM FM.kp bM .nil pass0 (pa_cons (pv 0) (pa_cons (pe_call GW hr1 rfl gW FW.kp bW .nil pass0 (pa_cons (pv 1) (pa_cons (pv 3) pa_nil))) pa_nil))) (pv 2) (nomark _)))
        (fun _ _ _ _ _ => pv 3)))), ?_⟩
    -- motion = motion_of(foot, radii)
    refine ⟨_, rfl, _, rfl, fa, ra, foot, r, rfl, hF, hR, hl, h30, fun H1 m s1 nm hm => ?_⟩
    refine ⟨_, rfl, ra, nv r, rfl, .inl (s1.seq hR), ((nv r).length : Int), rfl, ?_, ?_, ?_⟩
    · rw [nv_length]
      omega
    · rw [nv_length]
      omega
    rw [Int.toNat_natCast, nv_length]
    intro D nD
    refine lc_range (lo := 0) (n := r.length) (fun i H' => Same H1 H' ∧ H' D = some (.lst (nv ((List.range i).filter (stays foot r))))) ⟨same_new nD, upd_same⟩ ?_ ?_
    · rintro i H2 hi ⟨s2, hD⟩
      -- motion_of(foot, without(radii, place))
      refine ⟨rfl, _, rfl, _, rfl, _, rfl, ra, r, i, (by rw [Int.zero_add]; rfl), s2.seq (s1.seq hR), hi, h30, fun H3 w s3 nw hw => ?_⟩
      refine ⟨fa, w, foot, r.set i 0, rfl, s3.seq (s2.seq (s1.seq hF)), SqL.of hw, hl, (by rw [List.length_set]; exact h30), fun H4 m2 s4 nm2 hm2 => ?_⟩
      -- == motion
      refine ⟨_, rfl, dat _, dat _, dp_nv (SqL.of hm2), dp_nv (SqL.of (s4 _ _ (s3 _ _ (s2 _ _ hm)))), dat_shaped _, dat_shaped _, _, rfl, ?_⟩
      rw [dat_eqv]
      have sF : Same H2 H4 := s3.trans s4
      by_cases hk : stays foot r i = true
      · refine if_true_of hk ⟨_, rfl, _, sF _ _ hD, ?_, same_own nD (s2.trans sF), ?_⟩
        · refine smallLt _ ?_
          have z := filter_len (stays foot r) i
          rw [nv_length]
          omega
        · rw [upd_same, range_filter, if_pos hk, nv_append, Int.zero_add]
          rfl
      · refine if_false_of (show stays foot r i = false by simpa using hk) ⟨s2.trans sF, ?_⟩
        rw [range_filter, if_neg hk, List.append_nil]
        exact sF _ _ hD
    · rintro H2 ⟨s2, hD⟩
      exact q H2 D (s1.trans s2) (s1.free nD) hD
/-! ### rise_from -/
def nextTo (n way t : Nat) : Nat := if way = 0 then Uw41.on n t 1 else Uw41.back n t 1
theorem nextTo_lt {n : Nat} (hn : 0 < n) (way t : Nat) : nextTo n way t < n := by
  unfold nextTo
  split
  · exact on_lt hn t 1
  · exact back_lt hn t 1
theorem nextTo_int {n : Nat} (hn : 0 < n) {way : Nat} (hw : way ≤ 1) (t : Nat) : ((t : Int) + (1 - 2 * (way : Int))) % n = ((nextTo n way t : Nat) : Int) := by
  unfold nextTo
  by_cases h : way = 0
  · subst h
    rw [if_pos rfl, ← on_int]
    rfl
  · have h : way = 1 := by omega
    subst h
    rw [if_neg (by decide), ← back_int hn]
    rfl
def spRise (K : PySem.W.Frag) : Sp := fun vs H Q _ => ∃ (ma : Addr) (m : List Nat) (t way : Nat), vs = [.ref ma, .int t, .int (1 - 2 * (way : Int))] ∧ SqL K H ma (nv m) ∧ t < m.length ∧ way ≤ 1 ∧
  Q (.int (((m.getD (nextTo m.length way t) 0 : Nat) : Int) - ((m.getD t 0 : Nat) : Int))) H
theorem scRise : FnScope ["motion", "place", "step"] ["motion", "place", "step"] (defScope sRise) := ⟨rfl, rfl, rfl, by decide +kernel, rfl, by decide +kernel, by decide +kernel⟩
theorem ok_rise {f : Addr} {fd : FuncData} (G : Glob K mg) (F : Fun K "rise_from" "rise_from" sRise f fd) : FnOk P w K mg base CX0 1 f fd ["motion", "place", "step"] (spRise K) := by
  refine F.ok scRise (fun vs H Q E h => ?_) (fun cdv A outer s H vs Q E hr h => ?_)
  · obtain ⟨ma, m, t, way, rfl, _⟩ := h
    rfl
  · obtain ⟨ma, m, t, way, rfl, hM, ht, hw, q⟩ := h
    refine ⟨_, pss_one (ps_ret (pe_op op_sub (pe_ix ix_list (pv 0) (pe_op op_mod (pe_op op_add (pv 1) (pv 2)) (pe_callB call_len_seq (by rfl) G.len PySem.boot_len (pa_cons (pv 0) pa_nil))) (fun _ _ => rfl)) (pe_ix ix_list (pv 0) (pv 1) (fun _ _ => rfl)))), ?_⟩
    have hn : 0 < m.length := by omega
    refine ⟨_, rfl, _, rfl, _, rfl, _, _, rfl, rfl, _, rfl, ma, nv m, rfl, .inl hM, _, _, rfl, rfl, (by rw [nv_length]; omega), ?_⟩
    dsimp only
    rw [nv_length, nextTo_int hn hw]
    refine ⟨ma, _, _, _, rfl, rfl, hM, nv_at (nextTo_lt hn way t), _, rfl, _, rfl, ma, _, _, _, rfl, rfl, hM, nv_at ht, _, _, rfl, rfl, ?_⟩
    exact q
/-! ### jam_places -/
def spJam (K : PySem.W.Frag) : Sp := fun vs H Q _ => ∃ (ma : Addr) (m : List Nat) (rise way : Nat), vs = [.ref ma, .int rise, .int (1 - 2 * (way : Int))] ∧ SqL K H ma (nv m) ∧ m.length ≤ 30 ∧ way ≤ 1 ∧
  ∀ H' p, Same H H' → H p = none → H' p = some (.lst (nv (jamList m rise way))) → Q (.ref p) H'
theorem scJam : FnScope ["motion", "rise", "step", "place"] ["motion", "rise", "step"] (defScope sJam) := ⟨rfl, rfl, rfl, by decide +kernel, rfl, by decide +kernel, by decide +kernel⟩
theorem ok_jam {f fR : Addr} {fd fdR : FuncData} (G : Glob K mg) (F : Fun K "jam_places" "jam_places" sJam f fd) (FR : Fun K "rise_from" "rise_from" sRise fR fdR) (bR : Binds K fdR ["motion", "place", "step"] []) (gR : mg "rise_from" = some (.ref fR)) :
    FnOk P w K mg base CX0 2 f fd ["motion", "rise", "step"] (spJam K) := by
  have GR : FnOk P w K mg base CX0 1 fR fdR ["motion", "place", "step"] (spRise K) := ok_rise G FR
  refine F.ok scJam (fun vs H Q E h => ?_) (fun cdv A outer s H vs Q E hr h => ?_)
  · obtain ⟨ma, m, rise, way, rfl, _⟩ := h
    rfl
  · obtain ⟨ma, m, rise, way, rfl, hM, h30, hw, q⟩ := h
    refine ⟨_, pss_one (ps_ret (pe_lc (own := [("place", 3)]) (g := gName 3) rfl scJam.nd (pi_range1 rfl G.range (pa_cons (pe_callB call_len_seq (by rfl) G.len PySem.boot_len (pa_cons (pv 0) pa_nil)) pa_nil))
        (blkOk_by (N := ["motion", "rise", "step", "place"]) (sc := defScope sJam) (by decide +kernel))
        (fun _ _ _ _ _ => pg_name (i := 3) scJam.nd rfl (Or.inl rfl))
        (fun _ _ _ _ _ => pts_one (pt_cmpR op_gt (pe_call GR hr rfl gR FR.kp bR .nil pass0 (pa_cons (pv 0) (pa_cons (pv 3) (pa_cons (pv 2) pa_nil)))) (pv 1) (nomark _)))
        (fun _ _ _ _ _ => pv 3))), ?_⟩
    refine ⟨_, rfl, ma, nv m, rfl, .inl hM, ((nv m).length : Int), rfl, ?_, ?_, ?_⟩
    · rw [nv_length]
      omega
    · rw [nv_length]
      omega
    rw [Int.toNat_natCast, nv_length]
    intro D nD
    refine lc_range (lo := 0) (n := m.length) (fun i H' => Same H H' ∧ H' D = some (.lst (nv ((List.range i).filter (rises m rise way))))) ⟨same_new nD, upd_same⟩ ?_ ?_
    · rintro i H2 hi ⟨s2, hD⟩
      refine ⟨rfl, _, rfl, _, rfl, _, rfl, ma, m, i, way, (by rw [Int.zero_add]; rfl), s2.seq hM, hi, hw, _, rfl, _, _, rfl, rfl, _, rfl, ?_⟩
      have e : decide ((rise : Int) < ((m.getD (nextTo m.length way i) 0 : Nat) : Int) - ((m.getD i 0 : Nat) : Int)) = rises m rise way i := by
        unfold rises
        exact decide_eq_decide.mpr (by show _ ↔ m.getD i 0 + rise < m.getD (nextTo m.length way i) 0; omega)
      by_cases hk : rises m rise way i = true
      · refine if_true_of (e.trans hk) ⟨_, rfl, _, hD, ?_, same_own nD s2, ?_⟩
        · refine smallLt _ ?_
          have z := filter_len (rises m rise way) i
          rw [nv_length]
          omega
        · rw [upd_same, range_filter, if_pos hk, nv_append, Int.zero_add]
          rfl
      · refine if_false_of (e.trans (by simpa using hk)) ⟨s2, ?_⟩
        rw [range_filter, if_neg hk, List.append_nil]
        exact hD
    · rintro H2 ⟨s2, hD⟩
      exact q H2 D s2 nD hD
end
end Cm

namespace Cm
open PySem PySem.Spec PyProof.Rows L2
/-! ### the cam in the heap -/
def camF (fa ra : Addr) : List (Str × V) := [("foot", .ref fa), ("radii", .ref ra)]
theorem camF_foot (fa ra : Addr) : (camF fa ra).lookup ("foot" : Str) = some (.ref fa) := List.lookup_cons_self
theorem camF_radii (fa ra : Addr) : (camF fa ra).lookup ("radii" : Str) = some (.ref ra) := by
  unfold camF
  rw [List.lookup_cons, show (("radii" : Str) == "foot") = false by decide +kernel]
  exact List.lookup_cons_self
theorem camF_no {m : Str} (fa ra : Addr) (h1 : (m == "foot") = false) (h2 : (m == "radii") = false) : (camF fa ra).lookup m = none := by
  unfold camF
  rw [List.lookup_cons, h1, List.lookup_cons, h2]
  rfl
theorem camF_put_foot (fa ra l : Addr) : putF "foot" (.ref l) (camF fa ra) = camF l ra := if_pos rfl
theorem camF_put_radii (fa ra l : Addr) : putF "radii" (.ref l) (camF fa ra) = camF fa l := by
  show (if ("foot" : Str) = ("radii" : Str) then _ else (("foot" : Str), V.ref fa) :: (if ("radii" : Str) = ("radii" : Str) then (("radii" : Str), V.ref l) :: [] else _)) = camF fa l
  rw [if_neg (by decide +kernel), if_pos rfl]
  rfl
theorem camF_new (f r : Addr) : putF "radii" (.ref r) (putF "foot" (.ref f) []) = camF f r := by
  show (if ("foot" : Str) = ("radii" : Str) then _ else (("foot" : Str), V.ref f) :: [(("radii" : Str), V.ref r)]) = camF f r
  rw [if_neg (by decide +kernel)]
  rfl
structure CamAt (C : Addr) (H : Hp) (x fa ra : Addr) (c : Uw41.Cam) : Prop where
  ins : ∃ dx, H x = some (.ins C dx (camF fa ra))
  f : H fa = some (.lst (nv c.foot))
  r : H ra = some (.lst (nv c.radii))
theorem CamAt.same {C : Addr} {H H' : Hp} {x fa ra : Addr} {c : Uw41.Cam} (h : CamAt C H x fa ra c) (s : Same H H') : CamAt C H' x fa ra c :=
  ⟨let ⟨dx, e⟩ := h.ins; ⟨dx, s _ _ e⟩, s _ _ h.f, s _ _ h.r⟩
theorem CamAt.nef {C : Addr} {H : Hp} {x fa ra : Addr} {c : Uw41.Cam} (h : CamAt C H x fa ra c) : fa ≠ x :=
  let ⟨_, e⟩ := h.ins
  ne_of h.f e (by intro z; cases z)
theorem CamAt.ner {C : Addr} {H : Hp} {x fa ra : Addr} {c : Uw41.Cam} (h : CamAt C H x fa ra c) : ra ≠ x :=
  let ⟨_, e⟩ := h.ins
  ne_of h.r e (by intro z; cases z)
/-- what a call is to do -/
def Does (C : Addr) (H : Hp) (x fa ra : Addr) (c : Uw41.Cam) (k : Uw41.Call) (Q : VK) : Prop := ∀ (H' : Hp) (p fa' ra' : Addr), (∀ b o, H b = some o → b ≠ x → H' b = some o) → H p = none → H' p = some (.lst (iv (ansOf c k))) →
  CamAt C H' x fa' ra' (Uw41.step c k).1 → (fa' = fa ∨ H fa' = none) → (ra' = ra ∨ H ra' = none) → Q (.ref p) H'
section
variable {C : Addr} {H H' : Hp} {x fa ra p : Addr} {c c' : Uw41.Cam} {k : Uw41.Call} {Q : VK} {a : Uw41.Ans}
theorem Does.stay (d : Does C H x fa ra c k Q) (hc : CamAt C H x fa ra c) (e : Uw41.step c k = (c, a)) (np : H p = none) (s : Same H H') (hp : H' p = some (.lst (iv (Uw41Neutral.out a)))) : Q (.ref p) H' := by
  refine d H' p fa ra (fun b o h _ => s b o h) np ?_ ?_ (.inl rfl) (.inl rfl)
  · unfold ansOf
    rw [e]
    exact hp
  · rw [e]
    exact hc.same s
theorem Does.turn {fa' ra' : Addr} (d : Does C H x fa ra c k Q) (e : Uw41.step c k = (c', a)) (s : ∀ b o, H b = some o → b ≠ x → H' b = some o) (np : H p = none) (hp : H' p = some (.lst (iv (Uw41Neutral.out a))))
    (hc : CamAt C H' x fa' ra' c') (h1 : fa' = fa ∨ H fa' = none) (h2 : ra' = ra ∨ H ra' = none) : Q (.ref p) H' := by
  refine d H' p fa' ra' s np ?_ ?_ h1 h2
  · unfold ansOf
    rw [e]
    exact hp
  · rw [e]
    exact hc
end
/-! ### the steps, by their tests -/
theorem step_begins_no {c : Uw41.Cam} {f : List Nat} (h : footOk f = false) : Uw41.step c (.begins f) = (c, Uw41.ok (-1)) := by
  unfold footOk at h
  rw [Bool.not_eq_false'] at h
  have h := of_decide_eq_true h
  exact if_pos h
theorem step_begins_yes {c : Uw41.Cam} {f : List Nat} (h : footOk f = true) : Uw41.step c (.begins f) = (⟨f, [0, 0]⟩, Uw41.ok 0) := by
  unfold footOk at h
  rw [Bool.not_eq_true'] at h
  have h := of_decide_eq_false h
  exact if_neg h
theorem step_cam_no {c : Uw41.Cam} {r : List Nat} (h : Uw41.fine r = false) : Uw41.step c (.cam r) = (c, Uw41.ok (-1)) := if_pos h
theorem step_cam_yes {c : Uw41.Cam} {r : List Nat} (h : Uw41.fine r = true) : Uw41.step c (.cam r) = (⟨c.foot, r⟩, Uw41.ok ((r.length : Nat) : Int)) := if_neg (by rw [h]; decide)
theorem step_make_no {c : Uw41.Cam} {r : List Nat} (h : Uw41.fine r = false) : Uw41.step c (.make r) = (c, Uw41.ok (-1)) := if_pos h
theorem step_make_yes {c : Uw41.Cam} {r : List Nat} (h : Uw41.fine r = true) : Uw41.step c (.make r) = (⟨c.foot, Uw41.cut c.foot r⟩, ⟨((Uw41.short c.foot r : Nat) : Int), Uw41.cut c.foot r⟩) := if_neg (by rw [h]; decide)
theorem step_jams_no {c : Uw41.Cam} {s w : Nat} (h : 100 < s ∨ 1 < w) : Uw41.step c (.jams s w) = (c, Uw41.ok (-1)) := if_pos h
theorem step_jams_yes {c : Uw41.Cam} {s w : Nat} (h : ¬ (100 < s ∨ 1 < w)) : Uw41.step c (.jams s w) = (c, match Uw41.jams c.foot c.radii s w with | none => Uw41.ok (-6) | some t => Uw41.ok ((t : Nat) : Int)) := if_neg h
theorem out_iv (v : Int) (l : List Nat) : iv (Uw41Neutral.out ⟨v, l⟩) = .int v :: nv l := by
  unfold Uw41Neutral.out iv nv
  rw [List.map_cons, List.map_map]
  rfl
/-! ### what the class is -/
structure Txt (K : PySem.W.Frag) (mg : Str → Option Value) (C : Addr) : Prop where
  cl : Cls K C
  nF : NoAttr K C "foot"
  nR : NoAttr K C "radii"
  gC : mg "Cam" = some (.ref C)
section
variable {P : Program} {w : World} {K : PySem.W.Frag} {mg : Str → Option Value} {base : Heap} {C : Addr}
/-! ### __init__ -/
def spInit (C : Addr) : Sp := fun vs H Q _ => ∃ (p dx : Addr), vs = [.ref p] ∧ H p = some (.ins C dx []) ∧
  ∀ (H' : Hp) (fa ra : Addr), CamAt C H' p fa ra Uw41.init → H fa = none → H ra = none → (∀ b o, H b = some o → b ≠ p → H' b = some o) → Q .non H'
theorem scInit : FnScope ["self"] ["self"] (defScope sInit) := ⟨rfl, rfl, rfl, by decide +kernel, rfl, by decide +kernel, by decide +kernel⟩
theorem ok_init {f : Addr} {fd : FuncData} (G : Glob K mg) (T : Txt K mg C) (F : Fun K "__init__" "Cam.__init__" sInit f fd) : FnOk P w K mg base CX0 1 f fd ["self"] (spInit C) := by
  obtain ⟨pa, gp, hp⟩ := G.point
  refine F.ok scInit (fun vs H Q E h => ?_) (fun cdv A outer s H vs Q E hr h => ?_)
  · obtain ⟨p, dx, rfl, _⟩ := h
    rfl
  · obtain ⟨p, dx, rfl, hI, q⟩ := h
    refine ⟨_, pss_cons (ps_fld (pv 0) (pe_callTy call_list_of (by rfl) G.list (by decide +kernel) (pa_cons (pe_glob rfl gp relR) pa_nil)) rfl)
      (pss_one (ps_fld (pv 0) (pe_lst (pa_cons pe_int (pa_cons pe_int pa_nil))) rfl)), ?_⟩
    refine ⟨pa, [.int 0], rfl, .inr (hp H), fun l nl => ?_⟩
    have dl : p ≠ l := ne_of_none hI nl
    refine ⟨_, rfl, p, C, dx, [], rfl, (upd_ne dl).trans hI, T.cl, T.nF, (by show 0 < 1000; decide), ?_⟩
    refine ⟨(by show 2 ≤ sizeLine; decide), fun m nm => ?_⟩
    have dm : p ≠ m := fun z => by
      rw [← z, upd_same] at nm
      cases nm
    have dml : l ≠ m := fun z => by
      rw [← z, upd_ne dl.symm, upd_same] at nm
      cases nm
    refine ⟨_, rfl, p, C, dx, _, rfl, (upd_ne dm).trans upd_same, T.cl, T.nR, (by show 1 < 1000; decide), ?_⟩
    have nm' : H m = none := by
      rw [upd_ne dm.symm, upd_ne dml.symm] at nm
      exact nm
    refine q _ l m ⟨⟨dx, ?_⟩, ?_, ?_⟩ nl nm' fun b o e hb => ?_
    · rw [upd_same, camF_new]
    · rw [upd_ne dl.symm, upd_ne dml, upd_ne dl.symm, upd_same]
      rfl
    · rw [upd_ne dm.symm, upd_same]
      rfl
    · rw [upd_ne hb, upd_ne (ne_of_none e nm'), upd_ne hb, upd_ne (ne_of_none e nl)]
      exact e
/-! ### begins -/
def spWithRow (K : PySem.W.Frag) (C : Addr) (k : List Nat → Uw41.Call) : Sp := fun vs H Q _ => ∃ (x b fa ra : Addr) (c : Uw41.Cam) (ns : List Nat), vs = [.ref x, .ref b] ∧ CamAt C H x fa ra c ∧ Good c ∧ SqL K H b (nv ns) ∧ ns.length ≤ 30 ∧ Does C H x fa ra c (k ns) Q
theorem scMBegins : FnScope ["self", "numbers"] ["self", "numbers"] (defScope sMBegins) := ⟨rfl, rfl, rfl, by decide +kernel, rfl, by decide +kernel, by decide +kernel⟩
theorem ok_mBegins {f fF : Addr} {fd fdF : FuncData} (G : Glob K mg) (T : Txt K mg C) (F : Fun K "begins" "Cam.begins" sMBegins f fd) (FF : Fun K "is_foot" "is_foot" sIsFoot fF fdF) (bF : Binds K fdF ["numbers"] []) (gF : mg "is_foot" = some (.ref fF)) :
    FnOk P w K mg base CX0 2 f fd ["self", "numbers"] (spWithRow K C .begins) := by
  have GF : FnOk P w K mg base CX0 1 fF fdF ["numbers"] (spIsFoot K) := ok_isFoot G FF
  obtain ⟨to, go⟩ := G.out
  refine F.ok scMBegins (fun vs H Q E h => ?_) (fun cdv A outer s H vs Q E hr h => ?_)
  · obtain ⟨x, b, fa, ra, c, ns, rfl, _⟩ := h
    rfl
  · obtain ⟨x, b, fa, ra, c, ns, rfl, hc, g, hB, h30, q⟩ := h
    refine ⟨_, pss_cons (ps_if (pt_not (pt_val (pe_call GF hr rfl gF FF.kp bF .nil pass0 (pa_cons (pv 1) pa_nil)))) (pss_one (ps_ret (pe_lst (pa_cons (pe_glob rfl go relI) pa_nil)))) pss_nil)
      (pss_cons (ps_fld (pv 0) (pe_callTy call_list_of (by rfl) G.list (by decide +kernel) (pa_cons (pv 1) pa_nil)) rfl)
      (pss_cons (ps_fld (pv 0) (pe_lst (pa_cons pe_int (pa_cons pe_int pa_nil))) rfl)
      (pss_one (ps_ret (pe_lst (pa_cons pe_int pa_nil)))))), ?_⟩
    refine ⟨_, rfl, b, ns, rfl, hB, h30, fun H1 s1 => ⟨_, rfl, ?_⟩⟩
    cases hk : footOk ns with
    | false =>
      refine if_true_of rfl ⟨(by show 1 ≤ sizeLine; decide), fun p np => ?_⟩
      exact q.stay hc (step_begins_no hk) (s1.free np) (s1.trans (same_new np)) upd_same
    | true =>
      refine if_false_of rfl ?_
      have hc1 := hc.same s1
      obtain ⟨dx, hI⟩ := hc1.ins
      -- self.foot = list(numbers)
      refine ⟨_, rfl, b, nv ns, rfl, .inl (s1.seq hB), fun l nl => ?_⟩
      have dl : x ≠ l := ne_of_none hI nl
      refine ⟨_, rfl, x, C, dx, _, rfl, (upd_ne dl).trans hI, T.cl, T.nF, (by show 2 < 1000; decide), ?_⟩
      rw [camF_put_foot]
      -- self.radii = [0, 0]
      refine ⟨(by show 2 ≤ sizeLine; decide), fun m nm => ?_⟩
      have dm : x ≠ m := fun z => by
        rw [← z, upd_same] at nm
        cases nm
      have dml : l ≠ m := fun z => by
        rw [← z, upd_ne dl.symm, upd_same] at nm
        cases nm
      refine ⟨_, rfl, x, C, dx, _, rfl, (upd_ne dm).trans upd_same, T.cl, T.nR, (by show 2 < 1000; decide), ?_⟩
      rw [camF_put_radii]
      have nm1 : H1 m = none := by
        rw [upd_ne dm.symm, upd_ne dml.symm] at nm
        exact nm
      -- return [0]
      refine ⟨(by show 1 ≤ sizeLine; decide), fun p np => ?_⟩
      have dpx : x ≠ p := fun z => by
        rw [← z, upd_same] at np
        cases np
      have dpm : m ≠ p := fun z => by
        rw [← z, upd_ne dm.symm, upd_same] at np
        cases np
      have dpl : l ≠ p := fun z => by
        rw [← z, upd_ne dl.symm, upd_ne dml, upd_ne dl.symm, upd_same] at np
        cases np
      have np1 : H1 p = none := by
        rw [upd_ne dpx.symm, upd_ne dpm.symm, upd_ne dpx.symm, upd_ne dpl.symm] at np
        exact np
      refine q.turn (fa' := l) (ra' := m) (step_begins_yes hk) (fun b o e hb => ?_) (s1.free np1) upd_same ⟨⟨dx, ?_⟩, ?_, ?_⟩ (.inr (s1.free nl)) (.inr (s1.free nm1))
      · have e1 := s1 _ _ e
        rw [upd_ne (ne_of_none e1 np1), upd_ne hb, upd_ne (ne_of_none e1 nm1), upd_ne hb, upd_ne (ne_of_none e1 nl)]
        exact e1
      · rw [upd_ne dpx, upd_same]
      · rw [upd_ne dpl, upd_ne dl.symm, upd_ne dml, upd_ne dl.symm, upd_same]
      · rw [upd_ne dpm, upd_ne dm.symm, upd_same]
        rfl
/-! ### cam -/
theorem scMCam : FnScope ["self", "numbers"] ["self", "numbers"] (defScope sMCam) := ⟨rfl, rfl, rfl, by decide +kernel, rfl, by decide +kernel, by decide +kernel⟩
theorem ok_mCam {f fF : Addr} {fd fdF : FuncData} (G : Glob K mg) (T : Txt K mg C) (F : Fun K "cam" "Cam.cam" sMCam f fd) (FF : Fun K "are_places" "are_places" sPlaces fF fdF) (bF : Binds K fdF ["numbers"] []) (gF : mg "are_places" = some (.ref fF)) :
    FnOk P w K mg base CX0 2 f fd ["self", "numbers"] (spWithRow K C .cam) := by
  have GF : FnOk P w K mg base CX0 1 fF fdF ["numbers"] (spPlaces K) := ok_places G FF
  obtain ⟨to, go⟩ := G.out
  refine F.ok scMCam (fun vs H Q E h => ?_) (fun cdv A outer s H vs Q E hr h => ?_)
  · obtain ⟨x, b, fa, ra, c, ns, rfl, _⟩ := h
    rfl
  · obtain ⟨x, b, fa, ra, c, ns, rfl, hc, g, hB, h30, q⟩ := h
    refine ⟨_, pss_cons (ps_if (pt_not (pt_val (pe_call GF hr rfl gF FF.kp bF .nil pass0 (pa_cons (pv 1) pa_nil)))) (pss_one (ps_ret (pe_lst (pa_cons (pe_glob rfl go relI) pa_nil)))) pss_nil)
      (pss_cons (ps_fld (pv 0) (pe_callTy call_list_of (by rfl) G.list (by decide +kernel) (pa_cons (pv 1) pa_nil)) rfl)
      (pss_one (ps_ret (pe_lst (pa_cons (pe_callB call_len_seq (by rfl) G.len PySem.boot_len (pa_cons (pv 1) pa_nil)) pa_nil))))), ?_⟩
    refine ⟨_, rfl, b, ns, rfl, hB, h30, fun H1 s1 => ⟨_, rfl, ?_⟩⟩
    cases hk : Uw41.fine ns with
    | false =>
      refine if_true_of rfl ⟨(by show 1 ≤ sizeLine; decide), fun p np => ?_⟩
      exact q.stay hc (step_cam_no hk) (s1.free np) (s1.trans (same_new np)) upd_same
    | true =>
      refine if_false_of rfl ?_
      have hc1 := hc.same s1
      have hB1 := s1.seq hB
      obtain ⟨dx, hI⟩ := hc1.ins
      refine ⟨_, rfl, b, nv ns, rfl, .inl hB1, fun l nl => ?_⟩
      have dl : x ≠ l := ne_of_none hI nl
      refine ⟨_, rfl, x, C, dx, _, rfl, (upd_ne dl).trans hI, T.cl, T.nR, (by show 2 < 1000; decide), ?_⟩
      rw [camF_put_radii]
      -- the argument's list is none of these
      have hB2 : SqL K (upd (upd H1 l (.lst (nv ns))) x (.ins C dx (camF fa l))) b (nv ns) := by
        have hB' : SqL K (upd H1 l (.lst (nv ns))) b (nv ns) := (same_new nl).seq hB1
        rcases hB' with (z | ⟨o, z⟩) | z
        · refine .inl (.inl ?_)
          rw [upd_ne (ne_of z ((upd_ne dl).trans hI) (by intro y; cases y))]
          exact z
        · refine .inl (.inr ⟨o, ?_⟩)
          rw [upd_ne (ne_of z ((upd_ne dl).trans hI) (by intro y; cases y))]
          exact z
        · exact .inr z
      refine ⟨_, rfl, b, nv ns, rfl, .inl hB2, (by show 1 ≤ sizeLine; decide), fun p np => ?_⟩
      have dpx : x ≠ p := fun z => by
        rw [← z, upd_same] at np
        cases np
      have dpl : l ≠ p := fun z => by
        rw [← z, upd_ne dl.symm, upd_same] at np
        cases np
      have np1 : H1 p = none := by
        rw [upd_ne dpx.symm, upd_ne dpl.symm] at np
        exact np
      refine q.turn (fa' := fa) (ra' := l) (step_cam_yes hk) (fun b o e hb => ?_) (s1.free np1) ?_ ⟨⟨dx, ?_⟩, ?_, ?_⟩ (.inl rfl) (.inr (s1.free nl))
      · have e1 := s1 _ _ e
        rw [upd_ne (ne_of_none e1 np1), upd_ne hb, upd_ne (ne_of_none e1 nl)]
        exact e1
      · rw [upd_same, nv_length]
        rfl
      · rw [upd_ne dpx, upd_same]
      · rw [upd_ne (ne_of_none hc1.f np1), upd_ne hc1.nef, upd_ne (ne_of_none hc1.f nl)]
        exact hc1.f
      · rw [upd_ne dpl, upd_ne dl.symm, upd_same]
/-! ### motion -/
def spBare (C : Addr) (k : Uw41.Call) : Sp := fun vs H Q _ => ∃ (x fa ra : Addr) (c : Uw41.Cam), vs = [.ref x] ∧ CamAt C H x fa ra c ∧ Good c ∧ Does C H x fa ra c k Q
theorem scMMotion : FnScope ["self", "found"] ["self"] (defScope sMMotion) := ⟨rfl, rfl, rfl, by decide +kernel, rfl, by decide +kernel, by decide +kernel⟩
theorem ok_mMotion {f fM : Addr} {fd fdM : FuncData} (G : Glob K mg) (T : Txt K mg C) (F : Fun K "motion" "Cam.motion" sMMotion f fd) (FM : Fun K "motion_of" "motion_of" sMotion fM fdM) (bM : Binds K fdM ["foot", "radii"] []) (gM : mg "motion_of" = some (.ref fM))
    (GM : FnOk P w K mg base CX0 4 fM fdM ["foot", "radii"] (spMotion K)) : FnOk P w K mg base CX0 5 f fd ["self"] (spBare C .motion) := by
  refine F.ok scMMotion (fun vs H Q E h => ?_) (fun cdv A outer s H vs Q E hr h => ?_)
  · obtain ⟨x, fa, ra, c, rfl, _⟩ := h
    rfl
  · obtain ⟨x, fa, ra, c, rfl, hc, g, q⟩ := h
    refine ⟨_, pss_cons (ps_set (i := 1) scMMotion.nd rfl (.inl rfl) (pe_call GM hr rfl gM FM.kp bM .nil pass0 (pa_cons (pe_fld (pv 0) rfl) (pa_cons (pe_fld (pv 0) rfl) pa_nil))))
      (pss_one (ps_ret (pe_op op_cat (pe_lst (pa_cons (pe_callB (cr_max rfl) (by rfl) G.max (by decide +kernel) (pa_cons (pv 1) pa_nil)) pa_nil)) (pv 1)))), ?_⟩
    obtain ⟨dx, hI⟩ := hc.ins
    have hrl := g.rl
    have hr2 := g.r2
    refine ⟨_, rfl, x, C, dx, _, _, rfl, hI, T.cl, T.nF, camF_foot fa ra, _, rfl, x, C, dx, _, _, rfl, hI, T.cl, T.nR, camF_radii fa ra, fa, ra, c.foot, c.radii, rfl, SqL.of hc.f, SqL.of hc.r, g.fl, (by omega), fun H1 m s1 nm hm => ?_⟩
    have ml : (Uw41.motion c.foot c.radii).length = c.radii.length := motion_length _ _
    refine ⟨_, rfl, m, nums (Uw41.motion c.foot c.radii), rfl, SqL.of (by rw [← nv_eq]; exact hm), (by rw [nums_length]; omega), fun z hz hle => ⟨(by show 1 ≤ sizeLine; decide), fun p1 n1 => ?_⟩⟩
    have d1 : m ≠ p1 := ne_of_none hm n1
    refine ⟨_, rfl, p1, m, _, _, rfl, rfl, upd_same, (upd_ne d1).trans hm, ?_, fun p2 n2 => ?_⟩
    · refine small _ ?_
      rw [nv_length]
      show 1 + _ ≤ _
      omega
    have sA : Same H (upd H1 p1 (.lst [.int z])) := s1.trans (same_new n1)
    refine q.stay hc (a := ⟨(((Uw41.motion c.foot c.radii).foldl max 0 : Nat) : Int), Uw41.motion c.foot c.radii⟩) rfl (sA.free n2) (sA.trans (same_new n2)) ?_
    rw [upd_same, out_iv, ← max_is hz hle]
    rfl
/-! ### make -/
theorem scMMake : FnScope ["self", "numbers", "made", "lower"] ["self", "numbers"] (defScope sMMake) := ⟨rfl, rfl, rfl, by decide +kernel, rfl, by decide +kernel, by decide +kernel⟩
theorem ok_mMake {f fF fM fC fL : Addr} {fd fdF fdM fdC fdL : FuncData} (G : Glob K mg) (T : Txt K mg C) (F : Fun K "make" "Cam.make" sMMake f fd) (FF : Fun K "are_places" "are_places" sPlaces fF fdF) (bF : Binds K fdF ["numbers"] []) (gF : mg "are_places" = some (.ref fF))
    (FM : Fun K "motion_of" "motion_of" sMotion fM fdM) (bM : Binds K fdM ["foot", "radii"] []) (gM : mg "motion_of" = some (.ref fM)) (GM : FnOk P w K mg base CX0 4 fM fdM ["foot", "radii"] (spMotion K))
    (FC : Fun K "cut_from" "cut_from" sCut fC fdC) (bC : Binds K fdC ["foot", "heights"] []) (gC : mg "cut_from" = some (.ref fC)) (GC : FnOk P w K mg base CX0 4 fC fdC ["foot", "heights"] (spCut K))
    (FL : Fun K "how_much_lower" "how_much_lower" sLower fL fdL) (bL : Binds K fdL ["heights", "others"] []) (gL : mg "how_much_lower" = some (.ref fL)) :
    FnOk P w K mg base CX0 5 f fd ["self", "numbers"] (spWithRow K C .make) := by
  have GF : FnOk P w K mg base CX0 1 fF fdF ["numbers"] (spPlaces K) := ok_places G FF
  have GL : FnOk P w K mg base CX0 1 fL fdL ["heights", "others"] (spLower K) := ok_lower G FL
  obtain ⟨to, go⟩ := G.out
  refine F.ok scMMake (fun vs H Q E h => ?_) (fun cdv A outer s H vs Q E hr h => ?_)
  · obtain ⟨x, b, fa, ra, c, ns, rfl, _⟩ := h
    rfl
  · obtain ⟨x, b, fa, ra, c, ns, rfl, hc, g, hB, h30, q⟩ := h
    have hr1 : Room 1 _ := hr.mono (by decide)
    refine ⟨_, pss_cons (ps_if (pt_not (pt_val (pe_call GF hr1 rfl gF FF.kp bF .nil pass0 (pa_cons (pv 1) pa_nil)))) (pss_one (ps_ret (pe_lst (pa_cons (pe_glob rfl go relI) pa_nil)))) pss_nil)
      (pss_cons (ps_set (i := 2) scMMake.nd rfl (.inl rfl) (pe_call GC hr rfl gC FC.kp bC .nil pass0 (pa_cons (pe_fld (pv 0) rfl) (pa_cons (pv 1) pa_nil))))
      (pss_cons (ps_set (i := 3) scMMake.nd rfl (.inl rfl) (pe_call GL hr1 rfl gL FL.kp bL .nil pass0 (pa_cons (pv 1) (pa_cons (pe_call GM hr rfl gM FM.kp bM .nil pass0 (pa_cons (pe_fld (pv 0) rfl) (pa_cons (pv 2) pa_nil))) pa_nil))))
      (pss_cons (ps_fld (pv 0) (pv 2) rfl)
      (pss_one (ps_ret (pe_op op_cat (pe_lst (pa_cons (pv 3) pa_nil)) (pv 2))))))), ?_⟩
    refine ⟨_, rfl, b, ns, rfl, hB, h30, fun H1 s1 => ⟨_, rfl, ?_⟩⟩
    cases hk : Uw41.fine ns with
    | false =>
      refine if_true_of rfl ⟨(by show 1 ≤ sizeLine; decide), fun p np => ?_⟩
      exact q.stay hc (step_make_no hk) (s1.free np) (s1.trans (same_new np)) upd_same
    | true =>
      refine if_false_of rfl ?_
      have hc1 := hc.same s1
      obtain ⟨dx, hI⟩ := hc1.ins
      -- made = cut_from(self.foot, numbers)
      refine ⟨_, rfl, x, C, dx, _, _, rfl, hI, T.cl, T.nF, camF_foot fa ra, _, rfl, fa, b, c.foot, ns, rfl, SqL.of hc1.f, s1.seq hB, g.fl, g.f0, h30, fun H2 m s2 nm hm => ?_⟩
      have cl := cut_length c.foot ns
      have sB : Same H H2 := s1.trans s2
      -- lower = how_much_lower(numbers, motion_of(self.foot, made))
      refine ⟨_, rfl, _, rfl, x, C, dx, _, _, rfl, s2 _ _ hI, T.cl, T.nF, camF_foot fa ra, _, rfl, fa, m, c.foot, Uw41.cut c.foot ns, rfl, SqL.of (s2 _ _ hc1.f), SqL.of hm, g.fl, (by omega), fun H3 o s3 no ho => ?_⟩
      refine ⟨b, o, ns, Uw41.motion c.foot (Uw41.cut c.foot ns), rfl, (sB.trans s3).seq hB, SqL.of ho, (by rw [motion_length]; omega), h30, fun H4 s4 => ?_⟩
      rw [short_eq]
      have sC : Same H2 H4 := s3.trans s4
      have sD : Same H H4 := sB.trans sC
      have hI4 := sC _ _ (s2 _ _ hI)
      have hm4 := sC _ _ hm
      -- self.radii = made
      refine ⟨_, rfl, _, rfl, x, C, dx, _, rfl, hI4, T.cl, T.nR, (by show 2 < 1000; decide), ?_⟩
      rw [camF_put_radii]
      have dmx : m ≠ x := ne_of hm4 hI4 (by intro y; cases y)
      -- return [lower] + made
      refine ⟨_, rfl, (by show 1 ≤ sizeLine; decide), fun p1 n1 => ?_⟩
      have hm5 : upd H4 x (.ins C dx (camF fa m)) m = some (.lst (nv (Uw41.cut c.foot ns))) := (upd_ne dmx).trans hm4
      have d1 : m ≠ p1 := ne_of_none hm5 n1
      have d1x : x ≠ p1 := ne_of_none upd_same n1
      refine ⟨_, rfl, p1, m, _, _, rfl, rfl, upd_same, (upd_ne d1).trans hm5, ?_, fun p2 n2 => ?_⟩
      · refine small _ ?_
        rw [nv_length]
        show 1 + _ ≤ _
        omega
      have d2x : x ≠ p2 := fun z => by
        rw [← z, upd_ne d1x, upd_same] at n2
        cases n2
      have d21 : p1 ≠ p2 := ne_of_none upd_same n2
      have n2' : H4 p2 = none := by
        rw [upd_ne d21.symm, upd_ne d2x.symm] at n2
        exact n2
      have n1' : H4 p1 = none := by
        rw [upd_ne d1x.symm] at n1
        exact n1
      refine q.turn (fa' := fa) (ra' := m) (step_make_yes hk) (fun b o e hb => ?_) (sD.free n2') ?_ ⟨⟨dx, ?_⟩, ?_, ?_⟩ (.inl rfl) (.inr (s1.free nm))
      · have e1 := sD _ _ e
        rw [upd_ne (ne_of_none e1 n2'), upd_ne (ne_of_none e1 n1'), upd_ne hb]
        exact e1
      · rw [upd_same, out_iv]
        rfl
      · rw [upd_ne d2x, upd_ne d1x, upd_same]
      · have e1 := sD _ _ hc.f
        rw [upd_ne (ne_of_none e1 n2'), upd_ne (ne_of_none e1 n1'), upd_ne hc.nef]
        exact e1
      · rw [upd_ne (ne_of_none hm4 n2'), upd_ne d1]
        exact hm5
/-! ### idle -/
theorem scMIdle : FnScope ["self", "found"] ["self"] (defScope sMIdle) := ⟨rfl, rfl, rfl, by decide +kernel, rfl, by decide +kernel, by decide +kernel⟩
theorem ok_mIdle {f fM : Addr} {fd fdM : FuncData} (G : Glob K mg) (T : Txt K mg C) (F : Fun K "idle" "Cam.idle" sMIdle f fd) (FM : Fun K "idle_places" "idle_places" sIdle fM fdM) (bM : Binds K fdM ["foot", "radii"] []) (gM : mg "idle_places" = some (.ref fM))
    (GM : FnOk P w K mg base CX0 5 fM fdM ["foot", "radii"] (spIdle K)) : FnOk P w K mg base CX0 6 f fd ["self"] (spBare C .idle) := by
  refine F.ok scMIdle (fun vs H Q E h => ?_) (fun cdv A outer s H vs Q E hr h => ?_)
  · obtain ⟨x, fa, ra, c, rfl, _⟩ := h
    rfl
  · obtain ⟨x, fa, ra, c, rfl, hc, g, q⟩ := h
    refine ⟨_, pss_cons (ps_set (i := 1) scMIdle.nd rfl (.inl rfl) (pe_call GM hr rfl gM FM.kp bM .nil pass0 (pa_cons (pe_fld (pv 0) rfl) (pa_cons (pe_fld (pv 0) rfl) pa_nil))))
      (pss_one (ps_ret (pe_op op_cat (pe_lst (pa_cons (pe_callB call_len_seq (by rfl) G.len PySem.boot_len (pa_cons (pv 1) pa_nil)) pa_nil)) (pv 1)))), ?_⟩
    obtain ⟨dx, hI⟩ := hc.ins
    have hrl := g.rl
    refine ⟨_, rfl, x, C, dx, _, _, rfl, hI, T.cl, T.nF, camF_foot fa ra, _, rfl, x, C, dx, _, _, rfl, hI, T.cl, T.nR, camF_radii fa ra, fa, ra, c.foot, c.radii, rfl, SqL.of hc.f, SqL.of hc.r, g.fl, (by omega), fun H1 m s1 nm hm => ?_⟩
    have ml : (Uw41.idle c.foot c.radii).length ≤ c.radii.length := filter_len _ _
    refine ⟨_, rfl, m, _, rfl, .inl (SqL.of hm), (by show 1 ≤ sizeLine; decide), fun p1 n1 => ?_⟩
    have d1 : m ≠ p1 := ne_of_none hm n1
    refine ⟨_, rfl, p1, m, _, _, rfl, rfl, upd_same, (upd_ne d1).trans hm, ?_, fun p2 n2 => ?_⟩
    · refine small _ ?_
      rw [nv_length]
      show 1 + _ ≤ _
      omega
    have sA := s1.trans (same_new (o := .lst [.int ((nv (Uw41.idle c.foot c.radii)).length : Int)]) n1)
    refine q.stay hc (a := ⟨((Uw41.idle c.foot c.radii).length : Nat), Uw41.idle c.foot c.radii⟩) rfl (sA.free n2) (sA.trans (same_new n2)) ?_
    rw [upd_same, out_iv, nv_length]
    rfl
/-! ### jams -/
def spMJams (C : Addr) : Sp := fun vs H Q _ => ∃ (x fa ra : Addr) (c : Uw41.Cam) (s w : Nat), vs = [.ref x, .int s, .int w] ∧ CamAt C H x fa ra c ∧ Good c ∧ Does C H x fa ra c (.jams s w) Q
theorem scMJams : FnScope ["self", "rise", "turned", "found"] ["self", "rise", "turned"] (defScope sMJams) := ⟨rfl, rfl, rfl, by decide +kernel, rfl, by decide +kernel, by decide +kernel⟩
theorem ok_mJams {f fM fJ : Addr} {fd fdM fdJ : FuncData} (G : Glob K mg) (T : Txt K mg C) (F : Fun K "jams" "Cam.jams" sMJams f fd) (FM : Fun K "motion_of" "motion_of" sMotion fM fdM) (bM : Binds K fdM ["foot", "radii"] []) (gM : mg "motion_of" = some (.ref fM))
    (GM : FnOk P w K mg base CX0 4 fM fdM ["foot", "radii"] (spMotion K)) (FJ : Fun K "jam_places" "jam_places" sJam fJ fdJ) (bJ : Binds K fdJ ["motion", "rise", "step"] []) (gJ : mg "jam_places" = some (.ref fJ))
    (GJ : FnOk P w K mg base CX0 2 fJ fdJ ["motion", "rise", "step"] (spJam K)) : FnOk P w K mg base CX0 5 f fd ["self", "rise", "turned"] (spMJams C) := by
  obtain ⟨to, go⟩ := G.out
  obtain ⟨tn, gn⟩ := G.nowhere
  obtain ⟨tm, gm⟩ := G.most
  refine F.ok scMJams (fun vs H Q E h => ?_) (fun cdv A outer s H vs Q E hr h => ?_)
  · obtain ⟨x, fa, ra, c, s, w, rfl, _⟩ := h
    rfl
  · obtain ⟨x, fa, ra, c, s, w, rfl, hc, g, q⟩ := h
    have hr2 : Room 2 _ := hr.mono (by decide)
    refine ⟨_, pss_cons (ps_if (PW.pt (pw_or (pt_cmpR op_gt (pv 1) (pe_glob rfl gm relI) (nomark _)) (pw_or1 (pt_cmpR op_gt (pv 2) pe_int (nomark _))))) (pss_one (ps_ret (pe_lst (pa_cons (pe_glob rfl go relI) pa_nil)))) pss_nil)
      (pss_cons (ps_set (i := 3) scMJams.nd rfl (.inl rfl) (pe_call GJ hr2 rfl gJ FJ.kp bJ .nil pass0
        (pa_cons (pe_call GM hr rfl gM FM.kp bM .nil pass0 (pa_cons (pe_fld (pv 0) rfl) (pa_cons (pe_fld (pv 0) rfl) pa_nil))) (pa_cons (pv 1) (pa_cons (pe_op op_sub pe_int (pe_op op_mul pe_int (pv 2))) pa_nil)))))
      (pss_cons (ps_if (pt_cmpR (op_eqD hr.units) (pv 3) (pe_lst pa_nil) (nomark _)) (pss_one (ps_ret (pe_lst (pa_cons (pe_glob rfl gn relI) pa_nil)))) pss_nil)
      (pss_one (ps_ret (pe_lst (pa_cons (pe_ix ix_list (pv 3) pe_int (fun _ _ => rfl)) pa_nil)))))), ?_⟩
    refine ⟨_, rfl, _, _, rfl, rfl, _, rfl, ?_⟩
    by_cases h1 : 100 < s
    · refine if_true_of (decide_eq_true (by omega)) (if_true_of rfl ⟨(by show 1 ≤ sizeLine; decide), fun p np => ?_⟩)
      exact q.stay hc (step_jams_no (.inl h1)) np (same_new np) upd_same
    refine if_false_of (decide_eq_false (by omega)) ⟨_, rfl, _, _, rfl, rfl, _, rfl, ?_⟩
    by_cases h2 : 1 < w
    · refine if_true_of (decide_eq_true (by omega)) ⟨(by show 1 ≤ sizeLine; decide), fun p np => ?_⟩
      exact q.stay hc (step_jams_no (.inr h2)) np (same_new np) upd_same
    refine if_false_of (decide_eq_false (by omega)) ?_
    have hs := step_jams_yes (c := c) (s := s) (w := w) (by rintro (z | z) <;> omega)
    rw [jams_eq] at hs
    obtain ⟨dx, hI⟩ := hc.ins
    have hrl := g.rl
    have ml : (Uw41.motion c.foot c.radii).length = c.radii.length := motion_length _ _
    refine ⟨_, rfl, x, C, dx, _, _, rfl, hI, T.cl, T.nF, camF_foot fa ra, _, rfl, x, C, dx, _, _, rfl, hI, T.cl, T.nR, camF_radii fa ra, fa, ra, c.foot, c.radii, rfl, SqL.of hc.f, SqL.of hc.r, g.fl, (by omega), fun H1 m s1 nm hm => ?_⟩
    refine ⟨_, rfl, _, rfl, 2, _, rfl, rfl, .inl ⟨by decide, by decide⟩, _, _, rfl, rfl, m, Uw41.motion c.foot c.radii, s, w, rfl, SqL.of hm, (by omega), (by omega), fun H2 j s2 nj hj => ?_⟩
    have sB : Same H H2 := s1.trans s2
    -- if found == []
    refine ⟨_, rfl, Nat.zero_le _, fun e0 ne0 => ?_⟩
    have s3 := same_new (o := .lst []) ne0
    refine ⟨dat _, dat [], dp_nv (SqL.of (s3 _ _ hj)), dp_nv (l := []) (SqL.of upd_same), dat_shaped _, dat_shaped _, _, rfl, ?_⟩
    rw [dat_eqv]
    have sC := sB.trans s3
    cases hJ : jamList (Uw41.motion c.foot c.radii) s w with
    | nil =>
      refine if_true_of rfl ⟨(by show 1 ≤ sizeLine; decide), fun p np => ?_⟩
      rw [hJ] at hs
      exact q.stay hc hs (sC.free np) (sC.trans (same_new np)) upd_same
    | cons t r =>
      refine if_false_of rfl ?_
      rw [hJ] at hj hs
      refine ⟨_, rfl, j, _, 0, .int (t : Int), rfl, rfl, SqL.of (s3 _ _ hj), atI_nat (j := 0) rfl, (by show 1 ≤ sizeLine; decide), fun p np => ?_⟩
      exact q.stay hc hs (sC.free np) (sC.trans (same_new np)) upd_same
end
end Cm

namespace Cm
open PySem PySem.Spec PyProof.Rows L2
/-! ### the list by places -/
theorem iv_mid {pre mid post : List Int} {j : Nat} {z : Int} (h : mid[j]? = some z) : atI (iv (pre ++ (mid ++ post))) ((pre.length : Int) + (j : Int)) = some (.int z) := by
  have hj : j < mid.length := (List.getElem?_eq_some_iff.mp h).1
  have e : (iv (pre ++ (mid ++ post)))[pre.length + j]? = some (.int z) := by
    unfold iv
    rw [List.getElem?_map, List.getElem?_append_right (by omega), Nat.add_sub_cancel_left, List.getElem?_append_left hj, h]
    rfl
  exact atI_nat (j := pre.length + j) e
theorem iv_mid0 {pre mid post : List Int} {z : Int} (h : mid[0]? = some z) : atI (iv (pre ++ (mid ++ post))) (pre.length : Int) = some (.int z) := by
  have e := iv_mid (pre := pre) (post := post) h
  rw [show (pre.length : Int) + ((0 : Nat) : Int) = (pre.length : Int) by omega] at e
  exact e
theorem iv_cut (pre mid post : List Int) : cutV (iv (pre ++ (mid ++ post))) (some (pre.length : Int)) (some ((pre.length + mid.length : Nat) : Int)) = iv mid := by
  have hl : (iv (pre ++ (mid ++ post))).length = pre.length + (mid.length + post.length) := by
    rw [iv_length, List.length_append, List.length_append]
  rw [cut_nat _ _ _ (by omega) (by omega), Nat.add_sub_cancel_left]
  unfold iv
  rw [List.map_append, List.drop_append_of_le_length (by rw [List.length_map]; exact Nat.le_refl _), List.drop_of_length_le (by rw [List.length_map]; exact Nat.le_refl _), List.nil_append, List.map_append, List.take_append_of_le_length (by rw [List.length_map]; exact Nat.le_refl _)]
  exact List.take_of_length_le (by rw [List.length_map]; exact Nat.le_refl _)
section
variable {P : Program} {w : World} {K : PySem.W.Frag} {mg : Str → Option Value} {base : Heap} {C : Addr}
/-! ### end_of -/
def spEndOf (K : PySem.W.Frag) : Sp := fun vs H Q _ => ∃ (a : Addr) (pre post : List Int) (k : Uw41.Call), vs = [.ref a, .int (pre.length : Int)] ∧ SqL K H a (iv (pre ++ (flatC k ++ post))) ∧ Q (.int ((pre.length + (flatC k).length : Nat) : Int)) H
theorem scEndOf : FnScope ["calls", "at"] ["calls", "at"] (defScope sEndOf) := ⟨rfl, rfl, rfl, by decide +kernel, rfl, by decide +kernel, by decide +kernel⟩
theorem ok_endOf {f : Addr} {fd : FuncData} (G : Glob K mg) (F : Fun K "end_of" "end_of" sEndOf f fd) : FnOk P w K mg base CX0 1 f fd ["calls", "at"] (spEndOf K) := by
  obtain ⟨wa, gw, hw⟩ := G.rows
  obtain ⟨tj, gj⟩ := G.jams
  refine F.ok scEndOf (fun vs H Q E h => ?_) (fun cdv A outer s H vs Q E hr h => ?_)
  · obtain ⟨a, pre, post, k, rfl, _⟩ := h
    rfl
  · obtain ⟨a, pre, post, k, rfl, hS, q⟩ := h
    refine ⟨_, pss_cons (ps_if (pt_cmpR op_in_seq (pe_ix ix_list (pv 0) (pv 1) (fun _ _ => rfl)) (pe_glob rfl gw relR) (by rfl))
        (pss_one (ps_ret (pe_op op_add (pe_op op_add (pv 1) pe_int) (pe_ix ix_list (pv 0) (pe_op op_add (pv 1) pe_int) (fun _ _ => rfl))))) pss_nil)
      (pss_cons (ps_if (pt_cmpR op_eq (pe_ix ix_list (pv 0) (pv 1) (fun _ _ => rfl)) (pe_glob rfl gj relI) (nomark _)) (pss_one (ps_ret (pe_op op_add (pv 1) pe_int))) pss_nil)
      (pss_one (ps_ret (pe_op op_add (pv 1) pe_int)))), ?_⟩
    -- a call with a row
    have row : ∀ (z : Int) (l : List Nat), flatC k = z :: (l.length : Int) :: nums l → Q (.int ((pre.length : Int) + 2 + (l.length : Int))) H := by
      intro z l e
      have e2 : (((pre.length + (flatC k).length : Nat) : Int)) = (pre.length : Int) + 2 + (l.length : Int) := by
        rw [e, List.length_cons, List.length_cons, nums_length]
        omega
      rw [← e2]
      exact q
    cases k with
    | begins l =>
      refine ⟨_, rfl, _, rfl, a, _, _, .int 0, rfl, rfl, hS, iv_mid0 rfl, wa, _, rfl, .inr (hw H), rfl, rfl, _, rfl, if_true_of (by decide) ?_⟩
      refine ⟨_, rfl, _, _, rfl, rfl, _, rfl, _, rfl, _, _, rfl, rfl, a, _, _, .int (l.length : Int), rfl, rfl, hS, iv_mid (j := 1) rfl, _, _, rfl, rfl, row 0 l rfl⟩
    | cam l =>
      refine ⟨_, rfl, _, rfl, a, _, _, .int 1, rfl, rfl, hS, iv_mid0 rfl, wa, _, rfl, .inr (hw H), rfl, rfl, _, rfl, if_true_of (by decide) ?_⟩
      refine ⟨_, rfl, _, _, rfl, rfl, _, rfl, _, rfl, _, _, rfl, rfl, a, _, _, .int (l.length : Int), rfl, rfl, hS, iv_mid (j := 1) rfl, _, _, rfl, rfl, row 1 l rfl⟩
    | make l =>
      refine ⟨_, rfl, _, rfl, a, _, _, .int 3, rfl, rfl, hS, iv_mid0 rfl, wa, _, rfl, .inr (hw H), rfl, rfl, _, rfl, if_true_of (by decide) ?_⟩
      refine ⟨_, rfl, _, _, rfl, rfl, _, rfl, _, rfl, _, _, rfl, rfl, a, _, _, .int (l.length : Int), rfl, rfl, hS, iv_mid (j := 1) rfl, _, _, rfl, rfl, row 3 l rfl⟩
    | motion =>
      refine ⟨_, rfl, _, rfl, a, _, _, .int 2, rfl, rfl, hS, iv_mid0 rfl, wa, _, rfl, .inr (hw H), rfl, rfl, _, rfl, if_false_of (by decide) ?_⟩
      refine ⟨_, rfl, _, rfl, a, _, _, .int 2, rfl, rfl, hS, iv_mid0 rfl, rfl, _, rfl, if_false_of (by decide) ?_⟩
      exact ⟨_, rfl, _, _, rfl, rfl, q⟩
    | idle =>
      refine ⟨_, rfl, _, rfl, a, _, _, .int 4, rfl, rfl, hS, iv_mid0 rfl, wa, _, rfl, .inr (hw H), rfl, rfl, _, rfl, if_false_of (by decide) ?_⟩
      refine ⟨_, rfl, _, rfl, a, _, _, .int 4, rfl, rfl, hS, iv_mid0 rfl, rfl, _, rfl, if_false_of (by decide) ?_⟩
      exact ⟨_, rfl, _, _, rfl, rfl, q⟩
    | jams s w =>
      refine ⟨_, rfl, _, rfl, a, _, _, .int 5, rfl, rfl, hS, iv_mid0 rfl, wa, _, rfl, .inr (hw H), rfl, rfl, _, rfl, if_false_of (by decide) ?_⟩
      refine ⟨_, rfl, _, rfl, a, _, _, .int 5, rfl, rfl, hS, iv_mid0 rfl, rfl, _, rfl, if_true_of (by decide) ?_⟩
      exact ⟨_, rfl, _, _, rfl, rfl, q⟩
/-! ### parted -/
/-- a list of the calls, each an own list, none of which stood in H0 -/
def Parts (H0 H : Hp) (xs : List V) (cs : List Uw41.Call) : Prop := xs.length = cs.length ∧
  ∀ (j : Nat) (x : V), xs[j]? = some x → ∃ (k : Uw41.Call) (b : Addr), cs[j]? = some k ∧ x = .ref b ∧ H b = some (.lst (iv (flatC k))) ∧ H0 b = none
def spParted (K : PySem.W.Frag) : Sp := fun vs H Q _ => ∃ (a : Addr) (cs : List Uw41.Call), vs = [.ref a] ∧ SqL K H a (iv (cs.flatMap flatC)) ∧ cs.length ≤ 60 ∧
  ∀ H' p xs, Same H H' → H p = none → H' p = some (.lst xs) → Parts H H' xs cs → Q (.ref p) H'
theorem scParted : FnScope ["calls", "found", "at", "end"] ["calls"] (defScope sParted) := ⟨rfl, rfl, rfl, by decide +kernel, rfl, by decide +kernel, by decide +kernel⟩
theorem ok_parted {f fE : Addr} {fd fdE : FuncData} (G : Glob K mg) (F : Fun K "parted" "parted" sParted f fd) (FE : Fun K "end_of" "end_of" sEndOf fE fdE) (bE : Binds K fdE ["calls", "at"] []) (gE : mg "end_of" = some (.ref fE)) :
    FnOk P w K mg base CX0 2 f fd ["calls"] (spParted K) := by
  have GE : FnOk P w K mg base CX0 1 fE fdE ["calls", "at"] (spEndOf K) := ok_endOf G FE
  refine F.ok scParted (fun vs H Q E h => ?_) (fun cdv A outer s H vs Q E hr h => ?_)
  · obtain ⟨a, cs, rfl, _⟩ := h
    rfl
  · obtain ⟨a, cs, rfl, hS, h60, q⟩ := h
    refine ⟨_, pss_cons (ps_set (i := 1) scParted.nd rfl (.inl rfl) (pe_lst pa_nil)) (pss_cons (ps_set (i := 2) scParted.nd rfl (.inl rfl) pe_int)
      (pss_cons (ps_while PassesOwn.never (pt_cmpR op_lt (pv 2) (pe_callB call_len_seq (by rfl) G.len PySem.boot_len (pa_cons (pv 0) pa_nil)) (nomark _))
        (pss_cons (ps_set (i := 3) scParted.nd rfl (.inl rfl) (pe_call GE hr rfl gE FE.kp bE .nil pass0 (pa_cons (pv 0) (pa_cons (pv 2) pa_nil))))
        (pss_cons (ps_expr (pe_bm PySem.F.plainAttrs_list PySem.F.slot_list_append PySem.F.type_list_append mt_append (pv 1) (pa_cons (pe_slice sl_list (pv 0) (po_some (pv 2)) (po_some (pv 3))) pa_nil)))
        (pss_one (ps_set (i := 2) scParted.nd rfl (.inl rfl) (pv 3))))))
      (pss_one (ps_ret (pv 1))))), ?_⟩
    refine ⟨Nat.zero_le _, fun o no => ?_⟩
    let W : Nat → L2.St → Hp → Prop := fun m σ H' => ∃ (i : Nat) (v3 : Option V) (xs : List V), i + m = cs.length ∧ σ = [some (.ref a), some (.ref o), some (.int (ends cs i : Int)), v3] ∧ Same H H' ∧ H' o = some (.lst xs) ∧ xs.length = i ∧
      ∀ (j : Nat) (x : V), xs[j]? = some x → ∃ (k : Uw41.Call) (b : Addr), cs[j]? = some k ∧ x = .ref b ∧ H' b = some (.lst (iv (flatC k))) ∧ H b = none ∧ b ≠ o
    refine ⟨W, ⟨cs.length, 0, none, [], Nat.zero_add _, rfl, same_new no, upd_same, rfl, fun j x h => by simp at h⟩, ?_⟩
    rintro m σ H1 ⟨i, v3, xs, hm, rfl, s1, ho, hx, hp⟩
    have hA : SqL K H1 a (iv (cs.flatMap flatC)) := s1.seq hS
    refine ⟨_, rfl, _, rfl, a, _, rfl, .inl hA, _, _, rfl, rfl, _, rfl, ?_⟩
    rw [iv_length]
    by_cases hi : i < cs.length
    · have hk : cs[i]? = some cs[i] := List.getElem?_eq_getElem hi
      have hlt := ends_lt hk
      have hpos := flat_pos cs[i]
      refine if_true_of (decide_eq_true (by omega)) ⟨fun σ' H' => ∃ m', m' < m ∧ W m' σ' H', fun σ' H' h => h, ?_⟩
      have hsp := flat_split hk
      have hA2 : SqL K H1 a (iv ((cs.take i).flatMap flatC ++ (flatC cs[i] ++ (cs.drop (i + 1)).flatMap flatC))) := by
        rw [← hsp]
        exact hA
      -- end = end_of(calls, at)
      refine ⟨_, rfl, _, rfl, a, (cs.take i).flatMap flatC, (cs.drop (i + 1)).flatMap flatC, cs[i], rfl, hA2, ?_⟩
      -- found.append(calls[at:end])
      refine ⟨_, rfl, .inl ⟨rfl, _, SqL.of ho⟩, _, rfl, _, rfl, _, rfl, _, rfl, _, rfl, a, _, rfl, hA2, fun b nb => ?_⟩
      have e : cutV (iv ((cs.take i).flatMap flatC ++ (flatC cs[i] ++ (cs.drop (i + 1)).flatMap flatC))) (some (ends cs i : Int)) (some ((((cs.take i).flatMap flatC).length + (flatC cs[i]).length : Nat) : Int)) = iv (flatC cs[i]) := iv_cut _ _ _
      rw [e]
      have dob : o ≠ b := ne_of_none ho nb
      have s2 : Same H1 (upd H1 b (.lst (iv (flatC cs[i])))) := same_new nb
      refine ⟨o, xs, _, rfl, rfl, s2 _ _ ho, smallLt _ (by omega), ?_⟩
      refine ⟨_, rfl, m - 1, by omega, i + 1, some (.int ((((cs.take i).flatMap flatC).length + (flatC cs[i]).length : Nat) : Int)), _, by omega, ?_, same_own no (s1.trans s2), upd_same, ?_, fun j x h => ?_⟩
      · exact congrArg (fun z : Nat => [some (V.ref a), some (V.ref o), some (V.int (z : Int)), some (V.int ((((cs.take i).flatMap flatC).length + (flatC cs[i]).length : Nat) : Int))]) (ends_more hk).symm
      · rw [List.length_append, hx]
        rfl
      · by_cases hj : j < xs.length
        · rw [List.getElem?_append_left hj] at h
          obtain ⟨k, b', h1, h2, h3, h4, h5⟩ := hp j x h
          refine ⟨k, b', h1, h2, ?_, h4, h5⟩
          rw [upd_ne h5]
          exact s2 _ _ h3
        · rw [List.getElem?_append_right (by omega)] at h
          have hz : j - xs.length = 0 := by
            by_cases z : j - xs.length = 0
            · exact z
            · rw [List.getElem?_eq_none (by simp; omega)] at h
              cases h
          rw [hz] at h
          have hji : j = i := by omega
          subst hji
          refine ⟨cs[j], b, hk, (Option.some.inj h).symm, ?_, s1.free nb, dob.symm⟩
          rw [upd_ne dob.symm, upd_same]
    · have hic : i = cs.length := by omega
      have he : ends cs i = (cs.flatMap flatC).length := ends_all (by omega)
      refine if_false_of (decide_eq_false (by omega)) ⟨_, rfl, ?_⟩
      refine q H1 o xs s1 no ho ⟨by omega, fun j x h => ?_⟩
      obtain ⟨k, b', h1, h2, h3, h4, h5⟩ := hp j x h
      exact ⟨k, b', h1, h2, h3, h4⟩
/-! ### answer -/
theorem Does.same {H H1 : Hp} {x fa ra : Addr} {c : Uw41.Cam} {k : Uw41.Call} {Q : VK} (d : Does C H x fa ra c k Q) (s : Same H H1) : Does C H1 x fa ra c k Q := by
  intro H' p fa' ra' kp np hp hc h1 h2
  refine d H' p fa' ra' (fun b o e hb => kp b o (s _ _ e) hb) (s.free np) hp hc ?_ ?_
  · rcases h1 with z | z
    · exact .inl z
    · exact .inr (s.free z)
  · rcases h2 with z | z
    · exact .inl z
    · exact .inr (s.free z)
/-- where the methods stand -/
structure Meths (K : PySem.W.Frag) (C : Addr) (P : Program) (w : World) (mg : Str → Option Value) (base : Heap) : Prop where
  begins : ∃ f fd, Meth K C "begins" f ∧ Binds K fd ["self", "numbers"] [] ∧ FnOk P w K mg base CX0 2 f fd ["self", "numbers"] (spWithRow K C .begins)
  cam : ∃ f fd, Meth K C "cam" f ∧ Binds K fd ["self", "numbers"] [] ∧ FnOk P w K mg base CX0 2 f fd ["self", "numbers"] (spWithRow K C .cam)
  motion : ∃ f fd, Meth K C "motion" f ∧ Binds K fd ["self"] [] ∧ FnOk P w K mg base CX0 5 f fd ["self"] (spBare C .motion)
  make : ∃ f fd, Meth K C "make" f ∧ Binds K fd ["self", "numbers"] [] ∧ FnOk P w K mg base CX0 5 f fd ["self", "numbers"] (spWithRow K C .make)
  idle : ∃ f fd, Meth K C "idle" f ∧ Binds K fd ["self"] [] ∧ FnOk P w K mg base CX0 6 f fd ["self"] (spBare C .idle)
  jams : ∃ f fd, Meth K C "jams" f ∧ Binds K fd ["self", "rise", "turned"] [] ∧ FnOk P w K mg base CX0 5 f fd ["self", "rise", "turned"] (spMJams C)
def spAnswer (K : PySem.W.Frag) (C : Addr) : Sp := fun vs H Q _ => ∃ (x b fa ra : Addr) (c : Uw41.Cam) (k : Uw41.Call), vs = [.ref x, .ref b] ∧ CamAt C H x fa ra c ∧ Good c ∧ SqL K H b (iv (flatC k)) ∧ sized k ∧ Does C H x fa ra c k Q
theorem scAnswer : FnScope ["cam", "call"] ["cam", "call"] (defScope sAnswer) := ⟨rfl, rfl, rfl, by decide +kernel, rfl, by decide +kernel, by decide +kernel⟩
theorem cut_row (z : Int) (l : List Nat) : cutV (iv (z :: (l.length : Int) :: nums l)) (some 2) none = nv l := by
  have e := cut_from_nat (iv (z :: (l.length : Int) :: nums l)) 2 (by rw [iv_length]; show 2 ≤ _ + 1 + 1; omega)
  rw [nv_eq]
  exact e
theorem ok_answer {f : Addr} {fd : FuncData} (T : Txt K mg C) (M : Meths K C P w mg base) (F : Fun K "answer" "answer" sAnswer f fd) : FnOk P w K mg base CX0 7 f fd ["cam", "call"] (spAnswer K C) := by
  obtain ⟨f1, fd1, m1, b1, G1⟩ := M.begins
  obtain ⟨f2, fd2, m2, b2, G2⟩ := M.cam
  obtain ⟨f3, fd3, m3, b3, G3⟩ := M.motion
  obtain ⟨f4, fd4, m4, b4, G4⟩ := M.make
  obtain ⟨f5, fd5, m5, b5, G5⟩ := M.idle
  obtain ⟨f6, fd6, m6, b6, G6⟩ := M.jams
  refine F.ok scAnswer (fun vs H Q E h => ?_) (fun cdv A outer s H vs Q E hr h => ?_)
  · obtain ⟨x, b, fa, ra, c, k, rfl, _⟩ := h
    rfl
  · obtain ⟨x, b, fa, ra, c, k, rfl, hc, g, hB, hz, q⟩ := h
    have hr2 : Room 2 _ := hr.mono (by decide)
    have hr5 : Room 5 _ := hr.mono (by decide)
    refine ⟨_, pss_cons (ps_if (pt_cmpR op_eq (pe_ix ix_list (pv 1) pe_int (fun _ _ => rfl)) pe_int (nomark _)) (pss_one (ps_ret (pe_meth (pv 0) T.cl m1 G1 hr2 b1 .nil pass0 (pa_cons (pe_slice sl_list (pv 1) (po_some pe_int) po_none) pa_nil)))) pss_nil)
      (pss_cons (ps_if (pt_cmpR op_eq (pe_ix ix_list (pv 1) pe_int (fun _ _ => rfl)) pe_int (nomark _)) (pss_one (ps_ret (pe_meth (pv 0) T.cl m2 G2 hr2 b2 .nil pass0 (pa_cons (pe_slice sl_list (pv 1) (po_some pe_int) po_none) pa_nil)))) pss_nil)
      (pss_cons (ps_if (pt_cmpR op_eq (pe_ix ix_list (pv 1) pe_int (fun _ _ => rfl)) pe_int (nomark _)) (pss_one (ps_ret (pe_meth0 (pv 0) T.cl m3 G3 hr5 b3 .nil pass0))) pss_nil)
      (pss_cons (ps_if (pt_cmpR op_eq (pe_ix ix_list (pv 1) pe_int (fun _ _ => rfl)) pe_int (nomark _)) (pss_one (ps_ret (pe_meth (pv 0) T.cl m4 G4 hr5 b4 .nil pass0 (pa_cons (pe_slice sl_list (pv 1) (po_some pe_int) po_none) pa_nil)))) pss_nil)
      (pss_cons (ps_if (pt_cmpR op_eq (pe_ix ix_list (pv 1) pe_int (fun _ _ => rfl)) pe_int (nomark _)) (pss_one (ps_ret (pe_meth0 (pv 0) T.cl m5 G5 hr b5 .nil pass0))) pss_nil)
      (pss_one (ps_ret (pe_meth (pv 0) T.cl m6 G6 hr5 b6 .nil pass0 (pa_cons (pe_ix ix_list (pv 1) pe_int (fun _ _ => rfl)) (pa_cons (pe_ix ix_list (pv 1) pe_int (fun _ _ => rfl)) pa_nil))))))))), ?_⟩
    obtain ⟨dx, hI⟩ := hc.ins
    cases k with
    | begins l =>
      have hl : l.length ≤ 6 := hz
      refine ⟨_, rfl, b, _, 0, .int 0, rfl, rfl, hB, atI_nat (j := 0) rfl, rfl, _, rfl, if_true_of (by decide) ?_⟩
      refine ⟨_, rfl, x, dx, _, rfl, hI, camF_no _ _ (by decide +kernel) (by decide +kernel), _, rfl, 2, rfl, b, _, rfl, hB, fun p np => ?_⟩
      have s1 := same_new (o := .lst (cutV (iv (flatC (.begins l))) (some 2) none)) np
      exact ⟨x, p, fa, ra, c, l, rfl, hc.same s1, g, SqL.of (upd_same.trans (congrArg (fun y => some (HO.lst y)) (cut_row 0 l))), by omega, q.same s1⟩
    | cam l =>
      have hl : l.length ≤ 30 := hz
      refine ⟨_, rfl, b, _, 0, .int 1, rfl, rfl, hB, atI_nat (j := 0) rfl, rfl, _, rfl, if_false_of (by decide) ?_⟩
      refine ⟨_, rfl, b, _, 0, .int 1, rfl, rfl, hB, atI_nat (j := 0) rfl, rfl, _, rfl, if_true_of (by decide) ?_⟩
      refine ⟨_, rfl, x, dx, _, rfl, hI, camF_no _ _ (by decide +kernel) (by decide +kernel), _, rfl, 2, rfl, b, _, rfl, hB, fun p np => ?_⟩
      have s1 := same_new (o := .lst (cutV (iv (flatC (.cam l))) (some 2) none)) np
      exact ⟨x, p, fa, ra, c, l, rfl, hc.same s1, g, SqL.of (upd_same.trans (congrArg (fun y => some (HO.lst y)) (cut_row 1 l))), by omega, q.same s1⟩
    | motion =>
      refine ⟨_, rfl, b, _, 0, .int 2, rfl, rfl, hB, atI_nat (j := 0) rfl, rfl, _, rfl, if_false_of (by decide) ?_⟩
      refine ⟨_, rfl, b, _, 0, .int 2, rfl, rfl, hB, atI_nat (j := 0) rfl, rfl, _, rfl, if_false_of (by decide) ?_⟩
      refine ⟨_, rfl, b, _, 0, .int 2, rfl, rfl, hB, atI_nat (j := 0) rfl, rfl, _, rfl, if_true_of (by decide) ?_⟩
      exact ⟨_, rfl, x, dx, _, rfl, hI, camF_no _ _ (by decide +kernel) (by decide +kernel), x, fa, ra, c, rfl, hc, g, q⟩
    | make l =>
      have hl : l.length ≤ 30 := hz
      refine ⟨_, rfl, b, _, 0, .int 3, rfl, rfl, hB, atI_nat (j := 0) rfl, rfl, _, rfl, if_false_of (by decide) ?_⟩
      refine ⟨_, rfl, b, _, 0, .int 3, rfl, rfl, hB, atI_nat (j := 0) rfl, rfl, _, rfl, if_false_of (by decide) ?_⟩
      refine ⟨_, rfl, b, _, 0, .int 3, rfl, rfl, hB, atI_nat (j := 0) rfl, rfl, _, rfl, if_false_of (by decide) ?_⟩
      refine ⟨_, rfl, b, _, 0, .int 3, rfl, rfl, hB, atI_nat (j := 0) rfl, rfl, _, rfl, if_true_of (by decide) ?_⟩
      refine ⟨_, rfl, x, dx, _, rfl, hI, camF_no _ _ (by decide +kernel) (by decide +kernel), _, rfl, 2, rfl, b, _, rfl, hB, fun p np => ?_⟩
      have s1 := same_new (o := .lst (cutV (iv (flatC (.make l))) (some 2) none)) np
      exact ⟨x, p, fa, ra, c, l, rfl, hc.same s1, g, SqL.of (upd_same.trans (congrArg (fun y => some (HO.lst y)) (cut_row 3 l))), by omega, q.same s1⟩
    | idle =>
      refine ⟨_, rfl, b, _, 0, .int 4, rfl, rfl, hB, atI_nat (j := 0) rfl, rfl, _, rfl, if_false_of (by decide) ?_⟩
      refine ⟨_, rfl, b, _, 0, .int 4, rfl, rfl, hB, atI_nat (j := 0) rfl, rfl, _, rfl, if_false_of (by decide) ?_⟩
      refine ⟨_, rfl, b, _, 0, .int 4, rfl, rfl, hB, atI_nat (j := 0) rfl, rfl, _, rfl, if_false_of (by decide) ?_⟩
      refine ⟨_, rfl, b, _, 0, .int 4, rfl, rfl, hB, atI_nat (j := 0) rfl, rfl, _, rfl, if_false_of (by decide) ?_⟩
      refine ⟨_, rfl, b, _, 0, .int 4, rfl, rfl, hB, atI_nat (j := 0) rfl, rfl, _, rfl, if_true_of (by decide) ?_⟩
      exact ⟨_, rfl, x, dx, _, rfl, hI, camF_no _ _ (by decide +kernel) (by decide +kernel), x, fa, ra, c, rfl, hc, g, q⟩
    | jams s w =>
      refine ⟨_, rfl, b, _, 0, .int 5, rfl, rfl, hB, atI_nat (j := 0) rfl, rfl, _, rfl, if_false_of (by decide) ?_⟩
      refine ⟨_, rfl, b, _, 0, .int 5, rfl, rfl, hB, atI_nat (j := 0) rfl, rfl, _, rfl, if_false_of (by decide) ?_⟩
      refine ⟨_, rfl, b, _, 0, .int 5, rfl, rfl, hB, atI_nat (j := 0) rfl, rfl, _, rfl, if_false_of (by decide) ?_⟩
      refine ⟨_, rfl, b, _, 0, .int 5, rfl, rfl, hB, atI_nat (j := 0) rfl, rfl, _, rfl, if_false_of (by decide) ?_⟩
      refine ⟨_, rfl, b, _, 0, .int 5, rfl, rfl, hB, atI_nat (j := 0) rfl, rfl, _, rfl, if_false_of (by decide) ?_⟩
      exact ⟨_, rfl, x, dx, _, rfl, hI, camF_no _ _ (by decide +kernel) (by decide +kernel), _, rfl, b, _, 1, .int (s : Int), rfl, rfl, hB, atI_nat (j := 1) rfl, _, rfl, b, _, 2, .int (w : Int), rfl, rfl, hB, atI_nat (j := 2) rfl,
        x, fa, ra, c, s, w, rfl, hc, g, q⟩
/-! ### answers -/
def spAnswers (K : PySem.W.Frag) : Sp := fun vs H Q _ => ∃ (a : Addr) (cs : List Uw41.Call), vs = [.ref a] ∧ SqL K H a (iv (cs.flatMap flatC)) ∧ cs.length ≤ 60 ∧ (∀ c ∈ cs, sized c) ∧
  ∀ H' p, H' p = some (.lst (iv (tellAll Uw41.init cs))) → Q (.ref p) H'
theorem scAnswers : FnScope ["calls", "cam", "found", "call", "told"] ["calls"] (defScope sAnswers) := ⟨rfl, rfl, rfl, by decide +kernel, rfl, by decide +kernel, by decide +kernel⟩
theorem ok_answers {f fI fP fA : Addr} {fd fdI fdP fdA : FuncData} (G : Glob K mg) (T : Txt K mg C) (M : Mk K C fI) (F : Fun K "answers" "answers" sAnswers f fd) (FI : Fun K "__init__" "Cam.__init__" sInit fI fdI) (bI : Binds K fdI ["self"] [])
    (FP : Fun K "parted" "parted" sParted fP fdP) (bP : Binds K fdP ["calls"] []) (gP : mg "parted" = some (.ref fP)) (GP : FnOk P w K mg base CX0 2 fP fdP ["calls"] (spParted K))
    (FA : Fun K "answer" "answer" sAnswer fA fdA) (bA : Binds K fdA ["cam", "call"] []) (gA : mg "answer" = some (.ref fA)) (GA : FnOk P w K mg base CX0 7 fA fdA ["cam", "call"] (spAnswer K C)) :
    FnOk P w K mg base CX0 8 f fd ["calls"] (spAnswers K) := by
  have GI : FnOk P w K mg base CX0 1 fI fdI ["self"] (spInit C) := ok_init G T FI
  refine F.ok scAnswers (fun vs H Q E h => ?_) (fun cdv A outer s H vs Q E hr h => ?_)
  · obtain ⟨a, cs, rfl, _⟩ := h
    rfl
  · obtain ⟨a, cs, rfl, hS, h60, hz, q⟩ := h
    have hr2 : Room 2 _ := hr.mono (by decide)
    refine ⟨_, pss_cons (ps_set (i := 1) scAnswers.nd rfl (.inl rfl) (pe_make0 M GI hr2 rfl T.gC bI .nil pass0)) (pss_cons (ps_set (i := 2) scAnswers.nd rfl (.inl rfl) (pe_lst pa_nil))
      (pss_cons (ps_for PassesOwn.never rfl (pi_list (pe_call GP hr2 rfl gP FP.kp bP .nil pass0 (pa_cons (pv 0) pa_nil))) (pg_name (i := 3) scAnswers.nd rfl (.inl rfl))
        (pss_cons (ps_set (i := 4) scAnswers.nd rfl (.inl rfl) (pe_call GA hr rfl gA FA.kp bA .nil pass0 (pa_cons (pv 1) (pa_cons (pv 3) pa_nil))))
        (pss_cons (ps_expr (pe_bm PySem.F.plainAttrs_list PySem.F.slot_list_append PySem.F.type_list_append mt_append (pv 2) (pa_cons (pe_callB call_len_seq (by rfl) G.len PySem.boot_len (pa_cons (pv 4) pa_nil)) pa_nil)))
        (pss_one (ps_expr (pe_bm PySem.F.plainAttrs_list PySem.F.slot_list_extend PySem.F.type_list_extend mt_extend (pv 2) (pa_cons (pv 4) pa_nil)))))))
      (pss_one (ps_ret (pv 2))))), ?_⟩
    -- cam = Cam()
    intro x dx nx nd ne
    refine ⟨x, dx, rfl, upd_same, fun H1 fa0 ra0 hc0 nf0 nr0 kp0 => ⟨rfl, ?_⟩⟩
    have s1 : Same H H1 := Same.made nx nd kp0
    -- found = []
    refine ⟨Nat.zero_le _, fun o no => ?_⟩
    have s2 : Same H1 (upd H1 o (.lst [])) := same_new no
    have hc2 := hc0.same s2
    have df0 : fa0 ≠ o := ne_of_none hc0.f no
    have dr0 : ra0 ≠ o := ne_of_none hc0.r no
    have ho2 : upd H1 o (.lst []) o = some (.lst []) := upd_same
    -- parted(calls)
    refine ⟨_, rfl, a, cs, rfl, (s1.trans s2).seq hS, h60, fun H2 p xs s3 np hp hparts => ⟨p, rfl, ⟨_, SqL.of hp⟩, ?_⟩⟩
    have dpo : p ≠ o := fun z => by
      rw [z, ho2] at np
      cases np
    obtain ⟨dxx, hI2⟩ := (hc2.same s3).ins
    have dpx : p ≠ x := ne_of hp hI2 (by intro z; cases z)
    have dxo : x ≠ o := ne_of hI2 (s3 _ _ ho2) (by intro z; cases z)
    refine for_list (K := K) (a := p) (xs := xs) (fun i σ H' => ∃ (v3 v4 : Option V) (fa ra : Addr), σ = [some (.ref a), some (.ref x), some (.ref o), v3, v4] ∧ (∀ b u, H2 b = some u → b ≠ x → b ≠ o → H' b = some u) ∧
        H' o = some (.lst (iv (tellAll Uw41.init (cs.take i)))) ∧ CamAt C H' x fa ra (after Uw41.init (cs.take i)) ∧ fa ≠ o ∧ ra ≠ o)
      ⟨none, none, fa0, ra0, rfl, fun b u e _ _ => e, s3 _ _ ho2, hc2.same s3, df0, dr0⟩ (fun i σ H' _ ⟨_, _, _, _, _, kp, _⟩ => SqL.of (kp _ _ hp dpx dpo)) ?_ ?_
    · rintro i y σ H3 hi ⟨v3, v4, fa, ra, rfl, kp, ho, hc, df, dr⟩
      obtain ⟨k, b, hk, rfl, hb, nb⟩ := hparts.2 i y hi
      have dbo : b ≠ o := fun z => by
        rw [z, ho2] at nb
        cases nb
      have dbx : b ≠ x := ne_of hb hI2 (by intro z; cases z)
      have hb3 := kp _ _ hb dbx dbo
      have g : Good (after Uw41.init (cs.take i)) := good_after good_init _
      have hal := ans_length g k
      have htl := tell_length good_init (cs.take i)
      have hci : (cs.take i).length ≤ 60 := by
        rw [List.length_take]
        omega
      -- told = answer(cam, call)
      refine ⟨_, rfl, _, rfl, x, b, fa, ra, _, k, rfl, hc, g, SqL.of hb3, hz k (List.mem_of_getElem? hk), fun H4 t fa' ra' kp4 nt ht hc4 e1 e2 => ?_⟩
      have dto : o ≠ t := ne_of_none ho nt
      have ho4 := kp4 _ _ ho dxo.symm
      -- found.append(len(told))
      refine ⟨_, rfl, .inl ⟨rfl, _, SqL.of ho4⟩, _, rfl, t, _, rfl, .inl (SqL.of ht), o, _, _, rfl, rfl, ho4, ?_, ?_⟩
      · refine smallLt _ ?_
        rw [iv_length]
        omega
      -- found.extend(told)
      refine ⟨_, rfl, .inl ⟨rfl, _, SqL.of upd_same⟩, _, rfl, o, t, _, _, rfl, rfl, upd_same, (upd_ne dto.symm).trans ht, ?_, ?_⟩
      · refine small _ ?_
        rw [List.length_append, iv_length, iv_length]
        show _ + 1 + _ ≤ _
        omega
      have df' : fa' ≠ o := by
        rcases e1 with z | z
        · rw [z]
          exact df
        · intro y
          rw [y, ho] at z
          cases z
      have dr' : ra' ≠ o := by
        rcases e2 with z | z
        · rw [z]
          exact dr
        · intro y
          rw [y, ho] at z
          cases z
      refine ⟨some (.ref b), some (.ref t), fa', ra', rfl, fun b' u e hbx hbo => ?_, ?_, ⟨?_, ?_, ?_⟩, df', dr'⟩
      · rw [upd_ne hbo, upd_ne hbo]
        exact kp4 _ _ (kp _ _ e hbx hbo) hbx
      · rw [upd_same, tell_more hk, iv_append, iv_append, iv_length]
        rfl
      · obtain ⟨d4, h4⟩ := hc4.ins
        refine ⟨d4, ?_⟩
        rw [upd_ne dxo, upd_ne dxo]
        exact h4
      · rw [upd_ne df', upd_ne df', after_more hk]
        exact hc4.f
      · rw [upd_ne dr', upd_ne dr', after_more hk]
        exact hc4.r
    · rintro σ H3 ⟨v3, v4, fa, ra, rfl, kp, ho, hc, df, dr⟩
      rw [hparts.1, List.take_length] at ho
      exact ⟨_, rfl, q H3 o ho⟩
end
end Cm

namespace Cm
open PySem PySem.Spec PyProof.Rows L2
open PySem.W (Codec)
theorem all_mk {P : Program} {w : World} {K : PySem.W.Frag} {h : Heap} {mg : Str → Option Value} {fa C aP aW f1 f2 f3 f4 f5 f6 f7 f8 f9 f10 f11 f12 f13 f14 f15 f16 f17 f18 f19 f20 f21 f22 f23 f24 : Addr} (X : K.In h) (G : h.Ns mainGlobals mg) (hfa : mg "answers" = some (.ref fa))
    {od1 od2 od3 od4 od5 od6 od7 od8 od9 od10 od11 od12 od13 od14 od15 od16 od17 od18 od19 od20 od21 od22 od23 od24 an1 an2 an3 an4 an5 an6 an7 an8 an9 an10 an11 an12 an13 an14 an15 an16 an17 an18 an19 an20 an21 an22 an23 an24 oP oW : Option Addr} {sl1 sl2 sl3 sl4 sl5 sl6 sl7 sl8 sl9 sl10 sl11 sl12 sl13 sl14 sl15 sl16 sl17 sl18 sl19 sl20 sl21 sl22 sl23 sl24 lP lW : Array (Option Value)} {oc1 oc2 oc3 oc4 oc5 oc6 oc7 oc8 oc9 oc10 oc11 oc12 oc13 oc14 oc15 oc16 oc17 oc18 oc19 oc20 oc21 oc22 oc23 oc24 kV1 kV2 kV3 kV4 kV5 kV6 kV7 kV8 kV9 kV10 kV11 kV12 kV13 kV14 kV15 kV16 kV17 kV18 kV19 kV20 kV21 kV22 kV23 kV24 dc1 dc2 dc3 dc4 dc5 dc6 dc7 dc8 dc9 dc10 dc11 dc12 dc13 dc14 dc15 dc16 dc17 dc18 dc19 dc20 dc21 dc22 dc23 dc24 pm1 pm2 pm3 pm4 pm5 pm6 pm7 pm8 pm9 pm10 pm11 pm12 pm13 pm14 pm15 pm16 pm17 pm18 pm19 pm20 pm21 pm22 pm23 pm24 cd1 cd2 cd3 cd4 cd5 cd6 cd7 cd8 cd9 cd10 cd11 cd12 cd13 cd14 cd15 cd16 cd17 cd18 cd19 cd20 cd21 cd22 cd23 cd24 ct1 ct2 ct3 ct4 ct5 ct6 ct7 ct8 ct9 ct10 ct11 ct12 ct13 ct14 ct15 ct16 ct17 ct18 ct19 ct20 ct21 ct22 ct23 ct24 : Value} {nP nW : Nat} {t0 t1 t2 t3 t4 t5 t6 tP0 tW0 tW1 tW2 : Tok}
    (aC : PySem.W.nsIn K mainGlobals "Cam" = some (some (.ref C)))
    (a1 : PySem.W.nsIn K mainGlobals "is_foot" = some (some (.ref f1)))
    (l1 : K.lookup f1 = some ⟨oc1, od1, .func (PySem.W.fnOf "is_foot" "is_foot" (defArgs sIsFoot) (defBody sIsFoot) (defScope sIsFoot) .none kV1 dc1 pm1 an1 cd1 ct1), sl1⟩)
    (c1 : PySem.W.codeIn K cd1 "is_foot" = true)
    (k1 : PySem.W.keepIn K (.ref f1) = true)
    (a2 : PySem.W.nsIn K mainGlobals "beside" = some (some (.ref f2)))
    (l2 : K.lookup f2 = some ⟨oc2, od2, .func (PySem.W.fnOf "beside" "beside" (defArgs sBeside) (defBody sBeside) (defScope sBeside) .none kV2 dc2 pm2 an2 cd2 ct2), sl2⟩)
    (c2 : PySem.W.codeIn K cd2 "beside" = true)
    (k2 : PySem.W.keepIn K (.ref f2) = true)
    (a3 : PySem.W.nsIn K mainGlobals "reached" = some (some (.ref f3)))
    (l3 : K.lookup f3 = some ⟨oc3, od3, .func (PySem.W.fnOf "reached" "reached" (defArgs sReached) (defBody sReached) (defScope sReached) .none kV3 dc3 pm3 an3 cd3 ct3), sl3⟩)
    (c3 : PySem.W.codeIn K cd3 "reached" = true)
    (k3 : PySem.W.keepIn K (.ref f3) = true)
    (a4 : PySem.W.nsIn K mainGlobals "height_at" = some (some (.ref f4)))
    (l4 : K.lookup f4 = some ⟨oc4, od4, .func (PySem.W.fnOf "height_at" "height_at" (defArgs sHeight) (defBody sHeight) (defScope sHeight) .none kV4 dc4 pm4 an4 cd4 ct4), sl4⟩)
    (c4 : PySem.W.codeIn K cd4 "height_at" = true)
    (k4 : PySem.W.keepIn K (.ref f4) = true)
    (a5 : PySem.W.nsIn K mainGlobals "motion_of" = some (some (.ref f5)))
    (l5 : K.lookup f5 = some ⟨oc5, od5, .func (PySem.W.fnOf "motion_of" "motion_of" (defArgs sMotion) (defBody sMotion) (defScope sMotion) .none kV5 dc5 pm5 an5 cd5 ct5), sl5⟩)
    (c5 : PySem.W.codeIn K cd5 "motion_of" = true)
    (k5 : PySem.W.keepIn K (.ref f5) = true)
    (a6 : PySem.W.nsIn K mainGlobals "radius_at" = some (some (.ref f6)))
    (l6 : K.lookup f6 = some ⟨oc6, od6, .func (PySem.W.fnOf "radius_at" "radius_at" (defArgs sRadius) (defBody sRadius) (defScope sRadius) .none kV6 dc6 pm6 an6 cd6 ct6), sl6⟩)
    (c6 : PySem.W.codeIn K cd6 "radius_at" = true)
    (k6 : PySem.W.keepIn K (.ref f6) = true)
    (a7 : PySem.W.nsIn K mainGlobals "cut_from" = some (some (.ref f7)))
    (l7 : K.lookup f7 = some ⟨oc7, od7, .func (PySem.W.fnOf "cut_from" "cut_from" (defArgs sCut) (defBody sCut) (defScope sCut) .none kV7 dc7 pm7 an7 cd7 ct7), sl7⟩)
    (c7 : PySem.W.codeIn K cd7 "cut_from" = true)
    (k7 : PySem.W.keepIn K (.ref f7) = true)
    (a8 : PySem.W.nsIn K mainGlobals "how_much_lower" = some (some (.ref f8)))
    (l8 : K.lookup f8 = some ⟨oc8, od8, .func (PySem.W.fnOf "how_much_lower" "how_much_lower" (defArgs sLower) (defBody sLower) (defScope sLower) .none kV8 dc8 pm8 an8 cd8 ct8), sl8⟩)
    (c8 : PySem.W.codeIn K cd8 "how_much_lower" = true)
    (k8 : PySem.W.keepIn K (.ref f8) = true)
    (a9 : PySem.W.nsIn K mainGlobals "without" = some (some (.ref f9)))
    (l9 : K.lookup f9 = some ⟨oc9, od9, .func (PySem.W.fnOf "without" "without" (defArgs sWithout) (defBody sWithout) (defScope sWithout) .none kV9 dc9 pm9 an9 cd9 ct9), sl9⟩)
    (c9 : PySem.W.codeIn K cd9 "without" = true)
    (k9 : PySem.W.keepIn K (.ref f9) = true)
    (a10 : PySem.W.nsIn K mainGlobals "idle_places" = some (some (.ref f10)))
    (l10 : K.lookup f10 = some ⟨oc10, od10, .func (PySem.W.fnOf "idle_places" "idle_places" (defArgs sIdle) (defBody sIdle) (defScope sIdle) .none kV10 dc10 pm10 an10 cd10 ct10), sl10⟩)
    (c10 : PySem.W.codeIn K cd10 "idle_places" = true)
    (k10 : PySem.W.keepIn K (.ref f10) = true)
    (a11 : PySem.W.nsIn K mainGlobals "rise_from" = some (some (.ref f11)))
    (l11 : K.lookup f11 = some ⟨oc11, od11, .func (PySem.W.fnOf "rise_from" "rise_from" (defArgs sRise) (defBody sRise) (defScope sRise) .none kV11 dc11 pm11 an11 cd11 ct11), sl11⟩)
    (c11 : PySem.W.codeIn K cd11 "rise_from" = true)
    (k11 : PySem.W.keepIn K (.ref f11) = true)
    (a12 : PySem.W.nsIn K mainGlobals "jam_places" = some (some (.ref f12)))
    (l12 : K.lookup f12 = some ⟨oc12, od12, .func (PySem.W.fnOf "jam_places" "jam_places" (defArgs sJam) (defBody sJam) (defScope sJam) .none kV12 dc12 pm12 an12 cd12 ct12), sl12⟩)
    (c12 : PySem.W.codeIn K cd12 "jam_places" = true)
    (k12 : PySem.W.keepIn K (.ref f12) = true)
    (a13 : PySem.W.nsIn K mainGlobals "are_places" = some (some (.ref f13)))
    (l13 : K.lookup f13 = some ⟨oc13, od13, .func (PySem.W.fnOf "are_places" "are_places" (defArgs sPlaces) (defBody sPlaces) (defScope sPlaces) .none kV13 dc13 pm13 an13 cd13 ct13), sl13⟩)
    (c13 : PySem.W.codeIn K cd13 "are_places" = true)
    (k13 : PySem.W.keepIn K (.ref f13) = true)
    (a14 : PySem.W.nsIn K mainGlobals "end_of" = some (some (.ref f14)))
    (l14 : K.lookup f14 = some ⟨oc14, od14, .func (PySem.W.fnOf "end_of" "end_of" (defArgs sEndOf) (defBody sEndOf) (defScope sEndOf) .none kV14 dc14 pm14 an14 cd14 ct14), sl14⟩)
    (c14 : PySem.W.codeIn K cd14 "end_of" = true)
    (k14 : PySem.W.keepIn K (.ref f14) = true)
    (a15 : PySem.W.nsIn K mainGlobals "parted" = some (some (.ref f15)))
    (l15 : K.lookup f15 = some ⟨oc15, od15, .func (PySem.W.fnOf "parted" "parted" (defArgs sParted) (defBody sParted) (defScope sParted) .none kV15 dc15 pm15 an15 cd15 ct15), sl15⟩)
    (c15 : PySem.W.codeIn K cd15 "parted" = true)
    (k15 : PySem.W.keepIn K (.ref f15) = true)
    (a16 : PySem.W.nsIn K mainGlobals "answer" = some (some (.ref f16)))
    (l16 : K.lookup f16 = some ⟨oc16, od16, .func (PySem.W.fnOf "answer" "answer" (defArgs sAnswer) (defBody sAnswer) (defScope sAnswer) .none kV16 dc16 pm16 an16 cd16 ct16), sl16⟩)
    (c16 : PySem.W.codeIn K cd16 "answer" = true)
    (k16 : PySem.W.keepIn K (.ref f16) = true)
    (a17 : PySem.W.nsIn K mainGlobals "answers" = some (some (.ref f17)))
    (l17 : K.lookup f17 = some ⟨oc17, od17, .func (PySem.W.fnOf "answers" "answers" (defArgs sAnswers) (defBody sAnswers) (defScope sAnswers) .none kV17 dc17 pm17 an17 cd17 ct17), sl17⟩)
    (c17 : PySem.W.codeIn K cd17 "answers" = true)
    (k17 : PySem.W.keepIn K (.ref f17) = true)
    (a18 : PySem.W.findIn K (.ref C) "__init__" = some (some (.ref f18)))
    (i18 : PySem.W.isFn K (.ref f18) = true)
    (l18 : K.lookup f18 = some ⟨oc18, od18, .func (PySem.W.fnOf "__init__" "Cam.__init__" (defArgs sInit) (defBody sInit) (defScope sInit) .none kV18 dc18 pm18 an18 cd18 ct18), sl18⟩)
    (c18 : PySem.W.codeIn K cd18 "Cam.__init__" = true)
    (k18 : PySem.W.keepIn K (.ref f18) = true)
    (a19 : PySem.W.findIn K (.ref C) "begins" = some (some (.ref f19)))
    (i19 : PySem.W.isFn K (.ref f19) = true)
    (l19 : K.lookup f19 = some ⟨oc19, od19, .func (PySem.W.fnOf "begins" "Cam.begins" (defArgs sMBegins) (defBody sMBegins) (defScope sMBegins) .none kV19 dc19 pm19 an19 cd19 ct19), sl19⟩)
    (c19 : PySem.W.codeIn K cd19 "Cam.begins" = true)
    (k19 : PySem.W.keepIn K (.ref f19) = true)
    (a20 : PySem.W.findIn K (.ref C) "cam" = some (some (.ref f20)))
    (i20 : PySem.W.isFn K (.ref f20) = true)
    (l20 : K.lookup f20 = some ⟨oc20, od20, .func (PySem.W.fnOf "cam" "Cam.cam" (defArgs sMCam) (defBody sMCam) (defScope sMCam) .none kV20 dc20 pm20 an20 cd20 ct20), sl20⟩)
    (c20 : PySem.W.codeIn K cd20 "Cam.cam" = true)
    (k20 : PySem.W.keepIn K (.ref f20) = true)
    (a21 : PySem.W.findIn K (.ref C) "motion" = some (some (.ref f21)))
    (i21 : PySem.W.isFn K (.ref f21) = true)
    (l21 : K.lookup f21 = some ⟨oc21, od21, .func (PySem.W.fnOf "motion" "Cam.motion" (defArgs sMMotion) (defBody sMMotion) (defScope sMMotion) .none kV21 dc21 pm21 an21 cd21 ct21), sl21⟩)
    (c21 : PySem.W.codeIn K cd21 "Cam.motion" = true)
    (k21 : PySem.W.keepIn K (.ref f21) = true)
    (a22 : PySem.W.findIn K (.ref C) "make" = some (some (.ref f22)))
    (i22 : PySem.W.isFn K (.ref f22) = true)
    (l22 : K.lookup f22 = some ⟨oc22, od22, .func (PySem.W.fnOf "make" "Cam.make" (defArgs sMMake) (defBody sMMake) (defScope sMMake) .none kV22 dc22 pm22 an22 cd22 ct22), sl22⟩)
    (c22 : PySem.W.codeIn K cd22 "Cam.make" = true)
    (k22 : PySem.W.keepIn K (.ref f22) = true)
    (a23 : PySem.W.findIn K (.ref C) "idle" = some (some (.ref f23)))
    (i23 : PySem.W.isFn K (.ref f23) = true)
    (l23 : K.lookup f23 = some ⟨oc23, od23, .func (PySem.W.fnOf "idle" "Cam.idle" (defArgs sMIdle) (defBody sMIdle) (defScope sMIdle) .none kV23 dc23 pm23 an23 cd23 ct23), sl23⟩)
    (c23 : PySem.W.codeIn K cd23 "Cam.idle" = true)
    (k23 : PySem.W.keepIn K (.ref f23) = true)
    (a24 : PySem.W.findIn K (.ref C) "jams" = some (some (.ref f24)))
    (i24 : PySem.W.isFn K (.ref f24) = true)
    (l24 : K.lookup f24 = some ⟨oc24, od24, .func (PySem.W.fnOf "jams" "Cam.jams" (defArgs sMJams) (defBody sMJams) (defScope sMJams) .none kV24 dc24 pm24 an24 cd24 ct24), sl24⟩)
    (c24 : PySem.W.codeIn K cd24 "Cam.jams" = true)
    (k24 : PySem.W.keepIn K (.ref f24) = true)
    (pg : PySem.W.plainGet K C Str.empty = true)
    (hd : PySem.W.hasDictIn K C = true)
    (po : PySem.W.plainOver K C = true)
    (sa : PySem.W.findIn K (.ref C) "__setattr__" = some (some (.builtin "object.__setattr__")))
    (mk : PySem.W.makesIn K C = true)
    (kc : PySem.W.keepIn K (.ref C) = true)
    (nF : PySem.W.findIn K (.ref C) "foot" = some none)
    (nR : PySem.W.findIn K (.ref C) "radii" = some none)
    (z_len : PySem.W.nsIn K mainGlobals "len" = some none)
    (z_range : PySem.W.nsIn K mainGlobals "range" = some none)
    (z_all : PySem.W.nsIn K mainGlobals "all" = some none)
    (z_max : PySem.W.nsIn K mainGlobals "max" = some none)
    (z_min : PySem.W.nsIn K mainGlobals "min" = some none)
    (z_sum : PySem.W.nsIn K mainGlobals "sum" = some none)
    (z_zip : PySem.W.nsIn K mainGlobals "zip" = some none)
    (z_list : PySem.W.nsIn K mainGlobals "list" = some none)
    (v0 : PySem.W.nsIn K mainGlobals "MOST_NUMBERS" = some (some (.int 4 t0)))
    (v1 : PySem.W.nsIn K mainGlobals "MOST" = some (some (.int 100 t1)))
    (v2 : PySem.W.nsIn K mainGlobals "LEAST_PLACES" = some (some (.int 2 t2)))
    (v3 : PySem.W.nsIn K mainGlobals "MOST_PLACES" = some (some (.int 24 t3)))
    (v4 : PySem.W.nsIn K mainGlobals "OUT_OF_BOUNDS" = some (some (.int (-1) t4)))
    (v5 : PySem.W.nsIn K mainGlobals "NOWHERE" = some (some (.int (-6) t5)))
    (v6 : PySem.W.nsIn K mainGlobals "JAMS" = some (some (.int 5 t6)))
    (aPt : PySem.W.nsIn K mainGlobals "POINT" = some (some (.ref aP)))
    (lPt : K.lookup aP = some ⟨.type "tuple", oP, .seq #[.int 0 tP0] nP, lP⟩)
    (aWr : PySem.W.nsIn K mainGlobals "WITH_ROW" = some (some (.ref aW)))
    (lWr : K.lookup aW = some ⟨.type "tuple", oW, .seq #[.int 0 tW0, .int 1 tW1, .int 3 tW2] nW, lW⟩)
    : ∃ fd : FuncData, (∀ (s : Shared) (us : List Value), us.length = (["calls"] : List Str).length → BindsTo s fd ⟨us, []⟩ ((["calls"] : List Str).zip us)) ∧ ∀ base : Heap, K.In base → base.Ns mainGlobals mg → FnOk P w K mg base CX0 8 fa fd ["calls"] (spAnswers K) := by
  have e := hfa.symm.trans (PySem.W.mg_of X G a17)
  cases e
  have T : Txt K mg C := ⟨⟨pg, hd, po, sa⟩, nF, nR, PySem.W.mg_of X G aC⟩
  have L : Glob K mg := ⟨PySem.W.mg_none_of X G z_len, PySem.W.mg_none_of X G z_range, PySem.W.mg_none_of X G z_all, PySem.W.mg_none_of X G z_max, PySem.W.mg_none_of X G z_min, PySem.W.mg_none_of X G z_sum, PySem.W.mg_none_of X G z_zip, PySem.W.mg_none_of X G z_list, ⟨_, PySem.W.mg_of X G v0⟩, ⟨_, PySem.W.mg_of X G v1⟩, ⟨_, PySem.W.mg_of X G v2⟩, ⟨_, PySem.W.mg_of X G v3⟩, ⟨_, PySem.W.mg_of X G v4⟩, ⟨_, PySem.W.mg_of X G v5⟩, ⟨_, PySem.W.mg_of X G v6⟩, ⟨aP, PySem.W.mg_of X G aPt, fun _ => .inr ⟨_, _, _, lPt, rfl, rfl, (by show 1 ≤ sizeLine; decide), .cons relI .nil⟩⟩, ⟨aW, PySem.W.mg_of X G aWr, fun _ => .inr ⟨_, _, _, lWr, rfl, rfl, (by show 3 ≤ sizeLine; decide), .cons relI (.cons relI (.cons relI .nil))⟩⟩⟩
  have F1 := fun_mk (st := sIsFoot) l1 c1 k1
  have b1 := F1.binds (ps := ["numbers"]) fun _ _ _ _ _ _ us hl => match us, hl with | [_], _ => rfl
  have g1 := PySem.W.mg_of X G a1
  have F2 := fun_mk (st := sBeside) l2 c2 k2
  have b2 := F2.binds (ps := ["many", "place", "aside"]) fun _ _ _ _ _ _ us hl => match us, hl with | [_, _, _], _ => rfl
  have g2 := PySem.W.mg_of X G a2
  have F3 := fun_mk (st := sReached) l3 c3 k3
  have b3 := F3.binds (ps := ["foot", "many", "place"]) fun _ _ _ _ _ _ us hl => match us, hl with | [_, _, _], _ => rfl
  have g3 := PySem.W.mg_of X G a3
  have F4 := fun_mk (st := sHeight) l4 c4 k4
  have b4 := F4.binds (ps := ["foot", "radii", "place"]) fun _ _ _ _ _ _ us hl => match us, hl with | [_, _, _], _ => rfl
  have g4 := PySem.W.mg_of X G a4
  have F5 := fun_mk (st := sMotion) l5 c5 k5
  have b5 := F5.binds (ps := ["foot", "radii"]) fun _ _ _ _ _ _ us hl => match us, hl with | [_, _], _ => rfl
  have g5 := PySem.W.mg_of X G a5
  have F6 := fun_mk (st := sRadius) l6 c6 k6
  have b6 := F6.binds (ps := ["foot", "heights", "place"]) fun _ _ _ _ _ _ us hl => match us, hl with | [_, _, _], _ => rfl
  have g6 := PySem.W.mg_of X G a6
  have F7 := fun_mk (st := sCut) l7 c7 k7
  have b7 := F7.binds (ps := ["foot", "heights"]) fun _ _ _ _ _ _ us hl => match us, hl with | [_, _], _ => rfl
  have g7 := PySem.W.mg_of X G a7
  have F8 := fun_mk (st := sLower) l8 c8 k8
  have b8 := F8.binds (ps := ["heights", "others"]) fun _ _ _ _ _ _ us hl => match us, hl with | [_, _], _ => rfl
  have g8 := PySem.W.mg_of X G a8
  have F9 := fun_mk (st := sWithout) l9 c9 k9
  have b9 := F9.binds (ps := ["radii", "place"]) fun _ _ _ _ _ _ us hl => match us, hl with | [_, _], _ => rfl
  have g9 := PySem.W.mg_of X G a9
  have F10 := fun_mk (st := sIdle) l10 c10 k10
  have b10 := F10.binds (ps := ["foot", "radii"]) fun _ _ _ _ _ _ us hl => match us, hl with | [_, _], _ => rfl
  have g10 := PySem.W.mg_of X G a10
  have F11 := fun_mk (st := sRise) l11 c11 k11
  have b11 := F11.binds (ps := ["motion", "place", "step"]) fun _ _ _ _ _ _ us hl => match us, hl with | [_, _, _], _ => rfl
  have g11 := PySem.W.mg_of X G a11
  have F12 := fun_mk (st := sJam) l12 c12 k12
  have b12 := F12.binds (ps := ["motion", "rise", "step"]) fun _ _ _ _ _ _ us hl => match us, hl with | [_, _, _], _ => rfl
  have g12 := PySem.W.mg_of X G a12
  have F13 := fun_mk (st := sPlaces) l13 c13 k13
  have b13 := F13.binds (ps := ["numbers"]) fun _ _ _ _ _ _ us hl => match us, hl with | [_], _ => rfl
  have g13 := PySem.W.mg_of X G a13
  have F14 := fun_mk (st := sEndOf) l14 c14 k14
  have b14 := F14.binds (ps := ["calls", "at"]) fun _ _ _ _ _ _ us hl => match us, hl with | [_, _], _ => rfl
  have g14 := PySem.W.mg_of X G a14
  have F15 := fun_mk (st := sParted) l15 c15 k15
  have b15 := F15.binds (ps := ["calls"]) fun _ _ _ _ _ _ us hl => match us, hl with | [_], _ => rfl
  have g15 := PySem.W.mg_of X G a15
  have F16 := fun_mk (st := sAnswer) l16 c16 k16
  have b16 := F16.binds (ps := ["cam", "call"]) fun _ _ _ _ _ _ us hl => match us, hl with | [_, _], _ => rfl
  have g16 := PySem.W.mg_of X G a16
  have F17 := fun_mk (st := sAnswers) l17 c17 k17
  have b17 := F17.binds (ps := ["calls"]) fun _ _ _ _ _ _ us hl => match us, hl with | [_], _ => rfl
  have g17 := PySem.W.mg_of X G a17
  have F18 := fun_mk (st := sInit) l18 c18 k18
  have b18 := F18.binds (ps := ["self"]) fun _ _ _ _ _ _ us hl => match us, hl with | [_], _ => rfl
  have F19 := fun_mk (st := sMBegins) l19 c19 k19
  have b19 := F19.binds (ps := ["self", "numbers"]) fun _ _ _ _ _ _ us hl => match us, hl with | [_, _], _ => rfl
  have F20 := fun_mk (st := sMCam) l20 c20 k20
  have b20 := F20.binds (ps := ["self", "numbers"]) fun _ _ _ _ _ _ us hl => match us, hl with | [_, _], _ => rfl
  have F21 := fun_mk (st := sMMotion) l21 c21 k21
  have b21 := F21.binds (ps := ["self"]) fun _ _ _ _ _ _ us hl => match us, hl with | [_], _ => rfl
  have F22 := fun_mk (st := sMMake) l22 c22 k22
  have b22 := F22.binds (ps := ["self", "numbers"]) fun _ _ _ _ _ _ us hl => match us, hl with | [_, _], _ => rfl
  have F23 := fun_mk (st := sMIdle) l23 c23 k23
  have b23 := F23.binds (ps := ["self"]) fun _ _ _ _ _ _ us hl => match us, hl with | [_], _ => rfl
  have F24 := fun_mk (st := sMJams) l24 c24 k24
  have b24 := F24.binds (ps := ["self", "rise", "turned"]) fun _ _ _ _ _ _ us hl => match us, hl with | [_, _, _], _ => rfl
  refine ⟨PySem.W.fnOf "answers" "answers" (defArgs sAnswers) (defBody sAnswers) (defScope sAnswers) .none kV17 dc17 pm17 an17 cd17 ct17, fun s us hu => match us, hu with | [_], _ => .of_eq rfl, fun base _ _ => ?_⟩
  have oR : FnOk P w K mg base CX0 2 _ _ _ (spReached K) := ok_reached L F3 F2 b2 g2
  have oH : FnOk P w K mg base CX0 3 _ _ _ (spHeight K) := ok_height L F4 F3 b3 g3 oR
  have oM : FnOk P w K mg base CX0 4 _ _ _ (spMotion K) := ok_motion L F5 F4 b4 g4 oH
  have oD : FnOk P w K mg base CX0 3 _ _ _ (spRadius K) := ok_radius L F6 F3 b3 g3 oR
  have oC : FnOk P w K mg base CX0 4 _ _ _ (spCut K) := ok_cut L F7 F6 b6 g6 oD
  have oI : FnOk P w K mg base CX0 5 _ _ _ (spIdle K) := ok_idle L F10 F5 b5 g5 oM F9 b9 g9
  have oJ : FnOk P w K mg base CX0 2 _ _ _ (spJam K) := ok_jam L F12 F11 b11 g11
  have A : Meths K C P w mg base := ⟨⟨_, _, ⟨a19, i19, k19⟩, b19, ok_mBegins L T F19 F1 b1 g1⟩, ⟨_, _, ⟨a20, i20, k20⟩, b20, ok_mCam L T F20 F13 b13 g13⟩, ⟨_, _, ⟨a21, i21, k21⟩, b21, ok_mMotion L T F21 F5 b5 g5 oM⟩,
    ⟨_, _, ⟨a22, i22, k22⟩, b22, ok_mMake L T F22 F13 b13 g13 F5 b5 g5 oM F7 b7 g7 oC F8 b8 g8⟩, ⟨_, _, ⟨a23, i23, k23⟩, b23, ok_mIdle L T F23 F10 b10 g10 oI⟩, ⟨_, _, ⟨a24, i24, k24⟩, b24, ok_mJams L T F24 F5 b5 g5 oM F12 b12 g12 oJ⟩⟩
  have oP : FnOk P w K mg base CX0 2 _ _ _ (spParted K) := ok_parted L F15 F14 b14 g14
  have oA : FnOk P w K mg base CX0 7 _ _ _ (spAnswer K C) := ok_answer T A F16
  exact ok_answers L T ⟨mk, a18, i18, kc⟩ F17 F18 b18 F15 b15 g15 oP F16 b16 g16 oA
end Cm
open PySem PySem.W PyProof.Rows
set_option maxRecDepth 100000 in
set_option maxHeartbeats 8000000 in
theorem PySem.Challenge.cw_camfollower_s01_answers_holds : PySem.Challenge.rw_camfollower_s01_answers.Holds := by
  w_on; k_headS; (case hw => exact ⟨[.list [.int 2]], by decide +kernel, by decide +kernel⟩)
  k_fillS
  refine L2.walk_specK (r := PySem.Challenge.rw_camfollower_s01_answers) (k := 8) (CX := L2.CX0) (ps := ["calls"]) (sp := Cm.spAnswers) (by decide +kernel) rfl rfl ⟨rfl, by decide, by decide⟩ (fun w h Y => PySem.W.kIn_of Y) ?F ?S (fun _ _ _ _ z => z)
  case F =>
    intro w mg fa h Y KX G hmg
    refine' Cm.all_mk KX G hmg ?aC ?a1 ?l1 ?c1 ?k1 ?a2 ?l2 ?c2 ?k2 ?a3 ?l3 ?c3 ?k3 ?a4 ?l4 ?c4 ?k4 ?a5 ?l5 ?c5 ?k5 ?a6 ?l6 ?c6 ?k6 ?a7 ?l7 ?c7 ?k7 ?a8 ?l8 ?c8 ?k8 ?a9 ?l9 ?c9 ?k9 ?a10 ?l10 ?c10 ?k10 ?a11 ?l11 ?c11 ?k11 ?a12 ?l12 ?c12 ?k12 ?a13 ?l13 ?c13 ?k13 ?a14 ?l14 ?c14 ?k14 ?a15 ?l15 ?c15 ?k15 ?a16 ?l16 ?c16 ?k16 ?a17 ?l17 ?c17 ?k17 ?a18 ?i18 ?l18 ?c18 ?k18 ?a19 ?i19 ?l19 ?c19 ?k19 ?a20 ?i20 ?l20 ?c20 ?k20 ?a21 ?i21 ?l21 ?c21 ?k21 ?a22 ?i22 ?l22 ?c22 ?k22 ?a23 ?i23 ?l23 ?c23 ?k23 ?a24 ?i24 ?l24 ?c24 ?k24 ?pg ?hd ?po ?sa ?mk ?kc ?nF ?nR ?z_len ?z_range ?z_all ?z_max ?z_min ?z_sum ?z_zip ?z_list ?v0 ?v1 ?v2 ?v3 ?v4 ?v5 ?v6 ?aPt ?lPt ?aWr ?lWr
    (case aC => k_is); (case a1 => k_is); (case l1 => k_is); (case c1 => k_is); (case k1 => k_is); (case a2 => k_is); (case l2 => k_is); (case c2 => k_is)
    (case k2 => k_is); (case a3 => k_is); (case l3 => k_is); (case c3 => k_is); (case k3 => k_is); (case a4 => k_is); (case l4 => k_is); (case c4 => k_is)
    (case k4 => k_is); (case a5 => k_is); (case l5 => k_is); (case c5 => k_is); (case k5 => k_is); (case a6 => k_is); (case l6 => k_is); (case c6 => k_is)
    (case k6 => k_is); (case a7 => k_is); (case l7 => k_is); (case c7 => k_is); (case k7 => k_is); (case a8 => k_is); (case l8 => k_is); (case c8 => k_is)
    (case k8 => k_is); (case a9 => k_is); (case l9 => k_is); (case c9 => k_is); (case k9 => k_is); (case a10 => k_is); (case l10 => k_is); (case c10 => k_is)
    (case k10 => k_is); (case a11 => k_is); (case l11 => k_is); (case c11 => k_is); (case k11 => k_is); (case a12 => k_is); (case l12 => k_is); (case c12 => k_is)
    (case k12 => k_is); (case a13 => k_is); (case l13 => k_is); (case c13 => k_is); (case k13 => k_is); (case a14 => k_is); (case l14 => k_is); (case c14 => k_is)
    (case k14 => k_is); (case a15 => k_is); (case l15 => k_is); (case c15 => k_is); (case k15 => k_is); (case a16 => k_is); (case l16 => k_is); (case c16 => k_is)
    (case k16 => k_is); (case a17 => k_is); (case l17 => k_is); (case c17 => k_is); (case k17 => k_is); (case a18 => k_is); (case i18 => k_is); (case l18 => k_is)
    (case c18 => k_is); (case k18 => k_is); (case a19 => k_is); (case i19 => k_is); (case l19 => k_is); (case c19 => k_is); (case k19 => k_is); (case a20 => k_is)
    (case i20 => k_is); (case l20 => k_is); (case c20 => k_is); (case k20 => k_is); (case a21 => k_is); (case i21 => k_is); (case l21 => k_is); (case c21 => k_is)
    (case k21 => k_is); (case a22 => k_is); (case i22 => k_is); (case l22 => k_is); (case c22 => k_is); (case k22 => k_is); (case a23 => k_is); (case i23 => k_is)
    (case l23 => k_is); (case c23 => k_is); (case k23 => k_is); (case a24 => k_is); (case i24 => k_is); (case l24 => k_is); (case c24 => k_is); (case k24 => k_is)
    (case pg => k_is); (case hd => k_is); (case po => k_is); (case sa => k_is); (case mk => k_is); (case kc => k_is); (case nF => k_is); (case nR => k_is)
    (case z_len => k_is); (case z_range => k_is); (case z_all => k_is); (case z_max => k_is); (case z_min => k_is); (case z_sum => k_is); (case z_zip => k_is); (case z_list => k_is)
    (case v0 => k_is); (case v1 => k_is); (case v2 => k_is); (case v3 => k_is); (case v4 => k_is); (case v5 => k_is); (case v6 => k_is); (case aPt => k_is)
    (case lPt => k_is); (case aWr => k_is); (case lWr => k_is)
  case S =>
    intro K H xs a hO hwi hask hx
    cases hx with
    | cons h1 h2 =>
      cases h2
      cases h1 with
      | lst hs ha =>
        have e := L2.ints_dw a.1 _ ha
        subst e
        obtain ⟨cs, e1, e2, e3, e4⟩ := Cm.read (l := a.1) hask
        refine ⟨_, cs, rfl, ?_, e2, e3, fun H' p hp => ?_⟩
        · rw [← e1]
          exact hs
        · refine .lst (xs := Cm.iv (Cm.tellAll Uw41.init cs)) (L2.SqL.of hp) ?_
          rw [← e4]
          exact L2.dw_ints _
#print axioms PySem.Challenge.cw_camfollower_s01_answers_holds

