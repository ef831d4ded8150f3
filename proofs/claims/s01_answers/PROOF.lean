import PyProof.Rows.All
import Wide.All
import OpenK.AllK
import Wide.FinOn
import Open.SpecLaws
import KE.OsGo
import HandS.ForSpec
import HandS.ForMost
import HandS.Walk
import HandS.Deep
import HandS.More
import HandS.CallLocal
import KE.DataMinMax
import KE.SortData
import KE.DataEq
import PySem.Challenge.RW_lastday_s01_answers
set_option Elab.async false
set_option linter.all false
set_option maxRecDepth 100000
set_option maxHeartbeats 4000000
namespace Dy
open Sj13
/-! ### outcomes as numbers -/
def obit (k j : Nat) : Nat := if k.testBit j then 0 else 1
def obits (k : Nat) : Nat → Nat → List Nat
  | _, 0 => []
  | j, n + 1 => obit k j :: obits k (j + 1) n
def sel (k j : Nat) (p : Nat × Nat) : Nat := if k.testBit j then p.2 else p.1
theorem winner_obit (k j : Nat) (p : Nat × Nat) : Sj10.winner p (obit k j) = sel k j p := by
  unfold Sj10.winner obit sel
  cases k.testBit j <;> simp
def wk (k : Nat) : Nat → List (Nat × Nat) → List Nat → List Nat
  | _, [], W => W
  | j, p :: r, W => wk k (j + 1) r (W.set (sel k j p) (W.getD (sel k j p) 0 + 1))
theorem sel_lt {k j n : Nat} {p : Nat × Nat} (h : p.1 < n ∧ p.2 < n) : sel k j p < n := by
  unfold sel; split
  · exact h.2
  · exact h.1
theorem wk_len (k : Nat) : ∀ (ps : List (Nat × Nat)) (j : Nat) (W : List Nat), (wk k j ps W).length = W.length
  | [], _, _ => rfl
  | p :: r, j, W => by
    show (wk k (j + 1) r _).length = _
    rw [wk_len k r, List.length_set]
theorem getD_set {W : List Nat} {a i v : Nat} (ha : a < W.length) : (W.set a v).getD i 0 = if a = i then v else W.getD i 0 := by
  rw [List.getD_eq_getElem?_getD, List.getD_eq_getElem?_getD, List.getElem?_set]
  by_cases h : a = i
  · subst h; simp [ha]
  · simp [h]
theorem wk_get (k : Nat) : ∀ (ps : List (Nat × Nat)) (j : Nat) (W : List Nat), (∀ p ∈ ps, p.1 < W.length ∧ p.2 < W.length) → ∀ i,
    (wk k j ps W).getD i 0 = W.getD i 0 + ((ps.zip (obits k j ps.length)).filter fun x => Sj10.winner x.1 x.2 == i).length
  | [], _, _, _, i => by simp [wk]
  | p :: r, j, W, h, i => by
    have hp := h p List.mem_cons_self
    show (wk k (j + 1) r _).getD i 0 = _
    rw [wk_get k r (j + 1) _ (fun q hq => by rw [List.length_set]; exact h q (List.mem_cons_of_mem _ hq)), getD_set (sel_lt hp)]
    show _ = _ + ((((p, obit k j) :: r.zip (obits k (j + 1) r.length))).filter fun x => Sj10.winner x.1 x.2 == i).length
    rw [List.filter_cons]
    show _ = _ + (if (Sj10.winner p (obit k j) == i) = true then _ else _ : List _).length
    rw [winner_obit]
    by_cases e : sel k j p = i
    · subst e; simp; omega
    · simp [e]
theorem rows_perm : ∀ n, n ≤ 3 → ((List.range (2 ^ n)).map fun k => obits k 0 n).Perm (Sj10.rows n) := by decide
/-! ### pairs of a day -/
def Inside (b : Basho) (l : List Nat) : Prop := l.length = b.count ∧ ∀ x ∈ l, x < b.count
def Invol (b : Basho) (l : List Nat) : Prop := ∀ i, i < b.count → l.getD (l.getD i 0) 0 = i
theorem getD_mem {l : List Nat} {i : Nat} (h : i < l.length) : l.getD i 0 ∈ l := by
  rw [List.getD_eq_getElem?_getD, List.getElem?_eq_getElem h]
  exact List.getElem_mem h
theorem Inside.get {b : Basho} {l : List Nat} (h : Inside b l) {i : Nat} (hi : i < b.count) : l.getD i 0 < b.count := h.2 _ (getD_mem (by rw [h.1]; exact hi))
theorem mem_pairs {b : Basho} {l : List Nat} {p : Nat × Nat} : p ∈ pairs b l ↔ p.1 < b.count ∧ p.1 < l.getD p.1 0 ∧ p.2 = l.getD p.1 0 := by
  unfold pairs
  rw [List.mem_map]
  constructor
  · rintro ⟨i, hi, rfl⟩
    rw [List.mem_filter] at hi
    exact ⟨List.mem_range.mp hi.1, of_decide_eq_true hi.2, rfl⟩
  · rintro ⟨h1, h2, h3⟩
    exact ⟨p.1, List.mem_filter.mpr ⟨List.mem_range.mpr h1, decide_eq_true h2⟩, by rw [← h3]⟩
theorem pairs_lt {b : Basho} {l : List Nat} (h : Inside b l) : ∀ p ∈ pairs b l, p.1 < b.count ∧ p.2 < b.count := fun p hp => by
  have q := mem_pairs.mp hp
  exact ⟨q.1, by rw [q.2.2]; exact h.get q.1⟩
theorem pairs_length (b : Basho) (l : List Nat) : (pairs b l).length = b.bouts l := by
  unfold pairs Sj09.Basho.bouts
  rw [List.length_map]
theorem pairs_cost (b : Basho) (l : List Nat) : ((pairs b l).map fun p => b.far p.1 p.2).sum = b.cost l := by
  unfold pairs Sj09.Basho.cost
  rw [List.map_map]
  rfl
/-- a list of different numbers below n is no longer than n -/
theorem pigeon : ∀ (n : Nat) (l : List Nat), l.Nodup → (∀ x ∈ l, x < n) → l.length ≤ n
  | 0, [], _, _ => Nat.le_refl _
  | 0, a :: r, _, h => absurd (h a List.mem_cons_self) (Nat.not_lt_zero _)
  | n + 1, l, hd, h => by
    have h1 : (l.erase n).Nodup := hd.erase n
    have h2 : ∀ x ∈ l.erase n, x < n := fun x hx => by
      have := (List.Nodup.mem_erase_iff hd).mp hx
      have := h x this.2
      omega
    have h3 := pigeon n _ h1 h2
    rw [List.length_erase] at h3
    split at h3 <;> omega
theorem bouts_le {b : Basho} {l : List Nat} (h : Inside b l) (v : Invol b l) : 2 * b.bouts l ≤ b.count := by
  have hn : ((List.range b.count).filter fun i => decide (i < l.getD i 0)).Nodup := List.Nodup.sublist List.filter_sublist List.nodup_range
  let A := (List.range b.count).filter fun i => decide (i < l.getD i 0)
  have mA : ∀ i ∈ A, i < b.count ∧ i < l.getD i 0 := fun i hi => by
    have q := List.mem_filter.mp hi
    exact ⟨List.mem_range.mp q.1, of_decide_eq_true q.2⟩
  have key : (A ++ A.map fun i => l.getD i 0).Nodup := by
    rw [List.nodup_append]
    refine ⟨hn, ?_, ?_⟩
    · unfold List.Nodup
      rw [List.pairwise_map]
      refine List.Pairwise.imp_of_mem ?_ hn
      intro x y hx hy hne e
      exact hne (by rw [← v x (mA x hx).1, ← v y (mA y hy).1]; exact congrArg (fun z => l.getD z 0) e)
    · intro x hx y hy e
      subst e
      obtain ⟨z, hz, e2⟩ := List.mem_map.mp hy
      have h1 := mA x hx
      have h2 := mA z hz
      have h3 : l.getD x 0 = z := by rw [← e2]; exact v z h2.1
      have e3 : l.getD z 0 = x := e2
      omega
  have len := pigeon b.count _ key (fun x hx => by
    rcases List.mem_append.mp hx with hx | hx
    · exact (mA x hx).1
    · obtain ⟨z, hz, e2⟩ := List.mem_map.mp hx
      have e3 : l.getD z 0 = x := e2
      rw [← e3]; exact h.get (mA z hz).1)
  rw [List.length_append, List.length_map] at len
  have e : A.length = b.bouts l := rfl
  omega
/-! ### outcome k -/
def st (b : Basho) (l : List Nat) : Sj10.Standing := standing b l
theorem st_count (b : Basho) (l : List Nat) : (st b l).count = b.count := by
  unfold st standing Sj10.Standing.count Sj09.Basho.count
  rw [List.length_map]
def winsOf (b : Basho) : List Nat := b.wrestlers.map fun w => w.wins
theorem winsOf_len (b : Basho) : (winsOf b).length = b.count := by
  unfold winsOf Sj09.Basho.count; rw [List.length_map]
def oc (b : Basho) (l : List Nat) (k : Nat) : List Nat := obits k 0 (b.bouts l)
def wkF (b : Basho) (l : List Nat) (k : Nat) : List Nat := wk k 0 (pairs b l) (winsOf b)
theorem wkF_len (b : Basho) (l : List Nat) (k : Nat) : (wkF b l k).length = b.count := by
  unfold wkF; rw [wk_len, winsOf_len]
theorem wkF_get {b : Basho} {l : List Nat} (h : Inside b l) (k i : Nat) : (wkF b l k).getD i 0 = (st b l).ends (oc b l k) i := by
  unfold wkF oc
  rw [wk_get k _ 0 _ (fun p hp => by rw [winsOf_len]; exact pairs_lt h p hp) i, pairs_length]
  rfl
def bestOf (b : Basho) (l : List Nat) (k : Nat) : List Nat := (List.range b.count).filter fun i => (st b l).first (oc b l k) i
theorem first_iff {b : Basho} {l : List Nat} {o : List Nat} {i : Nat} : (st b l).first o i = true ↔ ∀ k, k < b.count → (st b l).ends o k ≤ (st b l).ends o i := by
  unfold Sj10.Standing.first
  rw [List.all_eq_true, st_count]
  constructor
  · exact fun h k hk => of_decide_eq_true (h k (List.mem_range.mpr hk))
  · exact fun h k hk => decide_eq_true (h k (List.mem_range.mp hk))
theorem alone_iff {b : Basho} {l : List Nat} {o : List Nat} {i : Nat} : (st b l).alone o i = true ↔ ∀ k, k < b.count → k ≠ i → (st b l).ends o k < (st b l).ends o i := by
  unfold Sj10.Standing.alone
  rw [List.all_eq_true, st_count]
  constructor
  · intro h k hk ne
    have q := h k (List.mem_range.mpr hk)
    rw [Bool.or_eq_true] at q
    rcases q with q | q
    · exact absurd (eq_of_beq q) ne
    · exact of_decide_eq_true q
  · intro h k hk
    rw [Bool.or_eq_true]
    by_cases e : k = i
    · exact .inl (by rw [e]; exact beq_self_eq_true _)
    · exact .inr (decide_eq_true (h k (List.mem_range.mp hk) e))
/-- the program's test: as many as the most -/
theorem max_first {b : Basho} {l : List Nat} (h : Inside b l) {k i m : Nat} (hi : i < b.count) (hm : m ∈ wkF b l k) (hle : ∀ x ∈ wkF b l k, x ≤ m) : ((wkF b l k).getD i 0 = m) ↔ (st b l).first (oc b l k) i = true := by
  rw [first_iff]
  constructor
  · intro e j hj
    rw [← wkF_get h, ← wkF_get h, e]
    exact hle _ (getD_mem (by rw [wkF_len]; exact hj))
  · intro e
    refine Nat.le_antisymm (hle _ (getD_mem (by rw [wkF_len]; exact hi))) ?_
    obtain ⟨j, hj, rfl⟩ := List.getElem_of_mem hm
    have q := e j (by rw [← wkF_len b l k]; exact hj)
    rw [← wkF_get h, ← wkF_get h] at q
    rw [List.getD_eq_getElem?_getD, List.getElem?_eq_getElem hj] at q
    exact q
theorem mem_bestOf {b : Basho} {l : List Nat} {k i : Nat} : i ∈ bestOf b l k ↔ i < b.count ∧ (st b l).first (oc b l k) i = true := by
  unfold bestOf
  rw [List.mem_filter, List.mem_range]
/-- one alone has the most: just one has -/
theorem best_one {b : Basho} {l : List Nat} {k : Nat} : (bestOf b l k).length = 1 ↔ ((List.range b.count).any fun i => (st b l).alone (oc b l k) i) = true := by
  have hn : (bestOf b l k).Nodup := List.Nodup.sublist List.filter_sublist List.nodup_range
  rw [List.any_eq_true]
  constructor
  · intro h
    obtain ⟨i, e⟩ : ∃ i, bestOf b l k = [i] := by
      match hh : bestOf b l k, h with
      | [i], _ => exact ⟨i, rfl⟩
    have hi := mem_bestOf.mp (show i ∈ bestOf b l k by rw [e]; exact List.mem_singleton.mpr rfl)
    refine ⟨i, List.mem_range.mpr hi.1, alone_iff.mpr fun j hj ne => ?_⟩
    refine Nat.lt_of_le_of_ne (first_iff.mp hi.2 j hj) fun eq => ne ?_
    have : j ∈ bestOf b l k := mem_bestOf.mpr ⟨hj, first_iff.mpr fun z hz => by rw [eq]; exact first_iff.mp hi.2 z hz⟩
    rw [e] at this
    exact List.mem_singleton.mp this
  · rintro ⟨i, hi, ha⟩
    have hi := List.mem_range.mp hi
    have hm : i ∈ bestOf b l k := mem_bestOf.mpr ⟨hi, first_iff.mpr fun z hz => by
      by_cases e : z = i
      · rw [e]; exact Nat.le_refl _
      · exact Nat.le_of_lt (alone_iff.mp ha z hz e)⟩
    have all : ∀ j ∈ bestOf b l k, j = i := fun j hj => by
      have q := mem_bestOf.mp hj
      by_cases e : j = i
      · exact e
      · exact absurd (first_iff.mp q.2 i hi) (Nat.not_le.mpr (alone_iff.mp ha j q.1 e))
    match hh : bestOf b l k with
    | [] => rw [hh] at hm; cases hm
    | [x] => rfl
    | x :: y :: r =>
      rw [hh] at hn all
      have e1 := all x List.mem_cons_self
      have e2 := all y (List.mem_cons_of_mem _ List.mem_cons_self)
      rw [e1, e2] at hn
      exact absurd hn (by simp)
def poff (b : Basho) (l : List Nat) (k : Nat) : Bool := decide ((bestOf b l k).length ≠ 1)
theorem poff_eq (b : Basho) (l : List Nat) (k : Nat) : poff b l k = !(List.range b.count).any fun i => (st b l).alone (oc b l k) i := by
  unfold poff
  by_cases e : (bestOf b l k).length = 1
  · rw [best_one.mp e]; simp [e]
  · cases q : (List.range b.count).any fun i => (st b l).alone (oc b l k) i
    · simp [e]
    · exact absurd (best_one.mpr q) e
theorem level_eq {b : Basho} {l : List Nat} (hn : b.bouts l ≤ 3) : level b l = ((List.range (2 ^ b.bouts l)).filter (poff b l)).length := by
  have e1 : ((List.range (2 ^ b.bouts l)).filter (poff b l)).length = (((List.range (2 ^ b.bouts l)).map fun k => obits k 0 (b.bouts l)).filter fun o => !(List.range b.count).any fun i => (st b l).alone o i).length := by
    rw [List.filter_map, List.length_map]
    refine congrArg List.length (List.filter_congr fun k _ => ?_)
    rw [poff_eq]
    rfl
  rw [e1, ((rows_perm _ hn).filter _).length_eq]
  unfold level Sj10.Standing.all_
  show (((Sj10.rows (pairs b l).length)).filter _).length = _
  rw [pairs_length]
  rfl
theorem mem_alive {b : Basho} {l : List Nat} (hn : b.bouts l ≤ 3) {i : Nat} : i ∈ alive b l ↔ ∃ k, k < 2 ^ b.bouts l ∧ i ∈ bestOf b l k := by
  unfold alive
  rw [List.mem_filter, List.mem_range]
  constructor
  · rintro ⟨hi, h⟩
    obtain ⟨o, ho⟩ := Option.isSome_iff_exists.mp h
    have hp : (st b l).first o i = true := List.find?_some (p := fun o => (st b l).first o i) ho
    have hm : o ∈ Sj10.rows (pairs b l).length := List.mem_of_find?_eq_some ho
    rw [pairs_length] at hm
    obtain ⟨k, hk, rfl⟩ := List.mem_map.mp ((rows_perm _ hn).mem_iff.mpr hm)
    exact ⟨k, List.mem_range.mp hk, mem_bestOf.mpr ⟨hi, hp⟩⟩
  · rintro ⟨k, hk, h⟩
    have q := mem_bestOf.mp h
    refine ⟨q.1, ?_⟩
    have hm : oc b l k ∈ Sj10.rows (pairs b l).length := by
      rw [pairs_length]
      exact (rows_perm _ hn).mem_iff.mp (List.mem_map.mpr ⟨k, List.mem_range.mpr hk, rfl⟩)
    show (((Sj10.rows (pairs b l).length)).find? fun o => (st b l).first o i).isSome = true
    rw [List.find?_isSome]
    exact ⟨_, hm, q.2⟩
theorem alive_sorted (b : Basho) (l : List Nat) : (alive b l).Pairwise (· < ·) := List.Pairwise.sublist List.filter_sublist List.pairwise_lt_range
/-- two rising lists with the same members are one -/
theorem rising_same : ∀ {a c : List Nat}, a.Pairwise (· < ·) → c.Pairwise (· < ·) → (∀ x, x ∈ a ↔ x ∈ c) → a = c
  | [], [], _, _, _ => rfl
  | [], y :: s, _, _, h => absurd ((h y).mpr List.mem_cons_self) (by simp)
  | x :: r, [], _, _, h => absurd ((h x).mp List.mem_cons_self) (by simp)
  | x :: r, y :: s, ha, hc, h => by
    have ha' := List.pairwise_cons.mp ha
    have hc' := List.pairwise_cons.mp hc
    have e : x = y := by
      rcases List.mem_cons.mp ((h x).mp List.mem_cons_self) with e | e
      · exact e
      · rcases List.mem_cons.mp ((h y).mpr List.mem_cons_self) with e' | e'
        · exact e'.symm
        · have := hc'.1 x e; have := ha'.1 y e'; omega
    subst e
    refine congrArg (x :: ·) (rising_same ha'.2 hc'.2 fun z => ?_)
    have hz := h z
    constructor
    · intro q
      rcases List.mem_cons.mp (hz.mp (List.mem_cons_of_mem _ q)) with e | e
      · have := ha'.1 z q; omega
      · exact e
    · intro q
      rcases List.mem_cons.mp (hz.mpr (List.mem_cons_of_mem _ q)) with e | e
      · have := hc'.1 z q; omega
      · exact e
/-! ### the chance -/
def red : Nat → Nat → Nat × Nat
  | a, 0 => (a, 1)
  | a, n + 1 => if a % 2 = 0 then red (a / 2) n else (a, 2 ^ (n + 1))
theorem red_parts : ∀ n, n ≤ 3 → ∀ a, a ≤ 8 → parts a n = if 0 < a then [(red a n).1, (red a n).2] else [0, 1] := by decide
theorem level_le {b : Basho} {l : List Nat} (hn : b.bouts l ≤ 3) : level b l ≤ 2 ^ b.bouts l := by
  rw [level_eq hn]
  refine Nat.le_trans (List.length_filter_le _ _) ?_
  rw [List.length_range]
  exact Nat.le_refl _
theorem level_le8 {b : Basho} {l : List Nat} (hn : b.bouts l ≤ 3) : level b l ≤ 8 := Nat.le_trans (level_le hn) (Nat.pow_le_pow_right (by decide) hn)
end Dy

namespace Dy
open Sj13
/-! ### days: the program's way, level by level -/
def wn (b : Basho) (i : Nat) (d : List Int) : List (List Int) :=
  if d.getD i 0 < 0 then (((d.set i (i : Int)).set i (i : Int)) :: (((List.range' (i + 1) (d.length - (i + 1))).filter fun j => decide (d.getD j 0 < 0) && b.may i j).map fun (j : Nat) => (d.set i (j : Int)).set j (i : Int))) else [d]
def daysFrom (b : Basho) : Nat → Nat → List (List Int) → List (List Int)
  | 0, _, now => now
  | r + 1, i, now => daysFrom b r (i + 1) (now.flatMap (wn b i))
def daysM (b : Basho) : List (List Int) := daysFrom b b.count 0 [List.replicate b.count (-1)]
def zs (l : List Nat) : List Int := l.map fun (n : Nat) => (n : Int)
theorem zs_len (l : List Nat) : (zs l).length = l.length := List.length_map ..
theorem daysFrom_flat (b : Basho) : ∀ (r i : Nat) (now : List (List Int)), daysFrom b r i now = now.flatMap fun d => daysFrom b r i [d]
  | 0, i, now => by
    show now = now.flatMap fun d => [d]
    induction now with
    | nil => rfl
    | cons a t ih => rw [List.flatMap_cons, ← ih]; rfl
  | r + 1, i, now => by
    show daysFrom b r (i + 1) (now.flatMap (wn b i)) = now.flatMap fun d => daysFrom b r (i + 1) ([d].flatMap (wn b i))
    rw [daysFrom_flat b r (i + 1), List.flatMap_assoc]
    refine congrArg (fun f => now.flatMap f) (funext fun d => ?_)
    rw [daysFrom_flat b r (i + 1) ([d].flatMap (wn b i))]
    simp
theorem getD_setI {W : List Int} {a i : Nat} {v : Int} (ha : a < W.length) : (W.set a v).getD i 0 = if a = i then v else W.getD i 0 := by
  rw [List.getD_eq_getElem?_getD, List.getD_eq_getElem?_getD, List.getElem?_set]
  by_cases h : a = i
  · subst h; simp [ha]
  · simp [h]
theorem getD_setN {W : List Nat} {a i v : Nat} (ha : a < W.length) : (W.set a v).getD i 0 = if a = i then v else W.getD i 0 := by
  rw [List.getD_eq_getElem?_getD, List.getD_eq_getElem?_getD, List.getElem?_set]
  by_cases h : a = i
  · subst h; simp [ha]
  · simp [h]
theorem ext_getD {a c : List Int} (h : a.length = c.length) (g : ∀ i, i < a.length → a.getD i 0 = c.getD i 0) : a = c := by
  refine List.ext_getElem h fun i h1 h2 => ?_
  have q := g i h1
  rw [List.getD_eq_getElem?_getD, List.getD_eq_getElem?_getD, List.getElem?_eq_getElem h1, List.getElem?_eq_getElem h2] at q
  exact q
theorem zs_getD (l : List Nat) (i : Nat) : (zs l).getD i 0 = (l.getD i 0 : Nat) := by
  unfold zs
  rw [List.getD_eq_getElem?_getD, List.getElem?_map, List.getD_eq_getElem?_getD]
  cases l[i]? <;> rfl
def leftOf (d : List Int) (i r : Nat) : List Nat := (List.range' i r).filter fun j => decide (d.getD j 0 < 0)
structure Rel (d : List Int) (l : List Nat) (i : Nat) : Prop where
  len : l.length = d.length
  done : ∀ j, j < i → 0 ≤ d.getD j 0
  val : ∀ j, j < d.length → l.getD j 0 = if d.getD j 0 < 0 then j else (d.getD j 0).toNat
theorem mem_leftOf {d : List Int} {i r j : Nat} : j ∈ leftOf d i r ↔ (i ≤ j ∧ j < i + r) ∧ d.getD j 0 < 0 := by
  unfold leftOf
  rw [List.mem_filter, List.mem_range'_1, decide_eq_true_iff]
theorem days_eq (b : Basho) : ∀ (r i f : Nat) (d : List Int) (l : List Nat), i + r = d.length → Rel d l i → (leftOf d i r).length ≤ f →
    daysFrom b r i [d] = (b.days f (leftOf d i r) l).map zs
  | 0, i, f, d, l, hi, R, _ => by
    have e : b.days f (leftOf d i 0) l = [l] := by cases f <;> rfl
    rw [e]
    show [d] = [zs l]
    refine congrArg (fun x => [x]) (ext_getD (by rw [zs_len, R.len]) fun j hj => ?_)
    have h0 := R.done j (by omega)
    rw [zs_getD, R.val j hj, if_neg (by omega)]
    omega
  | r + 1, i, f, d, l, hi, R, hf => by
    show daysFrom b r (i + 1) ([d].flatMap (wn b i)) = _
    have e0 : [d].flatMap (wn b i) = wn b i d := by simp
    rw [e0]
    have eL : leftOf d i (r + 1) = if d.getD i 0 < 0 then i :: leftOf d (i + 1) r else leftOf d (i + 1) r := by
      unfold leftOf
      rw [List.range'_succ, List.filter_cons]
      by_cases h : d.getD i 0 < 0
      · rw [if_pos (decide_eq_true h), if_pos h]
      · rw [if_neg (by simpa using h), if_neg h]
    by_cases h : d.getD i 0 < 0
    · rw [if_pos h] at eL
      rw [eL] at hf ⊢
      cases f with
      | zero => simp at hf
      | succ f =>
        have hf' : (leftOf d (i + 1) r).length ≤ f := by simp at hf; omega
        have hid : i < d.length := by omega
        show daysFrom b r (i + 1) (wn b i d) = (b.days f (leftOf d (i + 1) r) l ++ ((leftOf d (i + 1) r).filter fun k => b.may i k).flatMap fun k => b.days f ((leftOf d (i + 1) r).filter fun x => x != k) ((l.set i k).set k i)).map zs
        unfold wn
        rw [if_pos h, daysFrom_flat, List.flatMap_cons, List.map_append, List.map_flatMap, List.flatMap_map]
        have g1 : ∀ j, ((d.set i (i : Int)).set i (i : Int)).getD j 0 = if i = j then (i : Int) else d.getD j 0 := fun j => by
          rw [getD_setI (by rw [List.length_set]; exact hid), getD_setI hid]
          by_cases e : i = j <;> simp [e]
        have hl : leftOf ((d.set i (i : Int)).set i (i : Int)) (i + 1) r = leftOf d (i + 1) r := by
          unfold leftOf
          refine List.filter_congr fun j hj => ?_
          rw [List.mem_range'_1] at hj
          rw [g1, if_neg (by omega)]
        have p1 : daysFrom b r (i + 1) [(d.set i (i : Int)).set i (i : Int)] = (b.days f (leftOf d (i + 1) r) l).map zs := by
          rw [← hl]
          refine days_eq b r (i + 1) f _ l (by simp; omega) ⟨by simp [R.len], fun j hj => ?_, fun j hj => ?_⟩ (by rw [hl]; exact hf')
          · rw [g1]
            by_cases e : i = j
            · rw [if_pos e]; omega
            · rw [if_neg e]; exact R.done j (by omega)
          · rw [g1]
            have q := R.val j (by simpa using hj)
            by_cases e : i = j
            · subst e
              rw [if_pos h] at q
              rw [if_pos rfl, q, if_neg (by omega)]
              omega
            · rw [if_neg e]; exact q
        have ef : ((List.range' (i + 1) (d.length - (i + 1))).filter fun j => decide (d.getD j 0 < 0) && b.may i j) = (leftOf d (i + 1) r).filter fun k => b.may i k := by
          unfold leftOf
          rw [List.filter_filter]
          have : d.length - (i + 1) = r := by omega
          rw [this]
          exact List.filter_congr fun j _ => Bool.and_comm _ _
        rw [p1, ef]
        refine congrArg _ ?_
        have fm : ∀ (K : List Nat) (F G : Nat → List (List Int)), (∀ k ∈ K, F k = G k) → K.flatMap F = K.flatMap G := by
          intro K F G hFG
          induction K with
          | nil => rfl
          | cons a t ih =>
            rw [List.flatMap_cons, List.flatMap_cons, hFG a List.mem_cons_self, ih fun k hk => hFG k (List.mem_cons_of_mem _ hk)]
        refine fm _ _ _ fun k hk => ?_
        have hk1 := mem_leftOf.mp (List.mem_filter.mp hk).1
        have hkd : k < d.length := by omega
        have g2 : ∀ j, ((d.set i (k : Int)).set k (i : Int)).getD j 0 = if k = j then (i : Int) else if i = j then (k : Int) else d.getD j 0 := fun j => by
          rw [getD_setI (by rw [List.length_set]; exact hkd), getD_setI hid]
        have hl2 : leftOf ((d.set i (k : Int)).set k (i : Int)) (i + 1) r = (leftOf d (i + 1) r).filter fun x => x != k := by
          unfold leftOf
          rw [List.filter_filter]
          refine List.filter_congr fun j hj => ?_
          rw [List.mem_range'_1] at hj
          rw [g2]
          by_cases e : k = j
          · subst e; simp
          · rw [if_neg e, if_neg (by omega)]
            have : (j != k) = true := by simp; omega
            rw [this, Bool.true_and]
        rw [← hl2]
        have il : i < l.length := by rw [R.len]; exact hid
        have kl : k < l.length := by rw [R.len]; exact hkd
        have g3 : ∀ j, ((l.set i k).set k i).getD j 0 = if k = j then i else if i = j then k else l.getD j 0 := fun j => by
          rw [getD_setN (by rw [List.length_set]; exact kl), getD_setN il]
        refine days_eq b r (i + 1) f _ _ (by simp; omega) ⟨by simp [R.len], fun j hj => ?_, fun j hj => ?_⟩ ?_
        · rw [g2]
          split
          · omega
          · split
            · omega
            · exact R.done j (by omega)
        · rw [g2, g3]
          have q := R.val j (by simpa using hj)
          by_cases e : k = j
          · rw [if_pos e, if_pos e, if_neg (by omega)]; omega
          · rw [if_neg e, if_neg e]
            by_cases e2 : i = j
            · rw [if_pos e2, if_pos e2, if_neg (by omega)]; omega
            · rw [if_neg e2, if_neg e2]; exact q
        · rw [hl2]
          exact Nat.le_trans (List.length_filter_le _ _) hf'
    · rw [if_neg h] at eL
      rw [eL] at hf ⊢
      have e1 : wn b i d = [d] := if_neg h
      rw [e1]
      refine days_eq b r (i + 1) f d l (by omega) ⟨R.len, fun j hj => ?_, R.val⟩ hf
      by_cases e : j = i
      · subst e; omega
      · exact R.done j (by omega)
theorem daysM_eq (b : Basho) : daysM b = b.all_.map zs := by
  have g : ∀ j, j < b.count → (List.replicate b.count (-1 : Int)).getD j 0 = -1 := fun j hj => by
    rw [List.getD_eq_getElem?_getD, List.getElem?_replicate, if_pos hj]
    rfl
  have hl : leftOf (List.replicate b.count (-1)) 0 b.count = List.range b.count := by
    unfold leftOf
    rw [List.range_eq_range', List.filter_eq_self]
    intro j hj
    rw [List.mem_range'_1] at hj
    rw [g j (by omega)]
    decide
  unfold daysM Sj09.Basho.all_
  rw [days_eq b b.count 0 b.count _ (List.range b.count) (by simp) ⟨by simp, fun j hj => absurd hj (Nat.not_lt_zero _), fun j hj => ?_⟩ (by rw [hl]; simp), hl]
  rw [List.length_replicate] at hj
  rw [g j hj, if_pos (by decide), List.getD_eq_getElem?_getD, List.getElem?_range hj]
  rfl
/-! ### what the specification's days are -/
structure Sound (n : Nat) (left l : List Nat) : Prop where
  len : l.length = n
  lt : ∀ x ∈ l, x < n
  inv : ∀ i, i < n → l.getD (l.getD i 0) 0 = i
  fix : ∀ j ∈ left, j < n ∧ l.getD j 0 = j
theorem getD_mem' {l : List Nat} {i : Nat} (h : i < l.length) : l.getD i 0 ∈ l := by
  rw [List.getD_eq_getElem?_getD, List.getElem?_eq_getElem h]
  exact List.getElem_mem h
theorem Sound.pair {n : Nat} {i k : Nat} {r l : List Nat} (S : Sound n (i :: r) l) (hi : i ∉ r) (hk : k ∈ r) : Sound n (r.filter fun x => x != k) ((l.set i k).set k i) := by
  have ⟨hin, hii⟩ := S.fix i List.mem_cons_self
  have ⟨hkn, hkk⟩ := S.fix k (List.mem_cons_of_mem _ hk)
  have ne : i ≠ k := fun e => hi (e ▸ hk)
  have g3 : ∀ j, ((l.set i k).set k i).getD j 0 = if k = j then i else if i = j then k else l.getD j 0 := fun j => by
    rw [getD_setN (by rw [List.length_set, S.len]; exact hkn), getD_setN (by rw [S.len]; exact hin)]
  refine ⟨by simp [S.len], fun x hx => ?_, fun j hj => ?_, fun j hj => ?_⟩
  · rcases List.mem_or_eq_of_mem_set hx with hx | hx
    · rcases List.mem_or_eq_of_mem_set hx with hx | hx
      · exact S.lt x hx
      · omega
    · omega
  · rw [g3 j]
    by_cases e : k = j
    · rw [if_pos e, g3, if_neg (Ne.symm ne), if_pos rfl]; exact e
    · rw [if_neg e]
      by_cases e2 : i = j
      · rw [if_pos e2, g3, if_pos rfl]; exact e2
      · rw [if_neg e2, g3]
        have hj2 := S.inv j hj
        rw [if_neg, if_neg]
        · exact hj2
        · intro q
          rw [← q] at hj2
          exact e2 (hii.symm.trans hj2)
        · intro q
          rw [← q] at hj2
          exact e (hkk.symm.trans hj2)
  · have q := List.mem_filter.mp hj
    have ⟨h1, h2⟩ := S.fix j (List.mem_cons_of_mem _ q.1)
    refine ⟨h1, ?_⟩
    have n1 : k ≠ j := fun e => by have := q.2; simp at this; exact this e.symm
    have n2 : i ≠ j := fun e => hi (e ▸ q.1)
    rw [g3, if_neg n1, if_neg n2]; exact h2
theorem days_sound (b : Basho) (n : Nat) : ∀ (f : Nat) (left l : List Nat), left.Nodup → Sound n left l → ∀ x ∈ b.days f left l, Sound n [] x
  | 0, _, l, _, S, x, hx => by
    have e : x = l := List.mem_singleton.mp hx
    subst e; exact ⟨S.len, S.lt, S.inv, fun _ h => absurd h (by simp)⟩
  | f + 1, [], l, _, S, x, hx => by
    have e : x = l := List.mem_singleton.mp hx
    subst e; exact S
  | f + 1, i :: r, l, hd, S, x, hx => by
    have hd' := List.nodup_cons.mp hd
    have hx' : x ∈ b.days f r l ++ (r.filter fun k => b.may i k).flatMap fun k => b.days f (r.filter fun x => x != k) ((l.set i k).set k i) := hx
    rcases List.mem_append.mp hx' with hx | hx
    · exact days_sound b n f r l hd'.2 ⟨S.len, S.lt, S.inv, fun j hj => S.fix j (List.mem_cons_of_mem _ hj)⟩ x hx
    · obtain ⟨k, hk, hx⟩ := List.mem_flatMap.mp hx
      exact days_sound b n f _ _ (List.Nodup.sublist List.filter_sublist hd'.2) (S.pair hd'.1 (List.mem_filter.mp hk).1) x hx
theorem all_sound (b : Basho) : ∀ x ∈ b.all_, Sound b.count [] x := by
  have g : ∀ j, j < b.count → (List.range b.count).getD j 0 = j := fun j hj => by
    rw [List.getD_eq_getElem?_getD, List.getElem?_range hj]; rfl
  exact days_sound b b.count b.count _ _ List.nodup_range ⟨by simp, fun x hx => List.mem_range.mp hx, fun i hi => by rw [g i hi, g i hi], fun j hj => ⟨List.mem_range.mp hj, g j (List.mem_range.mp hj)⟩⟩
/-! ### .. the earliest first -/
theorem not_earlier : ∀ (i : Nat) (x y : List Nat), i < x.length → i < y.length → (∀ j, j < i → x.getD j 0 = y.getD j 0) → x.getD i 0 < y.getD i 0 → Sj09.earlier y x = false
  | _, [], _, h, _, _, _ => absurd h (Nat.not_lt_zero _)
  | _, _ :: _, [], _, h, _, _ => absurd h (Nat.not_lt_zero _)
  | 0, a :: r, c :: s, _, _, _, h => by
    have h' : a < c := h
    show (decide (c < a) || (c == a && Sj09.earlier s r)) = false
    rw [decide_eq_false (by omega), beq_false_of_ne (by omega)]
    rfl
  | i + 1, a :: r, c :: s, h1, h2, h3, h4 => by
    have e : a = c := h3 0 (Nat.succ_pos _)
    have ih := not_earlier i r s (Nat.lt_of_succ_lt_succ h1) (Nat.lt_of_succ_lt_succ h2) (fun j hj => h3 (j + 1) (Nat.succ_lt_succ hj)) h4
    show (decide (c < a) || (c == a && Sj09.earlier s r)) = false
    rw [ih, decide_eq_false (by omega), Bool.and_false]
    rfl
theorem days_frame (b : Basho) : ∀ (f : Nat) (left l : List Nat), (∀ j ∈ left, j < l.length) → ∀ x ∈ b.days f left l, x.length = l.length ∧ ∀ j, j ∉ left → x.getD j 0 = l.getD j 0
  | 0, _, l, _, x, hx => by
    have e : x = l := List.mem_singleton.mp hx
    subst e; exact ⟨rfl, fun _ _ => rfl⟩
  | f + 1, [], l, _, x, hx => by
    have e : x = l := List.mem_singleton.mp hx
    subst e; exact ⟨rfl, fun _ _ => rfl⟩
  | f + 1, i :: r, l, hl, x, hx => by
    have hx' : x ∈ b.days f r l ++ (r.filter fun k => b.may i k).flatMap fun k => b.days f (r.filter fun x => x != k) ((l.set i k).set k i) := hx
    rcases List.mem_append.mp hx' with hx | hx
    · have q := days_frame b f r l (fun j hj => hl j (List.mem_cons_of_mem _ hj)) x hx
      exact ⟨q.1, fun j hj => q.2 j fun z => hj (List.mem_cons_of_mem _ z)⟩
    · obtain ⟨k, hk, hx⟩ := List.mem_flatMap.mp hx
      have hk' := (List.mem_filter.mp hk).1
      have q := days_frame b f _ _ (fun j hj => by rw [List.length_set, List.length_set]; exact hl j (List.mem_cons_of_mem _ (List.mem_filter.mp hj).1)) x hx
      refine ⟨by rw [q.1]; simp, fun j hj => ?_⟩
      rw [q.2 j fun z => hj (List.mem_cons_of_mem _ (List.mem_filter.mp z).1), getD_setN (by rw [List.length_set]; exact hl k (List.mem_cons_of_mem _ hk')), getD_setN (hl i List.mem_cons_self),
        if_neg (fun e => hj (by rw [← e]; exact List.mem_cons_of_mem _ hk')), if_neg (fun e => hj (by rw [← e]; exact List.mem_cons_self))]
theorem days_order (b : Basho) : ∀ (f : Nat) (left l : List Nat), left.Pairwise (· < ·) → (∀ j ∈ left, j < l.length ∧ l.getD j 0 = j) → (b.days f left l).Pairwise fun x y => Sj09.earlier y x = false
  | 0, _, l, _, _ => List.pairwise_singleton _ _
  | f + 1, [], l, _, _ => List.pairwise_singleton _ _
  | f + 1, i :: r, l, hs, hl => by
    have hs' := List.pairwise_cons.mp hs
    have hin : i ∉ r := fun z => absurd (hs'.1 i z) (Nat.lt_irrefl _)
    have ⟨hi, hii⟩ := hl i List.mem_cons_self
    have lt_out : ∀ j, j < i → j ∉ r := fun j hj z => by have := hs'.1 j z; omega
    -- a day of the k-th branch
    have br : ∀ k ∈ r, ∀ y ∈ b.days f (r.filter fun x => x != k) ((l.set i k).set k i), y.length = l.length ∧ y.getD i 0 = k ∧ ∀ j, j < i → y.getD j 0 = l.getD j 0 := by
      intro k hk y hy
      have ⟨hkl, _⟩ := hl k (List.mem_cons_of_mem _ hk)
      have hik := hs'.1 k hk
      have q := days_frame b f _ _ (fun j hj => by rw [List.length_set, List.length_set]; exact (hl j (List.mem_cons_of_mem _ (List.mem_filter.mp hj).1)).1) y hy
      have g : ∀ j, j ∉ r → y.getD j 0 = ((l.set i k).set k i).getD j 0 := fun j hj => q.2 j fun z => hj (List.mem_filter.mp z).1
      refine ⟨by rw [q.1]; simp, ?_, fun j hj => ?_⟩
      · rw [g i hin, getD_setN (by rw [List.length_set]; exact hkl), getD_setN hi, if_neg (by omega), if_pos rfl]
      · rw [g j (lt_out j hj), getD_setN (by rw [List.length_set]; exact hkl), getD_setN hi, if_neg (by omega), if_neg (by omega)]
    show (b.days f r l ++ (r.filter fun k => b.may i k).flatMap fun k => b.days f (r.filter fun x => x != k) ((l.set i k).set k i)).Pairwise _
    rw [List.pairwise_append]
    refine ⟨days_order b f r l hs'.2 fun j hj => hl j (List.mem_cons_of_mem _ hj), ?_, fun x hx y hy => ?_⟩
    · rw [List.pairwise_flatMap]
      refine ⟨fun k hk => ?_, ?_⟩
      · have hk' := (List.mem_filter.mp hk).1
        have ⟨hkl, _⟩ := hl k (List.mem_cons_of_mem _ hk')
        have hik := hs'.1 k hk'
        refine days_order b f _ _ (hs'.2.sublist List.filter_sublist) fun j hj => ?_
        have q := List.mem_filter.mp hj
        have ⟨h1, h2⟩ := hl j (List.mem_cons_of_mem _ q.1)
        have hij := hs'.1 j q.1
        have hne : k ≠ j := fun e => by have := q.2; simp at this; exact this e.symm
        refine ⟨by simpa using h1, ?_⟩
        rw [getD_setN (by rw [List.length_set]; exact hkl), getD_setN hi, if_neg hne, if_neg (by omega), h2]
      · refine List.Pairwise.imp_of_mem ?_ (hs'.2.sublist (List.filter_sublist (p := fun k => b.may i k)))
        intro k k' hk hk' hlt x hx y hy
        have bx := br k (List.mem_filter.mp hk).1 x hx
        have byy := br k' (List.mem_filter.mp hk').1 y hy
        refine not_earlier i x y (by rw [bx.1]; exact hi) (by rw [byy.1]; exact hi) (fun j hj => by rw [bx.2.2 j hj, byy.2.2 j hj]) ?_
        rw [bx.2.1, byy.2.1]; exact hlt
    · obtain ⟨k, hk, hy⟩ := List.mem_flatMap.mp hy
      have hk' := (List.mem_filter.mp hk).1
      have byy := br k hk' y hy
      have q := days_frame b f r l (fun j hj => (hl j (List.mem_cons_of_mem _ hj)).1) x hx
      refine not_earlier i x y (by rw [q.1]; exact hi) (by rw [byy.1]; exact hi) (fun j hj => by rw [q.2 j (lt_out j hj), byy.2.2 j hj]) ?_
      rw [q.2 i hin, hii, byy.2.1]
      exact hs'.1 k hk'
theorem all_order (b : Basho) : b.all_.Pairwise fun x y => Sj09.earlier y x = false := by
  refine days_order b _ _ _ List.pairwise_lt_range fun j hj => ?_
  have h := List.mem_range.mp hj
  exact ⟨by simpa using h, by rw [List.getD_eq_getElem?_getD, List.getElem?_range h]; rfl⟩
theorem days_ne (b : Basho) : ∀ (f : Nat) (left l : List Nat), b.days f left l ≠ []
  | 0, _, l => by simp [Sj09.Basho.days]
  | f + 1, [], l => by simp [Sj09.Basho.days]
  | f + 1, i :: r, l => by
    show b.days f r l ++ _ ≠ []
    have := days_ne b f r l
    simp [this]
theorem all_ne (b : Basho) : b.all_ ≠ [] := days_ne b _ _ _
end Dy

namespace Dy
open Sj13
/-! ### the best of a row of days: once by a fold, once by the most and a filter -/
abbrev K3 := Nat × Nat × Nat
def bt (p q : K3) : Bool := better p.1 p.2.1 p.2.2 q.1 q.2.1 q.2.2
theorem bt_iff {p q : K3} : bt p q = true ↔ q.1 < p.1 ∨ (p.1 = q.1 ∧ (q.2.1 < p.2.1 ∨ (p.2.1 = q.2.1 ∧ p.2.2 < q.2.2))) := by
  unfold bt better
  simp only [Bool.or_eq_true, Bool.and_eq_true, decide_eq_true_eq, beq_iff_eq]
structure Bs where
  key : K3
  many : Nat
  row : List Nat
def bstep (key : List Nat → K3) (r : Option Bs) (l : List Nat) : Option Bs := match r with
  | none => some ⟨key l, 1, l⟩
  | some x => if bt (key l) x.key = true then some ⟨key l, 1, l⟩ else if key l = x.key then some { x with many := x.many + 1, row := if Sj09.earlier l x.row = true then l else x.row } else some x
theorem bstep_fold (key : List Nat → K3) (M : K3) : ∀ (ds : List (List Nat)) (x : Bs), ds.Pairwise (fun x y => Sj09.earlier y x = false) → (∀ l ∈ ds, Sj09.earlier l x.row = false) →
    (∀ l ∈ ds, bt (key l) M = false) → bt x.key M = false → (M = x.key ∨ ∃ l ∈ ds, key l = M) →
    ds.foldl (bstep key) (some x) = some (if M = x.key then ⟨M, x.many + (ds.filter fun l => decide (key l = M)).length, x.row⟩ else ⟨M, (ds.filter fun l => decide (key l = M)).length, (ds.filter fun l => decide (key l = M)).headD []⟩)
  | [], x, _, _, _, _, h => by
    have e : M = x.key := h.resolve_right (by rintro ⟨_, h, _⟩; cases h)
    rw [if_pos e]
    obtain ⟨k, n, r⟩ := x
    have e' : M = k := e
    subst e'
    rfl
  | l :: r, x, hp, hr, hM, hx, h => by
    have hp' := List.pairwise_cons.mp hp
    have hl := hM l List.mem_cons_self
    have he := hr l List.mem_cons_self
    rw [List.foldl_cons]
    by_cases c1 : bt (key l) x.key = true
    · have e1 : bstep key (some x) l = some ⟨key l, 1, l⟩ := if_pos c1
      have ne : M ≠ x.key := fun e => by rw [e, c1] at hl; cases hl
      have ih := bstep_fold key M r ⟨key l, 1, l⟩ hp'.2 (fun q hq => hp'.1 q hq) (fun q hq => hM q (List.mem_cons_of_mem _ hq)) hl (by
        rcases h with h | ⟨q, hq, e⟩
        · exact absurd h ne
        · rcases List.mem_cons.mp hq with e' | hq
          · left; rw [← e, e']
          · exact .inr ⟨q, hq, e⟩)
      rw [e1, ih, if_neg ne, List.filter_cons]
      by_cases e : M = key l
      · have e2 : decide (key l = M) = true := decide_eq_true e.symm
        rw [if_pos e, if_pos e2, List.length_cons, List.headD_cons, Nat.add_comm 1]
      · have e2 : ¬ decide (key l = M) = true := fun z => e (of_decide_eq_true z).symm
        rw [if_neg e, if_neg e2]
    · by_cases c2 : key l = x.key
      · have e1 : bstep key (some x) l = some { x with many := x.many + 1, row := x.row } := by
          show (if bt (key l) x.key = true then _ else if key l = x.key then _ else _) = _
          rw [if_neg c1, if_pos c2, if_neg (by rw [he]; exact Bool.false_ne_true)]
        have ih := bstep_fold key M r { x with many := x.many + 1, row := x.row } hp'.2 (fun q hq => hr q (List.mem_cons_of_mem _ hq)) (fun q hq => hM q (List.mem_cons_of_mem _ hq)) hx (by
          rcases h with h | ⟨q, hq, e⟩
          · exact .inl h
          · rcases List.mem_cons.mp hq with e' | hq
            · left
              show M = x.key
              rw [← e, e', c2]
            · exact .inr ⟨q, hq, e⟩)
        rw [e1, ih, List.filter_cons]
        by_cases e : M = x.key
        · have e2 : decide (key l = M) = true := decide_eq_true (c2.trans e.symm)
          rw [if_pos e, if_pos e, if_pos e2, List.length_cons]
          congr 2
          show x.many + 1 + _ = x.many + (_ + 1)
          omega
        · have e2 : ¬ decide (key l = M) = true := fun z => e ((of_decide_eq_true z).symm.trans c2)
          rw [if_neg e, if_neg e, if_neg e2]
      · have e1 : bstep key (some x) l = some x := by
          show (if bt (key l) x.key = true then _ else if key l = x.key then _ else _) = _
          rw [if_neg c1, if_neg c2]
        have nl : key l ≠ M := fun e => by
          have c1' : ¬ bt (key l) x.key = true := c1
          have hx' : ¬ bt x.key M = true := by rw [hx]; exact Bool.false_ne_true
          rw [← e, bt_iff] at hx'
          rw [bt_iff] at c1'
          refine c2 (Prod.ext ?_ (Prod.ext ?_ ?_)) <;> omega
        have ih := bstep_fold key M r x hp'.2 (fun q hq => hr q (List.mem_cons_of_mem _ hq)) (fun q hq => hM q (List.mem_cons_of_mem _ hq)) hx (by
          rcases h with h | ⟨q, hq, e⟩
          · exact .inl h
          · rcases List.mem_cons.mp hq with e' | hq
            · exact absurd (e' ▸ e) nl
            · exact .inr ⟨q, hq, e⟩)
        rw [e1, ih, List.filter_cons, if_neg (show ¬ decide (key l = M) = true from fun z => nl (of_decide_eq_true z))]
theorem best_fold (key : List Nat → K3) (M : K3) (ds : List (List Nat)) (hp : ds.Pairwise (fun x y => Sj09.earlier y x = false)) (hM : ∀ l ∈ ds, bt (key l) M = false) (h : ∃ l ∈ ds, key l = M) :
    ds.foldl (bstep key) none = some ⟨M, (ds.filter fun l => decide (key l = M)).length, (ds.filter fun l => decide (key l = M)).headD []⟩ := by
  match ds, hp, hM, h with
  | [], _, _, ⟨_, h, _⟩ => cases h
  | l :: r, hp, hM, h =>
    have hp' := List.pairwise_cons.mp hp
    rw [List.foldl_cons]
    show r.foldl (bstep key) (some ⟨key l, 1, l⟩) = _
    rw [bstep_fold key M r ⟨key l, 1, l⟩ hp'.2 (fun q hq => hp'.1 q hq) (fun q hq => hM q (List.mem_cons_of_mem _ hq)) (hM l List.mem_cons_self) (by
      obtain ⟨q, hq, e⟩ := h
      rcases List.mem_cons.mp hq with e' | hq
      · left; rw [← e, e']
      · exact .inr ⟨q, hq, e⟩), List.filter_cons]
    by_cases e : M = key l
    · have e2 : decide (key l = M) = true := decide_eq_true e.symm
      rw [if_pos e, if_pos e2, List.length_cons, List.headD_cons, Nat.add_comm 1]
    · have e2 : ¬ decide (key l = M) = true := fun z => e (of_decide_eq_true z).symm
      rw [if_neg e, if_neg e2]
def okey (b : Basho) (l : List Nat) : K3 := ((alive b l).length, b.bouts l, b.cost l)
def tkey (b : Basho) (l : List Nat) : K3 := (b.bouts l, level b l, b.cost l)
theorem open_eq (b : Basho) : Sj13.open_ b = (b.all_.foldl (bstep (okey b)) none).map fun x => ⟨x.key.1, x.key.2.1, x.key.2.2, x.many, x.row⟩ := by
  have go : ∀ (ds : List (List Nat)) (r : Option Bs), ds.foldl (fun (r : Option Best) l => let n := (alive b l).length
      match r with
      | none => some ⟨n, b.bouts l, b.cost l, 1, l⟩
      | some x => if better n (b.bouts l) (b.cost l) x.alive x.bouts x.cost = true then some ⟨n, b.bouts l, b.cost l, 1, l⟩ else if n = x.alive ∧ b.bouts l = x.bouts ∧ b.cost l = x.cost then some { x with many := x.many + 1, row := if Sj09.earlier l x.row = true then l else x.row } else some x) (r.map fun x => ⟨x.key.1, x.key.2.1, x.key.2.2, x.many, x.row⟩)
      = (ds.foldl (bstep (okey b)) r).map fun x => ⟨x.key.1, x.key.2.1, x.key.2.2, x.many, x.row⟩ := by
    intro ds
    induction ds with
    | nil => intro r; rfl
    | cons l t ih =>
      intro r
      rw [List.foldl_cons, List.foldl_cons, ← ih]
      refine congrArg (fun z => List.foldl _ z t) ?_
      cases r with
      | none => rfl
      | some x =>
        obtain ⟨⟨k1, k2, k3⟩, m, rw'⟩ := x
        show (if better (alive b l).length (b.bouts l) (b.cost l) k1 k2 k3 = true then _ else if (alive b l).length = k1 ∧ b.bouts l = k2 ∧ b.cost l = k3 then _ else _) = Option.map _ (if bt (okey b l) (k1, k2, k3) = true then _ else if okey b l = (k1, k2, k3) then _ else _)
        have e1 : bt (okey b l) (k1, k2, k3) = better (alive b l).length (b.bouts l) (b.cost l) k1 k2 k3 := rfl
        have e2 : (okey b l = (k1, k2, k3)) = ((alive b l).length = k1 ∧ b.bouts l = k2 ∧ b.cost l = k3) := by
          unfold okey
          rw [Prod.mk.injEq, Prod.mk.injEq]
        rw [e1]
        by_cases c : better (alive b l).length (b.bouts l) (b.cost l) k1 k2 k3 = true
        · rw [if_pos c, if_pos c]; rfl
        · rw [if_neg c, if_neg c]
          by_cases d : okey b l = (k1, k2, k3)
          · rw [if_pos d, if_pos (e2 ▸ d)]; rfl
          · rw [if_neg d, if_neg (e2 ▸ d)]; rfl
  exact go b.all_ none
theorem tense_eq (b : Basho) : Sj13.tense b = (b.all_.foldl (bstep (tkey b)) none).map fun x => ⟨x.key.1, x.key.2.1, x.key.2.2, x.many, x.row⟩ := by
  have go : ∀ (ds : List (List Nat)) (r : Option Bs), ds.foldl (fun (r : Option Tense) l => let n := level b l
      match r with
      | none => some ⟨b.bouts l, n, b.cost l, 1, l⟩
      | some x => if better (b.bouts l) n (b.cost l) x.bouts x.level x.cost = true then some ⟨b.bouts l, n, b.cost l, 1, l⟩ else if b.bouts l = x.bouts ∧ n = x.level ∧ b.cost l = x.cost then some { x with many := x.many + 1, row := if Sj09.earlier l x.row = true then l else x.row } else some x) (r.map fun x => ⟨x.key.1, x.key.2.1, x.key.2.2, x.many, x.row⟩)
      = (ds.foldl (bstep (tkey b)) r).map fun x => ⟨x.key.1, x.key.2.1, x.key.2.2, x.many, x.row⟩ := by
    intro ds
    induction ds with
    | nil => intro r; rfl
    | cons l t ih =>
      intro r
      rw [List.foldl_cons, List.foldl_cons, ← ih]
      refine congrArg (fun z => List.foldl _ z t) ?_
      cases r with
      | none => rfl
      | some x =>
        obtain ⟨⟨k1, k2, k3⟩, m, rw'⟩ := x
        show (if better (b.bouts l) (level b l) (b.cost l) k1 k2 k3 = true then _ else if b.bouts l = k1 ∧ level b l = k2 ∧ b.cost l = k3 then _ else _) = Option.map _ (if bt (tkey b l) (k1, k2, k3) = true then _ else if tkey b l = (k1, k2, k3) then _ else _)
        have e1 : bt (tkey b l) (k1, k2, k3) = better (b.bouts l) (level b l) (b.cost l) k1 k2 k3 := rfl
        have e2 : (tkey b l = (k1, k2, k3)) = (b.bouts l = k1 ∧ level b l = k2 ∧ b.cost l = k3) := by
          unfold tkey
          rw [Prod.mk.injEq, Prod.mk.injEq]
        rw [e1]
        by_cases c : better (b.bouts l) (level b l) (b.cost l) k1 k2 k3 = true
        · rw [if_pos c, if_pos c]; rfl
        · rw [if_neg c, if_neg c]
          by_cases d : tkey b l = (k1, k2, k3)
          · rw [if_pos d, if_pos (e2 ▸ d)]; rfl
          · rw [if_neg d, if_neg (e2 ▸ d)]; rfl
  exact go b.all_ none
end Dy

namespace Dy
open Sj13
/-! ### the list of calls, call by call -/
structure Good (b : Basho) (left : Nat) : Prop where
  cnt : b.count ≤ 6
  rk : b.rank ≤ 100
  wn : b.win ≤ 100
  mt : b.met.length + left ≤ 60
theorem good_start : Good Sj13Neutral.start 60 := ⟨by decide, by decide, by decide, by decide⟩
theorem good_step {b : Basho} {k : Nat} (g : Good b (k + 1)) (c : Call) : Good (Sj13.step b c).1 k := by
  have gk : Good b k := ⟨g.cnt, g.rk, g.wn, by have := g.mt; omega⟩
  cases c with
  | begins r w =>
    show Good (Sj09.step b (.begins r w)).1 k
    unfold Sj09.step
    show Good (if Sj09.WEIGHT < r ∨ Sj09.WEIGHT < w then (b, Sj09.ok (-1)) else (⟨r, w, [], []⟩, Sj09.ok 0)).1 k
    by_cases h : Sj09.WEIGHT < r ∨ Sj09.WEIGHT < w
    · rw [if_pos h]; exact gk
    · rw [if_neg h]
      have e : Sj09.WEIGHT = 100 := rfl
      have := g.mt
      exact ⟨Nat.zero_le _, by show r ≤ 100; omega, by show w ≤ 100; omega, by show 0 + k ≤ 60; omega⟩
  | wrestler w =>
    show Good (if COUNT ≤ b.count ∧ 0 ≤ (Sj09.step init (.wrestler w)).2.v then (b, ok (-5)) else of9 (Sj09.step b (.wrestler w))).1 k
    by_cases h : COUNT ≤ b.count ∧ 0 ≤ (Sj09.step init (.wrestler w)).2.v
    · rw [if_pos h]; exact gk
    · rw [if_neg h]
      show Good (if Sj09.STABLES ≤ w.stable ∨ Sj09.WINS < w.wins then (b, Sj09.ok (-1)) else if Sj09.COUNT ≤ b.count then (b, Sj09.ok (-5)) else ({ b with wrestlers := b.wrestlers ++ [w] }, Sj09.ok ((b.count : Nat) : Int))).1 k
      by_cases h1 : Sj09.STABLES ≤ w.stable ∨ Sj09.WINS < w.wins
      · rw [if_pos h1]; exact gk
      · rw [if_neg h1]
        by_cases h2 : Sj09.COUNT ≤ b.count
        · rw [if_pos h2]; exact gk
        · rw [if_neg h2]
          have h3 : ¬ COUNT ≤ b.count := fun q => h ⟨q, by
            show (0 : Int) ≤ (if Sj09.STABLES ≤ w.stable ∨ Sj09.WINS < w.wins then (init, Sj09.ok (-1)) else if Sj09.COUNT ≤ init.count then (init, Sj09.ok (-5)) else ({ init with wrestlers := init.wrestlers ++ [w] }, Sj09.ok ((init.count : Nat) : Int))).2.v
            rw [if_neg h1, if_neg (by decide)]
            exact Int.natCast_nonneg _⟩
          have e : COUNT = 6 := rfl
          refine ⟨?_, g.rk, g.wn, gk.mt⟩
          show (b.wrestlers ++ [w]).length ≤ 6
          have : b.wrestlers.length = b.count := rfl
          simp only [List.length_append, List.length_singleton]
          omega
  | met i j =>
    show Good (if b.count ≤ i ∨ b.count ≤ j then (b, Sj09.ok (-2)) else if b.may i j = false then (b, Sj09.ok (-4)) else ({ b with met := b.met ++ [(i, j)] }, Sj09.ok ((b.met.length : Nat) + 1))).1 k
    by_cases h1 : b.count ≤ i ∨ b.count ≤ j
    · rw [if_pos h1]; exact gk
    · rw [if_neg h1]
      by_cases h2 : b.may i j = false
      · rw [if_pos h2]; exact gk
      · rw [if_neg h2]
        refine ⟨g.cnt, g.rk, g.wn, ?_⟩
        show (b.met ++ [(i, j)]).length + k ≤ 60
        have := g.mt
        simp only [List.length_append, List.length_singleton]
        omega
  | check l =>
    show Good (if (Sj09.step b (.check l)).2.v < 0 then of9 (Sj09.step b (.check l)) else (b, _)).1 k
    by_cases h : (Sj09.step b (.check l)).2.v < 0
    · rw [if_pos h]
      show Good (if b.told l = false then (b, Sj09.ok (-1)) else (b, _)).1 k
      by_cases h1 : b.told l = false
      · rw [if_pos h1]; exact gk
      · rw [if_neg h1]; exact gk
    · rw [if_neg h]; exact gk
  | open_ => exact gk
  | tense => exact gk
/-- what a call is in the flat list, and what's behind it -/
inductive Turn : List Int → List (List Int) → List Int → Prop where
  | two {p x y : Int} {t : List Int} (h : p = 0 ∨ p = 1 ∨ p = 2) : Turn (p :: x :: y :: t) [[p, x, y]] t
  | row {m : Int} {r : List Int} (h : 0 ≤ m) (hl : m.toNat ≤ r.length) : Turn (3 :: m :: r) [[3], r.take m.toNat] (r.drop m.toNat)
  | bare {p : Int} {t : List Int} (h : p = 4 ∨ p = 5) : Turn (p :: t) [[p]] t
theorem call_turn {l : List Int} {c : List (List Int)} {t : List Int} (h : PyFlat.call PySj13.shape l = some (c, t)) : Turn l c t := by
  match l, h with
  | p :: r, h =>
    replace h : (match PySj13.shape p with
      | none => none
      | some (n, k) => if r.length < n then none else match PyFlat.rows k (r.drop n) with
        | none => none
        | some (xs, t) => some ((p :: r.take n) :: xs, t)) = some (c, t) := h
    have two : (p = 0 ∨ p = 1 ∨ p = 2) → PySj13.shape p = some (2, 0) := by
      rintro (rfl | rfl | rfl) <;> rfl
    have none' : PySj13.shape p ≠ none := by
      intro e
      rw [e] at h
      cases h
    have cases6 : p = 0 ∨ p = 1 ∨ p = 2 ∨ p = 3 ∨ p = 4 ∨ p = 5 := by
      unfold PySj13.shape at none'
      by_cases h0 : p = 0
      · exact .inl h0
      · by_cases h1 : p = 1
        · exact .inr (.inl h1)
        · by_cases h2 : p = 2
          · exact .inr (.inr (.inl h2))
          · by_cases h3 : p = 3
            · exact .inr (.inr (.inr (.inl h3)))
            · by_cases h4 : p = 4
              · exact .inr (.inr (.inr (.inr (.inl h4))))
              · by_cases h5 : p = 5
                · exact .inr (.inr (.inr (.inr (.inr h5))))
                · rw [if_neg h0, if_neg h1, if_neg h2, if_neg h3, if_neg h4, if_neg h5] at none'
                  exact absurd rfl none'
    by_cases h2 : p = 0 ∨ p = 1 ∨ p = 2
    · rw [two h2] at h
      match r, h with
      | [], h => simp at h
      | [x], h => simp at h
      | x :: y :: s, h =>
        have h' : (if (x :: y :: s).length < 2 then none else some (([p, x, y]) :: [], s)) = some (c, t) := h
        rw [if_neg (by simp)] at h'
        have e := Option.some.inj h'
        rw [Prod.mk.injEq] at e
        rw [← e.1, ← e.2]
        exact .two h2
    · by_cases h3 : p = 3
      · subst h3
        match r, h with
        | [], h => cases h
        | m :: s, h =>
          have h' : (match (match (if 0 ≤ m ∧ m.toNat ≤ s.length then some (s.take m.toNat, s.drop m.toNat) else none : Option (List Int × List Int)) with
              | none => none
              | some (x, s) => some ([x], s)) with
            | none => none
            | some (xs, t) => some (([3] : List Int) :: xs, t)) = some (c, t) := h
          by_cases q : 0 ≤ m ∧ m.toNat ≤ s.length
          · rw [if_pos q] at h'
            have e := Option.some.inj h'
            rw [Prod.mk.injEq] at e
            rw [← e.1, ← e.2]
            exact .row q.1 q.2
          · rw [if_neg q] at h'
            cases h'
      · have h45 : p = 4 ∨ p = 5 := by omega
        have e0 : PySj13.shape p = some (0, 0) := by
          rcases h45 with rfl | rfl <;> rfl
        rw [e0] at h
        have h' : (if r.length < 0 then none else some (([p] : List Int) :: [], r)) = some (c, t) := h
        rw [if_neg (Nat.not_lt_zero _)] at h'
        have e := Option.some.inj h'
        rw [Prod.mk.injEq] at e
        rw [← e.1, ← e.2]
        exact .bare h45
theorem calls_cons {f : Nat} {p : Int} {r : List Int} {cs : List (List (List Int))} (h : PyFlat.calls PySj13.shape f (p :: r) = some cs) :
    ∃ f' c t cs', PyFlat.calls PySj13.shape f' t = some cs' ∧ cs = c :: cs' ∧ Turn (p :: r) c t := by
  match f, h with
  | 0, h => cases h
  | f + 1, h =>
    have h' : (match PyFlat.call PySj13.shape (p :: r) with
      | none => none
      | some (c, t) => match PyFlat.calls PySj13.shape f t with
        | none => none
        | some cs => some (c :: cs)) = some cs := h
    cases e : PyFlat.call PySj13.shape (p :: r) with
    | none => rw [e] at h'; cases h'
    | some ct =>
      obtain ⟨c, t⟩ := ct
      rw [e] at h'
      have h2 : (match PyFlat.calls PySj13.shape f t with
        | none => none
        | some cs => some (c :: cs)) = some cs := h'
      cases e2 : PyFlat.calls PySj13.shape f t with
      | none => rw [e2] at h2; cases h2
      | some cs' =>
        rw [e2] at h2
        exact ⟨f, c, t, cs', e2, (Option.some.inj h2).symm, call_turn e⟩
/-- where the loop stands: what's left of the list, the tournament, what's been answered -/
structure Run (all rest : List Int) (b : Basho) (out : List Int) : Prop where
  more : ∃ f cs, PyFlat.calls PySj13.shape f rest = some cs ∧ (∀ c ∈ cs, Sj13Neutral.asked1 (PySj13.whole c) = true) ∧ out ++ PyFlat.told (PyFlat.played Sj13Neutral.step b (cs.map PySj13.whole)) = PySj13.answers all ∧ Good b cs.length
  len : (PySj13.answers all).length ≤ 10000000
theorem Run.fits {all rest : List Int} {b : Basho} {out : List Int} (R : Run all rest b out) : out.length ≤ 10000000 := by
  obtain ⟨f, cs, _, _, e, _⟩ := R.more
  have := R.len
  rw [← e, List.length_append] at this
  omega
theorem Run.done {all : List Int} {b : Basho} {out : List Int} (R : Run all [] b out) : out = PySj13.answers all := by
  obtain ⟨f, cs, h, _, e, _⟩ := R.more
  have : cs = [] := by
    cases f <;> exact (Option.some.inj h).symm
  subst this
  rw [← e]
  simp [PyFlat.played, PyFlat.told]
theorem Run.start {all : List Int} (h : PySj13.answers_asked all = true) : Run all all Sj13Neutral.start [] := by
  unfold PySj13.answers_asked at h
  cases e : PyFlat.calls PySj13.shape all.length all with
  | none => rw [e] at h; cases h
  | some raw =>
    rw [e] at h
    have h' : (!raw.isEmpty && PyFlat.atMost 60 raw && PyInside.calls PySj13.bound raw && Sj13Neutral.asked (raw.map PySj13.whole) && PyFlat.short 10000000 (PySj13.answers all)) = true := h
    rw [Bool.and_eq_true, Bool.and_eq_true, Bool.and_eq_true, Bool.and_eq_true] at h'
    obtain ⟨⟨⟨⟨_, h2⟩, _⟩, h4⟩, h5⟩ := h'
    have e5 : (PySj13.answers all).length ≤ 10000000 := of_decide_eq_true h5
    have e2 : raw.length ≤ 60 := of_decide_eq_true h2
    have a1 : (raw.map PySj13.whole).all Sj13Neutral.asked1 = true := by
      unfold Sj13Neutral.asked at h4
      rw [Bool.and_eq_true] at h4
      exact h4.1
    refine ⟨⟨all.length, raw, e, fun c hc => List.all_eq_true.mp a1 _ (List.mem_map_of_mem hc), ?_, ?_⟩, e5⟩
    · unfold PySj13.answers PySj13.calls
      rw [e]
      rfl
    · have g := good_start
      exact ⟨g.cnt, g.rk, g.wn, by have : Sj13Neutral.start.met.length = 0 := rfl; omega⟩
/-- the answer to a call: the number, then what's told -/
def ansOf (x : Basho × Ans) : List Int := x.2.v :: x.2.l
theorem asked1_whole {c : List (List Int)} (h : Sj13Neutral.asked1 c = true) : (∀ z ∈ c.headD [], 0 ≤ z) ∧ (Sj13Neutral.callOf (c.headD [])).isSome = true := by
  unfold Sj13Neutral.asked1 at h
  rw [Bool.and_eq_true, Bool.and_eq_true] at h
  refine ⟨fun z hz => ?_, h.2.2⟩
  have q := List.all_eq_true.mp h.2.1 z hz
  unfold Sj13Neutral.natural at q
  rw [Bool.and_eq_true] at q
  exact of_decide_eq_true q.1
/-- one call more -/
theorem Run.turn {all rest : List Int} {b : Basho} {out : List Int} (R : Run all rest b out) (hne : rest ≠ []) :
    (∃ (x y : Nat) (t : List Int), rest = 0 :: (x : Int) :: (y : Int) :: t ∧ Run all t (Sj13.step b (.begins x y)).1 (out ++ ((ansOf (Sj13.step b (.begins x y))).length : Int) :: ansOf (Sj13.step b (.begins x y))))
    ∨ (∃ (x y : Nat) (t : List Int), rest = 1 :: (x : Int) :: (y : Int) :: t ∧ Run all t (Sj13.step b (.wrestler ⟨x, y⟩)).1 (out ++ ((ansOf (Sj13.step b (.wrestler ⟨x, y⟩))).length : Int) :: ansOf (Sj13.step b (.wrestler ⟨x, y⟩))))
    ∨ (∃ (x y : Nat) (t : List Int), rest = 2 :: (x : Int) :: (y : Int) :: t ∧ Run all t (Sj13.step b (.met x y)).1 (out ++ ((ansOf (Sj13.step b (.met x y))).length : Int) :: ansOf (Sj13.step b (.met x y))))
    ∨ (∃ (l : List Nat) (t : List Int), rest = 3 :: (l.length : Int) :: ((l.map fun (n : Nat) => (n : Int)) ++ t) ∧ l.length ≤ 8 ∧ Run all t (Sj13.step b (.check l)).1 (out ++ ((ansOf (Sj13.step b (.check l))).length : Int) :: ansOf (Sj13.step b (.check l))))
    ∨ (∃ (t : List Int), rest = 4 :: t ∧ Run all t (Sj13.step b .open_).1 (out ++ ((ansOf (Sj13.step b .open_)).length : Int) :: ansOf (Sj13.step b .open_)))
    ∨ (∃ (t : List Int), rest = 5 :: t ∧ Run all t (Sj13.step b .tense).1 (out ++ ((ansOf (Sj13.step b .tense)).length : Int) :: ansOf (Sj13.step b .tense))) := by
  obtain ⟨f, cs, h, ask, e, g⟩ := R.more
  match rest, hne, h with
  | p :: r, _, h =>
    obtain ⟨f', c, t, cs', h', rfl, T⟩ := calls_cons h
    have key : ∀ q : Call, Sj13Neutral.callOf ((PySj13.whole c).headD []) = some q → Run all t (Sj13.step b q).1 (out ++ ((ansOf (Sj13.step b q)).length : Int) :: ansOf (Sj13.step b q)) := by
      intro q hq
      have hs : Sj13Neutral.step b (PySj13.whole c) = ((Sj13.step b q).1, ansOf (Sj13.step b q)) := by
        unfold Sj13Neutral.step
        rw [hq]
        rfl
      refine ⟨⟨f', cs', h', fun c hc => ask c (List.mem_cons_of_mem _ hc), ?_, good_step g q⟩, R.len⟩
      rw [← e, List.map_cons]
      show _ = out ++ PyFlat.told ((Sj13Neutral.step b (PySj13.whole c)).2 :: PyFlat.played Sj13Neutral.step (Sj13Neutral.step b (PySj13.whole c)).1 (cs'.map PySj13.whole))
      rw [hs]
      show _ = out ++ ((((ansOf (Sj13.step b q)).length : Int) :: ansOf (Sj13.step b q)) ++ PyFlat.told _)
      rw [List.append_assoc]
    have ak := asked1_whole (ask c List.mem_cons_self)
    generalize hl : p :: r = L at T
    cases T with
    | @two p' x y _ hp =>
      obtain ⟨rfl, rfl⟩ := List.cons.inj hl
      have e2 : ∀ z ∈ [p, x, y], 0 ≤ z := by
        rcases hp with rfl | rfl | rfl <;> exact ak.1
      obtain ⟨X, rfl⟩ := Int.eq_ofNat_of_zero_le (e2 x (by simp))
      obtain ⟨Y, rfl⟩ := Int.eq_ofNat_of_zero_le (e2 y (by simp))
      rcases hp with rfl | rfl | rfl
      · exact .inl ⟨X, Y, t, rfl, key _ rfl⟩
      · exact .inr (.inl ⟨X, Y, t, rfl, key _ rfl⟩)
      · exact .inr (.inr (.inl ⟨X, Y, t, rfl, key _ rfl⟩))
    | @row m s hm hlen =>
      obtain ⟨rfl, rfl⟩ := List.cons.inj hl
      refine .inr (.inr (.inr (.inl ?_)))
      obtain ⟨N, rfl⟩ := Int.eq_ofNat_of_zero_le hm
      have hlen' : N ≤ s.length := hlen
      have a1 : ∀ z ∈ (3 :: s.take N : List Int), 0 ≤ z := ak.1
      have nat : ∃ l : List Nat, s.take N = l.map fun (n : Nat) => (n : Int) := by
        refine ⟨(s.take N).map Int.toNat, ?_⟩
        rw [List.map_map]
        have : ∀ z ∈ s.take N, ((fun (n : Nat) => (n : Int)) ∘ Int.toNat) z = z := fun z hz => Int.toNat_of_nonneg (a1 z (List.mem_cons_of_mem _ hz))
        rw [List.map_congr_left this, List.map_id']
      obtain ⟨l, el⟩ := nat
      have ll : l.length = N := by
        have := congrArg List.length el
        rw [List.length_map, List.length_take] at this
        omega
      have a2 : (Sj13Neutral.callOf (3 :: s.take N)).isSome = true := ak.2
      have a3 : Sj13Neutral.callOf (3 :: s.take N) = if l.length ≤ 8 then some (.check l) else none := by
        rw [el]
        have : (l.map fun (n : Nat) => (n : Int)).map Int.toNat = l := by
          rw [List.map_map]
          have : ∀ z ∈ l, (Int.toNat ∘ fun (n : Nat) => (n : Int)) z = z := fun z _ => rfl
          rw [List.map_congr_left this, List.map_id']
        show (match (3 : Nat) :: (l.map fun (n : Nat) => (n : Int)).map Int.toNat with
          | [0, r, w] => some (Call.begins r w)
          | [1, s, w] => some (.wrestler ⟨s, w⟩)
          | [2, i, k] => some (.met i k)
          | 3 :: r => if r.length ≤ 8 then some (.check r) else none
          | [4] => some .open_
          | [5] => some .tense
          | _ => none) = _
        rw [this]
        clear this a2 el ll
        rcases l with _ | ⟨_, _ | ⟨_, _ | ⟨_, _⟩⟩⟩ <;> rfl
      have l8 : l.length ≤ 8 := by
        by_cases q : l.length ≤ 8
        · exact q
        · rw [a3, if_neg q] at a2; cases a2
      rw [if_pos l8] at a3
      refine ⟨l, _, ?_, l8, key _ a3⟩
      rw [ll, ← el]
      show _ = 3 :: (N : Int) :: (s.take N ++ s.drop N)
      rw [List.take_append_drop]
    | @bare p' _ hp =>
      obtain ⟨rfl, rfl⟩ := List.cons.inj hl
      rcases hp with rfl | rfl
      · exact .inr (.inr (.inr (.inr (.inl ⟨_, rfl, key _ rfl⟩))))
      · exact .inr (.inr (.inr (.inr (.inr ⟨_, rfl, key _ rfl⟩))))
end Dy

namespace Dy
open PySem PySem.Spec PyProof.Rows L2
abbrev B := Sj13.Basho
/-! ### the text -/
def top (i : Nat) : Stmt := PySem.Challenge.pw_lastday_s01_answers.main.body.getD i (.Pass ⟨0, 0, 0, 0⟩)
abbrev sTInit : Stmt := inClass (top 1) 0
abbrev sMay : Stmt := inClass (top 1) 1
abbrev sApart : Stmt := inClass (top 1) 2
abbrev sDays : Stmt := inClass (top 1) 3
abbrev sNext : Stmt := inClass (top 1) 4
abbrev sPaired : Stmt := top 2
abbrev sBouts : Stmt := top 3
abbrev sPInit : Stmt := inClass (top 4) 0
abbrev sBest : Stmt := inClass (top 4) 1
abbrev sChance : Stmt := inClass (top 4) 2
abbrev sOpenness : Stmt := inClass (top 4) 3
abbrev sTension : Stmt := inClass (top 4) 4
abbrev sWrestler : Stmt := top 11
abbrev sMet : Stmt := top 12
abbrev sCheck : Stmt := top 13
abbrev sOpen : Stmt := top 14
abbrev sTense : Stmt := top 15
abbrev sAns : Stmt := top 16
/-- the module's names that nobody has bound: the built-ins -/
structure Glo (mg : Str → Option Value) : Prop where
  len : mg "len" = none
  range : mg "range" = none
  list : mg "list" = none
  enumerate : mg "enumerate" = none
  abs : mg "abs" = none
  sum : mg "sum" = none
  sorted : mg "sorted" = none
  max : mg "max" = none
  all : mg "all" = none
structure TxT (K : PySem.W.Frag) (C : Addr) : Prop where
  cl : Cls K C
  nR : NoAttr K C "rank"
  nW : NoAttr K C "wins"
  nB : NoAttr K C "wrestlers"
  nM : NoAttr K C "met"
structure TxP (K : PySem.W.Frag) (C : Addr) : Prop where
  cl : Cls K C
  nD : NoAttr K C "day"
  nB : NoAttr K C "bouts"
  nO : NoAttr K C "off"
  nU : NoAttr K C "outcomes"
  nP : NoAttr K C "play_offs"
  nA : NoAttr K C "able"
/-! ### attributes -/
theorem lk_here {k : Str} {v : V} {r : List (Str × V)} : List.lookup k ((k, v) :: r) = some v := by
  have e : (k == k) = true := beq_self_eq_true k
  simp only [List.lookup, e]
theorem lk_past {k g : Str} {v : V} {r : List (Str × V)} (h : (k == g) = false) : List.lookup k ((g, v) :: r) = List.lookup k r := by
  simp only [List.lookup, h]
theorem put_here {f : Str} {v x : V} {r : List (Str × V)} : putF f v ((f, x) :: r) = (f, v) :: r := if_pos rfl
theorem put_past {f g : Str} {v x : V} {r : List (Str × V)} (h : ¬ g = f) : putF f v ((g, x) :: r) = (g, x) :: putF f v r := if_neg h
def tF (b : B) (aw am : Addr) : List (Str × V) := [("rank", .int (b.rank : Int)), ("wins", .int (b.win : Int)), ("wrestlers", .ref aw), ("met", .ref am)]
theorem tF_rank {b : B} {aw am : Addr} : (tF b aw am).lookup ("rank" : Str) = some (.int (b.rank : Int)) := by unfold tF; (repeat (refine (lk_past (by decide +kernel)).trans ?_)); exact lk_here
theorem tF_wins {b : B} {aw am : Addr} : (tF b aw am).lookup ("wins" : Str) = some (.int (b.win : Int)) := by unfold tF; (repeat (refine (lk_past (by decide +kernel)).trans ?_)); exact lk_here
theorem tF_wr {b : B} {aw am : Addr} : (tF b aw am).lookup ("wrestlers" : Str) = some (.ref aw) := by unfold tF; (repeat (refine (lk_past (by decide +kernel)).trans ?_)); exact lk_here
theorem tF_met {b : B} {aw am : Addr} : (tF b aw am).lookup ("met" : Str) = some (.ref am) := by unfold tF; (repeat (refine (lk_past (by decide +kernel)).trans ?_)); exact lk_here
theorem tF_no {b : B} {aw am : Addr} {m : Str} (h : ((m == ("rank" : Str)) || (m == ("wins" : Str)) || (m == ("wrestlers" : Str)) || (m == ("met" : Str))) = false) : (tF b aw am).lookup m = none := by
  simp only [Bool.or_eq_false_iff] at h
  unfold tF
  exact (lk_past h.1.1.1).trans ((lk_past h.1.1.2).trans ((lk_past h.1.2).trans ((lk_past h.2).trans rfl)))
/-! ### rows: a list of objects, each by its row -/
theorem Paired.get {α β : Type} {F : α → β → Prop} : ∀ {l : List α} {m : List β} {i : Nat} {y : β}, Paired F l m → m[i]? = some y → ∃ x, l[i]? = some x ∧ F x y
  | _, _, _, _, .nil, h => by simp at h
  | _, _, 0, _, .cons r _, h => ⟨_, rfl, by cases h; exact r⟩
  | _, _, i + 1, _, .cons _ t, h => by
    obtain ⟨x, h1, h2⟩ := Paired.get (i := i) t (by simpa using h)
    exact ⟨x, by simpa using h1, h2⟩
theorem Paired.getL {α β : Type} {F : α → β → Prop} : ∀ {l : List α} {m : List β} {i : Nat} {x : α}, Paired F l m → l[i]? = some x → ∃ y, m[i]? = some y ∧ F x y
  | _, _, _, _, .nil, h => by simp at h
  | _, _, 0, _, .cons r _, h => ⟨_, rfl, by cases h; exact r⟩
  | _, _, i + 1, _, .cons _ t, h => by
    obtain ⟨x, h1, h2⟩ := Paired.getL (i := i) t (by simpa using h)
    exact ⟨x, by simpa using h1, h2⟩
theorem Paired.append {α β : Type} {F : α → β → Prop} : ∀ {l l' : List α} {m m' : List β}, Paired F l m → Paired F l' m' → Paired F (l ++ l') (m ++ m')
  | _, _, _, _, .nil, h => h
  | _, _, _, _, .cons r t, h => .cons r (Paired.append t h)
theorem Paired.imp {α β : Type} {F G : α → β → Prop} : ∀ {l : List α} {m : List β}, Paired F l m → (∀ x y, x ∈ l → F x y → G x y) → Paired G l m
  | _, _, .nil, _ => .nil
  | _, _, .cons r t, h => .cons (h _ _ List.mem_cons_self r) (Paired.imp t fun x y hx => h x y (List.mem_cons_of_mem _ hx))
def iV (r : List Int) : List V := r.map V.int
/-- the objects ps hold the rows, each as f tells -/
abbrev Rws (f : List V → HO) (H : Hp) : List Addr → List (List Int) → Prop := Paired fun p r => H p = some (f (iV r))
/-- a list at a of such objects -/
def RowsAt (f : List V → HO) (H : Hp) (a : Addr) (rows : List (List Int)) : Prop := ∃ ps : List Addr, H a = some (.lst (ps.map V.ref)) ∧ Rws f H ps rows
theorem Rws.same {f : List V → HO} {H H' : Hp} {ps : List Addr} {rows : List (List Int)} (r : Rws f H ps rows) (s : Same H H') : Rws f H' ps rows := Paired.imp r fun _ _ _ h => s _ _ h
theorem RowsAt.same {f : List V → HO} {H H' : Hp} {a : Addr} {rows : List (List Int)} (r : RowsAt f H a rows) (s : Same H H') : RowsAt f H' a rows := by
  obtain ⟨ps, h1, h2⟩ := r
  exact ⟨ps, s _ _ h1, h2.same s⟩
theorem Same.new {H : Hp} {p : Addr} {o : HO} (h : H p = none) : Same H (upd H p o) := fun b u e => by
  rw [upd_ne (ne_of_none e h)]
  exact e
/-! ### the tournament -/
def wRows (b : B) : List (List Int) := b.wrestlers.map fun w => [(w.stable : Int), (w.wins : Int)]
def mRows (b : B) : List (List Int) := b.met.map fun q => [(q.1 : Int), (q.2 : Int)]
structure TAt (C : Addr) (H : Hp) (a aw am : Addr) (b : B) : Prop where
  ins : ∃ dx, H a = some (.ins C dx (tF b aw am))
  wr : RowsAt .tup H aw (wRows b)
  mt : RowsAt .tup H am (mRows b)
theorem TAt.same {C : Addr} {H H' : Hp} {a aw am : Addr} {b : B} (t : TAt C H a aw am b) (s : Same H H') : TAt C H' a aw am b := by
  obtain ⟨⟨dx, h⟩, h2, h3⟩ := t
  exact ⟨⟨dx, s _ _ h⟩, h2.same s, h3.same s⟩
theorem wRows_get {b : B} {i : Nat} (h : i < b.count) : (wRows b)[i]? = some [((b.of_ i).stable : Int), ((b.of_ i).wins : Int)] := by
  have h' : i < b.wrestlers.length := h
  unfold wRows Sj09.Basho.of_
  rw [List.getElem?_map, List.getD_eq_getElem?_getD, List.getElem?_eq_getElem h']
  rfl
theorem wRows_len (b : B) : (wRows b).length = b.count := List.length_map ..
/-- a wrestler's tuple -/
theorem TAt.at {C : Addr} {H : Hp} {a aw am : Addr} {b : B} (t : TAt C H a aw am b) {i : Nat} (h : i < b.count) :
    ∃ (ps : List Addr) (p : Addr), H aw = some (.lst (ps.map V.ref)) ∧ atI (ps.map V.ref) (i : Int) = some (V.ref p) ∧ H p = some (.tup [V.int ((b.of_ i).stable : Int), V.int ((b.of_ i).wins : Int)]) := by
  obtain ⟨ps, h1, h2⟩ := t.wr
  obtain ⟨p, hp, hr⟩ := Paired.get h2 (wRows_get h)
  exact ⟨ps, p, h1, atI_nat (by rw [List.getElem?_map, hp]; rfl), hr⟩
theorem TAt.len {C : Addr} {H : Hp} {a aw am : Addr} {b : B} (t : TAt C H a aw am b) : ∃ ps : List Addr, H aw = some (.lst (ps.map V.ref)) ∧ (ps.map V.ref).length = b.count := by
  obtain ⟨ps, h1, h2⟩ := t.wr
  exact ⟨ps, h1, by rw [List.length_map, h2.length, wRows_len]⟩
theorem ixN_nat {n i : Nat} (h : i < n) : ixN n (i : Int) = some i := by
  unfold ixN
  rw [if_pos (by omega), if_pos (by omega)]
  simp
theorem iV_get {r : List Int} {i : Nat} (h : i < r.length) : atI (iV r) (i : Int) = some (V.int (r.getD i 0)) := by
  refine atI_nat ?_
  unfold iV
  rw [List.getElem?_map, List.getD_eq_getElem?_getD, List.getElem?_eq_getElem h]
  rfl
theorem iV_set (r : List Int) (i : Nat) (x : Int) : (iV r).set i (V.int x) = iV (r.set i x) := by
  unfold iV
  rw [List.map_set]
theorem iV_len (r : List Int) : (iV r).length = r.length := List.length_map ..
theorem iV_app (r : List Int) (x : Int) : iV r ++ [V.int x] = iV (r ++ [x]) := by unfold iV; simp
end Dy

namespace Dy
open PySem PySem.Spec PyProof.Rows L2
section
variable {P : Program} {w : World} {K : PySem.W.Frag} {mg : Str → Option Value} {base : Heap}
/-! ### paired(day, i, j) -/
def spPaired (K : PySem.W.Frag) : Sp := fun vs H Q _ => ∃ (a : Addr) (d : List Int) (i j : Nat), vs = [.ref a, .int i, .int j] ∧ SqL K H a (iV d) ∧ i < d.length ∧ j < d.length ∧
  ∀ H' p, Same H H' → H p = none → H' p = some (.lst (iV ((d.set i (j : Int)).set j (i : Int)))) → Q (.ref p) H'
theorem scPaired : FnScope ["day", "i", "j", "out"] ["day", "i", "j"] (defScope sPaired) := ⟨rfl, rfl, rfl, by decide +kernel, rfl, by decide +kernel, by decide +kernel⟩
theorem okPaired {f : Addr} {fd : FuncData} (F : Fun K "paired" "paired" sPaired f fd) (G : Glo mg) : FnOk P w K mg base CX0 1 f fd ["day", "i", "j"] (spPaired K) := by
  refine F.ok scPaired (fun vs H Q E h => ?_) (fun cdv A outer s H vs Q E hr h => ⟨_, pss_cons (ps_set (i := 3) scPaired.nd rfl (Or.inl rfl) (pe_callTy call_list_of (by rfl) G.list (by decide +kernel) (pa_cons (pv 0) pa_nil)))
    (pss_cons (ps_asg (pv 2) (pg_sub (pv 3) (pv 1) set_list))
    (pss_cons (ps_asg (pv 1) (pg_sub (pv 3) (pv 2) set_list))
    (pss_one (ps_ret (pv 3))))), ?_⟩)
  · obtain ⟨a, d, i, j, rfl, _⟩ := h
    rfl
  · obtain ⟨a, d, i, j, rfl, hS, hi, hj, k⟩ := h
    refine ⟨_, rfl, a, _, rfl, .inl hS, fun p np => ?_⟩
    refine ⟨_, rfl, _, rfl, _, rfl, p, _, _, i, rfl, rfl, upd_same, ixN_nat (by rw [iV_len]; exact hi), ?_⟩
    refine ⟨_, rfl, _, rfl, _, rfl, p, _, _, j, rfl, rfl, upd_same, ixN_nat (by rw [List.length_set, iV_len]; exact hj), ?_⟩
    refine ⟨_, rfl, ?_⟩
    refine k _ p ?_ np (by rw [upd_same, iV_set, iV_set])
    rw [upd_upd, upd_upd]
    exact Same.new np
/-! ### may_meet(self, i, j) -/
def spMay (C : Addr) : Sp := fun vs H Q _ => ∃ (a aw am : Addr) (b : B) (i j : Nat), vs = [.ref a, .int i, .int j] ∧ TAt C H a aw am b ∧ i < b.count ∧ j < b.count ∧ b.met.length ≤ 60 ∧
  ∀ H', Same H H' → Q (.bl (b.may i j)) H'
/-! a tuple of whole numbers, as data -/
def tI (r : List Int) : PyData := .tuple (r.map PyData.int)
theorem ints_data (r : List Int) : PyData.canLayAll0 (r.map PyData.int) = true ∧ PyData.depthAll (r.map PyData.int) = 0 := by
  induction r with
  | nil => exact ⟨by simp [PyData.canLayAll0], by simp [PyData.depthAll]⟩
  | cons x t ih =>
    constructor
    · simp [PyData.canLayAll0, PyData.canLay0, ih.1]
    · simp [PyData.depthAll, PyData.depth, ih.2]
theorem tI_data (r : List Int) : (tI r).canLay0 = true ∧ (tI r).depth = 1 := by
  unfold tI
  exact ⟨by simp [PyData.canLay0, (ints_data r).1], by simp [PyData.depth, (ints_data r).2]⟩
theorem tIs_data (L : List (List Int)) : PyData.canLayAll0 (L.map tI) = true ∧ PyData.depthAll (L.map tI) ≤ 1 := by
  induction L with
  | nil => exact ⟨by simp [PyData.canLayAll0], by simp [PyData.depthAll]⟩
  | cons r t ih =>
    have h := tI_data r
    refine ⟨by simp [PyData.canLayAll0, h.1, ih.1], ?_⟩
    rw [List.map_cons]
    unfold PyData.depthAll
    have := ih.2
    have := h.2
    omega
theorem tI_shaped (r : List Int) : SeqAt.shaped (tI r) = true := by
  have h := tI_data r
  unfold SeqAt.shaped
  rw [h.1, h.2]
  rfl
theorem tIs_shaped (L : List (List Int)) : SeqAt.shaped (.list (L.map tI)) = true := by
  have h := tIs_data L
  have h1 : (PyData.list (L.map tI)).canLay0 = true := by simp [PyData.canLay0, h.1]
  have h2 : (PyData.list (L.map tI)).depth = PyData.depthAll (L.map tI) + 1 := by
    simp only [PyData.depth]
  unfold SeqAt.shaped
  rw [h1, h2, Bool.true_and, decide_eq_true_iff]
  omega
theorem ints_same : ∀ r q : List Int, PyData.eqvAll (r.map PyData.int) (q.map PyData.int) = decide (r = q)
  | [], [] => by simp [PyData.eqvAll]
  | [], _ :: _ => by simp [PyData.eqvAll]
  | _ :: _, [] => by simp [PyData.eqvAll]
  | x :: r, y :: q => by
    have ih := ints_same r q
    simp only [List.map_cons, PyData.eqvAll, PyData.eqv, ih, List.cons.injEq]
    by_cases h : x = y
    · subst h; simp
    · simp [h]
theorem tI_same (r q : List Int) : PyData.eqv (tI r) (tI q) = decide (r = q) := by
  unfold tI
  rw [← ints_same]
  simp only [PyData.eqv]
def pD (i j : Nat) : PyData := tI [(i : Int), (j : Int)]
theorem pD_shaped (i j : Nat) : SeqAt.shaped (pD i j) = true := tI_shaped _
theorem pDs_shaped (l : List (Nat × Nat)) : SeqAt.shaped (.list (l.map fun q => pD q.1 q.2)) = true := by
  have h := tIs_shaped (l.map fun q => [(q.1 : Int), (q.2 : Int)])
  rw [List.map_map] at h
  exact h
theorem pD_eqv (q : Nat × Nat) (i j : Nat) : PyData.eqv (pD q.1 q.2) (pD i j) = (q == (i, j)) := by
  unfold pD
  rw [tI_same, Bool.beq_eq_decide_eq]
  refine decide_eq_decide.mpr ?_
  rw [List.cons.injEq, List.cons.injEq, Prod.ext_iff]
  show ((q.1 : Int) = (i : Int) ∧ (q.2 : Int) = (j : Int) ∧ ([] : List Int) = []) ↔ (q.1 = i ∧ q.2 = j)
  constructor
  · rintro ⟨h1, h2, _⟩
    exact ⟨by omega, by omega⟩
  · rintro ⟨h1, h2⟩
    exact ⟨by omega, by omega, rfl⟩
theorem pDs_in (l : List (Nat × Nat)) (i j : Nat) : ((l.map fun q => pD q.1 q.2).any fun z => PyData.eqv z (pD i j)) = l.contains (i, j) := by
  induction l with
  | nil => rfl
  | cons q r ih =>
    rw [List.map_cons, List.any_cons, ih, pD_eqv, List.contains_cons]
    congr 1
    exact Bool.beq_comm
theorem dp_pair {H : Hp} {p : Addr} {i j : Nat} (h : H p = some (.tup [V.int (i : Int), V.int (j : Int)])) : Dp K H (.ref p) (pD i j) :=
  .tup (SqT.of h) (.cons (.int _) (.cons (.int _) .nil))
theorem dp_rows {H : Hp} : ∀ {ps : List Addr} {l : List (Nat × Nat)}, Rws .tup H ps (l.map fun q => [(q.1 : Int), (q.2 : Int)]) → DpAll K H (ps.map V.ref) (l.map fun q => pD q.1 q.2)
  | [], [], _ => .nil
  | p :: ps, q :: l, h => by
    cases h with
    | cons r t => exact .cons (dp_pair r) (dp_rows t)
theorem TAt.dp {C : Addr} {H : Hp} {a aw am : Addr} {b : B} (t : TAt C H a aw am b) : Dp K H (.ref am) (.list (b.met.map fun q => pD q.1 q.2)) := by
  obtain ⟨ps, h1, h2⟩ := t.mt
  exact .lst (SqL.of h1) (dp_rows h2)
theorem hu65_of {A : Around} {k : Nat} (hr : Room k A) : A.units + 65 < cLine := by
  have := hr.un
  omega
theorem scMay : FnScope ["self", "i", "j"] ["self", "i", "j"] (defScope sMay) := ⟨rfl, rfl, rfl, by decide +kernel, rfl, by decide +kernel, by decide +kernel⟩
theorem okMay {C f : Addr} {fd : FuncData} (F : Fun K "may_meet" "Tournament.may_meet" sMay f fd) (T : TxT K C) : FnOk P w K mg base CX0 1 f fd ["self", "i", "j"] (spMay C) := by
  refine F.ok scMay (fun vs H Q E h => ?_) (fun cdv A outer s H vs Q E hr h => ⟨_, pss_cons (ps_if (PW.pt (pw_or (pt_cmpR op_eq (pv 1) (pv 2) (nomark _))
        (pw_or1 (pt_cmpR op_eq (pe_ix ix_tup (pe_ix ix_list (pe_fld (pv 0) rfl) (pv 1) (fun _ _ => rfl)) pe_int (fun _ _ => rfl)) (pe_ix ix_tup (pe_ix ix_list (pe_fld (pv 0) rfl) (pv 2) (fun _ _ => rfl)) pe_int (fun _ _ => rfl)) (nomark _)))))
        (pss_one (ps_ret pe_bl)) pss_nil)
      (pss_one (ps_ret (pe_and (pe_cmpR (op_notInD (hu65_of hr)) (pe_tup (pa_cons (pv 1) (pa_cons (pv 2) pa_nil))) (pe_fld (pv 0) rfl) rfl)
        (pe_one (pe_cmpR (op_notInD (hu65_of hr)) (pe_tup (pa_cons (pv 2) (pa_cons (pv 1) pa_nil))) (pe_fld (pv 0) rfl) rfl))))), ?_⟩)
  · obtain ⟨a, aw, am, b, i, j, rfl, _⟩ := h
    rfl
  · obtain ⟨a, aw, am, b, i, j, rfl, t, hi, hj, hm, k⟩ := h
    obtain ⟨dx, hins⟩ := t.ins
    obtain ⟨psi, pi, h1, h2, h3⟩ := t.at hi
    obtain ⟨psj, pj, g1, g2, g3⟩ := t.at hj
    have i0 : ∀ x y : V, atI [x, y] (0 : Int) = some x := fun x y => rfl
    have eI : ∀ x y : Nat, (decide (V.int (x : Int) = V.int (y : Int)) = true) ↔ x = y := fun x y => by
      rw [decide_eq_true_iff, V.int.injEq]
      omega
    refine ⟨_, rfl, _, rfl, rfl, _, rfl, ite2 (fun e => ?_) fun e => ?_⟩
    · refine iteT ?_
      have e' := (eI i j).mp e
      have eb : b.may i j = false := by
        unfold Sj09.Basho.may
        rw [e', bne_self_eq_false]
        rfl
      have := k H (Same.refl H)
      rw [eb] at this
      exact this
    · refine ⟨_, rfl, a, C, dx, _, _, rfl, hins, T.cl, T.nB, tF_wr, _, rfl, aw, _, _, _, rfl, rfl, SqL.of h1, h2, pi, _, _, _, rfl, rfl, SqT.of h3, i0 _ _, ?_⟩
      refine ⟨_, rfl, a, C, dx, _, _, rfl, hins, T.cl, T.nB, tF_wr, _, rfl, aw, _, _, _, rfl, rfl, SqL.of g1, g2, pj, _, _, _, rfl, rfl, SqT.of g3, i0 _ _, ?_⟩
      have ne : (i != j) = true := by
        rw [bne_iff_ne]
        exact fun q => e ((eI i j).mpr q)
      refine ⟨rfl, _, rfl, ite2 (fun e2 => ?_) fun e2 => ?_⟩
      · have e' := (eI _ _).mp e2
        have eb : b.may i j = false := by
          unfold Sj09.Basho.may
          rw [e', bne_self_eq_false, Bool.false_and, Bool.and_false]
        have := k H (Same.refl H)
        rw [eb] at this
        exact this
      · have ns : ((b.of_ i).stable != (b.of_ j).stable) = true := by
          rw [bne_iff_ne]
          exact fun q => e2 ((eI _ _).mpr q)
        have eb : b.may i j = !(b.met.contains (i, j) || b.met.contains (j, i)) := by
          unfold Sj09.Basho.may
          rw [ne, ns, Bool.true_and, Bool.true_and]
        refine ⟨_, rfl, _, rfl, (by show 2 ≤ sizeLine; decide), fun p hp => ?_⟩
        have t1 := t.same (Same.new (o := .tup [V.int (i : Int), V.int (j : Int)]) hp)
        refine ⟨_, rfl, a, C, dx, _, _, rfl, Same.new hp _ _ hins, T.cl, T.nM, tF_met, pD i j, _, dp_pair upd_same, t1.dp, pD_shaped i j, pDs_shaped _, _, rfl, ?_⟩
        rw [pDs_in]
        by_cases c1 : b.met.contains (i, j) = true
        · rw [c1] at eb ⊢
          have := k _ (Same.new (o := .tup [V.int (i : Int), V.int (j : Int)]) hp)
          rw [eb] at this
          exact iteF this
        · have c1' : b.met.contains (i, j) = false := by simpa using c1
          rw [c1'] at eb ⊢
          refine iteT ⟨_, rfl, _, rfl, (by show 2 ≤ sizeLine; decide), fun p2 hp2 => ?_⟩
          have s2 := Same.new (o := .tup [V.int (j : Int), V.int (i : Int)]) hp2
          have t2 := t1.same s2
          refine ⟨_, rfl, a, C, dx, _, _, rfl, s2 _ _ (Same.new hp _ _ hins), T.cl, T.nM, tF_met, pD j i, _, dp_pair upd_same, t2.dp, pD_shaped j i, pDs_shaped _, ?_⟩
          rw [pDs_in]
          have := k _ ((Same.new (o := .tup [V.int (i : Int), V.int (j : Int)]) hp).trans s2)
          rw [eb, Bool.false_or] at this
          exact this
end
end Dy

namespace Dy
open PySem PySem.Spec PyProof.Rows L2
section
variable {P : Program} {w : World} {K : PySem.W.Frag} {mg : Str → Option Value} {base : Heap}
/-! ### apart(self, i, j) -/
def spApart (C : Addr) : Sp := fun vs H Q _ => ∃ (a aw am : Addr) (b : B) (i j : Nat), vs = [.ref a, .int i, .int j] ∧ TAt C H a aw am b ∧ i < b.count ∧ j < b.count ∧ b.rank ≤ 100 ∧ b.win ≤ 100 ∧
  Q (.int (b.far i j : Nat)) H
theorem scApart : FnScope ["self", "i", "j"] ["self", "i", "j"] (defScope sApart) := ⟨rfl, rfl, rfl, by decide +kernel, rfl, by decide +kernel, by decide +kernel⟩
theorem abs_apart (x y : Nat) : (if ((x : Int) - y) < 0 then -((x : Int) - y) else (x : Int) - y) = (Sj09.apart x y : Nat) := by
  unfold Sj09.apart
  split <;> omega
theorem okApart {C f : Addr} {fd : FuncData} (F : Fun K "apart" "Tournament.apart" sApart f fd) (T : TxT K C) (G : Glo mg) : FnOk P w K mg base CX0 1 f fd ["self", "i", "j"] (spApart C) := by
  refine F.ok scApart (fun vs H Q E h => ?_) (fun cdv A outer s H vs Q E hr h => ⟨_, pss_one (ps_ret (pe_op op_add
      (pe_op op_mul (pe_callB call_abs (by rfl) G.abs (by decide +kernel) (pa_cons (pe_op op_sub (pv 1) (pv 2)) pa_nil)) (pe_fld (pv 0) rfl))
      (pe_op op_mul (pe_callB call_abs (by rfl) G.abs (by decide +kernel) (pa_cons (pe_op op_sub (pe_ix ix_tup (pe_ix ix_list (pe_fld (pv 0) rfl) (pv 1) (fun _ _ => rfl)) pe_int (fun _ _ => rfl)) (pe_ix ix_tup (pe_ix ix_list (pe_fld (pv 0) rfl) (pv 2) (fun _ _ => rfl)) pe_int (fun _ _ => rfl))) pa_nil)) (pe_fld (pv 0) rfl)))), ?_⟩)
  · obtain ⟨a, aw, am, b, i, j, rfl, _⟩ := h
    rfl
  · obtain ⟨a, aw, am, b, i, j, rfl, t, hi, hj, hR, hW, k⟩ := h
    obtain ⟨dx, hins⟩ := t.ins
    obtain ⟨psi, pi, h1, h2, h3⟩ := t.at hi
    obtain ⟨psj, pj, g1, g2, g3⟩ := t.at hj
    have i1 : ∀ x y : V, atI [x, y] (1 : Int) = some y := fun x y => rfl
    refine ⟨_, rfl, _, rfl, _, _, rfl, rfl, _, rfl, _, rfl, a, C, dx, _, _, rfl, hins, T.cl, T.nR, tF_rank, _, _, rfl, rfl, .inr ⟨by omega, by omega⟩, ?_⟩
    refine ⟨_, rfl, a, C, dx, _, _, rfl, hins, T.cl, T.nB, tF_wr, _, rfl, aw, _, _, _, rfl, rfl, SqL.of h1, h2, pi, _, _, _, rfl, rfl, SqT.of h3, i1 _ _, ?_⟩
    refine ⟨_, rfl, a, C, dx, _, _, rfl, hins, T.cl, T.nB, tF_wr, _, rfl, aw, _, _, _, rfl, rfl, SqL.of g1, g2, pj, _, _, _, rfl, rfl, SqT.of g3, i1 _ _, _, _, rfl, rfl, _, rfl, ?_⟩
    refine ⟨_, rfl, a, C, dx, _, _, rfl, hins, T.cl, T.nW, tF_wins, _, _, rfl, rfl, .inr ⟨by omega, by omega⟩, _, _, rfl, rfl, ?_⟩
    rw [abs_apart, abs_apart]
    have e : ((Sj09.apart i j : Nat) : Int) * (b.rank : Int) + ((Sj09.apart (b.of_ i).wins (b.of_ j).wins : Nat) : Int) * (b.win : Int) = ((b.far i j : Nat) : Int) := by
      unfold Sj09.Basho.far
      rw [Int.natCast_add, Int.natCast_mul, Int.natCast_mul, Int.mul_comm (b.rank : Int), Int.mul_comm (b.win : Int)]
    rw [← e] at k
    exact k
/-! ### Tournament.__init__ -/
theorem tF_new (r n : Nat) (aw am : Addr) : putF "met" (.ref am) (putF "wrestlers" (.ref aw) (putF "wins" (.int (n : Int)) (putF "rank" (.int (r : Int)) []))) = tF ⟨r, n, [], []⟩ aw am := by
  have e1 : putF "rank" (.int (r : Int)) [] = [(("rank" : Str), V.int (r : Int))] := rfl
  have e2 : putF "wins" (.int (n : Int)) [(("rank" : Str), V.int (r : Int))] = [(("rank" : Str), V.int (r : Int)), ("wins", .int (n : Int))] := (put_past (by decide +kernel)).trans rfl
  have e3 : putF "wrestlers" (.ref aw) [(("rank" : Str), V.int (r : Int)), ("wins", .int (n : Int))] = [(("rank" : Str), V.int (r : Int)), ("wins", .int (n : Int)), ("wrestlers", .ref aw)] := (put_past (by decide +kernel)).trans (congrArg _ ((put_past (by decide +kernel)).trans rfl))
  have e4 : putF "met" (.ref am) [(("rank" : Str), V.int (r : Int)), ("wins", .int (n : Int)), ("wrestlers", .ref aw)] = [(("rank" : Str), V.int (r : Int)), ("wins", .int (n : Int)), ("wrestlers", .ref aw), ("met", .ref am)] := (put_past (by decide +kernel)).trans (congrArg _ ((put_past (by decide +kernel)).trans (congrArg _ ((put_past (by decide +kernel)).trans rfl))))
  rw [e1, e2, e3, e4]
  rfl
def spTInit (C : Addr) : Sp := fun vs H Q _ => ∃ (p dx : Addr) (r n : Nat), vs = [.ref p, .int r, .int n] ∧ H p = some (.ins C dx []) ∧ H dx = some (.own p) ∧
  ∀ (H' : Hp) (aw am : Addr), TAt C H' p aw am ⟨r, n, [], []⟩ → (∀ b o, H b = some o → b ≠ p → H' b = some o) → H aw = none → H am = none → aw ≠ am → Q .non H'
theorem scTInit : FnScope ["self", "rank", "wins"] ["self", "rank", "wins"] (defScope sTInit) := ⟨rfl, rfl, rfl, by decide +kernel, rfl, by decide +kernel, by decide +kernel⟩
theorem okTInit {C f : Addr} {fd : FuncData} (F : Fun K "__init__" "Tournament.__init__" sTInit f fd) (T : TxT K C) : FnOk P w K mg base CX0 1 f fd ["self", "rank", "wins"] (spTInit C) := by
  refine F.ok scTInit (fun vs H Q E h => ?_) (fun cdv A outer s H vs Q E hr h => ⟨_, pss_cons (ps_fld (pv 0) (pv 1) rfl) (pss_cons (ps_fld (pv 0) (pv 2) rfl)
    (pss_cons (ps_fld (pv 0) (pe_lst pa_nil) rfl) (pss_one (ps_fld (pv 0) (pe_lst pa_nil) rfl)))), ?_⟩)
  · obtain ⟨p, dx, r, n, rfl, _⟩ := h
    rfl
  · obtain ⟨p, dx, r, n, rfl, hp, hdx, k⟩ := h
    refine ⟨_, rfl, _, rfl, p, C, dx, [], rfl, hp, T.cl, T.nR, (by show 0 < 1000; decide), ?_⟩
    refine ⟨_, rfl, _, rfl, p, C, dx, _, rfl, upd_same, T.cl, T.nW, (by show 1 < 1000; decide), ?_⟩
    refine ⟨(by show 0 ≤ sizeLine; decide), fun aw naw => ⟨_, rfl, p, C, dx, _, rfl, (by rw [upd_ne (ne_of_none upd_same naw), upd_same]), T.cl, T.nB, (by show 2 < 1000; decide), ?_⟩⟩
    refine ⟨(by show 0 ≤ sizeLine; decide), fun am nam => ⟨_, rfl, p, C, dx, _, rfl, (by rw [upd_ne (ne_of_none upd_same nam), upd_same]), T.cl, T.nM, (by show 3 < 1000; decide), ?_⟩⟩
    have pw : p ≠ aw := ne_of_none upd_same naw
    have pm : p ≠ am := ne_of_none upd_same nam
    have wm : aw ≠ am := ne_of_none (by rw [upd_ne (Ne.symm pw), upd_same]) nam
    have nw : H aw = none := by
      rw [upd_ne (Ne.symm pw), upd_ne (Ne.symm pw)] at naw
      exact naw
    have nm : H am = none := by
      rw [upd_ne (Ne.symm pm), upd_ne (Ne.symm wm), upd_ne (Ne.symm pm), upd_ne (Ne.symm pm)] at nam
      exact nam
    refine k _ aw am ⟨⟨dx, Eq.trans upd_same (congrArg (fun q => some (HO.ins C dx q)) (tF_new r n aw am))⟩, ⟨[], ?_, .nil⟩, ⟨[], ?_, .nil⟩⟩ (fun b o e ne => ?_) nw nm wm
    · rw [upd_ne (Ne.symm pw), upd_ne wm, upd_ne (Ne.symm pw), upd_same]
      rfl
    · rw [upd_ne (Ne.symm pm), upd_same]
      rfl
    · rw [upd_ne ne, upd_ne (ne_of_none e nm), upd_ne ne, upd_ne (ne_of_none e nw), upd_ne ne, upd_ne ne]
      exact e
end
end Dy

namespace Dy
open PySem PySem.Spec PyProof.Rows L2
/-- one row more at a -/
theorem RowsAt.snoc {f : List V → HO} {H : Hp} {a p : Addr} {ps : List Addr} {rows : List (List Int)} {r : List Int} (h2 : Rws f H ps rows) (hp : H p = some (f (iV r))) (ne : ∀ q ∈ ps, q ≠ a) (np : p ≠ a) :
    RowsAt f (upd H a (.lst (ps.map V.ref ++ [V.ref p]))) a (rows ++ [r]) :=
  ⟨ps ++ [p], by rw [upd_same, List.map_append]; rfl, Paired.append (Paired.imp h2 fun q y hq e => by rw [upd_ne (ne q hq)]; exact e) (.cons (by rw [upd_ne np]; exact hp) .nil)⟩
/-- a list of references is no list of ints -/
theorem rows_ne {H : Hp} {a : Addr} {ps : List Addr} {rows : List (List Int)} (h1 : H a = some (.lst (ps.map V.ref))) (h2 : Rws .lst H ps rows) : ∀ q ∈ ps, q ≠ a := by
  intro q hq e
  subst e
  obtain ⟨i, hi, e⟩ := List.getElem_of_mem hq
  obtain ⟨r, _, hr⟩ := Paired.getL h2 (List.getElem?_eq_getElem hi)
  rw [e, h1] at hr
  have e2 : ps.map V.ref = iV r := HO.lst.inj (Option.some.inj hr)
  have e3 : (iV r)[i]? = some (V.ref ps[i]) := by rw [← e2, List.getElem?_map, List.getElem?_eq_getElem hi]; rfl
  unfold iV at e3
  rw [List.getElem?_map] at e3
  cases q : r[i]? with
  | none => rw [q] at e3; cases e3
  | some z => rw [q] at e3; cases e3
section
variable {P : Program} {w : World} {K : PySem.W.Frag} {mg : Str → Option Value} {base : Heap}
/-! ### with_next(self, day, i) -/
def spNext (C : Addr) : Sp := fun vs H Q _ => ∃ (a aw am ad : Addr) (b : B) (d : List Int) (i : Nat), vs = [.ref a, .ref ad, .int i] ∧ TAt C H a aw am b ∧ H ad = some (.lst (iV d)) ∧ d.length = b.count ∧ i < b.count ∧ b.count ≤ 6 ∧ b.met.length ≤ 60 ∧
  ∀ H' p, Same H H' → H p = none → RowsAt .lst H' p (wn b i d) → Q (.ref p) H'
theorem scNext : FnScope ["self", "day", "i", "out", "j"] ["self", "day", "i"] (defScope sNext) := ⟨rfl, rfl, rfl, by decide +kernel, rfl, by decide +kernel, by decide +kernel⟩
theorem okNext {C f fP fM : Addr} {fd fdP fdM : FuncData} (F : Fun K "with_next" "Tournament.with_next" sNext f fd) (T : TxT K C) (G : Glo mg)
    (FP : Fun K "paired" "paired" sPaired fP fdP) (bP : Binds K fdP ["day", "i", "j"] []) (mP : mg "paired" = some (.ref fP))
    (FM : Fun K "may_meet" "Tournament.may_meet" sMay fM fdM) (bM : Binds K fdM ["self", "i", "j"] []) (mM : Meth K C "may_meet" fM) : FnOk P w K mg base CX0 2 f fd ["self", "day", "i"] (spNext C) := by
  have GP : FnOk P w K mg base CX0 1 fP fdP ["day", "i", "j"] (spPaired K) := okPaired FP G
  have GM : FnOk P w K mg base CX0 1 fM fdM ["self", "i", "j"] (spMay C) := okMay FM T
  refine F.ok scNext (fun vs H Q E h => ?_) (fun cdv A outer s H vs Q E hr h => ⟨_, pss_cons (ps_if (pt_cmpR op_ge (pe_ix ix_list (pv 1) (pv 2) (fun _ _ => rfl)) pe_int (nomark _)) (pss_one (ps_ret (pe_lst (pa_cons (pv 1) pa_nil)))) pss_nil)
    (pss_cons (ps_set (i := 3) scNext.nd rfl (Or.inl rfl) (pe_lst (pa_cons (pe_call GP hr rfl mP FP.kp bP .nil pass0 (pa_cons (pv 1) (pa_cons (pv 2) (pa_cons (pv 2) pa_nil)))) pa_nil)))
    (pss_cons (ps_for PassesOwn.never rfl (pi_range2 (by rfl) G.range (pa_cons (pe_op op_add (pv 2) pe_int) (pa_cons (pe_callB call_len_seq (by rfl) G.len PySem.boot_len (pa_cons (pv 1) pa_nil)) pa_nil))) (pg_name (i := 4) scNext.nd rfl (Or.inl rfl))
      (pss_one (ps_if (PW.pt (pw_and (pt_cmpR op_lt (pe_ix ix_list (pv 1) (pv 4) (fun _ _ => rfl)) pe_int (nomark _)) (pw_and1 (pt_val (pe_meth (pv 0) T.cl mM GM hr bM .nil pass0 (pa_cons (pv 2) (pa_cons (pv 4) pa_nil)))))))
        (pss_one (ps_expr (pe_bm PySem.F.plainAttrs_list PySem.F.slot_list_append PySem.F.type_list_append mt_append (pv 3) (pa_cons (pe_call GP hr rfl mP FP.kp bP .nil pass0 (pa_cons (pv 1) (pa_cons (pv 2) (pa_cons (pv 4) pa_nil)))) pa_nil)))) pss_nil)))
    (pss_one (ps_ret (pv 3))))), ?_⟩)
  · obtain ⟨a, aw, am, ad, b, d, i, rfl, _⟩ := h
    rfl
  · obtain ⟨a, aw, am, ad, b, d, i, rfl, t, hd, hdl, hi, h6, hm, k⟩ := h
    obtain ⟨dx, hins⟩ := t.ins
    have hid : i < d.length := by omega
    refine ⟨_, rfl, _, rfl, ad, _, _, _, rfl, rfl, SqL.of hd, iV_get hid, _, _, rfl, rfl, _, rfl, ite2 (fun e => ?_) fun e => ?_⟩
    · have e' : 0 ≤ d.getD i 0 := of_decide_eq_true e
      refine ⟨_, rfl, (by show 1 ≤ sizeLine; decide), fun p np => ?_⟩
      refine k _ p (Same.new np) np ⟨[ad], upd_same, ?_⟩
      unfold wn
      rw [if_neg (by omega)]
      exact .cons (by rw [upd_ne (ne_of_none hd np)]; exact hd) .nil
    · have e' : d.getD i 0 < 0 := by
        have : ¬ (0 ≤ d.getD i 0) := fun q => e (decide_eq_true q)
        omega
      refine ⟨_, rfl, _, rfl, _, rfl, ad, d, i, i, rfl, SqL.of hd, hid, hid, fun H1 q1 s1 n1 r1 => ?_⟩
      refine ⟨(by show 1 ≤ sizeLine; decide), fun p np => ?_⟩
      have hn : (((iV d).length : Int) - ((i : Int) + 1)).toNat = d.length - (i + 1) := by
        rw [iV_len]; omega
      have s2 : Same H (upd H1 p (.lst [V.ref q1])) := s1.trans (Same.new np)
      have hlw : (wn b i d).length ≤ 6 := by
        unfold wn
        rw [if_pos e', List.length_cons, List.length_map]
        have := List.length_filter_le (fun j => decide (d.getD j 0 < 0) && b.may i j) (List.range' (i + 1) (d.length - (i + 1)))
        rw [List.length_range'] at this
        omega
      refine ⟨_, rfl, _, _, rfl, rfl, _, rfl, ad, _, rfl, .inl (SqL.of (s2 _ _ hd)), _, _, rfl, ⟨by omega, by omega, by omega, by rw [iV_len]; omega⟩, ?_⟩
      refine for_range (fun k σ H' => ∃ (v : Option V) (acc : List (List Int)), σ = [some (.ref a), some (.ref ad), some (.int i), some (.ref p), v] ∧ Same H H' ∧ RowsAt .lst H' p acc ∧
        acc ++ ((List.range' (i + 1 + k) (d.length - (i + 1) - k)).filter fun j => decide (d.getD j 0 < 0) && b.may i j).map (fun (j : Nat) => (d.set i (j : Int)).set j (i : Int)) = wn b i d) ?_ ?_ ?_
      · refine ⟨none, [(d.set i (i : Int)).set i (i : Int)], rfl, s2, ⟨[q1], upd_same, .cons (by rw [upd_ne (ne_of_none r1 np)]; exact r1) .nil⟩, ?_⟩
        unfold wn
        rw [if_pos e']
        rfl
      · rintro k' σ H' hk ⟨v, acc, rfl, s3, r3, eq⟩
        rw [hn] at hk
        have ej : (i : Int) + 1 + (k' : Nat) = ((i + 1 + k' : Nat) : Int) := by omega
        rw [ej]
        have hj : i + 1 + k' < d.length := by omega
        have er : List.range' (i + 1 + k') (d.length - (i + 1) - k') = (i + 1 + k') :: List.range' (i + 1 + (k' + 1)) (d.length - (i + 1) - (k' + 1)) := by
          have : d.length - (i + 1) - k' = (d.length - (i + 1) - (k' + 1)) + 1 := by omega
          rw [this, List.range'_succ]
          rfl
        rw [er, List.filter_cons] at eq
        have t3 := t.same s3
        have hd3 := s3 _ _ hd
        refine ⟨_, rfl, _, rfl, ad, _, _, _, rfl, rfl, SqL.of hd3, iV_get hj, _, _, rfl, rfl, _, rfl, ?_⟩
        by_cases c : d.getD (i + 1 + k') 0 < 0
        · rw [decide_eq_true c]
          refine iteT ?_
          refine ⟨_, rfl, a, dx, _, rfl, s3 _ _ hins, tF_no (by decide +kernel), _, rfl, _, rfl, a, aw, am, b, i, i + 1 + k', rfl, t3, hi, by omega, hm, fun H4 s4 => ⟨_, rfl, ?_⟩⟩
          rw [decide_eq_true c, Bool.true_and] at eq
          cases cm : b.may i (i + 1 + k') with
          | true =>
            rw [cm] at eq
            refine iteT ?_
            obtain ⟨ps, h5, h6'⟩ := r3.same s4
            refine ⟨_, rfl, .inl ⟨rfl, _, SqL.of h5⟩, _, rfl, _, rfl, _, rfl, ad, d, i, i + 1 + k', rfl, SqL.of (s4 _ _ hd3), hid, hj, fun H5 q5 s5 n5 r5 => ?_⟩
            have hl : acc.length ≤ 6 := by
              have := congrArg List.length eq
              rw [List.length_append] at this
              omega
            refine ⟨p, _, _, rfl, rfl, s5 _ _ h5, ?_, ?_⟩
            · rw [List.length_map, h6'.length]
              exact Nat.lt_of_le_of_lt hl (by show 6 < sizeLine; decide)
            · have hp5 := s5 _ _ h5
              have nq : q5 ≠ p := fun z => by rw [z, h5] at n5; cases n5
              have np0 : H p = none := s1.free np
              refine ⟨_, acc ++ [(d.set i ((i + 1 + k' : Nat) : Int)).set (i + 1 + k') (i : Int)], rfl, fun x o q => ?_, RowsAt.snoc (h6'.same s5) r5 (rows_ne h5 h6') nq, ?_⟩
              · rw [upd_ne (ne_of_none q np0)]
                exact s5 _ _ (s4 _ _ (s3 _ _ q))
              · rw [← eq, if_pos rfl, List.map_cons, List.append_assoc]
                rfl
          | false =>
            rw [cm, if_neg Bool.false_ne_true] at eq
            exact iteF ⟨_, acc, rfl, s3.trans s4, r3.same s4, eq⟩
        · rw [decide_eq_false c]
          rw [decide_eq_false c, Bool.false_and, if_neg Bool.false_ne_true] at eq
          refine iteF ?_
          exact iteF ⟨_, acc, rfl, s3, r3, eq⟩
      · rintro σ H' ⟨v, acc, rfl, s3, r3, eq⟩
        rw [hn, Nat.sub_self] at eq
        have eq' : acc = wn b i d := by
          rw [← eq]
          simp
        refine ⟨_, rfl, ?_⟩
        exact k H' p s3 (s1.free np) (eq' ▸ r3)
end
end Dy

namespace Dy
open PySem PySem.Spec PyProof.Rows L2
theorem wn_len {b : B} {i : Nat} {d : List Int} : ∀ r ∈ wn b i d, r.length = d.length := by
  intro r hr
  unfold wn at hr
  split at hr
  · rcases List.mem_cons.mp hr with e | hr
    · rw [e]; simp
    · obtain ⟨j, _, e⟩ := List.mem_map.mp hr
      rw [← e]; simp
  · rw [List.mem_singleton.mp hr]
theorem wn_le {b : B} {i : Nat} {d : List Int} (h : d.length ≤ 6) : (wn b i d).length ≤ 6 := by
  unfold wn
  split
  · rename_i e
    have hi : i < d.length := by
      by_cases q : i < d.length
      · exact q
      · rw [List.getD_eq_getElem?_getD, List.getElem?_eq_none (by omega)] at e
        exact absurd e (by decide)
    rw [List.length_cons, List.length_map]
    have := List.length_filter_le (fun j => decide (d.getD j 0 < 0) && b.may i j) (List.range' (i + 1) (d.length - (i + 1)))
    rw [List.length_range'] at this
    omega
  · simp
theorem flat_le {α : Type} {β : Type} {f : α → List β} {n : Nat} : ∀ {l : List α}, (∀ x ∈ l, (f x).length ≤ n) → (l.flatMap f).length ≤ n * l.length
  | [], _ => by simp
  | x :: r, h => by
    have h1 := h x List.mem_cons_self
    have h2 := flat_le (l := r) fun y hy => h y (List.mem_cons_of_mem _ hy)
    rw [List.flatMap_cons, List.length_append, List.length_cons, Nat.mul_add]
    omega
/-- a list of references at a is no list of ints, if that isn't empty -/
theorem refs_ne {H : Hp} {a q : Addr} {ps : List Addr} {r : List Int} (h1 : H a = some (.lst (ps.map V.ref))) (h2 : H q = some (.lst (iV r))) (hr : 0 < r.length) : q ≠ a := by
  intro e
  subst e
  rw [h1] at h2
  have e2 : ps.map V.ref = iV r := HO.lst.inj (Option.some.inj h2)
  match r, hr with
  | x :: t, _ =>
    match ps with
    | [] => cases e2
    | p :: u => cases e2
section
variable {P : Program} {w : World} {K : PySem.W.Frag} {mg : Str → Option Value} {base : Heap}
/-! ### days(self) -/
def spDays (C : Addr) : Sp := fun vs H Q _ => ∃ (a aw am : Addr) (b : B), vs = [.ref a] ∧ TAt C H a aw am b ∧ b.count ≤ 6 ∧ b.met.length ≤ 60 ∧
  ∀ H' p, Same H H' → H p = none → RowsAt .lst H' p (daysM b) → Q (.ref p) H'
abbrev nDays : List Str := ["self", "count", "now", "i", "after", "day", "k"]
theorem scDays : FnScope nDays ["self"] (defScope sDays) := ⟨rfl, rfl, rfl, by decide +kernel, rfl, by decide +kernel, by decide +kernel⟩
theorem okDays {C f fN : Addr} {fd fdN : FuncData} (F : Fun K "days" "Tournament.days" sDays f fd) (T : TxT K C) (G : Glo mg)
    (GN : FnOk P w K mg base CX0 2 fN fdN ["self", "day", "i"] (spNext C)) (bN : Binds K fdN ["self", "day", "i"] []) (mN : Meth K C "with_next" fN) : FnOk P w K mg base CX0 3 f fd ["self"] (spDays C) := by
  refine F.ok scDays (fun vs H Q E h => ?_) (fun cdv A outer s H vs Q E hr h => ⟨_, pss_cons (ps_set (i := 1) scDays.nd rfl (Or.inl rfl) (pe_callB call_len_seq (by rfl) G.len PySem.boot_len (pa_cons (pe_fld (pv 0) rfl) pa_nil)))
    (pss_cons (ps_set (i := 2) scDays.nd rfl (Or.inl rfl) (pe_lst (pa_cons (pe_lc (own := [("k", 6)]) (g := gName 6) (tt := tYes) rfl scDays.nd (pi_range1 rfl G.range (pa_cons (pv 1) pa_nil)) (blkOk_by (N := nDays) (sc := defScope sDays) (by decide +kernel))
        (fun _ _ _ _ _ => pg_name (i := 6) scDays.nd rfl (Or.inl rfl)) (fun _ _ _ _ _ => pts_nil) (fun _ _ _ _ _ => pe_un un_neg pe_int)) pa_nil)))
    (pss_cons (ps_for PassesOwn.never rfl (pi_range1 rfl G.range (pa_cons (pv 1) pa_nil)) (pg_name (i := 3) scDays.nd rfl (Or.inl rfl))
      (pss_cons (ps_set (i := 4) scDays.nd rfl (Or.inl rfl) (pe_lst pa_nil))
      (pss_cons (ps_for PassesOwn.never rfl (pi_list (pv 2)) (pg_name (i := 5) scDays.nd rfl (Or.inl rfl))
        (pss_one (ps_expr (pe_bm PySem.F.plainAttrs_list PySem.F.slot_list_extend PySem.F.type_list_extend mt_extend (pv 4) (pa_cons (pe_meth (pv 0) T.cl mN GN hr bN .nil pass0 (pa_cons (pv 5) (pa_cons (pv 3) pa_nil))) pa_nil)))))
      (pss_one (ps_set (i := 2) scDays.nd rfl (Or.inl rfl) (pv 4))))))
    (pss_one (ps_ret (pv 2))))), ?_⟩)
  · obtain ⟨a, aw, am, b, rfl, _⟩ := h
    rfl
  · obtain ⟨a, aw, am, b, rfl, t, h6, hm, k⟩ := h
    obtain ⟨dx, hins⟩ := t.ins
    obtain ⟨psw, hw, hwl⟩ := t.len
    refine ⟨_, rfl, a, C, dx, _, _, rfl, hins, T.cl, T.nB, tF_wr, aw, _, rfl, .inl (SqL.of hw), ?_⟩
    rw [hwl]
    refine ⟨_, rfl, _, rfl, by omega, by omega, fun D hD => ?_⟩
    refine lc_range (fun i H' => Same H H' ∧ H' D = some (.lst (iV (List.replicate i (-1))))) ⟨Same.new hD, upd_same⟩ ?_ ?_
    · rintro i H' hi ⟨s1, h1⟩
      refine ⟨rfl, ?_⟩
      refine ⟨_, rfl, _, h1, ?_, fun x o q => ?_, ?_⟩
      · rw [iV_len, List.length_replicate]
        exact Nat.lt_of_lt_of_le hi (Nat.le_trans (by omega : _ ≤ 6) (by show 6 ≤ sizeLine; decide))
      · rw [upd_ne (ne_of_none q hD)]
        exact s1 _ _ q
      · rw [upd_same]
        have e : iV (List.replicate i (-1 : Int)) ++ [V.int (-1)] = iV (List.replicate (i + 1) (-1)) := by
          rw [iV_app, List.replicate_succ']
        exact congrArg (fun z => some (HO.lst z)) e
    · rintro H1 ⟨s1, h1⟩
      rw [show ((b.count : Int)).toNat = b.count from rfl] at h1
      refine ⟨(by show 1 ≤ sizeLine; decide), fun pn npn => ?_⟩
      have s2 : Same H (upd H1 pn (.lst [V.ref D])) := s1.trans (Same.new npn)
      refine ⟨_, rfl, _, rfl, by omega, by omega, ?_⟩
      refine for_range (fun i σ H' => ∃ (v3 v4 v5 v6 : Option V) (p : Addr) (now : List (List Int)), σ = [some (.ref a), some (.int b.count), some (.ref p), v3, v4, v5, v6] ∧ Same H H' ∧ H p = none ∧ RowsAt .lst H' p now ∧
        (∀ d ∈ now, d.length = b.count) ∧ now.length ≤ 6 ^ i ∧ daysFrom b (b.count - i) i now = daysM b) ?_ ?_ ?_
      · refine ⟨none, none, none, none, pn, [List.replicate b.count (-1)], rfl, s2, s1.free npn, ⟨[D], upd_same, .cons (by rw [upd_ne (ne_of_none h1 npn)]; exact h1) .nil⟩, fun d hd => ?_, by simp, rfl⟩
        rw [List.mem_singleton.mp hd, List.length_replicate]
      · rintro i σ H2 hi ⟨v3, v4, v5, v6, p, now, rfl, s3, n3, r3, hl3, hn3, e3⟩
        have hi : i < b.count := hi
        refine ⟨(by show 0 ≤ sizeLine; decide), fun pa npa => ?_⟩
        obtain ⟨ps, hp, hps⟩ := id r3
        have s4 : Same H2 (upd H2 pa (.lst [])) := Same.new npa
        have pn6 : (6 : Nat) ^ i ≤ 6 ^ 5 := Nat.pow_le_pow_right (by decide) (by omega)
        refine ⟨_, rfl, p, rfl, ⟨_, SqL.of (s4 _ _ hp)⟩, for_list (K := K) (a := p) (xs := ps.map V.ref) (fun j σ H' => ∃ (v5 v6 : Option V) (acc : List (List Int)), σ = [some (.ref a), some (.int b.count), some (.ref p), some (.int (0 + (i : Nat))), some (.ref pa), v5, v6] ∧
          Same H2 H' ∧ RowsAt .lst H' pa acc ∧ acc.length ≤ 6 * j ∧ acc ++ (now.drop j).flatMap (wn b i) = now.flatMap (wn b i)) ?_ ?_ ?_ ?_⟩
        · exact ⟨v5, v6, [], rfl, s4, ⟨[], upd_same, .nil⟩, by simp, rfl⟩
        · rintro j σ H' _ ⟨_, _, _, _, s5, _⟩
          exact SqL.of (s5 _ _ hp)
        · rintro j x σ H' hx ⟨v5, v6, acc, rfl, s5, r5, hl5, e5⟩
          obtain ⟨ad, had, rfl⟩ : ∃ ad, ps[j]? = some ad ∧ x = V.ref ad := by
            rw [List.getElem?_map] at hx
            cases e : ps[j]? with
            | none => rw [e] at hx; cases hx
            | some z => rw [e] at hx; exact ⟨z, rfl, (Option.some.inj hx).symm⟩
          obtain ⟨d, hd, hdr⟩ := Paired.getL hps had
          obtain ⟨hjl, hje⟩ := List.getElem?_eq_some_iff.mp hd
          have hdl : d.length = b.count := hl3 d (List.mem_of_getElem? hd)
          rw [List.drop_eq_getElem_cons hjl, hje, List.flatMap_cons] at e5
          have sH : Same H H' := s3.trans s5
          obtain ⟨qs, hq, hqs⟩ := id r5
          refine ⟨_, rfl, .inl ⟨rfl, _, SqL.of hq⟩, _, rfl, a, dx, _, rfl, sH _ _ hins, tF_no (by decide +kernel), _, rfl, _, rfl, a, aw, am, ad, b, d, i, ?_, t.same sH, s5 _ _ hdr, hdl, hi, h6, hm, fun H5 p5 s6 n6 r6 => ?_⟩
          · show [V.ref a, V.ref ad, V.int (0 + (i : Nat))] = _
            rw [Int.zero_add]
          · obtain ⟨us, hu, hus⟩ := id r6
            have hq5 := s6 _ _ hq
            have hw6 : (wn b i d).length ≤ 6 := wn_le (by omega)
            have hjn : j < 6 ^ 5 := by omega
            have big : 6 * (6 ^ 5) + 12 ≤ sizeLine := by show 6 * (6 ^ 5) + 12 ≤ 2 ^ 24; decide
            refine ⟨pa, p5, _, _, rfl, rfl, hq5, hu, ?_, ?_⟩
            · rw [List.length_map, List.length_map, hqs.length, hus.length]
              omega
            · have npaH : H2 pa = none := npa
              have ne1 : ∀ q ∈ qs ++ us, q ≠ pa := by
                intro q hq'
                rcases List.mem_append.mp hq' with hq' | hq'
                · exact rows_ne hq5 (hqs.same s6) q hq'
                · obtain ⟨m, hm', e⟩ := List.getElem_of_mem hq'
                  obtain ⟨r, hr, hrr⟩ := Paired.getL hus (List.getElem?_eq_getElem hm')
                  rw [e] at hrr
                  exact refs_ne hq5 hrr (by rw [wn_len r (List.mem_of_getElem? hr), hdl]; omega)
              refine ⟨some (.ref ad), v6, acc ++ wn b i d, rfl, fun x o q => ?_, ⟨qs ++ us, ?_, ?_⟩, ?_, ?_⟩
              · rw [upd_ne (ne_of_none q npa)]
                exact s6 _ _ (s5 _ _ q)
              · rw [upd_same, List.map_append]
              · exact Paired.imp (Paired.append (hqs.same s6) hus) fun q y hq' e => by rw [upd_ne (ne1 q hq')]; exact e
              · rw [List.length_append]; omega
              · rw [List.append_assoc]; exact e5
        · rintro σ H' ⟨v5, v6, acc, rfl, s5, r5, hl5, e5⟩
          have hpl : (ps.map V.ref).length = now.length := by rw [List.length_map, hps.length]
          rw [hpl] at e5 hl5
          rw [List.drop_length] at e5
          have e5' : acc = now.flatMap (wn b i) := by rw [← e5]; simp
          refine ⟨_, rfl, some (.int (0 + (i : Nat))), some (.ref pa), v5, v6, pa, acc, rfl, s3.trans s5, s3.free npa, r5, fun d hd => ?_, ?_, ?_⟩
          · rw [e5'] at hd
            obtain ⟨d', hd', hdd⟩ := List.mem_flatMap.mp hd
            rw [wn_len d hdd]
            exact hl3 d' hd'
          · rw [Nat.pow_succ]; omega
          · rw [e5', ← e3]
            have : b.count - i = (b.count - (i + 1)) + 1 := by omega
            rw [this]
            rfl
      · rintro σ H' ⟨v3, v4, v5, v6, p, now, rfl, s3, n3, r3, hl3, hn3, e3⟩
        rw [show ((b.count : Int)).toNat = b.count from rfl, Nat.sub_self] at e3
        have e3' : now = daysM b := e3
        exact ⟨_, rfl, k H' p s3 n3 (e3' ▸ r3)⟩
end
end Dy

namespace Dy
open PySem PySem.Spec PyProof.Rows L2
def pRows (b : B) (l : List Nat) : List (List Int) := (Sj13.pairs b l).map fun q => [(q.1 : Int), (q.2 : Int)]
/-- the bouts among the first n -/
def pr (l : List Nat) (n : Nat) : List (List Int) := ((List.range n).filter fun i => decide (i < l.getD i 0)).map fun (i : Nat) => [(i : Int), ((l.getD i 0 : Nat) : Int)]
theorem pr_pairs (b : B) (l : List Nat) : pr l b.count = pRows b l := by
  unfold pr pRows Sj13.pairs
  rw [List.map_map]
  rfl
theorem pr_more (l : List Nat) (n : Nat) : pr l (n + 1) = pr l n ++ if n < l.getD n 0 then [[(n : Int), ((l.getD n 0 : Nat) : Int)]] else [] := by
  unfold pr
  rw [List.range_succ, List.filter_append, List.map_append]
  refine congrArg _ ?_
  rw [List.filter_cons]
  by_cases h : n < l.getD n 0
  · rw [if_pos (decide_eq_true h), if_pos h]; rfl
  · rw [if_neg (by simpa using h), if_neg h]; rfl
theorem pr_le (l : List Nat) (n : Nat) : (pr l n).length ≤ n := by
  unfold pr
  rw [List.length_map]
  exact Nat.le_trans (List.length_filter_le _ _) (Nat.le_of_eq List.length_range)
theorem zs_at {l : List Nat} {i : Nat} {y : V} (hi : i < l.length) (h : (iV (zs l))[i]? = some y) : y = V.int ((l.getD i 0 : Nat) : Int) := by
  unfold iV zs at h
  rw [List.getElem?_map, List.getElem?_map, List.getElem?_eq_getElem hi] at h
  rw [List.getD_eq_getElem?_getD, List.getElem?_eq_getElem hi]
  exact (Option.some.inj h).symm
section
variable {P : Program} {w : World} {K : PySem.W.Frag} {mg : Str → Option Value} {base : Heap}
/-! ### bouts_of(day) -/
def spBouts (K : PySem.W.Frag) : Sp := fun vs H Q _ => ∃ (a : Addr) (l : List Nat), vs = [.ref a] ∧ SqL K H a (iV (zs l)) ∧ l.length ≤ 6 ∧
  ∀ H' p, Same H H' → H p = none → RowsAt .tup H' p (pr l l.length) → Q (.ref p) H'
abbrev nBouts : List Str := ["day", "i", "j"]
theorem scBouts : FnScope nBouts ["day"] (defScope sBouts) := ⟨rfl, rfl, rfl, by decide +kernel, rfl, by decide +kernel, by decide +kernel⟩
theorem okBouts {f : Addr} {fd : FuncData} (F : Fun K "bouts_of" "bouts_of" sBouts f fd) (G : Glo mg) : FnOk P w K mg base CX0 1 f fd ["day"] (spBouts K) := by
  refine F.ok scBouts (fun vs H Q E h => ?_) (fun cdv A outer s H vs Q E hr h => ⟨_, pss_one (ps_ret (pe_lc (own := [("i", 1), ("j", 2)]) (g := gTup K 2 (gCons (gName 1) (gCons (gName 2) gNil))) rfl scBouts.nd (pi_enum (by rfl) G.enumerate (pa_cons (pv 0) pa_nil)) (blkOk_by (N := nBouts) (sc := defScope sBouts) (by decide +kernel))
      (fun _ _ _ _ _ => pg_tup rfl (pgs_cons (pg_name (i := 1) scBouts.nd rfl (Or.inl rfl) (Or.inr rfl)) (pgs_cons (pg_name (i := 2) scBouts.nd rfl (Or.inl rfl) (Or.inr rfl)) pgs_nil)))
      (fun _ _ _ _ _ => pts_one (pt_cmpR op_lt (pv 1) (pv 2) (nomark _))) (fun _ _ _ _ _ => pe_tup (pa_cons (pv 1) (pa_cons (pv 2) pa_nil))))), ?_⟩)
  · obtain ⟨a, l, rfl, _⟩ := h
    rfl
  · obtain ⟨a, l, rfl, hS, h6, k⟩ := h
    refine ⟨_, rfl, a, _, rfl, hS, fun D hD => ?_⟩
    have hlen : (iV (zs l)).length = l.length := by rw [iV_len, zs_len]
    refine lc_it (walk_enum (K := K) (a := a) (xs := iV (zs l))) (fun i H' => Same H H' ∧ RowsAt .tup H' D (pr l i)) ⟨Same.new hD, ⟨[], upd_same, .nil⟩⟩ (fun i H' _ q => q.1.seq hS) ?_ ?_
    · rintro i x H' H2 hi ⟨s1, r1⟩ ⟨T, x', y', rfl, nT, rfl, ex, ey⟩
      obtain rfl : x' = V.int (i : Nat) := (Option.some.inj ex).symm
      rw [hlen] at hi
      obtain rfl : y' = V.int ((l.getD i 0 : Nat) : Int) := zs_at hi ey
      have sT : Same H' (upd H' T (.tup [V.int (i : Nat), V.int ((l.getD i 0 : Nat) : Int)])) := Same.new nT
      refine ⟨T, _, rfl, SqT.of upd_same, rfl, _, _, rfl, _, _, rfl, rfl, rfl, _, rfl, _, rfl, _, _, rfl, rfl, _, rfl, ?_⟩
      have em := pr_more l i
      by_cases c : i < l.getD i 0
      · rw [if_pos c] at em
        rw [decide_eq_true (show (i : Int) < ((l.getD i 0 : Nat) : Int) by omega)]
        obtain ⟨ps, hp, hps⟩ := r1.same sT
        refine iteT ⟨_, rfl, _, rfl, (by show 2 ≤ sizeLine; decide), fun p hp' => ⟨ps.map V.ref, Same.new hp' _ _ hp, ?_, ?_⟩⟩
        · rw [List.length_map, hps.length]
          exact Nat.lt_of_le_of_lt (Nat.le_trans (pr_le l i) (by omega : i ≤ 6)) (by show 6 < sizeLine; decide)
        · have nD : H D = none := hD
          have s3 := Same.new (o := .tup [V.int (i : Int), V.int ((l.getD i 0 : Nat) : Int)]) hp'
          refine ⟨fun x o q => ?_, ?_⟩
          · rw [upd_ne (ne_of_none q nD)]
            exact s3 _ _ (sT _ _ (s1 _ _ q))
          · rw [em]
            refine RowsAt.snoc (hps.same s3) upd_same (fun q hq e => ?_) fun e => ?_
            · obtain ⟨m, hm, eq⟩ := List.getElem_of_mem hq
              obtain ⟨r, _, hr⟩ := Paired.getL hps (List.getElem?_eq_getElem hm)
              rw [eq, e, hp] at hr
              cases hr
            · rw [e] at hp'
              rw [hp'] at hp
              cases hp
      · rw [if_neg c, List.append_nil] at em
        rw [decide_eq_false (show ¬ (i : Int) < ((l.getD i 0 : Nat) : Int) by omega)]
        refine iteF ⟨s1.trans sT, ?_⟩
        rw [em]
        exact r1.same sT
    · rintro H' ⟨s1, r1⟩
      rw [hlen] at r1
      exact k H' D s1 hD r1
end
end Dy

namespace Dy
open PySem PySem.Spec PyProof.Rows L2
/-- xs[i] of a list, by values, i not negative -/
def rGetL (K : PySem.W.Frag) : V → V → Hp → VK → Prop := fun x y H Q => ∃ p xs i v, x = .ref p ∧ y = .int i ∧ SqL K H p xs ∧ 0 ≤ i ∧ atI xs i = some v ∧ Q v H
theorem pget_list {X : Cx} : PGet X (rGetL X.K) := fun _ _ _ _ _ _ lv iv _ I hl hi ⟨p, xs, i, z, el, ei, hx, nonneg, hz, hQ⟩ => by
  subst el ei
  obtain rfl : lv = Value.ref p := hl
  obtain ⟨tok, rfl⟩ := hi
  obtain ⟨vals, rel, plain, _⟩ := I.list hx
  obtain ⟨place, hp, hget, hlt, _, hup⟩ := atI_get hz
  obtain ⟨val, hval, hrel⟩ := rel.get hget
  have at_ : i.toNat = place := Option.some.inj ((seqIndex_of nonneg hup).symm.trans hp)
  have small : i < 2 ^ 63 := by
    have h1 := (I.list hx).choose_spec.2.2
    have h2 := line63
    omega
  refine wpAny_getItem_list plain.isList nonneg small (x := val) ?_ ⟨z, _, I, hrel, hQ⟩
  rw [at_]
  simpa using hval
theorem bit_of (k j : Nat) : Builtin.bitAnd ((k : Int) / 2 ^ ((j : Int)).toNat) 1 = if k.testBit j then 1 else 0 := by
  rw [bitAnd_m1, Int.toNat_natCast]
  have e : ((k : Int) / 2 ^ j) % 2 = (((k / 2 ^ j) % 2 : Nat) : Int) := by
    rw [Int.natCast_emod, Int.natCast_ediv, Int.natCast_pow]
    rfl
  rw [e, Nat.testBit_eq_decide_div_mod_eq]
  by_cases h : k / 2 ^ j % 2 = 1
  · rw [h]; simp
  · have : k / 2 ^ j % 2 = 0 := by omega
    rw [this]; simp
theorem take_more {α : Type} : ∀ {l : List α} {i : Nat} {x : α}, l[i]? = some x → l.take (i + 1) = l.take i ++ [x]
  | [], i, x, h => by simp at h
  | a :: l, 0, x, h => by
    have e : a = x := Option.some.inj h
    subst e
    rfl
  | a :: l, i + 1, x, h => by
    have ih := take_more (l := l) (i := i) (x := x) h
    show a :: l.take (i + 1) = a :: l.take i ++ [x]
    rw [ih]
    rfl
theorem zs_app (a : List Nat) (x : Nat) : iV (zs a) ++ [V.int (x : Int)] = iV (zs (a ++ [x])) := by
  unfold iV zs; simp
theorem zs_set (a : List Nat) (i x : Nat) : (iV (zs a)).set i (V.int (x : Int)) = iV (zs (a.set i x)) := by
  unfold iV zs; rw [List.map_set, List.map_set]
section
variable {P : Program} {w : World} {K : PySem.W.Frag} {mg : Str → Option Value} {base : Heap}
/-! ### best_in(self, t, k) -/
def spBest (CP CT : Addr) : Sp := fun vs H Q _ => ∃ (p t aw am ab dx : Addr) (fs : List (Str × V)) (b : B) (l : List Nat) (k : Nat), vs = [.ref p, .ref t, .int (k : Nat)] ∧ H p = some (.ins CP dx fs) ∧ fs.lookup ("bouts" : Str) = some (.ref ab) ∧
  RowsAt .tup H ab (pRows b l) ∧ TAt CT H t aw am b ∧ Inside b l ∧ b.count ≤ 6 ∧
  ∀ H' q, Same H H' → H q = none → H' q = some (.lst (iV (zs (bestOf b l k)))) → Q (.ref q) H'
abbrev nBest : List Str := ["self", "t", "k", "wins", "b", "bout", "w", "i"]
theorem scBest : FnScope nBest ["self", "t", "k"] (defScope sBest) := ⟨rfl, rfl, rfl, by decide +kernel, rfl, by decide +kernel, by decide +kernel⟩
theorem okBest {CP CT f : Addr} {fd : FuncData} (F : Fun K "best_in" "Prospect.best_in" sBest f fd) (TP : TxP K CP) (TT : TxT K CT) (G : Glo mg) : FnOk P w K mg base CX0 1 f fd ["self", "t", "k"] (spBest CP CT) := by
  refine F.ok scBest (fun vs H Q E h => ?_) (fun cdv A outer s H vs Q E hr h => ⟨_, pss_cons (ps_set (i := 3) scBest.nd rfl (Or.inr rfl) (pe_lc (own := [("w", 6)]) (g := gName 6) (tt := tYes) (te := tOp (rIxT K) (tVar 6) (tC (.int 1))) rfl scBest.nd (pi_list (pe_fld (pv 1) rfl)) (blkOk_by (N := nBest) (sc := defScope sBest) (by decide +kernel))
        (fun _ _ _ _ _ => pg_name (i := 6) scBest.nd rfl (Or.inl rfl)) (fun _ _ _ _ _ => pts_nil) (fun _ _ _ _ _ => pe_ix ix_tup (pv 6) pe_int (fun _ _ => rfl))))
    (pss_cons (ps_for PassesOwn.never rfl (pi_enum (by rfl) G.enumerate (pa_cons (pe_fld (pv 0) rfl) pa_nil)) (pg_tup rfl (pgs_cons (pg_name (i := 4) scBest.nd rfl (Or.inl rfl)) (pgs_cons (pg_name (i := 5) scBest.nd rfl (Or.inl rfl)) pgs_nil)))
      (pss_one (ps_augS (pv 3) (pe_ix ix_tup (pv 5) (pe_op op_and (pe_op op_shr (pv 2) (pv 4)) pe_int) (fun _ _ => rfl)) pget_list pe_int ip_add set_list)))
    (pss_one (ps_ret (pe_lc (own := [("i", 7), ("w", 6)]) (g := gTup K 2 (gCons (gName 7) (gCons (gName 6) gNil))) (tt := tTest (tOp rEq (tVar 6) (tCB (rMax K) (tCons (tVar 3) tNil)))) rfl scBest.nd (pi_enum (by rfl) G.enumerate (pa_cons (pv 3) pa_nil)) (blkOk_by (N := nBest) (sc := defScope sBest) (by decide +kernel))
        (fun _ _ _ _ _ => pg_tup rfl (pgs_cons (pg_name (i := 7) scBest.nd rfl (Or.inl rfl) (Or.inr rfl)) (pgs_cons (pg_name (i := 6) scBest.nd rfl (Or.inl rfl) (Or.inr rfl)) pgs_nil)))
        (fun _ _ _ _ _ => pts_one (pt_cmpR op_eq (pv 6) (pe_callB (cr_max rfl) (by rfl) G.max (by decide +kernel) (pa_cons (pv 3) pa_nil)) (nomark _))) (fun _ _ _ _ _ => pv 7))))), ?_⟩)
  · obtain ⟨p, t, aw, am, ab, dx, fs, b, l, k, rfl, _⟩ := h
    rfl
  · obtain ⟨p, t, aw, am, ab, dx, fs, b, l, k, rfl, hp, hf, hb, ht, hin, h6, K'⟩ := h
    obtain ⟨dt, htins⟩ := ht.ins
    obtain ⟨psw, hw, hws⟩ := id ht.wr
    refine ⟨_, rfl, t, CT, dt, _, _, rfl, htins, TT.cl, TT.nB, tF_wr, aw, rfl, ⟨_, SqL.of hw⟩, fun D hD => ?_⟩
    have hwl : psw.length = b.count := by rw [hws.length, wRows_len]
    refine lc_list (K := K) (a := aw) (xs := psw.map V.ref) (fun i H' => Same H H' ∧ H' D = some (.lst (iV (zs ((winsOf b).take i))))) ⟨Same.new hD, upd_same⟩ (fun i H' _ q => SqL.of (q.1 _ _ hw)) ?_ ?_
    · rintro i x H' hx ⟨s1, h1⟩
      obtain ⟨q, hq, rfl⟩ : ∃ q, psw[i]? = some q ∧ x = V.ref q := by
        rw [List.getElem?_map] at hx
        cases e : psw[i]? with
        | none => rw [e] at hx; cases hx
        | some z => rw [e] at hx; exact ⟨z, rfl, (Option.some.inj hx).symm⟩
      obtain ⟨r, hr, hrr⟩ := Paired.getL hws hq
      have hi : i < b.count := by
        rw [← hwl]
        exact (List.getElem?_eq_some_iff.mp hq).1
      rw [wRows_get hi] at hr
      obtain rfl := Option.some.inj hr
      have i1 : ∀ x y : V, atI [x, y] (1 : Int) = some y := fun x y => rfl
      refine ⟨rfl, _, rfl, q, _, _, _, rfl, rfl, SqT.of (s1 _ _ hrr), i1 _ _, _, h1, ?_, fun x o z => ?_, ?_⟩
      · rw [iV_len, zs_len, List.length_take]
        exact Nat.lt_of_le_of_lt (Nat.le_trans (Nat.min_le_left _ _) (by omega : i ≤ 6)) (by show 6 < sizeLine; decide)
      · rw [upd_ne (ne_of_none z hD)]
        exact s1 _ _ z
      · rw [upd_same]
        have e : (winsOf b)[i]? = some (b.of_ i).wins := by
          have hi' : i < b.wrestlers.length := hi
          unfold winsOf Sj09.Basho.of_
          rw [List.getElem?_map, List.getD_eq_getElem?_getD, List.getElem?_eq_getElem hi']
          rfl
        rw [take_more e, ← zs_app]
    · rintro H1 ⟨s1, h1⟩
      rw [List.length_map, hwl, ← winsOf_len b, List.take_length] at h1
      have htr : (pRows b l).length ≤ 6 := by
        rw [← pr_pairs]
        exact Nat.le_trans (pr_le _ _) h6
      obtain ⟨psb, hb1, hb2⟩ := id hb
      have hbl : psb.length = (pRows b l).length := hb2.length
      refine ⟨_, rfl, p, CP, dx, _, _, rfl, s1 _ _ hp, TP.cl, TP.nB, hf, ab, _, rfl, SqL.of (s1 _ _ hb1), ?_⟩
      have hnD : ab ≠ D := ne_of_none hb1 hD
      refine for_it (walk_enum (K := K) (a := ab) (xs := psb.map V.ref)) (fun j σ H' => ∃ (v4 v5 v6 v7 : Option V) (W : List Nat), σ = [some (.ref p), some (.ref t), some (.int (k : Nat)), some (.ref D), v4, v5, v6, v7] ∧ Same H H' ∧ H' D = some (.lst (iV (zs W))) ∧
        W.length = b.count ∧ wk k j ((Sj13.pairs b l).drop j) W = wkF b l k) ?_ (fun j σ H' _ ⟨_, _, _, _, _, _, q, _⟩ => SqL.of (q _ _ hb1)) ?_ ?_
      · exact ⟨none, none, none, none, winsOf b, rfl, s1, h1, winsOf_len b, rfl⟩
      · rintro j x σ H2 H3 hj ⟨v4, v5, v6, v7, W, rfl, s2, h2, hWl, eW⟩ ⟨Tt, x', y', rfl, nT, rfl, ex, ey⟩
        obtain rfl : x' = V.int (j : Nat) := (Option.some.inj ex).symm
        have ey' : (psb.map V.ref)[j]? = some y' := ey
        obtain ⟨q, hq, rfl⟩ : ∃ q, psb[j]? = some q ∧ y' = V.ref q := by
          rw [List.getElem?_map] at ey'
          cases e : psb[j]? with
          | none => rw [e] at ey'; cases ey'
          | some z => rw [e] at ey'; exact ⟨z, rfl, (Option.some.inj ey').symm⟩
        obtain ⟨r, hr, hrr⟩ := Paired.getL hb2 hq
        unfold pRows at hr
        rw [List.getElem?_map] at hr
        obtain ⟨q2, hq2, rfl⟩ : ∃ q2, (Sj13.pairs b l)[j]? = some q2 ∧ r = [(q2.1 : Int), (q2.2 : Int)] := by
          cases e : (Sj13.pairs b l)[j]? with
          | none => rw [e] at hr; cases hr
          | some z => rw [e] at hr; exact ⟨z, rfl, (Option.some.inj hr).symm⟩
        obtain ⟨hjl, hje⟩ := List.getElem?_eq_some_iff.mp hq2
        rw [List.drop_eq_getElem_cons hjl, hje] at eW
        have eW' : wk k (j + 1) ((Sj13.pairs b l).drop (j + 1)) (W.set (sel k j q2) (W.getD (sel k j q2) 0 + 1)) = wkF b l k := eW
        have hsel : sel k j q2 < b.count := sel_lt (pairs_lt hin q2 (List.mem_of_getElem? hq2))
        have sT : Same H2 (upd H2 Tt (.tup [V.int (j : Nat), V.ref q])) := Same.new nT
        have hat : atI [V.int (q2.1 : Int), V.int (q2.2 : Int)] (Builtin.bitAnd ((k : Int) / 2 ^ ((j : Int)).toNat) 1) = some (V.int (sel k j q2 : Nat)) := by
          rw [bit_of]
          unfold sel
          cases k.testBit j <;> rfl
        have hget : atI (iV (zs W)) ((sel k j q2 : Nat) : Int) = some (V.int ((W.getD (sel k j q2) 0 : Nat) : Int)) := by
          rw [iV_get (by rw [zs_len, hWl]; exact hsel), zs_getD]
        refine ⟨Tt, _, rfl, SqT.of upd_same, rfl, _, _, rfl, _, _, rfl, rfl, ?_⟩
        refine ⟨_, rfl, _, rfl, _, rfl, _, rfl, _, _, rfl, rfl, by omega, _, _, rfl, rfl, q, _, _, _, rfl, rfl, SqT.of (sT _ _ (s2 _ _ hrr)), hat, ?_⟩
        refine ⟨D, _, _, _, rfl, rfl, SqL.of (sT _ _ h2), by omega, hget, _, _, rfl, rfl, D, _, _, sel k j q2, rfl, rfl, sT _ _ h2, ixN_nat (by rw [iV_len, zs_len, hWl]; exact hsel), ?_⟩
        refine ⟨_, _, v6, v7, W.set (sel k j q2) (W.getD (sel k j q2) 0 + 1), rfl, fun x o z => ?_, ?_, by rw [List.length_set]; exact hWl, eW'⟩
        · rw [upd_ne (ne_of_none z hD)]
          exact sT _ _ (s2 _ _ z)
        · rw [upd_same, ← zs_set]
          rfl
      · rintro σ H2 ⟨v4, v5, v6, v7, W, rfl, s2, h2, hWl, eW⟩
        have hpl : (psb.map V.ref).length = (Sj13.pairs b l).length := by
          rw [List.length_map, hbl]
          unfold pRows
          rw [List.length_map]
        rw [hpl, List.drop_length] at eW
        have eW' : W = wkF b l k := eW
        subst eW'
        refine ⟨_, rfl, D, _, rfl, SqL.of h2, fun D2 hD2 => ?_⟩
        have nD2 : H D2 = none := s2.free hD2
        have len2 : (iV (zs (wkF b l k))).length = b.count := by rw [iV_len, zs_len, hWl]
        refine lc_it (walk_enum (K := K) (a := D) (xs := iV (zs (wkF b l k)))) (fun i H' => Same H2 H' ∧ H' D2 = some (.lst (iV (zs ((List.range i).filter fun i => (st b l).first (oc b l k) i))))) ⟨Same.new hD2, upd_same⟩ (fun i H' _ q => SqL.of (q.1 _ _ h2)) ?_ ?_
        · rintro i x H3 H4 hi ⟨s3, h3⟩ ⟨Tt, x', y', rfl, nT, rfl, ex, ey⟩
          obtain rfl : x' = V.int (i : Nat) := (Option.some.inj ex).symm
          rw [len2] at hi
          obtain rfl : y' = V.int (((wkF b l k).getD i 0 : Nat) : Int) := zs_at (by rw [hWl]; exact hi) ey
          have sT : Same H3 (upd H3 Tt (.tup [V.int (i : Nat), V.int (((wkF b l k).getD i 0 : Nat) : Int)])) := Same.new nT
          refine ⟨Tt, _, rfl, SqT.of upd_same, rfl, _, _, rfl, _, _, rfl, rfl, rfl, ?_⟩
          refine ⟨_, rfl, _, rfl, D, zs (wkF b l k), rfl, SqL.of (sT _ _ (s3 _ _ h2)), by rw [zs_len, hWl]; omega, fun m hm hmx => ⟨rfl, _, rfl, ?_⟩⟩
          obtain ⟨m', hm', rfl⟩ := List.mem_map.mp (show m ∈ (wkF b l k).map fun (n : Nat) => (n : Int) from hm)
          have hmax := max_first hin (k := k) hi hm' (fun x hx => by
            have := hmx (x : Int) (List.mem_map.mpr ⟨x, hx, rfl⟩)
            omega)
          have er : (List.range (i + 1)).filter (fun i => (st b l).first (oc b l k) i) = (List.range i).filter (fun i => (st b l).first (oc b l k) i) ++ if (st b l).first (oc b l k) i = true then [i] else [] := by
            rw [List.range_succ, List.filter_append, List.filter_cons]
            rfl
          cases c : (st b l).first (oc b l k) i with
          | true =>
            rw [decide_eq_true (show V.int (((wkF b l k).getD i 0 : Nat) : Int) = V.int (m' : Int) by rw [hmax.mpr c])]
            refine iteT ⟨_, rfl, _, sT _ _ h3, ?_, fun x o z => ?_, ?_⟩
            · rw [iV_len, zs_len]
              exact Nat.lt_of_le_of_lt (Nat.le_trans (List.length_filter_le _ _) (by rw [List.length_range]; omega : (List.range i).length ≤ 6)) (by show 6 < sizeLine; decide)
            · rw [upd_ne (ne_of_none z hD2)]
              exact sT _ _ (s3 _ _ z)
            · rw [upd_same, er, c, if_pos rfl, ← zs_app]
          | false =>
            rw [decide_eq_false (show ¬ V.int (((wkF b l k).getD i 0 : Nat) : Int) = V.int (m' : Int) by
              intro e
              have e' : (wkF b l k).getD i 0 = m' := by
                have := V.int.inj e
                omega
              rw [hmax.mp e'] at c
              cases c)]
            refine iteF ⟨s3.trans sT, ?_⟩
            rw [er, c, if_neg Bool.false_ne_true, List.append_nil]
            exact sT _ _ h3
        · rintro H3 ⟨s3, h3⟩
          rw [len2] at h3
          exact K' H3 D2 (s2.trans s3) nD2 h3
end
end Dy

namespace Dy
open PySem PySem.Spec PyProof.Rows L2
/-! ### a prospect -/
def pF (ad ab aa : Addr) (b : B) (l : List Nat) : List (Str × V) := [("day", .ref ad), ("bouts", .ref ab), ("off", .int (b.cost l : Nat)), ("outcomes", .int ((2 ^ b.bouts l : Nat) : Int)), ("play_offs", .int (Sj13.level b l : Nat)), ("able", .ref aa)]
theorem pF_day {ad ab aa : Addr} {b : B} {l : List Nat} : (pF ad ab aa b l).lookup ("day" : Str) = some (.ref ad) := by unfold pF; (repeat (refine (lk_past (by decide +kernel)).trans ?_)); exact lk_here
theorem pF_bouts {ad ab aa : Addr} {b : B} {l : List Nat} : (pF ad ab aa b l).lookup ("bouts" : Str) = some (.ref ab) := by unfold pF; (repeat (refine (lk_past (by decide +kernel)).trans ?_)); exact lk_here
theorem pF_off {ad ab aa : Addr} {b : B} {l : List Nat} : (pF ad ab aa b l).lookup ("off" : Str) = some (.int (b.cost l : Nat)) := by unfold pF; (repeat (refine (lk_past (by decide +kernel)).trans ?_)); exact lk_here
theorem pF_out {ad ab aa : Addr} {b : B} {l : List Nat} : (pF ad ab aa b l).lookup ("outcomes" : Str) = some (.int ((2 ^ b.bouts l : Nat) : Int)) := by unfold pF; (repeat (refine (lk_past (by decide +kernel)).trans ?_)); exact lk_here
theorem pF_play {ad ab aa : Addr} {b : B} {l : List Nat} : (pF ad ab aa b l).lookup ("play_offs" : Str) = some (.int (Sj13.level b l : Nat)) := by unfold pF; (repeat (refine (lk_past (by decide +kernel)).trans ?_)); exact lk_here
theorem pF_able {ad ab aa : Addr} {b : B} {l : List Nat} : (pF ad ab aa b l).lookup ("able" : Str) = some (.ref aa) := by unfold pF; (repeat (refine (lk_past (by decide +kernel)).trans ?_)); exact lk_here
theorem pF_no {ad ab aa : Addr} {b : B} {l : List Nat} {m : Str} (h : ((m == ("day" : Str)) || (m == ("bouts" : Str)) || (m == ("off" : Str)) || (m == ("outcomes" : Str)) || (m == ("play_offs" : Str)) || (m == ("able" : Str))) = false) : (pF ad ab aa b l).lookup m = none := by
  simp only [Bool.or_eq_false_iff] at h
  unfold pF
  exact (lk_past h.1.1.1.1.1).trans ((lk_past h.1.1.1.1.2).trans ((lk_past h.1.1.1.2).trans ((lk_past h.1.1.2).trans ((lk_past h.1.2).trans ((lk_past h.2).trans rfl)))))
structure PAt (C : Addr) (H : Hp) (b : B) (p : Addr) (l : List Nat) : Prop where
  at_ : ∃ dx ad ab aa, H p = some (.ins C dx (pF ad ab aa b l)) ∧ H ad = some (.lst (iV (zs l))) ∧ RowsAt .tup H ab (pRows b l) ∧ H aa = some (.lst (iV (zs (Sj13.alive b l))))
theorem PAt.same {C : Addr} {H H' : Hp} {b : B} {p : Addr} {l : List Nat} (x : PAt C H b p l) (s : Same H H') : PAt C H' b p l := by
  obtain ⟨dx, ad, ab, aa, h1, h2, h3, h4⟩ := x.at_
  exact ⟨dx, ad, ab, aa, s _ _ h1, s _ _ h2, h3.same s, s _ _ h4⟩
theorem pRows_len (b : B) (l : List Nat) : (pRows b l).length = b.bouts l := by
  unfold pRows
  rw [List.length_map, pairs_length]
theorem even_test (a : Nat) : V.bl (decide (V.int (Builtin.bitAnd (a : Int) 1) = V.int 0)) = V.bl (decide (a % 2 = 0)) := by
  rw [bitAnd_m1]
  refine congrArg V.bl ?_
  by_cases h : a % 2 = 0
  · rw [decide_eq_true h, decide_eq_true (show V.int ((a : Int) % 2) = V.int 0 by rw [show ((a : Int) % 2) = 0 by omega])]
  · rw [decide_eq_false h, decide_eq_false (show ¬ V.int ((a : Int) % 2) = V.int 0 by intro q; have := V.int.inj q; omega)]
section
variable {P : Program} {w : World} {K : PySem.W.Frag} {mg : Str → Option Value} {base : Heap}
/-! ### chance(self) -/
def spChance (C : Addr) : Sp := fun vs H Q _ => ∃ (p : Addr) (b : B) (l : List Nat), vs = [.ref p] ∧ PAt C H b p l ∧ b.bouts l ≤ 3 ∧
  ∀ H' q, Same H H' → H q = none → H' q = some (.lst (iV (zs (Sj13.parts (Sj13.level b l) (b.bouts l))))) → Q (.ref q) H'
abbrev nChance : List Str := ["self", "above", "below"]
theorem scChance : FnScope nChance ["self"] (defScope sChance) := ⟨rfl, rfl, rfl, by decide +kernel, rfl, by decide +kernel, by decide +kernel⟩
theorem okChance {C f : Addr} {fd : FuncData} (F : Fun K "chance" "Prospect.chance" sChance f fd) (T : TxP K C) : FnOk P w K mg base CX0 1 f fd ["self"] (spChance C) := by
  refine F.ok scChance (fun vs H Q E h => ?_) (fun cdv A outer s H vs Q E hr h => ⟨_, pss_cons (ps_set (i := 1) scChance.nd rfl (Or.inl rfl) (pe_fld (pv 0) rfl))
    (pss_cons (ps_set (i := 2) scChance.nd rfl (Or.inl rfl) (pe_fld (pv 0) rfl))
    (pss_cons (ps_while PassesOwn.never (PW.pt (pw_and (pt_cmpR op_gt (pv 2) pe_int (nomark _)) (pw_and (pt_cmpR op_eq (pe_op op_and (pv 1) pe_int) pe_int (nomark _)) (pw_and1 (pt_cmpR op_eq (pe_op op_and (pv 2) pe_int) pe_int (nomark _))))))
      (pss_cons (ps_set (i := 1) scChance.nd rfl (Or.inl rfl) (pe_op op_fdiv (pv 1) pe_int)) (pss_one (ps_set (i := 2) scChance.nd rfl (Or.inl rfl) (pe_op op_fdiv (pv 2) pe_int)))))
    (pss_one (ps_ret (pe_ifExp (pt_cmpR op_gt (pv 1) pe_int (nomark _)) (pe_lst (pa_cons (pv 1) (pa_cons (pv 2) pa_nil))) (pe_lst (pa_cons pe_int (pa_cons pe_int pa_nil)))))))), ?_⟩)
  · obtain ⟨p, b, l, rfl, _⟩ := h
    rfl
  · obtain ⟨p, b, l, rfl, hP, h3, k⟩ := h
    obtain ⟨dx, ad, ab, aa, hp, hd, hb, ha⟩ := hP.at_
    have l8 : Sj13.level b l ≤ 8 := level_le8 h3
    have fin := red_parts _ h3 _ l8
    refine ⟨_, rfl, p, C, dx, _, _, rfl, hp, T.cl, T.nP, pF_play, ?_⟩
    refine ⟨_, rfl, p, C, dx, _, _, rfl, hp, T.cl, T.nU, pF_out, ?_⟩
    refine ⟨fun m σ H' => H' = H ∧ ∃ a : Nat, σ = [some (.ref p), some (.int (a : Nat)), some (.int ((2 ^ m : Nat) : Int))] ∧ red a m = red (Sj13.level b l) (b.bouts l) ∧ (a = 0 → Sj13.level b l = 0) ∧ (Sj13.level b l = 0 → a = 0), ⟨b.bouts l, rfl, Sj13.level b l, rfl, rfl, fun h => h, fun h => h⟩, ?_⟩
    rintro m σ H' ⟨rfl, a, rfl, e, z1, z2⟩
    -- behind the loop
    have out : red a m = (a, 2 ^ m) → tRet (tIf (tTest (tOp (rI0 fun i j => .bl (decide (j < i))) (tVar 1) (tC (.int 0)))) (tLst (tCons (tVar 1) (tCons (tVar 2) tNil))) (tLst (tCons (tC (.int 0)) (tCons (tC (.int 1)) tNil)))) { nx := fun _ H' => Q .non H', rt := Q } [some (.ref p), some (.int (a : Nat)), some (.int ((2 ^ m : Nat) : Int))] H' := by
      intro e2
      rw [e2] at e
      refine ⟨_, rfl, _, _, rfl, rfl, _, rfl, ite2 (fun c => ?_) fun c => ?_⟩
      · have c' := of_decide_eq_true c
        have la : 0 < Sj13.level b l := by
          rcases Nat.eq_zero_or_pos (Sj13.level b l) with q | q
          · have := z2 q; omega
          · exact q
        rw [if_pos la, ← e] at fin
        refine ⟨_, rfl, _, rfl, (by show 2 ≤ sizeLine; decide), fun q hq => ?_⟩
        refine k _ q (Same.new hq) hq ?_
        rw [upd_same, fin]
        rfl
      · have c' : a = 0 := by
          have : ¬ (0 : Int) < a := fun q => c (decide_eq_true q)
          omega
        have la : ¬ 0 < Sj13.level b l := by
          have := z1 c'; omega
        rw [if_neg la] at fin
        refine ⟨(by show 2 ≤ sizeLine; decide), fun q hq => ?_⟩
        refine k _ q (Same.new hq) hq ?_
        rw [upd_same, fin]
        rfl
    match m, e, out with
    | 0, e, out =>
      refine ⟨_, rfl, _, _, rfl, rfl, _, rfl, ?_⟩
      exact out rfl
    | m + 1, e, out =>
      have hpow : 1 < 2 ^ (m + 1) := Nat.one_lt_two_pow (Nat.succ_ne_zero m)
      refine ⟨_, rfl, _, _, rfl, rfl, _, rfl, ?_⟩
      rw [decide_eq_true (show (1 : Int) < ((2 ^ (m + 1) : Nat) : Int) by omega)]
      refine iteT ?_
      refine ⟨_, rfl, _, _, rfl, rfl, rfl, _, even_test a, ?_⟩
      by_cases ha2 : a % 2 = 0
      · rw [decide_eq_true ha2]
        refine iteT ?_
        refine ⟨_, rfl, _, _, rfl, rfl, rfl, _, even_test (2 ^ (m + 1)), ?_⟩
        have hp2 : 2 ^ (m + 1) = 2 * 2 ^ m := by rw [Nat.pow_succ, Nat.mul_comm]
        rw [decide_eq_true (show 2 ^ (m + 1) % 2 = 0 by omega)]
        refine iteT ?_
        refine ⟨fun σ H'' => H'' = H' ∧ σ = [some (.ref p), some (.int ((a / 2 : Nat) : Int)), some (.int ((2 ^ m : Nat) : Int))], ?_, ?_⟩
        · rintro σ' H'' ⟨rfl, rfl⟩
          have er : red a (m + 1) = red (a / 2) m := if_pos ha2
          exact ⟨m, Nat.lt_succ_self m, rfl, a / 2, rfl, by rw [← er]; exact e, fun h => z1 (by omega), fun h => by rw [z2 h]⟩
        · refine ⟨_, rfl, _, _, rfl, rfl, ⟨by decide, by decide⟩, ?_⟩
          refine ⟨_, rfl, _, _, rfl, rfl, ⟨by decide, by decide⟩, rfl, ?_⟩
          have e1 : (a : Int) / 2 = ((a / 2 : Nat) : Int) := by omega
          have e2 : ((2 ^ (m + 1) : Nat) : Int) / 2 = ((2 ^ m : Nat) : Int) := by omega
          show ([some (V.ref p), some (V.int ((a : Int) / 2)), some (V.int (((2 ^ (m + 1) : Nat) : Int) / 2))] : L2.St) = _
          rw [e1, e2]
      · rw [decide_eq_false ha2]
        refine iteF ?_
        refine iteF ?_
        exact out (if_neg ha2)
/-! ### openness(self), tension(self) -/
def spKey (C : Addr) (key : B → List Nat → List Int) : Sp := fun vs H Q _ => ∃ (p : Addr) (b : B) (l : List Nat), vs = [.ref p] ∧ PAt C H b p l ∧ b.bouts l ≤ 3 ∧
  ∀ H' q, Same H H' → H q = none → H' q = some (.tup (iV (key b l))) → Q (.ref q) H'
def oK (b : B) (l : List Nat) : List Int := [((Sj13.alive b l).length : Nat), (b.bouts l : Nat), -(b.cost l : Nat)]
def tK (b : B) (l : List Nat) : List Int := [(b.bouts l : Nat), ((Sj13.level b l * 8 / 2 ^ b.bouts l : Nat) : Int), -(b.cost l : Nat)]
theorem scOpenness : FnScope ["self"] ["self"] (defScope sOpenness) := ⟨rfl, rfl, rfl, by decide +kernel, rfl, by decide +kernel, by decide +kernel⟩
theorem scTension : FnScope ["self"] ["self"] (defScope sTension) := ⟨rfl, rfl, rfl, by decide +kernel, rfl, by decide +kernel, by decide +kernel⟩
theorem okOpenness {C f : Addr} {fd : FuncData} (F : Fun K "openness" "Prospect.openness" sOpenness f fd) (T : TxP K C) (G : Glo mg) : FnOk P w K mg base CX0 1 f fd ["self"] (spKey C oK) := by
  refine F.ok scOpenness (fun vs H Q E h => ?_) (fun cdv A outer s H vs Q E hr h => ⟨_, pss_one (ps_ret (pe_tup (pa_cons (pe_callB call_len_seq (by rfl) G.len PySem.boot_len (pa_cons (pe_fld (pv 0) rfl) pa_nil))
    (pa_cons (pe_callB call_len_seq (by rfl) G.len PySem.boot_len (pa_cons (pe_fld (pv 0) rfl) pa_nil)) (pa_cons (pe_un un_neg (pe_fld (pv 0) rfl)) pa_nil))))), ?_⟩)
  · obtain ⟨p, b, l, rfl, _⟩ := h
    rfl
  · obtain ⟨p, b, l, rfl, hP, h3, k⟩ := h
    obtain ⟨dx, ad, ab, aa, hp, hd, ⟨psb, hb, hbr⟩, ha⟩ := hP.at_
    refine ⟨_, rfl, p, C, dx, _, _, rfl, hp, T.cl, T.nA, pF_able, aa, _, rfl, .inl (SqL.of ha), ?_⟩
    refine ⟨_, rfl, p, C, dx, _, _, rfl, hp, T.cl, T.nB, pF_bouts, ab, _, rfl, .inl (SqL.of hb), ?_⟩
    refine ⟨_, rfl, p, C, dx, _, _, rfl, hp, T.cl, T.nO, pF_off, _, rfl, (by show 3 ≤ sizeLine; decide), fun q hq => ?_⟩
    refine k _ q (Same.new hq) hq ?_
    rw [upd_same, iV_len, zs_len, List.length_map, hbr.length, pRows_len]
    rfl
theorem okTension {C f : Addr} {fd : FuncData} (F : Fun K "tension" "Prospect.tension" sTension f fd) (T : TxP K C) (G : Glo mg) : FnOk P w K mg base CX0 1 f fd ["self"] (spKey C tK) := by
  refine F.ok scTension (fun vs H Q E h => ?_) (fun cdv A outer s H vs Q E hr h => ⟨_, pss_one (ps_ret (pe_tup (pa_cons (pe_callB call_len_seq (by rfl) G.len PySem.boot_len (pa_cons (pe_fld (pv 0) rfl) pa_nil))
    (pa_cons (pe_op op_fdiv (pe_op op_mul (pe_fld (pv 0) rfl) pe_int) (pe_fld (pv 0) rfl)) (pa_cons (pe_un un_neg (pe_fld (pv 0) rfl)) pa_nil))))), ?_⟩)
  · obtain ⟨p, b, l, rfl, _⟩ := h
    rfl
  · obtain ⟨p, b, l, rfl, hP, h3, k⟩ := h
    obtain ⟨dx, ad, ab, aa, hp, hd, ⟨psb, hb, hbr⟩, ha⟩ := hP.at_
    have hpow : 2 ^ b.bouts l ≤ 2 ^ 3 := Nat.pow_le_pow_right (by decide) h3
    have hpos : 0 < 2 ^ b.bouts l := Nat.two_pow_pos _
    refine ⟨_, rfl, p, C, dx, _, _, rfl, hp, T.cl, T.nB, pF_bouts, ab, _, rfl, .inl (SqL.of hb), ?_⟩
    refine ⟨_, rfl, p, C, dx, _, _, rfl, hp, T.cl, T.nP, pF_play, _, _, rfl, rfl, .inr ⟨by decide, by decide⟩, ?_⟩
    refine ⟨_, rfl, p, C, dx, _, _, rfl, hp, T.cl, T.nU, pF_out, _, _, rfl, rfl, ⟨by omega, by omega⟩, ?_⟩
    refine ⟨_, rfl, p, C, dx, _, _, rfl, hp, T.cl, T.nO, pF_off, _, rfl, (by show 3 ≤ sizeLine; decide), fun q hq => ?_⟩
    refine k _ q (Same.new hq) hq ?_
    rw [upd_same, List.length_map, hbr.length, pRows_len]
    unfold tK
    rw [Int.natCast_ediv, Int.natCast_mul]
    rfl
end
end Dy

namespace Dy
open PySem PySem.Spec PyProof.Rows L2
/-! ### Prospect.__init__ -/
/-- all but the object at p stands -/
def But (p : Addr) (H H' : Hp) : Prop := ∀ q o, H q = some o → q ≠ p → H' q = some o
theorem But.refl {p : Addr} {H : Hp} : But p H H := fun _ _ h _ => h
theorem But.same {p : Addr} {H H1 H2 : Hp} (a : But p H H1) (s : Same H1 H2) : But p H H2 := fun q o h n => s _ _ (a q o h n)
theorem But.put {p : Addr} {H H1 : Hp} {o : HO} (a : But p H H1) : But p H (upd H1 p o) := fun q u h n => by
  rw [upd_ne n]
  exact a q u h n
theorem But.new {p x : Addr} {H H1 : Hp} {o : HO} (a : But p H H1) (h : H x = none) : But p H (upd H1 x o) := fun q u e n => by
  rw [upd_ne (ne_of_none e h)]
  exact a q u e n
/-- an object of another kind is changed -/
theorem RowsAt.upd {f : List V → HO} {H : Hp} {a x : Addr} {rows : List (List Int)} {o : HO} (r : RowsAt f H a rows) (hx : ∀ u, H x = some u → (∀ xs, u ≠ .lst xs) ∧ ∀ xs, u ≠ f xs) : RowsAt f (upd H x o) a rows := by
  obtain ⟨ps, h1, h2⟩ := r
  refine ⟨ps, ?_, Paired.imp h2 fun q y _ e => ?_⟩
  · rw [upd_ne (fun e => (hx _ (e ▸ h1)).1 _ rfl)]
    exact h1
  · rw [upd_ne (fun z => (hx _ (z ▸ e)).2 _ rfl)]
    exact e
theorem RowsAt.but {H H' : Hp} {p a C dx : Addr} {fs : List (Str × V)} {rows : List (List Int)} (r : RowsAt .tup H a rows) (s : But p H H') (hp : H p = some (.ins C dx fs)) : RowsAt .tup H' a rows := by
  obtain ⟨ps, h1, h2⟩ := r
  refine ⟨ps, s _ _ h1 (ne_of h1 hp (by intro z; cases z)), Paired.imp h2 fun q y _ e => s _ _ e (ne_of e hp (by intro z; cases z))⟩
theorem TAt.but {C D dx p : Addr} {H H' : Hp} {a aw am : Addr} {b : B} {fs : List (Str × V)} (t : TAt C H a aw am b) (s : But p H H') (hp : H p = some (.ins D dx fs)) (ne : a ≠ p) : TAt C H' a aw am b := by
  obtain ⟨⟨dt, h⟩, h2, h3⟩ := t
  exact ⟨⟨dt, s _ _ h ne⟩, h2.but s hp, h3.but s hp⟩
def dk (ks : List Nat) : List (Key × V) := ks.map fun (i : Nat) => (Sum.inl (i : Int), V.bl true)
def insK (ks : List Nat) (i : Nat) : List Nat := if i ∈ ks then ks else ks ++ [i]
theorem dk_put (ks : List Nat) (i : Nat) : putK (dk ks) (Sum.inl (i : Int)) (V.bl true) = dk (insK ks i) := by
  have ea : ((dk ks).any fun kv => decide (kv.1 = (Sum.inl (i : Int) : Key))) = decide (i ∈ ks) := by
    unfold dk
    induction ks with
    | nil => rfl
    | cons x r ih =>
      rw [List.map_cons, List.any_cons, ih]
      by_cases h : x = i
      · subst h; simp
      · have h2 : ¬ (Sum.inl (x : Int) : Key) = Sum.inl (i : Int) := fun q => h (by have := Sum.inl.inj q; omega)
        rw [decide_eq_false h2, Bool.false_or]
        have : (i ∈ x :: r) ↔ (i ∈ r) := by
          rw [List.mem_cons]
          exact ⟨fun q => q.resolve_left (Ne.symm h), .inr⟩
        simp only [this]
  unfold putK
  rw [ea]
  unfold insK
  by_cases h : i ∈ ks
  · rw [if_pos (decide_eq_true h), if_pos h]
    unfold dk
    rw [List.map_map]
    refine List.map_congr_left fun x _ => ?_
    show (if (Sum.inl (x : Int) : Key) = Sum.inl (i : Int) then ((Sum.inl (x : Int) : Key), V.bl true) else (Sum.inl (x : Int), V.bl true)) = _
    split <;> rfl
  · rw [if_neg (by simpa using h), if_neg h]
    unfold dk
    rw [List.map_append]
    rfl
theorem mem_insK {ks : List Nat} {i x : Nat} : x ∈ insK ks i ↔ x ∈ ks ∨ x = i := by
  unfold insK
  split
  · exact ⟨.inl, fun h => h.elim id fun e => e ▸ (by assumption)⟩
  · rw [List.mem_append, List.mem_singleton]
theorem nd_insK {ks : List Nat} {i : Nat} (h : ks.Nodup) : (insK ks i).Nodup := by
  unfold insK
  split
  · exact h
  · rename_i q
    rw [List.nodup_append]
    refine ⟨h, by simp, fun a ha b hb e => ?_⟩
    rw [List.mem_singleton.mp hb] at e
    exact q (e ▸ ha)
def pG (ad ab : Addr) (off out po : Int) : List (Str × V) := [("day", .ref ad), ("bouts", .ref ab), ("off", .int off), ("outcomes", .int out), ("play_offs", .int po)]
theorem pG_put (ad ab : Addr) (off out po po' : Int) : putF "play_offs" (.int po') (pG ad ab off out po) = pG ad ab off out po' := by
  unfold pG
  exact (put_past (by decide +kernel)).trans (congrArg _ ((put_past (by decide +kernel)).trans (congrArg _ ((put_past (by decide +kernel)).trans (congrArg _ ((put_past (by decide +kernel)).trans (congrArg _ put_here)))))))
theorem pG_play {ad ab : Addr} {off out po : Int} : (pG ad ab off out po).lookup ("play_offs" : Str) = some (.int po) := by unfold pG; (repeat (refine (lk_past (by decide +kernel)).trans ?_)); exact lk_here
theorem pG_bouts {ad ab : Addr} {off out po : Int} : (pG ad ab off out po).lookup ("bouts" : Str) = some (.ref ab) := by unfold pG; (repeat (refine (lk_past (by decide +kernel)).trans ?_)); exact lk_here
theorem pG_out {ad ab : Addr} {off out po : Int} : (pG ad ab off out po).lookup ("outcomes" : Str) = some (.int out) := by unfold pG; (repeat (refine (lk_past (by decide +kernel)).trans ?_)); exact lk_here
theorem pG_no {ad ab : Addr} {off out po : Int} {m : Str} (h : ((m == ("day" : Str)) || (m == ("bouts" : Str)) || (m == ("off" : Str)) || (m == ("outcomes" : Str)) || (m == ("play_offs" : Str))) = false) : (pG ad ab off out po).lookup m = none := by
  simp only [Bool.or_eq_false_iff] at h
  unfold pG
  exact (lk_past h.1.1.1.1).trans ((lk_past h.1.1.1.2).trans ((lk_past h.1.1.2).trans ((lk_past h.1.2).trans ((lk_past h.2).trans rfl))))
theorem pG_able (ad ab aa : Addr) (b : B) (l : List Nat) : putF "able" (.ref aa) (pG ad ab (b.cost l : Nat) ((2 ^ b.bouts l : Nat) : Int) (Sj13.level b l : Nat)) = pF ad ab aa b l := by
  unfold pG
  exact (put_past (by decide +kernel)).trans (congrArg _ ((put_past (by decide +kernel)).trans (congrArg _ ((put_past (by decide +kernel)).trans (congrArg _ ((put_past (by decide +kernel)).trans (congrArg _ ((put_past (by decide +kernel)).trans rfl))))))))
theorem pG_new (ad ab : Addr) (off out : Int) : putF "play_offs" (.int 0) (putF "outcomes" (.int out) (putF "off" (.int off) (putF "bouts" (.ref ab) (putF "day" (.ref ad) [])))) = pG ad ab off out 0 := by
  have e1 : putF "day" (.ref ad) [] = [(("day" : Str), V.ref ad)] := rfl
  have e2 : putF "bouts" (.ref ab) [(("day" : Str), V.ref ad)] = [(("day" : Str), V.ref ad), ("bouts", .ref ab)] := (put_past (by decide +kernel)).trans rfl
  have e3 : putF "off" (.int off) [(("day" : Str), V.ref ad), ("bouts", .ref ab)] = [(("day" : Str), V.ref ad), ("bouts", .ref ab), ("off", .int off)] := (put_past (by decide +kernel)).trans (congrArg _ ((put_past (by decide +kernel)).trans rfl))
  have e4 : putF "outcomes" (.int out) [(("day" : Str), V.ref ad), ("bouts", .ref ab), ("off", .int off)] = [(("day" : Str), V.ref ad), ("bouts", .ref ab), ("off", .int off), ("outcomes", .int out)] := (put_past (by decide +kernel)).trans (congrArg _ ((put_past (by decide +kernel)).trans (congrArg _ ((put_past (by decide +kernel)).trans rfl))))
  have e5 : putF "play_offs" (.int 0) [(("day" : Str), V.ref ad), ("bouts", .ref ab), ("off", .int off), ("outcomes", .int out)] = pG ad ab off out 0 := (put_past (by decide +kernel)).trans (congrArg _ ((put_past (by decide +kernel)).trans (congrArg _ ((put_past (by decide +kernel)).trans (congrArg _ ((put_past (by decide +kernel)).trans rfl))))))
  rw [e1, e2, e3, e4, e5]
theorem bouts_new1 (ad ab : Addr) : (putF "bouts" (.ref ab) (putF "day" (.ref ad) [])).lookup ("bouts" : Str) = some (.ref ab) := by
  have e2 : putF "bouts" (.ref ab) [(("day" : Str), V.ref ad)] = [(("day" : Str), V.ref ad), ("bouts", .ref ab)] := (put_past (by decide +kernel)).trans rfl
  show (putF "bouts" (.ref ab) [(("day" : Str), V.ref ad)]).lookup ("bouts" : Str) = _
  rw [e2]
  exact (lk_past (by decide +kernel)).trans lk_here
theorem bouts_new2 (ad ab : Addr) (off : Int) : (putF "off" (.int off) (putF "bouts" (.ref ab) (putF "day" (.ref ad) []))).lookup ("bouts" : Str) = some (.ref ab) := by
  have e2 : putF "bouts" (.ref ab) [(("day" : Str), V.ref ad)] = [(("day" : Str), V.ref ad), ("bouts", .ref ab)] := (put_past (by decide +kernel)).trans rfl
  have e3 : putF "off" (.int off) [(("day" : Str), V.ref ad), ("bouts", .ref ab)] = [(("day" : Str), V.ref ad), ("bouts", .ref ab), ("off", .int off)] := (put_past (by decide +kernel)).trans (congrArg _ ((put_past (by decide +kernel)).trans rfl))
  show (putF "off" (.int off) (putF "bouts" (.ref ab) [(("day" : Str), V.ref ad)])).lookup ("bouts" : Str) = _
  rw [e2, e3]
  exact (lk_past (by decide +kernel)).trans lk_here
theorem sum_cast : ∀ l : List Nat, (l.map fun (n : Nat) => (n : Int)).sum = ((l.sum : Nat) : Int)
  | [] => rfl
  | x :: r => by rw [List.map_cons, List.sum_cons, sum_cast r, List.sum_cons, Int.natCast_add]
def poN (b : B) (l : List Nat) (k : Nat) : Nat := ((List.range k).filter (poff b l)).length
theorem poN_more (b : B) (l : List Nat) (k : Nat) : poN b l (k + 1) = poN b l k + if (bestOf b l k).length ≠ 1 then 1 else 0 := by
  unfold poN
  rw [List.range_succ, List.filter_append, List.length_append, List.filter_cons]
  unfold poff
  by_cases h : (bestOf b l k).length ≠ 1
  · rw [if_pos (decide_eq_true h), if_pos h]; rfl
  · rw [if_neg (by simpa using h), if_neg h]; rfl
theorem best_le (b : B) (l : List Nat) (k : Nat) : (bestOf b l k).length ≤ b.count := by
  unfold bestOf
  exact Nat.le_trans (List.length_filter_le _ _) (Nat.le_of_eq List.length_range)
end Dy

namespace Dy
open PySem PySem.Spec PyProof.Rows L2
theorem dk_len (ks : List Nat) : (dk ks).length = ks.length := List.length_map ..
/-- what sorted hands over is who's alive -/
theorem sorted_is {ys : List Int} {ks al : List Nat} (hp : ys.Perm (zs ks)) (hs : ys.Pairwise (· ≤ ·)) (hn : ks.Nodup) (ha : al.Pairwise (· < ·)) (hm : ∀ x, x ∈ ks ↔ x ∈ al) : ys = zs al := by
  have e1 : ys = zs (ys.map Int.toNat) := by
    unfold zs
    rw [List.map_map]
    have : ∀ z ∈ ys, ((fun (n : Nat) => (n : Int)) ∘ Int.toNat) z = z := fun z hz => by
      obtain ⟨n, _, rfl⟩ := List.mem_map.mp (hp.mem_iff.mp hz)
      rfl
    rw [List.map_congr_left this, List.map_id']
  have hp2 : (ys.map Int.toNat).Perm ks := by
    have := hp.map Int.toNat
    have e : (zs ks).map Int.toNat = ks := by
      unfold zs
      rw [List.map_map]
      have : ∀ z ∈ ks, (Int.toNat ∘ fun (n : Nat) => (n : Int)) z = z := fun z _ => rfl
      rw [List.map_congr_left this, List.map_id']
    rw [e] at this
    exact this
  have hle : (ys.map Int.toNat).Pairwise (· ≤ ·) := by
    rw [List.pairwise_map]
    exact hs.imp fun h => by omega
  have hlt : (ys.map Int.toNat).Pairwise (· < ·) := by
    have hnd : (ys.map Int.toNat).Nodup := hp2.nodup_iff.mpr hn
    exact (hle.and hnd).imp fun ⟨h1, h2⟩ => Nat.lt_of_le_of_ne h1 h2
  rw [e1, rising_same hlt ha fun x => (hp2.mem_iff).trans (hm x)]
theorem RowsAt.but_d {H H' : Hp} {ae a : Addr} {kvs : List (Key × V)} {rows : List (List Int)} (r : RowsAt .tup H a rows) (s : But ae H H') (hd : H ae = some (.dK kvs)) : RowsAt .tup H' a rows := by
  obtain ⟨ps, h1, h2⟩ := r
  exact ⟨ps, s _ _ h1 (ne_of h1 hd (by intro z; cases z)), Paired.imp h2 fun q y _ e => s _ _ e (ne_of e hd (by intro z; cases z))⟩
/-- for i in best: able[i] = True -/
theorem able_for {K : PySem.W.Frag} {D : Ends} {p t ad ae q : Addr} {v3 v5 v7 : Option V} {H1 : Hp} {ks0 best : List Nat} (hae : H1 ae = some (.dK (dk ks0))) (hq : H1 q = some (.lst (iV (zs best)))) (n0 : ks0.Nodup) (s0 : ∀ x ∈ ks0, x < 6) (sb : ∀ x ∈ best, x < 6)
    (fin : ∀ (v3' : Option V) (ks : List Nat) (H2 : Hp), But ae H1 H2 → H2 ae = some (.dK (dk ks)) → ks.Nodup → (∀ x, x ∈ ks ↔ x ∈ ks0 ∨ x ∈ best) → D.nx [some (.ref p), some (.ref t), some (.ref ad), v3', some (.ref ae), v5, some (.ref q), v7] H2) :
    tFor (iList K (tVar 6)) (gName 3) (sDPut (tVar 4) (tVar 3) (tC (.bl true))) D [some (.ref p), some (.ref t), some (.ref ad), v3, some (.ref ae), v5, some (.ref q), v7] H1 := by
  refine ⟨_, rfl, q, rfl, ⟨_, SqL.of hq⟩, ?_⟩
  have qae : q ≠ ae := ne_of hq hae (by intro z; cases z)
  refine for_list (K := K) (a := q) (xs := iV (zs best)) (fun j σ H' => ∃ (v3' : Option V) (ks : List Nat), σ = [some (.ref p), some (.ref t), some (.ref ad), v3', some (.ref ae), v5, some (.ref q), v7] ∧ But ae H1 H' ∧ H' ae = some (.dK (dk ks)) ∧ ks.Nodup ∧ ∀ x, x ∈ ks ↔ x ∈ ks0 ∨ x ∈ best.take j)
    ⟨v3, ks0, rfl, But.refl, hae, n0, fun x => by simp⟩ (fun j σ H' _ ⟨_, _, _, u, _⟩ => SqL.of (u _ _ hq qae)) ?_ ?_
  · rintro j x σ H' hx ⟨v3', ks, rfl, u, hk, nk, mk⟩
    have hj : j < best.length := by
      have := (List.getElem?_eq_some_iff.mp hx).1
      rw [iV_len, zs_len] at this
      exact this
    obtain rfl : x = V.int ((best.getD j 0 : Nat) : Int) := zs_at hj hx
    have hs6 : ∀ x ∈ ks, x < 6 := fun x hx' => ((mk x).mp hx').elim (s0 x) fun z => sb x (List.mem_of_mem_take z)
    have hl6 : ks.length ≤ 6 := pigeon 6 ks nk hs6
    refine ⟨_, rfl, _, rfl, ae, _, rfl, DPut.k (k := Sum.inl ((best.getD j 0 : Nat) : Int)) hk (by rw [dk_len]; exact Nat.lt_of_le_of_lt hl6 (by show 6 < sizeLine; decide)), ?_⟩
    refine ⟨_, insK ks (best.getD j 0), rfl, u.put, by rw [upd_same, dk_put], nd_insK nk, fun x => ?_⟩
    have eg : best[j]? = some (best.getD j 0) := by rw [List.getD_eq_getElem?_getD, List.getElem?_eq_getElem hj]; rfl
    rw [mem_insK, mk, take_more eg, List.mem_append, List.mem_singleton, or_assoc]
  · rintro σ H' ⟨v3', ks, rfl, u, hk, nk, mk⟩
    rw [iV_len, zs_len, List.take_length] at mk
    exact fin v3' ks H' u hk nk mk
theorem feed {C R : Hp → Prop} {H : Hp} (c : C H) (f : ∀ H', C H' → R H') : R H := f H c
section
variable {P : Program} {w : World} {K : PySem.W.Frag} {mg : Str → Option Value} {base : Heap}
/-- a prospect whose own lists are new since H0, its day at ad -/
structure PNew (H0 : Hp) (ad C : Addr) (H : Hp) (b : B) (p : Addr) (l : List Nat) : Prop where
  at_ : ∃ dx ab aa, H p = some (.ins C dx (pF ad ab aa b l)) ∧ H ad = some (.lst (iV (zs l))) ∧ RowsAt .tup H ab (pRows b l) ∧ H aa = some (.lst (iV (zs (Sj13.alive b l)))) ∧ H0 ab = none ∧ H0 aa = none
theorem PNew.to {H0 : Hp} {ad C : Addr} {H : Hp} {b : B} {p : Addr} {l : List Nat} (x : PNew H0 ad C H b p l) : PAt C H b p l := by
  obtain ⟨dx, ab, aa, h1, h2, h3, h4, _, _⟩ := x.at_
  exact ⟨dx, ad, ab, aa, h1, h2, h3, h4⟩
def spPInit (CP CT : Addr) : Sp := fun vs H Q _ => ∃ (p dx t aw am ad : Addr) (b : B) (l : List Nat), vs = [.ref p, .ref t, .ref ad] ∧ H p = some (.ins CP dx []) ∧ TAt CT H t aw am b ∧ t ≠ p ∧ H ad = some (.lst (iV (zs l))) ∧ Inside b l ∧ Invol b l ∧
  b.count ≤ 6 ∧ b.rank ≤ 100 ∧ b.win ≤ 100 ∧ ∀ H', PNew H ad CP H' b p l → But p H H' → Q .non H'
abbrev nPInit : List Str := ["self", "t", "day", "i", "able", "k", "best", "j"]
theorem scPInit : FnScope nPInit ["self", "t", "day"] (defScope sPInit) := ⟨rfl, rfl, rfl, by decide +kernel, rfl, by decide +kernel, by decide +kernel⟩
theorem okPInit {CP CT f fB fA fS : Addr} {fd fdB fdA fdS : FuncData} (F : Fun K "__init__" "Prospect.__init__" sPInit f fd) (TP : TxP K CP) (TT : TxT K CT) (G : Glo mg)
    (GB : FnOk P w K mg base CX0 1 fB fdB ["day"] (spBouts K)) (kB : PySem.W.keepIn K (.ref fB) = true) (bB : Binds K fdB ["day"] []) (mB : mg "bouts_of" = some (.ref fB))
    (GA : FnOk P w K mg base CX0 1 fA fdA ["self", "i", "j"] (spApart CT)) (bA : Binds K fdA ["self", "i", "j"] []) (mA : Meth K CT "apart" fA)
    (GS : FnOk P w K mg base CX0 1 fS fdS ["self", "t", "k"] (spBest CP CT)) (bS : Binds K fdS ["self", "t", "k"] []) (mS : Meth K CP "best_in" fS) : FnOk P w K mg base CX0 2 f fd ["self", "t", "day"] (spPInit CP CT) := by
  refine F.ok scPInit (fun vs H Q E h => ?_) (fun cdv A outer s H vs Q E hr h => ⟨_, pss_cons (ps_fld (pv 0) (pv 2) rfl)
    (pss_cons (ps_fld (pv 0) (pe_call GB hr rfl mB kB bB .nil pass0 (pa_cons (pv 2) pa_nil)) rfl)
    (pss_cons (ps_fld (pv 0) (pe_callB (cr_sum rfl) (by rfl) G.sum (by decide +kernel) (pa_cons (pe_lc (own := [("i", 3), ("j", 7)]) (g := gTup K 2 (gCons (gName 3) (gCons (gName 7) gNil))) (tt := tYes) (te := tMeth CT "apart" (spApart CT) [] E0 (tVar 1) (tCons (tVar 3) (tCons (tVar 7) tNil))) rfl scPInit.nd (pi_list (pe_fld (pv 0) rfl)) (blkOk_by (N := nPInit) (sc := defScope sPInit) (by decide +kernel))
        (fun _ _ _ _ _ => pg_tup rfl (pgs_cons (pg_name (i := 3) scPInit.nd rfl (Or.inl rfl) (Or.inr rfl)) (pgs_cons (pg_name (i := 7) scPInit.nd rfl (Or.inl rfl) (Or.inr rfl)) pgs_nil)))
        (fun _ _ _ _ _ => pts_nil) (fun _ _ _ _ _ => pe_meth (pv 1) TT.cl mA GA hr bA .nil pass0 (pa_cons (pv 3) (pa_cons (pv 7) pa_nil)))) pa_nil)) rfl)
    (pss_cons (ps_fld (pv 0) (pe_op op_shl pe_int (pe_callB call_len_seq (by rfl) G.len PySem.boot_len (pa_cons (pe_fld (pv 0) rfl) pa_nil))) rfl)
    (pss_cons (ps_fld (pv 0) pe_int rfl)
    (pss_cons (ps_set (i := 4) scPInit.nd rfl (Or.inl rfl) pe_dnewK)
    (pss_cons (ps_for PassesOwn.never rfl (pi_range1 rfl G.range (pa_cons (pe_fld (pv 0) rfl) pa_nil)) (pg_name (i := 5) scPInit.nd rfl (Or.inl rfl))
      (pss_cons (ps_set (i := 6) scPInit.nd rfl (Or.inl rfl) (pe_meth (pv 0) TP.cl mS GS hr bS .nil pass0 (pa_cons (pv 1) (pa_cons (pv 5) pa_nil))))
      (pss_cons (ps_if (pt_cmpR op_ne (pe_callB call_len_seq (by rfl) G.len PySem.boot_len (pa_cons (pv 6) pa_nil)) pe_int (nomark _)) (pss_one (ps_fldaug (pv 0) pe_int in_add)) pss_nil)
      (pss_one (ps_for PassesOwn.never rfl (pi_list (pv 6)) (pg_name (i := 3) scPInit.nd rfl (Or.inl rfl)) (pss_one (ps_dput (hu_of hr) (pv 4) (pv 3) pe_bl rfl)))))))
    (pss_one (ps_fld (pv 0) (pe_callB (call_sortedDI rfl) (by rfl) G.sorted (by decide +kernel) (pa_cons (pv 4) pa_nil)) rfl)))))))), ?_⟩)
  · obtain ⟨p, dx, t, aw, am, ad, b, l, rfl, _⟩ := h
    rfl
  · obtain ⟨p, dx, t, aw, am, ad, b, l, rfl, hp, ht, ntp, hd, hin, hv, h6, hR, hW, kk⟩ := h
    have h3 : b.bouts l ≤ 3 := by
      have := bouts_le hin hv
      omega
    have adp : ad ≠ p := ne_of hd hp (by intro z; cases z)
    have hll : l.length = b.count := hin.1
    -- self.day = day
    refine ⟨_, rfl, _, rfl, p, CP, dx, [], rfl, hp, TP.cl, TP.nD, (by show 0 < 1000; decide), ?_⟩
    -- self.bouts = bouts_of(day)
    have u1 : But p H (upd H p (.ins CP dx (putF "day" (.ref ad) []))) := But.put But.refl
    refine ⟨_, rfl, ad, l, rfl, SqL.of (u1 _ _ hd adp), by omega, fun H2 ab s2 nab rb => ?_⟩
    have nab' : H ab = none := by
      cases q : H ab with
      | none => rfl
      | some o =>
        by_cases e : ab = p
        · rw [e, upd_same] at nab
          cases nab
        · rw [u1 _ _ q e] at nab
          cases nab
    rw [hll, pr_pairs] at rb
    have p2 : H2 p = some (.ins CP dx (putF "day" (.ref ad) [])) := s2 _ _ upd_same
    refine ⟨_, rfl, p, CP, dx, _, rfl, p2, TP.cl, TP.nB, (by show 1 < 1000; decide), ?_⟩
    have u3 : But p H (upd H2 p (.ins CP dx (putF "bouts" (.ref ab) (putF "day" (.ref ad) [])))) := (u1.same s2).put
    have rb3 : RowsAt .tup (upd H2 p (.ins CP dx (putF "bouts" (.ref ab) (putF "day" (.ref ad) [])))) ab (pRows b l) := rb.upd fun u hu => by
      rw [p2] at hu
      cases hu
      exact ⟨fun _ z => (by cases z), fun _ z => (by cases z)⟩
    generalize hH3 : upd H2 p (.ins CP dx (putF "bouts" (.ref ab) (putF "day" (.ref ad) []))) = H3 at u3 rb3 ⊢
    have p3 : H3 p = some (.ins CP dx (putF "bouts" (.ref ab) (putF "day" (.ref ad) []))) := by rw [← hH3, upd_same]
    -- self.off = sum(..)
    obtain ⟨psb, hb1, hb2⟩ := id rb3
    have t3 := ht.but u3 hp ntp
    obtain ⟨dt, htins⟩ := t3.ins
    have hbl : psb.length = (Sj13.pairs b l).length := by
      rw [hb2.length]
      unfold pRows
      rw [List.length_map]
    refine ⟨_, rfl, p, CP, dx, _, _, rfl, p3, TP.cl, TP.nB, bouts_new1 ad ab, ab, rfl, ⟨_, SqL.of hb1⟩, fun D hD => ?_⟩
    refine lc_list (K := K) (a := ab) (xs := psb.map V.ref) (fun i H' => Same H3 H' ∧ H' D = some (.lst (iV (((Sj13.pairs b l).map fun q => ((b.far q.1 q.2 : Nat) : Int)).take i)))) ⟨Same.new hD, upd_same⟩ (fun i H' _ q => SqL.of (q.1 _ _ hb1)) ?_ ?_
    · rintro i x H' hx ⟨s4, h4⟩
      obtain ⟨q, hq, rfl⟩ : ∃ q, psb[i]? = some q ∧ x = V.ref q := by
        rw [List.getElem?_map] at hx
        cases e : psb[i]? with
        | none => rw [e] at hx; cases hx
        | some z => rw [e] at hx; exact ⟨z, rfl, (Option.some.inj hx).symm⟩
      obtain ⟨r, hr', hrr⟩ := Paired.getL hb2 hq
      unfold pRows at hr'
      rw [List.getElem?_map] at hr'
      obtain ⟨q2, hq2, rfl⟩ : ∃ q2, (Sj13.pairs b l)[i]? = some q2 ∧ r = [(q2.1 : Int), (q2.2 : Int)] := by
        cases e : (Sj13.pairs b l)[i]? with
        | none => rw [e] at hr'; cases hr'
        | some z => rw [e] at hr'; exact ⟨z, rfl, (Option.some.inj hr').symm⟩
      have hlt := pairs_lt hin q2 (List.mem_of_getElem? hq2)
      refine ⟨q, _, rfl, SqT.of (s4 _ _ hrr), rfl, _, _, rfl, _, _, rfl, rfl, rfl, ?_⟩
      refine ⟨_, rfl, t, dt, _, rfl, s4 _ _ htins, tF_no (by decide +kernel), _, rfl, _, rfl, t, aw, am, b, q2.1, q2.2, rfl, t3.same s4, hlt.1, hlt.2, hR, hW, _, h4, ?_, fun x o z => ?_, ?_⟩
      · rw [iV_len, List.length_take, List.length_map]
        have hi := (List.getElem?_eq_some_iff.mp hq2).1
        rw [pairs_length] at hi
        exact Nat.lt_of_le_of_lt (Nat.le_trans (Nat.min_le_left _ _) (by omega : i ≤ 6)) (by show 6 < sizeLine; decide)
      · rw [upd_ne (ne_of_none z hD)]
        exact s4 _ _ z
      · rw [upd_same, iV_app, ← take_more (by rw [List.getElem?_map, hq2]; rfl)]
    · rintro H4 ⟨s4, h4⟩
      rw [List.length_map, hbl, ← List.length_map (f := fun q : Nat × Nat => ((b.far q.1 q.2 : Nat) : Int)), List.take_length] at h4
      have esum : ((Sj13.pairs b l).map fun q => ((b.far q.1 q.2 : Nat) : Int)).sum = ((b.cost l : Nat) : Int) := by
        rw [← pairs_cost, ← sum_cast, List.map_map]
        rfl
      refine ⟨D, _, rfl, SqL.of h4, ?_⟩
      rw [esum]
      refine ⟨_, rfl, p, CP, dx, _, rfl, s4 _ _ p3, TP.cl, TP.nO, (by show 2 < 1000; decide), ?_⟩
      have u5 : But p H (upd H4 p (.ins CP dx (putF "off" (.int (b.cost l : Nat)) (putF "bouts" (.ref ab) (putF "day" (.ref ad) []))))) := (u3.same s4).put
      have rb5 : RowsAt .tup (upd H4 p (.ins CP dx (putF "off" (.int (b.cost l : Nat)) (putF "bouts" (.ref ab) (putF "day" (.ref ad) []))))) ab (pRows b l) := (rb3.same s4).upd fun u hu => by
        rw [s4 _ _ p3] at hu
        cases hu
        exact ⟨fun _ z => (by cases z), fun _ z => (by cases z)⟩
      obtain ⟨psb5, hb51, hb52⟩ := id rb5
      have hbl5 : (psb5.map V.ref).length = b.bouts l := by rw [List.length_map, hb52.length, pRows_len]
      refine ⟨_, rfl, p, CP, dx, _, _, rfl, upd_same, TP.cl, TP.nB, bouts_new2 ad ab _, ab, _, rfl, .inl (SqL.of hb51), _, _, rfl, rfl, ⟨by omega, by omega, by decide⟩, ?_⟩
      refine ⟨_, rfl, p, CP, dx, _, rfl, upd_same, TP.cl, TP.nU, (by show 3 < 1000; decide), ?_⟩
      refine ⟨_, rfl, p, CP, dx, _, rfl, upd_same, TP.cl, TP.nP, (by show 4 < 1000; decide), ?_⟩
      have eout : (1 : Int) * 2 ^ (((psb5.map V.ref).length : Nat) : Int).toNat = ((2 ^ b.bouts l : Nat) : Int) := by
        rw [hbl5, Int.toNat_natCast, Int.one_mul, Int.natCast_pow]
        rfl
      have isins : ∀ (fs : List (Str × V)) (u : HO), some (HO.ins CP dx fs) = some u → (∀ xs, u ≠ .lst xs) ∧ ∀ xs, u ≠ .tup xs := fun fs u hu => by
        cases hu
        exact ⟨fun _ z => (by cases z), fun _ z => (by cases z)⟩
      refine feed (C := fun H7 => But p H H7 ∧ H7 p = some (.ins CP dx (pG ad ab (b.cost l : Nat) ((2 ^ b.bouts l : Nat) : Int) 0)) ∧ RowsAt .tup H7 ab (pRows b l)) ⟨u5.put.put, Eq.trans upd_same (congrArg (fun q => some (HO.ins CP dx q)) ?_), (rb5.upd fun u hu => isins _ u (upd_same.symm.trans hu)).upd fun u hu => isins _ u (upd_same.symm.trans hu)⟩ ?_
      · show putF "play_offs" (.int 0) (putF "outcomes" (.int ((1 : Int) * 2 ^ (((psb5.map V.ref).length : Nat) : Int).toNat)) (putF "off" (.int (b.cost l : Nat)) (putF "bouts" (.ref ab) (putF "day" (.ref ad) [])))) = _
        rw [eout]
        exact pG_new _ _ _ _
      clear rb5 u5 eout hb51 hb52 hbl5 psb5 esum h4 s4 H4 hb1 hb2 hbl psb p3 rb3 u3 t3 htins
      rintro H7 ⟨u7, p7, rb7⟩
      intro ae nae
      have nae0 : H ae = none := by
        cases q : H ae with
        | none => rfl
        | some o =>
          by_cases e : ae = p
          · rw [e, p7] at nae
            cases nae
          · rw [u7 _ _ q e] at nae
            cases nae
      have aep : ae ≠ p := fun e => by rw [e, p7] at nae; cases nae
      have hpow : 2 ^ b.bouts l ≤ 2 ^ 3 := Nat.pow_le_pow_right (by decide) h3
      have hO1 : (0 : Int) ≤ ((2 ^ b.bouts l : Nat) : Int) := Int.natCast_nonneg _
      have hO2 : ((2 ^ b.bouts l : Nat) : Int) ≤ ((2 ^ 3 : Nat) : Int) := Int.ofNat_le.mpr hpow
      refine ⟨_, rfl, p, CP, dx, _, _, rfl, Same.new nae _ _ p7, TP.cl, TP.nU, pG_out, _, rfl, by omega, by omega, ?_⟩
      refine for_range (fun k σ H' => ∃ (v3 v5 v6 v7 : Option V) (ks : List Nat), σ = [some (.ref p), some (.ref t), some (.ref ad), v3, some (.ref ae), v5, v6, v7] ∧ But p H H' ∧ H' p = some (.ins CP dx (pG ad ab (b.cost l : Nat) ((2 ^ b.bouts l : Nat) : Int) (poN b l k : Nat))) ∧
        RowsAt .tup H' ab (pRows b l) ∧ H' ae = some (.dK (dk ks)) ∧ ks.Nodup ∧ ∀ x, x ∈ ks ↔ ∃ k', k' < k ∧ x ∈ bestOf b l k') ?_ ?_ ?_
      · exact ⟨none, none, none, none, [], rfl, u7.new nae0, Same.new nae _ _ p7, rb7.same (Same.new nae), upd_same, List.nodup_nil, fun x => by simp⟩
      · rintro k σ H9 hk ⟨v3, v5, v6, v7, ks, rfl, u9, p9, rb9, ae9, nk, mk⟩
        have t9 := ht.but u9 hp ntp
        refine ⟨_, rfl, p, dx, _, rfl, p9, pG_no (by decide +kernel), _, rfl, _, rfl, p, t, aw, am, ab, dx, _, b, l, k, ?_, p9, pG_bouts, rb9, t9, hin, h6, fun H10 q s10 nq hq10 => ?_⟩
        · show [V.ref p, V.ref t, V.int (0 + (k : Nat))] = _
          rw [Int.zero_add]
        · have hs6 : ∀ x ∈ ks, x < 6 := fun x hx => by
            obtain ⟨k', _, h⟩ := (mk x).mp hx
            have := (mem_bestOf.mp h).1
            omega
          have sb6 : ∀ x ∈ bestOf b l k, x < 6 := fun x hx => by
            have := (mem_bestOf.mp hx).1
            omega
          have p10 := s10 _ _ p9
          have ae10 := s10 _ _ ae9
          have u10 := u9.same s10
          have rb10 := rb9.same s10
          have qp : q ≠ p := fun e => by rw [e, p9] at nq; cases nq
          have mem' : ∀ {ks' : List Nat}, (∀ x, x ∈ ks' ↔ x ∈ ks ∨ x ∈ bestOf b l k) → ∀ x, x ∈ ks' ↔ ∃ k', k' < k + 1 ∧ x ∈ bestOf b l k' := fun {ks'} hm x => by
            rw [hm, mk]
            constructor
            · rintro (⟨k', h1, h2⟩ | h)
              · exact ⟨k', by omega, h2⟩
              · exact ⟨k, by omega, h⟩
            · rintro ⟨k', h1, h2⟩
              by_cases e : k' = k
              · subst e; exact .inr h2
              · exact .inl ⟨k', by omega, h2⟩
          have po := poN_more b l k
          refine ⟨_, rfl, q, _, rfl, .inl (SqL.of hq10), rfl, _, rfl, ?_⟩
          rw [iV_len, zs_len]
          by_cases c : (bestOf b l k).length = 1
          · rw [c]
            rw [if_neg (by simpa using c)] at po
            refine iteF ?_
            refine able_for (K := K) ae10 hq10 nk hs6 sb6 fun v3' ks' H2 u k2 n2 m2 => ?_
            have pae : p ≠ ae := fun e => aep e.symm
            refine ⟨_, _, _, _, ks', rfl, fun x o z zp => u _ _ (u10 _ _ z zp) (ne_of_none z nae0), ?_, rb10.but_d u ae10, k2, n2, mem' m2⟩
            rw [po]
            exact u _ _ p10 pae
          · rw [if_pos c] at po
            rw [decide_eq_false (show ¬ V.int (((bestOf b l k).length : Nat) : Int) = V.int 1 by intro e; have := V.int.inj e; omega)]
            refine iteT ?_
            refine ⟨_, rfl, p, CP, dx, _, _, rfl, p10, TP.cl, TP.nP, pG_play, _, _, rfl, rfl, dx, _, p10, (by show 5 < 1000; decide), ?_⟩
            have isins : ∀ (fs : List (Str × V)) (u : HO), some (HO.ins CP dx fs) = some u → (∀ xs, u ≠ .lst xs) ∧ ∀ xs, u ≠ .tup xs := fun fs u hu => by
              cases hu
              exact ⟨fun _ z => (by cases z), fun _ z => (by cases z)⟩
            refine able_for (K := K) (by rw [upd_ne aep]; exact ae10) (by rw [upd_ne qp]; exact hq10) nk hs6 sb6 fun v3' ks' H2 u k2 n2 m2 => ?_
            have pae : p ≠ ae := fun e => aep e.symm
            refine ⟨_, _, _, _, ks', rfl, fun x o z zp => u _ _ (by rw [upd_ne zp]; exact u10 _ _ z zp) (ne_of_none z nae0), ?_, (rb10.upd fun u hu => isins _ u (p10.symm.trans hu)).but_d u (by rw [upd_ne aep]; exact ae10), k2, n2, mem' m2⟩
            refine u _ _ (upd_same.trans ?_) pae
            rw [pG_put, po]
            rfl
      · rintro σ H9 ⟨v3, v5, v6, v7, ks, rfl, u9, p9, rb9, ae9, nk, mk⟩
        rw [show (((2 ^ b.bouts l : Nat) : Int)).toNat = 2 ^ b.bouts l from rfl] at p9 mk
        have hs6 : ∀ x ∈ ks, x < 6 := fun x hx => by
          obtain ⟨k', _, h⟩ := (mk x).mp hx
          have := (mem_bestOf.mp h).1
          omega
        have hl6 : ks.length ≤ 6 := pigeon 6 ks nk hs6
        refine ⟨_, rfl, ae, _, zs ks, rfl, .inl ae9, ?_, by rw [zs_len]; omega, fun ys aa hperm hsort naa => ?_⟩
        · unfold dk zs
          rw [List.map_map, List.map_map]
          rfl
        · have ey : ys = zs (Sj13.alive b l) := sorted_is hperm hsort nk (alive_sorted b l) fun x => (mk x).trans (mem_alive h3).symm
          subst ey
          have s10 : Same H9 (upd H9 aa (.lst (iV (zs (Sj13.alive b l))))) := Same.new naa
          have p10 := s10 _ _ p9
          have aap : aa ≠ p := fun e => by rw [e, p9] at naa; cases naa
          have lv : poN b l (2 ^ b.bouts l) = Sj13.level b l := (level_eq h3).symm
          have isins : ∀ (fs : List (Str × V)) (u : HO), some (HO.ins CP dx fs) = some u → (∀ xs, u ≠ .lst xs) ∧ ∀ xs, u ≠ .tup xs := fun fs u hu => by
            cases hu
            exact ⟨fun _ z => (by cases z), fun _ z => (by cases z)⟩
          refine ⟨_, rfl, p, CP, dx, _, rfl, p10, TP.cl, TP.nA, (by show 5 < 1000; decide), ?_⟩
          have naa0 : H aa = none := by
            cases q : H aa with
            | none => rfl
            | some o =>
              rw [u9 _ _ q aap] at naa
              cases naa
          refine kk _ ⟨dx, ab, aa, upd_same.trans ?_, ?_, (rb9.same s10).upd fun u hu => isins _ u (p10.symm.trans hu), ?_, nab', naa0⟩ (u9.same s10).put
          · rw [lv, pG_able]
          · rw [upd_ne adp]
            exact s10 _ _ (u9 _ _ hd adp)
          · rw [upd_ne aap, upd_same]
            rfl
end
end Dy

namespace Dy
open PySem PySem.Spec PyProof.Rows L2
/-! ### a call of a def that an expression gives -/
def tCallE (te : TE) (S : Addr → Sp → Prop) (t : TA) : TE := fun σ H Q => te σ H fun x H1 => ∃ f sp, x = .ref f ∧ S f sp ∧ t σ H1 fun vs H2 => sp vs H2 Q (fun _ _ _ => False)
theorem pe_callE {X : Cx} {k : Nat} {S : Addr → Sp → Prop} {func e : Expr} {es : List Expr} {pos : Pos} {te : TE} {t : TA} (A : ∀ f sp, S f sp → Held X.prog X.w X.K X.mg X.base k f sp) (hr : Room k X.A) (hf : PE X func te) (ha : PA X (e :: es) t)
    (hc : eval (.Call func (e :: es) [] pos) X.env = (do callWith pos (← eval func X.env) [] (backTo pos (starEach (e :: es) X.env)) (backToKw pos (keywordEach [] X.env))) := by rfl)
    (he : starEach (e :: es) X.env = (false, eval e X.env) :: starEach es X.env := by rfl) (hpl : (backTo pos (starEach es X.env)).any (·.1) = false := by rfl) : PE X (.Call func (e :: es) [] pos) (tCallE te S t) := by
  refine ⟨fun pins s σ H Q I hq => ?_⟩
  refine Call_ (thn (hf.run pins s σ H _ I hq) fun u s1 ⟨v, H1, I1, r1, f, sp, ev, hS, q1⟩ => ?_) hc
  subst ev
  cases r1
  have ⟨fd, ps, F, hk, hb⟩ := (A f sp hS).ex
  refine PySem.W.callWith_K (h₀ := X.base) I.ok.mod.kin hk (thn (ha.run pos pins s1 σ _ _ I1 q1) fun us s2 ⟨vs, H2, I2, r, q⟩ => ⟨I2.kIn, ?_⟩) he hpl
  exact run_fn (dvs := []) (E := fun _ _ _ => False) F hr hb .nil (fun _ _ _ _ _ _ _ z => z.elim) I2 r (by rw [List.append_nil]; exact q)
/-! ### HEADS -/
def Two (K : PySem.W.Frag) (p : Addr) (x y : Int) : Prop := ∃ (o : Obj) (its : Array Value) (n : Nat), K.lookup p = some o ∧ o.cls = .type "tuple" ∧ o.data = .seq its n ∧ its.size ≤ sizeLine ∧ Vals [.int x, .int y] its.toList
theorem two_mk {K : PySem.W.Frag} {p : Addr} {x y : Int} {dd : Option Addr} {t u : Tok} {n : Nat} {sl : Array (Option Value)} (h : K.lookup p = some ⟨.type "tuple", dd, .seq #[.int x t, .int y u] n, sl⟩) : Two K p x y :=
  ⟨_, _, n, h, rfl, rfl, (by show 2 ≤ sizeLine; decide), .cons ⟨t, rfl⟩ (.cons ⟨u, rfl⟩ .nil)⟩
structure HeadsK (K : PySem.W.Frag) (d : Addr) : Prop where
  ex : ∃ (t0 t1 t2 t3 t4 t5 : Tok) (p0 p1 p2 p3 p4 p5 : Addr) (n : Nat), K.lookup d = some ⟨.type "dict", none, .dict #[⟨0, .int 0 t0, .ref p0⟩, ⟨1, .int 1 t1, .ref p1⟩, ⟨2, .int 2 t2, .ref p2⟩, ⟨3, .int 3 t3, .ref p3⟩, ⟨4, .int 4 t4, .ref p4⟩, ⟨5, .int 5 t5, .ref p5⟩] n, #[]⟩ ∧
    Two K p0 2 0 ∧ Two K p1 2 0 ∧ Two K p2 2 0 ∧ Two K p3 0 1 ∧ Two K p4 0 0 ∧ Two K p5 0 0
def hcn (k : Nat) : Nat := if k ≤ 2 then 2 else 0
def hsz (k : Nat) : Nat := if k = 3 then 1 else 0
def rHeads (K : PySem.W.Frag) (d : Addr) : R2 := fun x y H Q => ∃ k : Nat, x = .ref d ∧ y = .int (k : Nat) ∧ k ≤ 5 ∧ ∀ p, (∀ H', SqT K H' p [.int (hcn k : Nat), .int (hsz k : Nat)]) → Q (.ref p) H
theorem ix_heads {X : Cx} {d : Addr} (D : HeadsK X.K d) : IxR X (rHeads X.K d) := by
  intro value slice pins s σ H _ _ dv kv Q I rd rk ⟨k, ed, ek, hk, q⟩ hs
  subst ed ek
  obtain rfl : dv = Value.ref d := rd
  obtain ⟨t, rfl⟩ := rk
  obtain ⟨t0, t1, t2, t3, t4, t5, p0, p1, p2, p3, p4, p5, n, hl, w0, w1, w2, w3, w4, w5⟩ := D.ex
  have hm : s.heap.MapOf (intKind X.prog X.w) d (fun k => findBy Value.isInt #[⟨0, .int 0 t0, .ref p0⟩, ⟨1, .int 1 t1, .ref p1⟩, ⟨2, .int 2 t2, .ref p2⟩, ⟨3, .int 3 t3, .ref p3⟩, ⟨4, .int 4 t4, .ref p4⟩, ⟨5, .int 5 t5, .ref p5⟩] k) := by
    refine ⟨_, _, n, I.kIn _ _ hl, ⟨rfl, rfl, rfl⟩, rfl, fun e he => ?_, fun _ => rfl⟩
    have he' : e ∈ [(⟨0, .int 0 t0, .ref p0⟩ : DictEntry), ⟨1, .int 1 t1, .ref p1⟩, ⟨2, .int 2 t2, .ref p2⟩, ⟨3, .int 3 t3, .ref p3⟩, ⟨4, .int 4 t4, .ref p4⟩, ⟨5, .int 5 t5, .ref p5⟩] := by simpa using he
    simp only [List.mem_cons, List.not_mem_nil, or_false] at he'
    rcases he' with rfl | rfl | rfl | rfl | rfl | rfl
    · exact ⟨0, rfl, rfl⟩
    · exact ⟨1, rfl, rfl⟩
    · exact ⟨2, rfl, rfl⟩
    · exact ⟨3, rfl, rfl⟩
    · exact ⟨4, rfl, rfl⟩
    · exact ⟨5, rfl, rfl⟩
  have fin : ∀ (p : Addr) (x y : Int), Two X.K p x y → x = (hcn k : Nat) → y = (hsz k : Nat) → findBy Value.isInt #[⟨0, .int 0 t0, .ref p0⟩, ⟨1, .int 1 t1, .ref p1⟩, ⟨2, .int 2 t2, .ref p2⟩, ⟨3, .int 3 t3, .ref p3⟩, ⟨4, .int 4 t4, .ref p4⟩, ⟨5, .int 5 t5, .ref p5⟩] (k : Int) = some (.ref p) →
      wpAny (model X.prog X.w) X.A (subscriptTail value slice (.ref d) (.int (k : Nat) t)) (EP X pins σ Q) X.xe s := by
    intro p x y hw ex ey hf
    subst ex ey
    obtain ⟨o, its, n', h1, h2, h3, h4, h5⟩ := hw
    refine tail_any hm.typeIs slot_dict_getitem.lookup (wpAny_getItem_of (k := (k : Int)) (by show Value.isInt (k : Int) (.int (k : Int) t) = true; simp [Value.isInt]) hm hf ⟨.ref p, H, I.tok _, rfl, q p fun H' => .inr ⟨o, its, n', h1, h2, h3, h4, h5⟩⟩) hs
  match k, hk, fin with
  | 0, _, fin => exact fin p0 2 0 w0 rfl rfl rfl
  | 1, _, fin => exact fin p1 2 0 w1 rfl rfl rfl
  | 2, _, fin => exact fin p2 2 0 w2 rfl rfl rfl
  | 3, _, fin => exact fin p3 0 1 w3 rfl rfl rfl
  | 4, _, fin => exact fin p4 0 0 w4 rfl rfl rfl
  | 5, _, fin => exact fin p5 0 0 w5 rfl rfl rfl
end Dy

namespace Dy
open PySem PySem.Spec PyProof.Rows L2
structure Cns (mg : Str → Option Value) : Prop where
  ct : ∃ t, mg "MOST_COUNT" = some (.int 100 t)
  st : ∃ t, mg "MOST_STABLE" = some (.int 9 t)
  wn : ∃ t, mg "MOST_WINS" = some (.int 15 t)
  wr : ∃ t, mg "MOST_WRESTLERS" = some (.int 6 t)
/-- all but the tournament's two lists stands -/
def Keep (aw am : Addr) (H H' : Hp) : Prop := ∀ q o, H q = some o → q ≠ aw → q ≠ am → H' q = some o
theorem Keep.same {aw am : Addr} {H H' : Hp} (s : Same H H') : Keep aw am H H' := fun q o h _ _ => s q o h
def cIs (k : Nat) (ns l : List Nat) (c : Sj13.Call) : Prop := match k with
  | 1 => ∃ x y, ns = [x, y] ∧ c = .wrestler ⟨x, y⟩
  | 2 => ∃ x y, ns = [x, y] ∧ c = .met x y
  | 3 => l.length ≤ 8 ∧ c = .check l
  | 4 => c = .open_
  | 5 => c = .tense
  | _ => False
def spDo (CT : Addr) (k : Nat) : Sp := fun vs H Q _ => ∃ (t aw am an ad : Addr) (b : B) (ns l : List Nat) (c : Sj13.Call), vs = [.ref t, .ref an, .ref ad] ∧ TAt CT H t aw am b ∧ aw ≠ am ∧ H an = some (.lst (iV (zs ns))) ∧ H ad = some (.lst (iV (zs l))) ∧ Good b 1 ∧ cIs k ns l c ∧
  ∀ H' q, TAt CT H' t aw am (Sj13.step b c).1 → Keep aw am H H' → H q = none → H' q = some (.lst (iV (ansOf (Sj13.step b c)))) → Q (.ref q) H'
theorem step_w (b : B) (x y : Nat) : Sj13.step b (.wrestler ⟨x, y⟩) = if 9 < x ∨ 15 < y then (b, Sj13.ok (-1)) else if 6 ≤ b.count then (b, Sj13.ok (-5)) else ({ b with wrestlers := b.wrestlers ++ [⟨x, y⟩] }, Sj13.ok (b.count : Nat)) := by
  show (if Sj13.COUNT ≤ b.count ∧ 0 ≤ (Sj09.step Sj13.init (.wrestler ⟨x, y⟩)).2.v then (b, Sj13.ok (-5)) else Sj13.of9 (Sj09.step b (.wrestler ⟨x, y⟩))) = _
  have e6 : Sj13.COUNT = 6 := rfl
  have es : ∀ b' : B, Sj09.step b' (.wrestler ⟨x, y⟩) = if Sj09.STABLES ≤ x ∨ Sj09.WINS < y then (b', Sj09.ok (-1)) else if Sj09.COUNT ≤ b'.count then (b', Sj09.ok (-5)) else ({ b' with wrestlers := b'.wrestlers ++ [⟨x, y⟩] }, Sj09.ok ((b'.count : Nat) : Int)) := fun _ => rfl
  have e10 : Sj09.STABLES = 10 := rfl
  have e15 : Sj09.WINS = 15 := rfl
  have e8 : Sj09.COUNT = 8 := rfl
  rw [es, es]
  by_cases h : 9 < x ∨ 15 < y
  · have h' : Sj09.STABLES ≤ x ∨ Sj09.WINS < y := by omega
    rw [if_pos h', if_pos h', if_pos h, if_neg (by rintro ⟨_, q⟩; exact absurd q (by decide))]
    rfl
  · have h' : ¬ (Sj09.STABLES ≤ x ∨ Sj09.WINS < y) := by omega
    rw [if_neg h', if_neg h', if_neg h]
    have e0 : Sj13.init.count = 0 := rfl
    rw [if_neg (by rw [e0]; omega : ¬ Sj09.COUNT ≤ Sj13.init.count)]
    by_cases h6 : 6 ≤ b.count
    · rw [if_pos h6, if_pos ⟨by omega, Int.natCast_nonneg _⟩]
    · rw [if_neg h6, if_neg (by rintro ⟨q, _⟩; omega), if_neg (by omega : ¬ Sj09.COUNT ≤ b.count)]
      rfl
theorem step_m (b : B) (i j : Nat) : Sj13.step b (.met i j) = if b.count ≤ i ∨ b.count ≤ j then (b, Sj13.ok (-2)) else if b.may i j = false then (b, Sj13.ok (-4)) else ({ b with met := b.met ++ [(i, j)] }, Sj13.ok ((b.met.length : Nat) + 1)) := by
  show Sj13.of9 (if b.count ≤ i ∨ b.count ≤ j then (b, Sj09.ok (-2)) else if b.may i j = false then (b, Sj09.ok (-4)) else ({ b with met := b.met ++ [(i, j)] }, Sj09.ok ((b.met.length : Nat) + 1))) = _
  by_cases h : b.count ≤ i ∨ b.count ≤ j
  · rw [if_pos h, if_pos h]; rfl
  · rw [if_neg h, if_neg h]
    by_cases h2 : b.may i j = false
    · rw [if_pos h2, if_pos h2]; rfl
    · rw [if_neg h2, if_neg h2]; rfl
theorem rows_tup_ne {H : Hp} {a : Addr} {xs : List V} {ps : List Addr} {rows : List (List Int)} (h1 : H a = some (.lst xs)) (h2 : Rws .tup H ps rows) : ∀ q ∈ ps, q ≠ a := by
  intro q hq e
  subst e
  obtain ⟨i, hi, e⟩ := List.getElem_of_mem hq
  obtain ⟨r, _, hr⟩ := Paired.getL h2 (List.getElem?_eq_getElem hi)
  rw [e, h1] at hr
  cases hr
theorem RowsAt.off {H : Hp} {a x : Addr} {xs : List V} {o : HO} {rows : List (List Int)} (r : RowsAt .tup H a rows) (hx : H x = some (.lst xs)) (ne : a ≠ x) : RowsAt .tup (L2.upd H x o) a rows := by
  obtain ⟨ps, h1, h2⟩ := r
  exact ⟨ps, by rw [upd_ne ne]; exact h1, Paired.imp h2 fun q y hq e => by rw [upd_ne (rows_tup_ne hx h2 q hq)]; exact e⟩
theorem TAt.addW {C : Addr} {H : Hp} {a aw am p : Addr} {b : B} {x y : Nat} {ps : List Addr} (t : TAt C H a aw am b) (ne : aw ≠ am) (h : H aw = some (.lst (ps.map V.ref))) (hp : H p = some (.tup [.int (x : Int), .int (y : Int)])) :
    TAt C (upd H aw (.lst (ps.map V.ref ++ [V.ref p]))) a aw am { b with wrestlers := b.wrestlers ++ [⟨x, y⟩] } := by
  obtain ⟨⟨dx, h1⟩, ⟨ps', h2, h3⟩, h4⟩ := t
  have e : ps.map V.ref = ps'.map V.ref := by
    rw [h] at h2
    exact HO.lst.inj (Option.some.inj h2)
  refine ⟨⟨dx, ?_⟩, ?_, h4.off h (Ne.symm ne)⟩
  · rw [upd_ne (ne_of h1 h (by intro z; cases z))]
    exact h1
  · rw [e]
    have er : wRows { b with wrestlers := b.wrestlers ++ [⟨x, y⟩] } = wRows b ++ [[(x : Int), (y : Int)]] := by
      unfold wRows
      rw [List.map_append]
      rfl
    rw [er]
    exact RowsAt.snoc h3 hp (rows_tup_ne h2 h3) (ne_of hp h (by intro z; cases z))
theorem TAt.addM {C : Addr} {H : Hp} {a aw am p : Addr} {b : B} {x y : Nat} {ps : List Addr} (t : TAt C H a aw am b) (ne : aw ≠ am) (h : H am = some (.lst (ps.map V.ref))) (hp : H p = some (.tup [.int (x : Int), .int (y : Int)])) :
    TAt C (upd H am (.lst (ps.map V.ref ++ [V.ref p]))) a aw am { b with met := b.met ++ [(x, y)] } := by
  obtain ⟨⟨dx, h1⟩, h4, ⟨ps', h2, h3⟩⟩ := t
  have e : ps.map V.ref = ps'.map V.ref := by
    rw [h] at h2
    exact HO.lst.inj (Option.some.inj h2)
  refine ⟨⟨dx, ?_⟩, h4.off h ne, ?_⟩
  · rw [upd_ne (ne_of h1 h (by intro z; cases z))]
    exact h1
  · rw [e]
    have er : mRows { b with met := b.met ++ [(x, y)] } = mRows b ++ [[(x : Int), (y : Int)]] := by
      unfold mRows
      rw [List.map_append]
      rfl
    rw [er]
    exact RowsAt.snoc h3 hp (rows_tup_ne h2 h3) (ne_of hp h (by intro z; cases z))
section
variable {P : Program} {w : World} {K : PySem.W.Frag} {mg : Str → Option Value} {base : Heap}
/-! ### do_wrestler(t, n, day) -/
abbrev nDo : List Str := ["t", "n", "day"]
theorem scWrestler : FnScope nDo nDo (defScope sWrestler) := ⟨rfl, rfl, rfl, by decide +kernel, rfl, by decide +kernel, by decide +kernel⟩
theorem okWrestler {CT f : Addr} {fd : FuncData} (F : Fun K "do_wrestler" "do_wrestler" sWrestler f fd) (TT : TxT K CT) (G : Glo mg) (c : Cns mg) : FnOk P w K mg base CX0 1 f fd nDo (spDo CT 1) := by
  obtain ⟨t9, m9⟩ := c.st
  obtain ⟨t15, m15⟩ := c.wn
  obtain ⟨t6, m6⟩ := c.wr
  refine F.ok scWrestler (fun vs H Q E h => ?_) (fun cdv A outer s H vs Q E hr h => ⟨_, pss_cons (ps_if (PW.pt (pw_or (pt_cmpR op_gt (pe_ix ix_list (pv 1) pe_int (fun _ _ => rfl)) (pe_glob (v := .int 9) rfl m9 ⟨_, rfl⟩) (nomark _)) (pw_or1 (pt_cmpR op_gt (pe_ix ix_list (pv 1) pe_int (fun _ _ => rfl)) (pe_glob (v := .int 15) rfl m15 ⟨_, rfl⟩) (nomark _)))))
      (pss_one (ps_ret (pe_lst (pa_cons (pe_un un_neg pe_int) pa_nil)))) pss_nil)
    (pss_cons (ps_if (pt_cmpR op_ge (pe_callB call_len_seq (by rfl) G.len PySem.boot_len (pa_cons (pe_fld (pv 0) rfl) pa_nil)) (pe_glob (v := .int 6) rfl m6 ⟨_, rfl⟩) (nomark _)) (pss_one (ps_ret (pe_lst (pa_cons (pe_un un_neg pe_int) pa_nil)))) pss_nil)
    (pss_cons (ps_expr (pe_bm PySem.F.plainAttrs_list PySem.F.slot_list_append PySem.F.type_list_append mt_append (pe_fld (pv 0) rfl) (pa_cons (pe_tup (pa_cons (pe_ix ix_list (pv 1) pe_int (fun _ _ => rfl)) (pa_cons (pe_ix ix_list (pv 1) pe_int (fun _ _ => rfl)) pa_nil))) pa_nil)))
    (pss_one (ps_ret (pe_lst (pa_cons (pe_op op_sub (pe_callB call_len_seq (by rfl) G.len PySem.boot_len (pa_cons (pe_fld (pv 0) rfl) pa_nil)) pe_int) pa_nil)))))), ?_⟩)
  · obtain ⟨t, aw, am, an, ad, b, ns, l, c, rfl, _⟩ := h
    rfl
  · obtain ⟨t, aw, am, an, ad, b, ns, l, c, rfl, ht, nwm, hn, hd, gd, ⟨x, y, rfl, rfl⟩, k⟩ := h
    rw [step_w] at k
    obtain ⟨dt, htins⟩ := ht.ins
    have a0 : atI (iV (zs [x, y])) 0 = some (V.int (x : Int)) := rfl
    have a1 : atI (iV (zs [x, y])) 1 = some (V.int (y : Int)) := rfl
    refine ⟨_, rfl, an, _, _, _, rfl, rfl, SqL.of hn, a0, _, _, rfl, rfl, _, rfl, ite2 (fun e => ?_) fun e => ?_⟩
    · have e' : 9 < x := by have := of_decide_eq_true e; omega
      rw [if_pos (.inl e')] at k
      refine iteT ⟨_, rfl, (by show 1 ≤ sizeLine; decide), fun q hq => ?_⟩
      exact k _ q (ht.same (Same.new hq)) (Keep.same (Same.new hq)) hq upd_same
    · have e' : ¬ 9 < x := fun z => e (decide_eq_true (by omega))
      refine ⟨_, rfl, an, _, _, _, rfl, rfl, SqL.of hn, a1, _, _, rfl, rfl, _, rfl, ite2 (fun e2 => ?_) fun e2 => ?_⟩
      · have e3 : 15 < y := by have := of_decide_eq_true e2; omega
        rw [if_pos (.inr e3)] at k
        refine ⟨_, rfl, (by show 1 ≤ sizeLine; decide), fun q hq => ?_⟩
        exact k _ q (ht.same (Same.new hq)) (Keep.same (Same.new hq)) hq upd_same
      · have e3 : ¬ 15 < y := fun z => e2 (decide_eq_true (by omega))
        rw [if_neg (by omega)] at k
        obtain ⟨psw, hw, hwl⟩ := ht.len
        refine ⟨_, rfl, t, CT, dt, _, _, rfl, htins, TT.cl, TT.nB, tF_wr, aw, _, rfl, .inl (SqL.of hw), _, _, rfl, rfl, _, rfl, ?_⟩
        rw [hwl]
        refine ite2 (fun e4 => ?_) fun e4 => ?_
        · have e5 : 6 ≤ b.count := by have := of_decide_eq_true e4; omega
          rw [if_pos e5] at k
          refine ⟨_, rfl, (by show 1 ≤ sizeLine; decide), fun q hq => ?_⟩
          exact k _ q (ht.same (Same.new hq)) (Keep.same (Same.new hq)) hq upd_same
        · have e5 : ¬ 6 ≤ b.count := fun z => e4 (decide_eq_true (by omega))
          rw [if_neg e5] at k
          refine ⟨_, rfl, t, CT, dt, _, _, rfl, htins, TT.cl, TT.nB, tF_wr, .inl ⟨rfl, _, SqL.of hw⟩, ?_⟩
          refine ⟨_, rfl, an, _, _, _, rfl, rfl, SqL.of hn, a0, _, rfl, an, _, _, _, rfl, rfl, SqL.of hn, a1, (by show 2 ≤ sizeLine; decide), fun p hp => ?_⟩
          have s1 := Same.new (o := .tup [V.int (x : Int), V.int (y : Int)]) hp
          refine ⟨aw, _, _, rfl, rfl, s1 _ _ hw, ?_, ?_⟩
          · rw [hwl]
            exact Nat.lt_of_lt_of_le (by omega : b.count < 6) (by show 6 ≤ sizeLine; decide)
          · have t2 := (ht.same s1).addW (x := x) (y := y) nwm (s1 _ _ hw) upd_same
            obtain ⟨d2, i2⟩ := t2.ins
            obtain ⟨psw2, hw2, hwl2⟩ := t2.len
            refine ⟨_, rfl, t, CT, d2, _, _, rfl, i2, TT.cl, TT.nB, tF_wr, aw, _, rfl, .inl (SqL.of hw2), _, _, rfl, rfl, (by show 1 ≤ sizeLine; decide), fun q hq => ?_⟩
            refine k _ q (t2.same (Same.new hq)) (fun z o hz n1 n2 => ?_) ?_ ?_
            · refine Same.new hq _ _ ?_
              rw [upd_ne n1]
              exact s1 _ _ hz
            · have nqw : q ≠ aw := fun e => by rw [e, upd_same] at hq; cases hq
              rw [upd_ne nqw] at hq
              exact s1.free hq
            · rw [upd_same, hwl2]
              have ec : Sj09.Basho.count { b with wrestlers := b.wrestlers ++ [⟨x, y⟩] } = b.count + 1 := by
                show (b.wrestlers ++ [_]).length = b.wrestlers.length + 1
                simp
              show some (HO.lst [V.int (((Sj09.Basho.count { b with wrestlers := b.wrestlers ++ [⟨x, y⟩] } : Nat) : Int) - 1)]) = some (HO.lst [V.int ((b.count : Nat) : Int)])
              rw [ec, show (((b.count + 1 : Nat) : Int) - 1) = ((b.count : Nat) : Int) by omega]
end
end Dy

namespace Dy
open PySem PySem.Spec PyProof.Rows L2
theorem TAt.lenM {C : Addr} {H : Hp} {a aw am : Addr} {b : B} (t : TAt C H a aw am b) : ∃ ps : List Addr, H am = some (.lst (ps.map V.ref)) ∧ (ps.map V.ref).length = b.met.length := by
  obtain ⟨ps, h1, h2⟩ := t.mt
  exact ⟨ps, h1, by
    rw [List.length_map, h2.length]
    unfold mRows
    rw [List.length_map]⟩
section
variable {P : Program} {w : World} {K : PySem.W.Frag} {mg : Str → Option Value} {base : Heap}
/-! ### do_met(t, n, day) -/
abbrev nMet : List Str := ["t", "n", "day", "count"]
theorem scMet : FnScope nMet nDo (defScope sMet) := ⟨rfl, rfl, rfl, by decide +kernel, rfl, by decide +kernel, by decide +kernel⟩
theorem okMet {CT f fM : Addr} {fd fdM : FuncData} (F : Fun K "do_met" "do_met" sMet f fd) (TT : TxT K CT) (G : Glo mg)
    (GM : FnOk P w K mg base CX0 1 fM fdM ["self", "i", "j"] (spMay CT)) (bM : Binds K fdM ["self", "i", "j"] []) (mM : Meth K CT "may_meet" fM) : FnOk P w K mg base CX0 2 f fd nDo (spDo CT 2) := by
  refine F.ok scMet (fun vs H Q E h => ?_) (fun cdv A outer s H vs Q E hr h => ⟨_, pss_cons (ps_set (i := 3) scMet.nd rfl (Or.inl rfl) (pe_callB call_len_seq (by rfl) G.len PySem.boot_len (pa_cons (pe_fld (pv 0) rfl) pa_nil)))
    (pss_cons (ps_if (PW.pt (pw_or (pt_cmpR op_ge (pe_ix ix_list (pv 1) pe_int (fun _ _ => rfl)) (pv 3) (nomark _)) (pw_or1 (pt_cmpR op_ge (pe_ix ix_list (pv 1) pe_int (fun _ _ => rfl)) (pv 3) (nomark _)))))
      (pss_one (ps_ret (pe_lst (pa_cons (pe_un un_neg pe_int) pa_nil)))) pss_nil)
    (pss_cons (ps_if (pt_not (pt_val (pe_meth (pv 0) TT.cl mM GM hr bM .nil pass0 (pa_cons (pe_ix ix_list (pv 1) pe_int (fun _ _ => rfl)) (pa_cons (pe_ix ix_list (pv 1) pe_int (fun _ _ => rfl)) pa_nil))))) (pss_one (ps_ret (pe_lst (pa_cons (pe_un un_neg pe_int) pa_nil)))) pss_nil)
    (pss_cons (ps_expr (pe_bm PySem.F.plainAttrs_list PySem.F.slot_list_append PySem.F.type_list_append mt_append (pe_fld (pv 0) rfl) (pa_cons (pe_tup (pa_cons (pe_ix ix_list (pv 1) pe_int (fun _ _ => rfl)) (pa_cons (pe_ix ix_list (pv 1) pe_int (fun _ _ => rfl)) pa_nil))) pa_nil)))
    (pss_one (ps_ret (pe_lst (pa_cons (pe_callB call_len_seq (by rfl) G.len PySem.boot_len (pa_cons (pe_fld (pv 0) rfl) pa_nil)) pa_nil))))))), ?_⟩)
  · obtain ⟨t, aw, am, an, ad, b, ns, l, c, rfl, _⟩ := h
    rfl
  · obtain ⟨t, aw, am, an, ad, b, ns, l, c, rfl, ht, nwm, hn, hd, gd, ⟨x, y, rfl, rfl⟩, k⟩ := h
    rw [step_m] at k
    obtain ⟨dt, htins⟩ := ht.ins
    have a0 : atI (iV (zs [x, y])) 0 = some (V.int (x : Int)) := rfl
    have a1 : atI (iV (zs [x, y])) 1 = some (V.int (y : Int)) := rfl
    obtain ⟨psw, hw, hwl⟩ := ht.len
    obtain ⟨psm, hm, hml⟩ := ht.lenM
    have m59 : b.met.length + 1 ≤ 60 := gd.mt
    refine ⟨_, rfl, t, CT, dt, _, _, rfl, htins, TT.cl, TT.nB, tF_wr, aw, _, rfl, .inl (SqL.of hw), ?_⟩
    rw [hwl]
    refine ⟨_, rfl, an, _, _, _, rfl, rfl, SqL.of hn, a0, _, rfl, _, _, rfl, rfl, _, rfl, ite2 (fun e => ?_) fun e => ?_⟩
    · have e' : b.count ≤ x := by have := of_decide_eq_true e; omega
      rw [if_pos (.inl e')] at k
      refine iteT ⟨_, rfl, (by show 1 ≤ sizeLine; decide), fun q hq => ?_⟩
      exact k _ q (ht.same (Same.new hq)) (Keep.same (Same.new hq)) hq upd_same
    · have e' : ¬ b.count ≤ x := fun z => e (decide_eq_true (by omega))
      refine ⟨_, rfl, an, _, _, _, rfl, rfl, SqL.of hn, a1, _, rfl, _, _, rfl, rfl, _, rfl, ite2 (fun e2 => ?_) fun e2 => ?_⟩
      · have e3 : b.count ≤ y := by have := of_decide_eq_true e2; omega
        rw [if_pos (.inr e3)] at k
        refine ⟨_, rfl, (by show 1 ≤ sizeLine; decide), fun q hq => ?_⟩
        exact k _ q (ht.same (Same.new hq)) (Keep.same (Same.new hq)) hq upd_same
      · have e3 : ¬ b.count ≤ y := fun z => e2 (decide_eq_true (by omega))
        rw [if_neg (by omega)] at k
        refine ⟨_, rfl, t, dt, _, rfl, htins, tF_no (by decide +kernel), _, rfl, an, _, _, _, rfl, rfl, SqL.of hn, a0, _, rfl, an, _, _, _, rfl, rfl, SqL.of hn, a1, t, aw, am, b, x, y, rfl, ht, by omega, by omega, by omega, fun H1 s1 => ⟨_, rfl, ?_⟩⟩
        cases cm : b.may x y with
        | false =>
          rw [if_pos cm] at k
          refine iteT ⟨_, rfl, (by show 1 ≤ sizeLine; decide), fun q hq => ?_⟩
          exact k _ q (ht.same (s1.trans (Same.new hq))) (Keep.same (s1.trans (Same.new hq))) (s1.free hq) upd_same
        | true =>
          rw [if_neg (by rw [cm]; exact Bool.noConfusion)] at k
          refine iteF ?_
          have hm1 := s1 _ _ hm
          refine ⟨_, rfl, t, CT, dt, _, _, rfl, s1 _ _ htins, TT.cl, TT.nM, tF_met, .inl ⟨rfl, _, SqL.of hm1⟩, ?_⟩
          have hn1 := s1 _ _ hn
          refine ⟨_, rfl, an, _, _, _, rfl, rfl, SqL.of hn1, a0, _, rfl, an, _, _, _, rfl, rfl, SqL.of hn1, a1, (by show 2 ≤ sizeLine; decide), fun p hp => ?_⟩
          have s2 := Same.new (o := .tup [V.int (x : Int), V.int (y : Int)]) hp
          refine ⟨am, _, _, rfl, rfl, s2 _ _ hm1, ?_, ?_⟩
          · rw [hml]
            exact Nat.lt_of_lt_of_le (by omega : b.met.length < 60) (by show 60 ≤ sizeLine; decide)
          · have t2 := (ht.same (s1.trans s2)).addM (x := x) (y := y) nwm (s2 _ _ hm1) upd_same
            obtain ⟨d2, i2⟩ := t2.ins
            obtain ⟨psm2, hm2, hml2⟩ := t2.lenM
            refine ⟨_, rfl, t, CT, d2, _, _, rfl, i2, TT.cl, TT.nM, tF_met, am, _, rfl, .inl (SqL.of hm2), (by show 1 ≤ sizeLine; decide), fun q hq => ?_⟩
            refine k _ q (t2.same (Same.new hq)) (fun z o hz n1 n2 => ?_) ?_ ?_
            · refine Same.new hq _ _ ?_
              rw [upd_ne n2]
              exact s2 _ _ (s1 _ _ hz)
            · have nqw : q ≠ am := fun e => by rw [e, upd_same] at hq; cases hq
              rw [upd_ne nqw] at hq
              exact s1.free (s2.free hq)
            · rw [upd_same, hml2]
              have ec : (b.met ++ [(x, y)]).length = b.met.length + 1 := by simp
              show some (HO.lst [V.int (((b.met ++ [(x, y)]).length : Nat) : Int)]) = some (HO.lst [V.int ((b.met.length : Nat) + 1)])
              rw [ec]
              rfl
end
end Dy

namespace Dy
open PySem PySem.Spec PyProof.Rows L2
theorem find_some {n i : Nat} {p : Nat → Bool} (hi : i < n) (h : p i = true) (hj : ∀ j, j < i → p j = false) : (List.range n).find? p = some i := by
  rw [List.find?_range_eq_some]
  exact ⟨h, List.mem_range.mpr hi, fun j hj' => by rw [hj j hj']; rfl⟩
theorem find_none {n : Nat} {p : Nat → Bool} (h : ∀ j, j < n → p j = false) : (List.range n).find? p = none := by
  rw [List.find?_eq_none]
  intro x hx
  rw [h x (List.mem_range.mp hx)]
  exact Bool.false_ne_true
theorem step_c1 {b : B} {l : List Nat} (h : b.told l = false) : Sj13.step b (.check l) = (b, Sj13.ok (-1)) := by
  have e : Sj09.step b (.check l) = (b, Sj09.ok (-1)) := if_pos h
  show (if (Sj09.step b (.check l)).2.v < 0 then Sj13.of9 (Sj09.step b (.check l)) else _) = _
  rw [e, if_pos (by show (-1 : Int) < 0; decide)]
  rfl
theorem step_c2 {b : B} {l : List Nat} {i : Nat} (h : b.told l = true) (ho : b.odd_ l = some i) : Sj13.step b (.check l) = (b, ⟨-6, [(i : Int)]⟩) := by
  have e : Sj09.step b (.check l) = (b, ⟨-6, [(i : Int)]⟩) := by
    show (if b.told l = false then (b, Sj09.ok (-1)) else (b, match b.odd_ l with
      | some i => ⟨-6, Sj09.ints [i]⟩
      | none => match b.bad l with
        | some i => ⟨-7, Sj09.ints [i]⟩
        | none => ⟨((b.bouts l : Nat) : Int), Sj09.ints [b.cost l]⟩)) = _
    rw [if_neg (by rw [h]; exact Bool.noConfusion), ho]
    rfl
  show (if (Sj09.step b (.check l)).2.v < 0 then Sj13.of9 (Sj09.step b (.check l)) else _) = _
  rw [e, if_pos (by show (-6 : Int) < 0; decide)]
  rfl
theorem step_c3 {b : B} {l : List Nat} {i : Nat} (h : b.told l = true) (ho : b.odd_ l = none) (hb : b.bad l = some i) : Sj13.step b (.check l) = (b, ⟨-7, [(i : Int)]⟩) := by
  have e : Sj09.step b (.check l) = (b, ⟨-7, [(i : Int)]⟩) := by
    show (if b.told l = false then (b, Sj09.ok (-1)) else (b, match b.odd_ l with
      | some i => ⟨-6, Sj09.ints [i]⟩
      | none => match b.bad l with
        | some i => ⟨-7, Sj09.ints [i]⟩
        | none => ⟨((b.bouts l : Nat) : Int), Sj09.ints [b.cost l]⟩)) = _
    rw [if_neg (by rw [h]; exact Bool.noConfusion), ho, hb]
    rfl
  show (if (Sj09.step b (.check l)).2.v < 0 then Sj13.of9 (Sj09.step b (.check l)) else _) = _
  rw [e, if_pos (by show (-7 : Int) < 0; decide)]
  rfl
theorem step_c4 {b : B} {l : List Nat} (h : b.told l = true) (ho : b.odd_ l = none) (hb : b.bad l = none) :
    Sj13.step b (.check l) = (b, ⟨((Sj13.alive b l).length : Nat), zs ([b.bouts l, b.cost l] ++ Sj13.parts (Sj13.level b l) (b.bouts l) ++ Sj13.alive b l)⟩) := by
  have e : Sj09.step b (.check l) = (b, ⟨((b.bouts l : Nat) : Int), Sj09.ints [b.cost l]⟩) := by
    show (if b.told l = false then (b, Sj09.ok (-1)) else (b, match b.odd_ l with
      | some i => ⟨-6, Sj09.ints [i]⟩
      | none => match b.bad l with
        | some i => ⟨-7, Sj09.ints [i]⟩
        | none => ⟨((b.bouts l : Nat) : Int), Sj09.ints [b.cost l]⟩)) = _
    rw [if_neg (by rw [h]; exact Bool.noConfusion), ho, hb]
  show (if (Sj09.step b (.check l)).2.v < 0 then Sj13.of9 (Sj09.step b (.check l)) else _) = _
  rw [e, if_neg (by show ¬ ((b.bouts l : Nat) : Int) < 0; omega)]
  rfl
section
variable {P : Program} {w : World} {K : PySem.W.Frag} {mg : Str → Option Value} {base : Heap}
/-! ### do_check(t, n, day) -/
abbrev nCheck : List Str := ["t", "n", "day", "count", "i", "j", "p", "x"]
theorem scCheck : FnScope nCheck nDo (defScope sCheck) := ⟨rfl, rfl, rfl, by decide +kernel, rfl, by decide +kernel, by decide +kernel⟩
theorem okCheck {CT CP f fM fI fC : Addr} {fd fdM fdI fdC : FuncData} (F : Fun K "do_check" "do_check" sCheck f fd) (TT : TxT K CT) (TP : TxP K CP) (G : Glo mg)
    (GM : FnOk P w K mg base CX0 1 fM fdM ["self", "i", "j"] (spMay CT)) (bM : Binds K fdM ["self", "i", "j"] []) (mM : Meth K CT "may_meet" fM)
    (M : Mk K CP fI) (GI : FnOk P w K mg base CX0 2 fI fdI ["self", "t", "day"] (spPInit CP CT)) (bI : Binds K fdI ["self", "t", "day"] []) (mP : mg "Prospect" = some (.ref CP))
    (GC : FnOk P w K mg base CX0 1 fC fdC ["self"] (spChance CP)) (bC : Binds K fdC ["self"] []) (mC : Meth K CP "chance" fC) : FnOk P w K mg base CX0 4 f fd nDo (spDo CT 3) := by
  refine F.ok scCheck (fun vs H Q E h => ?_) (fun cdv A outer s H vs Q E hr h => ⟨_, pss_cons (ps_set (i := 3) scCheck.nd rfl (Or.inr rfl) (pe_callB call_len_seq (by rfl) G.len PySem.boot_len (pa_cons (pe_fld (pv 0) rfl) pa_nil)))
    (pss_cons (ps_if (PW.pt (pw_or (pt_cmpR op_ne (pe_callB call_len_seq (by rfl) G.len PySem.boot_len (pa_cons (pv 2) pa_nil)) (pv 3) (nomark _)) (pw_or1 (pt_not (pt_val (pe_callB (cr_all rfl) (by rfl) G.all (by decide +kernel) (pa_cons
        (pe_lc (own := [("x", 7)]) (g := gName 7) (tt := tYes) rfl scCheck.nd (pi_list (pv 2)) (blkOk_by (N := nCheck) (sc := defScope sCheck) (by decide +kernel)) (fun _ _ _ _ _ => pg_name (i := 7) scCheck.nd rfl (Or.inl rfl)) (fun _ _ _ _ _ => pts_nil) (fun _ _ _ _ _ => pe_cmpR op_lt (pv 7) (pv 3) (nomark _))) pa_nil)))))))
      (pss_one (ps_ret (pe_lst (pa_cons (pe_un un_neg pe_int) pa_nil)))) pss_nil)
    (pss_cons (ps_for PassesOwn.never rfl (pi_enum (by rfl) G.enumerate (pa_cons (pv 2) pa_nil)) (pg_tup rfl (pgs_cons (pg_name (i := 4) scCheck.nd rfl (Or.inl rfl)) (pgs_cons (pg_name (i := 5) scCheck.nd rfl (Or.inl rfl)) pgs_nil)))
      (pss_one (ps_if (pt_cmpR op_ne (pe_ix ix_list (pv 2) (pv 5) (fun _ _ => rfl)) (pv 4) (nomark _)) (pss_one (ps_ret (pe_lst (pa_cons (pe_un un_neg pe_int) (pa_cons (pv 4) pa_nil))))) pss_nil)))
    (pss_cons (ps_for PassesOwn.never rfl (pi_enum (by rfl) G.enumerate (pa_cons (pv 2) pa_nil)) (pg_tup rfl (pgs_cons (pg_name (i := 4) scCheck.nd rfl (Or.inl rfl)) (pgs_cons (pg_name (i := 5) scCheck.nd rfl (Or.inl rfl)) pgs_nil)))
      (pss_one (ps_if (PW.pt (pw_and (pt_cmpR op_ne (pv 4) (pv 5) (nomark _)) (pw_and1 (pt_not (pt_val (pe_meth (pv 0) TT.cl mM GM (hr.mono (by decide)) bM .nil pass0 (pa_cons (pv 4) (pa_cons (pv 5) pa_nil)))))))) (pss_one (ps_ret (pe_lst (pa_cons (pe_un un_neg pe_int) (pa_cons (pv 4) pa_nil))))) pss_nil)))
    (pss_cons (ps_set (i := 6) scCheck.nd rfl (Or.inl rfl) (pe_make M GI hr rfl mP bI .nil pass0 (pa_cons (pv 0) (pa_cons (pv 2) pa_nil))))
    (pss_one (ps_ret (pe_op op_cat (pe_op op_cat (pe_lst (pa_cons (pe_callB call_len_seq (by rfl) G.len PySem.boot_len (pa_cons (pe_fld (pv 6) rfl) pa_nil)) (pa_cons (pe_callB call_len_seq (by rfl) G.len PySem.boot_len (pa_cons (pe_fld (pv 6) rfl) pa_nil)) (pa_cons (pe_fld (pv 6) rfl) pa_nil))))
      (pe_meth0 (pv 6) TP.cl mC GC (hr.mono (by decide)) bC .nil pass0)) (pe_fld (pv 6) rfl)))))))), ?_⟩)
  · obtain ⟨t, aw, am, an, ad, b, ns, l, c, rfl, _⟩ := h
    rfl
  · obtain ⟨t, aw, am, an, ad, b, ns, l, c, rfl, ht, nwm, hn, hd, gd, ⟨l8, rfl⟩, k⟩ := h
    obtain ⟨dt, htins⟩ := ht.ins
    obtain ⟨psw, hw, hwl⟩ := ht.len
    -- an answer that changes nothing
    have out : ∀ (ans : List Int) (H' : Hp), Sj13.step b (.check l) = (b, ⟨ans.headD 0, ans.tail⟩) → ans ≠ [] → Same H H' → ∀ q, H' q = none → Q (.ref q) (L2.upd H' q (.lst (iV ans))) := by
      intro ans H' e ne s q hq
      rw [e] at k
      refine k _ q (ht.same (s.trans (Same.new hq))) (Keep.same (s.trans (Same.new hq))) (s.free hq) ?_
      rw [upd_same]
      match ans, ne with
      | x :: r, _ => rfl
    refine ⟨_, rfl, t, CT, dt, _, _, rfl, htins, TT.cl, TT.nB, tF_wr, aw, _, rfl, .inl (SqL.of hw), ?_⟩
    rw [hwl]
    refine ⟨_, rfl, ad, _, rfl, .inl (SqL.of hd), _, rfl, rfl, _, rfl, ?_⟩
    rw [iV_len, zs_len]
    by_cases c1 : l.length = b.count
    · rw [decide_eq_true (show V.int ((l.length : Nat) : Int) = V.int ((b.count : Nat) : Int) by rw [c1])]
      refine iteF ?_
      refine ⟨_, rfl, ad, rfl, ⟨_, SqL.of hd⟩, fun D hD => ?_⟩
      refine lc_list (K := K) (a := ad) (xs := iV (zs l)) (fun i H' => Same H H' ∧ H' D = some (.lst (((l.take i).map fun (x : Nat) => decide (x < b.count)).map V.bl))) ⟨Same.new hD, upd_same⟩ (fun i H' _ q => SqL.of (q.1 _ _ hd)) ?_ ?_
      · rintro i x H' hx ⟨s1, h1⟩
        have hi : i < l.length := by
          have := (List.getElem?_eq_some_iff.mp hx).1
          rw [iV_len, zs_len] at this
          exact this
        obtain rfl := zs_at hi hx
        refine ⟨rfl, _, rfl, _, rfl, _, _, rfl, rfl, _, h1, ?_, fun x o z => ?_, ?_⟩
        · rw [List.length_map, List.length_map, List.length_take]
          exact Nat.lt_of_le_of_lt (Nat.le_trans (Nat.min_le_left _ _) (by omega : i ≤ 8)) (by show 8 < sizeLine; decide)
        · rw [upd_ne (ne_of_none z hD)]
          exact s1 _ _ z
        · have eg : l[i]? = some (l.getD i 0) := by rw [List.getD_eq_getElem?_getD, List.getElem?_eq_getElem hi]; rfl
          rw [upd_same, take_more eg, List.map_append, List.map_append]
          have ed : decide (((l.getD i 0 : Nat) : Int) < ((b.count : Nat) : Int)) = decide (l.getD i 0 < b.count) := by
            by_cases q : l.getD i 0 < b.count
            · rw [decide_eq_true q, decide_eq_true (by omega)]
            · rw [decide_eq_false q, decide_eq_false (by omega)]
          show some (HO.lst (_ ++ [V.bl (decide (((l.getD i 0 : Nat) : Int) < ((b.count : Nat) : Int)))])) = _
          rw [ed]
          rfl
      · rintro H1 ⟨s1, h1⟩
        rw [iV_len, zs_len, List.take_length] at h1
        refine ⟨D, _, rfl, SqL.of h1, _, rfl, ?_⟩
        have eall : ((l.map fun (x : Nat) => decide (x < b.count)).all id) = l.all fun k => decide (k < b.count) := by
          rw [List.all_map]
          rfl
        rw [eall]
        have etold : b.told l = l.all fun k => decide (k < b.count) := by
          unfold Sj09.Basho.told
          rw [c1, beq_self_eq_true, Bool.true_and]
        cases c2 : l.all fun k => decide (k < b.count) with
        | false =>
          rw [c2] at etold
          refine iteT ⟨_, rfl, (by show 1 ≤ sizeLine; decide), fun q hq => ?_⟩
          exact out [-1] H1 (step_c1 etold) (by simp) s1 q hq
        | true =>
          rw [c2] at etold
          refine iteF ?_
          have hin : Inside b l := ⟨c1, fun x hx => of_decide_eq_true (List.all_eq_true.mp c2 x hx)⟩
          have hlen : (iV (zs l)).length = l.length := by rw [iV_len, zs_len]
          -- for i, j in enumerate(day): if day[j] != i: ..
          refine ⟨_, rfl, ad, _, rfl, SqL.of (s1 _ _ hd), ?_⟩
          refine for_it (walk_enum (K := K) (a := ad) (xs := iV (zs l))) (fun i σ H' => ∃ (v4 v5 : Option V), σ = [some (.ref t), some (.ref an), some (.ref ad), some (.int (b.count : Nat)), v4, v5, none, none] ∧ Same H H' ∧ ∀ j, j < i → l.getD (l.getD j 0) 0 = j) ⟨none, none, rfl, s1, fun j hj => absurd hj (Nat.not_lt_zero _)⟩ (fun i σ H' _ ⟨_, _, _, q, _⟩ => SqL.of (q _ _ hd)) ?_ ?_
          · rintro i x σ H2 H3 hi ⟨v4, v5, rfl, s2, ok⟩ ⟨Tt, x', y', rfl, nT, rfl, ex, ey⟩
            obtain rfl : x' = V.int (i : Nat) := (Option.some.inj ex).symm
            rw [hlen] at hi
            obtain rfl : y' = V.int ((l.getD i 0 : Nat) : Int) := zs_at hi ey
            have sT : Same H2 (L2.upd H2 Tt (.tup [V.int (i : Nat), V.int ((l.getD i 0 : Nat) : Int)])) := Same.new nT
            have hli : l.getD i 0 < l.length := by rw [c1]; exact hin.get (by omega)
            refine ⟨Tt, _, rfl, SqT.of upd_same, rfl, _, _, rfl, _, _, rfl, rfl, ?_⟩
            refine ⟨_, rfl, _, rfl, ad, _, _, _, rfl, rfl, SqL.of (sT _ _ (s2 _ _ hd)), iV_get (by rw [zs_len]; exact hli), _, rfl, rfl, _, rfl, ?_⟩
            rw [zs_getD]
            by_cases c3 : l.getD (l.getD i 0) 0 = i
            · rw [decide_eq_true (show V.int ((l.getD (l.getD i 0) 0 : Nat) : Int) = V.int ((i : Nat) : Int) by rw [c3])]
              refine iteF ⟨_, _, rfl, s2.trans sT, fun j hj => ?_⟩
              by_cases e : j = i
              · rw [e]; exact c3
              · exact ok j (by omega)
            · rw [decide_eq_false (show ¬ V.int ((l.getD (l.getD i 0) 0 : Nat) : Int) = V.int ((i : Nat) : Int) by intro e; have := V.int.inj e; omega)]
              refine iteT ⟨_, rfl, _, rfl, (by show 2 ≤ sizeLine; decide), fun q hq => ?_⟩
              refine out [-6, (i : Int)] _ (step_c2 etold ?_) (by simp) (s2.trans sT) q hq
              exact find_some (by rw [← c1]; exact hi) (by rw [bne_iff_ne]; exact c3) fun j hj => by rw [ok j hj]; exact bne_self_eq_false j
          · rintro σ H2 ⟨v4, v5, rfl, s2, ok⟩
            rw [hlen] at ok
            have hv : Invol b l := fun j hj => ok j (by rw [c1]; exact hj)
            have hodd : b.odd_ l = none := find_none fun j hj => by rw [hv j hj]; exact bne_self_eq_false j
            refine ⟨_, rfl, ad, _, rfl, SqL.of (s2 _ _ hd), ?_⟩
            refine for_it (walk_enum (K := K) (a := ad) (xs := iV (zs l))) (fun i σ H' => ∃ (v4 v5 : Option V), σ = [some (.ref t), some (.ref an), some (.ref ad), some (.int (b.count : Nat)), v4, v5, none, none] ∧ Same H H' ∧ ∀ j, j < i → (l.getD j 0 != j && !b.may j (l.getD j 0)) = false) ⟨_, _, rfl, s2, fun j hj => absurd hj (Nat.not_lt_zero _)⟩ (fun i σ H' _ ⟨_, _, _, q, _⟩ => SqL.of (q _ _ hd)) ?_ ?_
            · clear v4 v5
              rintro i x σ H3 H4 hi ⟨v4, v5, rfl, s3, ok2⟩ ⟨Tt, x', y', rfl, nT, rfl, ex, ey⟩
              obtain rfl : x' = V.int (i : Nat) := (Option.some.inj ex).symm
              rw [hlen] at hi
              obtain rfl : y' = V.int ((l.getD i 0 : Nat) : Int) := zs_at hi ey
              have sT : Same H3 (L2.upd H3 Tt (.tup [V.int (i : Nat), V.int ((l.getD i 0 : Nat) : Int)])) := Same.new nT
              have hli : l.getD i 0 < b.count := hin.get (by omega)
              have more : ∀ {c : Bool}, (l.getD i 0 != i && !b.may i (l.getD i 0)) = c → c = false → ∀ j, j < i + 1 → (l.getD j 0 != j && !b.may j (l.getD j 0)) = false := fun {c} h1 h2 j hj => by
                by_cases e : j = i
                · rw [e, h1, h2]
                · exact ok2 j (by omega)
              refine ⟨Tt, _, rfl, SqT.of upd_same, rfl, _, _, rfl, _, _, rfl, rfl, ?_⟩
              refine ⟨_, rfl, _, rfl, rfl, _, rfl, ?_⟩
              by_cases c3 : i = l.getD i 0
              · rw [decide_eq_true (show V.int ((i : Nat) : Int) = V.int ((l.getD i 0 : Nat) : Int) by rw [← c3])]
                refine iteF ?_
                refine iteF ⟨_, _, rfl, s3.trans sT, more (c := false) ?_ rfl⟩
                rw [← c3, bne_self_eq_false, Bool.false_and]
              · rw [decide_eq_false (show ¬ V.int ((i : Nat) : Int) = V.int ((l.getD i 0 : Nat) : Int) by intro e; have := V.int.inj e; omega)]
                refine iteT ?_
                have nb : (l.getD i 0 != i) = true := by rw [bne_iff_ne]; exact fun e => c3 e.symm
                refine ⟨_, rfl, t, dt, _, rfl, sT _ _ (s3 _ _ htins), tF_no (by decide +kernel), _, rfl, _, rfl, t, aw, am, b, i, l.getD i 0, rfl, ht.same (s3.trans sT), by omega, hli, by have := gd.mt; omega, fun H5 s5 => ⟨_, rfl, ?_⟩⟩
                cases cm : b.may i (l.getD i 0) with
                | true =>
                  refine iteF ⟨_, _, rfl, (s3.trans sT).trans s5, more (c := false) ?_ rfl⟩
                  rw [cm, Bool.not_true, Bool.and_false]
                | false =>
                  refine iteT ⟨_, rfl, _, rfl, (by show 2 ≤ sizeLine; decide), fun q hq => ?_⟩
                  refine out [-7, (i : Int)] _ (step_c3 etold hodd ?_) (by simp) ((s3.trans sT).trans s5) q hq
                  exact find_some (by omega) (by rw [nb, cm]; rfl) ok2
            · clear v4 v5
              rintro σ H3 ⟨v4, v5, rfl, s3, ok2⟩
              rw [hlen] at ok2
              have hbad : b.bad l = none := find_none fun j hj => ok2 j (by rw [c1]; exact hj)
              have h3 : b.bouts l ≤ 3 := by
                have := bouts_le hin hv
                have := gd.cnt
                omega
              refine ⟨_, rfl, _, rfl, fun x dx nx ndx nex => ?_⟩
              have sN : Same H3 (L2.upd (L2.upd H3 dx (.own x)) x (.ins CP dx [])) := (Same.new ndx).trans (Same.new (by rw [upd_ne (Ne.symm nex)]; exact nx))
              have tN := ht.same (s3.trans sN)
              refine ⟨x, dx, t, aw, am, ad, b, l, rfl, upd_same, tN, ?_, sN _ _ (s3 _ _ hd), hin, hv, gd.cnt, gd.rk, gd.wn, fun H6 hP0 u6 => ⟨rfl, ?_⟩⟩
              · intro e
                rw [e] at htins
                rw [s3 _ _ htins] at nx
                cases nx
              · have s6 : Same H H6 := fun z o hz => u6 _ _ (sN _ _ (s3 _ _ hz)) (fun e => by rw [e] at hz; rw [s3 _ _ hz] at nx; cases nx)
                have hP := hP0.to
                obtain ⟨dp, pd, pb, pa, hp1, hp2, ⟨psb, hb1, hb2⟩, hp4⟩ := hP.at_
                refine ⟨_, rfl, x, CP, dp, _, _, rfl, hp1, TP.cl, TP.nA, pF_able, pa, _, rfl, .inl (SqL.of hp4), ?_⟩
                refine ⟨_, rfl, x, CP, dp, _, _, rfl, hp1, TP.cl, TP.nB, pF_bouts, pb, _, rfl, .inl (SqL.of hb1), ?_⟩
                refine ⟨_, rfl, x, CP, dp, _, _, rfl, hp1, TP.cl, TP.nO, pF_off, (by show 3 ≤ sizeLine; decide), fun q nq => ?_⟩
                have sq := Same.new (o := .lst [V.int (((iV (zs (Sj13.alive b l))).length : Nat) : Int), V.int (((psb.map V.ref).length : Nat) : Int), V.int ((b.cost l : Nat) : Int)]) nq
                refine ⟨_, rfl, x, dp, _, rfl, sq _ _ hp1, pF_no (by decide +kernel), x, b, l, rfl, hP.same sq, h3, fun H7 q2 s7 nq2 hq2 => ?_⟩
                have al : (Sj13.alive b l).length ≤ 6 := by
                  unfold Sj13.alive
                  exact Nat.le_trans (List.length_filter_le _ _) (by rw [List.length_range]; exact gd.cnt)
                have pl : (iV (zs (Sj13.parts (Sj13.level b l) (b.bouts l)))).length = 2 := by rw [iV_len, zs_len]; rfl
                refine ⟨q, q2, _, _, rfl, rfl, s7 _ _ upd_same, hq2, ?_, fun r nr => ?_⟩
                · rw [pl]
                  show 3 + 2 ≤ sizeLine
                  decide
                · have sr := Same.new (o := .lst ([V.int (((iV (zs (Sj13.alive b l))).length : Nat) : Int), V.int (((psb.map V.ref).length : Nat) : Int), V.int ((b.cost l : Nat) : Int)] ++ iV (zs (Sj13.parts (Sj13.level b l) (b.bouts l))))) nr
                  have s8 : Same H6 _ := (sq.trans s7).trans sr
                  refine ⟨_, rfl, x, CP, dp, _, _, rfl, s8 _ _ hp1, TP.cl, TP.nA, pF_able, r, pa, _, _, rfl, rfl, upd_same, s8 _ _ hp4, ?_, fun z nz => ?_⟩
                  · have e1 : (iV (zs (Sj13.alive b l))).length = (Sj13.alive b l).length := by rw [iV_len, zs_len]
                    rw [List.length_append, pl]
                    refine Nat.le_trans (Nat.add_le_add_left (Nat.le_trans (Nat.le_of_eq e1) al) _) (by show (3 + 2) + 6 ≤ sizeLine; decide)
                  · have fin := out (((Sj13.alive b l).length : Int) :: zs ([b.bouts l, b.cost l] ++ Sj13.parts (Sj13.level b l) (b.bouts l) ++ Sj13.alive b l)) _ (step_c4 etold hodd hbad) (by simp) (s6.trans s8) z nz
                    have e1 : (iV (zs (Sj13.alive b l))).length = (Sj13.alive b l).length := by rw [iV_len, zs_len]
                    have e2 : (psb.map V.ref).length = b.bouts l := by rw [List.length_map, hb2.length, pRows_len]
                    have e3 : [V.int (((iV (zs (Sj13.alive b l))).length : Nat) : Int), V.int (((psb.map V.ref).length : Nat) : Int), V.int ((b.cost l : Nat) : Int)] ++ iV (zs (Sj13.parts (Sj13.level b l) (b.bouts l))) ++ iV (zs (Sj13.alive b l)) = iV (((Sj13.alive b l).length : Int) :: zs ([b.bouts l, b.cost l] ++ Sj13.parts (Sj13.level b l) (b.bouts l) ++ Sj13.alive b l)) := by
                      rw [e1, e2]
                      unfold iV zs
                      simp
                    rw [← e3] at fin
                    exact fin
    · rw [decide_eq_false (show ¬ V.int ((l.length : Nat) : Int) = V.int ((b.count : Nat) : Int) by intro e; have := V.int.inj e; omega)]
      refine iteT ?_
      refine iteT ⟨_, rfl, (by show 1 ≤ sizeLine; decide), fun q hq => ?_⟩
      refine out [-1] H (step_c1 ?_) (by simp) (Same.refl H) q hq
      unfold Sj09.Basho.told
      rw [beq_eq_false_iff_ne.mpr c1, Bool.false_and]
end
end Dy

namespace Dy
open PySem PySem.Spec PyProof.Rows L2
abbrev Z3 := Int × Int × Int
def t3 (z : Z3) : List Int := [z.1, z.2.1, z.2.2]
def d3 (z : Z3) : PyData := tI (t3 z)
def lt3 (p q : Z3) : Prop := p.1 < q.1 ∨ (p.1 = q.1 ∧ (p.2.1 < q.2.1 ∨ (p.2.1 = q.2.1 ∧ p.2.2 < q.2.2)))
instance (p q : Z3) : Decidable (lt3 p q) := by unfold lt3; infer_instance
theorem d3_lt (p q : Z3) : PySem.W.dataLt (d3 p) (d3 q) = decide (lt3 p q) := by
  have e : PySem.W.dataLt (d3 p) (d3 q) = decide (t3 p < t3 q) := (PySem.W.dataLt_tuple _ _).trans (PySem.W.dataLt_ints (t3 p) (t3 q))
  rw [e]
  refine decide_eq_decide.mpr ?_
  unfold t3 lt3
  rw [List.cons_lt_cons_iff, List.cons_lt_cons_iff, List.cons_lt_cons_iff]
  have : ¬ (([] : List Int) < []) := by simp
  simp only [this, and_false, or_false]
theorem t3_inj {p q : Z3} (h : t3 p = t3 q) : p = q := by
  unfold t3 at h
  rw [List.cons.injEq, List.cons.injEq, List.cons.injEq] at h
  exact Prod.ext h.1 (Prod.ext h.2.1 h.2.2.1)
theorem d3_same (p q : Z3) : PyData.eqv (d3 p) (d3 q) = decide (p = q) := by
  unfold d3
  rw [tI_same]
  exact decide_eq_decide.mpr ⟨t3_inj, fun h => congrArg t3 h⟩
theorem d3_inj {p q : Z3} (h : d3 p = d3 q) : p = q := by
  have e := d3_same p q
  rw [h, d3_same, decide_eq_true rfl] at e
  exact of_decide_eq_true e.symm
theorem d3_max : ∀ (zs : List Z3) (z : Z3), ∃ m, PySem.W.maxD (d3 z) (zs.map d3) = d3 m ∧ m ∈ z :: zs ∧ ∀ q ∈ z :: zs, ¬ lt3 m q := by
  intro zs
  induction zs with
  | nil => intro z; exact ⟨z, rfl, List.mem_singleton.mpr rfl, fun q hq => by rw [List.mem_singleton.mp hq]; unfold lt3; omega⟩
  | cons y r ih =>
    intro z
    have e : PySem.W.maxD (d3 z) ((y :: r).map d3) = PySem.W.maxD (if PySem.W.dataLt (d3 z) (d3 y) then d3 y else d3 z) (r.map d3) := rfl
    rw [e, d3_lt]
    by_cases h : lt3 z y
    · rw [decide_eq_true h, if_pos rfl]
      obtain ⟨m, h1, h2, h3⟩ := ih y
      refine ⟨m, h1, List.mem_cons_of_mem _ h2, fun q hq => ?_⟩
      rcases List.mem_cons.mp hq with rfl | hq
      · have := h3 y List.mem_cons_self
        unfold lt3 at this h ⊢
        omega
      · exact h3 q hq
    · rw [decide_eq_false h, if_neg Bool.false_ne_true]
      obtain ⟨m, h1, h2, h3⟩ := ih z
      refine ⟨m, h1, ?_, fun q hq => ?_⟩
      · rcases List.mem_cons.mp h2 with e | h2
        · rw [e]; exact List.mem_cons_self
        · exact List.mem_cons_of_mem _ (List.mem_cons_of_mem _ h2)
      · rcases List.mem_cons.mp hq with rfl | hq
        · exact h3 q List.mem_cons_self
        · rcases List.mem_cons.mp hq with rfl | hq
          · have := h3 z List.mem_cons_self
            unfold lt3 at this h ⊢
            omega
          · exact h3 q (List.mem_cons_of_mem _ hq)
theorem d3_alike (zs : List Z3) : PySem.W.AlikeAll (zs.map d3) := by
  refine ⟨fun x hx y hy => ?_, fun x hx => ?_⟩
  · obtain ⟨p, _, rfl⟩ := List.mem_map.mp hx
    obtain ⟨q, _, rfl⟩ := List.mem_map.mp hy
    unfold d3 tI t3
    simp [PySem.W.alike, PySem.W.alikeAll]
  · obtain ⟨p, _, rfl⟩ := List.mem_map.mp hx
    intro e
    cases e
theorem d3_depth (zs : List Z3) : PyData.depthAll (zs.map d3) ≤ 1 := by
  have h := (tIs_data (zs.map t3)).2
  rw [List.map_map] at h
  exact h
theorem d3_plain (z : Z3) : (d3 z).plain = true := PyData.plain_of_canLay0 _ (tI_data (t3 z)).1
theorem dp3 {K : PySem.W.Frag} {H : Hp} {p : Addr} {z : Z3} (h : H p = some (.tup (iV (t3 z)))) : Dp K H (.ref p) (d3 z) := .tup (SqT.of h) (.cons (.int _) (.cons (.int _) (.cons (.int _) .nil)))
theorem dps3 {K : PySem.W.Frag} {H : Hp} : ∀ {ps : List Addr} {zs : List Z3}, Rws .tup H ps (zs.map t3) → DpAll K H (ps.map V.ref) (zs.map d3)
  | [], [], _ => .nil
  | p :: ps, z :: zs, h => by
    cases h with
    | cons r t => exact .cons (dp3 r) (dps3 t)
/-- max(xs) of a list of tuples of three whole numbers -/
def rMaxT (K : PySem.W.Frag) : List V → Hp → VK → Prop := fun vs H Q => ∃ (a : Addr) (ps : List Addr) (zs : List Z3), vs = [V.ref a] ∧ SqL K H a (ps.map V.ref) ∧ Rws .tup H ps (zs.map t3) ∧ zs ≠ [] ∧
  ∀ (i : Nat) (p : Addr) (z : Z3), ps[i]? = some p → zs[i]? = some z → (∀ z' ∈ zs, ¬ lt3 z z') → Q (.ref p) H
theorem cr_maxT {X : Cx} (hc : X.calm = true) (hu : X.A.units + 65 < cLine) : CallR X (.builtin "max") (rMaxT X.K) := by
  intro pins s σ H given us Q I r ⟨a, ps, zs, eg, hs, hrw, hne, q⟩
  subst eg
  obtain ⟨its, rv, hl, small⟩ := I.list hs
  rw [Vals.ref1 r]
  match zs, hrw, hne, q with
  | z :: zr, hrw, _, q =>
    obtain ⟨as, hr⟩ := Dp.readsAll I _ _ _ (dps3 (K := X.K) hrw) rv
    obtain ⟨m, hm1, hm2, hm3⟩ := d3_max zr z
    refine PySem.W.max_list_data (vs := its.toArray) (x := d3 z) (xs := zr.map d3) (I.ok.hd hc) hl.isList (by simpa using hr) (d3_alike (z :: zr)) ?_ fun i v h' tk bs hv hrd hk => ?_
    · have := d3_depth (z :: zr)
      have e : PyData.depthAll (d3 z :: zr.map d3) = PyData.depthAll ((z :: zr).map d3) := rfl
      rw [e]
      omega
    · have hv' : its[i]? = some v := by simpa using hv
      have hil : i < its.length := (List.getElem?_eq_some_iff.mp hv').1
      have l1 := rv.length
      rw [List.length_map] at l1
      have hip : i < ps.length := by omega
      obtain ⟨zi, hzi, hzz⟩ := Paired.getL hrw (List.getElem?_eq_getElem hip)
      rw [List.getElem?_map] at hzi
      obtain ⟨zq, hzq, rfl⟩ : ∃ zq, (z :: zr)[i]? = some zq ∧ zi = t3 zq := by
        cases e : (z :: zr)[i]? with
        | none => rw [e] at hzi; cases hzi
        | some y => rw [e] at hzi; exact ⟨y, rfl, (Option.some.inj hzi).symm⟩
      obtain ⟨u, hu', ru⟩ := rv.get (x := V.ref ps[i]) (i := i) (by rw [List.getElem?_map, List.getElem?_eq_getElem hip]; rfl)
      rw [hv'] at hu'
      obtain rfl := Option.some.inj hu'
      obtain ⟨bs', rd'⟩ := Dp.reads I (d3 zq) (V.ref ps[i]) v (dp3 hzz) ru
      have ed : d3 zq = PySem.W.maxD (d3 z) (zr.map d3) := SeqAt.plain_unique _ _ _ _ _ (d3_plain zq) (PySem.W.reads_keeps hk rd') hrd
      rw [hm1] at ed
      have em := d3_inj ed
      subst em
      refine ⟨.ref ps[i], H, I.kept hk, ru, q i ps[i] zq (List.getElem?_eq_getElem hip) hzq hm3⟩
end Dy

namespace Dy
open PySem PySem.Spec PyProof.Rows L2
/-! ### the program's best days and the specification's -/
structure Keys (b : B) (key : List Nat → K3) (k3 : List Nat → Z3) : Prop where
  lt : ∀ l ∈ b.all_, ∀ l' ∈ b.all_, lt3 (k3 l) (k3 l') ↔ bt (key l') (key l) = true
  eq : ∀ l ∈ b.all_, ∀ l' ∈ b.all_, k3 l = k3 l' ↔ key l = key l'
theorem filter_mem_congr {α : Type} {p q : α → Bool} : ∀ {l : List α}, (∀ x ∈ l, p x = q x) → l.filter p = l.filter q := fun h => List.filter_congr h
theorem best_is {b : B} {key : List Nat → K3} {k3 : List Nat → Z3} (S : Keys b key k3) {li : List Nat} (hi : li ∈ b.all_) (hmax : ∀ l ∈ b.all_, ¬ lt3 (k3 li) (k3 l)) :
    ∃ l0 rest, b.all_.filter (fun l => decide (k3 l = k3 li)) = l0 :: rest ∧ l0 ∈ b.all_ ∧ b.all_.foldl (bstep key) none = some ⟨key l0, rest.length + 1, l0⟩ := by
  have f := best_fold key (key li) b.all_ (all_order b) (fun l hl => by
    cases e : bt (key l) (key li) with
    | false => rfl
    | true => exact absurd ((S.lt li hi l hl).mpr e) (hmax l hl)) ⟨li, hi, rfl⟩
  have ef : b.all_.filter (fun l => decide (k3 l = k3 li)) = b.all_.filter (fun l => decide (key l = key li)) := List.filter_congr fun l hl => decide_eq_decide.mpr (S.eq l hl li hi)
  rw [← ef] at f
  have hm : li ∈ b.all_.filter (fun l => decide (k3 l = k3 li)) := List.mem_filter.mpr ⟨hi, decide_eq_true rfl⟩
  cases e : b.all_.filter (fun l => decide (k3 l = k3 li)) with
  | nil => rw [e] at hm; cases hm
  | cons l0 rest =>
    rw [e] at f
    have h0 := List.mem_filter.mp (show l0 ∈ b.all_.filter (fun l => decide (k3 l = k3 li)) by rw [e]; exact List.mem_cons_self)
    have ek : key l0 = key li := (S.eq l0 h0.1 li hi).mp (of_decide_eq_true h0.2)
    refine ⟨l0, rest, rfl, h0.1, ?_⟩
    rw [f, ek]
    rfl
def ok3 (b : B) (l : List Nat) : Z3 := (((Sj13.alive b l).length : Nat), (b.bouts l : Nat), -(b.cost l : Nat))
def tk3 (b : B) (l : List Nat) : Z3 := ((b.bouts l : Nat), ((Sj13.level b l * 8 / 2 ^ b.bouts l : Nat) : Int), -(b.cost l : Nat))
theorem ok3_eq (b : B) (l : List Nat) : t3 (ok3 b l) = oK b l := rfl
theorem tk3_eq (b : B) (l : List Nat) : t3 (tk3 b l) = tK b l := rfl
theorem keysO (b : B) : Keys b (okey b) (ok3 b) := by
  refine ⟨fun l _ l' _ => ?_, fun l _ l' _ => ?_⟩
  · rw [bt_iff]
    unfold lt3 ok3 okey
    show ((((Sj13.alive b l).length : Nat) : Int) < (((Sj13.alive b l').length : Nat) : Int) ∨ _ ∧ (((b.bouts l : Nat) : Int) < ((b.bouts l' : Nat) : Int) ∨ _ ∧ -((b.cost l : Nat) : Int) < -((b.cost l' : Nat) : Int))) ↔ _
    constructor
    · intro h
      show (Sj13.alive b l).length < (Sj13.alive b l').length ∨ ((Sj13.alive b l').length = (Sj13.alive b l).length ∧ (b.bouts l < b.bouts l' ∨ (b.bouts l' = b.bouts l ∧ b.cost l' < b.cost l)))
      simp only [] at h
      omega
    · intro h
      have h' : (Sj13.alive b l).length < (Sj13.alive b l').length ∨ ((Sj13.alive b l').length = (Sj13.alive b l).length ∧ (b.bouts l < b.bouts l' ∨ (b.bouts l' = b.bouts l ∧ b.cost l' < b.cost l))) := h
      simp only []
      omega
  · unfold ok3 okey
    rw [Prod.mk.injEq, Prod.mk.injEq, Prod.mk.injEq, Prod.mk.injEq]
    omega
/-- play-offs as of eight outcomes: as they are, where the bouts are as many -/
theorem eighths {n x y : Nat} (hn : n ≤ 3) : (x * 8 / 2 ^ n < y * 8 / 2 ^ n ↔ x < y) ∧ (x * 8 / 2 ^ n = y * 8 / 2 ^ n ↔ x = y) := by
  have h : n = 0 ∨ n = 1 ∨ n = 2 ∨ n = 3 := by omega
  rcases h with rfl | rfl | rfl | rfl
  · simp only [Nat.pow_zero]; omega
  · simp only [show 2 ^ 1 = 2 from rfl]; omega
  · simp only [show 2 ^ 2 = 4 from rfl]; omega
  · simp only [show 2 ^ 3 = 8 from rfl]; omega
theorem keysT {b : B} (h3 : ∀ l ∈ b.all_, b.bouts l ≤ 3) : Keys b (tkey b) (tk3 b) := by
  refine ⟨fun l hl l' hl' => ?_, fun l hl l' hl' => ?_⟩
  · rw [bt_iff]
    show (((b.bouts l : Nat) : Int) < ((b.bouts l' : Nat) : Int) ∨ (((b.bouts l : Nat) : Int) = ((b.bouts l' : Nat) : Int) ∧ (((Sj13.level b l * 8 / 2 ^ b.bouts l : Nat) : Int) < ((Sj13.level b l' * 8 / 2 ^ b.bouts l' : Nat) : Int) ∨ (((Sj13.level b l * 8 / 2 ^ b.bouts l : Nat) : Int) = ((Sj13.level b l' * 8 / 2 ^ b.bouts l' : Nat) : Int) ∧ -((b.cost l : Nat) : Int) < -((b.cost l' : Nat) : Int)))))
      ↔ (b.bouts l < b.bouts l' ∨ (b.bouts l' = b.bouts l ∧ (Sj13.level b l < Sj13.level b l' ∨ (Sj13.level b l' = Sj13.level b l ∧ b.cost l' < b.cost l))))
    by_cases e : b.bouts l = b.bouts l'
    · have q := eighths (x := Sj13.level b l) (y := Sj13.level b l') (h3 l hl)
      rw [← e]
      generalize Sj13.level b l * 8 / 2 ^ b.bouts l = X at q ⊢
      generalize Sj13.level b l' * 8 / 2 ^ b.bouts l = Y at q ⊢
      obtain ⟨q1, q2⟩ := q
      by_cases c1 : X < Y
      · have := q1.mp c1; omega
      · by_cases c2 : X = Y
        · have := q2.mp c2; omega
        · have n1 : ¬ Sj13.level b l < Sj13.level b l' := fun z => c1 (q1.mpr z)
          have n2 : ¬ Sj13.level b l = Sj13.level b l' := fun z => c2 (q2.mpr z)
          omega
    · omega
  · unfold tk3 tkey
    rw [Prod.mk.injEq, Prod.mk.injEq, Prod.mk.injEq, Prod.mk.injEq]
    by_cases e : b.bouts l = b.bouts l'
    · have q := (eighths (x := Sj13.level b l) (y := Sj13.level b l') (h3 l hl)).2
      rw [← e]
      generalize Sj13.level b l * 8 / 2 ^ b.bouts l = X at q ⊢
      generalize Sj13.level b l' * 8 / 2 ^ b.bouts l = Y at q ⊢
      by_cases c2 : X = Y
      · have := q.mp c2; omega
      · have n2 : ¬ Sj13.level b l = Sj13.level b l' := fun z => c2 (q.mpr z)
        omega
    · omega
theorem all_bouts {b : B} (h6 : b.count ≤ 6) : ∀ l ∈ b.all_, Inside b l ∧ Invol b l ∧ b.bouts l ≤ 3 := fun l hl => by
  have S := all_sound b l hl
  have hin : Inside b l := ⟨S.len, S.lt⟩
  have hv : Invol b l := S.inv
  exact ⟨hin, hv, by have := bouts_le hin hv; omega⟩
theorem step_o {b : B} {l0 : List Nat} {n : Nat} (h : b.all_.foldl (bstep (okey b)) none = some ⟨okey b l0, n, l0⟩) : Sj13.step b .open_ = (b, ⟨((Sj13.alive b l0).length : Nat), zs (b.bouts l0 :: b.cost l0 :: n :: l0)⟩) := by
  have e : Sj13.open_ b = some ⟨(Sj13.alive b l0).length, b.bouts l0, b.cost l0, n, l0⟩ := by
    rw [open_eq, h]
    rfl
  show (b, match Sj13.open_ b with
    | none => Sj13.ok (-6)
    | some x => (⟨((x.alive : Nat) : Int), Sj13.ints (x.bouts :: x.cost :: x.many :: x.row)⟩ : Sj13.Ans)) = _
  rw [e]
  rfl
theorem step_t {b : B} {l0 : List Nat} {n : Nat} (h : b.all_.foldl (bstep (tkey b)) none = some ⟨tkey b l0, n, l0⟩) : Sj13.step b .tense = (b, ⟨0, zs (Sj13.parts (Sj13.level b l0) (b.bouts l0) ++ (b.cost l0 :: n :: l0))⟩) := by
  have e : Sj13.tense b = some ⟨b.bouts l0, Sj13.level b l0, b.cost l0, n, l0⟩ := by
    rw [tense_eq, h]
    rfl
  show (b, match Sj13.tense b with
    | none => Sj13.ok (-6)
    | some x => (⟨0, Sj13.ints (Sj13.parts x.level x.bouts ++ (x.cost :: x.many :: x.row))⟩ : Sj13.Ans)) = _
  rw [e]
  rfl
end Dy

namespace Dy
open PySem PySem.Spec PyProof.Rows L2
theorem daysFrom_len (b : B) : ∀ (r i : Nat) (now : List (List Int)), (∀ d ∈ now, d.length ≤ 6) → (daysFrom b r i now).length ≤ 6 ^ r * now.length
  | 0, _, now, _ => by show now.length ≤ _; omega
  | r + 1, i, now, h => by
    have h1 : ∀ d ∈ now.flatMap (wn b i), d.length ≤ 6 := fun d hd => by
      obtain ⟨d', hd', hdd⟩ := List.mem_flatMap.mp hd
      rw [wn_len d hdd]
      exact h d' hd'
    have h2 := daysFrom_len b r (i + 1) (now.flatMap (wn b i)) h1
    have h3 : (now.flatMap (wn b i)).length ≤ 6 * now.length := flat_le fun d hd => wn_le (h d hd)
    refine Nat.le_trans h2 (Nat.le_trans (Nat.mul_le_mul_left _ h3) ?_)
    rw [Nat.pow_succ, Nat.mul_assoc]
    exact Nat.le_refl _
theorem all_len {b : B} (h6 : b.count ≤ 6) : b.all_.length ≤ 6 ^ 6 := by
  have e : (daysM b).length = b.all_.length := by rw [daysM_eq, List.length_map]
  rw [← e]
  refine Nat.le_trans (daysFrom_len b _ _ _ fun d hd => ?_) ?_
  · rw [List.mem_singleton.mp hd, List.length_replicate]; exact h6
  · rw [List.length_singleton, Nat.mul_one]
    exact Nat.pow_le_pow_right (by decide) h6
/-- the first four rows of do_open and do_tense -/
abbrev RB (K : PySem.W.Frag) (CT CP : Addr) (mname : Str) (sp : Sp) (rest : TS) : TS :=
  tSeq (tAsg (tLc (iList K (tMeth CT "days" (spDays CT) [] E0 (tVar 0) tNil)) (gName 7) tYes (tMake CP (spPInit CP CT) [] E0 (tCons (tVar 0) (tCons (tVar 7) tNil))) [7]) (gName 3))
    (tSeq (tAsg (tCB (rMaxT K) (tCons (tLc (iList K (tVar 3)) (gName 4) tYes (tMeth CP mname sp [] E0 (tVar 4) tNil) [4]) tNil)) (gName 5))
    (tSeq (tAsg (tLc (iList K (tVar 3)) (gName 4) (tTest (tOp (rEqD K) (tMeth CP mname sp [] E0 (tVar 4) tNil) (tVar 5))) (tVar 4) [4]) (gName 6))
    (tSeq (tAsg (tOp (rIxL K) (tVar 6) (tC (.int 0))) (gName 4)) rest)))
/-- a prospect that stands apart from the list at D -/
def PD (D C : Addr) (H : Hp) (b : B) (p : Addr) (l : List Nat) : Prop :=
  ∃ dx ad ab aa, H p = some (.ins C dx (pF ad ab aa b l)) ∧ H ad = some (.lst (iV (zs l))) ∧ RowsAt .tup H ab (pRows b l) ∧ H aa = some (.lst (iV (zs (Sj13.alive b l)))) ∧ ad ≠ D ∧ ab ≠ D ∧ aa ≠ D
theorem PD.same {D C : Addr} {H H' : Hp} {b : B} {p : Addr} {l : List Nat} (x : PD D C H b p l) (s : Same H H') : PD D C H' b p l := by
  obtain ⟨dx, ad, ab, aa, h1, h2, h3, h4, n⟩ := x
  exact ⟨dx, ad, ab, aa, s _ _ h1, s _ _ h2, h3.same s, s _ _ h4, n⟩
theorem PD.put {D C : Addr} {H : Hp} {b : B} {p : Addr} {l : List Nat} {xs : List V} {o : HO} (x : PD D C H b p l) (hD : H D = some (.lst xs)) : PD D C (upd H D o) b p l := by
  obtain ⟨dx, ad, ab, aa, h1, h2, h3, h4, n1, n2, n3⟩ := x
  exact ⟨dx, ad, ab, aa, by rw [upd_ne (ne_of h1 hD (by intro z; cases z))]; exact h1, by rw [upd_ne n1]; exact h2, h3.off hD n2, by rw [upd_ne n3]; exact h4, n1, n2, n3⟩
theorem PD.to {D C : Addr} {H : Hp} {b : B} {p : Addr} {l : List Nat} (x : PD D C H b p l) : PAt C H b p l := by
  obtain ⟨dx, ad, ab, aa, h1, h2, h3, h4, _⟩ := x
  exact ⟨dx, ad, ab, aa, h1, h2, h3, h4⟩
theorem ref_at {ps : List Addr} {i : Nat} {x : V} (h : (ps.map V.ref)[i]? = some x) : ∃ q, ps[i]? = some q ∧ x = V.ref q := by
  rw [List.getElem?_map] at h
  cases e : ps[i]? with
  | none => rw [e] at h; cases h
  | some z => rw [e] at h; exact ⟨z, rfl, (Option.some.inj h).symm⟩
theorem d3_shaped (z : Z3) : SeqAt.shaped (d3 z) = true := tI_shaped _
section
variable {K : PySem.W.Frag} {CT CP : Addr}
theorem best_read {mname : Str} {kl : B → List Nat → List Int} {k3 : B → List Nat → Z3} {key : List Nat → K3} {rest : TS} {D : Ends} {H : Hp} {t aw am an ad : Addr} {b : B} (hkl : ∀ l, t3 (k3 b l) = kl b l) (S : Keys b key (k3 b))
    (hno : ((mname == ("day" : Str)) || (mname == ("bouts" : Str)) || (mname == ("off" : Str)) || (mname == ("outcomes" : Str)) || (mname == ("play_offs" : Str)) || (mname == ("able" : Str))) = false)
    (ht : TAt CT H t aw am b) (g : Good b 1)
    (fin : ∀ (v3 v5 v7 : Option V) (H' : Hp) (p bq : Addr) (bs : List Addr) (l0 : List Nat) (n : Nat), Same H H' → PAt CP H' b p l0 → l0 ∈ b.all_ → H' bq = some (.lst (bs.map V.ref)) → bs.length = n → b.all_.foldl (bstep key) none = some ⟨key l0, n, l0⟩ →
      rest D [some (.ref t), some (.ref an), some (.ref ad), v3, some (.ref p), v5, some (.ref bq), v7] H') :
    RB K CT CP mname (spKey CP kl) rest D [some (.ref t), some (.ref an), some (.ref ad), none, none, none, none, none] H := by
  obtain ⟨dt, htins⟩ := ht.ins
  have h6 := g.cnt
  have hal := all_len h6
  have big : 6 ^ 6 < sizeLine := by show 6 ^ 6 < 2 ^ 24; decide
  have hab := all_bouts h6
  -- all_days = [Prospect(t, d) for d in t.days()]
  refine ⟨_, rfl, t, dt, _, rfl, htins, tF_no (by decide +kernel), t, aw, am, b, rfl, ht, h6, by have := g.mt; omega, fun H1 pd s1 npd r1 => ?_⟩
  obtain ⟨ps, hps1, hps2⟩ := id r1
  rw [daysM_eq] at hps2
  have hpl : ps.length = b.all_.length := by rw [hps2.length, List.length_map]
  refine ⟨pd, rfl, ⟨_, SqL.of hps1⟩, fun D1 hD1 => ?_⟩
  have nD1 : H D1 = none := s1.free hD1
  have nD1t : t ≠ D1 := ne_of_none htins nD1
  refine lc_list (K := K) (a := pd) (xs := ps.map V.ref) (fun i H' => Same H1 H' ∧ ∃ qs : List Addr, H' D1 = some (.lst (qs.map V.ref)) ∧ Paired (PD D1 CP H' b) qs (b.all_.take i)) ⟨Same.new hD1, [], upd_same, .nil⟩ (fun i H' _ q => SqL.of (q.1 _ _ hps1)) ?_ ?_
  · rintro i x H' hx ⟨s2, qs, hq1, hq2⟩
    obtain ⟨da, hda, rfl⟩ := ref_at hx
    obtain ⟨r, hr, hrr⟩ := Paired.getL hps2 hda
    rw [List.getElem?_map] at hr
    obtain ⟨l, hl, rfl⟩ : ∃ l, b.all_[i]? = some l ∧ r = zs l := by
      cases e : b.all_[i]? with
      | none => rw [e] at hr; cases hr
      | some z => rw [e] at hr; exact ⟨z, rfl, (Option.some.inj hr).symm⟩
    have hlm := List.mem_of_getElem? hl
    obtain ⟨hin, hv, _⟩ := hab l hlm
    refine ⟨rfl, _, rfl, _, rfl, fun x dx nx ndx nex => ?_⟩
    have sN : Same H' (upd (upd H' dx (.own x)) x (.ins CP dx [])) := (Same.new ndx).trans (Same.new (by rw [upd_ne (Ne.symm nex)]; exact nx))
    have sH := (s1.trans s2).trans sN
    refine ⟨x, dx, t, aw, am, da, b, l, rfl, upd_same, ht.same sH, ?_, sN _ _ (s2 _ _ hrr), hin, hv, h6, g.rk, g.wn, fun H6 hP u6 => ⟨rfl, qs.map V.ref, ?_, ?_, ?_⟩⟩
    · intro e
      rw [e] at htins
      rw [s2 _ _ (s1 _ _ htins)] at nx
      cases nx
    · exact u6 _ _ (sN _ _ hq1) (fun e => by rw [e, nx] at hq1; cases hq1)
    · rw [List.length_map, hq2.length]
      exact Nat.lt_of_le_of_lt (Nat.le_trans (by rw [List.length_take]; exact Nat.min_le_right _ _) hal) big
    · have hD6 : H6 D1 = some (.lst (qs.map V.ref)) := u6 _ _ (sN _ _ hq1) (fun e => by rw [e, nx] at hq1; cases hq1)
      have s6 : Same H' H6 := fun z o hz => u6 _ _ (sN _ _ hz) (fun e => by rw [e, nx] at hz; cases hz)
      have hPD : PD D1 CP H6 b x l := by
        obtain ⟨dx', ab, aa, h1, h2, h3, h4, n1, n2⟩ := hP.at_
        have hDN := sN _ _ hq1
        exact ⟨dx', da, ab, aa, h1, h2, h3, h4, ne_of_none hrr hD1, (fun e => by rw [e, hDN] at n1; cases n1), (fun e => by rw [e, hDN] at n2; cases n2)⟩
      refine ⟨fun z o hz => ?_, qs ++ [x], ?_, ?_⟩
      · rw [upd_ne (ne_of_none hz hD1)]
        exact s6 _ _ (s2 _ _ hz)
      · rw [upd_same, List.map_append]
        rfl
      · rw [take_more hl]
        exact Paired.append (Paired.imp hq2 fun q y _ e => (e.same s6).put hD6) (.cons (hPD.put hD6) .nil)
  · rintro H2 ⟨s2, qs, hq1, hq2⟩
    rw [List.length_map, hpl, List.take_length] at hq2
    have hP2 : Paired (PAt CP H2 b) qs b.all_ := Paired.imp hq2 fun q y _ e => e.to
    have hql : qs.length = b.all_.length := hP2.length
    -- most = max([p.openness() for p in all_days])
    refine ⟨_, rfl, D1, rfl, ⟨_, SqL.of hq1⟩, fun D2 hD2 => ?_⟩
    refine lc_list (K := K) (a := D1) (xs := qs.map V.ref) (fun i H' => Same H2 H' ∧ RowsAt .tup H' D2 (((b.all_.map (k3 b)).take i).map t3)) ⟨Same.new hD2, ⟨[], upd_same, .nil⟩⟩ (fun i H' _ q => SqL.of (q.1 _ _ hq1)) ?_ ?_
    · rintro i x H' hx ⟨s3, r3⟩
      obtain ⟨q, hq, rfl⟩ := ref_at hx
      obtain ⟨l, hl, hP⟩ := Paired.getL hP2 hq
      have hlm := List.mem_of_getElem? hl
      obtain ⟨dx, pa1, pa2, pa3, hins, _⟩ := (hP.same s3).at_
      refine ⟨rfl, _, rfl, q, dx, _, rfl, hins, pF_no hno, q, b, l, rfl, hP.same s3, (hab l hlm).2.2, fun H4 u s4 nu hu => ?_⟩
      obtain ⟨rs, hr1, hr2⟩ := r3.same s4
      refine ⟨rs.map V.ref, hr1, ?_, fun z o hz => ?_, ?_⟩
      · rw [List.length_map, hr2.length, List.length_map]
        exact Nat.lt_of_le_of_lt (Nat.le_trans (by rw [List.length_take, List.length_map]; exact Nat.min_le_right _ _) hal) big
      · rw [upd_ne (ne_of_none hz hD2)]
        exact s4 _ _ (s3 _ _ hz)
      · have e : (b.all_.map (k3 b))[i]? = some (k3 b l) := by rw [List.getElem?_map, hl]; rfl
        rw [take_more e, List.map_append]
        refine RowsAt.snoc hr2 ?_ (rows_tup_ne hr1 hr2) (ne_of hu hr1 (by intro z; cases z))
        rw [hkl]
        exact hu
    · rintro H3 ⟨s3, r3⟩
      rw [List.length_map, hql, ← List.length_map (f := k3 b), List.take_length] at r3
      obtain ⟨rs, hr1, hr2⟩ := r3
      refine ⟨D2, rs, _, rfl, SqL.of hr1, hr2, ?_, fun i mp z hmp hz hmax => ?_⟩
      · intro e
        exact all_ne b (List.map_eq_nil_iff.mp e)
      · obtain ⟨mz, hmz, hmt⟩ := Paired.getL hr2 hmp
        rw [List.getElem?_map, hz] at hmz
        obtain rfl := Option.some.inj hmz
        rw [List.getElem?_map] at hz
        obtain ⟨li, hli, rfl⟩ : ∃ li, b.all_[i]? = some li ∧ z = k3 b li := by
          cases e : b.all_[i]? with
          | none => rw [e] at hz; cases hz
          | some y => rw [e] at hz; exact ⟨y, rfl, (Option.some.inj hz).symm⟩
        have hlim := List.mem_of_getElem? hli
        obtain ⟨l0, more, ef, h0, hfold⟩ := best_is S hlim (fun l hl => hmax _ (List.mem_map.mpr ⟨l, hl, rfl⟩))
        -- best = [p for p in all_days if p.openness() == most]
        refine ⟨_, rfl, D1, rfl, ⟨_, SqL.of (s3 _ _ hq1)⟩, fun D3 hD3 => ?_⟩
        have hP3 : Paired (PAt CP H3 b) qs b.all_ := Paired.imp hP2 fun q y _ e => e.same s3
        refine lc_list (K := K) (a := D1) (xs := qs.map V.ref) (fun i H' => Same H3 H' ∧ ∃ bs : List Addr, H' D3 = some (.lst (bs.map V.ref)) ∧ Paired (PAt CP H3 b) bs ((b.all_.take i).filter fun l => decide (k3 b l = k3 b li))) ⟨Same.new hD3, [], upd_same, .nil⟩ (fun i H' _ q => SqL.of (q.1 _ _ (s3 _ _ hq1))) ?_ ?_
        · rintro j x H' hx ⟨s4, bs, hb1, hb2⟩
          obtain ⟨q, hq, rfl⟩ := ref_at hx
          obtain ⟨l, hl, hP⟩ := Paired.getL hP3 hq
          have hlm := List.mem_of_getElem? hl
          obtain ⟨dx, pa1, pa2, pa3, hins, _⟩ := (hP.same s4).at_
          refine ⟨rfl, _, rfl, q, dx, _, rfl, hins, pF_no hno, q, b, l, rfl, hP.same s4, (hab l hlm).2.2, fun H5 u s5 nu hu => ?_⟩
          rw [← hkl] at hu
          refine ⟨_, rfl, d3 (k3 b l), d3 (k3 b li), dp3 hu, dp3 (s5 _ _ (s4 _ _ hmt)), d3_shaped _, d3_shaped _, _, rfl, ?_⟩
          rw [d3_same]
          have et : (b.all_.take (j + 1)).filter (fun l => decide (k3 b l = k3 b li)) = (b.all_.take j).filter (fun l => decide (k3 b l = k3 b li)) ++ if decide (k3 b l = k3 b li) = true then [l] else [] := by
            rw [take_more hl, List.filter_append, List.filter_cons]
            rfl
          have hb5 := s5 _ _ hb1
          by_cases c : k3 b l = k3 b li
          · rw [decide_eq_true c] at et ⊢
            refine iteT ⟨_, rfl, _, hb5, ?_, fun z o hz => ?_, bs ++ [q], ?_, ?_⟩
            · rw [List.length_map, hb2.length]
              exact Nat.lt_of_le_of_lt (Nat.le_trans (List.length_filter_le _ _) (Nat.le_trans (by rw [List.length_take]; exact Nat.min_le_right _ _) hal)) big
            · rw [upd_ne (ne_of_none hz hD3)]
              exact s5 _ _ (s4 _ _ hz)
            · rw [upd_same, List.map_append]
              rfl
            · rw [et, if_pos rfl]
              exact Paired.append hb2 (.cons hP .nil)
          · rw [decide_eq_false c] at et ⊢
            rw [if_neg Bool.false_ne_true, List.append_nil] at et
            refine iteF ⟨s4.trans s5, bs, hb5, ?_⟩
            rw [et]
            exact hb2
        · rintro H4 ⟨s4, bs, hb1, hb2⟩
          rw [List.length_map, hql, List.take_length, ef] at hb2
          have hbl : bs.length = more.length + 1 := hb2.length
          obtain ⟨p0, hp0, hP0⟩ := Paired.get (i := 0) hb2 rfl
          -- p = best[0]
          refine ⟨_, rfl, D3, _, _, _, rfl, rfl, SqL.of hb1, atI_nat (j := 0) (by rw [List.getElem?_map, hp0]; rfl), ?_⟩
          exact fin _ _ _ H4 p0 D3 bs l0 _ (((s1.trans s2).trans s3).trans s4) (hP0.same s4) h0 hb1 hbl hfold
end
end Dy

namespace Dy
open PySem PySem.Spec PyProof.Rows L2
section
variable {P : Program} {w : World} {K : PySem.W.Frag} {mg : Str → Option Value} {base : Heap}
/-! ### do_open(t, n, day), do_tense(t, n, day) -/
abbrev nOpen : List Str := ["t", "n", "day", "all_days", "p", "most", "best", "d"]
theorem scOpen : FnScope nOpen nDo (defScope sOpen) := ⟨rfl, rfl, rfl, by decide +kernel, rfl, by decide +kernel, by decide +kernel⟩
theorem scTense : FnScope nOpen nDo (defScope sTense) := ⟨rfl, rfl, rfl, by decide +kernel, rfl, by decide +kernel, by decide +kernel⟩
theorem okOpen {CT CP f fD fI fO : Addr} {fd fdD fdI fdO : FuncData} (F : Fun K "do_open" "do_open" sOpen f fd) (TT : TxT K CT) (TP : TxP K CP) (G : Glo mg)
    (GD : FnOk P w K mg base CX0 3 fD fdD ["self"] (spDays CT)) (bD : Binds K fdD ["self"] []) (mD : Meth K CT "days" fD)
    (M : Mk K CP fI) (GI : FnOk P w K mg base CX0 2 fI fdI ["self", "t", "day"] (spPInit CP CT)) (bI : Binds K fdI ["self", "t", "day"] []) (mP : mg "Prospect" = some (.ref CP))
    (GO : FnOk P w K mg base CX0 1 fO fdO ["self"] (spKey CP oK)) (bO : Binds K fdO ["self"] []) (mO : Meth K CP "openness" fO) : FnOk P w K mg base CX0 4 f fd nDo (spDo CT 4) := by
  refine F.ok scOpen (fun vs H Q E h => ?_) (fun cdv A outer s H vs Q E hr h => ⟨RB K CT CP "openness" (spKey CP oK) _, pss_cons (ps_setLc (i := 3) (own := [("d", 7)]) (g := gName 7) (tt := tYes) rfl scOpen.nd rfl rfl (sw_true rfl rfl rfl (by decide +kernel)) (pi_list (pe_meth0 (pv 0) TT.cl mD GD hr bD .nil pass0)) (blkOk_by (N := nOpen) (sc := defScope sOpen) (by decide +kernel))
        (fun _ _ _ _ _ => pg_name (i := 7) scOpen.nd rfl (Or.inl rfl)) (fun _ _ _ _ _ => pts_nil) (fun _ _ _ _ _ => pe_make M GI hr rfl mP bI .nil pass0 (pa_cons (pv 0) (pa_cons (pv 7) pa_nil))))
    (pss_cons (ps_set (i := 5) scOpen.nd rfl (Or.inr rfl) (pe_callB (cr_maxT rfl (hu65_of hr)) (by rfl) G.max (by decide +kernel) (pa_cons (pe_lc (own := [("p", 4)]) (g := gName 4) (tt := tYes) rfl scOpen.nd (pi_list (pv 3)) (blkOk_by (N := nOpen) (sc := defScope sOpen) (by decide +kernel))
        (fun _ _ _ _ _ => pg_name (i := 4) scOpen.nd rfl (Or.inl rfl)) (fun _ _ _ _ _ => pts_nil) (fun _ _ _ _ _ => pe_meth0 (pv 4) TP.cl mO GO (hr.mono (by decide)) bO .nil pass0)) pa_nil)))
    (pss_cons (ps_setLc (i := 6) (own := [("p", 4)]) (g := gName 4) (te := tVar 4) rfl scOpen.nd rfl rfl (sw_true rfl rfl rfl (by decide +kernel)) (pi_list (pv 3)) (blkOk_by (N := nOpen) (sc := defScope sOpen) (by decide +kernel))
        (fun _ _ _ _ _ => pg_name (i := 4) scOpen.nd rfl (Or.inl rfl)) (fun _ _ _ _ _ => pts_one (pt_cmpR (op_eqD hr.units) (pe_meth0 (pv 4) TP.cl mO GO (hr.mono (by decide)) bO .nil pass0) (pv 5) (nomark _))) (fun _ _ _ _ _ => pv 4))
    (pss_cons (ps_set (i := 4) scOpen.nd rfl (Or.inl rfl) (pe_ix ix_list (pv 6) pe_int (fun _ _ => rfl)))
    (pss_one (ps_ret (pe_op op_cat (pe_lst (pa_cons (pe_callB call_len_seq (by rfl) G.len PySem.boot_len (pa_cons (pe_fld (pv 4) rfl) pa_nil)) (pa_cons (pe_callB call_len_seq (by rfl) G.len PySem.boot_len (pa_cons (pe_fld (pv 4) rfl) pa_nil)) (pa_cons (pe_fld (pv 4) rfl) (pa_cons (pe_callB call_len_seq (by rfl) G.len PySem.boot_len (pa_cons (pv 6) pa_nil)) pa_nil))))) (pe_fld (pv 4) rfl))))))), ?_⟩)
  · obtain ⟨t, aw, am, an, ad, b, ns, l, c, rfl, _⟩ := h
    rfl
  · obtain ⟨t, aw, am, an, ad, b, ns, l, c, rfl, ht, nwm, hn, hd, gd, rfl, k⟩ := h
    refine best_read (key := okey b) (k3 := ok3) (ok3_eq b) (keysO b) (by decide +kernel) ht gd fun v3 v5 v7 H' p bq bs l0 n s hP h0 hbq hbl hf => ?_
    have hab := all_bouts gd.cnt l0 h0
    obtain ⟨dp, pd, pb, pa, hp1, hp2, ⟨psb, hb1, hb2⟩, hp4⟩ := hP.at_
    refine ⟨_, rfl, p, CP, dp, _, _, rfl, hp1, TP.cl, TP.nA, pF_able, pa, _, rfl, .inl (SqL.of hp4), ?_⟩
    refine ⟨_, rfl, p, CP, dp, _, _, rfl, hp1, TP.cl, TP.nB, pF_bouts, pb, _, rfl, .inl (SqL.of hb1), ?_⟩
    refine ⟨_, rfl, p, CP, dp, _, _, rfl, hp1, TP.cl, TP.nO, pF_off, _, rfl, bq, _, rfl, .inl (SqL.of hbq), (by show 4 ≤ sizeLine; decide), fun q nq => ?_⟩
    have sq := Same.new (o := .lst [V.int (((iV (zs (Sj13.alive b l0))).length : Nat) : Int), V.int (((psb.map V.ref).length : Nat) : Int), V.int ((b.cost l0 : Nat) : Int), V.int (((bs.map V.ref).length : Nat) : Int)]) nq
    refine ⟨_, rfl, p, CP, dp, _, _, rfl, sq _ _ hp1, TP.cl, TP.nD, pF_day, q, pd, _, _, rfl, rfl, upd_same, sq _ _ hp2, ?_, fun z nz => ?_⟩
    · rw [show (iV (zs l0)).length = b.count by rw [iV_len, zs_len, hab.1.1]]
      exact Nat.le_trans (Nat.add_le_add_left gd.cnt _) (by show 4 + 6 ≤ sizeLine; decide)
    · have e1 : (iV (zs (Sj13.alive b l0))).length = (Sj13.alive b l0).length := by rw [iV_len, zs_len]
      have e2 : (psb.map V.ref).length = b.bouts l0 := by rw [List.length_map, hb2.length, pRows_len]
      have e3 : (bs.map V.ref).length = n := by rw [List.length_map, hbl]
      have so := step_o hf
      rw [so] at k
      have sz := Same.new (o := .lst ([V.int (((iV (zs (Sj13.alive b l0))).length : Nat) : Int), V.int (((psb.map V.ref).length : Nat) : Int), V.int ((b.cost l0 : Nat) : Int), V.int (((bs.map V.ref).length : Nat) : Int)] ++ iV (zs l0))) nz
      have s9 := (s.trans sq).trans sz
      refine k _ z (ht.same s9) (Keep.same s9) ((s.trans sq).free nz) ?_
      rw [upd_same, e1, e2, e3]
      rfl
theorem okTense {CT CP f fD fI fO fC : Addr} {fd fdD fdI fdO fdC : FuncData} (F : Fun K "do_tense" "do_tense" sTense f fd) (TT : TxT K CT) (TP : TxP K CP) (G : Glo mg)
    (GD : FnOk P w K mg base CX0 3 fD fdD ["self"] (spDays CT)) (bD : Binds K fdD ["self"] []) (mD : Meth K CT "days" fD)
    (M : Mk K CP fI) (GI : FnOk P w K mg base CX0 2 fI fdI ["self", "t", "day"] (spPInit CP CT)) (bI : Binds K fdI ["self", "t", "day"] []) (mP : mg "Prospect" = some (.ref CP))
    (GO : FnOk P w K mg base CX0 1 fO fdO ["self"] (spKey CP tK)) (bO : Binds K fdO ["self"] []) (mO : Meth K CP "tension" fO)
    (GC : FnOk P w K mg base CX0 1 fC fdC ["self"] (spChance CP)) (bC : Binds K fdC ["self"] []) (mC : Meth K CP "chance" fC) : FnOk P w K mg base CX0 4 f fd nDo (spDo CT 5) := by
  refine F.ok scTense (fun vs H Q E h => ?_) (fun cdv A outer s H vs Q E hr h => ⟨RB K CT CP "tension" (spKey CP tK) _, pss_cons (ps_setLc (i := 3) (own := [("d", 7)]) (g := gName 7) (tt := tYes) rfl scTense.nd rfl rfl (sw_true rfl rfl rfl (by decide +kernel)) (pi_list (pe_meth0 (pv 0) TT.cl mD GD hr bD .nil pass0)) (blkOk_by (N := nOpen) (sc := defScope sTense) (by decide +kernel))
        (fun _ _ _ _ _ => pg_name (i := 7) scTense.nd rfl (Or.inl rfl)) (fun _ _ _ _ _ => pts_nil) (fun _ _ _ _ _ => pe_make M GI hr rfl mP bI .nil pass0 (pa_cons (pv 0) (pa_cons (pv 7) pa_nil))))
    (pss_cons (ps_set (i := 5) scTense.nd rfl (Or.inr rfl) (pe_callB (cr_maxT rfl (hu65_of hr)) (by rfl) G.max (by decide +kernel) (pa_cons (pe_lc (own := [("p", 4)]) (g := gName 4) (tt := tYes) rfl scTense.nd (pi_list (pv 3)) (blkOk_by (N := nOpen) (sc := defScope sTense) (by decide +kernel))
        (fun _ _ _ _ _ => pg_name (i := 4) scTense.nd rfl (Or.inl rfl)) (fun _ _ _ _ _ => pts_nil) (fun _ _ _ _ _ => pe_meth0 (pv 4) TP.cl mO GO (hr.mono (by decide)) bO .nil pass0)) pa_nil)))
    (pss_cons (ps_setLc (i := 6) (own := [("p", 4)]) (g := gName 4) (te := tVar 4) rfl scTense.nd rfl rfl (sw_true rfl rfl rfl (by decide +kernel)) (pi_list (pv 3)) (blkOk_by (N := nOpen) (sc := defScope sTense) (by decide +kernel))
        (fun _ _ _ _ _ => pg_name (i := 4) scTense.nd rfl (Or.inl rfl)) (fun _ _ _ _ _ => pts_one (pt_cmpR (op_eqD hr.units) (pe_meth0 (pv 4) TP.cl mO GO (hr.mono (by decide)) bO .nil pass0) (pv 5) (nomark _))) (fun _ _ _ _ _ => pv 4))
    (pss_cons (ps_set (i := 4) scTense.nd rfl (Or.inl rfl) (pe_ix ix_list (pv 6) pe_int (fun _ _ => rfl)))
    (pss_one (ps_ret (pe_op op_cat (pe_op op_cat (pe_op op_cat (pe_lst (pa_cons pe_int pa_nil)) (pe_meth0 (pv 4) TP.cl mC GC (hr.mono (by decide)) bC .nil pass0)) (pe_lst (pa_cons (pe_fld (pv 4) rfl) (pa_cons (pe_callB call_len_seq (by rfl) G.len PySem.boot_len (pa_cons (pv 6) pa_nil)) pa_nil)))) (pe_fld (pv 4) rfl))))))), ?_⟩)
  · obtain ⟨t, aw, am, an, ad, b, ns, l, c, rfl, _⟩ := h
    rfl
  · obtain ⟨t, aw, am, an, ad, b, ns, l, c, rfl, ht, nwm, hn, hd, gd, rfl, k⟩ := h
    refine best_read (key := tkey b) (k3 := tk3) (tk3_eq b) (keysT fun l hl => (all_bouts gd.cnt l hl).2.2) (by decide +kernel) ht gd fun v3 v5 v7 H' p bq bs l0 n s hP h0 hbq hbl hf => ?_
    have hab := all_bouts gd.cnt l0 h0
    obtain ⟨dp, pd, pb, pa, hp1, hp2, ⟨psb, hb1, hb2⟩, hp4⟩ := hP.at_
    have pl : (iV (zs (Sj13.parts (Sj13.level b l0) (b.bouts l0)))).length = 2 := by rw [iV_len, zs_len]; rfl
    refine ⟨(by show 1 ≤ sizeLine; decide), fun q nq => ?_⟩
    have sq := Same.new (o := .lst [V.int 0]) nq
    refine ⟨_, rfl, p, dp, _, rfl, sq _ _ hp1, pF_no (by decide +kernel), p, b, l0, rfl, hP.same sq, hab.2.2, fun H7 q2 s7 nq2 hq2 => ?_⟩
    refine ⟨q, q2, _, _, rfl, rfl, s7 _ _ upd_same, hq2, ?_, fun r nr => ?_⟩
    · rw [pl]
      show 1 + 2 ≤ sizeLine
      decide
    · have sr := Same.new (o := .lst ([V.int 0] ++ iV (zs (Sj13.parts (Sj13.level b l0) (b.bouts l0))))) nr
      have s8 : Same H' _ := (sq.trans s7).trans sr
      refine ⟨_, rfl, p, CP, dp, _, _, rfl, s8 _ _ hp1, TP.cl, TP.nO, pF_off, _, rfl, bq, _, rfl, .inl (SqL.of (s8 _ _ hbq)), (by show 2 ≤ sizeLine; decide), fun u nu => ?_⟩
      have su := Same.new (o := .lst [V.int ((b.cost l0 : Nat) : Int), V.int (((bs.map V.ref).length : Nat) : Int)]) nu
      refine ⟨r, u, _, _, rfl, rfl, su _ _ upd_same, upd_same, ?_, fun x nx => ?_⟩
      · rw [List.length_append, pl]
        show 1 + 2 + 2 ≤ sizeLine
        decide
      · have sx := Same.new (o := .lst ([V.int 0] ++ iV (zs (Sj13.parts (Sj13.level b l0) (b.bouts l0))) ++ [V.int ((b.cost l0 : Nat) : Int), V.int (((bs.map V.ref).length : Nat) : Int)])) nx
        have s10 : Same H' _ := (s8.trans su).trans sx
        refine ⟨_, rfl, p, CP, dp, _, _, rfl, s10 _ _ hp1, TP.cl, TP.nD, pF_day, x, pd, _, _, rfl, rfl, upd_same, s10 _ _ hp2, ?_, fun z nz => ?_⟩
        · rw [List.length_append, List.length_append, pl, show (iV (zs l0)).length = b.count by rw [iV_len, zs_len, hab.1.1]]
          exact Nat.le_trans (Nat.add_le_add_left gd.cnt _) (by show 1 + 2 + 2 + 6 ≤ sizeLine; decide)
        · have e3 : (bs.map V.ref).length = n := by rw [List.length_map, hbl]
          have so := step_t hf
          rw [so] at k
          have sz := Same.new (o := .lst ([V.int 0] ++ iV (zs (Sj13.parts (Sj13.level b l0) (b.bouts l0))) ++ [V.int ((b.cost l0 : Nat) : Int), V.int (((bs.map V.ref).length : Nat) : Int)] ++ iV (zs l0))) nz
          have s11 := (s.trans s10).trans sz
          refine k _ z (ht.same s11) (Keep.same s11) ((s.trans s10).free nz) ?_
          rw [upd_same, e3]
          show some (HO.lst ([V.int 0] ++ iV (zs (Sj13.parts (Sj13.level b l0) (b.bouts l0))) ++ [V.int ((b.cost l0 : Nat) : Int), V.int ((n : Nat) : Int)] ++ iV (zs l0))) = some (HO.lst (iV (0 :: zs (Sj13.parts (Sj13.level b l0) (b.bouts l0) ++ (b.cost l0 :: n :: l0)))))
          unfold iV zs
          simp
end
end Dy

namespace Dy
open PySem PySem.Spec PyProof.Rows L2
theorem Run.good {all rest : List Int} {b : B} {out : List Int} (R : Run all rest b out) (hne : rest ≠ []) : Good b 1 := by
  obtain ⟨f, cs, h, _, _, g⟩ := R.more
  match rest, hne, h with
  | p :: r, _, h =>
    obtain ⟨_, c, _, cs', _, rfl, _⟩ := calls_cons h
    exact ⟨g.cnt, g.rk, g.wn, by have := g.mt; rw [List.length_cons] at this; omega⟩
theorem cutV_nat {all : List Int} {a c : Nat} (h1 : a ≤ c) (h2 : c ≤ all.length) : cutV (iV all) (some (a : Int)) (some (c : Int)) = iV ((all.drop a).take (c - a)) := by
  unfold cutV
  rw [HT.sIx_nat, HT.sIx_nat, iV_len, Nat.min_eq_left h2, Nat.min_eq_left (Nat.le_trans h1 h2)]
  unfold iV
  rw [List.map_take, List.map_drop]
theorem drop_get {all : List Int} {i : Nat} {p : Int} {r : List Int} (h : all.drop i = p :: r) : atI (iV all) (i : Int) = some (V.int p) ∧ i < all.length ∧ all.drop (i + 1) = r := by
  have hi : i < all.length := by
    by_cases q : i < all.length
    · exact q
    · rw [List.drop_eq_nil_of_le (by omega)] at h
      cases h
  rw [List.drop_eq_getElem_cons hi] at h
  have h1 := (List.cons.inj h).1
  have h2 := (List.cons.inj h).2
  refine ⟨?_, hi, h2⟩
  rw [iV_get hi, List.getD_eq_getElem?_getD, List.getElem?_eq_getElem hi]
  exact congrArg (fun z => some (V.int z)) h1
/-! ### the loop's last two rows -/
abbrev rLenS (K : PySem.W.Frag) : List V → Hp → VK → Prop := fun xs H Q => ∃ p ys, xs = [.ref p] ∧ (SqL K H p ys ∨ SqT K H p ys) ∧ Q (.int ys.length) H
abbrev rdTail (K : PySem.W.Frag) : TS := tSeq (tDrop (tBM K "list" rAppend (tVar 3) (tCons (tCB (rLenS K) (tCons (tVar 10) tNil)) tNil))) (tDrop (tBM K "list" rExtend (tVar 3) (tCons (tVar 10) tNil)))
theorem tail_read {K : PySem.W.Frag} {D : Ends} {H : Hp} {v0 v1 v2 v4 v5 v6 v7 v8 v9 : Option V} {ao r : Addr} {out ans : List Int} (hr : H r = some (.lst (iV ans))) (ho : H ao = some (.lst (iV out))) (ne : r ≠ ao) (hl : (out ++ (ans.length : Int) :: ans).length ≤ 10000000)
    (fin : D.nx [v0, v1, v2, some (.ref ao), v4, v5, v6, v7, v8, v9, some (.ref r)] (upd H ao (.lst (iV (out ++ (ans.length : Int) :: ans))))) :
    rdTail K D [v0, v1, v2, some (.ref ao), v4, v5, v6, v7, v8, v9, some (.ref r)] H := by
  rw [List.length_append, List.length_cons] at hl
  have big : 10000000 < sizeLine := by show 10000000 < 2 ^ 24; decide
  refine ⟨_, rfl, .inl ⟨rfl, _, SqL.of ho⟩, _, rfl, r, _, rfl, .inl (SqL.of hr), ao, _, _, rfl, rfl, ho, by rw [iV_len]; omega, ?_⟩
  refine ⟨_, rfl, .inl ⟨rfl, _, SqL.of upd_same⟩, _, rfl, ao, r, _, _, rfl, rfl, upd_same, by rw [upd_ne ne]; exact hr, ?_, ?_⟩
  · rw [List.length_append, iV_len, iV_len, List.length_singleton]
    omega
  · rw [upd_upd]
    have e : iV out ++ [V.int (((iV ans).length : Nat) : Int)] ++ iV ans = iV (out ++ (ans.length : Int) :: ans) := by
      rw [iV_len]
      unfold iV
      simp
    rw [e]
    exact fin
/-! ### what the loop keeps -/
/-- the table of the calls' defs -/
structure Tbl (fs : Nat → Addr) (kvs : List (Key × V)) : Prop where
  at_ : ∀ k : Nat, 1 ≤ k → k ≤ 5 → valV kvs (Sum.inl (k : Int)) = some (.ref (fs k))
structure LI (CT : Addr) (kvs : List (Key × V)) (H0 : Hp) (a tb : Addr) (all : List Int) (t ao : Addr) (i : Nat) (H : Hp) : Prop where
  ex : ∃ (aw am : Addr) (b : B) (out : List Int), Same H0 H ∧ H tb = some (.dK kvs) ∧ TAt CT H t aw am b ∧ aw ≠ am ∧ H0 aw = none ∧ H0 am = none ∧ H ao = some (.lst (iV out)) ∧ H0 ao = none ∧ ao ≠ aw ∧ ao ≠ am ∧ Run all (all.drop i) b out ∧ i ≤ all.length
def LW (CT : Addr) (kvs : List (Key × V)) (H0 : Hp) (a tb : Addr) (all : List Int) (m : Nat) (σ : L2.St) (H : Hp) : Prop :=
  ∃ (t ao : Addr) (i : Nat) (v5 v6 v7 v8 v9 v10 : Option V), σ = [some (.ref a), some (.ref tb), some (.ref t), some (.ref ao), some (.int (i : Nat)), v5, v6, v7, v8, v9, v10] ∧ m = all.length - i ∧ LI CT kvs H0 a tb all t ao i H
def rLeI : R2 := rI0 fun i j => .bl (decide (i ≤ j))
abbrev SD (CT : Addr) (fs : Nat → Addr) : Addr → Sp → Prop := fun f sp => ∃ k : Nat, 1 ≤ k ∧ k ≤ 5 ∧ f = fs k ∧ sp = spDo CT k
/-- the loop's rows from «if call != 0» on -/
abbrev rdIf (K : PySem.W.Frag) (CT : Addr) (fs : Nat → Addr) : TS :=
  tIfS (tTest (tOp rNe (tVar 5) (tC (.int 0)))) (tAsg (tCallE (tDGet (tVar 1) (tVar 5)) (SD CT fs) (tCons (tVar 2) (tCons (tVar 8) (tCons (tVar 9) tNil)))) (gName 10))
    (tIfS (tAnd (tTest (tOp rLeI (tOp (rIxL K) (tVar 8) (tC (.int 0))) (tC (.int 100)))) (tTest (tOp rLeI (tOp (rIxL K) (tVar 8) (tC (.int 1))) (tC (.int 100)))))
      (tSeq (tAsg (tMake CT (spTInit CT) [] E0 (tCons (tOp (rIxL K) (tVar 8) (tC (.int 0))) (tCons (tOp (rIxL K) (tVar 8) (tC (.int 1))) tNil))) (gName 2)) (tAsg (tLst (tCons (tC (.int 0)) tNil)) (gName 10)))
      (tAsg (tLst (tCons (tUn (rU fun i => .int (-i)) (tC (.int 1))) tNil)) (gName 10)))
theorem step_b (b : B) (x y : Nat) : Sj13.step b (.begins x y) = if x ≤ 100 ∧ y ≤ 100 then (⟨x, y, [], []⟩, Sj13.ok 0) else (b, Sj13.ok (-1)) := by
  show Sj13.of9 (if Sj09.WEIGHT < x ∨ Sj09.WEIGHT < y then (b, Sj09.ok (-1)) else (⟨x, y, [], []⟩, Sj09.ok 0)) = _
  have e : Sj09.WEIGHT = 100 := rfl
  by_cases h : x ≤ 100 ∧ y ≤ 100
  · rw [if_pos h, if_neg (by omega)]; rfl
  · rw [if_neg h, if_pos (by omega)]; rfl
section
variable {K : PySem.W.Frag} {CT : Addr} {fs : Nat → Addr} {kvs : List (Key × V)} {H0 : Hp} {a tb : Addr} {all : List Int}
/-- a call but begins -/
theorem call_read {D : Ends} {H : Hp} {t ao an ad : Addr} {i k : Nat} {v6 v7 v10 : Option V} {aw am : Addr} {b : B} {out : List Int} {ns l : List Nat} {c : Sj13.Call} (T : Tbl fs kvs) (hk1 : 1 ≤ k) (hk5 : k ≤ 5)
    (s0 : Same H0 H) (htb : H tb = some (.dK kvs)) (ht : TAt CT H t aw am b) (nwm : aw ≠ am) (nw : H0 aw = none) (nm : H0 am = none) (hao : H ao = some (.lst (iV out))) (nao : H0 ao = none) (n1 : ao ≠ aw) (n2 : ao ≠ am)
    (han : H an = some (.lst (iV (zs ns)))) (had : H ad = some (.lst (iV (zs l)))) (g : Good b 1) (hc : cIs k ns l c) (hi : i ≤ all.length) (R : Run all (all.drop i) (Sj13.step b c).1 (out ++ ((ansOf (Sj13.step b c)).length : Int) :: ansOf (Sj13.step b c)))
    (fin : ∀ (v10 : Option V) (H' : Hp), LI CT kvs H0 a tb all t ao i H' → D.nx [some (.ref a), some (.ref tb), some (.ref t), some (.ref ao), some (.int (i : Nat)), some (.int (k : Nat)), v6, v7, some (.ref an), some (.ref ad), v10] H') :
    tSeq (rdIf K CT fs) (rdTail K) D [some (.ref a), some (.ref tb), some (.ref t), some (.ref ao), some (.int (i : Nat)), some (.int (k : Nat)), v6, v7, some (.ref an), some (.ref ad), v10] H := by
  refine ⟨_, rfl, rfl, _, rfl, ?_⟩
  rw [decide_eq_false (show ¬ V.int ((k : Nat) : Int) = V.int 0 by intro e; have := V.int.inj e; omega)]
  refine iteT ?_
  have hg : DGet H tb (.int (k : Nat)) (some (.ref (fs k))) := by
    have := DGet.k (k := Sum.inl ((k : Nat) : Int)) htb
    rw [T.at_ k hk1 hk5] at this
    exact this
  refine ⟨_, rfl, _, rfl, tb, _, rfl, hg, fs k, spDo CT k, rfl, ⟨k, hk1, hk5, rfl, rfl⟩, _, rfl, _, rfl, _, rfl, t, aw, am, an, ad, b, ns, l, c, rfl, ht, nwm, han, had, g, hc, fun H' q ht' kp nq hq => ?_⟩
  have hao' := kp _ _ hao n1 n2
  have sq0 : H0 q = none := s0.free nq
  refine tail_read hq hao' (fun e => by rw [e, hao] at nq; cases nq) R.fits ?_
  refine fin _ _ ⟨aw, am, _, _, fun z o hz => ?_, ?_, ?_, nwm, nw, nm, upd_same, nao, n1, n2, R, hi⟩
  · rw [upd_ne (ne_of_none hz nao)]
    exact kp _ _ (s0 _ _ hz) (ne_of_none hz nw) (ne_of_none hz nm)
  · obtain ⟨ps1, hw, _⟩ := ht.wr
    obtain ⟨ps2, hm, _⟩ := ht.mt
    rw [upd_ne (ne_of htb hao (by intro z; cases z))]
    exact kp _ _ htb (ne_of htb hw (by intro z; cases z)) (ne_of htb hm (by intro z; cases z))
  · obtain ⟨⟨dx, h1⟩, h2, h3⟩ := ht'
    exact ⟨⟨dx, by rw [upd_ne (ne_of h1 hao' (by intro z; cases z))]; exact h1⟩, h2.off hao' (Ne.symm n1), h3.off hao' (Ne.symm n2)⟩
/-- begins -/
theorem begins_read {D : Ends} {H : Hp} {t ao an ad : Addr} {i : Nat} {v6 v7 v10 : Option V} {aw am : Addr} {b : B} {out : List Int} {x y : Nat}
    (s0 : Same H0 H) (htb : H tb = some (.dK kvs)) (ht : TAt CT H t aw am b) (nwm : aw ≠ am) (nw : H0 aw = none) (nm : H0 am = none) (hao : H ao = some (.lst (iV out))) (nao : H0 ao = none) (n1 : ao ≠ aw) (n2 : ao ≠ am)
    (han : H an = some (.lst (iV (zs [x, y])))) (hi : i ≤ all.length) (R : Run all (all.drop i) (Sj13.step b (.begins x y)).1 (out ++ ((ansOf (Sj13.step b (.begins x y))).length : Int) :: ansOf (Sj13.step b (.begins x y))))
    (fin : ∀ (t' : Addr) (v10 : Option V) (H' : Hp), LI CT kvs H0 a tb all t' ao i H' → D.nx [some (.ref a), some (.ref tb), some (.ref t'), some (.ref ao), some (.int (i : Nat)), some (.int 0), v6, v7, some (.ref an), some (.ref ad), v10] H') :
    tSeq (rdIf K CT fs) (rdTail K) D [some (.ref a), some (.ref tb), some (.ref t), some (.ref ao), some (.int (i : Nat)), some (.int 0), v6, v7, some (.ref an), some (.ref ad), v10] H := by
  have a0 : atI (iV (zs [x, y])) 0 = some (V.int (x : Int)) := rfl
  have a1 : atI (iV (zs [x, y])) 1 = some (V.int (y : Int)) := rfl
  rw [step_b] at R
  -- refused
  have no : ¬ (x ≤ 100 ∧ y ≤ 100) → tAsg (tLst (tCons (tUn (rU fun i => .int (-i)) (tC (.int 1))) tNil)) (gName 10) { D with nx := rdTail K D } [some (.ref a), some (.ref tb), some (.ref t), some (.ref ao), some (.int (i : Nat)), some (.int 0), v6, v7, some (.ref an), some (.ref ad), v10] H := by
    intro e
    rw [if_neg e] at R
    refine ⟨_, rfl, (by show 1 ≤ sizeLine; decide), fun q nq => ?_⟩
    have sq := Same.new (o := .lst [V.int (-1)]) nq
    refine tail_read (ans := [-1]) upd_same (sq _ _ hao) (fun e => by rw [e, hao] at nq; cases nq) R.fits ?_
    refine fin t _ _ ⟨aw, am, b, _, fun z o hz => ?_, ?_, ?_, nwm, nw, nm, upd_same, nao, n1, n2, R, hi⟩
    · rw [upd_ne (ne_of_none hz nao)]
      exact sq _ _ (s0 _ _ hz)
    · rw [upd_ne (ne_of htb hao (by intro z; cases z))]
      exact sq _ _ htb
    · obtain ⟨⟨dx, h1⟩, h2, h3⟩ := ht.same sq
      have hao' := sq _ _ hao
      exact ⟨⟨dx, by rw [upd_ne (ne_of h1 hao' (by intro z; cases z))]; exact h1⟩, h2.off hao' (Ne.symm n1), h3.off hao' (Ne.symm n2)⟩
  refine ⟨_, rfl, rfl, _, rfl, ?_⟩
  rw [decide_eq_true (rfl : V.int 0 = V.int 0)]
  refine iteF ?_
  refine ⟨_, rfl, an, _, _, _, rfl, rfl, SqL.of han, a0, _, _, rfl, rfl, _, rfl, ?_⟩
  by_cases cx : x ≤ 100
  · rw [decide_eq_true (show (x : Int) ≤ 100 by omega)]
    refine iteT ?_
    refine ⟨_, rfl, an, _, _, _, rfl, rfl, SqL.of han, a1, _, _, rfl, rfl, _, rfl, ?_⟩
    by_cases cy : y ≤ 100
    · rw [decide_eq_true (show (y : Int) ≤ 100 by omega)]
      refine iteT ?_
      rw [if_pos ⟨cx, cy⟩] at R
      refine ⟨_, rfl, an, _, _, _, rfl, rfl, SqL.of han, a0, _, rfl, an, _, _, _, rfl, rfl, SqL.of han, a1, fun p dx np ndx nex => ?_⟩
      have sN : Same H (upd (upd H dx (.own p)) p (.ins CT dx [])) := (Same.new ndx).trans (Same.new (by rw [upd_ne (Ne.symm nex)]; exact np))
      refine ⟨p, dx, x, y, rfl, upd_same, by rw [upd_ne nex, upd_same], fun H' aw' am' ht' kp nw' nm' nwm' => ⟨rfl, ?_⟩⟩
      have sH : Same H H' := fun z o hz => kp _ _ (sN _ _ hz) (fun e => by rw [e, np] at hz; cases hz)
      refine ⟨(by show 1 ≤ sizeLine; decide), fun q nq => ?_⟩
      have sq := sH.trans (Same.new (o := .lst [V.int 0]) nq)
      have hao' := sq _ _ hao
      have fw : H aw' = none := sN.free nw'
      have fm : H am' = none := sN.free nm'
      have n1' : ao ≠ aw' := ne_of_none hao fw
      have n2' : ao ≠ am' := ne_of_none hao fm
      refine tail_read (ans := [0]) upd_same hao' (fun e => by rw [e, sH _ _ hao] at nq; cases nq) R.fits ?_
      refine fin p _ _ ⟨aw', am', _, _, fun z o hz => ?_, ?_, ?_, nwm', s0.free fw, s0.free fm, upd_same, nao, n1', n2', R, hi⟩
      · rw [upd_ne (ne_of_none hz nao)]
        exact sq _ _ (s0 _ _ hz)
      · rw [upd_ne (ne_of htb hao (by intro z; cases z))]
        exact sq _ _ htb
      · obtain ⟨⟨dx', h1⟩, h2, h3⟩ := ht'.same (Same.new (o := .lst [V.int 0]) nq)
        exact ⟨⟨dx', by rw [upd_ne (ne_of h1 hao' (by intro z; cases z))]; exact h1⟩, h2.off hao' (Ne.symm n1'), h3.off hao' (Ne.symm n2')⟩
    · rw [decide_eq_false (show ¬ (y : Int) ≤ 100 by omega)]
      exact iteF (no fun e => cy e.2)
  · rw [decide_eq_false (show ¬ (x : Int) ≤ 100 by omega)]
    refine iteF ?_
    exact iteF (no fun e => cx e.1)
end
end Dy

namespace Dy
open PySem PySem.Spec PyProof.Rows L2
abbrev rAddI : R2 := rI0 fun i j => .int (i + j)
/-- the loop's first five rows -/
abbrev rdHead (K : PySem.W.Frag) (aH : Addr) (rest : TS) : TS :=
  tSeq (tAsg (tOp (rIxL K) (tVar 0) (tVar 4)) (gName 5))
    (tSeq (tAsg (tOp (rHeads K aH) (tC (.ref aH)) (tVar 5)) (gTup K 2 (gCons (gName 6) (gCons (gName 7) gNil))))
    (tSeq (tAsg (tSl (rSlL K) (tVar 0) (tPart (tOp rAddI (tVar 4) (tC (.int 1)))) (tPart (tOp rAddI (tOp rAddI (tVar 4) (tC (.int 1))) (tVar 6)))) (gName 8))
    (tSeq (tAsg (tOp rAddI (tOp rAddI (tVar 4) (tC (.int 1))) (tVar 6)) (gName 4))
    (tSeq (tAsg (tLst tNil) (gName 9)) rest))))
theorem head_read {K : PySem.W.Frag} {aH : Addr} {rest : TS} {D : Ends} {H : Hp} {all : List Int} {a : Addr} {i k : Nat} {ns : List Nat} {r : List Int} {v1 v2 v3 v5 v6 v7 v8 v9 v10 : Option V} (hS : SqL K H a (iV all)) (hk : k ≤ 5) (hd : all.drop i = (k : Int) :: (zs ns ++ r)) (hn : ns.length = hcn k)
    (fin : ∀ (H' : Hp) (an ad : Addr), Same H H' → H' an = some (.lst (iV (zs ns))) → H' ad = some (.lst []) → rest D [some (.ref a), v1, v2, v3, some (.int ((i + 1 + ns.length : Nat) : Int)), some (.int (k : Nat)), some (.int (hcn k : Nat)), some (.int (hsz k : Nat)), some (.ref an), some (.ref ad), v10] H') :
    rdHead K aH rest D [some (.ref a), v1, v2, v3, some (.int (i : Nat)), v5, v6, v7, v8, v9, v10] H := by
  obtain ⟨h1, hi, h2⟩ := drop_get hd
  have hlen : i + 1 + ns.length ≤ all.length := by
    have := congrArg List.length h2
    rw [List.length_drop, List.length_append, zs_len] at this
    omega
  have hcut : cutV (iV all) (some ((i + 1 : Nat) : Int)) (some ((i + 1 + ns.length : Nat) : Int)) = iV (zs ns) := by
    rw [cutV_nat (by omega) hlen, h2, show i + 1 + ns.length - (i + 1) = (zs ns).length by rw [zs_len]; omega, List.take_left]
  refine ⟨_, rfl, _, rfl, a, _, _, _, rfl, rfl, hS, h1, ?_⟩
  refine ⟨_, rfl, k, rfl, rfl, hk, fun p hp => ⟨p, _, rfl, hp _, rfl, _, _, rfl, _, _, rfl, rfl, ?_⟩⟩
  refine ⟨_, rfl, _, rfl, _, _, rfl, rfl, _, rfl, _, rfl, _, _, rfl, rfl, _, rfl, _, _, rfl, rfl, _, rfl, a, _, rfl, hS, fun an nan => ?_⟩
  refine ⟨_, rfl, _, _, rfl, rfl, _, rfl, _, _, rfl, rfl, ?_⟩
  refine ⟨(by show 0 ≤ sizeLine; decide), fun ad nad => ?_⟩
  have e1 : (i : Int) + 1 = ((i + 1 : Nat) : Int) := rfl
  have e2 : (i : Int) + 1 + ((hcn k : Nat) : Int) = ((i + 1 + ns.length : Nat) : Int) := by rw [hn]; rfl
  have s1 := Same.new (o := .lst (iV (zs ns))) nan
  have hgo : rest D [some (.ref a), v1, v2, v3, some (.int ((i : Int) + 1 + ((hcn k : Nat) : Int))), some (.int (k : Nat)), some (.int (hcn k : Nat)), some (.int (hsz k : Nat)), some (.ref an), some (.ref ad), v10] (upd (upd H an (.lst (cutV (iV all) (some ((i : Int) + 1)) (some ((i : Int) + 1 + ((hcn k : Nat) : Int)))))) ad (.lst [])) := by
    rw [e2, e1, hcut]
    have nad' : upd H an (.lst (iV (zs ns))) ad = none := by
      have q : upd H an (.lst (cutV (iV all) (some ((i : Int) + 1)) (some ((i : Int) + 1 + ((hcn k : Nat) : Int))))) ad = none := nad
      rw [e2, e1, hcut] at q
      exact q
    exact fin _ an ad (s1.trans (Same.new nad')) (by rw [upd_ne (ne_of_none upd_same nad'), upd_same]) upd_same
  exact hgo
end Dy

namespace Dy
open PySem PySem.Spec PyProof.Rows L2
/-- if size == 1: the day is read -/
abbrev rdSize (K : PySem.W.Frag) : TS :=
  tIfS (tTest (tOp rEq (tVar 7) (tC (.int 1))))
    (tSeq (tAsg (tSl (rSlL K) (tVar 0) (tPart (tOp rAddI (tVar 4) (tC (.int 1)))) (tPart (tOp rAddI (tOp rAddI (tVar 4) (tC (.int 1))) (tOp (rIxL K) (tVar 0) (tVar 4))))) (gName 9))
      (tAsg (tOp rAddI (tOp rAddI (tVar 4) (tC (.int 1))) (tOp (rIxL K) (tVar 0) (tVar 4))) (gName 4)))
    tNext
theorem size_no {K : PySem.W.Frag} {rest : TS} {D : Ends} {H : Hp} {v0 v1 v2 v3 v4 v5 v6 v8 v9 v10 : Option V} (h : rest D [v0, v1, v2, v3, v4, v5, v6, some (.int (0 : Nat)), v8, v9, v10] H) :
    tSeq (rdSize K) rest D [v0, v1, v2, v3, v4, v5, v6, some (.int (0 : Nat)), v8, v9, v10] H := by
  refine ⟨_, rfl, rfl, _, rfl, ?_⟩
  rw [decide_eq_false (show ¬ V.int ((0 : Nat) : Int) = V.int 1 by intro e; cases e)]
  exact iteF h
theorem size_yes {K : PySem.W.Frag} {rest : TS} {D : Ends} {H : Hp} {all : List Int} {a : Addr} {i : Nat} {l : List Nat} {r : List Int} {v1 v2 v3 v5 v6 v8 v9 v10 : Option V} (hS : SqL K H a (iV all)) (hd : all.drop i = (l.length : Int) :: (zs l ++ r))
    (fin : ∀ (H' : Hp) (ad : Addr), Same H H' → H' ad = some (.lst (iV (zs l))) → rest D [some (.ref a), v1, v2, v3, some (.int ((i + 1 + l.length : Nat) : Int)), v5, v6, some (.int (1 : Nat)), v8, some (.ref ad), v10] H') :
    tSeq (rdSize K) rest D [some (.ref a), v1, v2, v3, some (.int (i : Nat)), v5, v6, some (.int (1 : Nat)), v8, v9, v10] H := by
  obtain ⟨h1, hi, h2⟩ := drop_get hd
  have hlen : i + 1 + l.length ≤ all.length := by
    have := congrArg List.length h2
    rw [List.length_drop, List.length_append, zs_len] at this
    omega
  have hcut : cutV (iV all) (some ((i + 1 : Nat) : Int)) (some ((i + 1 + l.length : Nat) : Int)) = iV (zs l) := by
    rw [cutV_nat (by omega) hlen, h2, show i + 1 + l.length - (i + 1) = (zs l).length by rw [zs_len]; omega, List.take_left]
  refine ⟨_, rfl, rfl, _, rfl, ?_⟩
  rw [decide_eq_true (show V.int ((1 : Nat) : Int) = V.int 1 from rfl)]
  refine iteT ?_
  refine ⟨_, rfl, _, rfl, _, _, rfl, rfl, _, rfl, _, rfl, _, _, rfl, rfl, _, rfl, _, rfl, a, _, _, _, rfl, rfl, hS, h1, _, _, rfl, rfl, _, rfl, a, _, rfl, hS, fun ad nad => ?_⟩
  have e1 : (i : Int) + 1 = ((i + 1 : Nat) : Int) := rfl
  have e2 : (i : Int) + 1 + ((l.length : Nat) : Int) = ((i + 1 + l.length : Nat) : Int) := rfl
  have s1 := Same.new (o := .lst (cutV (iV all) (some ((i : Int) + 1)) (some ((i : Int) + 1 + ((l.length : Nat) : Int))))) nad
  have hS1 := s1.seq hS
  refine ⟨_, rfl, _, _, rfl, rfl, _, rfl, _, rfl, a, _, _, _, rfl, rfl, hS1, h1, _, _, rfl, rfl, ?_⟩
  refine fin _ ad s1 ?_
  rw [upd_same, e2, e1, hcut]
def spAns (K : PySem.W.Frag) : Sp := fun vs H Q _ => ∃ (a : Addr) (all : List Int), vs = [.ref a] ∧ SqL K H a (iV all) ∧ PySj13.answers_asked all = true ∧
  ∀ (H' : Hp) (p : Addr), H' p = some (.lst (iV (PySj13.answers all))) → Q (.ref p) H'
section
variable {K : PySem.W.Frag} {CT aH : Addr} {fs : Nat → Addr} {kvs : List (Key × V)} {H0 : Hp} {a tb : Addr} {all : List Int}
theorem LI.skip {t ao : Addr} {i j : Nat} {H : Hp} (h : LI CT kvs H0 a tb all t ao i H) (e : i = j) : LI CT kvs H0 a tb all t ao j H := e ▸ h
/-- one turn -/
theorem turn_read {D : Ends} {H : Hp} {t ao : Addr} {i : Nat} {v5 v6 v7 v8 v9 v10 : Option V} (T : Tbl fs kvs) (hS0 : SqL K H0 a (iV all)) (hi : i < all.length) (L : LI CT kvs H0 a tb all t ao i H)
    (fin : ∀ (t' : Addr) (j : Nat) (w5 w6 w7 w8 w9 w10 : Option V) (H' : Hp), i < j → LI CT kvs H0 a tb all t' ao j H' → D.nx [some (.ref a), some (.ref tb), some (.ref t'), some (.ref ao), some (.int (j : Nat)), w5, w6, w7, w8, w9, w10] H') :
    rdHead K aH (tSeq (rdSize K) (tSeq (rdIf K CT fs) (rdTail K))) D [some (.ref a), some (.ref tb), some (.ref t), some (.ref ao), some (.int (i : Nat)), v5, v6, v7, v8, v9, v10] H := by
  obtain ⟨aw, am, b, out, s0, htb, ht, nwm, nw, nm, hao, nao, n1, n2, R, _⟩ := L.ex
  have hS := s0.seq hS0
  have hne : all.drop i ≠ [] := fun e => by
    have := congrArg List.length e
    rw [List.length_drop] at this
    have h0 : ([] : List Int).length = 0 := rfl
    omega
  have g := R.good hne
  have step : ∀ {j : Nat} {p : List Int} {r : List Int}, all.drop i = p ++ r → j = i + p.length → all.drop j = r ∧ j ≤ all.length := by
    intro j p r e ej
    have h1 : all.drop j = r := by
      rw [ej, ← List.drop_drop, e, List.drop_left]
    have h2 := congrArg List.length e
    rw [List.length_drop, List.length_append] at h2
    exact ⟨h1, by omega⟩
  rcases R.turn hne with ⟨x, y, r, hd, R'⟩ | ⟨x, y, r, hd, R'⟩ | ⟨x, y, r, hd, R'⟩ | ⟨l, r, hd, l8, R'⟩ | ⟨r, hd, R'⟩ | ⟨r, hd, R'⟩
  · -- begins
    refine head_read (k := 0) (ns := [x, y]) (r := r) hS (by decide) hd rfl fun H1 an ad s1 han had => size_no ?_
    obtain ⟨e1, e2⟩ := step (j := i + 1 + 2) (p := [0, (x : Int), (y : Int)]) hd rfl
    refine begins_read (all := all) (H0 := H0) (kvs := kvs) (x := x) (y := y) (s0.trans s1) (s1 _ _ htb) (ht.same s1) nwm nw nm (s1 _ _ hao) nao n1 n2 han e2 (show Run all (all.drop (i + 1 + 2)) _ _ by rw [e1]; exact R') fun t' w10 H' L' => ?_
    exact fin t' _ _ _ _ _ _ _ H' (by omega) L'
  · refine head_read (k := 1) (ns := [x, y]) (r := r) hS (by decide) hd rfl fun H1 an ad s1 han had => size_no ?_
    obtain ⟨e1, e2⟩ := step (j := i + 1 + 2) (p := [1, (x : Int), (y : Int)]) hd rfl
    refine call_read (all := all) (H0 := H0) (k := 1) (l := []) T (by decide) (by decide) (s0.trans s1) (s1 _ _ htb) (ht.same s1) nwm nw nm (s1 _ _ hao) nao n1 n2 han had g ⟨x, y, rfl, rfl⟩ e2 (show Run all (all.drop (i + 1 + 2)) _ _ by rw [e1]; exact R') fun w10 H' L' => ?_
    exact fin t _ _ _ _ _ _ _ H' (by omega) L'
  · refine head_read (k := 2) (ns := [x, y]) (r := r) hS (by decide) hd rfl fun H1 an ad s1 han had => size_no ?_
    obtain ⟨e1, e2⟩ := step (j := i + 1 + 2) (p := [2, (x : Int), (y : Int)]) hd rfl
    refine call_read (all := all) (H0 := H0) (k := 2) (l := []) T (by decide) (by decide) (s0.trans s1) (s1 _ _ htb) (ht.same s1) nwm nw nm (s1 _ _ hao) nao n1 n2 han had g ⟨x, y, rfl, rfl⟩ e2 (show Run all (all.drop (i + 1 + 2)) _ _ by rw [e1]; exact R') fun w10 H' L' => ?_
    exact fin t _ _ _ _ _ _ _ H' (by omega) L'
  · refine head_read (k := 3) (ns := []) (r := (l.length : Int) :: (zs l ++ r)) hS (by decide) hd rfl fun H1 an ad s1 han had => ?_
    obtain ⟨e0, _⟩ := step (j := i + 1 + 0) (p := [3]) hd rfl
    refine size_yes (all := all) (l := l) (r := r) (s1.seq hS) e0 fun H2 ad2 s2 had2 => ?_
    obtain ⟨e1, e2⟩ := step (j := i + 1 + 0 + 1 + l.length) (p := 3 :: (l.length : Int) :: zs l) hd (by
      rw [List.length_cons, List.length_cons, zs_len]
      omega)
    have s12 := s1.trans s2
    refine call_read (all := all) (H0 := H0) (k := 3) (ns := []) (l := l) T (by decide) (by decide) (s0.trans s12) (s12 _ _ htb) (ht.same s12) nwm nw nm (s12 _ _ hao) nao n1 n2 (s2 _ _ han) had2 g ⟨l8, rfl⟩ e2 (show Run all (all.drop (i + 1 + 0 + 1 + l.length)) _ _ by rw [e1]; exact R') fun w10 H' L' => ?_
    exact fin t _ _ _ _ _ _ _ H' (by omega) L'
  · refine head_read (k := 4) (ns := []) (r := r) hS (by decide) hd rfl fun H1 an ad s1 han had => size_no ?_
    obtain ⟨e1, e2⟩ := step (j := i + 1 + 0) (p := [4]) hd rfl
    refine call_read (all := all) (H0 := H0) (k := 4) (ns := []) (l := []) T (by decide) (by decide) (s0.trans s1) (s1 _ _ htb) (ht.same s1) nwm nw nm (s1 _ _ hao) nao n1 n2 han had g rfl e2 (show Run all (all.drop (i + 1 + 0)) _ _ by rw [e1]; exact R') fun w10 H' L' => ?_
    exact fin t _ _ _ _ _ _ _ H' (by omega) L'
  · refine head_read (k := 5) (ns := []) (r := r) hS (by decide) hd rfl fun H1 an ad s1 han had => size_no ?_
    obtain ⟨e1, e2⟩ := step (j := i + 1 + 0) (p := [5]) hd rfl
    refine call_read (all := all) (H0 := H0) (k := 5) (ns := []) (l := []) T (by decide) (by decide) (s0.trans s1) (s1 _ _ htb) (ht.same s1) nwm nw nm (s1 _ _ hao) nao n1 n2 han had g rfl e2 (show Run all (all.drop (i + 1 + 0)) _ _ by rw [e1]; exact R') fun w10 H' L' => ?_
    exact fin t _ _ _ _ _ _ _ H' (by omega) L'
end
end Dy

namespace Dy
open PySem PySem.Spec PyProof.Rows L2
section
variable {P : Program} {w : World} {K : PySem.W.Frag} {mg : Str → Option Value} {base : Heap}
abbrev nAns : List Str := ["calls", "table", "t", "out", "i", "call", "count", "size", "n", "day", "result"]
theorem scAns : FnScope nAns ["calls"] (defScope sAns) := ⟨rfl, rfl, rfl, by decide +kernel, rfl, by decide +kernel, by decide +kernel⟩
theorem okAns {CT f fT aH : Addr} {fs : Nat → Addr} {fd fdT : FuncData} (F : Fun K "answers" "answers" sAns f fd) (G : Glo mg) (cn : Cns mg) (HK : HeadsK K aH) (mH : mg "HEADS" = some (.ref aH))
    (MT : Mk K CT fT) (GT : FnOk P w K mg base CX0 1 fT fdT ["self", "rank", "wins"] (spTInit CT)) (bT : Binds K fdT ["self", "rank", "wins"] []) (mT : mg "Tournament" = some (.ref CT))
    (m1 : mg "do_wrestler" = some (.ref (fs 1))) (m2 : mg "do_met" = some (.ref (fs 2))) (m3 : mg "do_check" = some (.ref (fs 3))) (m4 : mg "do_open" = some (.ref (fs 4))) (m5 : mg "do_tense" = some (.ref (fs 5)))
    (A : ∀ k : Nat, 1 ≤ k → k ≤ 5 → Held P w K mg base 4 (fs k) (spDo CT k)) : FnOk P w K mg base CX0 5 f fd ["calls"] (spAns K) := by
  obtain ⟨t100, m100⟩ := cn.ct
  have A' : ∀ g sp, SD CT fs g sp → Held P w K mg base 4 g sp := fun g sp ⟨k, h1, h2, e1, e2⟩ => by
    subst e1 e2
    exact A k h1 h2
  refine F.ok scAns (fun vs H Q E h => ?_) (fun cdv A outer s H vs Q E hr h => ⟨_, pss_cons (ps_set (i := 1) scAns.nd rfl (Or.inl rfl) (pe_disp (pps_cons pe_int (pe_glob (v := .ref (fs 1)) rfl m1 rfl) (pps_cons pe_int (pe_glob (v := .ref (fs 2)) rfl m2 rfl) (pps_cons pe_int (pe_glob (v := .ref (fs 3)) rfl m3 rfl) (pps_cons pe_int (pe_glob (v := .ref (fs 4)) rfl m4 rfl) (pps_cons pe_int (pe_glob (v := .ref (fs 5)) rfl m5 rfl) pps_nil))))) (by rfl) (by rfl) (fun z => by cases z) (by decide)))
    (pss_cons (ps_set (i := 2) scAns.nd rfl (Or.inl rfl) (pe_make MT GT (hr.mono (by decide)) rfl mT bT .nil pass0 (pa_cons pe_int (pa_cons pe_int pa_nil))))
    (pss_cons (ps_set (i := 3) scAns.nd rfl (Or.inl rfl) (pe_lst pa_nil))
    (pss_cons (ps_set (i := 4) scAns.nd rfl (Or.inl rfl) pe_int)
    (pss_cons (ps_while (tb := rdHead K aH (tSeq (rdSize K) (tSeq (rdIf K CT fs) (rdTail K)))) PassesOwn.never (pt_cmpR op_lt (pv 4) (pe_callB call_len_seq (by rfl) G.len PySem.boot_len (pa_cons (pv 0) pa_nil)) (nomark _))
      (pss_cons (ps_set (i := 5) scAns.nd rfl (Or.inl rfl) (pe_ix ix_list (pv 0) (pv 4) (fun _ _ => rfl)))
      (pss_cons (ps_asg (pe_ix (ix_heads HK) (pe_glob (v := .ref aH) rfl mH rfl) (pv 5) (fun _ _ => rfl)) (pg_tup rfl (pgs_cons (pg_name (i := 6) scAns.nd rfl (Or.inl rfl)) (pgs_cons (pg_name (i := 7) scAns.nd rfl (Or.inl rfl)) pgs_nil))))
      (pss_cons (ps_set (i := 8) scAns.nd rfl (Or.inl rfl) (pe_slice sl_list (pv 0) (po_some (pe_op op_add (pv 4) pe_int)) (po_some (pe_op op_add (pe_op op_add (pv 4) pe_int) (pv 6)))))
      (pss_cons (ps_set (i := 4) scAns.nd rfl (Or.inl rfl) (pe_op op_add (pe_op op_add (pv 4) pe_int) (pv 6)))
      (pss_cons (ps_set (i := 9) scAns.nd rfl (Or.inl rfl) (pe_lst pa_nil))
      (pss_cons (ps_if (pt_cmpR op_eq (pv 7) pe_int (nomark _)) (pss_cons (ps_set (i := 9) scAns.nd rfl (Or.inl rfl) (pe_slice sl_list (pv 0) (po_some (pe_op op_add (pv 4) pe_int)) (po_some (pe_op op_add (pe_op op_add (pv 4) pe_int) (pe_ix ix_list (pv 0) (pv 4) (fun _ _ => rfl))))))
          (pss_one (ps_set (i := 4) scAns.nd rfl (Or.inl rfl) (pe_op op_add (pe_op op_add (pv 4) pe_int) (pe_ix ix_list (pv 0) (pv 4) (fun _ _ => rfl)))))) pss_nil)
      (pss_cons (ps_if (pt_cmpR op_ne (pv 5) pe_int (nomark _)) (pss_one (ps_set (i := 10) scAns.nd rfl (Or.inl rfl) (pe_callE (S := SD CT fs) A' hr (pe_dget (hu_of hr) (pv 1) (pv 5) (fun _ _ => rfl)) (pa_cons (pv 2) (pa_cons (pv 8) (pa_cons (pv 9) pa_nil))))))
          (pss_one (ps_if (PW.pt (pw_and (pt_cmpR op_le (pe_ix ix_list (pv 8) pe_int (fun _ _ => rfl)) (pe_glob (v := .int 100) rfl m100 ⟨_, rfl⟩) (nomark _)) (pw_and1 (pt_cmpR op_le (pe_ix ix_list (pv 8) pe_int (fun _ _ => rfl)) (pe_glob (v := .int 100) rfl m100 ⟨_, rfl⟩) (nomark _)))))
            (pss_cons (ps_set (i := 2) scAns.nd rfl (Or.inl rfl) (pe_make MT GT (hr.mono (by decide)) rfl mT bT .nil pass0 (pa_cons (pe_ix ix_list (pv 8) pe_int (fun _ _ => rfl)) (pa_cons (pe_ix ix_list (pv 8) pe_int (fun _ _ => rfl)) pa_nil)))) (pss_one (ps_set (i := 10) scAns.nd rfl (Or.inl rfl) (pe_lst (pa_cons pe_int pa_nil)))))
            (pss_one (ps_set (i := 10) scAns.nd rfl (Or.inl rfl) (pe_lst (pa_cons (pe_un un_neg pe_int) pa_nil)))))))
      (pss_cons (ps_expr (pe_bm PySem.F.plainAttrs_list PySem.F.slot_list_append PySem.F.type_list_append mt_append (pv 3) (pa_cons (pe_callB call_len_seq (by rfl) G.len PySem.boot_len (pa_cons (pv 10) pa_nil)) pa_nil)))
      (pss_one (ps_expr (pe_bm PySem.F.plainAttrs_list PySem.F.slot_list_extend PySem.F.type_list_extend mt_extend (pv 3) (pa_cons (pv 10) pa_nil)))))))))))))
    (pss_one (ps_ret (pv 3))))))), ?_⟩)
  · obtain ⟨a, all, rfl, _⟩ := h
    rfl
  · obtain ⟨a, all, rfl, hS, hask, k⟩ := h
    intro tb ntb
    refine ⟨upd_same, [(Sum.inl 1, .ref (fs 1)), (Sum.inl 2, .ref (fs 2)), (Sum.inl 3, .ref (fs 3)), (Sum.inl 4, .ref (fs 4)), (Sum.inl 5, .ref (fs 5))], rfl, (by show 5 ≤ 15; decide), ?_⟩
    rw [upd_upd]
    have T : Tbl fs (mergeK [] [(Sum.inl 1, .ref (fs 1)), (Sum.inl 2, .ref (fs 2)), (Sum.inl 3, .ref (fs 3)), (Sum.inl 4, .ref (fs 4)), (Sum.inl 5, .ref (fs 5))]) := ⟨fun k h1 h5 => by
      match k, h1, h5 with
      | 1, _, _ => rfl
      | 2, _, _ => rfl
      | 3, _, _ => rfl
      | 4, _, _ => rfl
      | 5, _, _ => rfl⟩
    generalize mergeK [] [(Sum.inl 1, V.ref (fs 1)), (Sum.inl 2, .ref (fs 2)), (Sum.inl 3, .ref (fs 3)), (Sum.inl 4, .ref (fs 4)), (Sum.inl 5, .ref (fs 5))] = kvs at T ⊢
    intro t dt nt ndt ne
    have s1 := Same.new (o := .dK kvs) ntb
    have sN : Same (upd H tb (.dK kvs)) (upd (upd (upd H tb (.dK kvs)) dt (.own t)) t (.ins CT dt [])) := (Same.new ndt).trans (Same.new (by rw [upd_ne (Ne.symm ne)]; exact nt))
    refine ⟨t, dt, 1, 0, rfl, upd_same, by rw [upd_ne ne, upd_same], fun H2 aw am ht kp naw nam nwm => ⟨rfl, ?_⟩⟩
    have s2 : Same (upd H tb (.dK kvs)) H2 := fun z o hz => kp _ _ (sN _ _ hz) (fun e => by rw [e, nt] at hz; cases hz)
    refine ⟨(by show 0 ≤ sizeLine; decide), fun ao nao => ?_⟩
    have s3 := Same.new (o := .lst []) nao
    have hw2 : ∃ xs, H2 aw = some (.lst xs) := by obtain ⟨ps, h, _⟩ := ht.wr; exact ⟨_, h⟩
    have hm2 : ∃ xs, H2 am = some (.lst xs) := by obtain ⟨ps, h, _⟩ := ht.mt; exact ⟨_, h⟩
    have n1 : ao ≠ aw := fun e => by obtain ⟨xs, h⟩ := hw2; rw [← e, nao] at h; cases h
    have n2 : ao ≠ am := fun e => by obtain ⟨xs, h⟩ := hm2; rw [← e, nao] at h; cases h
    have f1 : H aw = none := s1.free (sN.free naw)
    have f2 : H am = none := s1.free (sN.free nam)
    have f3 : H ao = none := s1.free (s2.free nao)
    refine ⟨LW CT kvs H a tb all, ⟨all.length - 0, t, ao, 0, none, none, none, none, none, none, rfl, rfl, ⟨aw, am, _, [], (s1.trans s2).trans s3, s3 _ _ (s2 _ _ upd_same), ht.same s3, nwm, f1, f2, upd_same, f3, n1, n2, Run.start hask, Nat.zero_le _⟩⟩, ?_⟩
    rintro m σ H3 ⟨t, ao, i, v5, v6, v7, v8, v9, v10, rfl, rfl, L⟩
    have hS3 : SqL K H3 a (iV all) := by
      obtain ⟨_, _, _, _, s0, _⟩ := L.ex
      exact s0.seq hS
    refine ⟨_, rfl, _, rfl, a, _, rfl, .inl hS3, _, _, rfl, rfl, _, rfl, ?_⟩
    rw [iV_len]
    by_cases c : i < all.length
    · rw [decide_eq_true (show (i : Int) < ((all.length : Nat) : Int) by omega)]
      refine iteT ⟨fun σ' H' => ∃ m', m' < all.length - i ∧ LW CT kvs H a tb all m' σ' H', fun _ _ h => h, ?_⟩
      refine turn_read T hS c L fun t' j w5 w6 w7 w8 w9 w10 H' hj L' => ?_
      exact ⟨all.length - j, by omega, t', ao, j, w5, w6, w7, w8, w9, w10, rfl, rfl, L'⟩
    · rw [decide_eq_false (show ¬ (i : Int) < ((all.length : Nat) : Int) by omega)]
      refine iteF ⟨_, rfl, ?_⟩
      obtain ⟨aw, am, b, out, _, _, _, _, _, _, hao, _, _, _, R, _⟩ := L.ex
      rw [List.drop_eq_nil_of_le (by omega)] at R
      exact k H3 ao (R.done ▸ hao)
end
end Dy

namespace Dy
open PySem PySem.Spec PyProof.Rows L2
/-! ### the end: what the top has written, every address a letter -/
theorem all_mk {P : Program} {w : World} {K : PySem.W.Frag} {h : Heap} {mg : Str → Option Value} {fa : Addr} (X : K.In h) (G : h.Ns mainGlobals mg) (hfa : mg "answers" = some (.ref fa))
    {CT CP aH f_ti f_mm f_ap f_dy f_wn f_pi f_bi f_ch f_on f_tn f_pa f_bo f_d1 f_d2 f_d3 f_d4 f_d5 f_an p0 p1 p2 p3 p4 p5 : Addr}
    {od_ti an_ti od_mm an_mm od_ap an_ap od_dy an_dy od_wn an_wn od_pi an_pi od_bi an_bi od_ch an_ch od_on an_on od_tn an_tn od_pa an_pa od_bo an_bo od_d1 an_d1 od_d2 an_d2 od_d3 an_d3 od_d4 an_d4 od_d5 an_d5 od_an an_an dd0 dd1 dd2 dd3 dd4 dd5 : Option Addr}
    {sl_ti sl_mm sl_ap sl_dy sl_wn sl_pi sl_bi sl_ch sl_on sl_tn sl_pa sl_bo sl_d1 sl_d2 sl_d3 sl_d4 sl_d5 sl_an sp0 sp1 sp2 sp3 sp4 sp5 : Array (Option Value)}
    {oc_ti kV_ti dc_ti pm_ti cd_ti ct_ti oc_mm kV_mm dc_mm pm_mm cd_mm ct_mm oc_ap kV_ap dc_ap pm_ap cd_ap ct_ap oc_dy kV_dy dc_dy pm_dy cd_dy ct_dy oc_wn kV_wn dc_wn pm_wn cd_wn ct_wn oc_pi kV_pi dc_pi pm_pi cd_pi ct_pi oc_bi kV_bi dc_bi pm_bi cd_bi ct_bi oc_ch kV_ch dc_ch pm_ch cd_ch ct_ch oc_on kV_on dc_on pm_on cd_on ct_on oc_tn kV_tn dc_tn pm_tn cd_tn ct_tn oc_pa kV_pa dc_pa pm_pa cd_pa ct_pa oc_bo kV_bo dc_bo pm_bo cd_bo ct_bo oc_d1 kV_d1 dc_d1 pm_d1 cd_d1 ct_d1 oc_d2 kV_d2 dc_d2 pm_d2 cd_d2 ct_d2 oc_d3 kV_d3 dc_d3 pm_d3 cd_d3 ct_d3 oc_d4 kV_d4 dc_d4 pm_d4 cd_d4 ct_d4 oc_d5 kV_d5 dc_d5 pm_d5 cd_d5 ct_d5 oc_an kV_an dc_an pm_an cd_an ct_an : Value}
    {u_ct u_st u_wn u_wr x0 y0 z0 x1 y1 z1 x2 y2 z2 x3 y3 z3 x4 y4 z4 x5 y5 z5 : Tok} {nH n0 n1 n2 n3 n4 n5 : Nat}
    (a_CT : PySem.W.nsIn K mainGlobals "Tournament" = some (some (.ref CT)))
    (pg_CT : PySem.W.plainGet K CT Str.empty = true)
    (hd_CT : PySem.W.hasDictIn K CT = true)
    (po_CT : PySem.W.plainOver K CT = true)
    (sa_CT : PySem.W.findIn K (.ref CT) "__setattr__" = some (some (.builtin "object.__setattr__")))
    (mk_CT : PySem.W.makesIn K CT = true)
    (kc_CT : PySem.W.keepIn K (.ref CT) = true)
    (nR_CT : PySem.W.findIn K (.ref CT) "rank" = some none)
    (nW_CT : PySem.W.findIn K (.ref CT) "wins" = some none)
    (nB_CT : PySem.W.findIn K (.ref CT) "wrestlers" = some none)
    (nM_CT : PySem.W.findIn K (.ref CT) "met" = some none)
    (a_CP : PySem.W.nsIn K mainGlobals "Prospect" = some (some (.ref CP)))
    (pg_CP : PySem.W.plainGet K CP Str.empty = true)
    (hd_CP : PySem.W.hasDictIn K CP = true)
    (po_CP : PySem.W.plainOver K CP = true)
    (sa_CP : PySem.W.findIn K (.ref CP) "__setattr__" = some (some (.builtin "object.__setattr__")))
    (mk_CP : PySem.W.makesIn K CP = true)
    (kc_CP : PySem.W.keepIn K (.ref CP) = true)
    (nD_CP : PySem.W.findIn K (.ref CP) "day" = some none)
    (nB_CP : PySem.W.findIn K (.ref CP) "bouts" = some none)
    (nO_CP : PySem.W.findIn K (.ref CP) "off" = some none)
    (nU_CP : PySem.W.findIn K (.ref CP) "outcomes" = some none)
    (nP_CP : PySem.W.findIn K (.ref CP) "play_offs" = some none)
    (nA_CP : PySem.W.findIn K (.ref CP) "able" = some none)
    (a_ti : PySem.W.findIn K (.ref CT) "__init__" = some (some (.ref f_ti)))
    (i_ti : PySem.W.isFn K (.ref f_ti) = true)
    (l_ti : K.lookup f_ti = some ⟨oc_ti, od_ti, .func (PySem.W.fnOf "__init__" "Tournament.__init__" (defArgs sTInit) (defBody sTInit) (defScope sTInit) .none kV_ti dc_ti pm_ti an_ti cd_ti ct_ti), sl_ti⟩)
    (c_ti : PySem.W.codeIn K cd_ti "Tournament.__init__" = true)
    (k_ti : PySem.W.keepIn K (.ref f_ti) = true)
    (a_mm : PySem.W.findIn K (.ref CT) "may_meet" = some (some (.ref f_mm)))
    (i_mm : PySem.W.isFn K (.ref f_mm) = true)
    (l_mm : K.lookup f_mm = some ⟨oc_mm, od_mm, .func (PySem.W.fnOf "may_meet" "Tournament.may_meet" (defArgs sMay) (defBody sMay) (defScope sMay) .none kV_mm dc_mm pm_mm an_mm cd_mm ct_mm), sl_mm⟩)
    (c_mm : PySem.W.codeIn K cd_mm "Tournament.may_meet" = true)
    (k_mm : PySem.W.keepIn K (.ref f_mm) = true)
    (a_ap : PySem.W.findIn K (.ref CT) "apart" = some (some (.ref f_ap)))
    (i_ap : PySem.W.isFn K (.ref f_ap) = true)
    (l_ap : K.lookup f_ap = some ⟨oc_ap, od_ap, .func (PySem.W.fnOf "apart" "Tournament.apart" (defArgs sApart) (defBody sApart) (defScope sApart) .none kV_ap dc_ap pm_ap an_ap cd_ap ct_ap), sl_ap⟩)
    (c_ap : PySem.W.codeIn K cd_ap "Tournament.apart" = true)
    (k_ap : PySem.W.keepIn K (.ref f_ap) = true)
    (a_dy : PySem.W.findIn K (.ref CT) "days" = some (some (.ref f_dy)))
    (i_dy : PySem.W.isFn K (.ref f_dy) = true)
    (l_dy : K.lookup f_dy = some ⟨oc_dy, od_dy, .func (PySem.W.fnOf "days" "Tournament.days" (defArgs sDays) (defBody sDays) (defScope sDays) .none kV_dy dc_dy pm_dy an_dy cd_dy ct_dy), sl_dy⟩)
    (c_dy : PySem.W.codeIn K cd_dy "Tournament.days" = true)
    (k_dy : PySem.W.keepIn K (.ref f_dy) = true)
    (a_wn : PySem.W.findIn K (.ref CT) "with_next" = some (some (.ref f_wn)))
    (i_wn : PySem.W.isFn K (.ref f_wn) = true)
    (l_wn : K.lookup f_wn = some ⟨oc_wn, od_wn, .func (PySem.W.fnOf "with_next" "Tournament.with_next" (defArgs sNext) (defBody sNext) (defScope sNext) .none kV_wn dc_wn pm_wn an_wn cd_wn ct_wn), sl_wn⟩)
    (c_wn : PySem.W.codeIn K cd_wn "Tournament.with_next" = true)
    (k_wn : PySem.W.keepIn K (.ref f_wn) = true)
    (a_pi : PySem.W.findIn K (.ref CP) "__init__" = some (some (.ref f_pi)))
    (i_pi : PySem.W.isFn K (.ref f_pi) = true)
    (l_pi : K.lookup f_pi = some ⟨oc_pi, od_pi, .func (PySem.W.fnOf "__init__" "Prospect.__init__" (defArgs sPInit) (defBody sPInit) (defScope sPInit) .none kV_pi dc_pi pm_pi an_pi cd_pi ct_pi), sl_pi⟩)
    (c_pi : PySem.W.codeIn K cd_pi "Prospect.__init__" = true)
    (k_pi : PySem.W.keepIn K (.ref f_pi) = true)
    (a_bi : PySem.W.findIn K (.ref CP) "best_in" = some (some (.ref f_bi)))
    (i_bi : PySem.W.isFn K (.ref f_bi) = true)
    (l_bi : K.lookup f_bi = some ⟨oc_bi, od_bi, .func (PySem.W.fnOf "best_in" "Prospect.best_in" (defArgs sBest) (defBody sBest) (defScope sBest) .none kV_bi dc_bi pm_bi an_bi cd_bi ct_bi), sl_bi⟩)
    (c_bi : PySem.W.codeIn K cd_bi "Prospect.best_in" = true)
    (k_bi : PySem.W.keepIn K (.ref f_bi) = true)
    (a_ch : PySem.W.findIn K (.ref CP) "chance" = some (some (.ref f_ch)))
    (i_ch : PySem.W.isFn K (.ref f_ch) = true)
    (l_ch : K.lookup f_ch = some ⟨oc_ch, od_ch, .func (PySem.W.fnOf "chance" "Prospect.chance" (defArgs sChance) (defBody sChance) (defScope sChance) .none kV_ch dc_ch pm_ch an_ch cd_ch ct_ch), sl_ch⟩)
    (c_ch : PySem.W.codeIn K cd_ch "Prospect.chance" = true)
    (k_ch : PySem.W.keepIn K (.ref f_ch) = true)
    (a_on : PySem.W.findIn K (.ref CP) "openness" = some (some (.ref f_on)))
    (i_on : PySem.W.isFn K (.ref f_on) = true)
    (l_on : K.lookup f_on = some ⟨oc_on, od_on, .func (PySem.W.fnOf "openness" "Prospect.openness" (defArgs sOpenness) (defBody sOpenness) (defScope sOpenness) .none kV_on dc_on pm_on an_on cd_on ct_on), sl_on⟩)
    (c_on : PySem.W.codeIn K cd_on "Prospect.openness" = true)
    (k_on : PySem.W.keepIn K (.ref f_on) = true)
    (a_tn : PySem.W.findIn K (.ref CP) "tension" = some (some (.ref f_tn)))
    (i_tn : PySem.W.isFn K (.ref f_tn) = true)
    (l_tn : K.lookup f_tn = some ⟨oc_tn, od_tn, .func (PySem.W.fnOf "tension" "Prospect.tension" (defArgs sTension) (defBody sTension) (defScope sTension) .none kV_tn dc_tn pm_tn an_tn cd_tn ct_tn), sl_tn⟩)
    (c_tn : PySem.W.codeIn K cd_tn "Prospect.tension" = true)
    (k_tn : PySem.W.keepIn K (.ref f_tn) = true)
    (a_pa : PySem.W.nsIn K mainGlobals "paired" = some (some (.ref f_pa)))
    (l_pa : K.lookup f_pa = some ⟨oc_pa, od_pa, .func (PySem.W.fnOf "paired" "paired" (defArgs sPaired) (defBody sPaired) (defScope sPaired) .none kV_pa dc_pa pm_pa an_pa cd_pa ct_pa), sl_pa⟩)
    (c_pa : PySem.W.codeIn K cd_pa "paired" = true)
    (k_pa : PySem.W.keepIn K (.ref f_pa) = true)
    (a_bo : PySem.W.nsIn K mainGlobals "bouts_of" = some (some (.ref f_bo)))
    (l_bo : K.lookup f_bo = some ⟨oc_bo, od_bo, .func (PySem.W.fnOf "bouts_of" "bouts_of" (defArgs sBouts) (defBody sBouts) (defScope sBouts) .none kV_bo dc_bo pm_bo an_bo cd_bo ct_bo), sl_bo⟩)
    (c_bo : PySem.W.codeIn K cd_bo "bouts_of" = true)
    (k_bo : PySem.W.keepIn K (.ref f_bo) = true)
    (a_d1 : PySem.W.nsIn K mainGlobals "do_wrestler" = some (some (.ref f_d1)))
    (l_d1 : K.lookup f_d1 = some ⟨oc_d1, od_d1, .func (PySem.W.fnOf "do_wrestler" "do_wrestler" (defArgs sWrestler) (defBody sWrestler) (defScope sWrestler) .none kV_d1 dc_d1 pm_d1 an_d1 cd_d1 ct_d1), sl_d1⟩)
    (c_d1 : PySem.W.codeIn K cd_d1 "do_wrestler" = true)
    (k_d1 : PySem.W.keepIn K (.ref f_d1) = true)
    (a_d2 : PySem.W.nsIn K mainGlobals "do_met" = some (some (.ref f_d2)))
    (l_d2 : K.lookup f_d2 = some ⟨oc_d2, od_d2, .func (PySem.W.fnOf "do_met" "do_met" (defArgs sMet) (defBody sMet) (defScope sMet) .none kV_d2 dc_d2 pm_d2 an_d2 cd_d2 ct_d2), sl_d2⟩)
    (c_d2 : PySem.W.codeIn K cd_d2 "do_met" = true)
    (k_d2 : PySem.W.keepIn K (.ref f_d2) = true)
    (a_d3 : PySem.W.nsIn K mainGlobals "do_check" = some (some (.ref f_d3)))
    (l_d3 : K.lookup f_d3 = some ⟨oc_d3, od_d3, .func (PySem.W.fnOf "do_check" "do_check" (defArgs sCheck) (defBody sCheck) (defScope sCheck) .none kV_d3 dc_d3 pm_d3 an_d3 cd_d3 ct_d3), sl_d3⟩)
    (c_d3 : PySem.W.codeIn K cd_d3 "do_check" = true)
    (k_d3 : PySem.W.keepIn K (.ref f_d3) = true)
    (a_d4 : PySem.W.nsIn K mainGlobals "do_open" = some (some (.ref f_d4)))
    (l_d4 : K.lookup f_d4 = some ⟨oc_d4, od_d4, .func (PySem.W.fnOf "do_open" "do_open" (defArgs sOpen) (defBody sOpen) (defScope sOpen) .none kV_d4 dc_d4 pm_d4 an_d4 cd_d4 ct_d4), sl_d4⟩)
    (c_d4 : PySem.W.codeIn K cd_d4 "do_open" = true)
    (k_d4 : PySem.W.keepIn K (.ref f_d4) = true)
    (a_d5 : PySem.W.nsIn K mainGlobals "do_tense" = some (some (.ref f_d5)))
    (l_d5 : K.lookup f_d5 = some ⟨oc_d5, od_d5, .func (PySem.W.fnOf "do_tense" "do_tense" (defArgs sTense) (defBody sTense) (defScope sTense) .none kV_d5 dc_d5 pm_d5 an_d5 cd_d5 ct_d5), sl_d5⟩)
    (c_d5 : PySem.W.codeIn K cd_d5 "do_tense" = true)
    (k_d5 : PySem.W.keepIn K (.ref f_d5) = true)
    (a_an : PySem.W.nsIn K mainGlobals "answers" = some (some (.ref f_an)))
    (l_an : K.lookup f_an = some ⟨oc_an, od_an, .func (PySem.W.fnOf "answers" "answers" (defArgs sAns) (defBody sAns) (defScope sAns) .none kV_an dc_an pm_an an_an cd_an ct_an), sl_an⟩)
    (c_an : PySem.W.codeIn K cd_an "answers" = true)
    (k_an : PySem.W.keepIn K (.ref f_an) = true)
    (z_len : PySem.W.nsIn K mainGlobals "len" = some none)
    (z_range : PySem.W.nsIn K mainGlobals "range" = some none)
    (z_list : PySem.W.nsIn K mainGlobals "list" = some none)
    (z_enumerate : PySem.W.nsIn K mainGlobals "enumerate" = some none)
    (z_abs : PySem.W.nsIn K mainGlobals "abs" = some none)
    (z_sum : PySem.W.nsIn K mainGlobals "sum" = some none)
    (z_sorted : PySem.W.nsIn K mainGlobals "sorted" = some none)
    (z_max : PySem.W.nsIn K mainGlobals "max" = some none)
    (z_all : PySem.W.nsIn K mainGlobals "all" = some none)
    (q_ct : PySem.W.nsIn K mainGlobals "MOST_COUNT" = some (some (.int 100 u_ct)))
    (q_st : PySem.W.nsIn K mainGlobals "MOST_STABLE" = some (some (.int 9 u_st)))
    (q_wn : PySem.W.nsIn K mainGlobals "MOST_WINS" = some (some (.int 15 u_wn)))
    (q_wr : PySem.W.nsIn K mainGlobals "MOST_WRESTLERS" = some (some (.int 6 u_wr)))
    (a_H : PySem.W.nsIn K mainGlobals "HEADS" = some (some (.ref aH)))
    (l_H : K.lookup aH = some ⟨.type "dict", none, .dict #[⟨0, .int 0 x0, .ref p0⟩, ⟨1, .int 1 x1, .ref p1⟩, ⟨2, .int 2 x2, .ref p2⟩, ⟨3, .int 3 x3, .ref p3⟩, ⟨4, .int 4 x4, .ref p4⟩, ⟨5, .int 5 x5, .ref p5⟩] nH, #[]⟩)
    (l_p0 : K.lookup p0 = some ⟨.type "tuple", dd0, .seq #[.int 2 y0, .int 0 z0] n0, sp0⟩)
    (l_p1 : K.lookup p1 = some ⟨.type "tuple", dd1, .seq #[.int 2 y1, .int 0 z1] n1, sp1⟩)
    (l_p2 : K.lookup p2 = some ⟨.type "tuple", dd2, .seq #[.int 2 y2, .int 0 z2] n2, sp2⟩)
    (l_p3 : K.lookup p3 = some ⟨.type "tuple", dd3, .seq #[.int 0 y3, .int 1 z3] n3, sp3⟩)
    (l_p4 : K.lookup p4 = some ⟨.type "tuple", dd4, .seq #[.int 0 y4, .int 0 z4] n4, sp4⟩)
    (l_p5 : K.lookup p5 = some ⟨.type "tuple", dd5, .seq #[.int 0 y5, .int 0 z5] n5, sp5⟩) :
    ∃ fd : FuncData, (∀ (s : Shared) (us : List Value), us.length = (["calls"] : List Str).length → BindsTo s fd ⟨us, []⟩ ((["calls"] : List Str).zip us)) ∧ ∀ base : Heap, K.In base → base.Ns mainGlobals mg → FnOk P w K mg base CX0 5 fa fd ["calls"] (spAns K) := by
  have e := hfa.symm.trans (PySem.W.mg_of X G a_an)
  cases e
  have gl : Glo mg := ⟨PySem.W.mg_none_of X G z_len, PySem.W.mg_none_of X G z_range, PySem.W.mg_none_of X G z_list, PySem.W.mg_none_of X G z_enumerate, PySem.W.mg_none_of X G z_abs, PySem.W.mg_none_of X G z_sum, PySem.W.mg_none_of X G z_sorted, PySem.W.mg_none_of X G z_max, PySem.W.mg_none_of X G z_all⟩
  have cn : Cns mg := ⟨⟨_, PySem.W.mg_of X G q_ct⟩, ⟨_, PySem.W.mg_of X G q_st⟩, ⟨_, PySem.W.mg_of X G q_wn⟩, ⟨_, PySem.W.mg_of X G q_wr⟩⟩
  have TT : TxT K CT := ⟨⟨pg_CT, hd_CT, po_CT, sa_CT⟩, nR_CT, nW_CT, nB_CT, nM_CT⟩
  have TP : TxP K CP := ⟨⟨pg_CP, hd_CP, po_CP, sa_CP⟩, nD_CP, nB_CP, nO_CP, nU_CP, nP_CP, nA_CP⟩
  have HK : HeadsK K aH := ⟨⟨_, _, _, _, _, _, _, _, _, _, _, _, _, l_H, two_mk l_p0, two_mk l_p1, two_mk l_p2, two_mk l_p3, two_mk l_p4, two_mk l_p5⟩⟩
  have F_ti := fun_mk (st := sTInit) l_ti c_ti k_ti
  have b_ti := F_ti.binds (ps := ["self", "rank", "wins"]) fun _ _ _ _ _ _ us hl => match us, hl with | [_, _, _], _ => rfl
  have F_mm := fun_mk (st := sMay) l_mm c_mm k_mm
  have b_mm := F_mm.binds (ps := ["self", "i", "j"]) fun _ _ _ _ _ _ us hl => match us, hl with | [_, _, _], _ => rfl
  have F_ap := fun_mk (st := sApart) l_ap c_ap k_ap
  have b_ap := F_ap.binds (ps := ["self", "i", "j"]) fun _ _ _ _ _ _ us hl => match us, hl with | [_, _, _], _ => rfl
  have F_dy := fun_mk (st := sDays) l_dy c_dy k_dy
  have b_dy := F_dy.binds (ps := ["self"]) fun _ _ _ _ _ _ us hl => match us, hl with | [_], _ => rfl
  have F_wn := fun_mk (st := sNext) l_wn c_wn k_wn
  have b_wn := F_wn.binds (ps := ["self", "day", "i"]) fun _ _ _ _ _ _ us hl => match us, hl with | [_, _, _], _ => rfl
  have F_pi := fun_mk (st := sPInit) l_pi c_pi k_pi
  have b_pi := F_pi.binds (ps := ["self", "t", "day"]) fun _ _ _ _ _ _ us hl => match us, hl with | [_, _, _], _ => rfl
  have F_bi := fun_mk (st := sBest) l_bi c_bi k_bi
  have b_bi := F_bi.binds (ps := ["self", "t", "k"]) fun _ _ _ _ _ _ us hl => match us, hl with | [_, _, _], _ => rfl
  have F_ch := fun_mk (st := sChance) l_ch c_ch k_ch
  have b_ch := F_ch.binds (ps := ["self"]) fun _ _ _ _ _ _ us hl => match us, hl with | [_], _ => rfl
  have F_on := fun_mk (st := sOpenness) l_on c_on k_on
  have b_on := F_on.binds (ps := ["self"]) fun _ _ _ _ _ _ us hl => match us, hl with | [_], _ => rfl
  have F_tn := fun_mk (st := sTension) l_tn c_tn k_tn
  have b_tn := F_tn.binds (ps := ["self"]) fun _ _ _ _ _ _ us hl => match us, hl with | [_], _ => rfl
  have F_pa := fun_mk (st := sPaired) l_pa c_pa k_pa
  have b_pa := F_pa.binds (ps := ["day", "i", "j"]) fun _ _ _ _ _ _ us hl => match us, hl with | [_, _, _], _ => rfl
  have F_bo := fun_mk (st := sBouts) l_bo c_bo k_bo
  have b_bo := F_bo.binds (ps := ["day"]) fun _ _ _ _ _ _ us hl => match us, hl with | [_], _ => rfl
  have F_d1 := fun_mk (st := sWrestler) l_d1 c_d1 k_d1
  have b_d1 := F_d1.binds (ps := ["t", "n", "day"]) fun _ _ _ _ _ _ us hl => match us, hl with | [_, _, _], _ => rfl
  have F_d2 := fun_mk (st := sMet) l_d2 c_d2 k_d2
  have b_d2 := F_d2.binds (ps := ["t", "n", "day"]) fun _ _ _ _ _ _ us hl => match us, hl with | [_, _, _], _ => rfl
  have F_d3 := fun_mk (st := sCheck) l_d3 c_d3 k_d3
  have b_d3 := F_d3.binds (ps := ["t", "n", "day"]) fun _ _ _ _ _ _ us hl => match us, hl with | [_, _, _], _ => rfl
  have F_d4 := fun_mk (st := sOpen) l_d4 c_d4 k_d4
  have b_d4 := F_d4.binds (ps := ["t", "n", "day"]) fun _ _ _ _ _ _ us hl => match us, hl with | [_, _, _], _ => rfl
  have F_d5 := fun_mk (st := sTense) l_d5 c_d5 k_d5
  have b_d5 := F_d5.binds (ps := ["t", "n", "day"]) fun _ _ _ _ _ _ us hl => match us, hl with | [_, _, _], _ => rfl
  have F_an := fun_mk (st := sAns) l_an c_an k_an
  have m_mm : Meth K CT "may_meet" f_mm := ⟨a_mm, i_mm, k_mm⟩
  have m_ap : Meth K CT "apart" f_ap := ⟨a_ap, i_ap, k_ap⟩
  have m_dy : Meth K CT "days" f_dy := ⟨a_dy, i_dy, k_dy⟩
  have m_wn : Meth K CT "with_next" f_wn := ⟨a_wn, i_wn, k_wn⟩
  have m_bi : Meth K CP "best_in" f_bi := ⟨a_bi, i_bi, k_bi⟩
  have m_ch : Meth K CP "chance" f_ch := ⟨a_ch, i_ch, k_ch⟩
  have m_on : Meth K CP "openness" f_on := ⟨a_on, i_on, k_on⟩
  have m_tn : Meth K CP "tension" f_tn := ⟨a_tn, i_tn, k_tn⟩
  have MT : Mk K CT f_ti := ⟨mk_CT, a_ti, i_ti, kc_CT⟩
  have MP : Mk K CP f_pi := ⟨mk_CP, a_pi, i_pi, kc_CP⟩
  refine ⟨PySem.W.fnOf "answers" "answers" (defArgs sAns) (defBody sAns) (defScope sAns) .none kV_an dc_an pm_an an_an cd_an ct_an, fun s us hu => match us, hu with | [_], _ => .of_eq rfl, fun base _ _ => ?_⟩
  have G_mm := okMay (P := P) (w := w) (mg := mg) (base := base) F_mm TT
  have G_ap := okApart (P := P) (w := w) (mg := mg) (base := base) F_ap TT gl
  have G_wn := okNext (P := P) (w := w) (mg := mg) (base := base) F_wn TT gl F_pa b_pa (PySem.W.mg_of X G a_pa) F_mm b_mm m_mm
  have G_dy := okDays (P := P) (w := w) (mg := mg) (base := base) F_dy TT gl G_wn b_wn m_wn
  have G_bo := okBouts (P := P) (w := w) (mg := mg) (base := base) F_bo gl
  have G_bi := okBest (P := P) (w := w) (mg := mg) (base := base) F_bi TP TT gl
  have G_pi := okPInit (P := P) (w := w) (mg := mg) (base := base) F_pi TP TT gl G_bo k_bo b_bo (PySem.W.mg_of X G a_bo) G_ap b_ap m_ap G_bi b_bi m_bi
  have G_ch := okChance (P := P) (w := w) (mg := mg) (base := base) F_ch TP
  have G_on := okOpenness (P := P) (w := w) (mg := mg) (base := base) F_on TP gl
  have G_tn := okTension (P := P) (w := w) (mg := mg) (base := base) F_tn TP gl
  have G_ti := okTInit (P := P) (w := w) (mg := mg) (base := base) F_ti TT
  have mP := PySem.W.mg_of X G a_CP
  have G_d1 := okWrestler (P := P) (w := w) (mg := mg) (base := base) F_d1 TT gl cn
  have G_d2 := okMet (P := P) (w := w) (mg := mg) (base := base) F_d2 TT gl G_mm b_mm m_mm
  have G_d3 := okCheck (P := P) (w := w) (mg := mg) (base := base) F_d3 TT TP gl G_mm b_mm m_mm MP G_pi b_pi mP G_ch b_ch m_ch
  have G_d4 := okOpen (P := P) (w := w) (mg := mg) (base := base) F_d4 TT TP gl G_dy b_dy m_dy MP G_pi b_pi mP G_on b_on m_on
  have G_d5 := okTense (P := P) (w := w) (mg := mg) (base := base) F_d5 TT TP gl G_dy b_dy m_dy MP G_pi b_pi mP G_tn b_tn m_tn G_ch b_ch m_ch
  exact okAns (P := P) (w := w) (mg := mg) (base := base) (fs := fun k => match k with | 1 => f_d1 | 2 => f_d2 | 3 => f_d3 | 4 => f_d4 | _ => f_d5) F_an gl cn HK (PySem.W.mg_of X G a_H) MT G_ti b_ti (PySem.W.mg_of X G a_CT)
    (PySem.W.mg_of X G a_d1) (PySem.W.mg_of X G a_d2) (PySem.W.mg_of X G a_d3) (PySem.W.mg_of X G a_d4) (PySem.W.mg_of X G a_d5) fun k h1 h5 => match k, h1, h5 with
      | 1, _, _ => ⟨⟨_, _, G_d1.mono (by decide), k_d1, b_d1⟩⟩
      | 2, _, _ => ⟨⟨_, _, G_d2.mono (by decide), k_d2, b_d2⟩⟩
      | 3, _, _ => ⟨⟨_, _, G_d3.mono (by decide), k_d3, b_d3⟩⟩
      | 4, _, _ => ⟨⟨_, _, G_d4.mono (by decide), k_d4, b_d4⟩⟩
      | 5, _, _ => ⟨⟨_, _, G_d5.mono (by decide), k_d5, b_d5⟩⟩
end Dy
open PySem PySem.W PyProof.Rows
set_option maxRecDepth 100000 in
set_option maxHeartbeats 8000000 in
theorem PySem.Challenge.cw_lastday_s01_answers_holds : PySem.Challenge.rw_lastday_s01_answers.Holds := by
  w_on; k_headS; (case hw => exact ⟨[.list [.int 4]], by decide +kernel, by decide +kernel⟩)
  k_fillS
  refine L2.walk_specK (r := PySem.Challenge.rw_lastday_s01_answers) (k := 5) (CX := L2.CX0) (ps := ["calls"]) (sp := Dy.spAns) (by decide +kernel) rfl rfl ⟨rfl, by decide, by decide⟩ (fun w h Y => PySem.W.kIn_of Y) ?F ?S (fun _ _ _ _ z => z)
  case F =>
    intro w mg fa h Y KX G hmg
    refine' Dy.all_mk KX G hmg ?a_CT ?pg_CT ?hd_CT ?po_CT ?sa_CT ?mk_CT ?kc_CT ?nR_CT ?nW_CT ?nB_CT ?nM_CT ?a_CP ?pg_CP ?hd_CP ?po_CP ?sa_CP ?mk_CP ?kc_CP ?nD_CP ?nB_CP ?nO_CP ?nU_CP ?nP_CP ?nA_CP ?a_ti ?i_ti ?l_ti ?c_ti ?k_ti ?a_mm ?i_mm ?l_mm ?c_mm ?k_mm ?a_ap ?i_ap ?l_ap ?c_ap ?k_ap ?a_dy ?i_dy ?l_dy ?c_dy ?k_dy ?a_wn ?i_wn ?l_wn ?c_wn ?k_wn ?a_pi ?i_pi ?l_pi ?c_pi ?k_pi ?a_bi ?i_bi ?l_bi ?c_bi ?k_bi ?a_ch ?i_ch ?l_ch ?c_ch ?k_ch ?a_on ?i_on ?l_on ?c_on ?k_on ?a_tn ?i_tn ?l_tn ?c_tn ?k_tn ?a_pa ?l_pa ?c_pa ?k_pa ?a_bo ?l_bo ?c_bo ?k_bo ?a_d1 ?l_d1 ?c_d1 ?k_d1 ?a_d2 ?l_d2 ?c_d2 ?k_d2 ?a_d3 ?l_d3 ?c_d3 ?k_d3 ?a_d4 ?l_d4 ?c_d4 ?k_d4 ?a_d5 ?l_d5 ?c_d5 ?k_d5 ?a_an ?l_an ?c_an ?k_an ?z_len ?z_range ?z_list ?z_enumerate ?z_abs ?z_sum ?z_sorted ?z_max ?z_all ?q_ct ?q_st ?q_wn ?q_wr ?a_H ?l_H ?l_p0 ?l_p1 ?l_p2 ?l_p3 ?l_p4 ?l_p5
    (case a_CT => k_is)
    (case pg_CT => k_is)
    (case hd_CT => k_is)
    (case po_CT => k_is)
    (case sa_CT => k_is)
    (case mk_CT => k_is)
    (case kc_CT => k_is)
    (case nR_CT => k_is)
    (case nW_CT => k_is)
    (case nB_CT => k_is)
    (case nM_CT => k_is)
    (case a_CP => k_is)
    (case pg_CP => k_is)
    (case hd_CP => k_is)
    (case po_CP => k_is)
    (case sa_CP => k_is)
    (case mk_CP => k_is)
    (case kc_CP => k_is)
    (case nD_CP => k_is)
    (case nB_CP => k_is)
    (case nO_CP => k_is)
    (case nU_CP => k_is)
    (case nP_CP => k_is)
    (case nA_CP => k_is)
    (case a_ti => k_is)
    (case i_ti => k_is)
    (case l_ti => k_is)
    (case c_ti => k_is)
    (case k_ti => k_is)
    (case a_mm => k_is)
    (case i_mm => k_is)
    (case l_mm => k_is)
    (case c_mm => k_is)
    (case k_mm => k_is)
    (case a_ap => k_is)
    (case i_ap => k_is)
    (case l_ap => k_is)
    (case c_ap => k_is)
    (case k_ap => k_is)
    (case a_dy => k_is)
    (case i_dy => k_is)
    (case l_dy => k_is)
    (case c_dy => k_is)
    (case k_dy => k_is)
    (case a_wn => k_is)
    (case i_wn => k_is)
    (case l_wn => k_is)
    (case c_wn => k_is)
    (case k_wn => k_is)
    (case a_pi => k_is)
    (case i_pi => k_is)
    (case l_pi => k_is)
    (case c_pi => k_is)
    (case k_pi => k_is)
    (case a_bi => k_is)
    (case i_bi => k_is)
    (case l_bi => k_is)
    (case c_bi => k_is)
    (case k_bi => k_is)
    (case a_ch => k_is)
    (case i_ch => k_is)
    (case l_ch => k_is)
    (case c_ch => k_is)
    (case k_ch => k_is)
    (case a_on => k_is)
    (case i_on => k_is)
    (case l_on => k_is)
    (case c_on => k_is)
    (case k_on => k_is)
    (case a_tn => k_is)
    (case i_tn => k_is)
    (case l_tn => k_is)
    (case c_tn => k_is)
    (case k_tn => k_is)
    (case a_pa => k_is)
    (case l_pa => k_is)
    (case c_pa => k_is)
    (case k_pa => k_is)
    (case a_bo => k_is)
    (case l_bo => k_is)
    (case c_bo => k_is)
    (case k_bo => k_is)
    (case a_d1 => k_is)
    (case l_d1 => k_is)
    (case c_d1 => k_is)
    (case k_d1 => k_is)
    (case a_d2 => k_is)
    (case l_d2 => k_is)
    (case c_d2 => k_is)
    (case k_d2 => k_is)
    (case a_d3 => k_is)
    (case l_d3 => k_is)
    (case c_d3 => k_is)
    (case k_d3 => k_is)
    (case a_d4 => k_is)
    (case l_d4 => k_is)
    (case c_d4 => k_is)
    (case k_d4 => k_is)
    (case a_d5 => k_is)
    (case l_d5 => k_is)
    (case c_d5 => k_is)
    (case k_d5 => k_is)
    (case a_an => k_is)
    (case l_an => k_is)
    (case c_an => k_is)
    (case k_an => k_is)
    (case z_len => k_is)
    (case z_range => k_is)
    (case z_list => k_is)
    (case z_enumerate => k_is)
    (case z_abs => k_is)
    (case z_sum => k_is)
    (case z_sorted => k_is)
    (case z_max => k_is)
    (case z_all => k_is)
    (case q_ct => k_is)
    (case q_st => k_is)
    (case q_wn => k_is)
    (case q_wr => k_is)
    (case a_H => k_is)
    (case l_H => k_is)
    (case l_p0 => k_is)
    (case l_p1 => k_is)
    (case l_p2 => k_is)
    (case l_p3 => k_is)
    (case l_p4 => k_is)
    (case l_p5 => k_is)
  case S =>
    intro K H xs a hO hwi hask hx
    cases hx with
    | cons h1 h2 =>
      cases h2
      cases h1 with
      | lst hs ha =>
        have e := L2.ints_dw a.1 _ ha
        subst e
        exact ⟨_, a.1, rfl, hs, hask, fun H' p hp => .lst (L2.SqL.of hp) (L2.dw_ints _)⟩
#print axioms PySem.Challenge.cw_lastday_s01_answers_holds
