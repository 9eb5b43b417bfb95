import PyProof.Rows.All
import Wide.All
import OpenK.AllK
import Wide.FinOn
import HandS.CallRecv
import HandS.Conv
import HandS.ExcField
import HandS.ExcInit
import HandS.ForExc
import HandS.ForMost
import HandS.IsInst
import HandS.RaiseMore
import HandS.Small
import HandS.SortInts
import HandS.Star
import HandS.TryMany
import HandS.Walk
import HandS.WordsDict
import KE.DataMinMax
import KE.GoesEnum
import KE.SortData
import PySem.Builtin.Int.W1All
import PySem.Challenge.RW_squarecoins_k21_whole_hurried_games
set_option Elab.async false
set_option linter.all false
set_option maxRecDepth 100000
set_option maxHeartbeats 8000000
/-! Sq0: the plain law. Mirrors of what the defs reckon, over lists of whole numbers; no program in sight. -/
namespace Sq
open PySem
/-! ### the mirrors -/
def lowBit (n : Int) : Int := Builtin.bitAnd n (0 - n)
/-- one turn of the inner loop of nearest -/
def nStep (one : Int) (st : Int × Option (Int × Int)) (other : Int) : Int × Option (Int × Int) :=
  if lowBit (other - one) > st.1 then (lowBit (other - one), some (one, other)) else st
def nRow (sq : List Int) (st : Int × Option (Int × Int)) (i : Nat) : Int × Option (Int × Int) :=
  match sq[i]? with
  | some one => (sq.drop (i + 1)).foldl (nStep one) st
  | none => st
def nearSt (sq : List Int) (k : Nat) : Int × Option (Int × Int) := (List.range k).foldl (nRow sq) (0, none)
def nearF (sq : List Int) : Option (Int × Int) := (nearSt sq sq.length).2
def unpair (left : List Int) (p : Int × Int) : List Int := left.filter fun x => !(x == p.1 || x == p.2)
def matedF : Nat → List Int → List (Int × Int) → Option (List (Int × Int) × List Int)
  | 0, left, found => if 1 < left.length then none else some (found, left)
  | n + 1, left, found => if 1 < left.length then (match nearF left with
      | none => none
      | some p => matedF n (unpair left p) (found ++ [p])) else some (found, left)
def xorP (f : Int) (p : Int × Int) : Int := Builtin.bitXor f (Builtin.bitXor p.1 p.2 - 1)
def nimF (s : List Int) : Option Int := (matedF 13 s []).map fun r => r.2.foldl Builtin.bitXor (r.1.foldl xorP 0)
def isZ (s : List Int) : Bool := nimF s == some 0
/-- the squares below one without a coin -/
def lower (s : List Int) (one : Int) : List Int := ((List.range one.toNat).map fun (k : Nat) => (k : Int)).filter fun to => !s.contains to
def stepsF (s : List Int) : List (Int × Int) := s.flatMap fun one => (lower s one).map fun to => (one, to)
def insI (x : Int) : List Int → List Int
  | [] => [x]
  | y :: l => if x ≤ y then x :: y :: l else y :: insI x l
def isort : List Int → List Int
  | [] => []
  | x :: l => insI x (isort l)
def movedF (s : List Int) (one to : Int) : List Int := isort (s.filter (fun x => !(x == one)) ++ [to])
def mv (s : List Int) (p : Int × Int) : List Int := movedF s p.1 p.2
def minI : List Int → Int
  | [] => 0
  | x :: l => l.foldl (fun a b => if b < a then b else a) x
def maxI : List Int → Int
  | [] => 0
  | x :: l => l.foldl (fun a b => if a < b then b else a) x
/-- one turn of Lasting.moves, f for the later ones -/
def remStep (f : List Int → Int) (s : List Int) : Int :=
  let rest := (stepsF s).map (mv s)
  let lost := (rest.filter isZ).map f
  let every := if 0 < lost.length then lost else rest.map f
  if every.length = 0 then 0 else 1 + (if 0 < lost.length then minI every else maxI every)
def remF : Nat → List Int → Int
  | 0, _ => 0
  | n + 1, s => remStep (remF n) s
/-- one turn of _law_lasts -/
def lawStep (f : List Int → Bool × Int) (s : List Int) : Bool × Int :=
  let told := (stepsF s).map fun p => f (mv s p)
  let lost := (told.filter (·.1)).map (·.2)
  if told.length = 0 then (true, 0) else if lost.length ≠ 0 then (false, 1 + minI lost) else (true, 1 + maxI (told.map (·.2)))
def mu (s : List Int) : Nat := (s.map Int.toNat).sum
def ascB : List Int → Bool
  | [] => true
  | [_] => true
  | x :: y :: l => decide (x < y) && ascB (y :: l)
def okB (s : List Int) : Bool := decide (s.length ≤ 4) && (ascB s && s.all fun x => decide (0 ≤ x) && decide (x ≤ 11))
def rem (s : List Int) : Int := remF (mu s + 1) s
/-! ### all standings of up to four coins on twelve squares -/
def subs : Nat → List Int → List (List Int)
  | 0, _ => [[]]
  | _ + 1, [] => [[]]
  | n + 1, x :: l => subs (n + 1) l ++ (subs n l).map (x :: ·)
def board : List Int := [0, 1, 2, 3, 4, 5, 6, 7, 8, 9, 10, 11]
theorem nil_subs : ∀ (n : Nat) (l : List Int), [] ∈ subs n l
  | 0, _ => by simp [subs]
  | _ + 1, [] => by simp [subs]
  | n + 1, _ :: l => by
    have h := nil_subs (n + 1) l
    simp [subs, h]
theorem mem_subs {s l : List Int} (h : s.Sublist l) : ∀ n, s.length ≤ n → s ∈ subs n l := by
  induction h with
  | slnil => intro n _; exact nil_subs n _
  | cons a h ih =>
    intro n hn
    cases n with
    | zero =>
      have e := List.eq_nil_of_length_eq_zero (Nat.le_zero.mp hn)
      subst e
      exact nil_subs 0 _
    | succ n =>
      show _ ∈ subs (n + 1) _ ++ _
      exact List.mem_append_left _ (ih (n + 1) hn)
  | cons_cons a h ih =>
    intro n hn
    cases n with
    | zero => simp at hn
    | succ n =>
      show _ ∈ subs (n + 1) _ ++ _
      exact List.mem_append_right _ (List.mem_map.mpr ⟨_, ih n (by simpa using hn), rfl⟩)
theorem asc_pw : ∀ {s : List Int}, ascB s = true → s.Pairwise (· < ·)
  | [], _ => .nil
  | [_], _ => by simp
  | x :: y :: l, h => by
    simp only [ascB, Bool.and_eq_true, decide_eq_true_eq] at h
    have ih := asc_pw h.2
    refine List.Pairwise.cons (fun z hz => ?_) ih
    rcases List.mem_cons.mp hz with e | hz
    · rw [e]; exact h.1
    · exact Int.lt_trans h.1 ((List.pairwise_cons.mp ih).1 z hz)
theorem pw_asc : ∀ {s : List Int}, s.Pairwise (· < ·) → ascB s = true
  | [], _ => rfl
  | [_], _ => rfl
  | x :: y :: l, h => by
    obtain ⟨a, b⟩ := List.pairwise_cons.mp h
    simp only [ascB, Bool.and_eq_true, decide_eq_true_eq]
    exact ⟨a y List.mem_cons_self, pw_asc b⟩
theorem sub_of {s : List Int} : ∀ {t : List Int}, s.Pairwise (· < ·) → t.Pairwise (· < ·) → (∀ x ∈ s, x ∈ t) → s.Sublist t := by
  intro t
  induction t generalizing s with
  | nil =>
    intro _ _ h
    cases s with
    | nil => exact .slnil
    | cons x l => exact absurd (h x List.mem_cons_self) (by simp)
  | cons y t ih =>
    intro hs ht h
    obtain ⟨t1, t2⟩ := List.pairwise_cons.mp ht
    cases s with
    | nil => exact List.nil_sublist _
    | cons x l =>
      obtain ⟨s1, s2⟩ := List.pairwise_cons.mp hs
      rcases List.mem_cons.mp (h x List.mem_cons_self) with e | hx
      · subst e
        refine .cons_cons x (ih s2 t2 fun z hz => ?_)
        rcases List.mem_cons.mp (h z (List.mem_cons_of_mem _ hz)) with e | hz'
        · have := s1 z hz
          omega
        · exact hz'
      · refine .cons y (ih hs t2 fun z hz => ?_)
        rcases List.mem_cons.mp (h z hz) with e | hz'
        · have h1 := t1 x hx
          rcases List.mem_cons.mp hz with e2 | hz2
          · omega
          · have := s1 z hz2
            omega
        · exact hz'
theorem ok_mem {s : List Int} (h : okB s = true) : s ∈ subs 4 board := by
  simp only [okB, Bool.and_eq_true, decide_eq_true_eq, List.all_eq_true] at h
  obtain ⟨h1, h2, h3⟩ := h
  refine mem_subs (sub_of (asc_pw h2) (by decide) fun x hx => ?_) 4 h1
  have a := h3 x hx
  have b : x = 0 ∨ x = 1 ∨ x = 2 ∨ x = 3 ∨ x = 4 ∨ x = 5 ∨ x = 6 ∨ x = 7 ∨ x = 8 ∨ x = 9 ∨ x = 10 ∨ x = 11 := by omega
  simp only [board, List.mem_cons]
  omega
/-- the finite part of the law: who has to move loses by the worth just if no move leads to a lost one -/
def chk (s : List Int) : Bool := (nimF s).isSome && ((isZ s == !(stepsF s).any fun p => isZ (mv s p)) && (stepsF s).all fun p => okB (mv s p) && decide (mu (mv s p) < mu s))
set_option maxHeartbeats 0 in
theorem chk_all : (subs 4 board).all chk = true := by decide +kernel
end Sq
/-! Sq1: the plain law, by induction on the sum of the squares. -/
namespace Sq
open PySem
structure Good (s : List Int) : Prop where
  nim : ∃ n, nimF s = some n
  zero : isZ s = !(stepsF s).any fun p => isZ (mv s p)
  later : ∀ p ∈ stepsF s, okB (mv s p) = true ∧ mu (mv s p) < mu s
theorem good {s : List Int} (h : okB s = true) : Good s := by
  have q := List.all_eq_true.mp chk_all s (ok_mem h)
  simp only [chk, Bool.and_eq_true, beq_iff_eq, List.all_eq_true, decide_eq_true_eq] at q
  obtain ⟨a, b, c⟩ := q
  obtain ⟨n, e⟩ := Option.isSome_iff_exists.mp a
  exact ⟨⟨n, e⟩, b, fun p hp => c p hp⟩
theorem step_congr {f g : List Int → Int} {s : List Int} (h : ∀ p ∈ stepsF s, f (mv s p) = g (mv s p)) : remStep f s = remStep g s := by
  have e1 : ((stepsF s).map (mv s)).map f = ((stepsF s).map (mv s)).map g := by
    rw [List.map_map, List.map_map]
    exact List.map_congr_left fun p hp => h p hp
  have e2 : (((stepsF s).map (mv s)).filter isZ).map f = (((stepsF s).map (mv s)).filter isZ).map g := by
    refine List.map_congr_left fun l hl => ?_
    obtain ⟨hm, _⟩ := List.mem_filter.mp hl
    obtain ⟨p, hp, e⟩ := List.mem_map.mp hm
    rw [← e]
    exact h p hp
  unfold remStep
  dsimp only
  rw [e1, e2]
theorem remF_eq : ∀ (k : Nat) {s : List Int}, okB s = true → mu s < k → remF k s = rem s
  | 0, s, _, h => absurd h (Nat.not_lt_zero _)
  | k + 1, s, ok, h => by
    have G := good ok
    show remStep (remF k) s = remStep (remF (mu s)) s
    refine step_congr fun p hp => ?_
    obtain ⟨o, l⟩ := G.later p hp
    have e1 := remF_eq k o (by omega)
    rcases Nat.lt_or_ge (mu s) (k + 1) with hlt | hge
    · by_cases hk : mu s ≤ k
      · by_cases hk2 : mu s = k
        · rw [hk2]
        · rw [e1, remF_eq (mu s) o (by omega)]
      · omega
    · omega
theorem rem_eq {s : List Int} (ok : okB s = true) : rem s = remStep rem s :=
  step_congr fun p hp => let ⟨o, l⟩ := (good ok).later p hp; remF_eq _ o l
/-! ### least and greatest -/
theorem foldl_min : ∀ (l : List Int) (x : Int), (l.foldl (fun a b => if b < a then b else a) x ∈ x :: l) ∧ ∀ y ∈ x :: l, l.foldl (fun a b => if b < a then b else a) x ≤ y
  | [], x => by simp
  | z :: l, x => by
    obtain ⟨h1, h2⟩ := foldl_min l (if z < x then z else x)
    simp only [List.foldl_cons]
    have b0 := h2 _ List.mem_cons_self
    have hx : (if z < x then z else x) ≤ x ∧ (if z < x then z else x) ≤ z := by split <;> omega
    refine ⟨?_, fun y hy => ?_⟩
    · rcases List.mem_cons.mp h1 with e | h1
      · rw [e]
        split
        · exact List.mem_cons_of_mem _ List.mem_cons_self
        · exact List.mem_cons_self
      · exact List.mem_cons_of_mem _ (List.mem_cons_of_mem _ h1)
    · rcases List.mem_cons.mp hy with e | hy
      · rw [e]; exact Int.le_trans b0 hx.1
      · rcases List.mem_cons.mp hy with e | hy
        · rw [e]; exact Int.le_trans b0 hx.2
        · exact h2 y (List.mem_cons_of_mem _ hy)
theorem foldl_max : ∀ (l : List Int) (x : Int), (l.foldl (fun a b => if a < b then b else a) x ∈ x :: l) ∧ ∀ y ∈ x :: l, y ≤ l.foldl (fun a b => if a < b then b else a) x
  | [], x => by simp
  | z :: l, x => by
    obtain ⟨h1, h2⟩ := foldl_max l (if x < z then z else x)
    simp only [List.foldl_cons]
    have b0 := h2 _ List.mem_cons_self
    have hx : x ≤ (if x < z then z else x) ∧ z ≤ (if x < z then z else x) := by split <;> omega
    refine ⟨?_, fun y hy => ?_⟩
    · rcases List.mem_cons.mp h1 with e | h1
      · rw [e]
        split
        · exact List.mem_cons_of_mem _ List.mem_cons_self
        · exact List.mem_cons_self
      · exact List.mem_cons_of_mem _ (List.mem_cons_of_mem _ h1)
    · rcases List.mem_cons.mp hy with e | hy
      · rw [e]; exact Int.le_trans hx.1 b0
      · rcases List.mem_cons.mp hy with e | hy
        · rw [e]; exact Int.le_trans hx.2 b0
        · exact h2 y (List.mem_cons_of_mem _ hy)
theorem minI_mem : ∀ {l : List Int}, 0 < l.length → minI l ∈ l ∧ ∀ y ∈ l, minI l ≤ y
  | [], h => absurd h (Nat.lt_irrefl 0)
  | x :: l, _ => foldl_min l x
theorem maxI_mem : ∀ {l : List Int}, 0 < l.length → maxI l ∈ l ∧ ∀ y ∈ l, y ≤ maxI l
  | [], h => absurd h (Nat.lt_irrefl 0)
  | x :: l, _ => foldl_max l x
theorem minI_eq {l : List Int} {m : Int} (hm : m ∈ l) (h : ∀ y ∈ l, m ≤ y) : minI l = m := by
  obtain ⟨a, b⟩ := minI_mem (List.length_pos_of_mem hm)
  exact Int.le_antisymm (b m hm) (h _ a)
theorem maxI_eq {l : List Int} {m : Int} (hm : m ∈ l) (h : ∀ y ∈ l, y ≤ m) : maxI l = m := by
  obtain ⟨a, b⟩ := maxI_mem (List.length_pos_of_mem hm)
  exact Int.le_antisymm (h _ a) (b m hm)
/-! ### what is lost, and for how long -/
/-- the moves behind which the other one loses -/
def zsteps (s : List Int) : List (Int × Int) := (stepsF s).filter fun p => isZ (mv s p)
/-- the lasting numbers behind winning moves -/
def lostNs (s : List Int) : List Int := (zsteps s).map fun p => rem (mv s p)
def everNs (s : List Int) : List Int := (stepsF s).map fun p => rem (mv s p)
theorem lost_eq (s : List Int) : (((stepsF s).map (mv s)).filter isZ).map rem = lostNs s := by
  unfold lostNs zsteps
  rw [List.filter_map, List.map_map]
  rfl
theorem rem_lost {s : List Int} (ok : okB s = true) : rem s = if 0 < (lostNs s).length then 1 + minI (lostNs s) else if (stepsF s).length = 0 then 0 else 1 + maxI (everNs s) := by
  rw [rem_eq ok]
  unfold remStep
  dsimp only
  rw [lost_eq, List.map_map]
  show (if (if 0 < (lostNs s).length then lostNs s else everNs s).length = 0 then _ else 1 + if 0 < (lostNs s).length then minI (if 0 < (lostNs s).length then lostNs s else everNs s) else maxI (if 0 < (lostNs s).length then lostNs s else everNs s)) = _
  have el : (everNs s).length = (stepsF s).length := by simp [everNs]
  by_cases h : 0 < (lostNs s).length
  · rw [if_pos h, if_pos h, if_pos h, if_neg (Nat.ne_of_gt h)]
  · rw [if_neg h, if_neg h, if_neg h, el]
theorem isZ_iff {s : List Int} (ok : okB s = true) : isZ s = decide (¬ 0 < (lostNs s).length) := by
  rw [(good ok).zero]
  have e : (lostNs s).length = (zsteps s).length := by simp [lostNs]
  rw [e]
  cases h : (stepsF s).any fun p => isZ (mv s p) with
  | true =>
    obtain ⟨p, hp, hz⟩ := List.any_eq_true.mp h
    have : 0 < (zsteps s).length := List.length_pos_of_mem (List.mem_filter.mpr ⟨hp, hz⟩)
    simp [this]
  | false =>
    have : zsteps s = [] := by
      refine List.filter_eq_nil_iff.mpr fun p hp hz => ?_
      have := List.any_eq_false.mp h p hp
      exact this hz
    simp [this]
/-- whoever loses: the number is even -/
theorem parity : ∀ (k : Nat) {s : List Int}, okB s = true → mu s < k → (isZ s = true → rem s % 2 = 0) ∧ (isZ s = false → rem s % 2 = 1)
  | 0, s, _, h => absurd h (Nat.not_lt_zero _)
  | k + 1, s, ok, h => by
    have G := good ok
    have ih : ∀ p ∈ stepsF s, _ := fun p hp => parity k (G.later p hp).1 (Nat.lt_of_lt_of_le (G.later p hp).2 (Nat.le_of_lt_succ h))
    rw [rem_lost ok, isZ_iff ok]
    by_cases hl : 0 < (lostNs s).length
    · rw [if_pos hl]
      refine ⟨fun e => absurd hl (of_decide_eq_true e), fun _ => ?_⟩
      obtain ⟨m1, _⟩ := minI_mem hl
      obtain ⟨p, hp, e⟩ := List.mem_map.mp m1
      obtain ⟨hs, hz⟩ := List.mem_filter.mp hp
      have q := (ih p hs).1 hz
      have e' : rem (mv s p) = minI (lostNs s) := e
      omega
    · rw [if_neg hl]
      refine ⟨fun _ => ?_, fun e => absurd (decide_eq_true hl) (by rw [e]; decide)⟩
      by_cases h0 : (stepsF s).length = 0
      · rw [if_pos h0]
        rfl
      · rw [if_neg h0]
        have he : 0 < (everNs s).length := by
          have : (everNs s).length = (stepsF s).length := by simp [everNs]
          omega
        obtain ⟨m1, _⟩ := maxI_mem he
        obtain ⟨p, hp, e⟩ := List.mem_map.mp m1
        have nz : isZ (mv s p) = false := by
          cases hz : isZ (mv s p) with
          | false => rfl
          | true => exact absurd (List.length_pos_of_mem (List.mem_map.mpr ⟨p, List.mem_filter.mpr ⟨hp, hz⟩, rfl⟩)) hl
        have q := (ih p hp).2 nz
        have e' : rem (mv s p) = maxI (everNs s) := e
        omega
theorem parity_eq {s : List Int} (ok : okB s = true) : isZ s = decide (rem s % 2 = 0) := by
  obtain ⟨a, b⟩ := parity (mu s + 1) ok (Nat.lt_succ_self _)
  cases h : isZ s with
  | true => exact (decide_eq_true (a h)).symm
  | false =>
    have := b h
    exact (decide_eq_false (by omega)).symm
/-- what the law reckons of a standing: whether it is lost, and for how long -/
def las (s : List Int) : Bool × Int := (isZ s, rem s)
theorem las_step {s : List Int} (ok : okB s = true) : lawStep las s = las s := by
  have e1 : ((stepsF s).map fun p => las (mv s p)).length = (stepsF s).length := List.length_map ..
  have e2 : (((stepsF s).map fun p => las (mv s p)).filter (·.1)).map (·.2) = lostNs s := by
    unfold lostNs zsteps
    rw [List.filter_map, List.map_map]
    rfl
  have e3 : ((stepsF s).map fun p => las (mv s p)).map (·.2) = everNs s := by
    rw [List.map_map]
    rfl
  unfold lawStep
  dsimp only
  rw [e1, e2, e3]
  unfold las
  rw [rem_lost ok, isZ_iff ok]
  by_cases h0 : (stepsF s).length = 0
  · have hl : (lostNs s).length = 0 := by
      have := List.eq_nil_of_length_eq_zero h0
      simp [lostNs, zsteps, this]
    simp [h0, hl]
  · by_cases hl : 0 < (lostNs s).length
    · simp [h0, hl, Nat.ne_of_gt hl]
    · have : (lostNs s).length = 0 := by omega
      simp [h0, this]
/-- hurried -/
def hurF (s : List Int) : List (Int × Int) := (zsteps s).filter fun p => rem (mv s p) == minI (lostNs s)
/-- what the law is due of hurried -/
def dueF (s : List Int) : List (Int × Int) := (stepsF s).filter fun p => isZ (mv s p) && (!isZ s && rem (mv s p) == rem s - 1)
theorem due_eq {s : List Int} (ok : okB s = true) : dueF s = hurF s := by
  unfold dueF hurF zsteps
  rw [List.filter_filter]
  refine List.filter_congr fun p hp => ?_
  cases hz : isZ (mv s p) with
  | false => simp
  | true =>
    have hl : 0 < (lostNs s).length := List.length_pos_of_mem (List.mem_map.mpr ⟨p, List.mem_filter.mpr ⟨hp, hz⟩, rfl⟩)
    have e1 : isZ s = false := by rw [isZ_iff ok]; exact decide_eq_false (fun z => z hl)
    have e2 : rem s - 1 = minI (lostNs s) := by rw [rem_lost ok, if_pos hl]; omega
    simp [e1, e2]
/-! ### sorting -/
theorem insI_perm (x : Int) : ∀ l : List Int, (insI x l).Perm (x :: l)
  | [] => .refl _
  | y :: l => by
    unfold insI
    split
    · exact .refl _
    · exact ((insI_perm x l).cons y).trans (.swap x y l)
theorem isort_perm : ∀ l : List Int, (isort l).Perm l
  | [] => .refl _
  | x :: l => (insI_perm x (isort l)).trans ((isort_perm l).cons x)
theorem insI_sorted (x : Int) : ∀ {l : List Int}, l.Pairwise (· ≤ ·) → (insI x l).Pairwise (· ≤ ·)
  | [], _ => by simp [insI]
  | y :: l, h => by
    obtain ⟨a, b⟩ := List.pairwise_cons.mp h
    unfold insI
    split
    · rename_i hxy
      refine List.Pairwise.cons (fun z hz => ?_) h
      rcases List.mem_cons.mp hz with e | hz
      · rw [e]; exact hxy
      · exact Int.le_trans hxy (a z hz)
    · rename_i hxy
      refine List.Pairwise.cons (fun z hz => ?_) (insI_sorted x b)
      rcases List.mem_cons.mp ((insI_perm x l).mem_iff.mp hz) with e | hz
      · rw [e]; omega
      · exact a z hz
theorem isort_sorted : ∀ l : List Int, (isort l).Pairwise (· ≤ ·)
  | [] => .nil
  | x :: l => insI_sorted x (isort_sorted l)
theorem sorted_one : ∀ {a b : List Int}, a.Perm b → a.Pairwise (· ≤ ·) → b.Pairwise (· ≤ ·) → a = b
  | [], b, p, _, _ => by
    have := p.length_eq
    exact (List.eq_nil_of_length_eq_zero this.symm).symm
  | x :: a, [], p, _, _ => absurd p.length_eq (by simp)
  | x :: a, y :: b, p, ha, hb => by
    obtain ⟨a1, a2⟩ := List.pairwise_cons.mp ha
    obtain ⟨b1, b2⟩ := List.pairwise_cons.mp hb
    have hx : x ∈ y :: b := p.mem_iff.mp List.mem_cons_self
    have hy : y ∈ x :: a := p.mem_iff.mpr List.mem_cons_self
    have e : x = y := by
      rcases List.mem_cons.mp hx with e | hx
      · exact e
      · rcases List.mem_cons.mp hy with e | hy
        · exact e.symm
        · exact Int.le_antisymm (a1 y hy) (b1 x hx)
    subst e
    rw [sorted_one (List.Perm.cons_inv p) a2 b2]
theorem isort_is {l ns : List Int} (p : ns.Perm l) (h : ns.Pairwise (· ≤ ·)) : ns = isort l :=
  sorted_one (p.trans (isort_perm l).symm) h (isort_sorted l)
theorem moved_is {s ns : List Int} {one to : Int} (p : ns.Perm (s.filter (fun x => !(x == one)) ++ [to])) (h : ns.Pairwise (· ≤ ·)) : ns = movedF s one to := isort_is p h
/-- a drawn standing: unlike squares from 0 to 11, at most four -/
theorem drawn_ok {l ns : List Int} (p : ns.Perm l) (h : ns.Pairwise (· ≤ ·)) (nd : l.Nodup) (hl : l.length ≤ 4) (hb : ∀ x ∈ l, 0 ≤ x ∧ x ≤ 11) : okB ns = true := by
  have nd' : ns.Nodup := p.nodup_iff.mpr nd
  have lt : ns.Pairwise (· < ·) := by
    have := h.and nd'
    exact this.imp fun {a b} q => by
      obtain ⟨q1, q2⟩ := q
      omega
  simp only [okB, Bool.and_eq_true, decide_eq_true_eq, List.all_eq_true]
  refine ⟨by rw [p.length_eq]; exact hl, pw_asc lt, fun x hx => hb x (p.mem_iff.mp hx)⟩
/-- the keys of a dict that are standings: at most so many -/
theorem nodup_len {α : Type} [DecidableEq α] : ∀ {a b : List α}, a.Nodup → (∀ x ∈ a, x ∈ b) → a.length ≤ b.length
  | [], _, _, _ => Nat.zero_le _
  | x :: a, b, nd, h => by
    obtain ⟨n1, n2⟩ := List.nodup_cons.mp nd
    have hx := h x List.mem_cons_self
    have ih := nodup_len (a := a) (b := b.erase x) n2 fun y hy => by
      have ne : y ≠ x := fun e => n1 (e ▸ hy)
      exact (List.mem_erase_of_ne ne).mpr (h y (List.mem_cons_of_mem _ hy))
    have e := List.length_erase_of_mem hx
    have := List.length_pos_of_mem hx
    simp only [List.length_cons]
    omega
theorem subs_len : (subs 4 board).length = 794 := by decide +kernel
theorem ok_count {ks : List (List Int)} (nd : ks.Nodup) (h : ∀ k ∈ ks, okB k = true) : ks.length ≤ 794 := by
  rw [← subs_len]
  exact nodup_len nd fun k hk => ok_mem (h k hk)
end Sq
/-! SqR: rules that the hand layer lacks. -/
namespace PySem
open Sem (wp)
/-- enumerate(v), one argument, v anything of which an iterator begins -/
theorem sq_enum_new {v : Value} {o : Obj} {Hh : Heap → Prop} (B : Begins v o Hh) :
    Meets (Builtin.«enumerate.__new__» ⟨[.type "enumerate", v], []⟩) (fun _ R s => Hh s.heap ∧
      R (.ok (.ret (.ref (s.heap.push o).objs.size))) { s with heap := (s.heap.push o).push { cls := .type "enumerate", data := .fields #[.none, .bool false, .ref s.heap.objs.size, rawInt 0, .none, .none] } }) :=
  .of_wp fun prog w A R s hyp => by
    obtain ⟨hp, gs, dr, tk, os⟩ := s
    obtain ⟨h1, fin⟩ := hyp
    have hsub := sub_enumerate
    have it1 : ∀ {A' : Around} {E : Value → Shared → Prop} {Q : Value → Shared → Prop}, Q (.ref hp.objs.size) ⟨hp.push o, gs, dr, tk, os⟩ → wpAny (model prog w) A' (pyIter v) Q E ⟨hp, gs, dr, tk, os⟩ := fun q => B.iter prog w _ _ ⟨hp, gs, dr, tk, os⟩ _ h1 q
    wp_walk using it1
    refine wpAny_stack_any fun st => wpAny_pure ?_
    split
    · rename_i c _ _ _ _ _
      cases (c == Value.type "enumerate") <;> (wp_walk using it1; exact ⟨_, rfl, fin⟩)
    · wp_walk using it1
      exact ⟨_, rfl, fin⟩
theorem sq_enum_call {prog : Program} {w : World} {A : Around} {E : Value → Shared → Prop} {s : Shared} {v : Value} {o : Obj} {Hh : Heap → Prop} {Q : Value → Shared → Prop} (B : Begins v o Hh) (h1 : Hh s.heap)
    (h : ∀ h', IsEnum h' (s.heap.objs.size + 1) s.heap.objs.size 0 .none → h'.get? s.heap.objs.size = some o → h'.objs.size = s.heap.objs.size + 2 →
      (∀ b ob, s.heap.get? b = some ob → h'.get? b = some ob) → Q (.ref (s.heap.objs.size + 1)) { s with heap := h' }) :
    wpAny (model prog w) A (call (.type "enumerate") [v]) Q E s := by
  refine callType_new F.called_enumerate (by decide) (F.typeCall_enumerate_1 _) (F.newCall_enumerate_1 _) (fun obj => F.args_object_init_2 obj _) F.entry_enumerate_new (sq_enum_new B) ⟨h1, ?_⟩
  have size1 : (s.heap.push o).objs.size = s.heap.objs.size + 1 := Heap.size_push ..
  show _ ∧ _
  rw [size1]
  have at2 := Heap.get?_push_size (s.heap.push o) (o := { cls := .type "enumerate", data := .fields #[.none, .bool false, .ref s.heap.objs.size, rawInt 0, .none, .none] }) rfl
  rw [size1] at at2
  exact ⟨⟨_, at2, rfl⟩, h _ at2 (Heap.get?_push_of_some _ (Heap.get?_push_size _ B.free)) (by rw [Heap.size_push, size1]) fun b ob x => Heap.get?_push_of_some _ (Heap.get?_push_of_some _ x)⟩
end PySem
namespace L2
open PySem PySem.Spec PyProof.Rows
/-! ### enumerate over a tuple -/
def IteT (K : PySem.W.Frag) (a : Addr) : It where
  go := fun i H => ∃ (xs : List V) (x : V), SqT K H a xs ∧ xs[i]? = some x
  yld := fun i H v H' => ∃ T x, v = .ref T ∧ H T = none ∧ H' = upd H T (.tup [.int (i : Nat), x]) ∧ ∀ xs, SqT K H a xs → xs[i]? = some x
  stop := fun i H => ∃ xs : List V, SqT K H a xs ∧ xs.length ≤ i
theorem turn_enumT {P : Program} {w : World} {K : PySem.W.Frag} {elts : List Expr} {kk : Nat} {tpos : Pos} (a e it : Addr) (n1 : e ≠ it) (n2 : e ≠ a) (n3 : a ≠ it) :
    Turn P w K (.Tuple elts kk tpos) (IteT K a) [e, it] e (fun i h => (∃ old, IsEnum h e it ((i : Nat) : Int) old) ∧ h.IsTupleIter it a i) where
  mem := List.mem_cons_self
  obj := fun i h st b hb => by
    obtain ⟨⟨old, he⟩, o, ho, hc, hd⟩ := st
    rcases List.mem_cons.mp hb with z | hb
    · subst z
      exact ⟨_, he, fun v q => nomatch q⟩
    · have z := List.mem_singleton.mp hb
      subst z
      exact ⟨o, ho, fun v q => by rw [hd] at q; cases q⟩
  keep := fun i h h' st k => by
    obtain ⟨⟨old, he⟩, hi⟩ := st
    exact ⟨⟨old, k e (by simp) _ he⟩, hi.at fun o q => k it (by simp) o q⟩
  item := by
    intro X hP hw hK hc i pins s σ H E I hf st hg
    subst hP hw hK
    obtain ⟨⟨old, he⟩, hit⟩ := st
    obtain ⟨xs, x, hq, hx⟩ := hg
    obtain ⟨its, rv, p, hz⟩ := I.tuple hq
    obtain ⟨u, hu, ru⟩ := rv.get hx
    have pT : s.heap.IsTuple a its.toArray := p
    have lt1 : e < s.heap.objs.size := Heap.lt_size he
    have lt2 : it < s.heap.objs.size := by obtain ⟨_, q, _⟩ := hit; exact Heap.lt_size q
    have hlt : i < its.toArray.size := by
      have q := (List.getElem?_eq_some_iff.mp hu).1
      simpa using q
    have D := Draws.tuple (prog := X.prog) (w := X.w) (A := X.A.in1) (I.ok.hd hc) it a n3 its.toArray
    refine wpAny_pyNext_enum_itemC D he (St := fun i h => h.IsTupleIter it a i ∧ h.IsTuple a its.toArray) ⟨hit, pT⟩ hlt n1 (by simp [n1, n2]) fun y h' tk hy ho st' hT hsz hk => ?_
    have ey : y = u := by
      have q : its[i]? = some y := by simpa using hy
      exact Option.some.inj (q.symm.trans hu)
    subst ey
    refine ⟨_, rfl, wpAny_letOwnedTupleGo_enum (s := { s with heap := h', toks := tk + 1 }) ho fun h'' he' sb => ?_⟩
    have hT2 : h''.get? s.heap.objs.size = some { cls := .type "tuple", data := .seq #[.int i tk, y] } := (sb.2 _ (Nat.ne_of_gt lt1)).trans hT
    have lay : ObjOk X.prog X.w (upd H s.heap.objs.size (.tup [.int (i : Nat), x])) h'' s.heap.objs.size (.tup [.int (i : Nat), x]) :=
      ⟨by show 2 ≤ sizeLine; decide, [.int i tk, y], .cons ⟨_, rfl⟩ (.cons ru .nil), ⟨_, hT2, rfl, _, rfl⟩⟩
    have far : ∀ b o, b ∉ [e, it] → s.heap.get? b = some o → h''.get? b = some o := fun b o hb q =>
      (sb.2 b fun z => hb (by simp [z])).trans (hk b o (fun z => hb (by simp [z])) (fun z => hb (by simp [z])) q)
    have J : Inv X pins σ (upd H s.heap.objs.size (.tup [.int (i : Nat), x])) { s with heap := h'', toks := tk + 1 } := I.turnedNew (ch := [e, it]) far hf (Nat.le_refl _) lay
    have step1 : ((i : Nat) : Int) + 1 = ((i + 1 : Nat) : Int) := by omega
    refine ⟨.ref s.heap.objs.size, _, J, rfl, ⟨_, x, rfl, I.hok.fresh (Nat.le_refl _), rfl, fun ys hy' => by rw [I.tuple_inj hy' hq]; exact hx⟩, ⟨⟨y, step1 ▸ he'⟩, st'.1.at fun o q => (sb.2 it (Ne.symm n1)).trans q⟩, fun b hb => ?_⟩
    have old' : b < s.heap.objs.size := by
      rcases List.mem_cons.mp hb with z | hb
      · subst z; exact lt1
      · have z := List.mem_singleton.mp hb
        subst z; exact lt2
    rw [upd_ne (Nat.ne_of_lt old')]
    exact (hf b hb).1
  done := by
    intro X hP hw hK hc i pins s σ H E I hf st hg
    subst hP hw hK
    obtain ⟨⟨old, he⟩, hit⟩ := st
    obtain ⟨xs, hq, hx⟩ := hg
    obtain ⟨its, rv, p, hz⟩ := I.tuple hq
    obtain ⟨f0, f1, f2, f3, f4, f5⟩ := hf it (by simp)
    have pT : s.heap.IsTuple a its.toArray := p
    have out : its.toArray[i]? = none := by
      have hl := rv.length
      simp
      omega
    have hT : s.TypeIs (.ref e) "enumerate" := ⟨_, he, rfl⟩
    unfold pyNext
    refine wpAny_bind (wpAny_attempt (wpAny_callSpecial?_slot (name := Str.ofString "__next__") hT PySem.F.slot_enumerate_next (wpAny_call_entry PySem.F.slot_enumerate_next hT PySem.F.entry_enumerate_next ?_ (PySem.F.args_enumerate_next_1 _))))
    show wpAny _ _ (field (.ref e) 2 >>= _) _ _ _
    refine wpAny_bind (wpAny_field he rfl (x := .ref it) rfl (wpAny_bind (wpAny_nextOf_tuple_end (I.ok.hd hc) hit pT out fun h' x he' hx' => ?_)))
    obtain ⟨o, ho, hcls⟩ := hx'
    refine wpAny_bind (wpAny_isInstance (T := "StopIteration") (b := true) ⟨o, ho, hcls⟩ isSubtype_stop (wpAny_pure ⟨rfl, ?_⟩))
    exact I.turned (t' := s.toks) (fun b o hb q => he' b o hb q) f0 f1 f3 f4 f5
  self := fun A i s Q E st h => by
    obtain ⟨⟨_, he⟩, _⟩ := st
    exact wpAny_pyIter_enum he h
def iEnumT (K : PySem.W.Frag) (ta : TA) : TI := fun σ H R => ta σ H fun vs H1 => ∃ a xs, vs = [.ref a] ∧ SqT K H1 a xs ∧ R (IteT K a) H1
theorem pi_enumT {X : Cx} {e : Expr} {ta : TA} {p pos tpos : Pos} {elts : List Expr} {kk : Nat} (hg : Gl X "enumerate") (hm : X.mg "enumerate" = none) (ha : PA X [e] ta) (hs : starEach [e] X.env = [(false, eval e X.env)] := by rfl) :
    PI X (.Tuple elts kk tpos) (.Call (.Name "enumerate" p) [e] [] pos) (iEnumT X.K ta) := by
  refine ⟨fun pins s σ H R I h => ?_⟩
  refine Call_ (ld_blt I hg hm boot_enumerate (PyProof.Rows.callWith_type1 (thn (ha.run pos pins s σ H _ I h) fun us s1 hh => ?_) hs rfl))
  obtain ⟨vs, H1, I1, r1, a, xs, ex, hq, q⟩ := hh
  subst ex
  obtain rfl := Vals.ref1 r1
  obtain ⟨its, rv, p', hz⟩ := I1.tuple hq
  have pT : s1.heap.IsTuple a its.toArray := p'
  have lta : a < s1.heap.objs.size := by obtain ⟨_, q, _⟩ := p'; exact Heap.lt_size q
  refine sq_enum_call (begins_tuple a its.toArray) pT fun h' he hit hsz hk => wpAny_pyIter_enum he ?_
  have J : Inv X pins σ H1 { s1 with heap := h' } := I1.kept (t' := s1.toks) hk
  refine ⟨s1.heap.objs.size + 1, [s1.heap.objs.size + 1, s1.heap.objs.size], _, _, H1, rfl, J, turn_enumT a (s1.heap.objs.size + 1) s1.heap.objs.size (Nat.succ_ne_self _) (Nat.ne_of_gt (Nat.lt_succ_of_lt lta)) (Nat.ne_of_lt lta), ⟨⟨.none, he⟩, _, hit, rfl, rfl⟩, fun b hb => ?_, q⟩
  have up : s1.heap.objs.size ≤ b := by
    rcases List.mem_cons.mp hb with z | hb
    · rw [z]; exact Nat.le_succ _
    · rw [List.mem_singleton.mp hb]; exact Nat.le_refl _
  exact I1.fpOk up (I1.hok.fresh up)
theorem walk_enumT {K : PySem.W.Frag} {a : Addr} {xs : List V} : Walk (IteT K a) xs.length (fun H => SqT K H a xs) (YPair (fun i => some (.int (i : Nat))) (fun i => xs[i]?)) where
  goes := fun i _ hi q => ⟨xs, xs[i], q, by simp [hi]⟩
  stops := fun _ q => ⟨xs, q, Nat.le_refl _⟩
  yields := fun i H v H' _ q y => by
    obtain ⟨T, x, h1, h2, h3, h4⟩ := y
    exact ⟨T, .int (i : Nat), x, h1, h2, h3, rfl, h4 xs q⟩
/-! ### an own exception raised without arguments -/
theorem pmk_own0 {X : Cx} {C : Addr} {bmB : List Value} {B newId initId : String} {x : Str} {p pos : Pos} (F : ExcBaseFacts B newId initId bmB) (q : PySem.W.excIn X.K C bmB newId = true) (gC : X.mg x = some (.ref C))
    (kC : PySem.W.keepIn X.K (.ref C) = true) (r : Raises X (.ref C)) (hg : Gl X x) (hdb : (x == ("__debug__" : Str)) = false := by decide) :
    PMk X (.Call (.Name x p) [] [] pos) (fun _ H Q => Q (.ref C) none H) := by
  intro pins s σ H Q I want
  refine wpAny_Call_Name_kw (ld_glob I hg gC (PySem.W.callWith_K0 I.kIn kC ?_) hdb)
  show wpAny _ _ (call (.ref C) []) _ _ _
  obtain ⟨bm, N, nm, qn, bs, hdct, sn, sub, ab, col, dd, k0, k1, k2, k3, k5, mN, hC, hN, hni, T⟩ := exc_obj I.kIn q
  exact wpAny_call_exc_subT F T hC hN hni (fun h' e hm => mk_of I hm r want (I.hok.gone hm.new)) (Nat.zero_le _)
end L2
/-! SqR2: min of a list of (number, (number, number)). -/
namespace L2
open PySem PySem.Spec PyProof.Rows PySem.W
/-- a row: where the outer tuple stands; its number, the inner pair -/
abbrev MRow := Addr × Int × Int × Int
def rowD (r : MRow) : PyData := .tuple [.int r.2.1, .tuple [.int r.2.2.1, .int r.2.2.2]]
def RowAt (K : PySem.W.Frag) (H : Hp) (r : MRow) : Prop := ∃ q, SqT K H r.1 [.int r.2.1, .ref q] ∧ SqT K H q [.int r.2.2.1, .int r.2.2.2]
def rMinRow (K : PySem.W.Frag) : List V → Hp → VK → Prop := fun vs H Q => ∃ (a : Addr) (rows : List MRow), vs = [V.ref a] ∧ SqL K H a (rows.map fun r => V.ref r.1) ∧ 0 < rows.length ∧ (∀ r ∈ rows, RowAt K H r) ∧
  ∀ r ∈ rows, (∀ r' ∈ rows, r.2.1 ≤ r'.2.1) → Q (.ref r.1) H
theorem rowD_alike (r r' : MRow) : alike (rowD r) (rowD r') = true := by simp [rowD, alike, alikeAll]
theorem rowD_lt {r r' : MRow} : (dataLt (rowD r) (rowD r') = true → r.2.1 ≤ r'.2.1) ∧ (dataLt (rowD r) (rowD r') = false → r'.2.1 ≤ r.2.1) := by
  unfold rowD
  rw [dataLt_pair (by simp [alike]) (by simp [alike, alikeAll]), dataLt_int]
  simp only [PyData.eqv, beq_iff_eq]
  split
  · rename_i e
    constructor <;> intro _ <;> omega
  · constructor
    · intro e
      have := of_decide_eq_true e
      omega
    · intro e
      have := of_decide_eq_false e
      omega
theorem minD_rows : ∀ (rows : List MRow) (r0 : MRow), ∃ r ∈ r0 :: rows, minD (rowD r0) (rows.map rowD) = rowD r ∧ ∀ r' ∈ r0 :: rows, r.2.1 ≤ r'.2.1
  | [], r0 => ⟨r0, List.mem_cons_self, rfl, fun r' h => by rw [List.mem_singleton.mp h]; exact Int.le_refl _⟩
  | y :: rows, r0 => by
    have cut : ∀ z : MRow, (z = r0 ∨ z = y) → z.2.1 ≤ r0.2.1 → z.2.1 ≤ y.2.1 → minD (rowD r0) ((y :: rows).map rowD) = minD (rowD z) (rows.map rowD) →
        ∃ r ∈ r0 :: y :: rows, minD (rowD r0) ((y :: rows).map rowD) = rowD r ∧ ∀ r' ∈ r0 :: y :: rows, r.2.1 ≤ r'.2.1 := fun z hz z0 zy e => by
      obtain ⟨r, hr, e1, least⟩ := minD_rows rows z
      have lz := least z List.mem_cons_self
      refine ⟨r, ?_, e.trans e1, fun r' h => ?_⟩
      · rcases List.mem_cons.mp hr with q | q
        · rcases hz with z1 | z1
          · rw [q, z1]; exact List.mem_cons_self
          · rw [q, z1]; exact List.mem_cons_of_mem _ List.mem_cons_self
        · exact List.mem_cons_of_mem _ (List.mem_cons_of_mem _ q)
      · rcases List.mem_cons.mp h with q | h
        · rw [q]; exact Int.le_trans lz z0
        · rcases List.mem_cons.mp h with q | h
          · rw [q]; exact Int.le_trans lz zy
          · exact least r' (List.mem_cons_of_mem _ h)
    cases e : dataLt (rowD y) (rowD r0) with
    | true =>
      refine cut y (.inr rfl) (rowD_lt.1 e) (Int.le_refl _) ?_
      show ((y :: rows).map rowD).foldl _ _ = _
      rw [List.map_cons, List.foldl_cons, if_pos e]
      rfl
    | false =>
      refine cut r0 (.inl rfl) (Int.le_refl _) (rowD_lt.2 e) ?_
      show ((y :: rows).map rowD).foldl _ _ = _
      rw [List.map_cons, List.foldl_cons, if_neg (by rw [e]; exact Bool.false_ne_true)]
      rfl
theorem rows_depth : ∀ rows : List MRow, PyData.depthAll (rows.map rowD) ≤ 4
  | [] => by simp [PyData.depthAll]
  | r :: rows => by
    have ih := rows_depth rows
    have e : PyData.depth (rowD r) ≤ 4 := by simp [rowD, PyData.depth, PyData.depthAll]
    rw [List.map_cons, PyData.depthAll]
    exact Nat.max_le.mpr ⟨e, ih⟩
theorem rows_dp {K : PySem.W.Frag} {H : Hp} : ∀ {rows : List MRow}, (∀ r ∈ rows, RowAt K H r) → DpAll K H (rows.map fun r => V.ref r.1) (rows.map rowD)
  | [], _ => .nil
  | r :: rows, h => by
    obtain ⟨q, h1, h2⟩ := h r List.mem_cons_self
    exact .cons (.tup h1 (.cons (.int _) (.cons (.tup h2 (.cons (.int _) (.cons (.int _) .nil))) .nil))) (rows_dp fun r' hr => h r' (List.mem_cons_of_mem _ hr))
/-- what the outer tuple reads as, by its first item -/
theorem reads_first {h : Heap} {t : Addr} {d : PyData} {ds : List PyData} {u w : Value} {as : List Addr} {i : Int} {tk : Tok} (ht : IsTup h t #[u, w]) (hu : u = .int i tk) (r : Reads h (.ref t) (.tuple (d :: ds)) as) : d = .int i := by
  obtain ⟨o, ho, hc, n, hd⟩ := ht
  cases r with
  | tuple ho' hc' hd' ra =>
    rw [ho] at ho'
    cases ho'
    rw [hd] at hd'
    injection hd' with e1 e2
    subst e1
    subst hu
    cases ra with
    | cons r1 _ =>
      cases r1
      rfl
theorem cr_minRow {X : Cx} (hc : X.calm = true) (hu : X.A.units + 64 < cLine) : CallR X (.builtin "min") (rMinRow X.K) := by
  intro pins s σ H vs us Q I r want
  obtain ⟨a, rows, rfl, hs, hne, hrow, q⟩ := want
  obtain ⟨its, rv, hl, hz⟩ := I.list hs
  rw [Vals.ref1 r]
  obtain ⟨as, hr⟩ := Dp.readsAll I _ _ its (rows_dp hrow) rv
  cases rows with
  | nil => exact absurd hne (Nat.lt_irrefl 0)
  | cons r0 rows =>
    rw [List.map_cons] at hr
    have aa : AlikeAll (rowD r0 :: rows.map rowD) := by
      have inv : ∀ x ∈ rowD r0 :: rows.map rowD, ∃ r, x = rowD r := fun x hx => by
        rcases List.mem_cons.mp hx with e | hx
        · exact ⟨r0, e⟩
        · obtain ⟨r, _, e⟩ := List.mem_map.mp hx
          exact ⟨r, e.symm⟩
      refine ⟨fun x hx y hy => ?_, fun x hx e => ?_⟩
      · obtain ⟨rx, rfl⟩ := inv x hx
        obtain ⟨ry, rfl⟩ := inv y hy
        exact rowD_alike rx ry
      · obtain ⟨rx, rfl⟩ := inv x hx
        cases e
    have dep := rows_depth (r0 :: rows)
    rw [List.map_cons] at dep
    refine min_list_data (I.ok.hd hc) hl.isList (by simpa using hr) aa (by omega) fun i v h' tk bs hv rd hk => ?_
    -- the item at place i
    obtain ⟨rm, hm, em, least⟩ := minD_rows rows r0
    rw [em] at rd
    have hvi : its[i]? = some v := by simpa using hv
    have hi : i < ((r0 :: rows).map fun r => V.ref r.1).length := by
      have e := rv.length
      have l := (List.getElem?_eq_some_iff.mp hvi).1
      rw [e]
      exact l
    rw [List.length_map] at hi
    obtain ⟨u, hu', ru⟩ := rv.get (i := i) (x := V.ref (r0 :: rows)[i].1) (by rw [List.getElem?_map, List.getElem?_eq_getElem hi]; rfl)
    have ev : u = v := Option.some.inj (hu'.symm.trans hvi)
    subst ev
    have er : u = Value.ref (r0 :: rows)[i].1 := ru
    subst er
    have mem : (r0 :: rows)[i] ∈ r0 :: rows := List.getElem_mem hi
    obtain ⟨qa, t1, t2⟩ := hrow _ mem
    have J : Inv X pins σ H { s with heap := h', toks := tk } := I.kept hk
    obtain ⟨its2, rv2, tup2, _⟩ := J.tuple t1
    obtain ⟨u1, u2, rfl, ri, rq⟩ := vals2 rv2
    obtain ⟨ti, rfl⟩ := ri
    have first := reads_first tup2 rfl rd
    have eq : rm.2.1 = (r0 :: rows)[i].2.1 := by
      injection first
    exact ⟨.ref _, H, J, rfl, q _ mem fun r' hr' => by rw [← eq]; exact least r' hr'⟩
end L2
/-! SqR3: a try whose first clause names the error and whose second one does not; the two take all that the body raises. -/
namespace L2
open PySem PySem.Spec PyProof.Rows
/-- the ends behind a clause that names the error in slot i -/
def endsGone (D : Ends) (i : Nat) : Ends := { nx := fun σ H => D.nx (σ.set i none) H, rt := D.rt, bk := fun σ H => D.bk (σ.set i none) H, ct := fun σ H => D.ct (σ.set i none) H }
def wTwo (K : PySem.W.Frag) (c : Value) (i : Nat) (ts : Addr → Value → Option Addr → TS) (c1 : Value) (ts1 : Addr → Value → Option Addr → TS) (D : Ends) : WX := fun cls d σ H =>
  (PySem.W.exmOne K cls c = some true ∧ ∀ a, H a = none → ts a cls d (endsGone D i) (σ.set i (some (.ref a))) H) ∨
  (PySem.W.exmOne K cls c = some false ∧ PySem.W.exmOne K cls c1 = some true ∧ ∀ a, H a = none → ts1 a cls d D σ H)
section
variable {X : Cx} {x n y : Str} {c c1 : Value} {i : Nat} {body suite suite1 : List Stmt} {b₀ b₁ : Stmt} {np nq pos pos' pos'' : Pos} {tb : WX → TS} {ts ts1 : Addr → Value → Option Addr → TS}
/-- the class that a clause names, evaluated within the clauses -/
theorem names_eval {pins : List (Addr × Obj)} {σ : St} {H : Hp} {s : Shared} {a : Addr} {q : Addr × Obj} {Q E : Value → Shared → Prop} {c : Value} {x : Str} {np : Pos} (hc : Names X x c) (S : Inv (X.suite a (q :: (X.pn ++ pins))) [] σ H s) (k : ∀ s', s' = s → Q c s') :
    wpAny (model X.prog X.w) (X.A.mark (some (.ref a))) (eval (.Name x np) X.env) Q E s := by
  obtain ⟨hg, hdbg, hm | ⟨hm, hv, hnn⟩⟩ := hc
  · exact ld_glob (X := X.suite a (q :: (X.pn ++ pins))) S hg hm (k s rfl) hdbg
  · exact ld_blt (X := X.suite a (q :: (X.pn ++ pins))) S hg hm hv (k s rfl) hnn hdbg
/-- what a suite leaves -/
theorem leave_suite {pins : List (Addr × Obj)} {a : Addr} {q : Addr × Obj} {D : Ends} {f : Flow} {s : Shared} (ok : X.Ok) (h : SP (X.suite a (q :: (X.pn ++ pins))) [] D f s) : SP X pins D f s := by
  cases f with
  | next => exact let ⟨σ', H', S, w⟩ := h; ⟨σ', H', S.unsuite ok, w⟩
  | brk => exact let ⟨σ', H', S, w⟩ := h; ⟨σ', H', S.unsuite ok, w⟩
  | cont => exact let ⟨σ', H', S, w⟩ := h; ⟨σ', H', S.unsuite ok, w⟩
  | ret u => exact let ⟨v, σ', H', S, r, w⟩ := h; ⟨v, σ', H', S.unsuite ok, r, w⟩
theorem leave_try {pins pn' : List (Addr × Obj)} {xe : Value → Shared → Prop} {D : Ends} {f : Flow} {s : Shared} (ok : X.Ok) (h : SP (X.tr (X.pn ++ pins) xe) pn' D f s) : SP X pins D f s := by
  cases f with
  | next => exact let ⟨σ', H', S, w⟩ := h; ⟨σ', H', S.ofTry ok, w⟩
  | brk => exact let ⟨σ', H', S, w⟩ := h; ⟨σ', H', S.ofTry ok, w⟩
  | cont => exact let ⟨σ', H', S, w⟩ := h; ⟨σ', H', S.ofTry ok, w⟩
  | ret u => exact let ⟨v, σ', H', S, r, w⟩ := h; ⟨v, σ', H', S.ofTry ok, r, w⟩
theorem ps_try_two (hs : X.stack = X.env :: X.outer) (hf : X.env.frame = some X.env.locals) (hN : X.N.Nodup) (hi : X.N[i]? = some n) (hln : X.env.kindOf n = some .local) (hc : Names X x c) (hc1 : Names X y c1)
    (hb : ∀ (W : WX) (pn : List (Addr × Obj)) (xe : Value → Shared → Prop), Takes (X.tr pn xe) W → PassesOwn (model X.prog X.w) X.A X.env xe → PSs (X.tr pn xe) body (tb W))
    (hsu : ∀ (a : Addr) (oe : Obj) (cls : Value) (d : Option Addr) (pn : List (Addr × Obj)), Zc cls d oe → (∃ vs, oe.data = .fields vs) → PSs (X.suite a ((a, oe) :: pn)) (b₀ :: suite) (ts a cls d))
    (hsu1 : ∀ (a : Addr) (oe : Obj) (cls : Value) (d : Option Addr) (pn : List (Addr × Obj)), Zc cls d oe → (∃ vs, oe.data = .fields vs) → PSs (X.suite a ((a, oe) :: pn)) (b₁ :: suite1) (ts1 a cls d)) :
    PS X (.Try body [.ExceptHandler (some (.Name x np)) (some n) (b₀ :: suite) pos', .ExceptHandler (some (.Name y nq)) none (b₁ :: suite1) pos''] [] [] pos) (fun D σ H => tb (wTwo X.K c i ts c1 ts1 D) D σ H) := by
  refine ⟨fun pins s σ H D I want => wpAny_Try_except ?_⟩
  have ok := I.ok
  have hfr : X.A.frames = some (X.env :: X.outer) := by rw [ok.frames, hs]
  refine wpAny_mono ((hb (wTwo X.K c i ts c1 ts1 D) (X.pn ++ pins) (fun e s₁ => wpAny (model X.prog X.w) X.A (noteFrame e X.env) (fun _ s₂ => wpAny (model X.prog X.w) X.A (setFlight e none) (fun _ s₃ =>
    wpAny (model X.prog X.w) X.A (handleBy e X.env [.ExceptHandler (some (.Name x np)) (some n) (b₀ :: suite) pos', .ExceptHandler (some (.Name y nq)) none (b₁ :: suite1) pos'']) (SP X pins D) X.xe s₃) X.xe s₂) X.xe s₁)
    (fun u s' air => ?_) PassesOwn.looking).run [] s σ H D (I.toTry _) want) (fun f s1 hsp => ?_) (fun _ _ he => he)
  · obtain ⟨a, B, sI, pins', σ', H', cls, d, rfl, J', nb, up, sky, na, os, ag, wish⟩ := air
    have J : Inv X pins σ' H' sI := J'.ofTry ok
    rw [show (X.tr (X.pn ++ pins) _).stack = X.env :: X.outer from hs] at sky
    show wpAny (model X.prog X.w) X.A (noteFrame (.ref a) X.env) _ _ _
    refine Sky.land Zc.steady hfr hf sky fun h3 fl3 up3 => ?_
    have J3 : Inv X pins σ' H' { s' with heap := h3 } := J.landed nb fl3.1 (up.trans up3) os ag
    -- the error lies apart from the frames
    have apart : ∀ {hh : Heap} {o : Obj} {vs : Array Value}, hh.FunFrames B (X.env :: X.outer) → hh.get? a = some o → o.data = .fields vs → a ≠ X.env.locals ∧ a ∉ X.fs := fun {hh o vs} ff e dd => by
      have out : a ∉ frs (X.env :: X.outer) := fun hm => by
        obtain ⟨_, o', e', nf⟩ := ff.mem hm
        rw [e] at e'
        cases e'
        exact nf _ dd
      refine ⟨fun z => out (List.mem_filterMap.mpr ⟨X.env, List.mem_cons_self, by rw [hf, z]⟩), fun hm => out ?_⟩
      obtain ⟨ev, he, q⟩ := List.mem_filterMap.mp hm
      exact List.mem_filterMap.mpr ⟨ev, List.mem_cons_of_mem _ he, q⟩
    obtain ⟨oe3, vs3, he3, hz3, hd3⟩ := fl3.there
    obtain ⟨nL, nF⟩ := apart fl3.2.2.1 he3 hd3
    have S3 := J3.suite he3 hd3 na nL nF
    have LT : PySem.W.Looks (model X.prog X.w) h3 (typeOf (.ref a)) cls := fun A Q E s k q => wpAny_typeOf_ref (k _ _ he3) (by rw [hz3.1]; exact q)
    -- a suite begins: the error lies in flight no more
    have begin_ : ∀ {A : Around} {Q : Unit → Shared → Prop} {E : Value → Shared → Prop}, (∀ h4 oe4, Zc cls d oe4 → (∃ vs, oe4.data = .fields vs) → Inv (X.suite a ((a, oe4) :: (X.pn ++ pins))) [] σ' H' { s' with heap := h4 } → Q () { s' with heap := h4 }) →
        wpAny (model X.prog X.w) A (setFlight (.ref a) none) Q E { s' with heap := h3 } := fun {A Q E} k => by
      refine HandSPX.lands_againZ fl3 fun h4 fl4 up4 => ?_
      have J4 : Inv X pins σ' H' { s' with heap := h4 } := J.landed nb fl4.1 ((up.trans up3).trans up4) os ag
      obtain ⟨oe4, vs4, he4, hz4, hd4⟩ := fl4.there
      exact k h4 oe4 hz4 ⟨vs4, hd4⟩ (J4.suite he4 hd4 na nL nF)
    refine wpAny_handleBy_cons (codeAny_handlers_test ?_) (by intro q; cases q)
    refine names_eval hc S3 fun s6 e6 => ?_
    subst e6
    rcases wish with ⟨hb1, yes⟩ | ⟨hb1, hb2, yes⟩
    · refine (PySem.W.exm_one (M := model X.prog X.w) J3.kIn LT hb1).here (codeAny_handlers_suite_as (begin_ fun h4 oe4 hz4 hd4 S4 => ?_))
      refine store_ok (X := X.suite a ((a, oe4) :: (X.pn ++ pins))) (v := .ref a) S4 hN hi (.inl hln) rfl (fun s5 S5 => ?_) (.inr hln)
      refine wpAny_mono ((hsu a oe4 cls d (X.pn ++ pins) hz4 hd4).run [] s5 _ H' _ S5 (yes a na)) (fun f s6 hsp => ?_) (fun _ _ z => False.elim z)
      have drop : ∀ {σ6 : St} {H6 : Hp} {Q : Shared → Prop}, Inv X pins σ6 H6 s6 → (∀ s7, Inv X pins (σ6.set i none) H6 s7 → Q s7) → wpAny (model X.prog X.w) X.A (do bindName X.env n .none; unbindBehindTheSuite X.env n pos') (fun _ s7 => Q s7) X.xe s6 :=
        fun {σ6 H6 Q} S6 k => gone_ok S6 hN hi hln k
      have hsp' := leave_suite ok hsp
      cases f with
      | next => exact let ⟨σ6, H6, S6, q6⟩ := hsp'; drop S6 fun s7 J7 => ⟨_, _, J7, q6⟩
      | brk => exact let ⟨σ6, H6, S6, q6⟩ := hsp'; drop S6 fun s7 J7 => ⟨_, _, J7, q6⟩
      | cont => exact let ⟨σ6, H6, S6, q6⟩ := hsp'; drop S6 fun s7 J7 => ⟨_, _, J7, q6⟩
      | ret u => exact let ⟨v6, σ6, H6, S6, r6, q6⟩ := hsp'; drop S6 fun s7 J7 => ⟨_, _, _, J7, r6, q6⟩
    · refine (PySem.W.exm_one (M := model X.prog X.w) J3.kIn LT hb1).here ?_
      show wpAny _ X.A (handleBy (.ref a) X.env [.ExceptHandler (some (.Name y nq)) none (b₁ :: suite1) pos'']) _ _ _
      refine wpAny_handleBy_cons (codeAny_handlers_test ?_) (by intro q; cases q)
      refine names_eval hc1 S3 fun s6 e6 => ?_
      subst e6
      refine (PySem.W.exm_one (M := model X.prog X.w) J3.kIn LT hb2).here (codeAny_handlers_suite (begin_ fun h4 oe4 hz4 hd4 S4 => ?_))
      refine wpAny_mono ((hsu1 a oe4 cls d (X.pn ++ pins) hz4 hd4).run [] _ _ H' _ S4 (yes a na)) (fun f s6 hsp => ?_) (fun _ _ z => False.elim z)
      have hsp' := leave_suite ok hsp
      cases f <;> exact hsp'
  · have hsp' := leave_try ok hsp
    cases f with
    | next => exact wpAny_execs_nil hsp'
    | brk => exact hsp'
    | cont => exact hsp'
    | ret u => exact hsp'
end
end L2
/-! SqT: the text by places, short words, the promises' common parts. -/
namespace Sq
open PySem L2 PyProof.Rows
/-! ### the text by places -/
def top (i : Nat) : Stmt := PySem.Challenge.pw_squarecoins_k21_whole_hurried_games.main.body.getD i (.Pass ⟨0, 0, 0, 0⟩)
abbrev sBadInit : Stmt := inClass (top 2) 0
abbrev sIsInt : Stmt := top 7
abbrev sIsFrom : Stmt := top 8
abbrev sCheck : Stmt := top 9
abbrev sWithout : Stmt := top 10
abbrev sMoved : Stmt := top 11
abbrev sLow : Stmt := top 13
abbrev sNearest : Stmt := top 14
abbrev sMated : Stmt := top 15
abbrev sByMates : Stmt := top 16
abbrev sSteps : Stmt := top 20
abbrev sSearched : Stmt := top 21
abbrev sLInit : Stmt := inClass (top 23) 0
abbrev sMoves : Stmt := inClass (top 23) 1
abbrev sRemote : Stmt := top 24
abbrev sHurried : Stmt := top 25
abbrev sRandom : Stmt := top 27
abbrev sBelow : Stmt := top 28
abbrev sPick : Stmt := top 29
abbrev sEqual : Stmt := top 30
abbrev sNoSt : Stmt := top 31
abbrev sStand : Stmt := top 32
abbrev sLMoves : Stmt := top 33
abbrev sBehind : Stmt := top 34
abbrev sWord : Stmt := top 35
abbrev sLasts : Stmt := top 36
abbrev sLaw : Stmt := top 37
/-! ### a def of the module, to be called -/
structure Has (P : Program) (w : World) (K : PySem.W.Frag) (mg : Str → Option Value) (base : Heap) (CX : CXT) (k : Nat) (x : Str) (ps : List Str) (sp : Sp) : Prop where
  ex : ∃ (f : Addr) (fd : FuncData), mg x = some (.ref f) ∧ PySem.W.keepIn K (.ref f) = true ∧ Binds K fd ps [] ∧ FnOk P w K mg base CX k f fd ps sp
section
variable {X : Cx} {k : Nat} {x : Str} {ps : List Str} {sp : Sp} {e : Expr} {es : List Expr} {t : TA} {p pos : Pos} {CX : CXT} {E : XK}
theorem pe_has (G : Has X.prog X.w X.K X.mg X.base CX k x ps sp) (hr : Room k X.A) (hx : Passes CX X E) (ha : PA X (e :: es) t) (hg : Gl X x := by rfl) (hdb : (x == ("__debug__" : Str)) = false := by decide)
    (he : starEach (e :: es) X.env = (false, eval e X.env) :: starEach es X.env := by rfl) (hpl : (backTo pos (starEach es X.env)).any (·.1) = false := by rfl) :
    PE X (.Call (.Name x p) (e :: es) [] pos) (tCall sp [] E t) := by
  obtain ⟨f, fd, a, b, c, d⟩ := G.ex
  exact pe_call d hr hg a b c .nil hx ha hdb he hpl
end
theorem Has.imp {P : Program} {w : World} {K : PySem.W.Frag} {mg : Str → Option Value} {base : Heap} {CX : CXT} {k j : Nat} {x : Str} {ps : List Str} {sp sp' : Sp} (G : Has P w K mg base CX k x ps sp) (hk : k ≤ j) (h : ∀ vs H Q E, sp' vs H Q E → sp vs H Q E) : Has P w K mg base CX j x ps sp' := by
  obtain ⟨f, fd, a, b, c, d⟩ := G.ex
  exact ⟨f, fd, a, b, c, (d.imp h).mono hk⟩
/-! ### kinds of values -/
def tyN (x : V) (H : Hp) : Option String := match x with
  | .non => some "NoneType"
  | .bl _ => some "bool"
  | .int _ => some "int"
  | .str _ => some "str"
  | .ref a => (match H a with
    | some (.lst _) => some "list"
    | some (.tup _) => some "tuple"
    | some (.dK _) => some "dict"
    | some (.dT _) => some "dict"
    | _ => none)
  | _ => none
def tyNames : List String := ["NoneType", "bool", "int", "str", "list", "tuple", "dict"]
theorem tyN_ok {K : PySem.W.Frag} {x : V} {H : Hp} {n : String} (h : tyN x H = some n) : TyX K H x (.type n) ∧ n ∈ tyNames := by
  cases x with
  | non => cases h; exact ⟨.base .non, by decide⟩
  | bl b => cases h; exact ⟨.base (.bl b), by decide⟩
  | int i => cases h; exact ⟨.base (.int i), by decide⟩
  | str s => cases h; exact ⟨.base (.str s), by decide⟩
  | ref a =>
    unfold tyN at h
    dsimp only at h
    split at h
    · cases h; exact ⟨.base (.lst (by assumption)), by decide⟩
    · cases h; exact ⟨.base (.tup (by assumption)), by decide⟩
    · cases h; exact ⟨.base (.dK (by assumption)), by decide⟩
    · cases h; exact ⟨.base (.dT (by assumption)), by decide⟩
    · cases h
  | byt b => cases h
  | flt b => cases h
  | ty n => cases h
theorem tyN_same {x : V} {H H' : Hp} {n : String} (s : Same H H') (h : tyN x H = some n) : tyN x H' = some n := by
  cases x with
  | ref a =>
    unfold tyN at h ⊢
    dsimp only at h ⊢
    cases e : H a with
    | none => rw [e] at h; cases h
    | some o =>
      rw [e] at h
      rw [s a o e]
      exact h
  | _ => exact h
theorem tyN_lst {a : Addr} {H : Hp} {xs : List V} (h : H a = some (.lst xs)) : tyN (.ref a) H = some "list" := by simp [tyN, h]
theorem tyN_tup {a : Addr} {H : Hp} {xs : List V} (h : H a = some (.tup xs)) : tyN (.ref a) H = some "tuple" := by simp [tyN, h]
theorem tyN_dK {a : Addr} {H : Hp} {xs : List (Key × V)} (h : H a = some (.dK xs)) : tyN (.ref a) H = some "dict" := by simp [tyN, h]
def subT (n t : String) : Bool := n == t || (n == "bool" && t == "int")
theorem kit_names : ∀ t ∈ ["int", "bool", "str", "dict", "tuple", "list"], ∀ n ∈ tyNames, kitB n t = some (subT n t) := by decide +kernel
/-- isinstance(e, T), by values -/
def rIsiN (T : String) : List V → Hp → VK → Prop := fun xs H Q => ∃ x n, xs = [x, .ty T] ∧ tyN x H = some n ∧ Q (.bl (subT n T)) H
theorem call_isiN {X : Cx} {T : String} (hT : T ∈ ["int", "bool", "str", "dict", "tuple", "list"]) : CallR X (.builtin "isinstance") (rIsiN T) := by
  intro pins s σ H xs us Q I r h
  obtain ⟨x, n, e, ht, q⟩ := h
  obtain ⟨ty, hn⟩ := tyN_ok (K := X.K) ht
  exact call_isi pins s σ H xs us Q I r ⟨x, .ty T, _, _, _, e, .ty T, ty, kit_ty (kit_names T hT n hn), q⟩
def tIsi (T : String) (te : TE) : TE := tCB (rIsiN T) (tCons te (tCons (tC (.ty T)) tNil))
theorem pe_isi {X : Cx} {e : Expr} {te : TE} {x : Str} {T : String} {p1 p2 pos : Pos} (he : PE X e te) (mI : X.mg "isinstance" = none) (mT : X.mg x = none) (hv : bootBuiltins x = some (.type T)) (hT : T ∈ ["int", "bool", "str", "dict", "tuple", "list"] := by decide)
    (gI : Gl X "isinstance" := by rfl) (gT : Gl X x := by rfl) (hn : x ≠ "__name__" := by decide) (hdb : (x == ("__debug__" : Str)) = false := by decide)
    (hs1 : starEach [e, .Name x p2] X.env = (false, eval e X.env) :: starEach [.Name x p2] X.env := by rfl) (hs2 : starEach [Expr.Name x p2] X.env = (false, eval (.Name x p2) X.env) :: starEach [] X.env := by rfl)
    (hpl : (backTo pos (starEach [.Name x p2] X.env)).any (·.1) = false := by rfl) :
    PE X (.Call (.Name "isinstance" p1) [e, .Name x p2] [] pos) (tIsi T te) :=
  pe_callB (call_isiN hT) gI mI (by decide +kernel) (pa_cons he (pa_cons (pe_bltn (v := .ty T) gT mT hv rfl hn hdb) pa_nil hs2) hs1) (by decide) (by decide) hs1 hpl
theorem bT_int : bootBuiltins "int" = some (.type "int") := by decide +kernel
theorem bT_bool : bootBuiltins "bool" = some (.type "bool") := by decide +kernel
theorem bT_str : bootBuiltins "str" = some (.type "str") := by decide +kernel
theorem bT_dict : bootBuiltins "dict" = some (.type "dict") := by decide +kernel
theorem bT_tuple : bootBuiltins "tuple" = some (.type "tuple") := by decide +kernel
theorem bT_list : bootBuiltins "list" = some (.type "list") := by decide +kernel
/-! ### what the top has written -/
structure Txt (K : PySem.W.Frag) (mg : Str → Option Value) (CB CT CL : Addr) : Prop where
  isi : mg "isinstance" = none
  int : mg "int" = none
  bool : mg "bool" = none
  str : mg "str" = none
  dict : mg "dict" = none
  tuple : mg "tuple" = none
  list : mg "list" = none
  len : mg "len" = none
  enum : mg "enumerate" = none
  sorted : mg "sorted" = none
  range : mg "range" = none
  min : mg "min" = none
  max : mg "max" = none
  abs : mg "abs" = none
  all : mg "all" = none
  sq : ∃ t, mg "MOST_SQUARE" = some (.int (10 ^ 30) t)
  coins : ∃ t, mg "MOST_COINS" = some (.int 12 t)
  few : ∃ t, mg "MOST_FEW" = some (.int 4 t)
  srch : ∃ t, mg "MOST_SEARCHED" = some (.int 11 t)
  -- the errors
  gB : mg "BadStanding" = some (.ref CB)
  oB : OexC K CB
  fB : PySem.W.findIn K (.ref CB) "index" = some none
  xB : XfC K CB
  gT : mg "TooGreat" = some (.ref CT)
  kT : PySem.W.keepIn K (.ref CT) = true
  eT : PySem.W.excIn K CT [.type "ValueError", .type "Exception", .type "BaseException", .type "object"] "ValueError.__new__" = true
  sT : PySem.W.subIn K (.ref CT) (.type "BaseException") = some true
  tT : PySem.W.typeIn K (.ref CT) = some (.type "type")
  mBB : PySem.W.exmOne K (.ref CB) (.ref CB) = some true
  mTB : PySem.W.exmOne K (.ref CT) (.ref CB) = some false
  mTT : PySem.W.exmOne K (.ref CT) (.ref CT) = some true
  -- the search
  gL : mg "Lasting" = some (.ref CL)
  cL : Cls K CL
  nL : NoAttr K CL "known"
/-- a tuple of whole numbers at a -/
def TupI (H : Hp) (a : Addr) (s : List Int) : Prop := H a = some (.tup (s.map V.int))
theorem TupI.same {H H' : Hp} {a : Addr} {s : List Int} (h : TupI H a s) (e : Same H H') : TupI H' a s := e _ _ h
theorem same_upd {H : Hp} {a : Addr} {o : HO} (h : H a = none) : Same H (upd H a o) := fun b u e => by rw [upd_ne (ne_of_none e h)]; exact e
theorem same_upd' {H H1 : Hp} {a : Addr} {o : HO} (e : Same H H1) (h : H a = none) : Same H (upd H1 a o) := fun b u z => by rw [upd_ne (ne_of_none z h)]; exact e b u z
end Sq
/-! SqA: standings.py. -/
namespace Sq
open PySem L2 PyProof.Rows
section
variable {P : Program} {w : World} {K : PySem.W.Frag} {mg : Str → Option Value} {base : Heap} {CB CT CL : Addr}
/-! ### is_integer, is_from -/
def spIsInt : Sp := fun vs H Q _ => ∃ x n, vs = [x] ∧ tyN x H = some n ∧ Q (.bl (n == "int")) H
theorem scIsInt : FnScope ["value"] ["value"] (defScope sIsInt) := ⟨rfl, rfl, rfl, by decide +kernel, rfl, by decide +kernel, by decide +kernel⟩
theorem int_not_bool : ∀ n ∈ tyNames, (subT n "int" && !subT n "bool") = (n == "int") := by decide +kernel
theorem ok_isInt {f : Addr} {fd : FuncData} (F : Fun K "is_integer" "is_integer" sIsInt f fd) (T : Txt K mg CB CT CL) : FnOk P w K mg base CX0 1 f fd ["value"] spIsInt := by
  refine F.ok scIsInt (fun vs H Q E h => ?_) (fun cdv A outer s H vs Q E hr h => ?_)
  · obtain ⟨x, n, rfl, _⟩ := h
    rfl
  · obtain ⟨x, n, rfl, hx, q⟩ := h
    refine ⟨_, pss_one (ps_ret (pe_and (pe_isi (pv 0) T.isi T.int bT_int) (pe_one (pe_not (pe_isi (pv 0) T.isi T.bool bT_bool))))), ?_⟩
    refine ⟨_, rfl, _, n, rfl, hx, _, rfl, ?_⟩
    rw [← int_not_bool n (tyN_ok (K := K) hx).2] at q
    refine ite2 (fun e => ?_) (fun e => ?_)
    · refine ⟨_, rfl, _, n, rfl, hx, _, rfl, ?_⟩
      rw [e, Bool.true_and] at q
      exact q
    · rw [Bool.eq_false_iff.mpr e, Bool.false_and] at q
      exact q
def fromB (x : V) (lo hi : Int) : Bool := match x with
  | .int v => decide (lo ≤ v) && decide (v ≤ hi)
  | _ => false
theorem tyN_int {x : V} {H : Hp} {n : String} (h : tyN x H = some n) : (n == "int") = true ↔ ∃ v, x = .int v := by
  constructor
  · intro e
    have e' : n = "int" := by simpa using e
    subst e'
    cases x with
    | int v => exact ⟨v, rfl⟩
    | ref a =>
      unfold tyN at h
      dsimp only at h
      split at h <;> simp at h
    | _ => simp [tyN] at h
  · rintro ⟨v, rfl⟩
    have e : n = "int" := (Option.some.inj h).symm
    rw [e]
    rfl
def spIsFrom : Sp := fun vs H Q _ => ∃ x n lo hi, vs = [x, .int lo, .int hi] ∧ tyN x H = some n ∧ Q (.bl (fromB x lo hi)) H
theorem scIsFrom : FnScope ["value", "low", "high"] ["value", "low", "high"] (defScope sIsFrom) := ⟨rfl, rfl, rfl, by decide +kernel, rfl, by decide +kernel, by decide +kernel⟩
theorem ok_isFrom {f : Addr} {fd : FuncData} (F : Fun K "is_from" "is_from" sIsFrom f fd) (GI : Has P w K mg base CX0 1 "is_integer" ["value"] spIsInt) : FnOk P w K mg base CX0 2 f fd ["value", "low", "high"] spIsFrom := by
  refine F.ok scIsFrom (fun vs H Q E h => ?_) (fun cdv A outer s H vs Q E hr h => ?_)
  · obtain ⟨x, n, lo, hi, rfl, _⟩ := h
    rfl
  · obtain ⟨x, n, lo, hi, rfl, hx, q⟩ := h
    refine ⟨_, pss_one (ps_ret (pe_and (pe_has GI hr pass0 (pa_cons (pv 0) pa_nil)) (pe_one (pe_chain op_le op_le (pv 1) (pv 0) (pv 2))))), ?_⟩
    refine ⟨_, rfl, x, n, rfl, hx, _, rfl, ?_⟩
    refine ite2 (fun e => ?_) (fun e => ?_)
    · obtain ⟨v, rfl⟩ := (tyN_int hx).mp e
      refine ⟨_, rfl, _, rfl, _, _, rfl, rfl, _, rfl, ?_⟩
      refine ite2 (fun h1 => ?_) (fun h1 => ?_)
      · refine ⟨_, rfl, _, _, rfl, rfl, ?_⟩
        have q' : Q (.bl (decide (lo ≤ v) && decide (v ≤ hi))) H := q
        rw [h1, Bool.true_and] at q'
        exact q'
      · have q' : Q (.bl (decide (lo ≤ v) && decide (v ≤ hi))) H := q
        rw [Bool.eq_false_iff.mpr h1, Bool.false_and] at q'
        exact q'
    · have z : fromB x lo hi = false := by
        cases x with
        | int v => exact absurd ((tyN_int hx).mpr ⟨v, rfl⟩) e
        | _ => rfl
      rw [z] at q
      exact q
/-! ### BadStanding.__init__ -/
def spBI : Sp := fun vs H Q _ => ∃ (a C : Addr) (v : V), vs = [.ref a, v] ∧ OexC K C ∧ PySem.W.findIn K (.ref C) "index" = some none ∧ H a = some (exo a C none) ∧
  ∀ dx, H dx = none → dx ≠ a → Q .non (upd (upd H dx (exd dx [("index", v)])) a (exo a C (some dx)))
theorem scBI : FnScope ["self", "index"] ["self", "index"] (defScope sBadInit) := ⟨rfl, rfl, rfl, by decide +kernel, rfl, by decide +kernel, by decide +kernel⟩
theorem ok_badInit {f : Addr} {fd : FuncData} (F : Fun K "__init__" "BadStanding.__init__" sBadInit f fd) : FnOk P w K mg base CX0 1 f fd ["self", "index"] (spBI (K := K)) := by
  refine F.ok scBI (fun vs H Q E h => ?_) (fun cdv A outer s H vs Q E hr h => ?_)
  · obtain ⟨a, C, v, rfl, _⟩ := h
    rfl
  · obtain ⟨a, C, v, rfl, o, no, ea, q⟩ := h
    refine ⟨_, pss_one (ps_ost (pv 0) (pv 1)), ?_⟩
    exact ⟨_, rfl, _, rfl, a, C, rfl, o, no, .inl ⟨ea, q⟩⟩
structure BadMk (P : Program) (w : World) (K : PySem.W.Frag) (mg : Str → Option Value) (base : Heap) (CB : Addr) : Prop where
  ex : ∃ (fI : Addr) (fd : FuncData), PySem.W.findIn K (.ref CB) "__init__" = some (some (.ref fI)) ∧ PySem.W.typeIn K (.ref fI) = some (.type "function") ∧ Binds K fd ["self", "index"] [] ∧ FnOk P w K mg base CX0 1 fI fd ["self", "index"] (spBI (K := K))
/-- what is wanted of BadStanding(v) -/
def WantB (CB : Addr) (H : Hp) (E : XK) (v : V) : Prop := ∀ (d : Addr) (H' : Hp), H d = none → Same H H' → H' d = some (.xd [("index", v)]) → E (.ref CB) (some d) H'
/-- raise BadStanding(e) -/
def tRaiseB (CB : Addr) (W : WX) (te : TE) : TS := fun _ σ H => te σ H fun v H1 => ∀ (d : Addr) (H' : Hp), H1 d = none → Same H1 H' → H' d = some (.xd [("index", v)]) → W (.ref CB) (some d) σ H'
theorem ps_raiseB {X : Cx} {W : WX} {e : Expr} {te : TE} {p pos pos' : Pos} (M : BadMk X.prog X.w X.K X.mg X.base CB) (T : Txt X.K X.mg CB CT CL) (hr : Room 2 X.A) (hc : X.calm = true) (tk : Takes X W) (he : PE X e te)
    (mono : ∀ (σ : L2.St) (H : Hp) (Q Q' : VK), (∀ v H1, Q v H1 → Q' v H1) → te σ H Q → te σ H Q') (hg : Gl X "BadStanding" := by rfl)
    (hst : starEach [e] X.env = (false, eval e X.env) :: starEach [] X.env := by rfl) (hpl : (backTo pos (starEach [] X.env)).any (·.1) = false := by rfl) :
    PS X (.Raise (some (.Call (.Name "BadStanding" p) [e] [] pos)) none pos') (tRaiseB CB W te) := by
  obtain ⟨fI, fd, iC, tI, b, F⟩ := M.ex
  refine ⟨fun pins s σ H D I h => (ps_raise hc tk (pmk_oex T.oB iC tI F hr b .nil pass0 hg T.gB (pa_cons he pa_nil hst) (by decide) hst hpl)).run pins s σ H D I ?_⟩
  refine mono σ H _ _ (fun v H1 q => ?_) h
  refine ⟨by show 1 ≤ 1000; decide, fun a na => ⟨a, CB, v, rfl, T.oB, T.fB, upd_same, fun dx nd ne => ⟨rfl, dx, [("index", v)], upd_same, ?_, ?_, ?_⟩⟩⟩
  · rw [upd_ne ne, upd_same]
  · rw [upd_ne ne] at nd
    exact nd
  · rw [upd_ne ne] at nd
    refine q dx _ nd (fun b o z => ?_) upd_same
    have n1 : b ≠ dx := ne_of_none z nd
    have n2 : b ≠ a := ne_of_none z na
    rw [upd_ne n1, del_ne n2, upd_ne n2, upd_ne n1, upd_ne n2]
    exact z
theorem mono_tC {v : V} : ∀ (σ : L2.St) (H : Hp) (Q Q' : VK), (∀ v H1, Q v H1 → Q' v H1) → tC v σ H Q → tC v σ H Q' := fun _ _ _ _ k q => k _ _ q
theorem mono_tVar {i : Nat} : ∀ (σ : L2.St) (H : Hp) (Q Q' : VK), (∀ v H1, Q v H1 → Q' v H1) → tVar i σ H Q → tVar i σ H Q' := fun _ _ _ _ k ⟨v, e, q⟩ => ⟨v, e, k _ _ q⟩
/-! ### check_standing -/
def big : Int := 10 ^ 30
/-- the i-th thing is a square above the one ahead -/
def okAt (xs : List V) (i : Nat) : Bool := match xs[i]? with
  | some (.int v) => decide (0 ≤ v) && decide (v ≤ big) && (i == 0 || (match xs[i - 1]? with
    | some (.int u) => decide (u < v)
    | _ => false))
  | _ => false
def BadIx (xs : List V) (i : Nat) : Prop := i < xs.length ∧ okAt xs i = false ∧ ∀ j, j < i → okAt xs j = true
/-- x is no standing; v is the index that is told -/
def Bad (H : Hp) (x v : V) : Prop :=
  (∃ n, tyN x H = some n ∧ n ≠ "tuple" ∧ v = .non) ∨
  (∃ a xs, x = .ref a ∧ H a = some (.tup xs) ∧ ((12 < xs.length ∧ v = .non) ∨ (xs.length ≤ 12 ∧ (∀ y ∈ xs, ∃ n, tyN y H = some n) ∧ ∃ i : Nat, BadIx xs i ∧ v = .int i)))
theorem Bad.same {H H' : Hp} {x v : V} (s : Same H H') (h : Bad H x v) : Bad H' x v := by
  rcases h with ⟨n, a, b, c⟩ | ⟨a, xs, e, ha, h⟩
  · exact .inl ⟨n, tyN_same s a, b, c⟩
  · refine .inr ⟨a, xs, e, s _ _ ha, ?_⟩
    rcases h with h | ⟨l, k, r⟩
    · exact .inl h
    · exact .inr ⟨l, fun y hy => let ⟨n, e⟩ := k y hy; ⟨n, tyN_same s e⟩, r⟩
/-- a standing, any -/
def FineL (s : List Int) : Prop := s.length ≤ 12 ∧ s.Pairwise (· < ·) ∧ ∀ x ∈ s, 0 ≤ x ∧ x ≤ big
theorem fine_at {s : List Int} (h : FineL s) {i : Nat} (hi : i < s.length) : okAt (s.map V.int) i = true := by
  obtain ⟨_, pw, bd⟩ := h
  have e : (s.map V.int)[i]? = some (.int s[i]) := by simp [hi]
  obtain ⟨b1, b2⟩ := bd s[i] (List.getElem_mem hi)
  unfold okAt
  rw [e]
  simp only [Bool.and_eq_true, Bool.or_eq_true, decide_eq_true_eq, beq_iff_eq]
  refine ⟨⟨b1, b2⟩, ?_⟩
  by_cases h0 : i = 0
  · exact .inl h0
  · right
    have hj : i - 1 < s.length := by omega
    have e2 : (s.map V.int)[i - 1]? = some (.int s[i - 1]) := by simp [hj]
    rw [e2]
    exact decide_eq_true (List.pairwise_iff_getElem.mp pw (i - 1) i hj hi (by omega))
def spCheck (CB : Addr) : Sp := fun vs H Q E => ∃ x, vs = [x] ∧
  ((∃ v, Bad H x v ∧ WantB CB H E v) ∨ (∃ a s, x = .ref a ∧ TupI H a s ∧ FineL s ∧ ∀ H', Same H H' → Q .non H'))
theorem scCheck : FnScope ["standing", "index", "square"] ["standing"] (defScope sCheck) := ⟨rfl, rfl, rfl, by decide +kernel, rfl, by decide +kernel, by decide +kernel⟩
theorem check_cases {CB : Addr} {H : Hp} {Q : VK} {E : XK} {x : V} (h : (∃ v, Bad H x v ∧ WantB CB H E v) ∨ (∃ a s, x = .ref a ∧ TupI H a s ∧ FineL s ∧ ∀ H', Same H H' → Q .non H')) :
    (∃ n, tyN x H = some n ∧ n ≠ "tuple" ∧ WantB CB H E .non) ∨ (∃ a xs, x = .ref a ∧ H a = some (.tup xs) ∧ ((12 < xs.length ∧ WantB CB H E .non) ∨
      (xs.length ≤ 12 ∧ (∀ y ∈ xs, ∃ n, tyN y H = some n) ∧ (∀ i : Nat, BadIx xs i → WantB CB H E (.int i)) ∧ ((∀ i, i < xs.length → okAt xs i = true) → ∀ H', Same H H' → Q .non H')))) := by
  rcases h with ⟨v, hb, wb⟩ | ⟨a, s, rfl, hT, fine, q⟩
  · rcases hb with ⟨n, hn, ne, rfl⟩ | ⟨a, xs, rfl, hT, hb⟩
    · exact .inl ⟨n, hn, ne, wb⟩
    · refine .inr ⟨a, xs, rfl, hT, ?_⟩
      rcases hb with ⟨l12, rfl⟩ | ⟨l12, known, i, ⟨hi, bad, before⟩, rfl⟩
      · exact .inl ⟨l12, wb⟩
      · refine .inr ⟨l12, known, fun j ⟨hj, badj, beforej⟩ => ?_, fun all => ?_⟩
        · have e : j = i := by
            rcases Nat.lt_trichotomy j i with z | z | z
            · rw [before j z] at badj; cases badj
            · exact z
            · rw [beforej i z] at bad; cases bad
          rw [e]
          exact wb
        · rw [all i hi] at bad
          cases bad
  · refine .inr ⟨a, s.map V.int, rfl, hT, .inr ⟨by rw [List.length_map]; exact fine.1, fun y hy => ?_, fun i ⟨hi, bad, _⟩ => ?_, fun _ => q⟩⟩
    · obtain ⟨z, _, rfl⟩ := List.mem_map.mp hy
      exact ⟨"int", rfl⟩
    · rw [List.length_map] at hi
      rw [fine_at fine hi] at bad
      cases bad
theorem fromB_at {xs : List V} {i : Nat} {x : V} (e : xs[i]? = some x) (h : fromB x 0 big = false) : okAt xs i = false := by
  unfold okAt
  rw [e]
  cases x with
  | int v =>
    have h' : (decide (0 ≤ v) && decide (v ≤ big)) = false := h
    simp only [h', Bool.false_and]
  | _ => rfl
theorem fromB_ok {xs : List V} {i : Nat} {x : V} (e : xs[i]? = some x) (h : fromB x 0 big = true) : ∃ v, x = .int v ∧ okAt xs i = (i == 0 || (match xs[i - 1]? with
    | some (.int u) => decide (u < v)
    | _ => false)) := by
  cases x with
  | int v =>
    have h' : (decide (0 ≤ v) && decide (v ≤ big)) = true := h
    refine ⟨v, rfl, ?_⟩
    unfold okAt
    rw [e]
    simp only [h', Bool.true_and]
  | _ => cases h
theorem okAt_int {xs : List V} {i : Nat} (h : okAt xs i = true) : ∃ v, xs[i]? = some (.int v) := by
  unfold okAt at h
  split at h
  · exact ⟨_, by assumption⟩
  · cases h
theorem ok_check {f : Addr} {fd : FuncData} (F : Fun K "check_standing" "check_standing" sCheck f fd) (T : Txt K mg CB CT CL) (M : BadMk P w K mg base CB) (GF : Has P w K mg base CX0 2 "is_from" ["value", "low", "high"] spIsFrom) :
    FnOk P w K mg base (L2.CX P w) 4 f fd ["standing"] (spCheck CB) := by
  refine F.okX scCheck (fun vs H Q E h => ?_) (fun cdv A outer s H vs Q E hr h => ?_)
  · obtain ⟨x, rfl, _⟩ := h
    rfl
  · obtain ⟨x, rfl, h⟩ := h
    obtain ⟨t12, h12⟩ := T.coins
    obtain ⟨tsq, hsq⟩ := T.sq
    have hr2 : Room 2 _ := hr.mono (by decide)
    refine ⟨_, pss_cons (ps_if (PW.pt (pw_or (pt_not (pt_val (pe_isi (pv 0) T.isi T.tuple bT_tuple))) (pw_or1 (pt_cmpR op_gt (pe_callB call_len (by rfl) T.len PySem.boot_len (pa_cons (pv 0) pa_nil)) (pe_glob (v := .int 12) rfl h12 ⟨t12, rfl⟩) (nomark _)))))
        (pss_one (ps_raiseB M T hr2 rfl (takes_of rfl rfl rfl rfl) pe_non mono_tC)) pss_nil)
      (pss_one (ps_for (passes_of rfl) rfl (pi_enumT (by rfl) T.enum (pa_cons (pv 0) pa_nil)) (pg_tup rfl (pgs_cons (pg_name (i := 1) scCheck.nd rfl (.inl rfl)) (pgs_cons (pg_name (i := 2) scCheck.nd rfl (.inl rfl)) pgs_nil)))
        (pss_one (ps_if (PW.pt (pw_or (pt_not (pt_val (pe_has GF hr2 pass0 (pa_cons (pv 2) (pa_cons pe_int (pa_cons (pe_glob (v := .int big) rfl hsq ⟨tsq, rfl⟩) pa_nil)))))) (pw_or1 (PW.pt (pw_and (pt_cmpR op_gt (pv 1) pe_int (nomark _)) (pw_and1 (pt_cmpR op_le (pv 2) (pe_ix ix_tup (pv 0) (pe_op op_sub (pv 1) pe_int) (fun _ _ => rfl)) (nomark _))))))))
          (pss_one (ps_raiseB M T hr2 rfl (takes_of rfl rfl rfl rfl) (pv 1) mono_tVar)) pss_nil)))), ?_⟩
    rcases check_cases h with ⟨n, hn, ne, wb⟩ | ⟨a, xs, rfl, hT, h⟩
    · refine ⟨_, rfl, _, n, rfl, hn, _, rfl, ?_⟩
      have z : subT n "tuple" = false := by
        obtain ⟨_, hm⟩ := tyN_ok (K := K) hn
        have all : ∀ n ∈ tyNames, n ≠ "tuple" → subT n "tuple" = false := by decide +kernel
        exact all n hm ne
      rw [z]
      exact iteT (iteT wb)
    · refine ⟨_, rfl, _, "tuple", rfl, tyN_tup hT, _, rfl, ?_⟩
      refine iteF ⟨_, rfl, _, xs.length, rfl, .inr ⟨xs, SqT.of hT, rfl⟩, _, _, rfl, rfl, _, rfl, ?_⟩
      rcases h with ⟨l12, wb⟩ | ⟨l12, known, kb, kg⟩
      · rw [show decide ((12 : Int) < (xs.length : Int)) = true from decide_eq_true (by omega)]
        exact iteT wb
      · rw [show decide ((12 : Int) < (xs.length : Int)) = false from decide_eq_false (by omega)]
        refine iteF ⟨_, rfl, a, xs, rfl, SqT.of hT, for_it walk_enumT (fun i σ H' => (∃ u v : Option V, σ = [some (.ref a), u, v]) ∧ Same H H' ∧ ∀ j, j < i → okAt xs j = true) ⟨⟨none, none, rfl⟩, Same.refl H, fun j z => absurd z (Nat.not_lt_zero j)⟩ (fun i σ H' _ ⟨_, sm, _⟩ => SqT.of (sm _ _ hT)) ?_ ?_⟩
        · rintro i y σ H1 H2 hi ⟨⟨u, v, rfl⟩, sm, before⟩ ⟨tp, a1, b1, rfl, nt, rfl, e1, e2⟩
          have e1' := Option.some.inj e1
          subst e1'
          have sm2 : Same H (upd H1 tp (.tup [.int (i : Nat), b1])) := same_upd' sm (sm.free nt)
          refine ⟨tp, _, rfl, SqT.of upd_same, rfl, _, _, rfl, _, _, rfl, ⟨rfl, ?_⟩⟩
          obtain ⟨n, hn⟩ := known b1 (List.mem_of_getElem? e2)
          refine ⟨_, rfl, b1, n, 0, big, rfl, tyN_same sm2 hn, _, rfl, ?_⟩
          cases hf : fromB b1 0 big with
          | false =>
            refine iteT (iteT ⟨_, rfl, fun d H' nd s2 hd => ?_⟩)
            exact kb i ⟨hi, fromB_at e2 hf, before⟩ d H' (sm2.free nd) (sm2.trans s2) hd
          | true =>
            obtain ⟨v1, rfl, eo⟩ := fromB_ok e2 hf
            refine iteF ⟨_, rfl, _, _, rfl, rfl, _, rfl, ?_⟩
            by_cases hi0 : i = 0
            · rw [show decide ((0 : Int) < (i : Int)) = false from decide_eq_false (by omega)]
              refine iteF (iteF ⟨⟨_, _, rfl⟩, sm2, fun j hj => ?_⟩)
              have ej : j = i := by omega
              rw [ej, eo, hi0]
              rfl
            · rw [show decide ((0 : Int) < (i : Int)) = true from decide_eq_true (by omega)]
              obtain ⟨u1, hu1⟩ := okAt_int (before (i - 1) (by omega))
              have at1 : atI xs ((i : Int) - 1) = some (.int u1) := by
                have := atI_nat hu1
                rw [show ((i : Int) - 1) = ((i - 1 : Nat) : Int) by omega]
                exact this
              refine iteT ⟨_, rfl, _, rfl, _, rfl, _, _, rfl, rfl, a, xs, _, _, rfl, rfl, SqT.of (sm2 _ _ hT), at1, _, _, rfl, rfl, _, rfl, ?_⟩
              have eo' : okAt xs i = decide (u1 < v1) := by
                rw [eo, hu1, show (i == 0) = false from beq_eq_false_iff_ne.mpr hi0]
                rfl
              by_cases hv : v1 ≤ u1
              · rw [decide_eq_true hv]
                refine iteT ⟨_, rfl, fun d H' nd s2 hd => ?_⟩
                exact kb i ⟨hi, by rw [eo']; exact decide_eq_false (by omega), before⟩ d H' (sm2.free nd) (sm2.trans s2) hd
              · rw [decide_eq_false hv]
                refine iteF ⟨⟨_, _, rfl⟩, sm2, fun j hj => ?_⟩
                rcases Nat.lt_or_ge j i with z | z
                · exact before j z
                · have ej : j = i := by omega
                  rw [ej, eo']
                  exact decide_eq_true (by omega)
        · rintro σ H' ⟨_, sm, all⟩
          exact kg all H' sm
end
end Sq
/-! SqB: without, moved, low_bit, nearest, mated, by_mates. -/
namespace Sq
open PySem L2 PyProof.Rows
theorem take_more {α : Type} : ∀ {l : List α} {i : Nat} {x : α}, l[i]? = some x → l.take (i + 1) = l.take i ++ [x]
  | [], i, x, h => by simp at h
  | a :: l, 0, x, h => by
    have e : a = x := Option.some.inj h
    rw [e]
    rfl
  | a :: l, i + 1, x, h => by
    have ih := take_more (l := l) (i := i) (x := x) h
    show a :: l.take (i + 1) = a :: (l.take i ++ [x])
    rw [ih]
theorem filter_more {α : Type} {l : List α} {i : Nat} {x : α} (p : α → Bool) (h : l[i]? = some x) : (l.take (i + 1)).filter p = (l.take i).filter p ++ (if p x = true then [x] else []) := by
  rw [take_more h, List.filter_append]
  cases e : p x <;> simp [e]
theorem map_at {α β : Type} {f : α → β} {l : List α} {i : Nat} {y : β} (h : (l.map f)[i]? = some y) : ∃ x, l[i]? = some x ∧ y = f x := by
  rw [List.getElem?_map] at h
  cases e : l[i]? with
  | none => rw [e] at h; cases h
  | some x => rw [e] at h; exact ⟨x, rfl, (Option.some.inj h).symm⟩
theorem small100 {n : Nat} (h : n ≤ 100) : n < sizeLine := small1000 (by omega)
theorem small1M {n : Nat} (h : n ≤ 1000000) : n < sizeLine := Nat.lt_of_le_of_lt h (by rw [sizeLine_eq]; decide)
section
variable {P : Program} {w : World} {K : PySem.W.Frag} {mg : Str → Option Value} {base : Heap} {CB CT CL : Addr}
/-! ### without, moved -/
def spWithout : Sp := fun vs H Q _ => ∃ (a : Addr) (s : List Int) (one : Int), vs = [.ref a, .int one] ∧ TupI H a s ∧ s.length ≤ 100 ∧ ∀ p H', Same H H' → TupI H' p (s.filter fun x => !(x == one)) → Q (.ref p) H'
theorem scWithout : FnScope ["standing", "one", "square"] ["standing", "one"] (defScope sWithout) := ⟨rfl, rfl, rfl, by decide +kernel, rfl, by decide +kernel, by decide +kernel⟩
theorem ok_without {f : Addr} {fd : FuncData} (F : Fun K "without" "without" sWithout f fd) (T : Txt K mg CB CT CL) : FnOk P w K mg base CX0 1 f fd ["standing", "one"] spWithout := by
  refine F.ok scWithout (fun vs H Q E h => ?_) (fun cdv A outer s H vs Q E hr h => ?_)
  · obtain ⟨a, s, one, rfl, _⟩ := h
    rfl
  · obtain ⟨a, s, one, rfl, hT, hl, q⟩ := h
    refine ⟨_, pss_one (ps_ret (pe_callTy call_tuple_of rfl T.tuple bT_tuple (pa_cons (pe_lc (own := [("square", 2)]) (g := gName 2) rfl scWithout.nd (pi_tup (pv 0)) (blkOk_by (own := [("square", 2)]) (N := ["standing", "one", "square"]) (sc := defScope sWithout) (by decide +kernel))
      (fun _ _ _ _ _ => pg_name (i := 2) scWithout.nd rfl (.inl rfl)) (fun _ _ _ _ _ => pts_one (pt_cmpR op_ne (pv 2) (pv 1) (nomark _))) (fun _ _ _ _ _ => pv 2)) pa_nil))), ?_⟩
    refine ⟨_, rfl, a, rfl, ⟨_, SqT.of hT⟩, fun D nD => lc_tup (K := K) (a := a) (xs := s.map V.int) (fun i H' => Same H H' ∧ H' D = some (.lst (((s.take i).filter fun x => !(x == one)).map V.int)))
      ⟨same_upd nD, upd_same⟩ (fun i H' _ ⟨sm, _⟩ => SqT.of (sm _ _ hT)) ?_ ?_⟩
    · rintro i y H' hi ⟨sm, hD⟩
      obtain ⟨x, hx, rfl⟩ := map_at hi
      have more := filter_more (fun x => !(x == one)) hx
      refine ⟨rfl, _, rfl, _, rfl, rfl, _, rfl, ?_⟩
      rw [dec_int]
      cases e : (x == one) with
      | true =>
        rw [e] at more
        refine iteF ⟨sm, ?_⟩
        rw [hD, more]
        simp
      | false =>
        rw [e] at more
        refine iteT ⟨_, rfl, _, hD, small100 (Nat.le_trans (by rw [List.length_map]; exact Nat.le_trans (List.length_filter_le _ _) (by rw [List.length_take]; exact Nat.min_le_right _ _)) hl), same_upd' sm nD, ?_⟩
        rw [upd_same, more]
        simp
    · rintro H' ⟨sm, hD⟩
      rw [List.length_map, List.take_length] at hD
      exact ⟨D, _, rfl, .inl ⟨SqL.of hD, fun l nl => q l _ (same_upd' sm (sm.free nl)) upd_same⟩⟩
def spMoved : Sp := fun vs H Q _ => ∃ (a : Addr) (s : List Int) (one to : Int), vs = [.ref a, .int one, .int to] ∧ TupI H a s ∧ s.length ≤ 99 ∧ ∀ p H', Same H H' → TupI H' p (movedF s one to) → Q (.ref p) H'
theorem scMoved : FnScope ["standing", "one", "to"] ["standing", "one", "to"] (defScope sMoved) := ⟨rfl, rfl, rfl, by decide +kernel, rfl, by decide +kernel, by decide +kernel⟩
theorem ok_moved {f : Addr} {fd : FuncData} (F : Fun K "moved" "moved" sMoved f fd) (T : Txt K mg CB CT CL) (GW : Has P w K mg base CX0 1 "without" ["standing", "one"] spWithout) : FnOk P w K mg base CX0 2 f fd ["standing", "one", "to"] spMoved := by
  refine F.ok scMoved (fun vs H Q E h => ?_) (fun cdv A outer s H vs Q E hr h => ?_)
  · obtain ⟨a, s, one, to, rfl, _⟩ := h
    rfl
  · obtain ⟨a, s, one, to, rfl, hT, hl, q⟩ := h
    refine ⟨_, pss_one (ps_ret (pe_callTy call_tuple_of rfl T.tuple bT_tuple (pa_cons (pe_callB cr_sortedI rfl T.sorted (by decide +kernel) (pa_cons (pe_lst (StX.pa_star (pe_has GW hr pass0 (pa_cons (pv 0) (pa_cons (pv 1) pa_nil))) (pa_cons (pv 2) pa_nil))) pa_nil)) pa_nil))), ?_⟩
    refine ⟨_, rfl, _, rfl, a, s, one, rfl, hT, by omega, fun p H1 sm hp => ?_⟩
    have len : (s.filter fun x => !(x == one)).length ≤ 99 := Nat.le_trans (List.length_filter_le _ _) hl
    refine ⟨p, _, rfl, .inl (SqT.of hp), _, rfl, ?_, fun l nl => ?_⟩
    · refine Nat.le_of_lt (small100 ?_)
      rw [List.length_append, List.length_map]
      simp only [List.length_cons, List.length_nil]
      omega
    · refine ⟨l, (s.filter fun x => !(x == one)) ++ [to], rfl, SqL.of (by rw [upd_same, List.map_append]; rfl), fun ns r perm srt nr => ?_⟩
      have sm1 : Same H (upd H1 l (.lst ((s.filter fun x => !(x == one)).map V.int ++ [V.int to]))) := same_upd' sm (sm.free nl)
      have sm2 := same_upd' (o := .lst (ns.map V.int)) sm1 (sm1.free nr)
      refine ⟨r, ns.map V.int, rfl, .inl ⟨SqL.of upd_same, fun t nt => q t _ (same_upd' sm2 (sm2.free nt)) ?_⟩⟩
      rw [← moved_is perm srt]
      exact upd_same
/-! ### low_bit -/
def spLow : Sp := fun vs H Q _ => ∃ n : Int, vs = [.int n] ∧ Q (.int (lowBit n)) H
theorem scLow : FnScope ["number"] ["number"] (defScope sLow) := ⟨rfl, rfl, rfl, by decide +kernel, rfl, by decide +kernel, by decide +kernel⟩
theorem ok_low {f : Addr} {fd : FuncData} (F : Fun K "low_bit" "low_bit" sLow f fd) : FnOk P w K mg base CX0 1 f fd ["number"] spLow := by
  refine F.ok scLow (fun vs H Q E h => ?_) (fun cdv A outer s H vs Q E hr h => ?_)
  · obtain ⟨n, rfl, _⟩ := h
    rfl
  · obtain ⟨n, rfl, q⟩ := h
    refine ⟨_, pss_one (ps_ret (pe_op op_and (pv 0) (pe_op op_sub pe_int (pv 0)))), ?_⟩
    exact ⟨_, rfl, _, rfl, _, _, rfl, rfl, _, _, rfl, rfl, q⟩
end
end Sq
/-! SqC: nearest, mated, by_mates. -/
namespace Sq
open PySem L2 PyProof.Rows
theorem cut_drop (s : List Int) (k : Nat) : cutV (s.map V.int) (some (k : Int)) none = (s.drop k).map V.int := by
  unfold cutV
  rw [HT.sIx_nat, HT.sIx_none, List.length_map, ← List.map_drop, ← List.map_take]
  congr 1
  rcases Nat.le_total k s.length with h | h
  · rw [Nat.min_eq_left h]
    exact List.take_of_length_le (by rw [List.length_drop]; exact Nat.le_refl _)
  · rw [Nat.min_eq_right h, List.drop_of_length_le (Nat.le_refl _), List.drop_of_length_le h, List.take_nil]
theorem nearSt_succ {s : List Int} {i : Nat} {one : Int} (h : s[i]? = some one) : nearSt s (i + 1) = (s.drop (i + 1)).foldl (nStep one) (nearSt s i) := by
  unfold nearSt
  rw [List.range_succ, List.foldl_append]
  show nRow s _ i = _
  unfold nRow
  rw [h]
theorem foldl_more {α β : Type} {f : β → α → β} {l : List α} {i : Nat} {x : α} {b : β} (h : l[i]? = some x) : (l.take (i + 1)).foldl f b = f ((l.take i).foldl f b) x := by
  rw [take_more h, List.foldl_append]
  rfl
/-- the pair that is kept -/
def PairIs (H : Hp) (v : V) : Option (Int × Int) → Prop
  | none => v = .non
  | some p => ∃ q, v = .ref q ∧ H q = some (.tup [.int p.1, .int p.2])
theorem PairIs.same {H H' : Hp} {v : V} {o : Option (Int × Int)} (e : Same H H') (h : PairIs H v o) : PairIs H' v o := by
  cases o with
  | none => exact h
  | some p => exact let ⟨q, a, b⟩ := h; ⟨q, a, e _ _ b⟩
/-- tuples of two numbers at these addresses -/
def PairsAt (H : Hp) : List Addr → List (Int × Int) → Prop
  | [], [] => True
  | q :: qs, p :: ps => H q = some (.tup [.int p.1, .int p.2]) ∧ PairsAt H qs ps
  | _, _ => False
theorem PairsAt.same {H H' : Hp} (e : Same H H') : ∀ {qs : List Addr} {ps : List (Int × Int)}, PairsAt H qs ps → PairsAt H' qs ps
  | [], [], _ => trivial
  | _ :: _, _ :: _, h => ⟨e _ _ h.1, PairsAt.same e h.2⟩
theorem PairsAt.snoc {H : Hp} {q : Addr} {p : Int × Int} (h1 : H q = some (.tup [.int p.1, .int p.2])) : ∀ {qs : List Addr} {ps : List (Int × Int)}, PairsAt H qs ps → PairsAt H (qs ++ [q]) (ps ++ [p])
  | [], [], _ => ⟨h1, trivial⟩
  | _ :: _, _ :: _, h => ⟨h.1, PairsAt.snoc h1 h.2⟩
theorem PairsAt.length {H : Hp} : ∀ {qs : List Addr} {ps : List (Int × Int)}, PairsAt H qs ps → qs.length = ps.length
  | [], [], _ => rfl
  | _ :: _, _ :: _, h => congrArg Nat.succ (PairsAt.length h.2)
theorem PairsAt.get {H : Hp} : ∀ {qs : List Addr} {ps : List (Int × Int)}, PairsAt H qs ps → ∀ {i : Nat} {q : Addr}, qs[i]? = some q → ∃ p, ps[i]? = some p ∧ H q = some (.tup [.int p.1, .int p.2])
  | q0 :: qs, p0 :: ps, h, 0, q, e => by
    have e' := Option.some.inj e
    subst e'
    exact ⟨p0, rfl, h.1⟩
  | q0 :: qs, p0 :: ps, h, i + 1, q, e => PairsAt.get h.2 (i := i) (by simpa using e)
  | [], [], _, i, q, e => by simp at e
theorem inV_pair (x a b : Int) : inV (.int x) [.int a, .int b] = (x == a || x == b) := by
  simp only [inV, List.any_cons, List.any_nil, eqV, Bool.or_false]
  rw [Bool.beq_comm (a := x), Bool.beq_comm (a := x)]
section
variable {P : Program} {w : World} {K : PySem.W.Frag} {mg : Str → Option Value} {base : Heap} {CB CT CL : Addr}
def spNearest : Sp := fun vs H Q _ => ∃ (a : Addr) (s : List Int) (p : Int × Int), vs = [.ref a] ∧ H a = some (.lst (s.map V.int)) ∧ nearF s = some p ∧
  ∀ q H', Same H H' → H' q = some (.tup [.int p.1, .int p.2]) → Q (.ref q) H'
theorem scNearest : FnScope ["squares", "best", "pair", "at", "one", "other"] ["squares"] (defScope sNearest) := ⟨rfl, rfl, rfl, by decide +kernel, rfl, by decide +kernel, by decide +kernel⟩
theorem ok_nearest {f : Addr} {fd : FuncData} (F : Fun K "nearest" "nearest" sNearest f fd) (T : Txt K mg CB CT CL) (GL : Has P w K mg base CX0 1 "low_bit" ["number"] spLow) : FnOk P w K mg base CX0 2 f fd ["squares"] spNearest := by
  refine F.ok scNearest (fun vs H Q E h => ?_) (fun cdv A outer s H vs Q E hr h => ?_)
  · obtain ⟨a, s, p, rfl, _⟩ := h
    rfl
  · obtain ⟨a, s, p, rfl, hL, hp, q⟩ := h
    refine ⟨_, pss_cons (ps_asg (pe_tup (pa_cons pe_int (pa_cons pe_non pa_nil))) (pg_tup rfl (pgs_cons (pg_name (i := 1) scNearest.nd rfl (.inl rfl)) (pgs_cons (pg_name (i := 2) scNearest.nd rfl (.inl rfl)) pgs_nil))))
      (pss_cons (ps_for PassesOwn.never rfl (pi_enum (by rfl) T.enum (pa_cons (pv 0) pa_nil)) (pg_tup rfl (pgs_cons (pg_name (i := 3) scNearest.nd rfl (.inl rfl)) (pgs_cons (pg_name (i := 4) scNearest.nd rfl (.inl rfl)) pgs_nil)))
        (pss_one (ps_for PassesOwn.never rfl (pi_list (pe_slice sl_list (pv 0) (po_some (pe_op op_add (pv 3) pe_int)) po_none)) (pg_name (i := 5) scNearest.nd rfl (.inl rfl))
          (pss_one (ps_if (pt_cmpR op_gt (pe_has GL hr pass0 (pa_cons (pe_op op_sub (pv 5) (pv 4)) pa_nil)) (pv 1) (nomark _))
            (pss_one (ps_par (i := 1) (j := 2) rfl scNearest.nd rfl rfl (by decide) rfl rfl (pa_cons (pe_has GL hr pass0 (pa_cons (pe_op op_sub (pv 5) (pv 4)) pa_nil)) (pa_cons (pe_tup (pa_cons (pv 4) (pa_cons (pv 5) pa_nil))) pa_nil)) (by rfl))) pss_nil)))))
      (pss_one (ps_ret (pv 2)))), ?_⟩
    refine ⟨by show 2 ≤ sizeLine; decide, fun t0 nt0 => ?_⟩
    have sm0 : Same H (upd H t0 (.tup [.int 0, .non])) := same_upd nt0
    refine ⟨t0, _, rfl, SqT.of upd_same, rfl, _, _, rfl, _, _, rfl, rfl, ?_⟩
    refine ⟨_, rfl, a, _, rfl, SqL.of (sm0 _ _ hL), for_it walk_enum (fun i σ H' => ∃ (v : V) (u1 u2 u3 : Option V), σ = [some (.ref a), some (.int (nearSt s i).1), some v, u1, u2, u3] ∧ PairIs H' v (nearSt s i).2 ∧ Same H H') ⟨.non, none, none, none, rfl, rfl, sm0⟩ (fun i σ H' _ ⟨_, _, _, _, _, _, sm⟩ => SqL.of (sm _ _ hL)) ?_ ?_⟩
    · rintro i y σ H1 H2 hi ⟨v, u1, u2, u3, rfl, pr, sm⟩ ⟨tp, a1, b1, rfl, nt, rfl, e1, e2⟩
      have e1' := Option.some.inj e1
      subst e1'
      obtain ⟨one, ho, rfl⟩ := map_at e2
      have sm2 : Same H (upd H1 tp (.tup [.int (i : Nat), .int one])) := same_upd' sm (sm.free nt)
      have pr2 := pr.same (same_upd (o := .tup [.int (i : Nat), .int one]) nt)
      refine ⟨tp, _, rfl, SqT.of upd_same, rfl, _, _, rfl, _, _, rfl, rfl, ?_⟩
      -- the rest of the squares, a new list
      refine ⟨_, rfl, _, rfl, _, _, rfl, rfl, _, rfl, a, _, rfl, SqL.of (sm2 _ _ hL), fun l nl => ?_⟩
      have cut : cutV (s.map V.int) (some ((i : Int) + 1)) none = (s.drop (i + 1)).map V.int := cut_drop s (i + 1)
      rw [cut]
      have sm3 := same_upd' (o := .lst ((s.drop (i + 1)).map V.int)) sm2 (sm2.free nl)
      have hl2 : upd (upd H1 tp (.tup [.int (i : Nat), .int one])) l (.lst ((s.drop (i + 1)).map V.int)) l = some (.lst ((s.drop (i + 1)).map V.int)) := upd_same
      have pr3 := pr2.same (same_upd (o := .lst ((s.drop (i + 1)).map V.int)) nl)
      refine ⟨l, rfl, ⟨_, SqL.of hl2⟩, for_list (K := K) (a := l) (xs := (s.drop (i + 1)).map V.int) (fun j σ H' => ∃ (v : V) (u3 : Option V), σ = [some (.ref a), some (.int (((s.drop (i + 1)).take j).foldl (nStep one) (nearSt s i)).1), some v, some (.int (i : Nat)), some (.int one), u3] ∧
        PairIs H' v (((s.drop (i + 1)).take j).foldl (nStep one) (nearSt s i)).2 ∧ Same H H' ∧ H' l = some (.lst ((s.drop (i + 1)).map V.int))) ⟨v, u3, rfl, pr3, sm3, hl2⟩ (fun j σ H' _ ⟨_, _, _, _, _, h⟩ => SqL.of h) ?_ ?_⟩
      · rintro j y σ H3 hj ⟨v, u3, rfl, pr, sm, hl3⟩
        obtain ⟨other, hoth, rfl⟩ := map_at hj
        have more := foldl_more (f := nStep one) (b := nearSt s i) hoth
        generalize hst : ((s.drop (i + 1)).take j).foldl (nStep one) (nearSt s i) = st at pr more ⊢
        refine ⟨_, rfl, _, rfl, _, _, rfl, rfl, _, rfl, _, rfl, _, _, rfl, rfl, _, rfl, ?_⟩
        by_cases hgt : lowBit (other - one) > st.1
        · rw [show decide (st.1 < lowBit (other - one)) = true from decide_eq_true hgt]
          have e3 : nStep one st other = (lowBit (other - one), some (one, other)) := by unfold nStep; rw [if_pos hgt]
          rw [e3] at more
          refine iteT ⟨_, rfl, _, rfl, _, _, rfl, rfl, _, rfl, _, rfl, _, rfl, by show 2 ≤ sizeLine; decide, fun t nt2 => ⟨_, _, rfl, ?_⟩⟩
          refine ⟨.ref t, some (.int other), ?_, ?_, same_upd' sm (sm.free nt2), ?_⟩
          · rw [more]
            rfl
          · rw [more]
            exact ⟨t, rfl, upd_same⟩
          · exact (same_upd nt2) _ _ hl3
        · rw [show decide (st.1 < lowBit (other - one)) = false from decide_eq_false hgt]
          have e3 : nStep one st other = st := by unfold nStep; rw [if_neg hgt]
          rw [e3] at more
          refine iteF ⟨v, some (.int other), ?_, ?_, sm, hl3⟩
          · rw [more]
            rfl
          · rw [more]
            exact pr
      · rintro σ H3 ⟨v, u3, rfl, pr, sm, _⟩
        rw [List.length_map, List.take_length, ← nearSt_succ ho] at *
        exact ⟨v, _, _, u3, rfl, pr, sm⟩
    · rintro σ H' ⟨v, u1, u2, u3, rfl, pr, sm⟩
      rw [List.length_map] at pr
      have pr' : PairIs H' v (nearF s) := pr
      rw [hp] at pr'
      obtain ⟨t, rfl, ht⟩ := pr'
      exact ⟨_, rfl, q t H' sm ht⟩
end
end Sq
/-! SqD: mated, by_mates. -/
namespace Sq
open PySem L2 PyProof.Rows
theorem ne_of_none' {H : Hp} {a b : Addr} {o : HO} (h' : H a = none) (h : H b = some o) : a ≠ b := fun z => by rw [z, h] at h'; cases h'
section
variable {P : Program} {w : World} {K : PySem.W.Frag} {mg : Str → Option Value} {base : Heap} {CB CT CL : Addr}
def spMated : Sp := fun vs H Q _ => ∃ (a : Addr) (s : List Int) (r : List (Int × Int) × List Int), vs = [.ref a] ∧ TupI H a s ∧ s.length ≤ 100 ∧ matedF 13 s [] = some r ∧
  ∀ t fp lp qs H', Same H H' → H' t = some (.tup [.ref fp, .ref lp]) → H' fp = some (.lst (qs.map V.ref)) → PairsAt H' qs r.1 → H' lp = some (.lst (r.2.map V.int)) → Q (.ref t) H'
theorem scMated : FnScope ["standing", "left", "found", "pair", "square"] ["standing"] (defScope sMated) := ⟨rfl, rfl, rfl, by decide +kernel, rfl, by decide +kernel, by decide +kernel⟩
theorem ok_mated {f : Addr} {fd : FuncData} (F : Fun K "mated" "mated" sMated f fd) (T : Txt K mg CB CT CL) (GN : Has P w K mg base CX0 2 "nearest" ["squares"] spNearest) : FnOk P w K mg base CX0 3 f fd ["standing"] spMated := by
  refine F.ok scMated (fun vs H Q E h => ?_) (fun cdv A outer s H vs Q E hr h => ?_)
  · obtain ⟨a, s, p, rfl, _⟩ := h
    rfl
  · obtain ⟨a, s, r, rfl, hT, hl, hm, q⟩ := h
    refine ⟨_, pss_cons (ps_par (i := 1) (j := 2) rfl scMated.nd rfl rfl (by decide) rfl rfl (pa_cons (pe_callTy call_list_of rfl T.list bT_list (pa_cons (pv 0) pa_nil)) (pa_cons (pe_lst pa_nil) pa_nil)) (by rfl))
      (pss_cons (ps_while PassesOwn.never (pt_cmpR op_gt (pe_callB call_len (by rfl) T.len PySem.boot_len (pa_cons (pv 1) pa_nil)) pe_int (nomark _))
        (pss_cons (ps_set (i := 3) scMated.nd rfl (.inr rfl) (pe_has GN hr pass0 (pa_cons (pv 1) pa_nil)))
        (pss_cons (ps_expr (pe_bm PySem.F.plainAttrs_list PySem.F.slot_list_append PySem.F.type_list_append mt_append (pv 2) (pa_cons (pv 3) pa_nil)))
        (pss_one (ps_setLc (i := 1) (own := [("square", 4)]) (g := gName 4) (tt := tTest (tOp (rIn K true) (tVar 4) (tVar 3))) rfl scMated.nd rfl rfl (sw_true rfl rfl rfl (by decide +kernel)) (pi_list (pv 1)) (blkOk_by (own := [("square", 4)]) (N := ["standing", "left", "found", "pair", "square"]) (sc := defScope sMated) (by decide +kernel))
          (fun _ _ _ _ _ => pg_name (i := 4) scMated.nd rfl (.inl rfl)) (fun _ _ _ _ _ => pts_one (pt_cmpR op_notIn_seq (pv 4) (pv 3) (by rfl))) (fun _ _ _ _ _ => pv 4))))))
      (pss_one (ps_ret (pe_tup (pa_cons (pv 2) (pa_cons (pv 1) pa_nil)))))), ?_⟩
    refine ⟨_, rfl, a, _, rfl, .inr (SqT.of hT), fun l0 nl0 => ⟨by show 0 ≤ sizeLine; exact Nat.zero_le _, fun f0 nf0 => ⟨_, _, rfl, ?_⟩⟩⟩
    have sm0 : Same H (upd H l0 (.lst (s.map V.int))) := same_upd nl0
    have sm1 := same_upd' (o := .lst []) sm0 (sm0.free nf0)
    refine ⟨fun n σ H' => ∃ (left : List Int) (found : List (Int × Int)) (lp fp : Addr) (qs : List Addr) (u3 u4 : Option V), σ = [some (.ref a), some (.ref lp), some (.ref fp), u3, u4] ∧ matedF n left found = some r ∧ H' lp = some (.lst (left.map V.int)) ∧ H' fp = some (.lst (qs.map V.ref)) ∧ lp ≠ fp ∧ H fp = none ∧ PairsAt H' qs found ∧ Same H H' ∧ left.length ≤ 100 ∧ found.length + n ≤ 13,
      ⟨13, s, [], l0, f0, [], none, none, rfl, hm, (same_upd nf0) _ _ upd_same, upd_same, ne_of_none upd_same nf0, sm0.free nf0, trivial, sm1, hl, Nat.le_refl _⟩, ?_⟩
    rintro n σ H1 ⟨left, found, lp, fp, qs, u3, u4, rfl, hm, hlp, hfp, nlf, nF, pr, sm, hll, hfn⟩
    refine ⟨_, rfl, _, _, rfl, .inl ⟨_, SqL.of hlp, rfl⟩, _, _, rfl, rfl, _, rfl, ?_⟩
    rw [List.length_map]
    by_cases h1 : 1 < left.length
    · rw [show decide ((1 : Int) < (left.length : Int)) = true from decide_eq_true (by omega)]
      refine iteT ?_
      cases n with
      | zero =>
        unfold matedF at hm
        rw [if_pos h1] at hm
        cases hm
      | succ n =>
        unfold matedF at hm
        rw [if_pos h1] at hm
        cases hp : nearF left with
        | none => rw [hp] at hm; cases hm
        | some p =>
          rw [hp] at hm
          refine ⟨fun σ' H' => ∃ (left : List Int) (found : List (Int × Int)) (lp fp : Addr) (qs : List Addr) (u3 u4 : Option V), σ' = [some (.ref a), some (.ref lp), some (.ref fp), u3, u4] ∧ matedF n left found = some r ∧ H' lp = some (.lst (left.map V.int)) ∧ H' fp = some (.lst (qs.map V.ref)) ∧ lp ≠ fp ∧ H fp = none ∧ PairsAt H' qs found ∧ Same H H' ∧ left.length ≤ 100 ∧ found.length + n ≤ 13, fun σ' H' h => ⟨n, Nat.lt_succ_self n, h⟩, ?_⟩
          refine ⟨_, rfl, lp, left, p, rfl, hlp, hp, fun t H2 sm2 ht => ?_⟩
          -- found.append(pair)
          have hfp2 := sm2 _ _ hfp
          have nft : fp ≠ t := ne_of hfp2 ht (by intro z; cases z)
          refine ⟨_, rfl, .inl ⟨rfl, _, .inl (.inl hfp2)⟩, _, rfl, fp, _, _, rfl, rfl, hfp2, small100 (by rw [List.length_map, pr.length]; omega), ?_⟩
          have keep : ∀ b o, b ≠ fp → H2 b = some o → upd H2 fp (.lst (qs.map V.ref ++ [.ref t])) b = some o := fun b o n e => by rw [upd_ne n]; exact e
          have sm3 : Same H (upd H2 fp (.lst (qs.map V.ref ++ [.ref t]))) := fun b o e => keep b o (ne_of_none e nF) (sm2 _ _ (sm _ _ e))
          have pair3 : PairsAt (upd H2 fp (.lst (qs.map V.ref ++ [.ref t]))) (qs ++ [t]) (found ++ [p]) := by
            have pr2 := pr.same sm2
            have tupKeep : ∀ (o : HO) {qs : List Addr} {ps : List (Int × Int)}, PairsAt H2 qs ps → PairsAt (upd H2 fp o) qs ps := fun o {qs} => by
              induction qs with
              | nil => intro ps h; cases ps with
                | nil => trivial
                | cons _ _ => exact h.elim
              | cons q0 qs ih => intro ps h; cases ps with
                | nil => exact h.elim
                | cons p0 ps => exact ⟨by rw [upd_ne (ne_of h.1 hfp2 (by intro z; cases z))]; exact h.1, ih h.2⟩
            exact (tupKeep _ pr2).snoc (keep _ _ (Ne.symm nft) ht)
          have hfp3 : upd H2 fp (.lst (qs.map V.ref ++ [.ref t])) fp = some (.lst ((qs ++ [t]).map V.ref)) := by rw [upd_same, List.map_append]; rfl
          have hlp3 := keep lp _ nlf (sm2 _ _ hlp)
          have ht3 := keep t _ (Ne.symm nft) ht
          generalize upd H2 fp (.lst (qs.map V.ref ++ [.ref t])) = H3 at sm3 pair3 hfp3 hlp3 ht3 ⊢
          refine ⟨_, rfl, lp, rfl, ⟨_, SqL.of hlp3⟩, fun D nD => lc_list (K := K) (a := lp) (xs := left.map V.int) (fun i H' => Same H3 H' ∧ H' D = some (.lst ((unpair (left.take i) p).map V.int)))
            ⟨same_upd nD, upd_same⟩ (fun i H' _ ⟨sm, _⟩ => SqL.of (sm _ _ hlp3)) ?_ ?_⟩
          · rintro i y H' hi ⟨sm4, hD⟩
            obtain ⟨x, hx, rfl⟩ := map_at hi
            have more := filter_more (fun x => !(x == p.1 || x == p.2)) hx
            refine ⟨rfl, _, rfl, _, rfl, t, _, rfl, .inr (SqT.of (sm4 _ _ ht3)), rfl, rfl, _, rfl, ?_⟩
            rw [inV_pair]
            have more' : unpair (left.take (i + 1)) p = unpair (left.take i) p ++ (if (!(x == p.1 || x == p.2)) = true then [x] else []) := more
            cases e : (x == p.1 || x == p.2) with
            | true =>
              rw [e] at more'
              refine iteF ⟨sm4, ?_⟩
              rw [hD, more']
              simp
            | false =>
              rw [e] at more'
              refine iteT ⟨_, rfl, _, hD, small100 (Nat.le_trans (by rw [List.length_map]; exact Nat.le_trans (List.length_filter_le _ _) (by rw [List.length_take]; exact Nat.min_le_right _ _)) hll), same_upd' sm4 nD, ?_⟩
              rw [upd_same, more']
              simp
          · rintro H' ⟨sm4, hD⟩
            rw [List.length_map, List.take_length] at hD
            exact ⟨unpair left p, found ++ [p], D, fp, qs ++ [t], _, _, rfl, hm, hD, sm4 _ _ hfp3, ne_of_none' nD hfp3, nF, pair3.same sm4, sm3.trans sm4, Nat.le_trans (List.length_filter_le _ _) hll, by rw [List.length_append]; simp only [List.length_cons, List.length_nil]; omega⟩
    · rw [show decide ((1 : Int) < (left.length : Int)) = false from decide_eq_false (by omega)]
      have hr' : matedF n left found = some (found, left) := by
        cases n with
        | zero => unfold matedF; rw [if_neg h1]
        | succ n => unfold matedF; rw [if_neg h1]
      have er := Option.some.inj (hr'.symm.trans hm)
      subst er
      refine iteF ⟨_, rfl, _, rfl, by show 2 ≤ sizeLine; decide, fun t nt => ?_⟩
      have up := same_upd (o := .tup [.ref fp, .ref lp]) nt
      exact q t fp lp qs _ (sm.trans up) upd_same (up _ _ hfp) (pr.same up) (up _ _ hlp)
def spBy : Sp := fun vs H Q _ => ∃ (a : Addr) (s : List Int) (n : Int), vs = [.ref a] ∧ TupI H a s ∧ s.length ≤ 100 ∧ nimF s = some n ∧ ∀ H', Same H H' → Q (.int n) H'
theorem scBy : FnScope ["standing", "pairs", "left", "found", "one", "other", "square"] ["standing"] (defScope sByMates) := ⟨rfl, rfl, rfl, by decide +kernel, rfl, by decide +kernel, by decide +kernel⟩
theorem ok_by {f : Addr} {fd : FuncData} (F : Fun K "by_mates" "by_mates" sByMates f fd) (GM : Has P w K mg base CX0 3 "mated" ["standing"] spMated) : FnOk P w K mg base CX0 4 f fd ["standing"] spBy := by
  refine F.ok scBy (fun vs H Q E h => ?_) (fun cdv A outer s H vs Q E hr h => ?_)
  · obtain ⟨a, s, p, rfl, _⟩ := h
    rfl
  · obtain ⟨a, s, n, rfl, hT, hl, hn, q⟩ := h
    refine ⟨_, pss_cons (ps_asg (pe_has GM hr pass0 (pa_cons (pv 0) pa_nil)) (pg_tup rfl (pgs_cons (pg_name (i := 1) scBy.nd rfl (.inl rfl)) (pgs_cons (pg_name (i := 2) scBy.nd rfl (.inl rfl)) pgs_nil))))
      (pss_cons (ps_set (i := 3) scBy.nd rfl (.inl rfl) pe_int)
      (pss_cons (ps_for PassesOwn.never rfl (pi_list (pv 1)) (pg_tup rfl (pgs_cons (pg_name (i := 4) scBy.nd rfl (.inl rfl)) (pgs_cons (pg_name (i := 5) scBy.nd rfl (.inl rfl)) pgs_nil)))
        (pss_one (ps_set (i := 3) scBy.nd rfl (.inl rfl) (pe_op op_xor (pv 3) (pe_op op_sub (pe_op op_xor (pv 4) (pv 5)) pe_int)))))
      (pss_cons (ps_for PassesOwn.never rfl (pi_list (pv 2)) (pg_name (i := 6) scBy.nd rfl (.inl rfl))
        (pss_one (ps_set (i := 3) scBy.nd rfl (.inl rfl) (pe_op op_xor (pv 3) (pv 6)))))
      (pss_one (ps_ret (pv 3)))))), ?_⟩
    cases hm : matedF 13 s [] with
    | none => unfold nimF at hn; rw [hm] at hn; cases hn
    | some r =>
      have en : r.2.foldl Builtin.bitXor (r.1.foldl xorP 0) = n := by unfold nimF at hn; rw [hm] at hn; exact Option.some.inj hn
      refine ⟨_, rfl, a, s, r, rfl, hT, hl, hm, fun t fp lp qs H1 sm ht hfp pr hlp => ?_⟩
      refine ⟨t, _, rfl, SqT.of ht, rfl, _, _, rfl, _, _, rfl, rfl, ?_⟩
      refine ⟨_, rfl, fp, rfl, ⟨_, SqL.of hfp⟩, for_list (K := K) (a := fp) (xs := qs.map V.ref) (fun i σ H' => ∃ (u1 u2 u3 : Option V), σ = [some (.ref a), some (.ref fp), some (.ref lp), some (.int ((r.1.take i).foldl xorP 0)), u1, u2, u3] ∧ H' = H1) ⟨none, none, none, rfl, rfl⟩ (fun i σ H' _ ⟨_, _, _, _, e⟩ => e ▸ SqL.of hfp) ?_ ?_⟩
      · rintro i y σ H' hi ⟨u1, u2, u3, rfl, rfl⟩
        obtain ⟨q0, hq0, rfl⟩ := map_at hi
        obtain ⟨p, hp, hpt⟩ := pr.get hq0
        refine ⟨q0, _, rfl, SqT.of hpt, rfl, _, _, rfl, _, _, rfl, rfl, ?_⟩
        refine ⟨_, rfl, _, rfl, _, rfl, _, _, rfl, rfl, _, _, rfl, rfl, _, _, rfl, rfl, some (.int p.1), some (.int p.2), u3, ?_, rfl⟩
        rw [foldl_more hp]
        rfl
      · rintro σ H' ⟨u1, u2, u3, rfl, rfl⟩
        rw [List.length_map, pr.length, List.take_length]
        refine ⟨_, rfl, lp, rfl, ⟨_, SqL.of hlp⟩, for_list (K := K) (a := lp) (xs := r.2.map V.int) (fun i σ H'' => ∃ (u3 : Option V), σ = [some (.ref a), some (.ref fp), some (.ref lp), some (.int ((r.2.take i).foldl Builtin.bitXor (r.1.foldl xorP 0))), u1, u2, u3] ∧ H'' = H') ⟨u3, rfl, rfl⟩ (fun i σ H'' _ ⟨_, _, e⟩ => e ▸ SqL.of hlp) ?_ ?_⟩
        · rintro i y σ H'' hi ⟨u3, rfl, rfl⟩
          obtain ⟨x, hx, rfl⟩ := map_at hi
          refine ⟨_, rfl, _, rfl, _, _, rfl, rfl, some (.int x), ?_, rfl⟩
          rw [foldl_more hx]
          rfl
        · rintro σ H'' ⟨u3, rfl, rfl⟩
          rw [List.length_map, List.take_length, en]
          exact ⟨_, rfl, q _ sm⟩
end
end Sq
/-! SqE: steps_from, check_searched. -/
namespace Sq
open PySem L2 PyProof.Rows
/-- a comprehension's loop (an outer or an inner one), whatever the turn does -/
theorem loop_it {J : It} {n : Nat} {G : Hp → Prop} {Y : Nat → Hp → V → Hp → Prop} (wk : Walk J n G Y) {H0 : Hp} {Body : V → Hp → (Hp → Prop) → Prop} {Qd : Hp → Prop} (Pv : Nat → Hp → Prop) (h0 : Pv 0 H0) (hG : ∀ i H, i ≤ n → Pv i H → G H)
    (hs : ∀ i x H H', i < n → Pv i H → Y i H x H' → Body x H' (Pv (i + 1))) (hd : ∀ H, Pv n H → Qd H) :
    ∃ W : Nat → Nat → Hp → Prop, (∃ m, W 0 m H0) ∧ ∀ i m H, W i m H → (J.stop i H ∧ Qd H) ∨ (J.go i H ∧ ∃ Nx : Hp → Prop, (∀ H', Nx H' → ∃ m', m' < m ∧ W (i + 1) m' H') ∧ ∀ x H', J.yld i H x H' → Body x H' Nx) := by
  refine ⟨fun i m H => m + i = n ∧ Pv i H, ⟨n, rfl, h0⟩, fun i m H hw => ?_⟩
  obtain ⟨e, p⟩ := hw
  have g := hG i H (by omega) p
  cases m with
  | zero =>
    have ei : i = n := by omega
    subst ei
    exact .inl ⟨wk.stops H g, hd H p⟩
  | succ m =>
    have lt : i < n := by omega
    exact .inr ⟨wk.goes i H lt g, Pv (i + 1), fun H' p' => ⟨m, Nat.lt_succ_self m, by omega, p'⟩, fun x H' y => hs i x H H' lt p (wk.yields i H x H' lt g y)⟩
theorem inV_ints (x : Int) : ∀ s : List Int, inV (.int x) (s.map V.int) = s.contains x
  | [] => rfl
  | y :: s => by
    have ih := inV_ints x s
    show (y == x || inV (.int x) (s.map V.int)) = _
    rw [ih, List.contains_cons, Bool.beq_comm (a := y)]
theorem ints_flat : ∀ s : List Int, (s.map V.int).all flatV = true
  | [] => rfl
  | _ :: s => by rw [List.map_cons, List.all_cons, ints_flat s]; rfl
theorem PairsAt.wr {H : Hp} {D : Addr} {xs : List V} {o : HO} (hD : H D = some (.lst xs)) : ∀ {qs : List Addr} {ps : List (Int × Int)}, PairsAt H qs ps → PairsAt (upd H D o) qs ps
  | [], [], _ => trivial
  | q :: qs, p :: ps, h => ⟨by rw [upd_ne (ne_of h.1 hD (by intro z; cases z))]; exact h.1, PairsAt.wr hD h.2⟩
structure Ok (s : List Int) : Prop where
  len : s.length ≤ 4
  asc : s.Pairwise (· < ·)
  bd : ∀ x ∈ s, 0 ≤ x ∧ x ≤ 11
theorem ok_of {s : List Int} (h : okB s = true) : Ok s := by
  simp only [okB, Bool.and_eq_true, decide_eq_true_eq, List.all_eq_true] at h
  exact ⟨h.1, asc_pw h.2.1, h.2.2⟩
theorem Ok.fine {s : List Int} (h : Ok s) : FineL s := ⟨Nat.le_trans h.len (by decide), h.asc, fun x hx => ⟨(h.bd x hx).1, Int.le_trans (h.bd x hx).2 (by decide)⟩⟩
section
variable {P : Program} {w : World} {K : PySem.W.Frag} {mg : Str → Option Value} {base : Heap} {CB CT CL : Addr}
def spSteps : Sp := fun vs H Q _ => ∃ (a : Addr) (s : List Int), vs = [.ref a] ∧ TupI H a s ∧ okB s = true ∧ ∀ p qs H', Same H H' → H' p = some (.lst (qs.map V.ref)) → PairsAt H' qs (stepsF s) → Q (.ref p) H'
theorem scSteps : FnScope ["standing", "one", "to"] ["standing"] (defScope sSteps) := ⟨rfl, rfl, rfl, by decide +kernel, rfl, by decide +kernel, by decide +kernel⟩
theorem ok_steps {f : Addr} {fd : FuncData} (F : Fun K "steps_from" "steps_from" sSteps f fd) (T : Txt K mg CB CT CL) : FnOk P w K mg base CX0 1 f fd ["standing"] spSteps := by
  refine F.ok scSteps (fun vs H Q E h => ?_) (fun cdv A outer s H vs Q E hr h => ?_)
  · obtain ⟨a, s, rfl, _⟩ := h
    rfl
  · obtain ⟨a, s, rfl, hT, ok, q⟩ := h
    have O := ok_of ok
    refine ⟨_, pss_one (ps_ret (pe_lc2 (own := [("one", 1), ("to", 2)]) (vs1 := [2]) (g := gName 1) (g1 := gName 2) (tt1 := tTest (tOp (rIn K true) (tVar 2) (tVar 0))) rfl scSteps.nd (pi_tup (pv 0)) (blkOk_by (own := [("one", 1), ("to", 2)]) (N := ["standing", "one", "to"]) (sc := defScope sSteps) (by decide +kernel)) (by decide)
      (fun _ _ _ _ _ => pg_name (i := 1) scSteps.nd rfl (.inl rfl)) (fun _ _ _ _ _ => pts_nil) (fun _ _ _ _ _ => pi_range1 (by rfl) T.range (pa_cons (pv 1) pa_nil)) (fun _ _ _ _ _ => pg_name (i := 2) scSteps.nd rfl (.inl rfl))
      (fun _ _ _ _ _ => pts_one (pt_cmpR op_notIn_seq (pv 2) (pv 0) (by rfl))) (fun _ _ _ _ _ => pe_tup (pa_cons (pv 1) (pa_cons (pv 2) pa_nil))))), ?_⟩
    refine ⟨_, rfl, a, rfl, ⟨_, SqT.of hT⟩, fun D nD => loop_it (walk_tup (K := K) (a := a) (xs := s.map V.int)) (fun i H' => Same H H' ∧ ∃ qs : List Addr, H' D = some (.lst (qs.map V.ref)) ∧ PairsAt H' qs ((s.take i).flatMap fun one => (lower s one).map fun to => (one, to)) ∧ qs.length ≤ i * 11)
      ⟨same_upd nD, [], upd_same, trivial, Nat.zero_le _⟩ (fun i H' _ ⟨sm, _⟩ => SqT.of (sm _ _ hT)) ?_ ?_⟩
    · rintro i y H1 H2 hi ⟨sm, qs, hD, pr, hq⟩ ⟨rfl, hy⟩
      obtain ⟨one, hone, rfl⟩ := map_at hy
      rw [List.length_map] at hi
      obtain ⟨b0, b1⟩ := O.bd one (List.mem_of_getElem? hone)
      have i3 : i ≤ 3 := by have := O.len; omega
      refine ⟨rfl, ?_⟩
      dsimp only [tYes]
      rw [if_pos rfl]
      refine ⟨_, rfl, one, rfl, by omega, by omega, loop_it (walk_range (lo := 0) (n := one.toNat)) (fun j H' => Same H H' ∧ ∃ qs : List Addr, H' D = some (.lst (qs.map V.ref)) ∧
        PairsAt H' qs (((s.take i).flatMap fun one => (lower s one).map fun to => (one, to)) ++ (((((List.range one.toNat).map fun (k : Nat) => (k : Int)).take j).filter fun to => !s.contains to).map fun to => (one, to))) ∧ qs.length ≤ i * 11 + j)
        ⟨sm, qs, hD, by simpa using pr, by omega⟩ (fun _ _ _ _ => trivial) ?_ ?_⟩
      · rintro j z H3 H4 hj ⟨sm3, qs, hD3, pr3, hq3⟩ ⟨rfl, rfl⟩
        have at_ : ((List.range one.toNat).map fun (k : Nat) => (k : Int))[j]? = some (j : Int) := by simp [hj]
        have more := filter_more (fun to => !s.contains to) at_
        have ez : (fun i : Nat => V.int (0 + (i : Int))) j = V.int (j : Int) := by
          show V.int (0 + (j : Int)) = _
          rw [Int.zero_add]
        rw [ez]
        refine ⟨rfl, _, rfl, _, rfl, a, _, rfl, .inr (SqT.of (sm3 _ _ hT)), rfl, ints_flat s, _, rfl, ?_⟩
        rw [inV_ints]
        cases e : s.contains (j : Int) with
        | true =>
          rw [e] at more
          refine iteF ⟨sm3, qs, hD3, ?_, by omega⟩
          rw [more]
          simpa using pr3
        | false =>
          rw [e] at more
          refine iteT ⟨_, rfl, _, rfl, by show 2 ≤ sizeLine; decide, fun t nt => ⟨_, by rw [upd_ne (Ne.symm (ne_of_none' nt hD3))]; exact hD3, small1000 (by rw [List.length_map]; omega), ?_⟩⟩
          have sm4 : Same H4 (upd H4 t (.tup [.int one, .int (j : Int)])) := same_upd nt
          have hD4 := sm4 _ _ hD3
          refine ⟨same_upd' (sm3.trans sm4) nD, qs ++ [t], by rw [upd_same, List.map_append]; rfl, ?_, by rw [List.length_append]; simp only [List.length_cons, List.length_nil]; omega⟩
          have new := PairsAt.snoc (p := (one, (j : Int))) (q := t) (H := upd H4 t (.tup [.int one, .int (j : Int)])) upd_same (pr3.same sm4)
          have new2 := PairsAt.wr (o := .lst (qs.map V.ref ++ [.ref t])) hD4 new
          rw [more]
          simpa using new2
      · rintro H3 ⟨sm3, qs, hD3, pr3, hq3⟩
        refine ⟨sm3, qs, hD3, ?_, by omega⟩
        rw [take_more hone, List.flatMap_append]
        have full : ((List.range one.toNat).map fun (k : Nat) => (k : Int)).take one.toNat = (List.range one.toNat).map fun (k : Nat) => (k : Int) := List.take_of_length_le (by simp)
        rw [full] at pr3
        simpa [lower] using pr3
    · rintro H1 ⟨sm, qs, hD, pr, _⟩
      rw [List.length_map, List.take_length] at pr
      exact q D qs H1 sm hD pr
end
end Sq
/-! SqF: check_searched, Lasting.__init__. -/
namespace Sq
open PySem L2 PyProof.Rows
def greatB (s : List Int) : Bool := decide (4 < s.length) || (match s.getLast? with
  | some l => decide (11 < l)
  | none => false)
theorem small_ok {s : List Int} (f : FineL s) (g : greatB s = false) : okB s = true := by
  obtain ⟨_, pw, bd⟩ := f
  unfold greatB at g
  simp only [Bool.or_eq_false_iff, decide_eq_false_iff_not] at g
  obtain ⟨g1, g2⟩ := g
  simp only [okB, Bool.and_eq_true, decide_eq_true_eq, List.all_eq_true]
  refine ⟨by omega, pw_asc pw, fun x hx => ⟨(bd x hx).1, ?_⟩⟩
  cases h : s.getLast? with
  | none =>
    have e := List.getLast?_eq_none_iff.mp h
    rw [e] at hx
    cases hx
  | some l =>
    rw [h] at g2
    have hl : ¬ 11 < l := of_decide_eq_false g2
    obtain ⟨ys, e⟩ := List.getLast?_eq_some_iff.mp h
    rw [e] at hx pw
    rcases List.mem_append.mp hx with q | q
    · have := (List.pairwise_append.mp pw).2.2 x q l (by simp)
      omega
    · have := List.mem_singleton.mp q
      omega
section
variable {P : Program} {w : World} {K : PySem.W.Frag} {mg : Str → Option Value} {base : Heap} {CB CT CL : Addr}
/-- x is a standing that is not too great -/
def spSearched (CB CT : Addr) : Sp := fun vs H Q E => ∃ x, vs = [x] ∧
  ((∃ v, Bad H x v ∧ WantB CB H E v) ∨ (∃ a s, x = .ref a ∧ TupI H a s ∧ FineL s ∧ ((greatB s = true ∧ ∀ H', Same H H' → E (.ref CT) none H') ∨ (greatB s = false ∧ ∀ H', Same H H' → Q .non H'))))
theorem scSearched : FnScope ["standing"] ["standing"] (defScope sSearched) := ⟨rfl, rfl, rfl, by decide +kernel, rfl, by decide +kernel, by decide +kernel⟩
theorem ok_searched {f : Addr} {fd : FuncData} (F : Fun K "check_searched" "check_searched" sSearched f fd) (T : Txt K mg CB CT CL) (GC : Has P w K mg base (L2.CX P w) 4 "check_standing" ["standing"] (spCheck CB)) :
    FnOk P w K mg base (L2.CX P w) 5 f fd ["standing"] (spSearched CB CT) := by
  refine F.okX scSearched (fun vs H Q E h => ?_) (fun cdv A outer s H vs Q E hr h => ?_)
  · obtain ⟨x, rfl, _⟩ := h
    rfl
  · obtain ⟨x, rfl, h⟩ := h
    obtain ⟨t4, h4⟩ := T.few
    obtain ⟨t11, h11⟩ := T.srch
    refine ⟨_, pss_cons (ps_expr (pe_has GC hr (passes_call (takes_of rfl rfl rfl rfl) (fun _ _ _ _ h => h)) (pa_cons (pv 0) pa_nil)))
      (pss_one (ps_if (PW.pt (pw_or (pt_cmpR op_gt (pe_callB call_len (by rfl) T.len PySem.boot_len (pa_cons (pv 0) pa_nil)) (pe_glob (v := .int 4) rfl h4 ⟨t4, rfl⟩) (nomark _))
        (pw_or1 (PW.pt (pw_and (pt_cmpR op_gt (pe_callB call_len (by rfl) T.len PySem.boot_len (pa_cons (pv 0) pa_nil)) pe_int (nomark _)) (pw_and1 (pt_cmpR op_gt (pe_ix ix_tup (pv 0) (pe_un un_neg pe_int) (fun _ _ => rfl)) (pe_glob (v := .int 11) rfl h11 ⟨t11, rfl⟩) (nomark _))))))))
        (pss_one (ps_raise rfl (takes_of rfl rfl rfl rfl) (pmk_own0 PySem.F.excBase_ValueError T.eT T.gT T.kT (raises_own T.sT T.tT) (by rfl)))) pss_nil)), ?_⟩
    rcases h with hb | ⟨a, s, rfl, hT, fine, h⟩
    · exact ⟨_, rfl, x, rfl, .inl hb⟩
    · refine ⟨_, rfl, _, rfl, .inr ⟨a, s, rfl, hT, fine, fun H1 sm => ?_⟩⟩
      have hT1 : SqT K H1 a (s.map V.int) := SqT.of (sm _ _ hT)
      refine ⟨_, rfl, _, _, rfl, .inr ⟨_, hT1, rfl⟩, _, _, rfl, rfl, _, rfl, ?_⟩
      rw [List.length_map]
      by_cases l4 : 4 < s.length
      · rw [show decide ((4 : Int) < (s.length : Int)) = true from decide_eq_true (by omega)]
        refine iteT (iteT ?_)
        rcases h with ⟨_, k⟩ | ⟨g, _⟩
        · exact k H1 sm
        · unfold greatB at g
          rw [decide_eq_true l4] at g
          cases g
      · rw [show decide ((4 : Int) < (s.length : Int)) = false from decide_eq_false (by omega)]
        refine iteF ⟨_, rfl, _, _, rfl, .inr ⟨_, hT1, rfl⟩, _, _, rfl, rfl, _, rfl, ?_⟩
        rw [List.length_map]
        cases hg : s.getLast? with
        | none =>
          have e := List.getLast?_eq_none_iff.mp hg
          subst e
          refine iteF (iteF ?_)
          rcases h with ⟨g, _⟩ | ⟨_, k⟩
          · cases g
          · exact k H1 sm
        | some l =>
          obtain ⟨ys, e⟩ := List.getLast?_eq_some_iff.mp hg
          have pos : 0 < s.length := by rw [e]; simp
          rw [show decide ((0 : Int) < (s.length : Int)) = true from decide_eq_true (by omega)]
          have at1 : atI (s.map V.int) (-1) = some (.int l) := by
            rw [e, List.map_append]
            exact atI_last _ _
          refine iteT ⟨_, rfl, _, rfl, a, _, _, _, rfl, rfl, hT1, at1, _, _, rfl, rfl, _, rfl, ?_⟩
          by_cases h11' : 11 < l
          · rw [decide_eq_true h11']
            refine iteT ?_
            rcases h with ⟨_, k⟩ | ⟨g, _⟩
            · exact k H1 sm
            · simp only [greatB, hg, Bool.or_eq_false_iff, decide_eq_false_iff_not] at g
              exact absurd h11' g.2
          · rw [decide_eq_false h11']
            refine iteF ?_
            rcases h with ⟨g, _⟩ | ⟨_, k⟩
            · simp only [greatB, hg, Bool.or_eq_true, decide_eq_true_eq] at g
              exact (g.elim l4 h11').elim
            · exact k H1 sm
/-! ### Lasting.__init__ -/
def spLInit (CL : Addr) : Sp := fun vs H Q _ => ∃ (p dx : Addr), vs = [.ref p] ∧ H p = some (.ins CL dx []) ∧
  ∀ (d : Addr) (H' : Hp), H d = none → H' p = some (.ins CL dx [("known", .ref d)]) → H' d = some (.dT []) → (∀ b o, H b = some o → b ≠ p → H' b = some o) → Q .non H'
theorem scLInit : FnScope ["self"] ["self"] (defScope sLInit) := ⟨rfl, rfl, rfl, by decide +kernel, rfl, by decide +kernel, by decide +kernel⟩
theorem ok_linit {f : Addr} {fd : FuncData} (F : Fun K "__init__" "Lasting.__init__" sLInit f fd) (T : Txt K mg CB CT CL) : FnOk P w K mg base CX0 1 f fd ["self"] (spLInit CL) := by
  refine F.ok scLInit (fun vs H Q E h => ?_) (fun cdv A outer s H vs Q E hr h => ?_)
  · obtain ⟨p, dx, rfl, _⟩ := h
    rfl
  · obtain ⟨p, dx, rfl, hp, q⟩ := h
    refine ⟨_, pss_one (ps_fld (pv 0) pe_dnewT rfl), ?_⟩
    intro d nd
    have npd : p ≠ d := ne_of_none hp nd
    refine ⟨_, rfl, p, CL, dx, [], rfl, (by rw [upd_ne npd]; exact hp), T.cL, T.nL, (by show 0 < 1000; decide), ?_⟩
    refine q d _ nd upd_same (by rw [upd_ne (Ne.symm npd), upd_same]) fun b o e n => ?_
    rw [upd_ne n, upd_ne (ne_of_none e nd)]
    exact e
end
end Sq
/-! SqG: Lasting.moves. -/
namespace Sq
open PySem L2 PyProof.Rows
/-! ### the table of what is known -/
def keyI (s : List Int) : List Key := s.map Sum.inl
theorem keyI_kV (s : List Int) : (keyI s).map kV = s.map V.int := by
  unfold keyI
  rw [List.map_map]
  rfl
theorem keyI_inj : ∀ {s t : List Int}, keyI s = keyI t → s = t
  | [], [], _ => rfl
  | [], _ :: _, h => by cases h
  | _ :: _, [], h => by cases h
  | x :: s, y :: t, h => by
    injection h with h1 h2
    injection h1 with h3
    rw [h3, keyI_inj h2]
/-- every key is a standing, its value what G says -/
structure Memo (G : List Int → V → Prop) (kvs : List (List Key × V)) : Prop where
  nd : (kvs.map (·.1)).Nodup
  ok : ∀ k v, valV kvs k = some v → ∃ s, k = keyI s ∧ okB s = true ∧ G s v
theorem Memo.nil {G : List Int → V → Prop} : Memo G [] := ⟨List.nodup_nil, fun k v h => by rw [valV_nil] at h; cases h⟩
theorem mem_valV {κ : Type} [DecidableEq κ] : ∀ {kvs : List (κ × V)} {k : κ}, k ∈ kvs.map (·.1) → ∃ v, valV kvs k = some v
  | [], k, h => by cases h
  | p :: r, k, h => by
    by_cases e : p.1 = k
    · exact ⟨_, valV_pos e⟩
    · rcases List.mem_cons.mp h with z | z
      · exact absurd z.symm e
      · obtain ⟨v, hv⟩ := mem_valV z
        exact ⟨v, by rw [valV_neg e]; exact hv⟩
theorem Memo.len {G : List Int → V → Prop} {kvs : List (List Key × V)} (M : Memo G kvs) : kvs.length ≤ 794 := by
  have all : ∀ k ∈ kvs.map (·.1), k ∈ (subs 4 board).map keyI := fun k hk => by
    obtain ⟨v, hv⟩ := mem_valV hk
    obtain ⟨s, e, o, _⟩ := M.ok k v hv
    exact List.mem_map.mpr ⟨s, ok_mem o, e.symm⟩
  have := nodup_len M.nd all
  rw [List.length_map, List.length_map, subs_len] at this
  exact this
theorem Memo.put {G : List Int → V → Prop} {kvs : List (List Key × V)} {s : List Int} {v : V} (M : Memo G kvs) (o : okB s = true) (g : G s v) : Memo G (putK kvs (keyI s) v) := by
  refine ⟨?_, fun k u h => ?_⟩
  · cases e : valV kvs (keyI s) with
    | none => exact nd_putK v M.nd e
    | some x =>
      unfold putK
      rw [valV_any, e]
      rw [if_pos (by rfl), List.map_map]
      have : ((fun kv : List Key × V => kv.1) ∘ fun kv => if kv.1 = keyI s then (kv.1, v) else kv) = (·.1) := by
        funext kv
        show (if kv.1 = keyI s then (kv.1, v) else kv).1 = kv.1
        split <;> rfl
      rw [this]
      exact M.nd
  · rw [valV_put] at h
    by_cases e : k = keyI s
    · rw [if_pos e] at h
      exact ⟨s, e, o, Option.some.inj h ▸ g⟩
    · rw [if_neg e] at h
      exact M.ok k u h
theorem Memo.get {G : List Int → V → Prop} {kvs : List (List Key × V)} {s : List Int} {v : V} (M : Memo G kvs) (h : valV kvs (keyI s) = some v) : G s v := by
  obtain ⟨t, e, _, g⟩ := M.ok _ v h
  rw [keyI_inj e]
  exact g
theorem Memo.mono {G G' : List Int → V → Prop} {kvs : List (List Key × V)} (M : Memo G kvs) (h : ∀ s v, G s v → G' s v) : Memo G' kvs :=
  ⟨M.nd, fun k v hv => let ⟨s, e, o, g⟩ := M.ok k v hv; ⟨s, e, o, h s v g⟩⟩
/-- all but the object at d stands -/
def Sbut (d : Addr) (H H' : Hp) : Prop := ∀ b o, H b = some o → b ≠ d → H' b = some o
theorem sbut_of {H H' : Hp} (e : Same H H') (d : Addr) : Sbut d H H' := fun b o h _ => e b o h
theorem Sbut.trans {d : Addr} {H H1 H2 : Hp} (a : Sbut d H H1) (b : Sbut d H1 H2) : Sbut d H H2 := fun c o h n => b c o (a c o h n) n
theorem Sbut.same {d : Addr} {H H1 H2 : Hp} (a : Sbut d H H1) (b : Same H1 H2) : Sbut d H H2 := fun c o h n => b c o (a c o h n)
theorem Sbut.upd {d : Addr} {H H1 : Hp} (a : Sbut d H H1) (o : HO) : Sbut d H (upd H1 d o) := fun c u h n => by rw [upd_ne n]; exact a c u h n
theorem tup_ne {d a : Addr} {H : Hp} {kvs : List (List Key × V)} {xs : List V} (hd : H d = some (.dT kvs)) (ha : H a = some (.tup xs)) : a ≠ d := ne_of ha hd (by intro z; cases z)
theorem TupI.sbut {d a : Addr} {H H' : Hp} {s : List Int} {kvs : List (List Key × V)} (hd : H d = some (.dT kvs)) (h : TupI H a s) (e : Sbut d H H') : TupI H' a s := e _ _ h (tup_ne hd h)
/-- standings at these addresses -/
def TupsAt (H : Hp) : List Addr → List (List Int) → Prop
  | [], [] => True
  | r :: rs, l :: ls => TupI H r l ∧ TupsAt H rs ls
  | _, _ => False
theorem TupsAt.same {H H' : Hp} (e : Same H H') : ∀ {rs : List Addr} {ls : List (List Int)}, TupsAt H rs ls → TupsAt H' rs ls
  | [], [], _ => trivial
  | _ :: _, _ :: _, h => ⟨h.1.same e, TupsAt.same e h.2⟩
theorem TupsAt.wr {H : Hp} {D : Addr} {xs : List V} {o : HO} (hD : H D = some (.lst xs)) : ∀ {rs : List Addr} {ls : List (List Int)}, TupsAt H rs ls → TupsAt (upd H D o) rs ls
  | [], [], _ => trivial
  | _ :: _, _ :: _, h => ⟨by unfold TupI; rw [upd_ne (ne_of h.1 hD (by intro z; cases z))]; exact h.1, TupsAt.wr hD h.2⟩
theorem TupsAt.snoc {H : Hp} {r : Addr} {l : List Int} (h1 : TupI H r l) : ∀ {rs : List Addr} {ls : List (List Int)}, TupsAt H rs ls → TupsAt H (rs ++ [r]) (ls ++ [l])
  | [], [], _ => ⟨h1, trivial⟩
  | _ :: _, _ :: _, h => ⟨h.1, TupsAt.snoc h1 h.2⟩
theorem TupsAt.length {H : Hp} : ∀ {rs : List Addr} {ls : List (List Int)}, TupsAt H rs ls → rs.length = ls.length
  | [], [], _ => rfl
  | _ :: _, _ :: _, h => congrArg Nat.succ (TupsAt.length h.2)
theorem TupsAt.get {H : Hp} : ∀ {rs : List Addr} {ls : List (List Int)}, TupsAt H rs ls → ∀ {i : Nat} {r : Addr}, rs[i]? = some r → ∃ l, ls[i]? = some l ∧ TupI H r l
  | r0 :: rs, l0 :: ls, h, 0, r, e => by
    have e' := Option.some.inj e
    subst e'
    exact ⟨l0, rfl, h.1⟩
  | r0 :: rs, l0 :: ls, h, i + 1, r, e => TupsAt.get h.2 (i := i) (by simpa using e)
  | [], [], _, i, r, e => by simp at e
theorem steps_len_all : (subs 4 board).all (fun s => decide ((stepsF s).length ≤ 44)) = true := by decide +kernel
theorem steps_len {s : List Int} (h : okB s = true) : (stepsF s).length ≤ 44 := of_decide_eq_true (List.all_eq_true.mp steps_len_all s (ok_mem h))
section
variable {P : Program} {w : World} {K : PySem.W.Frag} {mg : Str → Option Value} {base : Heap} {CB CT CL : Addr}
/-- a search at p, its table at d -/
structure LastAt (CL : Addr) (H : Hp) (p d : Addr) (kvs : List (List Key × V)) : Prop where
  ob : ∃ dx, H p = some (.ins CL dx [("known", .ref d)])
  dc : H d = some (.dT kvs)
  mm : Memo (fun s v => v = .int (rem s)) kvs
theorem LastAt.sbutS {H H' : Hp} {p d : Addr} {kvs : List (List Key × V)} (L : LastAt CL H p d kvs) (e : Same H H') : LastAt CL H' p d kvs := ⟨let ⟨dx, h⟩ := L.ob; ⟨dx, e _ _ h⟩, e _ _ L.dc, L.mm⟩
theorem LastAt.wr {H : Hp} {p d D : Addr} {xs : List V} {o : HO} {kvs : List (List Key × V)} (hD : H D = some (.lst xs)) (L : LastAt CL H p d kvs) : LastAt CL (upd H D o) p d kvs :=
  ⟨let ⟨dx, h⟩ := L.ob; ⟨dx, by rw [upd_ne (ne_of h hD (by intro z; cases z))]; exact h⟩, by rw [upd_ne (ne_of L.dc hD (by intro z; cases z))]; exact L.dc, L.mm⟩
theorem lk_known (d : Addr) : ([("known", V.ref d)] : List (Str × V)).lookup ("known" : Str) = some (.ref d) := by rw [lookup_put, if_pos rfl]
theorem lk_moves (d : Addr) : ([("known", V.ref d)] : List (Str × V)).lookup ("moves" : Str) = none := by rw [lookup_put, if_neg (by decide +kernel)]; rfl
def spMoves (CL : Addr) (n : Nat) : Sp := fun vs H Q _ => ∃ (p a d : Addr) (kvs : List (List Key × V)) (s : List Int), vs = [.ref p, .ref a] ∧ TupI H a s ∧ okB s = true ∧ mu s < n ∧ LastAt CL H p d kvs ∧
  ∀ kvs' H', LastAt CL H' p d kvs' → Sbut d H H' → Q (.int (rem s)) H'
theorem scMoves : FnScope ["self", "standing", "rest", "lost", "every", "one", "to", "later"] ["self", "standing"] (defScope sMoves) := ⟨rfl, rfl, rfl, by decide +kernel, rfl, by decide +kernel, by decide +kernel⟩
abbrev nMoves : List Str := ["self", "standing", "rest", "lost", "every", "one", "to", "later"]
/-- the length of what slot i holds; the table's place for the standing -/
abbrev tLenI (K : PySem.W.Frag) (i : Nat) : TE := tCB (fun xs H Q => ∃ x n, xs = [x] ∧ LenV K x H n ∧ Q (.int n) H) (tCons (tVar i) tNil)
abbrev rGtI : R2 := rI0 fun i j => .bl (decide (j < i))
abbrev tPutAt (K : PySem.W.Frag) (te : TE) : TS := sDPut (tFld K (tVar 0) "known") (tVar 1) te
abbrev tGetAt (K : PySem.W.Frag) : TE := tDGet (tFld K (tVar 0) "known") (tVar 1)
/-- the last two statements: what is known of the standing is stored, and told -/
def tTail (K : PySem.W.Frag) : TS := tIfS (tTest (tOp rEq (tLenI K 4) (tC (.int 0)))) (tPutAt K (tC (.int 0)))
  (tPutAt K (tOp (rI0 fun i j => .int (i + j)) (tC (.int 1)) (tIf (tTest (tOp rGtI (tLenI K 3) (tC (.int 0)))) (tCB (rMin K) (tCons (tVar 4) tNil)) (tCB (rMax K) (tCons (tVar 4) tNil)))))
theorem tell {T : Txt K mg CB CT CL} {p a d : Addr} {kvs : List (List Key × V)} {s : List Int} {H : Hp} {Q : VK} {u2 u3 u4 u5 u6 u7 : Option V} (L : LastAt CL H p d kvs) (hT : TupI H a s) (h : valV kvs (keyI s) = some (.int (rem s))) (q : Q (.int (rem s)) H) :
    tGetAt K [some (.ref p), some (.ref a), u2, u3, u4, u5, u6, u7] H Q := by
  obtain ⟨⟨dx, hp⟩, hd, mm⟩ := L
  have hT' : H a = some (.tup ((keyI s).map kV)) := by rw [keyI_kV]; exact hT
  exact ⟨_, rfl, p, CL, dx, _, _, rfl, hp, T.cL, T.nL, lk_known d, _, rfl, d, _, rfl, by rw [← h]; exact DGet.t hd hT', q⟩
theorem store {T : Txt K mg CB CT CL} {p a d : Addr} {kvs : List (List Key × V)} {s : List Int} {H : Hp} {D : Ends} {u2 u3 u4 u5 u6 u7 : Option V} {v : V} (hv : v = .int (rem s)) (L : LastAt CL H p d kvs) (hT : TupI H a s) (ok : okB s = true)
    (k : ∀ H', LastAt CL H' p d (putK kvs (keyI s) (.int (rem s))) → Sbut d H H' → D.nx [some (.ref p), some (.ref a), u2, u3, u4, u5, u6, u7] H') :
    tFld K (tVar 0) "known" [some (.ref p), some (.ref a), u2, u3, u4, u5, u6, u7] H fun x H2 => tVar 1 [some (.ref p), some (.ref a), u2, u3, u4, u5, u6, u7] H2 fun y H3 => ∃ a' H4, x = .ref a' ∧ DPut H3 a' y v H4 ∧ D.nx [some (.ref p), some (.ref a), u2, u3, u4, u5, u6, u7] H4 := by
  subst hv
  obtain ⟨⟨dx, hp⟩, hd, mm⟩ := L
  have hT' : H a = some (.tup ((keyI s).map kV)) := by rw [keyI_kV]; exact hT
  refine ⟨_, rfl, p, CL, dx, _, _, rfl, hp, T.cL, T.nL, lk_known d, _, rfl, d, _, rfl, DPut.t hd hT' (small1000 (Nat.le_trans mm.len (by decide))), k _ ⟨⟨dx, ?_⟩, upd_same, mm.put ok rfl⟩ fun b o e n => ?_⟩
  · rw [upd_ne (ne_of hp hd (by intro z; cases z))]
    exact hp
  · rw [upd_ne n]
    exact e
/-- the tail's reading -/
theorem tail_ok {T : Txt K mg CB CT CL} {p a d l3 e4 : Addr} {kvs : List (List Key × V)} {s lost every : List Int} {H : Hp} {Q : VK} {D : Ends} {u2 u5 u6 u7 : Option V} (hQ : D.rt = Q) (L : LastAt CL H p d kvs) (hT : TupI H a s) (ok : okB s = true)
    (h3 : H l3 = some (.lst (lost.map V.int))) (h4 : H e4 = some (.lst (every.map V.int))) (er : rem s = if every.length = 0 then 0 else 1 + (if 0 < lost.length then minI every else maxI every))
    (q : ∀ kvs' H', LastAt CL H' p d kvs' → Sbut d H H' → Q (.int (rem s)) H') :
    tSeq (tTail K) (tRet (tGetAt K)) D [some (.ref p), some (.ref a), u2, some (.ref l3), some (.ref e4), u5, u6, u7] H := by
  subst hQ
  have fin : ∀ H', LastAt CL H' p d (putK kvs (keyI s) (.int (rem s))) → Sbut d H H' → tRet (tGetAt K) D [some (.ref p), some (.ref a), u2, some (.ref l3), some (.ref e4), u5, u6, u7] H' := fun H' L' sb =>
    tell (T := T) L' (hT.sbut L.dc sb) (by rw [valV_put, if_pos rfl]) (q _ H' L' sb)
  refine ⟨_, rfl, _, _, rfl, .inl ⟨_, SqL.of h4, rfl⟩, rfl, _, rfl, ?_⟩
  rw [dec_int, List.length_map]
  by_cases z : every.length = 0
  · have e0 : rem s = 0 := by rw [er, if_pos z]
    have e1 : (((every.length : Nat) : Int) == 0) = true := by rw [z]; rfl
    rw [e1]
    refine iteT ?_
    exact store (T := T) (D := { D with nx := tRet (tGetAt K) D }) (by rw [e0]) L hT ok fin
  · have e1 : (((every.length : Nat) : Int) == 0) = false := by
      refine beq_eq_false_iff_ne.mpr fun h => z ?_
      omega
    rw [e1]
    refine iteF ?_
    refine ⟨_, rfl, _, _, rfl, .inl ⟨_, SqL.of h3, rfl⟩, _, _, rfl, rfl, _, rfl, ?_⟩
    rw [List.length_map]
    rw [if_neg z] at er
    by_cases l0 : 0 < lost.length
    · rw [show decide ((0 : Int) < (lost.length : Int)) = true from decide_eq_true (by omega)]
      rw [if_pos l0] at er
      refine iteT ⟨_, rfl, e4, every, rfl, SqL.of h4, Nat.pos_of_ne_zero z, fun m hm least => ⟨_, _, rfl, rfl, ?_⟩⟩
      exact store (T := T) (D := { D with nx := tRet (tGetAt K) D }) (by rw [er, minI_eq hm least]) L hT ok fin
    · rw [show decide ((0 : Int) < (lost.length : Int)) = false from decide_eq_false (by omega)]
      rw [if_neg l0] at er
      refine iteF ⟨_, rfl, e4, every, rfl, SqL.of h4, Nat.pos_of_ne_zero z, fun m hm most => ⟨_, _, rfl, rfl, ?_⟩⟩
      exact store (T := T) (D := { D with nx := tRet (tGetAt K) D }) (by rw [er, maxI_eq hm most]) L hT ok fin
theorem ok_moves {f : Addr} {fd : FuncData} (F : Fun K "moves" "Lasting.moves" sMoves f fd) (T : Txt K mg CB CT CL) (mM : Meth K CL "moves" f) (bM : Binds K fd ["self", "standing"] [])
    (GS : Has P w K mg base CX0 1 "steps_from" ["standing"] spSteps) (GM : Has P w K mg base CX0 2 "moved" ["standing", "one", "to"] spMoved) (GB : Has P w K mg base CX0 4 "by_mates" ["standing"] spBy) :
    ∀ n, FnOk P w K mg base CX0 (5 + n) f fd ["self", "standing"] (spMoves CL n)
  | 0 => ⟨fun vs H Q E h => by obtain ⟨p, a, d, kvs, s, rfl, _⟩ := h; rfl, fun A outer s H args us vs Q E hr he hb hv h => by obtain ⟨p, a, d, kvs, s, _, _, _, l, _⟩ := h; exact absurd l (Nat.not_lt_zero _)⟩
  | n + 1 => by
    have IH := ok_moves F T mM bM GS GM GB n
    refine F.ok scMoves (fun vs H Q E h => ?_) (fun cdv A outer st H vs Q E hr h => ?_)
    · obtain ⟨p, a, d, kvs, s, rfl, _⟩ := h
      rfl
    · obtain ⟨p, a, d, kvs, s, rfl, hT, ok, hn, L, q⟩ := h
      have hu := hu_of hr
      have hr1 : Room 1 _ := hr.mono (show 1 ≤ 5 + n by omega)
      have hr2 : Room 2 _ := hr.mono (show 2 ≤ 5 + n by omega)
      have hr4 : Room 4 _ := hr.mono (show 4 ≤ 5 + n by omega)
      refine ⟨_, pss_cons (ps_if (pt_cmp (pc_dnotin hu (pv 1) (pe_fld (pv 0) rfl)))
          (pss_cons (ps_setLc (i := 2) (own := [("one", 5), ("to", 6)]) (g := gTup K 2 (gCons (gName 5) (gCons (gName 6) gNil))) rfl scMoves.nd rfl rfl (sw_true rfl rfl rfl (by decide +kernel)) (pi_list (pe_has GS hr1 pass0 (pa_cons (pv 1) pa_nil))) (blkOk_by (own := [("one", 5), ("to", 6)]) (N := nMoves) (sc := defScope sMoves) (by decide +kernel))
            (fun _ _ _ _ _ => pg_tup rfl (pgs_cons (pg_name (i := 5) scMoves.nd rfl (.inl rfl)) (pgs_cons (pg_name (i := 6) scMoves.nd rfl (.inl rfl)) pgs_nil))) (fun _ _ _ _ _ => pts_nil)
            (fun _ _ _ _ _ => pe_has GM hr2 pass0 (pa_cons (pv 1) (pa_cons (pv 5) (pa_cons (pv 6) pa_nil)))))
          (pss_cons (ps_setLc (i := 3) (own := [("later", 7)]) (g := gName 7) rfl scMoves.nd rfl rfl (sw_true rfl rfl rfl (by decide +kernel)) (pi_list (pv 2)) (blkOk_by (own := [("later", 7)]) (N := nMoves) (sc := defScope sMoves) (by decide +kernel))
            (fun _ _ _ _ _ => pg_name (i := 7) scMoves.nd rfl (.inl rfl)) (fun _ _ _ _ _ => pts_one (pt_cmpR op_eq (pe_has GB hr4 pass0 (pa_cons (pv 7) pa_nil)) pe_int (nomark _)))
            (fun _ _ _ _ _ => pe_meth (pv 0) T.cL mM IH hr bM .nil pass0 (pa_cons (pv 7) pa_nil)))
          (pss_cons (ps_set (i := 4) scMoves.nd rfl (.inl rfl) (pe_ifExp (pt_cmpR op_gt (pe_callB call_len (by rfl) T.len PySem.boot_len (pa_cons (pv 3) pa_nil)) pe_int (nomark _)) (pv 3)
            (pe_lc (own := [("later", 7)]) (g := gName 7) rfl scMoves.nd (pi_list (pv 2)) (blkOk_by (own := [("later", 7)]) (N := nMoves) (sc := defScope sMoves) (by decide +kernel))
              (fun _ _ _ _ _ => pg_name (i := 7) scMoves.nd rfl (.inl rfl)) (fun _ _ _ _ _ => pts_nil) (fun _ _ _ _ _ => pe_meth (pv 0) T.cL mM IH hr bM .nil pass0 (pa_cons (pv 7) pa_nil)))))
          (pss_one (ps_if (pt_cmpR op_eq (pe_callB call_len (by rfl) T.len PySem.boot_len (pa_cons (pv 4) pa_nil)) pe_int (nomark _))
            (pss_one (ps_dput hu (pe_fld (pv 0) rfl) (pv 1) pe_int rfl))
            (pss_one (ps_dput hu (pe_fld (pv 0) rfl) (pv 1) (pe_op op_add pe_int (pe_ifExp (pt_cmpR op_gt (pe_callB call_len (by rfl) T.len PySem.boot_len (pa_cons (pv 3) pa_nil)) pe_int (nomark _))
              (pe_callB (cr_min rfl) (by rfl) T.min (by decide +kernel) (pa_cons (pv 4) pa_nil)) (pe_callB (cr_max rfl) (by rfl) T.max (by decide +kernel) (pa_cons (pv 4) pa_nil)))) rfl)))))))
          pss_nil)
        (pss_one (ps_ret (pe_dget hu (pe_fld (pv 0) rfl) (pv 1) (fun _ _ => rfl)))), ?_⟩
      obtain ⟨dx, hp⟩ := L.ob
      have hd := L.dc
      have hT' : H a = some (.tup ((keyI s).map kV)) := by rw [keyI_kV]; exact hT
      refine ⟨_, rfl, _, rfl, p, CL, dx, _, _, rfl, hp, T.cL, T.nL, lk_known d, d, _, rfl, DGet.t hd hT', _, rfl, ?_⟩
      cases e : valV kvs (keyI s) with
      | some v =>
        have ev : v = .int (rem s) := L.mm.get e
        subst ev
        exact iteF (tell (T := T) L hT e (q kvs H L fun b o z _ => z))
      | none =>
        refine iteT ?_
        have G := good ok
        have fit := steps_len ok
        -- rest
        refine ⟨_, rfl, a, s, rfl, hT, ok, fun r qs H1 sm1 hr1 pr1 => ⟨r, rfl, ⟨_, SqL.of hr1⟩, fun D1 nD1 => lc_list (K := K) (a := r) (xs := qs.map V.ref) (fun i H' => Same H1 H' ∧ ∃ rs : List Addr, H' D1 = some (.lst (rs.map V.ref)) ∧ TupsAt H' rs (((stepsF s).take i).map (mv s)))
          ⟨same_upd nD1, [], upd_same, trivial⟩ (fun i H' _ ⟨sm, _⟩ => SqL.of (sm _ _ hr1)) ?_ ?_⟩⟩
        · rintro i y H' hi ⟨sm, rs, hD, tu⟩
          obtain ⟨q0, hq0, rfl⟩ := map_at hi
          obtain ⟨pp, hpp, hpt⟩ := pr1.get hq0
          refine ⟨q0, _, rfl, SqT.of (sm _ _ hpt), rfl, _, _, rfl, _, _, rfl, rfl, rfl, ?_⟩
          dsimp only [tYes]
          rw [if_pos rfl]
          refine ⟨_, rfl, _, rfl, _, rfl, a, s, pp.1, pp.2, rfl, (hT.same sm1).same sm, Nat.le_trans (ok_of ok).len (by decide), fun t H2 sm2 ht => ⟨_, sm2 _ _ hD, small1000 ?_, ?_⟩⟩
          · rw [List.length_map, tu.length, List.length_map, List.length_take]
            omega
          · refine ⟨same_upd' (sm.trans sm2) nD1, rs ++ [t], by rw [upd_same, List.map_append]; rfl, ?_⟩
            rw [take_more hpp, List.map_append]
            exact (TupsAt.snoc (l := mv s pp) ht (tu.same sm2)).wr (sm2 _ _ hD)
        · rintro H2 ⟨sm2, rs, hD2, tu⟩
          rw [List.length_map, pr1.length, List.take_length] at tu
          have La := (L.sbutS sm1).sbutS sm2
          have sb2 : Sbut d H H2 := sbut_of (sm1.trans sm2) d
          have lsok : ∀ l ∈ (stepsF s).map (mv s), okB l = true ∧ mu l < mu s := fun l hl => by
            obtain ⟨pp, hpp, rfl⟩ := List.mem_map.mp hl
            exact G.later pp hpp
          have lslen : ((stepsF s).map (mv s)).length ≤ 44 := by rw [List.length_map]; exact fit
          have hrem := rem_eq ok
          unfold remStep at hrem
          dsimp only at hrem
          generalize (stepsF s).map (mv s) = ls at tu lsok lslen hrem
          -- a later standing's number, by the search itself
          have later : ∀ (H' : Hp) (r0 : Addr) (l : List Int) (kvs' : List (List Key × V)) (Q' : VK) (u2 u3 u4 u5 u6 : Option V), LastAt CL H' p d kvs' → TupI H' r0 l → okB l = true → mu l < mu s → (∀ kvs'' H'', LastAt CL H'' p d kvs'' → Sbut d H' H'' → Q' (.int (rem l)) H'') →
              tMeth CL "moves" (spMoves CL n) [] E0 (tVar 0) (tCons (tVar 7) tNil) [some (.ref p), some (.ref a), u2, u3, u4, u5, u6, some (.ref r0)] H' Q' := fun H' r0 l kvs' Q' u2 u3 u4 u5 u6 L' hl okl lt k => by
            obtain ⟨dx', hp'⟩ := L'.ob
            exact ⟨_, rfl, p, dx', _, rfl, hp', lk_moves d, _, rfl, p, r0, d, kvs', l, rfl, hl, okl, Nat.lt_of_lt_of_le lt (Nat.le_of_lt_succ hn), L', k⟩
          -- lost
          refine ⟨_, rfl, D1, rfl, ⟨_, SqL.of hD2⟩, fun D2 nD2 => lc_list (K := K) (a := D1) (xs := rs.map V.ref) (fun i H' => ∃ kvs', LastAt CL H' p d kvs' ∧ Sbut d H2 H' ∧ H' D2 = some (.lst ((((ls.take i).filter isZ).map rem).map V.int)))
            ⟨kvs, La.sbutS (same_upd nD2), sbut_of (same_upd nD2) d, upd_same⟩ (fun i H' _ ⟨_, _, sb, _⟩ => SqL.of (sb _ _ hD2 (ne_of hD2 La.dc (by intro z; cases z)))) ?_ ?_⟩
          · rintro i y H' hi ⟨kvs', L', sb, hD'⟩
            obtain ⟨r0, hr0, rfl⟩ := map_at hi
            obtain ⟨l, hl, htl⟩ := tu.get hr0
            obtain ⟨okl, ltl⟩ := lsok l (List.mem_of_getElem? hl)
            obtain ⟨nm, hnm⟩ := (good okl).nim
            have htl' : TupI H' r0 l := TupI.sbut La.dc htl sb
            have more := filter_more isZ hl
            have zl : isZ l = (nm == 0) := by unfold isZ; rw [hnm]; rfl
            refine ⟨rfl, _, rfl, r0, l, nm, rfl, htl', Nat.le_trans (ok_of okl).len (by decide), hnm, fun H3 sm3 => ⟨rfl, _, rfl, ?_⟩⟩
            rw [dec_int, ← zl]
            have L3 := L'.sbutS sm3
            have sb3 := sb.same sm3
            cases ez : isZ l with
            | false =>
              rw [ez] at more
              refine iteF ⟨kvs', L3, sb3, ?_⟩
              rw [sm3 _ _ hD', more]
              simp
            | true =>
              rw [ez] at more
              refine iteT (later H3 r0 l kvs' _ _ _ _ _ _ L3 (htl'.same sm3) okl ltl fun kvs'' H4 L4 sb4 => ?_)
              have hD4 : H4 D2 = some (.lst ((((ls.take i).filter isZ).map rem).map V.int)) := sb4 _ _ (sm3 _ _ hD') (ne_of (sm3 _ _ hD') L3.dc (by intro z; cases z))
              refine ⟨_, hD4, small1000 ?_, kvs'', L4.wr hD4, fun b o eb nb => ?_, ?_⟩
              · rw [List.length_map, List.length_map]
                have := List.length_filter_le isZ (ls.take i)
                rw [List.length_take] at this
                omega
              · rw [upd_ne (ne_of_none eb nD2)]
                exact sb4 _ _ (sb3 _ _ eb nb) nb
              · rw [upd_same, more]
                simp
          · rintro H3 ⟨kvs3, L3, sb3, hD3⟩
            rw [List.length_map, tu.length, List.take_length] at hD3
            have sbH3 := sb2.trans sb3
            have hT3 : TupI H3 a s := hT.sbut hd sbH3
            -- every
            refine ⟨_, rfl, _, _, rfl, .inl ⟨_, SqL.of hD3, rfl⟩, _, _, rfl, rfl, _, rfl, ?_⟩
            rw [List.length_map]
            generalize hlost : (ls.filter isZ).map rem = lost at hD3 hrem ⊢
            by_cases l0 : 0 < lost.length
            · rw [show decide ((0 : Int) < (lost.length : Int)) = true from decide_eq_true (by omega)]
              refine iteT ⟨_, rfl, ?_⟩
              refine tail_ok (T := T) rfl L3 hT3 ok hD3 hD3 ?_ fun kvs' H' L' sb' => q kvs' H' L' (sbH3.trans sb')
              rw [hrem]
              simp only [l0, if_true]
            · rw [show decide ((0 : Int) < (lost.length : Int)) = false from decide_eq_false (by omega)]
              refine iteF ?_
              have hD1' : H3 D1 = some (.lst (rs.map V.ref)) := sb3 _ _ hD2 (ne_of hD2 La.dc (by intro z; cases z))
              refine ⟨_, rfl, D1, rfl, ⟨_, SqL.of hD1'⟩, fun D4 nD4 => lc_list (K := K) (a := D1) (xs := rs.map V.ref) (fun i H' => ∃ kvs', LastAt CL H' p d kvs' ∧ Sbut d H3 H' ∧ H' D4 = some (.lst (((ls.take i).map rem).map V.int)))
                ⟨kvs3, L3.sbutS (same_upd nD4), sbut_of (same_upd nD4) d, upd_same⟩ (fun i H' _ ⟨_, _, sb, _⟩ => SqL.of (sb _ _ hD1' (ne_of hD1' L3.dc (by intro z; cases z)))) ?_ ?_⟩
              · rintro i y H' hi ⟨kvs', L', sb, hD'⟩
                obtain ⟨r0, hr0, rfl⟩ := map_at hi
                obtain ⟨l, hl, htl⟩ := tu.get hr0
                obtain ⟨okl, ltl⟩ := lsok l (List.mem_of_getElem? hl)
                have htl' : TupI H' r0 l := TupI.sbut La.dc htl (sb3.trans sb)
                refine ⟨rfl, ?_⟩
                dsimp only [tYes]
                rw [if_pos rfl]
                refine later H' r0 l kvs' _ _ _ _ _ _ L' htl' okl ltl fun kvs'' H4 L4 sb4 => ?_
                have hD4' : H4 D4 = some (.lst (((ls.take i).map rem).map V.int)) := sb4 _ _ hD' (ne_of hD' L'.dc (by intro z; cases z))
                refine ⟨_, hD4', small1000 ?_, kvs'', L4.wr hD4', fun b o eb nb => ?_, ?_⟩
                · rw [List.length_map, List.length_map, List.length_take]
                  omega
                · rw [upd_ne (ne_of_none eb nD4)]
                  exact sb4 _ _ (sb _ _ eb nb) nb
                · rw [upd_same, take_more hl]
                  simp
              · rintro H5 ⟨kvs5, L5, sb5, hD5⟩
                rw [List.length_map, tu.length, List.take_length] at hD5
                have hD35 : H5 D2 = some (.lst (lost.map V.int)) := sb5 _ _ hD3 (ne_of hD3 L3.dc (by intro z; cases z))
                refine tail_ok (T := T) rfl L5 (hT3.sbut L3.dc sb5) ok hD35 hD5 ?_ fun kvs' H' L' sb' => q kvs' H' L' ((sbH3.trans sb5).trans sb')
                rw [hrem]
                simp only [l0, if_false]
end
end Sq
/-! SqH: remote, hurried. -/
namespace Sq
open PySem L2 PyProof.Rows
theorem mu_all : (subs 4 board).all (fun s => decide (mu s < 45)) = true := by decide +kernel
theorem mu_lt {s : List Int} (h : okB s = true) : mu s < 45 := of_decide_eq_true (List.all_eq_true.mp mu_all s (ok_mem h))
/-- addresses and data, one by one -/
def Each {β : Type} (R : Addr → β → Prop) : List Addr → List β → Prop
  | [], [] => True
  | a :: as, b :: bs => R a b ∧ Each R as bs
  | _, _ => False
theorem Each.mono {β : Type} {R R' : Addr → β → Prop} (h : ∀ a b, R a b → R' a b) : ∀ {as : List Addr} {bs : List β}, Each R as bs → Each R' as bs
  | [], [], _ => trivial
  | _ :: _, _ :: _, e => ⟨h _ _ e.1, Each.mono h e.2⟩
theorem Each.snoc {β : Type} {R : Addr → β → Prop} {a : Addr} {b : β} (h1 : R a b) : ∀ {as : List Addr} {bs : List β}, Each R as bs → Each R (as ++ [a]) (bs ++ [b])
  | [], [], _ => ⟨h1, trivial⟩
  | _ :: _, _ :: _, h => ⟨h.1, Each.snoc h1 h.2⟩
theorem Each.length {β : Type} {R : Addr → β → Prop} : ∀ {as : List Addr} {bs : List β}, Each R as bs → as.length = bs.length
  | [], [], _ => rfl
  | _ :: _, _ :: _, h => congrArg Nat.succ (Each.length h.2)
theorem Each.get {β : Type} {R : Addr → β → Prop} : ∀ {as : List Addr} {bs : List β}, Each R as bs → ∀ {i : Nat} {a : Addr}, as[i]? = some a → ∃ b, bs[i]? = some b ∧ R a b
  | a0 :: as, b0 :: bs, h, 0, a, e => by
    have e' := Option.some.inj e
    subst e'
    exact ⟨b0, rfl, h.1⟩
  | a0 :: as, b0 :: bs, h, i + 1, a, e => Each.get h.2 (i := i) (by simpa using e)
  | [], [], _, i, a, e => by simp at e
section
variable {P : Program} {w : World} {K : PySem.W.Frag} {mg : Str → Option Value} {base : Heap} {CB CT CL : Addr}
/-- the search's class: made and asked -/
structure Srch (P : Program) (w : World) (K : PySem.W.Frag) (mg : Str → Option Value) (base : Heap) (CL : Addr) : Prop where
  ini : ∃ (fI : Addr) (fd : FuncData), Mk K CL fI ∧ FnOk P w K mg base CX0 1 fI fd ["self"] (spLInit CL) ∧ Binds K fd ["self"] []
  mov : ∃ (fM : Addr) (fd : FuncData), Meth K CL "moves" fM ∧ FnOk P w K mg base CX0 50 fM fd ["self", "standing"] (spMoves CL 45) ∧ Binds K fd ["self", "standing"] []
/-- what both searches promise of what is no small standing -/
def Asked (CB CT : Addr) (H : Hp) (E : XK) (x : V) (k : Addr → List Int → Prop) : Prop :=
  (∃ v, Bad H x v ∧ WantB CB H E v) ∨ (∃ a s, x = .ref a ∧ TupI H a s ∧ FineL s ∧ ((greatB s = true ∧ ∀ H', Same H H' → E (.ref CT) none H') ∨ (greatB s = false ∧ k a s)))
def spRemote (CB CT : Addr) : Sp := fun vs H Q E => ∃ x, vs = [x] ∧ Asked CB CT H E x fun _ s => ∀ H', Same H H' → Q (.int (rem s)) H'
theorem scRemote : FnScope ["standing"] ["standing"] (defScope sRemote) := ⟨rfl, rfl, rfl, by decide +kernel, rfl, by decide +kernel, by decide +kernel⟩
/-- a new search -/
theorem made_last {H H1 : Hp} {x dx d : Addr} (nx : H x = none) (ndx : H dx = none) (hd : (upd (upd H dx (.own x)) x (.ins CL dx [])) d = none) (h1 : H1 x = some (.ins CL dx [("known", .ref d)])) (h2 : H1 d = some (.dT []))
    (k : ∀ b o, (upd (upd H dx (.own x)) x (.ins CL dx [])) b = some o → b ≠ x → H1 b = some o) : LastAt CL H1 x d [] ∧ Same H H1 ∧ H d = none := by
  have s0 : Same H (upd (upd H dx (.own x)) x (.ins CL dx [])) := fun b o e => by
    rw [upd_ne (ne_of_none e nx), upd_ne (ne_of_none e ndx)]
    exact e
  exact ⟨⟨⟨dx, h1⟩, h2, Memo.nil⟩, fun b o e => k b o (s0 b o e) (ne_of_none e nx), s0.free hd⟩
theorem ok_remote {f : Addr} {fd : FuncData} (F : Fun K "remote" "remote" sRemote f fd) (T : Txt K mg CB CT CL) (S : Srch P w K mg base CL) (GC : Has P w K mg base (L2.CX P w) 5 "check_searched" ["standing"] (spSearched CB CT)) :
    FnOk P w K mg base (L2.CX P w) 52 f fd ["standing"] (spRemote CB CT) := by
  obtain ⟨fI, fdI, MI, GI, bI⟩ := S.ini
  obtain ⟨fM, fdM, mM, GM, bM⟩ := S.mov
  refine F.okX scRemote (fun vs H Q E h => ?_) (fun cdv A outer s H vs Q E hr h => ?_)
  · obtain ⟨x, rfl, _⟩ := h
    rfl
  · obtain ⟨x, rfl, h⟩ := h
    refine ⟨_, pss_cons (ps_expr (pe_has GC (hr.mono (by decide)) (passes_call (takes_of rfl rfl rfl rfl) (fun _ _ _ _ h => h)) (pa_cons (pv 0) pa_nil)))
      (pss_one (ps_ret (pe_meth (pe_make0 MI GI (hr.mono (by decide)) rfl T.gL bI .nil pass0) T.cL mM GM (hr.mono (by decide)) bM .nil pass0 (pa_cons (pv 0) pa_nil) rfl rfl (mcall_of (abase_call (by decide)) fun ov => by rfl)))), ?_⟩
    refine ⟨_, rfl, x, rfl, ?_⟩
    rcases h with hb | ⟨a, s, rfl, hT, fine, h⟩
    · exact .inl hb
    · refine .inr ⟨a, s, rfl, hT, fine, ?_⟩
      rcases h with ⟨g, k⟩ | ⟨g, k⟩
      · exact .inl ⟨g, k⟩
      · refine .inr ⟨g, fun H1 sm => ?_⟩
        have ok := small_ok fine g
        intro x dx nx ndx nex
        refine ⟨x, dx, rfl, upd_same, fun d H2 nd hp hdT kp => ⟨rfl, ?_⟩⟩
        obtain ⟨L, sm2, nd1⟩ := made_last nx ndx nd hp hdT kp
        refine ⟨x, dx, _, rfl, hp, lk_moves d, _, rfl, x, a, d, [], s, rfl, (hT.same sm).same sm2, ok, mu_lt ok, L, fun kvs' H3 L3 sb3 => ?_⟩
        refine k H3 fun b o e => sb3 _ _ ((sm.trans sm2) _ _ e) ?_
        exact ne_of_none (sm _ _ e) nd1
end
end Sq
/-! SqI: hurried. -/
namespace Sq
open PySem L2 PyProof.Rows
section
variable {P : Program} {w : World} {K : PySem.W.Frag} {mg : Str → Option Value} {base : Heap} {CB CT CL : Addr}
/-- a row: the move, the standing behind it -/
def R3 (s : List Int) (H : Hp) (t : Addr) (p : Int × Int) : Prop := ∃ r, H t = some (.tup [.int p.1, .int p.2, .ref r]) ∧ TupI H r (mv s p)
/-- a winning move: how long, the move -/
def RL (s : List Int) (H : Hp) (t : Addr) (p : Int × Int) : Prop := ∃ q, H t = some (.tup [.int (rem (mv s p)), .ref q]) ∧ H q = some (.tup [.int p.1, .int p.2])
theorem R3.same {s : List Int} {H H' : Hp} (e : Same H H') (t : Addr) (p : Int × Int) (h : R3 s H t p) : R3 s H' t p := let ⟨r, a, b⟩ := h; ⟨r, e _ _ a, b.same e⟩
theorem R3.sbut {s : List Int} {d : Addr} {kvs : List (List Key × V)} {H H' : Hp} (hd : H d = some (.dT kvs)) (e : Sbut d H H') (t : Addr) (p : Int × Int) (h : R3 s H t p) : R3 s H' t p := let ⟨r, a, b⟩ := h; ⟨r, e _ _ a (tup_ne hd a), b.sbut hd e⟩
theorem RL.same {s : List Int} {H H' : Hp} (e : Same H H') (t : Addr) (p : Int × Int) (h : RL s H t p) : RL s H' t p := let ⟨r, a, b⟩ := h; ⟨r, e _ _ a, e _ _ b⟩
theorem RL.sbut {s : List Int} {d : Addr} {kvs : List (List Key × V)} {H H' : Hp} (hd : H d = some (.dT kvs)) (e : Sbut d H H') (t : Addr) (p : Int × Int) (h : RL s H t p) : RL s H' t p := let ⟨r, a, b⟩ := h; ⟨r, e _ _ a (tup_ne hd a), e _ _ b (tup_ne hd b)⟩
theorem R3.wr {s : List Int} {H : Hp} {D : Addr} {xs : List V} {o : HO} (hD : H D = some (.lst xs)) (t : Addr) (p : Int × Int) (h : R3 s H t p) : R3 s (upd H D o) t p := let ⟨r, a, b⟩ := h
  ⟨r, by rw [upd_ne (ne_of a hD (by intro z; cases z))]; exact a, by unfold TupI; rw [upd_ne (ne_of b hD (by intro z; cases z))]; exact b⟩
theorem RL.wr {s : List Int} {H : Hp} {D : Addr} {xs : List V} {o : HO} (hD : H D = some (.lst xs)) (t : Addr) (p : Int × Int) (h : RL s H t p) : RL s (upd H D o) t p := let ⟨r, a, b⟩ := h
  ⟨r, by rw [upd_ne (ne_of a hD (by intro z; cases z))]; exact a, by rw [upd_ne (ne_of b hD (by intro z; cases z))]; exact b⟩
/-- the rows of which min is asked -/
theorem rows_of {s : List Int} {H : Hp} : ∀ {ts : List Addr} {ps : List (Int × Int)}, Each (RL s H) ts ps → ∃ rows : List MRow, (rows.map fun r => V.ref r.1) = ts.map V.ref ∧ (∀ r ∈ rows, RowAt K H r) ∧ rows.map (fun r => r.2.1) = ps.map fun p => rem (mv s p)
  | [], [], _ => ⟨[], rfl, (fun _ h => nomatch h), rfl⟩
  | t :: ts, p :: ps, h => by
    obtain ⟨⟨q, a, b⟩, h2⟩ := h
    obtain ⟨rows, e1, e2, e3⟩ := rows_of h2
    refine ⟨(t, rem (mv s p), p.1, p.2) :: rows, ?_, fun r hr => ?_, ?_⟩
    · rw [List.map_cons, List.map_cons, e1]
    · rcases List.mem_cons.mp hr with z | hr
      · rw [z]
        exact ⟨q, SqT.of a, SqT.of b⟩
      · exact e2 r hr
    · rw [List.map_cons, List.map_cons, e3]
def spHurried (CB CT : Addr) : Sp := fun vs H Q E => ∃ x, vs = [x] ∧ Asked CB CT H E x fun _ s => ∀ p qs H', Same H H' → H' p = some (.lst (qs.map V.ref)) → PairsAt H' qs (hurF s) → Q (.ref p) H'
abbrev nHurried : List Str := ["standing", "search", "rows", "lost", "one", "to", "later", "many", "step"]
theorem scHurried : FnScope nHurried ["standing"] (defScope sHurried) := ⟨rfl, rfl, rfl, by decide +kernel, rfl, by decide +kernel, by decide +kernel⟩
theorem ok_hurried {f : Addr} {fd : FuncData} (F : Fun K "hurried" "hurried" sHurried f fd) (T : Txt K mg CB CT CL) (S : Srch P w K mg base CL) (GC : Has P w K mg base (L2.CX P w) 5 "check_searched" ["standing"] (spSearched CB CT))
    (GS : Has P w K mg base CX0 1 "steps_from" ["standing"] spSteps) (GM : Has P w K mg base CX0 2 "moved" ["standing", "one", "to"] spMoved) (GB : Has P w K mg base CX0 4 "by_mates" ["standing"] spBy) :
    FnOk P w K mg base (L2.CX P w) 52 f fd ["standing"] (spHurried CB CT) := by
  obtain ⟨fI, fdI, MI, GI, bI⟩ := S.ini
  obtain ⟨fM, fdM, mM, GMv, bM⟩ := S.mov
  refine F.okX scHurried (fun vs H Q E h => ?_) (fun cdv A outer st H vs Q E hr h => ?_)
  · obtain ⟨x, rfl, _⟩ := h
    rfl
  · obtain ⟨x, rfl, h⟩ := h
    have hr1 : Room 1 _ := hr.mono (by decide)
    have hr2 : Room 2 _ := hr.mono (by decide)
    have hr4 : Room 4 _ := hr.mono (by decide)
    have hr50 : Room 50 _ := hr.mono (by decide)
    refine ⟨_, pss_cons (ps_expr (pe_has GC (hr.mono (by decide)) (passes_call (takes_of rfl rfl rfl rfl) (fun _ _ _ _ h => h)) (pa_cons (pv 0) pa_nil)))
      (pss_cons (ps_set (i := 1) scHurried.nd rfl (.inr rfl) (pe_make0 MI GI hr2 rfl T.gL bI .nil pass0))
      (pss_cons (ps_setLc (i := 2) (own := [("one", 4), ("to", 5)]) (g := gTup K 2 (gCons (gName 4) (gCons (gName 5) gNil))) rfl scHurried.nd rfl rfl (sw_true rfl rfl rfl (by decide +kernel)) (pi_list (pe_has GS hr1 pass0 (pa_cons (pv 0) pa_nil))) (blkOk_by (own := [("one", 4), ("to", 5)]) (N := nHurried) (sc := defScope sHurried) (by decide +kernel))
        (fun _ _ _ _ _ => pg_tup rfl (pgs_cons (pg_name (i := 4) scHurried.nd rfl (.inl rfl)) (pgs_cons (pg_name (i := 5) scHurried.nd rfl (.inl rfl)) pgs_nil))) (fun _ _ _ _ _ => pts_nil)
        (fun _ _ _ _ _ => pe_tup (pa_cons (pv 4) (pa_cons (pv 5) (pa_cons (pe_has GM hr2 pass0 (pa_cons (pv 0) (pa_cons (pv 4) (pa_cons (pv 5) pa_nil)))) pa_nil)))))
      (pss_cons (ps_set (i := 3) scHurried.nd rfl (.inr rfl) (pe_lc (own := [("one", 4), ("to", 5), ("later", 6)]) (g := gTup K 3 (gCons (gName 4) (gCons (gName 5) (gCons (gName 6) gNil)))) rfl scHurried.nd (pi_list (pv 2)) (blkOk_by (own := [("one", 4), ("to", 5), ("later", 6)]) (N := nHurried) (sc := defScope sHurried) (by decide +kernel))
        (fun _ _ _ _ _ => pg_tup rfl (pgs_cons (pg_name (i := 4) scHurried.nd rfl (.inl rfl)) (pgs_cons (pg_name (i := 5) scHurried.nd rfl (.inl rfl)) (pgs_cons (pg_name (i := 6) scHurried.nd rfl (.inl rfl)) pgs_nil))))
        (fun _ _ _ _ _ => pts_one (pt_cmpR op_eq (pe_has GB hr4 pass0 (pa_cons (pv 6) pa_nil)) pe_int (nomark _)))
        (fun _ _ _ _ _ => pe_tup (pa_cons (pe_meth (pv 1) T.cL mM GMv hr50 bM .nil pass0 (pa_cons (pv 6) pa_nil)) (pa_cons (pe_tup (pa_cons (pv 4) (pa_cons (pv 5) pa_nil))) pa_nil)))))
      (pss_one (ps_ret (pe_lc (own := [("many", 7), ("step", 8)]) (g := gTup K 2 (gCons (gName 7) (gCons (gName 8) gNil))) (tt := tTest (tOp rEq (tVar 7) (tOp (rIxT K) (tCB (rMinRow K) (tCons (tVar 3) tNil)) (tC (.int 0))))) rfl scHurried.nd (pi_list (pv 3)) (blkOk_by (own := [("many", 7), ("step", 8)]) (N := nHurried) (sc := defScope sHurried) (by decide +kernel))
        (fun _ _ _ _ _ => pg_tup rfl (pgs_cons (pg_name (i := 7) scHurried.nd rfl (.inl rfl)) (pgs_cons (pg_name (i := 8) scHurried.nd rfl (.inl rfl)) pgs_nil)))
        (fun _ _ _ _ _ => pts_one (pt_cmpR op_eq (pv 7) (pe_ix ix_tup (pe_callB (cr_minRow rfl hr.units) (by rfl) T.min (by decide +kernel) (pa_cons (pv 3) pa_nil)) pe_int (fun _ _ => rfl)) (nomark _)))
        (fun _ _ _ _ _ => pv 8))))))), ?_⟩
    refine ⟨_, rfl, x, rfl, ?_⟩
    rcases h with hb | ⟨a, s, rfl, hT, fine, h⟩
    · exact .inl hb
    · refine .inr ⟨a, s, rfl, hT, fine, ?_⟩
      rcases h with ⟨g, k⟩ | ⟨g, k⟩
      · exact .inl ⟨g, k⟩
      · refine .inr ⟨g, fun H1 sm => ?_⟩
        have ok := small_ok fine g
        have G := good ok
        have fit := steps_len ok
        -- search
        intro x dx nx ndx nex
        refine ⟨x, dx, rfl, upd_same, fun d H2 nd hp hdT kp => ⟨rfl, ?_⟩⟩
        obtain ⟨L, sm2, nd1⟩ := made_last nx ndx nd hp hdT kp
        have hT2 : TupI H2 a s := (hT.same sm).same sm2
        -- rows
        refine ⟨_, rfl, a, s, rfl, hT2, ok, fun r qs H3 sm3 hr3 pr3 => ⟨r, rfl, ⟨_, SqL.of hr3⟩, fun D1 nD1 => lc_list (K := K) (a := r) (xs := qs.map V.ref) (fun i H' => Same H3 H' ∧ ∃ ts : List Addr, H' D1 = some (.lst (ts.map V.ref)) ∧ Each (R3 s H') ts ((stepsF s).take i))
          ⟨same_upd nD1, [], upd_same, trivial⟩ (fun i H' _ ⟨sm, _⟩ => SqL.of (sm _ _ hr3)) ?_ ?_⟩⟩
        · rintro i y H' hi ⟨sm', ts, hD, tu⟩
          obtain ⟨q0, hq0, rfl⟩ := map_at hi
          obtain ⟨pp, hpp, hpt⟩ := pr3.get hq0
          refine ⟨q0, _, rfl, SqT.of (sm' _ _ hpt), rfl, _, _, rfl, _, _, rfl, rfl, rfl, ?_⟩
          dsimp only [tYes]
          rw [if_pos rfl]
          refine ⟨_, rfl, _, rfl, _, rfl, _, rfl, _, rfl, a, s, pp.1, pp.2, rfl, (hT2.same sm3).same sm', Nat.le_trans (ok_of ok).len (by decide), fun l H4 sm4 hl => ⟨by show 3 ≤ sizeLine; decide, fun t nt => ?_⟩⟩
          have sm5 := same_upd (o := .tup [.int pp.1, .int pp.2, .ref l]) nt
          refine ⟨_, sm5 _ _ (sm4 _ _ hD), small1000 ?_, same_upd' ((sm'.trans sm4).trans sm5) nD1, ts ++ [t], by rw [upd_same, List.map_append]; rfl, ?_⟩
          · rw [List.length_map, tu.length, List.length_take]
            omega
          · rw [take_more hpp]
            exact (Each.snoc (R := R3 s _) (b := pp) ⟨l, upd_same, sm5 _ _ hl⟩ (tu.mono (R3.same (sm4.trans sm5)))).mono (R3.wr (sm5 _ _ (sm4 _ _ hD)))
        · rintro H4 ⟨sm4, ts, hD4, tu⟩
          rw [List.length_map, pr3.length, List.take_length] at tu
          have L4 := (L.sbutS sm3).sbutS sm4
          have smA : Same H H4 := ((sm.trans sm2).trans sm3).trans sm4
          -- lost
          refine ⟨_, rfl, D1, rfl, ⟨_, SqL.of hD4⟩, fun D2 nD2 => lc_list (K := K) (a := D1) (xs := ts.map V.ref) (fun i H' => ∃ kvs', LastAt CL H' x d kvs' ∧ Sbut d H4 H' ∧ ∃ us : List Addr, H' D2 = some (.lst (us.map V.ref)) ∧ Each (RL s H') us (((stepsF s).take i).filter fun p => isZ (mv s p)))
            ⟨[], L4.sbutS (same_upd nD2), sbut_of (same_upd nD2) d, [], upd_same, trivial⟩ (fun i H' _ ⟨_, _, sb, _⟩ => SqL.of (sb _ _ hD4 (ne_of hD4 L4.dc (by intro z; cases z)))) ?_ ?_⟩
          · rintro i y H' hi ⟨kvs', L', sb, us, hD', eu⟩
            obtain ⟨t0, ht0, rfl⟩ := map_at hi
            obtain ⟨pp, hpp, r0, htp, htl⟩ := tu.get ht0
            obtain ⟨okl, ltl⟩ := G.later pp (List.mem_of_getElem? hpp)
            obtain ⟨nm, hnm⟩ := (good okl).nim
            have htp' := sb _ _ htp (tup_ne L4.dc htp)
            have htl' : TupI H' r0 (mv s pp) := TupI.sbut L4.dc htl sb
            have more := filter_more (fun p => isZ (mv s p)) hpp
            have zl : isZ (mv s pp) = (nm == 0) := by unfold isZ; rw [hnm]; rfl
            refine ⟨t0, _, rfl, SqT.of htp', rfl, _, _, rfl, _, _, rfl, _, _, rfl, rfl, rfl, ?_⟩
            refine ⟨_, rfl, r0, mv s pp, nm, rfl, htl', Nat.le_trans (ok_of okl).len (by decide), hnm, fun H5 sm5 => ⟨rfl, _, rfl, ?_⟩⟩
            rw [dec_int, ← zl]
            have L5 := L'.sbutS sm5
            have sb5 := sb.same sm5
            cases ez : isZ (mv s pp) with
            | false =>
              rw [ez] at more
              refine iteF ⟨kvs', L5, sb5, us, sm5 _ _ hD', ?_⟩
              rw [more]
              simpa using eu.mono (RL.same sm5)
            | true =>
              rw [ez] at more
              obtain ⟨dx5, hp5⟩ := L5.ob
              refine iteT ⟨_, rfl, x, dx5, _, rfl, hp5, lk_moves d, _, rfl, x, r0, d, kvs', mv s pp, rfl, htl'.same sm5, okl, mu_lt okl, L5, fun kvs6 H6 L6 sb6 => ?_⟩
              have hD5 := sm5 _ _ hD'
              have hD6 : H6 D2 = some (.lst (us.map V.ref)) := sb6 _ _ hD5 (ne_of hD5 L5.dc (by intro z; cases z))
              have eu6 := (eu.mono (RL.same sm5)).mono (RL.sbut L5.dc sb6)
              refine ⟨_, rfl, _, rfl, by show 2 ≤ sizeLine; decide, fun q1 nq1 => ⟨by show 2 ≤ sizeLine; decide, fun t1 nt1 => ?_⟩⟩
              have sm7 := same_upd (o := .tup [.int pp.1, .int pp.2]) nq1
              have sm8 := same_upd (o := .tup [.int (rem (mv s pp)), .ref q1]) nt1
              have sm78 := sm7.trans sm8
              have hD8 := sm78 _ _ hD6
              refine ⟨_, hD8, small1000 ?_, kvs6, (L6.sbutS sm78).wr hD8, fun b o eb nb => ?_, us ++ [t1], by rw [upd_same, List.map_append]; rfl, ?_⟩
              · rw [List.length_map, eu.length]
                have := List.length_filter_le (fun p => isZ (mv s p)) ((stepsF s).take i)
                rw [List.length_take] at this
                omega
              · rw [upd_ne (ne_of_none eb nD2)]
                exact sm78 _ _ (sb6 _ _ (sb5 _ _ eb nb) nb)
              · rw [more]
                simpa using (Each.snoc (R := RL s _) (b := pp) ⟨q1, upd_same, sm8 _ _ upd_same⟩ (eu6.mono (RL.same sm78))).mono (RL.wr hD8)
          · rintro H5 ⟨kvs5, L5, sb5, us, hD5, eu⟩
            rw [List.length_map, tu.length, List.take_length] at eu
            have ez : (stepsF s).filter (fun p => isZ (mv s p)) = zsteps s := rfl
            rw [ez] at eu
            -- the nearest
            refine ⟨_, rfl, D2, rfl, ⟨_, SqL.of hD5⟩, fun D3 nD3 => lc_list (K := K) (a := D2) (xs := us.map V.ref) (fun i H' => Same H5 H' ∧ ∃ vs : List Addr, H' D3 = some (.lst (vs.map V.ref)) ∧ PairsAt H' vs (((zsteps s).take i).filter fun p => rem (mv s p) == minI (lostNs s)))
              ⟨same_upd nD3, [], upd_same, trivial⟩ (fun i H' _ ⟨sm, _⟩ => SqL.of (sm _ _ hD5)) ?_ ?_⟩
            · rintro i y H' hi ⟨sm6, vs, hD', ev⟩
              obtain ⟨u0, hu0, rfl⟩ := map_at hi
              obtain ⟨pp, hpp, q0, hu, hq⟩ := eu.get hu0
              have more := filter_more (fun p => rem (mv s p) == minI (lostNs s)) hpp
              obtain ⟨rows, e1, e2, e3⟩ := rows_of (K := K) (eu.mono (RL.same sm6))
              have e3' : rows.map (fun r => r.2.1) = lostNs s := e3
              have pos : 0 < rows.length := by
                have l1 : rows.length = (zsteps s).length := by
                  have := congrArg List.length e3
                  rw [List.length_map, List.length_map] at this
                  exact this
                rw [l1]
                exact List.length_pos_of_mem (List.mem_of_getElem? hpp)
              refine ⟨u0, _, rfl, SqT.of (sm6 _ _ hu), rfl, _, _, rfl, _, _, rfl, rfl, rfl, ?_⟩
              refine ⟨_, rfl, _, rfl, D2, rows, rfl, by rw [e1]; exact SqL.of (sm6 _ _ hD5), pos, e2, fun rm hm least => ?_⟩
              obtain ⟨qm, hm1, hm2⟩ := e2 rm hm
              have em : minI (lostNs s) = rm.2.1 := by
                rw [← e3']
                refine minI_eq (List.mem_map.mpr ⟨rm, hm, rfl⟩) fun y hy => ?_
                obtain ⟨r', hr', rfl⟩ := List.mem_map.mp hy
                exact least r' hr'
              refine ⟨rm.1, _, 0, .int rm.2.1, rfl, rfl, hm1, rfl, rfl, _, rfl, ?_⟩
              rw [dec_int, ← em]
              cases ec : (rem (mv s pp) == minI (lostNs s)) with
              | false =>
                rw [ec] at more
                refine iteF ⟨sm6, vs, hD', ?_⟩
                rw [more]
                simpa using ev
              | true =>
                rw [ec] at more
                refine iteT ⟨_, rfl, _, hD', small1000 ?_, same_upd' sm6 nD3, vs ++ [q0], by rw [upd_same, List.map_append]; rfl, ?_⟩
                · rw [List.length_map, ev.length]
                  have h1 := List.length_filter_le (fun p => rem (mv s p) == minI (lostNs s)) ((zsteps s).take i)
                  have h2 := List.length_filter_le (fun p => isZ (mv s p)) (stepsF s)
                  have h3 : (zsteps s).length = ((stepsF s).filter fun p => isZ (mv s p)).length := rfl
                  rw [List.length_take] at h1
                  omega
                · rw [more]
                  simpa using (PairsAt.snoc (p := pp) (sm6 _ _ hq) ev).wr hD'
            · rintro H6 ⟨sm6, vs, hD6, ev⟩
              rw [List.length_map, eu.length, List.take_length] at ev
              refine k D3 vs H6 (fun b o e => sm6 _ _ (sb5 _ _ (smA _ _ e) ?_)) hD6 ev
              exact ne_of_none (sm _ _ e) nd1
end
end Sq
/-! SqJ: the law's draws. -/
namespace Sq
open PySem L2 PyProof.Rows
/-- an expression that is never come to -/
theorem pe_never {X : Cx} {e : Expr} : PE X e (fun _ _ _ => False) := ⟨fun _ _ _ _ _ _ h => h.elim⟩
theorem pt_never {X : Cx} {e : Expr} : PT X e (fun _ _ _ => False) := ⟨fun _ _ _ _ _ _ h => h.elim⟩
/-- a source of numbers at p -/
def DrawAt (H : Hp) (p : Addr) : Prop := ∃ (x0 x1 : Int) (l : List Int), H p = some (.lst ((x0 :: x1 :: l).map V.int)) ∧ 0 ≤ x0 ∧ x0 < 2147483648 ∧ l.length ≤ 63
theorem DrawAt.same {H H' : Hp} {p : Addr} (e : Same H H') (h : DrawAt H p) : DrawAt H' p := let ⟨a, b, l, h1, h2⟩ := h; ⟨a, b, l, e _ _ h1, h2⟩
section
variable {P : Program} {w : World} {K : PySem.W.Frag} {mg : Str → Option Value} {base : Heap} {CB CT CL : Addr}
def spRandom (K : PySem.W.Frag) : Sp := fun vs H Q _ => ∃ (a : Addr) (ns : List Int) (salt : Int), vs = [.ref a, .int salt] ∧ SqL K H a (ns.map V.int) ∧ ns.length ≤ 63 ∧ 0 ≤ salt ∧ salt < 2147483648 ∧
  ∀ p H', Same H H' → DrawAt H' p → Q (.ref p) H'
theorem scRandom : FnScope ["_law_script", "_law_salt", "_law_seed", "_law_cell"] ["_law_script", "_law_salt"] (defScope sRandom) := ⟨rfl, rfl, rfl, by decide +kernel, rfl, by decide +kernel, by decide +kernel⟩
theorem ok_random {f : Addr} {fd : FuncData} (F : Fun K "_law_random" "_law_random" sRandom f fd) (T : Txt K mg CB CT CL) (hab : mg "abs" = none) : FnOk P w K mg base CX0 1 f fd ["_law_script", "_law_salt"] (spRandom K) := by
  refine F.ok scRandom (fun vs H Q E h => ?_) (fun cdv A outer st H vs Q E hr h => ?_)
  · obtain ⟨a, ns, salt, rfl, _⟩ := h
    rfl
  · obtain ⟨a, ns, salt, rfl, hS, hl, b0, b1, q⟩ := h
    refine ⟨_, pss_cons (ps_set (i := 2) scRandom.nd rfl (.inl rfl) (pv 1))
      (pss_cons (ps_for PassesOwn.never rfl (pi_list (pv 0)) (pg_name (i := 3) scRandom.nd rfl (.inl rfl))
        (pss_one (ps_set (i := 2) scRandom.nd rfl (.inl rfl) (pe_op op_mod (pe_callTy call_int1 (by rfl) T.int bT_int (pa_cons (pe_op op_add (pe_op op_mul (pv 2) pe_int) (pe_callB call_abs (by rfl) hab (by decide +kernel) (pa_cons (pv 3) pa_nil))) pa_nil)) pe_int))))
      (pss_one (ps_ret (pe_op op_cat (pe_lst (pa_cons (pv 2) (pa_cons pe_int pa_nil))) (pe_lc (own := [("_law_cell", 3)]) (g := gName 3) rfl scRandom.nd (pi_list (pv 0)) (blkOk_by (own := [("_law_cell", 3)]) (N := ["_law_script", "_law_salt", "_law_seed", "_law_cell"]) (sc := defScope sRandom) (by decide +kernel))
        (fun _ _ _ _ _ => pg_name (i := 3) scRandom.nd rfl (.inl rfl)) (fun _ _ _ _ _ => pts_one (pt_cmpR op_ge (pv 3) (pe_op op_pow pe_int pe_int) (nomark _))) (fun _ _ _ _ _ => pv 3)))))), ?_⟩
    refine ⟨_, rfl, _, rfl, a, rfl, ⟨_, hS⟩, for_list (K := K) (a := a) (xs := ns.map V.int) (fun i σ H' => ∃ (sd : Int) (u : Option V), σ = [some (.ref a), some (.int salt), some (.int sd), u] ∧ H' = H ∧ 0 ≤ sd ∧ sd < 2147483648) ⟨salt, none, rfl, rfl, b0, b1⟩ (fun i σ H' _ ⟨_, _, _, e, _⟩ => e ▸ hS) ?_ ?_⟩
    · rintro i y σ H' hi ⟨sd, u, rfl, rfl, c0, c1⟩
      obtain ⟨x, hx, rfl⟩ := map_at hi
      refine ⟨_, rfl, _, _, rfl, rfl, .inr ⟨by decide, by decide⟩, _, rfl, x, rfl, _, _, rfl, rfl, .inl ⟨_, rfl, _, _, rfl, rfl, by show (0 : Int) < 2147483647; decide, ?_⟩⟩
      refine ⟨_, some (.int x), rfl, rfl, ?_, ?_⟩
      · exact Int.emod_nonneg _ (by decide)
      · exact Int.lt_trans (Int.emod_lt_of_pos _ (by decide)) (by decide)
    · rintro σ H' ⟨sd, u, rfl, rfl, c0, c1⟩
      refine ⟨_, rfl, by show 2 ≤ sizeLine; decide, fun p0 np0 => ?_⟩
      have sm0 := same_upd (o := .lst [.int sd, .int 0]) np0
      have hS0 : SqL K (upd H' p0 (.lst [.int sd, .int 0])) a (ns.map V.int) := sm0.seq hS
      refine ⟨_, rfl, a, rfl, ⟨_, hS0⟩, fun D nD => lc_list (K := K) (a := a) (xs := ns.map V.int) (fun i H'' => Same (upd H' p0 (.lst [.int sd, .int 0])) H'' ∧ ∃ l : List Int, H'' D = some (.lst (l.map V.int)) ∧ l.length ≤ i)
        ⟨same_upd nD, [], upd_same, Nat.le_refl _⟩ (fun i H'' _ ⟨sm, _⟩ => sm.seq hS0) ?_ ?_⟩
      · rintro i y H'' hi ⟨sm, l, hD, hl'⟩
        have hil : i < (ns.map V.int).length := (List.getElem?_eq_some_iff.mp hi).1
        rw [List.length_map] at hil
        obtain ⟨x, hx, rfl⟩ := map_at hi
        refine ⟨rfl, _, rfl, _, _, rfl, rfl, ⟨by decide, by decide, by decide⟩, _, _, rfl, rfl, _, rfl, ?_⟩
        refine ite2 (fun _ => ?_) (fun _ => ?_)
        · refine ⟨_, rfl, _, hD, small100 (by rw [List.length_map]; omega), same_upd' sm nD, l ++ [x], ?_, ?_⟩
          · rw [upd_same, List.map_append]
            rfl
          · rw [List.length_append]
            simp only [List.length_cons, List.length_nil]
            omega
        · exact ⟨sm, l, hD, by omega⟩
      · rintro H'' ⟨sm, l, hD, hl'⟩
        rw [List.length_map] at hl'
        refine ⟨p0, D, _, _, rfl, rfl, sm _ _ upd_same, hD, Nat.le_of_lt (small100 ?_), fun p np => ?_⟩
        · rw [List.length_map]
          simp only [List.length_cons, List.length_nil]
          omega
        · have smF := (sm0.trans sm).trans (same_upd (o := .lst ([V.int sd, V.int 0] ++ l.map V.int)) np)
          exact q p _ smF ⟨sd, 0, l, upd_same, c0, c1, by omega⟩
abbrev tIx (K : PySem.W.Frag) (i : Nat) (k : Int) : TE := tOp (rIxL K) (tVar i) (tC (.int k))
abbrev rModI : R2 := rI (fun _ j => 0 < j) fun i j => .int (i % j)
abbrev rDivI : R2 := rI CDiv fun i j => .int (i / j)
abbrev tIntOf (t : TE) : TE := tCB (fun xs H Q => (∃ i, xs = [.int i] ∧ Q (.int i) H) ∨ ∃ k, xs = [.bl k] ∧ Q (.int (if k then 1 else 0)) H) (tCons t tNil)
abbrev tSetAt (k : Int) (te : TE) : TS := tAsg te (gSub (tVar 0) (tC (.int k)) rSetL)
/-- what stands behind the first statement of _law_below -/
def tBelowRest (K : PySem.W.Frag) : TS := tSeq (tIfS (tTest (tOp rGtI (tIx K 0 1) (tC (.int 0)))) (tSeq (tAsg (tOp rModI (tIntOf (tIx K 0 1)) (tVar 1)) (gName 2)) (tSeq (tSetAt 1 (tOp rDivI (tIx K 0 1) (tVar 1))) (tRet (tVar 2)))) tNext)
  (tSeq (tSetAt 0 (tOp rModI (tIntOf (tOp (rI0 fun i j => .int (i + j)) (tOp (rI CMul fun i j => .int (i * j)) (tIx K 0 0) (tC (.int 48271))) (tC (.int 11)))) (tC (.int 2147483647)))) (tRet (tOp rModI (tIntOf (tOp rDivI (tIx K 0 0) (tC (.int 64)))) (tVar 1))))
theorem at_0 (x0 x1 : Int) (l : List Int) : atI ((x0 :: x1 :: l).map V.int) 0 = some (.int x0) := atI_nat (j := 0) rfl
theorem at_1 (x0 x1 : Int) (l : List Int) : atI ((x0 :: x1 :: l).map V.int) 1 = some (.int x1) := atI_nat (j := 1) rfl
theorem ix_0 (x0 x1 : Int) (l : List Int) : ixN ((x0 :: x1 :: l).map V.int).length 0 = some 0 := by
  unfold ixN
  rw [if_pos (by decide), if_pos (by rw [List.length_map]; simp only [List.length_cons]; omega)]
  rfl
theorem ix_1 (x0 x1 : Int) (l : List Int) : ixN ((x0 :: x1 :: l).map V.int).length 1 = some 1 := by
  unfold ixN
  rw [if_pos (by decide), if_pos (by rw [List.length_map]; simp only [List.length_cons]; omega)]
  rfl
theorem below_rest {H : Hp} {p : Addr} {m : Int} {u : Option V} {D : Ends} (hD : DrawAt H p) (m0 : 0 < m) (m1 : m < 1073741824) (q : ∀ r H', 0 ≤ r → r < m → Sbut p H H' → DrawAt H' p → D.rt (.int r) H') : tBelowRest K D [some (.ref p), some (.int m), u] H := by
  obtain ⟨x0, x1, l, h, b0, b1, hl⟩ := hD
  refine ⟨_, rfl, p, _, 1, _, rfl, rfl, SqL.of h, at_1 x0 x1 l, _, _, rfl, rfl, _, rfl, ?_⟩
  refine ite2 (fun _ => ?_) (fun _ => ?_)
  · refine ⟨_, rfl, p, _, 1, _, rfl, rfl, SqL.of h, at_1 x0 x1 l, .inl ⟨_, rfl, _, rfl, _, _, rfl, rfl, m0, ?_⟩⟩
    refine ⟨_, rfl, p, _, 1, _, rfl, rfl, SqL.of h, at_1 x0 x1 l, _, rfl, _, _, rfl, rfl, ⟨m0, m1⟩, _, rfl, p, _, 1, 1, rfl, rfl, h, ix_1 x0 x1 l, _, rfl, ?_⟩
    exact q _ _ (Int.emod_nonneg _ (by omega)) (Int.emod_lt_of_pos _ m0) (fun b o e n => by rw [upd_ne n]; exact e) ⟨x0, x1 / m, l, by rw [upd_same]; rfl, b0, b1, hl⟩
  · refine ⟨_, rfl, p, _, 0, _, rfl, rfl, SqL.of h, at_0 x0 x1 l, _, _, rfl, rfl, .inr ⟨by decide, by decide⟩, _, _, rfl, rfl, .inl ⟨_, rfl, _, _, rfl, rfl, by show (0 : Int) < 2147483647; decide, ?_⟩⟩
    refine ⟨_, rfl, p, _, 0, 0, rfl, rfl, h, ix_0 x0 x1 l, ?_⟩
    have e2 : upd H p (.lst (((x0 :: x1 :: l).map V.int).set 0 (.int ((x0 * 48271 + 11) % 2147483647)))) p = some (.lst (((x0 * 48271 + 11) % 2147483647 :: x1 :: l).map V.int)) := by rw [upd_same]; rfl
    refine ⟨_, rfl, p, _, 0, _, rfl, rfl, SqL.of e2, at_0 _ x1 l, _, _, rfl, rfl, ⟨by decide, by decide⟩, .inl ⟨_, rfl, _, rfl, _, _, rfl, rfl, m0, ?_⟩⟩
    exact q _ _ (Int.emod_nonneg _ (by omega)) (Int.emod_lt_of_pos _ m0) (fun b o e n => by rw [upd_ne n]; exact e) ⟨_, x1, l, e2, Int.emod_nonneg _ (by decide), Int.lt_trans (Int.emod_lt_of_pos _ (by decide)) (by decide), hl⟩
def spBelow : Sp := fun vs H Q _ => ∃ (p : Addr) (m : Int), vs = [.ref p, .int m] ∧ DrawAt H p ∧ 0 < m ∧ m < 1073741824 ∧ ∀ r H', 0 ≤ r → r < m → Sbut p H H' → DrawAt H' p → Q (.int r) H'
theorem scBelow : FnScope ["_law_d", "_law_size", "_law_result"] ["_law_d", "_law_size"] (defScope sBelow) := ⟨rfl, rfl, rfl, by decide +kernel, rfl, by decide +kernel, by decide +kernel⟩
theorem ok_below {f : Addr} {fd : FuncData} (F : Fun K "_law_below" "_law_below" sBelow f fd) (T : Txt K mg CB CT CL) : FnOk P w K mg base CX0 1 f fd ["_law_d", "_law_size"] spBelow := by
  refine F.ok scBelow (fun vs H Q E h => ?_) (fun cdv A outer st H vs Q E hr h => ?_)
  · obtain ⟨p, m, rfl, _⟩ := h
    rfl
  · obtain ⟨p, m, rfl, hD, m0, m1, q⟩ := h
    refine ⟨_, pss_cons (ps_if (PW.pt (pw_and (pt_cmpR op_eq (pe_ix ix_list (pv 0) pe_int (fun _ _ => rfl)) pe_int (nomark _)) (pw_and1 (pt_cmpR op_gt (pe_callB call_len (by rfl) T.len PySem.boot_len (pa_cons (pv 0) pa_nil)) pe_int (nomark _)))))
        (pss_one (ps_asg (pe_bm PySem.F.plainAttrs_list PySem.F.slot_list_pop PySem.F.type_list_pop mt_popAt (pv 0) (pa_cons pe_int pa_nil)) (pg_sub (pv 0) pe_int set_list))) pss_nil)
      (pss_cons (ps_if (pt_cmpR op_gt (pe_ix ix_list (pv 0) pe_int (fun _ _ => rfl)) pe_int (nomark _))
        (pss_cons (ps_set (i := 2) scBelow.nd rfl (.inl rfl) (pe_op op_mod (pe_callTy call_int1 (by rfl) T.int bT_int (pa_cons (pe_ix ix_list (pv 0) pe_int (fun _ _ => rfl)) pa_nil)) (pv 1)))
        (pss_cons (ps_asg (pe_op op_fdiv (pe_ix ix_list (pv 0) pe_int (fun _ _ => rfl)) (pv 1)) (pg_sub (pv 0) pe_int set_list))
        (pss_one (ps_ret (pv 2))))) pss_nil)
      (pss_cons (ps_asg (pe_op op_mod (pe_callTy call_int1 (by rfl) T.int bT_int (pa_cons (pe_op op_add (pe_op op_mul (pe_ix ix_list (pv 0) pe_int (fun _ _ => rfl)) pe_int) pe_int) pa_nil)) pe_int) (pg_sub (pv 0) pe_int set_list))
      (pss_one (ps_ret (pe_op op_mod (pe_callTy call_int1 (by rfl) T.int bT_int (pa_cons (pe_op op_fdiv (pe_ix ix_list (pv 0) pe_int (fun _ _ => rfl)) pe_int) pa_nil)) (pv 1)))))), ?_⟩
    have rest : ∀ H', DrawAt H' p → Sbut p H H' → tBelowRest K { nx := fun _ H' => Q .non H', rt := Q } [some (.ref p), some (.int m), none] H' := fun H' h sb => below_rest h m0 m1 fun r H'' r0 r1 s2 d2 => q r H'' r0 r1 (sb.trans s2) d2
    obtain ⟨x0, x1, l, h, b0, b1, hl⟩ := id hD
    refine ⟨_, rfl, p, _, 1, _, rfl, rfl, SqL.of h, at_1 x0 x1 l, rfl, _, rfl, ?_⟩
    refine ite2 (fun _ => ?_) (fun _ => ?_)
    · refine ⟨_, rfl, _, _, rfl, .inl ⟨_, SqL.of h, rfl⟩, _, _, rfl, rfl, _, rfl, ?_⟩
      cases l with
      | nil => exact iteF (rest H hD fun b o e _ => e)
      | cons x2 l =>
        rw [show decide ((2 : Int) < ((((x0 :: x1 :: x2 :: l).map V.int).length : Nat) : Int)) = true from decide_eq_true (by rw [List.length_map]; simp only [List.length_cons]; omega)]
        refine iteT ⟨_, rfl, .inl ⟨rfl, _, .inl (.inl h)⟩, p, _, 2, 2, .int x2, rfl, rfl, h, by decide, by decide, ?_, rfl, ?_⟩
        · rw [List.length_map]
          unfold seqIndex?
          rw [if_neg (by decide : ¬ (2 : Int) < 0)]
          have e3 : (decide ((0 : Int) ≤ 2) && decide ((2 : Int) < (((x0 :: x1 :: x2 :: l).length : Nat) : Int))) = true := by
            simp only [List.length_cons, Bool.and_eq_true, decide_eq_true_eq]
            omega
          exact if_pos e3
        · refine ⟨_, rfl, p, _, 1, 1, rfl, rfl, upd_same, ix_1 x0 x1 l, ?_⟩
          refine rest _ ⟨x0, x2, l, by rw [upd_same]; rfl, b0, b1, by simp only [List.length_cons] at hl; omega⟩ fun b o e n => ?_
          rw [upd_ne n, upd_ne n]
          exact e
    · exact iteF (rest H hD fun b o e _ => e)
def spPick : Sp := fun vs H Q _ => ∃ (p c : Addr) (xs : List V), vs = [.ref p, .ref c] ∧ DrawAt H p ∧ H c = some (.lst xs) ∧ c ≠ p ∧ 0 < xs.length ∧ xs.length ≤ 1000 ∧ ∀ v H', v ∈ xs → Sbut p H H' → DrawAt H' p → Q v H'
theorem scPick : FnScope ["_law_d", "_law_items"] ["_law_d", "_law_items"] (defScope sPick) := ⟨rfl, rfl, rfl, by decide +kernel, rfl, by decide +kernel, by decide +kernel⟩
theorem ok_pick {f : Addr} {fd : FuncData} (F : Fun K "_law_pick" "_law_pick" sPick f fd) (T : Txt K mg CB CT CL) (GB : Has P w K mg base CX0 1 "_law_below" ["_law_d", "_law_size"] spBelow) : FnOk P w K mg base CX0 2 f fd ["_law_d", "_law_items"] spPick := by
  refine F.ok scPick (fun vs H Q E h => ?_) (fun cdv A outer st H vs Q E hr h => ?_)
  · obtain ⟨p, c, xs, rfl, _⟩ := h
    rfl
  · obtain ⟨p, c, xs, rfl, hD, hc, ne, l0, l1, q⟩ := h
    refine ⟨_, pss_one (ps_ret (pe_ix ix_list (pv 1) (pe_has GB hr pass0 (pa_cons (pv 0) (pa_cons (pe_callB call_len (by rfl) T.len PySem.boot_len (pa_cons (pv 1) pa_nil)) pa_nil))) (fun _ _ => rfl))), ?_⟩
    refine ⟨_, rfl, _, rfl, _, rfl, _, _, rfl, .inl ⟨_, SqL.of hc, rfl⟩, p, _, rfl, hD, by omega, by omega, fun r H' r0 r1 sb d => ?_⟩
    have hr' : r.toNat < xs.length := by omega
    have e : xs[r.toNat]? = some xs[r.toNat] := List.getElem?_eq_getElem hr'
    have at_ : atI xs r = some xs[r.toNat] := by
      have := atI_nat e
      rw [show ((r.toNat : Nat) : Int) = r by omega] at this
      exact this
    exact ⟨c, xs, r, _, rfl, rfl, SqL.of (sb _ _ hc ne), at_, q _ H' (List.getElem_mem hr') sb d⟩
def spStand : Sp := fun vs H Q _ => ∃ (p : Addr) (c m : Int), vs = [.ref p, .int c, .int m] ∧ DrawAt H p ∧ 0 ≤ c ∧ c ≤ 4 ∧ 0 ≤ m ∧ m ≤ 11 ∧ ∀ t s H', Sbut p H H' → DrawAt H' p → TupI H' t s → okB s = true → Q (.ref t) H'
abbrev nStand : List Str := ["_law_d", "_law_coins", "_law_most", "_law_found", "_law_base", "_law_k", "_law_square"]
theorem scStand : FnScope nStand ["_law_d", "_law_coins", "_law_most"] (defScope sStand) := ⟨rfl, rfl, rfl, by decide +kernel, rfl, by decide +kernel, by decide +kernel⟩
theorem ok_stand {f : Addr} {fd : FuncData} (F : Fun K "_law_standing" "_law_standing" sStand f fd) (T : Txt K mg CB CT CL) (GB : Has P w K mg base CX0 1 "_law_below" ["_law_d", "_law_size"] spBelow) : FnOk P w K mg base CX0 2 f fd ["_law_d", "_law_coins", "_law_most"] spStand := by
  refine F.ok scStand (fun vs H Q E h => ?_) (fun cdv A outer st H vs Q E hr h => ?_)
  · obtain ⟨p, c, m, rfl, _⟩ := h
    rfl
  · obtain ⟨p, c, m, rfl, hD, c0, c1, m0, m1, q⟩ := h
    refine ⟨_, pss_cons (ps_par (i := 3) (j := 4) rfl scStand.nd rfl rfl (by decide) rfl rfl (pa_cons (pe_lst pa_nil) (pa_cons (pe_ifExp (pt_cmpR op_gt (pv 2) pe_int (nomark _)) pe_never pe_int) pa_nil)) (by rfl))
      (pss_cons (ps_for PassesOwn.never rfl (pi_range1 (by rfl) T.range (pa_cons (pv 1) pa_nil)) (pg_name (i := 5) scStand.nd rfl (.inl rfl))
        (pss_cons (ps_set (i := 6) scStand.nd rfl (.inl rfl) (pe_op op_add (pv 4) (pe_has GB hr pass0 (pa_cons (pv 0) (pa_cons (pe_op op_add (pv 2) pe_int) pa_nil)))))
        (pss_cons (ps_if (PW.pt (pw_and (pt_cmpR op_gt (pv 2) pe_int (nomark _)) (pw_and1 pt_never))) pss_never pss_nil)
        (pss_one (ps_if (pt_cmpR op_notIn_seq (pv 6) (pv 3) (by rfl)) (pss_one (ps_expr (pe_bm PySem.F.plainAttrs_list PySem.F.slot_list_append PySem.F.type_list_append mt_append (pv 3) (pa_cons (pv 6) pa_nil)))) pss_nil)))))
      (pss_one (ps_ret (pe_callTy call_tuple_of rfl T.tuple bT_tuple (pa_cons (pe_callB cr_sortedI rfl T.sorted (by decide +kernel) (pa_cons (pv 3) pa_nil)) pa_nil))))), ?_⟩
    refine ⟨by show 0 ≤ sizeLine; exact Nat.zero_le _, fun f0 nf0 => ⟨_, rfl, _, _, rfl, rfl, _, rfl, ?_⟩⟩
    rw [show decide ((100 : Int) < m) = false from decide_eq_false (by omega)]
    refine iteF ⟨_, _, rfl, ?_⟩
    have sm0 := same_upd (o := .lst []) nf0
    obtain ⟨y0, y1, yl, hp0, _⟩ := id hD
    have nfp : f0 ≠ p := ne_of_none' nf0 hp0
    refine ⟨_, rfl, c, rfl, by omega, by omega, for_range (lo := 0) (n := c.toNat) (fun i σ H' => ∃ (l : List Int) (u5 u6 : Option V), σ = [some (.ref p), some (.int c), some (.int m), some (.ref f0), some (.int 0), u5, u6] ∧ H' f0 = some (.lst (l.map V.int)) ∧ l.Nodup ∧ l.length ≤ i ∧ (∀ x ∈ l, 0 ≤ x ∧ x ≤ 11) ∧ DrawAt H' p ∧ Sbut p H H')
      ⟨[], none, none, rfl, upd_same, List.nodup_nil, Nat.le_refl _, (fun _ h => nomatch h), hD.same sm0, sbut_of sm0 p⟩ ?_ ?_⟩
    · rintro i σ H1 hi ⟨l, u5, u6, rfl, hf, nd, hl, hb, hD1, sb⟩
      refine ⟨_, rfl, _, rfl, _, rfl, _, _, rfl, rfl, p, _, rfl, hD1, by omega, by omega, fun r H2 r0 r1 sb2 hD2 => ⟨_, _, rfl, rfl, ?_⟩⟩
      have hf2 := sb2 _ _ hf nfp
      refine ⟨_, rfl, _, _, rfl, rfl, _, rfl, ?_⟩
      rw [show decide ((100 : Int) < m) = false from decide_eq_false (by omega)]
      refine iteF (iteF ⟨_, rfl, _, rfl, f0, _, rfl, .inl (SqL.of hf2), rfl, ints_flat l, _, rfl, ?_⟩)
      have ez : V.int (0 + r) = V.int r := by rw [Int.zero_add]
      rw [show (fun i j => V.int (i + j)) 0 r = V.int r from ez, inV_ints]
      cases ec : l.contains r with
      | true => exact iteF ⟨l, _, _, rfl, hf2, nd, by omega, hb, hD2, sb.trans sb2⟩
      | false =>
        refine iteT ⟨_, rfl, .inl ⟨rfl, _, .inl (.inl hf2)⟩, _, rfl, f0, _, _, rfl, rfl, hf2, small100 (by rw [List.length_map]; omega), ?_⟩
        have nm : r ∉ l := fun z => by
          have := List.contains_iff_mem.mpr z
          rw [ec] at this
          cases this
        refine ⟨l ++ [r], _, _, rfl, by rw [upd_same, List.map_append]; rfl, ?_, ?_, fun x hx => ?_, ?_, fun b o eb nb => ?_⟩
        · refine List.nodup_append.mpr ⟨nd, by simp, fun x hx y hy e => nm ?_⟩
          rw [List.mem_singleton.mp hy] at e
          exact e ▸ hx
        · rw [List.length_append]
          simp only [List.length_cons, List.length_nil]
          omega
        · rcases List.mem_append.mp hx with z | z
          · exact hb x z
          · have := List.mem_singleton.mp z
            omega
        · obtain ⟨a0, a1, al, e1, e2⟩ := hD2
          exact ⟨a0, a1, al, by rw [upd_ne (Ne.symm nfp)]; exact e1, e2⟩
        · rw [upd_ne (ne_of_none eb nf0)]
          exact sb2 _ _ (sb _ _ eb nb) nb
    · rintro σ H1 ⟨l, u5, u6, rfl, hf, nd, hl, hb, hD1, sb⟩
      refine ⟨_, rfl, f0, l, rfl, SqL.of hf, fun ns r perm srt nr => ⟨r, ns.map V.int, rfl, .inl ⟨SqL.of upd_same, fun t nt => ?_⟩⟩⟩
      have sm2 := (same_upd (o := .lst (ns.map V.int)) nr).trans (same_upd (o := .tup (ns.map V.int)) nt)
      exact q t ns _ (sb.same sm2) (hD1.same sm2) upd_same (drawn_ok perm srt nd (by omega) hb)
end
end Sq
/-! SqK: the law's moves and what stands behind one. -/
namespace Sq
open PySem L2 PyProof.Rows
section
variable {P : Program} {w : World} {K : PySem.W.Frag} {mg : Str → Option Value} {base : Heap} {CB CT CL : Addr}
abbrev nLMoves : List Str := ["_law_standing_here", "_law_found", "_law_one", "_law_to"]
theorem scLMoves : FnScope nLMoves ["_law_standing_here"] (defScope sLMoves) := ⟨rfl, rfl, rfl, by decide +kernel, rfl, by decide +kernel, by decide +kernel⟩
theorem ok_lmoves {f : Addr} {fd : FuncData} (F : Fun K "_law_moves" "_law_moves" sLMoves f fd) (T : Txt K mg CB CT CL) : FnOk P w K mg base CX0 1 f fd ["_law_standing_here"] spSteps := by
  refine F.ok scLMoves (fun vs H Q E h => ?_) (fun cdv A outer st H vs Q E hr h => ?_)
  · obtain ⟨a, s, rfl, _⟩ := h
    rfl
  · obtain ⟨a, s, rfl, hT, ok, q⟩ := h
    have O := ok_of ok
    refine ⟨_, pss_cons (ps_set (i := 1) scLMoves.nd rfl (.inl rfl) (pe_lst pa_nil))
      (pss_cons (ps_for PassesOwn.never rfl (pi_tup (pv 0)) (pg_name (i := 2) scLMoves.nd rfl (.inr rfl))
        (pss_one (ps_set (i := 1) scLMoves.nd rfl (.inl rfl) (pe_op op_cat (pv 1) (pe_lc (own := [("_law_to", 3)]) (g := gName 3) (tt := tTest (tOp (rIn K true) (tVar 3) (tVar 0))) rfl scLMoves.nd (pi_range1 (by rfl) T.range (pa_cons (pv 2) pa_nil)) (blkOk_by (own := [("_law_to", 3)]) (N := nLMoves) (sc := defScope sLMoves) (by decide +kernel))
          (fun _ _ _ _ _ => pg_name (i := 3) scLMoves.nd rfl (.inl rfl)) (fun _ _ _ _ _ => pts_one (pt_cmpR op_notIn_seq (pv 3) (pv 0) (by rfl))) (fun _ _ _ _ _ => pe_tup (pa_cons (pv 2) (pa_cons (pv 3) pa_nil))))))))
      (pss_one (ps_ret (pv 1)))), ?_⟩
    refine ⟨by show 0 ≤ sizeLine; exact Nat.zero_le _, fun f0 nf0 => ?_⟩
    have sm0 := same_upd (o := .lst []) nf0
    refine ⟨_, rfl, a, rfl, ⟨_, SqT.of (sm0 _ _ hT)⟩, for_tup (K := K) (a := a) (xs := s.map V.int) (fun i σ H' => ∃ (g : Addr) (qs : List Addr) (u2 u3 : Option V), σ = [some (.ref a), some (.ref g), u2, u3] ∧ Same H H' ∧ H' g = some (.lst (qs.map V.ref)) ∧ PairsAt H' qs ((s.take i).flatMap fun one => (lower s one).map fun to => (one, to)) ∧ qs.length ≤ i * 11)
      ⟨f0, [], none, none, rfl, sm0, upd_same, trivial, Nat.zero_le _⟩ (fun i σ H' _ ⟨_, _, _, _, _, sm, _⟩ => SqT.of (sm _ _ hT)) ?_ ?_⟩
    · rintro i y σ H1 hy ⟨g, qs, u2, u3, rfl, sm, hg, pr, hq⟩
      have hi : i < (s.map V.int).length := (List.getElem?_eq_some_iff.mp hy).1
      obtain ⟨one, hone, rfl⟩ := map_at hy
      rw [List.length_map] at hi
      obtain ⟨b0, b1⟩ := O.bd one (List.mem_of_getElem? hone)
      have i3 : i ≤ 3 := by have := O.len; omega
      refine ⟨_, rfl, _, rfl, one, rfl, by omega, by omega, fun D nD => lc_range (lo := 0) (n := one.toNat) (fun j H' => Same H1 H' ∧ ∃ rs : List Addr, H' D = some (.lst (rs.map V.ref)) ∧ PairsAt H' rs (((((List.range one.toNat).map fun (k : Nat) => (k : Int)).take j).filter fun to => !s.contains to).map fun to => (one, to)) ∧ rs.length ≤ j)
        ⟨same_upd nD, [], upd_same, trivial, Nat.le_refl _⟩ ?_ ?_⟩
      · rintro j H3 hj ⟨sm3, rs, hD3, pr3, hq3⟩
        have at_ : ((List.range one.toNat).map fun (k : Nat) => (k : Int))[j]? = some (j : Int) := by simp [hj]
        have more := filter_more (fun to => !s.contains to) at_
        rw [Int.zero_add]
        refine ⟨rfl, _, rfl, _, rfl, a, _, rfl, .inr (SqT.of (sm3 _ _ (sm _ _ hT))), rfl, ints_flat s, _, rfl, ?_⟩
        rw [inV_ints]
        cases e : s.contains (j : Int) with
        | true =>
          rw [e] at more
          refine iteF ⟨sm3, rs, hD3, ?_, by omega⟩
          rw [more]
          simpa using pr3
        | false =>
          rw [e] at more
          refine iteT ⟨_, rfl, _, rfl, by show 2 ≤ sizeLine; decide, fun t nt => ?_⟩
          have sm4 := same_upd (o := .tup [.int one, .int (j : Int)]) nt
          have hD4 := sm4 _ _ hD3
          refine ⟨_, hD4, small1000 (by rw [List.length_map]; omega), same_upd' (sm3.trans sm4) nD, rs ++ [t], by rw [upd_same, List.map_append]; rfl, ?_, by rw [List.length_append]; simp only [List.length_cons, List.length_nil]; omega⟩
          rw [more]
          simpa using (PairsAt.snoc (p := (one, (j : Int))) (q := t) upd_same (pr3.same sm4)).wr hD4
      · rintro H3 ⟨sm3, rs, hD3, pr3, hq3⟩
        refine ⟨g, D, _, _, rfl, rfl, sm3 _ _ hg, hD3, Nat.le_of_lt (small1000 (by rw [List.length_map, List.length_map]; omega)), fun p np => ?_⟩
        have sm5 := same_upd (o := .lst (qs.map V.ref ++ rs.map V.ref)) np
        refine ⟨p, qs ++ rs, some (.int one), u3, rfl, (sm.trans sm3).trans sm5, by rw [upd_same, List.map_append], ?_, by rw [List.length_append]; omega⟩
        rw [take_more hone, List.flatMap_append]
        have full : ((List.range one.toNat).map fun (k : Nat) => (k : Int)).take one.toNat = (List.range one.toNat).map fun (k : Nat) => (k : Int) := List.take_of_length_le (by simp)
        rw [full] at pr3
        have app : ∀ {H : Hp} {q1 q2 : List Addr} {p1 p2 : List (Int × Int)}, PairsAt H q1 p1 → PairsAt H q2 p2 → PairsAt H (q1 ++ q2) (p1 ++ p2) := fun {H q1} => by
          induction q1 with
          | nil => intro q2 p1 p2 h1 h2; cases p1 with
            | nil => exact h2
            | cons _ _ => exact h1.elim
          | cons z q1 ih => intro q2 p1 p2 h1 h2; cases p1 with
            | nil => exact h1.elim
            | cons y p1 => exact ⟨h1.1, ih h1.2 h2⟩
        have := app ((pr.same sm3).same sm5) (pr3.same sm5)
        simpa [lower] using this
    · rintro σ H1 ⟨g, qs, u2, u3, rfl, sm, hg, pr, _⟩
      rw [List.length_map, List.take_length] at pr
      exact ⟨_, rfl, q g qs H1 sm hg pr⟩
abbrev nBehind : List Str := ["_law_standing_here", "_law_one", "_law_to", "_law_square"]
theorem scBehind : FnScope nBehind ["_law_standing_here", "_law_one", "_law_to"] (defScope sBehind) := ⟨rfl, rfl, rfl, by decide +kernel, rfl, by decide +kernel, by decide +kernel⟩
theorem ok_behind {f : Addr} {fd : FuncData} (F : Fun K "_law_behind" "_law_behind" sBehind f fd) (T : Txt K mg CB CT CL) : FnOk P w K mg base CX0 1 f fd ["_law_standing_here", "_law_one", "_law_to"] spMoved := by
  refine F.ok scBehind (fun vs H Q E h => ?_) (fun cdv A outer st H vs Q E hr h => ?_)
  · obtain ⟨a, s, one, to, rfl, _⟩ := h
    rfl
  · obtain ⟨a, s, one, to, rfl, hT, hl, q⟩ := h
    refine ⟨_, pss_one (ps_ret (pe_callTy call_tuple_of rfl T.tuple bT_tuple (pa_cons (pe_callB cr_sortedI rfl T.sorted (by decide +kernel) (pa_cons (pe_op op_cat
      (pe_lc (own := [("_law_square", 3)]) (g := gName 3) rfl scBehind.nd (pi_tup (pv 0)) (blkOk_by (own := [("_law_square", 3)]) (N := nBehind) (sc := defScope sBehind) (by decide +kernel))
        (fun _ _ _ _ _ => pg_name (i := 3) scBehind.nd rfl (.inl rfl)) (fun _ _ _ _ _ => pts_one (pt_cmpR op_ne (pv 3) (pv 1) (nomark _))) (fun _ _ _ _ _ => pv 3))
      (pe_lst (pa_cons (pv 2) pa_nil))) pa_nil)) pa_nil))), ?_⟩
    refine ⟨_, rfl, a, rfl, ⟨_, SqT.of hT⟩, fun D nD => lc_tup (K := K) (a := a) (xs := s.map V.int) (fun i H' => Same H H' ∧ H' D = some (.lst (((s.take i).filter fun x => !(x == one)).map V.int)))
      ⟨same_upd nD, upd_same⟩ (fun i H' _ ⟨sm, _⟩ => SqT.of (sm _ _ hT)) ?_ ?_⟩
    · rintro i y H' hi ⟨sm, hD⟩
      obtain ⟨x, hx, rfl⟩ := map_at hi
      have more := filter_more (fun x => !(x == one)) hx
      refine ⟨rfl, _, rfl, _, rfl, rfl, _, rfl, ?_⟩
      rw [dec_int]
      cases e : (x == one) with
      | true =>
        rw [e] at more
        refine iteF ⟨sm, ?_⟩
        rw [hD, more]
        simp
      | false =>
        rw [e] at more
        refine iteT ⟨_, rfl, _, hD, small100 (Nat.le_trans (by rw [List.length_map]; exact Nat.le_trans (List.length_filter_le _ _) (by rw [List.length_take]; exact Nat.min_le_right _ _)) (Nat.le_trans hl (by decide))), same_upd' sm nD, ?_⟩
        rw [upd_same, more]
        simp
    · rintro H1 ⟨sm, hD⟩
      rw [List.length_map, List.take_length] at hD
      have len : (s.filter fun x => !(x == one)).length ≤ 99 := Nat.le_trans (List.length_filter_le _ _) hl
      refine ⟨_, rfl, by show 1 ≤ sizeLine; decide, fun e ne => ?_⟩
      have sm1 := same_upd (o := .lst [.int to]) ne
      refine ⟨D, e, _, _, rfl, rfl, sm1 _ _ hD, upd_same, ?_, fun l nl => ?_⟩
      · refine Nat.le_of_lt (small100 ?_)
        rw [List.length_map]
        simp only [List.length_cons, List.length_nil]
        omega
      · have sm2 := same_upd (o := .lst ((s.filter fun x => !(x == one)).map V.int ++ [.int to])) nl
        refine ⟨l, (s.filter fun x => !(x == one)) ++ [to], rfl, SqL.of (by rw [upd_same, List.map_append]; rfl), fun ns r perm srt nr => ?_⟩
        have sm3 := same_upd (o := .lst (ns.map V.int)) nr
        have smA := ((sm.trans sm1).trans sm2).trans sm3
        refine ⟨r, ns.map V.int, rfl, .inl ⟨SqL.of upd_same, fun t nt => q t _ (same_upd' smA (smA.free nt)) ?_⟩⟩
        rw [← moved_is perm srt]
        exact upd_same
end
end Sq
/-! SqL: the law's own search. -/
namespace Sq
open PySem L2 PyProof.Rows
/-- (lost?, how long) at w -/
def BI (H : Hp) (w : Addr) (x : Bool × Int) : Prop := H w = some (.tup [.bl x.1, .int x.2])
theorem BI.same {H H' : Hp} (e : Same H H') (w : Addr) (x : Bool × Int) (h : BI H w x) : BI H' w x := e _ _ h
theorem BI.sbut {d : Addr} {kvs : List (List Key × V)} {H H' : Hp} (hd : H d = some (.dT kvs)) (e : Sbut d H H') (w : Addr) (x : Bool × Int) (h : BI H w x) : BI H' w x := e _ _ h (tup_ne hd h)
theorem BI.wr {H : Hp} {D : Addr} {xs : List V} {o : HO} (hD : H D = some (.lst xs)) (w : Addr) (x : Bool × Int) (h : BI H w x) : BI (upd H D o) w x := by
  unfold BI
  rw [upd_ne (ne_of h hD (by intro z; cases z))]
  exact h
/-- the value that is kept for a standing -/
def GV (H : Hp) (s : List Int) (v : V) : Prop := ∃ q, v = .ref q ∧ BI H q (las s)
def Kept (kvs : List (List Key × V)) (s : List Int) : Prop := (valV kvs (keyI s)).isSome = true
def Ext (kvs kvs' : List (List Key × V)) : Prop := ∀ s, Kept kvs s → Kept kvs' s
/-- the law's table: with a standing it holds all behind it -/
structure TabAt (H : Hp) (d : Addr) (kvs : List (List Key × V)) : Prop where
  dc : H d = some (.dT kvs)
  mm : Memo (GV H) kvs
  cl : ∀ s, okB s = true → Kept kvs s → ∀ p ∈ stepsF s, Kept kvs (mv s p)
theorem TabAt.same {H H' : Hp} {d : Addr} {kvs : List (List Key × V)} (e : Same H H') (t : TabAt H d kvs) : TabAt H' d kvs :=
  ⟨e _ _ t.dc, t.mm.mono fun _ _ ⟨q, a, b⟩ => ⟨q, a, b.same e⟩, t.cl⟩
theorem TabAt.wr {H : Hp} {d D : Addr} {xs : List V} {o : HO} {kvs : List (List Key × V)} (hD : H D = some (.lst xs)) (t : TabAt H d kvs) : TabAt (upd H D o) d kvs :=
  ⟨by rw [upd_ne (ne_of t.dc hD (by intro z; cases z))]; exact t.dc, t.mm.mono fun _ _ ⟨q, a, b⟩ => ⟨q, a, b.wr hD⟩, t.cl⟩
theorem kept_put {kvs : List (List Key × V)} {s t : List Int} {v : V} (h : Kept kvs t) : Kept (putK kvs (keyI s) v) t := by
  unfold Kept
  rw [valV_put]
  split
  · rfl
  · exact h
theorem TabAt.put {H : Hp} {d : Addr} {kvs : List (List Key × V)} {s : List Int} {q : Addr} (t : TabAt H d kvs) (ok : okB s = true) (b : BI H q (las s)) (all : ∀ p ∈ stepsF s, Kept kvs (mv s p)) : TabAt (upd H d (.dT (putK kvs (keyI s) (.ref q)))) d (putK kvs (keyI s) (.ref q)) := by
  have up : ∀ s v, GV H s v → GV (upd H d (.dT (putK kvs (keyI s) (.ref q)))) s v := fun s v ⟨q, a, b⟩ => ⟨q, a, by unfold BI; rw [upd_ne (tup_ne t.dc b)]; exact b⟩
  have up' : ∀ (o : HO) s v, GV H s v → GV (upd H d o) s v := fun o s v ⟨q, a, b⟩ => ⟨q, a, by unfold BI; rw [upd_ne (tup_ne t.dc b)]; exact b⟩
  refine ⟨upd_same, (t.mm.put ok ⟨q, rfl, b⟩).mono (up' _), fun s' ok' k p hp => kept_put ?_⟩
  unfold Kept at k
  rw [valV_put] at k
  by_cases e : keyI s' = keyI s
  · have e' := keyI_inj e
    subst e'
    exact all p hp
  · rw [if_neg e] at k
    exact t.cl s' ok' k p hp
/-- the data of a list of such -/
def bisD (xs : List (Bool × Int)) : List PyData := xs.map fun x => .tuple [.bool x.1, .int x.2]
theorem bis_dp {K : PySem.W.Frag} {H : Hp} : ∀ {ws : List Addr} {xs : List (Bool × Int)}, Each (BI H) ws xs → DpAll K H (ws.map V.ref) (bisD xs)
  | [], [], _ => .nil
  | w :: ws, x :: xs, h => .cons (.tup (SqT.of h.1) (.cons (.bl _) (.cons (.int _) .nil))) (bis_dp h.2)
theorem bis_lay : ∀ xs : List (Bool × Int), PyData.canLayAll0 (bisD xs) = true
  | [] => by simp [bisD, PyData.canLayAll0]
  | x :: xs => by
    have ih := bis_lay xs
    unfold bisD at ih ⊢
    rw [List.map_cons, PyData.canLayAll0, ih]
    simp [PyData.canLay0, PyData.canLayAll0]
theorem bis_depth : ∀ xs : List (Bool × Int), PyData.depthAll (bisD xs) ≤ 1
  | [] => by simp [bisD, PyData.depthAll]
  | x :: xs => by
    have ih := bis_depth xs
    unfold bisD at ih ⊢
    rw [List.map_cons, PyData.depthAll]
    refine Nat.max_le.mpr ⟨?_, ih⟩
    simp [PyData.depth, PyData.depthAll]
theorem bis_shaped (xs : List (Bool × Int)) : SeqAt.shaped (.list (bisD xs)) = true := by
  unfold SeqAt.shaped
  rw [Bool.and_eq_true]
  refine ⟨?_, decide_eq_true ?_⟩
  · rw [PyData.canLay0]
    exact bis_lay xs
  · rw [PyData.depth]
    have := bis_depth xs
    omega
theorem ints_dp {K : PySem.W.Frag} {H : Hp} : ∀ ns : List Int, DpAll K H (ns.map V.int) (ns.map PyData.int)
  | [] => .nil
  | n :: ns => .cons (.int n) (ints_dp ns)
theorem ints_lay : ∀ ns : List Int, PyData.canLayAll0 (ns.map PyData.int) = true
  | [] => by simp [PyData.canLayAll0]
  | n :: ns => by rw [List.map_cons, PyData.canLayAll0, ints_lay ns]; simp [PyData.canLay0]
theorem ints_depth : ∀ ns : List Int, PyData.depthAll (ns.map PyData.int) ≤ 0
  | [] => by simp [PyData.depthAll]
  | n :: ns => by
    rw [List.map_cons, PyData.depthAll]
    exact Nat.max_le.mpr ⟨by simp [PyData.depth], ints_depth ns⟩
theorem ints_shaped (ns : List Int) : SeqAt.shaped (.list (ns.map PyData.int)) = true := by
  unfold SeqAt.shaped
  rw [Bool.and_eq_true]
  refine ⟨?_, decide_eq_true ?_⟩
  · rw [PyData.canLay0]
    exact ints_lay ns
  · rw [PyData.depth]
    have := ints_depth ns
    omega
theorem nil_shaped : SeqAt.shaped (.list []) = true := by decide +kernel
theorem eqv_nil (ds : List PyData) : PyData.eqv (.list ds) (.list []) = decide (ds.length = 0) := by
  cases ds with
  | nil => simp [PyData.eqv, PyData.eqvAll]
  | cons d ds => simp [PyData.eqv, PyData.eqvAll]
section
variable {P : Program} {w : World} {K : PySem.W.Frag} {mg : Str → Option Value} {base : Heap} {CB CT CL : Addr}
def spLasts (n : Nat) : Sp := fun vs H Q _ => ∃ (a d : Addr) (kvs : List (List Key × V)) (s : List Int), vs = [.ref a, .ref d] ∧ TupI H a s ∧ okB s = true ∧ mu s < n ∧ TabAt H d kvs ∧
  ∀ kvs' H' q, TabAt H' d kvs' → Sbut d H H' → Ext kvs kvs' → Kept kvs' s → BI H' q (las s) → Q (.ref q) H'
abbrev nLasts : List Str := ["_law_standing_here", "_law_known", "_law_told", "_law_lost", "_law_one", "_law_to", "_law_row"]
theorem scLasts : FnScope nLasts ["_law_standing_here", "_law_known"] (defScope sLasts) := ⟨rfl, rfl, rfl, by decide +kernel, rfl, by decide +kernel, by decide +kernel⟩
/-- the last statement -/
theorem tell2 {a d : Addr} {kvs : List (List Key × V)} {s : List Int} {H : Hp} {Q : VK} {u2 u3 u4 u5 u6 : Option V} (L : TabAt H d kvs) (hT : TupI H a s) (h : Kept kvs s) (q : ∀ w, BI H w (las s) → Q (.ref w) H) :
    tDGet (tVar 1) (tVar 0) [some (.ref a), some (.ref d), u2, u3, u4, u5, u6] H Q := by
  have hT' : H a = some (.tup ((keyI s).map kV)) := by rw [keyI_kV]; exact hT
  obtain ⟨v, hv⟩ := Option.isSome_iff_exists.mp h
  obtain ⟨w0, e, b⟩ := L.mm.get hv
  subst e
  exact ⟨_, rfl, _, rfl, d, _, rfl, by rw [← hv]; exact DGet.t L.dc hT', q w0 b⟩
/-- what is known of the standing is stored, and told -/
theorem store2 {a d q0 : Addr} {kvs : List (List Key × V)} {s : List Int} {H : Hp} {D : Ends} {u2 u3 u4 u5 u6 : Option V} (L : TabAt H d kvs) (hT : TupI H a s) (ok : okB s = true) (b : BI H q0 (las s)) (all : ∀ p ∈ stepsF s, Kept kvs (mv s p))
    (q : ∀ kvs' H' w, TabAt H' d kvs' → Sbut d H H' → Ext kvs kvs' → Kept kvs' s → BI H' w (las s) → D.rt (.ref w) H') :
    tVar 1 [some (.ref a), some (.ref d), u2, u3, u4, u5, u6] H fun x H2 => tVar 0 [some (.ref a), some (.ref d), u2, u3, u4, u5, u6] H2 fun y H3 => ∃ a' H4, x = .ref a' ∧ DPut H3 a' y (.ref q0) H4 ∧ tRet (tDGet (tVar 1) (tVar 0)) D [some (.ref a), some (.ref d), u2, u3, u4, u5, u6] H4 := by
  have hT' : H a = some (.tup ((keyI s).map kV)) := by rw [keyI_kV]; exact hT
  have T2 := L.put ok b all
  have sb : Sbut d H (upd H d (.dT (putK kvs (keyI s) (.ref q0)))) := fun c o e n => by rw [upd_ne n]; exact e
  have kp : Kept (putK kvs (keyI s) (.ref q0)) s := by
    unfold Kept
    rw [valV_put, if_pos rfl]
    rfl
  refine ⟨_, rfl, _, rfl, d, _, rfl, DPut.t L.dc hT' (small1000 (Nat.le_trans L.mm.len (by decide))), ?_⟩
  exact tell2 T2 (hT.sbut L.dc sb) kp fun w bw => q _ _ w T2 sb (fun t ht => kept_put ht) kp bw
theorem ok_lasts {f : Addr} {fd : FuncData} (F : Fun K "_law_lasts" "_law_lasts" sLasts f fd) (T : Txt K mg CB CT CL) (gF : mg "_law_lasts" = some (.ref f)) (bF : Binds K fd ["_law_standing_here", "_law_known"] [])
    (GM : Has P w K mg base CX0 1 "_law_moves" ["_law_standing_here"] spSteps) (GB : Has P w K mg base CX0 1 "_law_behind" ["_law_standing_here", "_law_one", "_law_to"] spMoved) :
    ∀ n, FnOk P w K mg base CX0 (2 + n) f fd ["_law_standing_here", "_law_known"] (spLasts n)
  | 0 => ⟨fun vs H Q E h => by obtain ⟨a, d, kvs, s, rfl, _⟩ := h; rfl, fun A outer s H args us vs Q E hr he hb hv h => by obtain ⟨a, d, kvs, s, _, _, _, l, _⟩ := h; exact absurd l (Nat.not_lt_zero _)⟩
  | n + 1 => by
    have IH := ok_lasts F T gF bF GM GB n
    refine F.ok scLasts (fun vs H Q E h => ?_) (fun cdv A outer st H vs Q E hr h => ?_)
    · obtain ⟨a, d, kvs, s, rfl, _⟩ := h
      rfl
    · obtain ⟨a, d, kvs, s, rfl, hT, ok, hn, L, q⟩ := h
      have hu := hu_of hr
      have hr1 : Room 1 _ := hr.mono (show 1 ≤ 2 + n by omega)
      refine ⟨_, pss_cons (ps_if (pt_cmp (pc_dnotin hu (pv 0) (pv 1)))
          (pss_cons (ps_setLc (i := 2) (own := [("_law_one", 4), ("_law_to", 5)]) (g := gTup K 2 (gCons (gName 4) (gCons (gName 5) gNil))) rfl scLasts.nd rfl rfl (sw_true rfl rfl rfl (by decide +kernel)) (pi_list (pe_has GM hr1 pass0 (pa_cons (pv 0) pa_nil))) (blkOk_by (own := [("_law_one", 4), ("_law_to", 5)]) (N := nLasts) (sc := defScope sLasts) (by decide +kernel))
            (fun _ _ _ _ _ => pg_tup rfl (pgs_cons (pg_name (i := 4) scLasts.nd rfl (.inl rfl)) (pgs_cons (pg_name (i := 5) scLasts.nd rfl (.inl rfl)) pgs_nil))) (fun _ _ _ _ _ => pts_nil)
            (fun _ _ _ _ _ => pe_call IH hr rfl gF F.kp bF .nil pass0 (pa_cons (pe_has GB hr1 pass0 (pa_cons (pv 0) (pa_cons (pv 4) (pa_cons (pv 5) pa_nil)))) (pa_cons (pv 1) pa_nil))))
          (pss_cons (ps_setLc (i := 3) (own := [("_law_row", 6)]) (g := gName 6) (tt := tB (tOp (rIxT K) (tVar 6) (tC (.int 0)))) (te := tOp (rIxT K) (tVar 6) (tC (.int 1))) rfl scLasts.nd rfl rfl (sw_true rfl rfl rfl (by decide +kernel)) (pi_list (pv 2)) (blkOk_by (own := [("_law_row", 6)]) (N := nLasts) (sc := defScope sLasts) (by decide +kernel))
            (fun _ _ _ _ _ => pg_name (i := 6) scLasts.nd rfl (.inl rfl)) (fun _ _ _ _ _ => pts_one (pt_val (pe_ix ix_tup (pv 6) pe_int (fun _ _ => rfl)))) (fun _ _ _ _ _ => pe_ix ix_tup (pv 6) pe_int (fun _ _ => rfl)))
          (pss_one (ps_if (pt_cmpR (op_eqD hr.units) (pv 2) (pe_lst pa_nil) (nomark _))
            (pss_one (ps_dput hu (pv 1) (pv 0) (pe_tup (pa_cons pe_bl (pa_cons pe_int pa_nil))) rfl))
            (pss_one (ps_if (pt_cmpR (op_neD hr.units) (pv 3) (pe_lst pa_nil) (nomark _))
              (pss_one (ps_dput hu (pv 1) (pv 0) (pe_tup (pa_cons pe_bl (pa_cons (pe_op op_add pe_int (pe_callB (cr_min rfl) (by rfl) T.min (by decide +kernel) (pa_cons (pv 3) pa_nil))) pa_nil))) rfl))
              (pss_one (ps_dput hu (pv 1) (pv 0) (pe_tup (pa_cons pe_bl (pa_cons (pe_op op_add pe_int (pe_callB (cr_max rfl) (by rfl) T.max (by decide +kernel) (pa_cons
                (pe_lc (own := [("_law_row", 6)]) (g := gName 6) (te := tOp (rIxT K) (tVar 6) (tC (.int 1))) rfl scLasts.nd (pi_list (pv 2)) (blkOk_by (own := [("_law_row", 6)]) (N := nLasts) (sc := defScope sLasts) (by decide +kernel))
                  (fun _ _ _ _ _ => pg_name (i := 6) scLasts.nd rfl (.inl rfl)) (fun _ _ _ _ _ => pts_nil) (fun _ _ _ _ _ => pe_ix ix_tup (pv 6) pe_int (fun _ _ => rfl))) pa_nil))) pa_nil))) rfl))))))))
          pss_nil)
        (pss_one (ps_ret (pe_dget hu (pv 1) (pv 0) (fun _ _ => rfl)))), ?_⟩
      have hT' : H a = some (.tup ((keyI s).map kV)) := by rw [keyI_kV]; exact hT
      refine ⟨_, rfl, _, rfl, d, _, rfl, DGet.t L.dc hT', _, rfl, ?_⟩
      cases e : valV kvs (keyI s) with
      | some v =>
        have kp : Kept kvs s := by unfold Kept; rw [e]; rfl
        exact iteF (tell2 L hT kp fun w b => q kvs H w L (fun b o z _ => z) (fun _ z => z) kp b)
      | none =>
        refine iteT ?_
        have G := good ok
        have fit := steps_len ok
        -- told
        refine ⟨_, rfl, a, s, rfl, hT, ok, fun r qs H1 sm1 hr1 pr1 => ⟨r, rfl, ⟨_, SqL.of hr1⟩, fun D1 nD1 => lc_list (K := K) (a := r) (xs := qs.map V.ref) (fun i H' => ∃ (kvs' : List (List Key × V)) (ws : List Addr), TabAt H' d kvs' ∧ Sbut d H1 H' ∧ Ext kvs kvs' ∧ H' D1 = some (.lst (ws.map V.ref)) ∧
            Each (BI H') ws (((stepsF s).take i).map fun p => las (mv s p)) ∧ ∀ p ∈ (stepsF s).take i, Kept kvs' (mv s p))
          ⟨kvs, [], (L.same sm1).same (same_upd nD1), sbut_of (same_upd nD1) d, fun _ z => z, upd_same, trivial, fun p hp => by simp at hp⟩
          (fun i H' _ ⟨_, _, _, sb, _⟩ => SqL.of (sb _ _ hr1 (ne_of hr1 (L.same sm1).dc (by intro z; cases z)))) ?_ ?_⟩⟩
        · rintro i y H' hi ⟨kvs', ws, L', sb, ext, hD, ew, al⟩
          obtain ⟨q0, hq0, rfl⟩ := map_at hi
          obtain ⟨pp, hpp, hpt⟩ := pr1.get hq0
          obtain ⟨okl, ltl⟩ := G.later pp (List.mem_of_getElem? hpp)
          have hpt' := sb _ _ hpt (tup_ne (L.same sm1).dc hpt)
          have hTa : TupI H' a s := TupI.sbut (L.same sm1).dc (hT.same sm1) sb
          refine ⟨q0, _, rfl, SqT.of hpt', rfl, _, _, rfl, _, _, rfl, rfl, rfl, ?_⟩
          dsimp only [tYes]
          rw [if_pos rfl]
          refine ⟨_, rfl, _, rfl, _, rfl, a, s, pp.1, pp.2, rfl, hTa, Nat.le_trans (ok_of ok).len (by decide), fun t H2 sm2 ht => ⟨_, rfl, t, d, kvs', mv s pp, rfl, ht, okl, Nat.lt_of_lt_of_le ltl (Nat.le_of_lt_succ hn), L'.same sm2, fun kvs3 H3 w3 L3 sb3 ext3 kp3 b3 => ?_⟩⟩
          have hD3 : H3 D1 = some (.lst (ws.map V.ref)) := sb3 _ _ (sm2 _ _ hD) (ne_of (sm2 _ _ hD) (L'.same sm2).dc (by intro z; cases z))
          refine ⟨_, hD3, small1000 ?_, kvs3, ws ++ [w3], L3.wr hD3, fun b o eb nb => ?_, fun t ht => ext3 _ (ext _ ht), by rw [upd_same, List.map_append]; rfl, ?_, fun p hp => ?_⟩
          · rw [List.length_map, ew.length, List.length_map, List.length_take]
            omega
          · rw [upd_ne (ne_of_none eb nD1)]
            exact sb3 _ _ (sm2 _ _ (sb _ _ eb nb)) nb
          · rw [take_more hpp, List.map_append]
            exact (Each.snoc (R := BI _) (b := las (mv s pp)) b3 ((ew.mono (BI.same sm2)).mono (BI.sbut (L'.same sm2).dc sb3))).mono (BI.wr hD3)
          · rw [take_more hpp] at hp
            rcases List.mem_append.mp hp with z | z
            · exact ext3 _ (al p z)
            · rw [List.mem_singleton.mp z]
              exact kp3
        · rintro H2 ⟨kvs2, ws, L2', sb2, ext2, hD2, ew, al⟩
          rw [List.length_map, pr1.length, List.take_length] at ew al
          have smH : Sbut d H H2 := (sbut_of sm1 d).trans sb2
          have hT2 : TupI H2 a s := hT.sbut L.dc smH
          have hst := las_step ok
          unfold lawStep at hst
          dsimp only at hst
          have tl : ((stepsF s).map fun p => las (mv s p)).length ≤ 44 := by rw [List.length_map]; exact fit
          generalize ((stepsF s).map fun p => las (mv s p)) = told at ew hst tl
          have done : ∀ kvs' H' w, TabAt H' d kvs' → Sbut d H2 H' → Ext kvs2 kvs' → Kept kvs' s → BI H' w (las s) → Q (.ref w) H' := fun kvs' H' w L' sb ext kp b => q kvs' H' w L' (smH.trans sb) (fun t ht => ext _ (ext2 _ ht)) kp b
          -- lost
          refine ⟨_, rfl, D1, rfl, ⟨_, SqL.of hD2⟩, fun D2 nD2 => lc_list (K := K) (a := D1) (xs := ws.map V.ref) (fun i H' => Same H2 H' ∧ H' D2 = some (.lst ((((told.take i).filter (·.1)).map (·.2)).map V.int)))
            ⟨same_upd nD2, upd_same⟩ (fun i H' _ ⟨sm, _⟩ => SqL.of (sm _ _ hD2)) ?_ ?_⟩
          · rintro i y H' hi ⟨sm, hD'⟩
            obtain ⟨w0, hw0, rfl⟩ := map_at hi
            obtain ⟨x, hx, bx⟩ := ew.get hw0
            have bx' : SqT K H' w0 [.bl x.1, .int x.2] := SqT.of (sm _ _ bx)
            have more := filter_more (fun x : Bool × Int => x.1) hx
            refine ⟨rfl, _, rfl, w0, _, 0, .bl x.1, rfl, rfl, bx', rfl, x.1, rfl, ?_⟩
            cases e1 : x.1 with
            | false =>
              rw [e1] at more
              refine iteF ⟨sm, ?_⟩
              rw [hD', more]
              simp
            | true =>
              rw [e1] at more
              refine iteT ⟨_, rfl, w0, _, 1, .int x.2, rfl, rfl, bx', rfl, _, hD', small1000 ?_, same_upd' sm nD2, ?_⟩
              · rw [List.length_map, List.length_map]
                have := List.length_filter_le (fun x : Bool × Int => x.1) (told.take i)
                rw [List.length_take] at this
                omega
              · rw [upd_same, more]
                simp
          · rintro H3 ⟨sm3, hD3⟩
            rw [List.length_map, ew.length, List.take_length] at hD3
            have L3 := L2'.same sm3
            have hT3 := hT2.same sm3
            have ew3 := ew.mono (BI.same sm3)
            have hD13 := sm3 _ _ hD2
            generalize hlost : (told.filter (·.1)).map (·.2) = lost at hD3 hst
            refine ⟨_, rfl, by show 0 ≤ sizeLine; exact Nat.zero_le _, fun e0 ne0 => ⟨_, _, .lst (SqL.of ((same_upd ne0) _ _ hD13)) (bis_dp (ew3.mono (BI.same (same_upd ne0)))), .lst (SqL.of upd_same) .nil, bis_shaped told, nil_shaped, _, rfl, ?_⟩⟩
            have sm4 := same_upd (o := .lst []) ne0
            have L4 := L3.same sm4
            have hT4 := hT3.same sm4
            have ew4 := ew3.mono (BI.same sm4)
            have hD14 := sm4 _ _ hD13
            have hD24 := sm4 _ _ hD3
            have sb4 : Sbut d H2 (upd H3 e0 (.lst [])) := sbut_of (sm3.trans sm4) d
            generalize upd H3 e0 (.lst []) = H4 at L4 hT4 ew4 hD14 hD24 sb4
            rw [eqv_nil, show (bisD told).length = told.length from List.length_map ..]
            have done4 : ∀ kvs' H' w, TabAt H' d kvs' → Sbut d H4 H' → Ext kvs2 kvs' → Kept kvs' s → BI H' w (las s) → Q (.ref w) H' := fun kvs' H' w L' sb ext kp b => done kvs' H' w L' (sb4.trans sb) ext kp b
            by_cases t0 : told.length = 0
            · rw [decide_eq_true t0]
              rw [if_pos t0] at hst
              refine iteT ⟨by show 2 ≤ sizeLine; decide, fun v0 nv0 => ?_⟩
              have sm5 := same_upd (o := .tup [.bl true, .int 0]) nv0
              exact store2 (D := { nx := fun _ H' => Q .non H', rt := Q }) (L4.same sm5) (hT4.same sm5) ok (by unfold BI; rw [upd_same, ← hst]) al fun kvs' H' w L' sb ext kp b => done4 kvs' H' w L' ((sbut_of sm5 d).trans sb) ext kp b
            · rw [decide_eq_false t0]
              rw [if_neg t0] at hst
              refine iteF ⟨_, rfl, by show 0 ≤ sizeLine; exact Nat.zero_le _, fun e1 ne1 => ⟨_, _, .lst (SqL.of ((same_upd ne1) _ _ hD24)) (ints_dp lost), .lst (SqL.of upd_same) .nil, ints_shaped lost, nil_shaped, _, rfl, ?_⟩⟩
              have sm5 := same_upd (o := .lst []) ne1
              have L5 := L4.same sm5
              have hT5 := hT4.same sm5
              have ew5 := ew4.mono (BI.same sm5)
              have hD15 := sm5 _ _ hD14
              have hD25 := sm5 _ _ hD24
              have done5 : ∀ kvs' H' w, TabAt H' d kvs' → Sbut d (upd H4 e1 (.lst [])) H' → Ext kvs2 kvs' → Kept kvs' s → BI H' w (las s) → Q (.ref w) H' := fun kvs' H' w L' sb ext kp b => done4 kvs' H' w L' ((sbut_of sm5 d).trans sb) ext kp b
              generalize upd H4 e1 (.lst []) = H5 at L5 hT5 ew5 hD15 hD25 done5
              rw [eqv_nil, List.length_map]
              by_cases l0 : lost.length = 0
              · rw [decide_eq_true l0]
                rw [if_neg (by omega)] at hst
                refine iteF ⟨_, rfl, D1, rfl, ⟨_, SqL.of hD15⟩, fun D6 nD6 => lc_list (K := K) (a := D1) (xs := ws.map V.ref) (fun i H' => Same H5 H' ∧ H' D6 = some (.lst (((told.take i).map (·.2)).map V.int)))
                  ⟨same_upd nD6, upd_same⟩ (fun i H' _ ⟨sm, _⟩ => SqL.of (sm _ _ hD15)) ?_ ?_⟩
                · rintro i y H' hi ⟨sm, hD'⟩
                  obtain ⟨w0, hw0, rfl⟩ := map_at hi
                  obtain ⟨x, hx, bx⟩ := ew5.get hw0
                  have bx' : SqT K H' w0 [.bl x.1, .int x.2] := SqT.of (sm _ _ bx)
                  refine ⟨rfl, ?_⟩
                  dsimp only [tYes]
                  rw [if_pos rfl]
                  refine ⟨_, rfl, w0, _, 1, .int x.2, rfl, rfl, bx', rfl, _, hD', small1000 ?_, same_upd' sm nD6, ?_⟩
                  · rw [List.length_map, List.length_map, List.length_take]
                    omega
                  · rw [upd_same, take_more hx]
                    simp
                · rintro H6 ⟨sm6, hD6⟩
                  rw [List.length_map, ew5.length, List.take_length] at hD6
                  refine ⟨D6, told.map (·.2), rfl, SqL.of hD6, by rw [List.length_map]; omega, fun m hm most => ⟨_, _, rfl, rfl, by show 2 ≤ sizeLine; decide, fun v0 nv0 => ?_⟩⟩
                  have sm7 := sm6.trans (same_upd (o := .tup [.bl true, .int (1 + m)]) nv0)
                  exact store2 (D := { nx := fun _ H' => Q .non H', rt := Q }) (L5.same sm7) (hT5.same sm7) ok (by unfold BI; rw [upd_same, ← hst, maxI_eq hm most]) al fun kvs' H' w L' sb ext kp b => done5 kvs' H' w L' ((sbut_of sm7 d).trans sb) ext kp b
              · rw [decide_eq_false l0]
                rw [if_pos l0] at hst
                refine iteT ⟨_, rfl, D2, lost, rfl, SqL.of hD25, Nat.pos_of_ne_zero l0, fun m hm least => ⟨_, _, rfl, rfl, by show 2 ≤ sizeLine; decide, fun v0 nv0 => ?_⟩⟩
                have sm7 := same_upd (o := .tup [.bl false, .int (1 + m)]) nv0
                exact store2 (D := { nx := fun _ H' => Q .non H', rt := Q }) (L5.same sm7) (hT5.same sm7) ok (by unfold BI; rw [upd_same, ← hst, minI_eq hm least]) al fun kvs' H' w L' sb ext kp b => done5 kvs' H' w L' ((sbut_of sm7 d).trans sb) ext kp b
end
end Sq
/-! SqM: the law's equality. -/
namespace Sq
open PySem L2 PyProof.Rows
/-- two values that R says are alike are told equal -/
def spEqR (R : Hp → V → V → Prop) : Sp := fun vs H Q _ => ∃ x y, vs = [x, y] ∧ R H x y ∧ ∀ H', Same H H' → Q (.bl true) H'
def RInt : Hp → V → V → Prop := fun _ x y => ∃ i, x = .int i ∧ y = .int i
/-- two tuples, or two lists, alike item by item -/
def RSeq (R : Hp → V → V → Prop) : Hp → V → V → Prop := fun H x y => ∃ (a b : Addr) (xs ys : List V), x = .ref a ∧ y = .ref b ∧ ((H a = some (.tup xs) ∧ H b = some (.tup ys)) ∨ (H a = some (.lst xs) ∧ H b = some (.lst ys))) ∧
  xs.length = ys.length ∧ xs.length ≤ 100 ∧ ∀ (i : Nat) (x y : V), xs[i]? = some x → ys[i]? = some y → R H x y
def Steady (R : Hp → V → V → Prop) : Prop := ∀ H H' x y, Same H H' → R H x y → R H' x y
theorem steady_int : Steady RInt := fun _ _ _ _ _ h => h
theorem steady_seq {R : Hp → V → V → Prop} (h : Steady R) : Steady (RSeq R) := fun H H' x y e ⟨a, b, xs, ys, ex, ey, k, l, m, all⟩ =>
  ⟨a, b, xs, ys, ex, ey, k.elim (fun z => .inl ⟨e _ _ z.1, e _ _ z.2⟩) (fun z => .inr ⟨e _ _ z.1, e _ _ z.2⟩), l, m, fun i x y p q => h H H' x y e (all i x y p q)⟩
section
variable {P : Program} {w : World} {K : PySem.W.Frag} {mg : Str → Option Value} {base : Heap} {CB CT CL : Addr}
abbrev nEqual : List Str := ["_law_actual", "_law_expected", "_law_k"]
theorem scEqual : FnScope nEqual ["_law_actual", "_law_expected"] (defScope sEqual) := ⟨rfl, rfl, rfl, by decide +kernel, rfl, by decide +kernel, by decide +kernel⟩
theorem ok_eqInt {f : Addr} {fd : FuncData} (F : Fun K "_law_equal" "_law_equal" sEqual f fd) (T : Txt K mg CB CT CL) : FnOk P w K mg base CX0 1 f fd ["_law_actual", "_law_expected"] (spEqR RInt) := by
  refine F.ok scEqual (fun vs H Q E h => ?_) (fun cdv A outer st H vs Q E hr h => ?_)
  · obtain ⟨x, y, rfl, _⟩ := h
    rfl
  · obtain ⟨x, y, rfl, ⟨i, rfl, rfl⟩, q⟩ := h
    refine ⟨_, pss_cons (ps_if (pt_cmpR op_isN (pv 1) pe_non (nomark _)) pss_never pss_nil)
      (pss_cons (ps_if (pt_val (pe_isi (pv 1) T.isi T.bool bT_bool)) pss_never pss_nil)
      (pss_cons (ps_if (pt_val (pe_isi (pv 1) T.isi T.int bT_int)) (pss_one (ps_ret (pe_and (pe_isi (pv 0) T.isi T.int bT_int) (pe_and (pe_not (pe_isi (pv 0) T.isi T.bool bT_bool)) (pe_one (pe_cmpR op_eq (pv 0) (pv 1) (nomark _))))))) pss_nil) pss_never)), ?_⟩
    refine ⟨_, rfl, rfl, _, rfl, iteF ⟨_, rfl, _, "int", rfl, rfl, _, rfl, iteF ⟨_, rfl, _, "int", rfl, rfl, _, rfl, iteT ?_⟩⟩⟩
    refine ⟨_, rfl, _, "int", rfl, rfl, _, rfl, iteT ⟨_, rfl, _, "int", rfl, rfl, _, rfl, _, rfl, iteT ⟨_, rfl, _, rfl, rfl, ?_⟩⟩⟩
    rw [decide_eq_true rfl]
    exact q H fun _ _ z => z
theorem seq_ty {H : Hp} {a b : Addr} {xs ys : List V} (k : (H a = some (.tup xs) ∧ H b = some (.tup ys)) ∨ (H a = some (.lst xs) ∧ H b = some (.lst ys))) : ∃ n, tyN (.ref a) H = some n ∧ tyN (.ref b) H = some n ∧ (n = "tuple" ∨ n = "list") :=
  k.elim (fun z => ⟨"tuple", tyN_tup z.1, tyN_tup z.2, .inl rfl⟩) fun z => ⟨"list", tyN_lst z.1, tyN_lst z.2, .inr rfl⟩
theorem seq_at {K : PySem.W.Frag} {H : Hp} {a : Addr} {xs : List V} {i : Nat} {v : V} {Q : VK} (k : H a = some (.tup xs) ∨ H a = some (.lst xs)) (h : xs[i]? = some v) (q : Q v H) : rIx K (.ref a) (.int (i : Nat)) H Q :=
  k.elim (fun z => .inr (.inl ⟨a, xs, _, v, rfl, rfl, SqT.of z, atI_nat h, q⟩)) fun z => .inl ⟨a, xs, _, v, rfl, rfl, SqL.of z, atI_nat h, q⟩
theorem ok_eqSeq {k : Nat} {R : Hp → V → V → Prop} {f : Addr} {fd : FuncData} (F : Fun K "_law_equal" "_law_equal" sEqual f fd) (T : Txt K mg CB CT CL) (gF : mg "_law_equal" = some (.ref f)) (bF : Binds K fd ["_law_actual", "_law_expected"] []) (sR : Steady R)
    (IH : FnOk P w K mg base CX0 k f fd ["_law_actual", "_law_expected"] (spEqR R)) : FnOk P w K mg base CX0 (k + 1) f fd ["_law_actual", "_law_expected"] (spEqR (RSeq R)) := by
  refine F.ok scEqual (fun vs H Q E h => ?_) (fun cdv A outer st H vs Q E hr h => ?_)
  · obtain ⟨x, y, rfl, _⟩ := h
    rfl
  · obtain ⟨x, y, rfl, ⟨a, b, xs, ys, rfl, rfl, kind, len, l100, all⟩, q⟩ := h
    refine ⟨_, pss_cons (ps_if (pt_cmpR op_isN (pv 1) pe_non (nomark _)) pss_never pss_nil)
      (pss_cons (ps_if (pt_val (pe_isi (pv 1) T.isi T.bool bT_bool)) pss_never pss_nil)
      (pss_cons (ps_if (pt_val (pe_isi (pv 1) T.isi T.int bT_int)) pss_never pss_nil)
      (pss_cons (ps_if (pt_val (pe_isi (pv 1) T.isi T.str bT_str)) pss_never pss_nil)
      (pss_cons (ps_if (pt_val (pe_isi (pv 1) T.isi T.dict bT_dict)) pss_never pss_nil)
      (pss_cons (ps_if (pt_cmpR op_ne (pe_isi (pv 1) T.isi T.tuple bT_tuple) (pe_isi (pv 0) T.isi T.tuple bT_tuple) (nomark _)) pss_never pss_nil)
      (pss_cons (ps_if (pt_cmpR op_ne (pe_isi (pv 1) T.isi T.list bT_list) (pe_isi (pv 0) T.isi T.list bT_list) (nomark _)) pss_never pss_nil)
      (pss_cons (ps_if (pt_cmpR op_ne (pe_callB call_len (by rfl) T.len PySem.boot_len (pa_cons (pv 0) pa_nil)) (pe_callB call_len (by rfl) T.len PySem.boot_len (pa_cons (pv 1) pa_nil)) (nomark _)) pss_never pss_nil)
      (pss_one (ps_ret (pe_callB (cr_all rfl) (by rfl) T.all (by decide +kernel) (pa_cons (pe_lc (own := [("_law_k", 2)]) (g := gName 2) (te := tCall (spEqR R) [] E0 (tCons (tOp (rIx K) (tVar 0) (tVar 2)) (tCons (tOp (rIx K) (tVar 1) (tVar 2)) tNil))) rfl scEqual.nd
        (pi_range1 (by rfl) T.range (pa_cons (pe_callB call_len (by rfl) T.len PySem.boot_len (pa_cons (pv 1) pa_nil)) pa_nil)) (blkOk_by (own := [("_law_k", 2)]) (N := nEqual) (sc := defScope sEqual) (by decide +kernel))
        (fun _ _ _ _ _ => pg_name (i := 2) scEqual.nd rfl (.inl rfl)) (fun _ _ _ _ _ => pts_nil)
        (fun _ _ _ _ _ => pe_call IH hr rfl gF F.kp bF .nil pass0 (pa_cons (pe_ix ix_seq (pv 0) (pv 2) (fun _ _ => rfl)) (pa_cons (pe_ix ix_seq (pv 1) (pv 2) (fun _ _ => rfl)) pa_nil)))) pa_nil))))))))))), ?_⟩
    obtain ⟨n, ta, tb, hn⟩ := seq_ty kind
    have n1 : subT n "bool" = false ∧ subT n "int" = false ∧ subT n "str" = false ∧ subT n "dict" = false := by
      rcases hn with e | e <;> (rw [e]; decide)
    have lenA : LenV K (.ref a) H xs.length := kind.elim (fun z => .inr ⟨_, SqT.of z.1, rfl⟩) fun z => .inl ⟨_, SqL.of z.1, rfl⟩
    have lenB : LenV K (.ref b) H ys.length := kind.elim (fun z => .inr ⟨_, SqT.of z.2, rfl⟩) fun z => .inl ⟨_, SqL.of z.2, rfl⟩
    refine ⟨_, rfl, rfl, _, rfl, iteF ⟨_, rfl, _, n, rfl, tb, _, rfl, ?_⟩⟩
    rw [n1.1]
    refine iteF ⟨_, rfl, _, n, rfl, tb, _, rfl, ?_⟩
    rw [n1.2.1]
    refine iteF ⟨_, rfl, _, n, rfl, tb, _, rfl, ?_⟩
    rw [n1.2.2.1]
    refine iteF ⟨_, rfl, _, n, rfl, tb, _, rfl, ?_⟩
    rw [n1.2.2.2]
    refine iteF ⟨_, rfl, _, n, rfl, tb, _, rfl, _, n, rfl, ta, rfl, _, rfl, iteNS rfl ?_⟩
    refine ⟨_, rfl, _, n, rfl, tb, _, rfl, _, n, rfl, ta, rfl, _, rfl, iteNS rfl ?_⟩
    refine ⟨_, rfl, _, _, rfl, lenA, _, rfl, _, _, rfl, lenB, rfl, _, rfl, iteNS (by rw [len]) ?_⟩
    -- all items
    refine ⟨_, rfl, _, _, rfl, lenB, _, rfl, by omega, by omega, fun D nD => ?_⟩
    rw [Int.toNat_natCast]
    refine lc_range (lo := 0) (n := ys.length) (fun j H' => Same H H' ∧ H' D = some (.lst ((List.replicate j true).map V.bl))) ⟨same_upd nD, upd_same⟩ ?_ ?_
    · rintro j H1 hj ⟨sm, hD⟩
      rw [Int.zero_add]
      have hx : xs[j]? = some (xs[j]'(by omega)) := List.getElem?_eq_getElem (by omega)
      have hy : ys[j]? = some ys[j] := List.getElem?_eq_getElem hj
      refine ⟨rfl, ?_⟩
      dsimp only [tYes]
      rw [if_pos rfl]
      refine ⟨_, rfl, _, rfl, seq_at (kind.elim (fun z => .inl (sm _ _ z.1)) fun z => .inr (sm _ _ z.1)) hx ⟨_, rfl, _, rfl, seq_at (kind.elim (fun z => .inl (sm _ _ z.2)) fun z => .inr (sm _ _ z.2)) hy ?_⟩⟩
      refine ⟨_, _, rfl, sR _ _ _ _ sm (all j _ _ hx hy), fun H2 sm2 => ⟨_, sm2 _ _ hD, small1000 (by rw [List.length_map, List.length_replicate]; omega), same_upd' (sm.trans sm2) nD, ?_⟩⟩
      rw [upd_same, List.replicate_succ', List.map_append]
      rfl
    · rintro H1 ⟨sm, hD⟩
      refine ⟨D, List.replicate ys.length true, rfl, SqL.of hD, ?_⟩
      have e : (List.replicate ys.length true).all id = true := by
        rw [List.all_eq_true]
        intro z hz
        exact (List.mem_replicate.mp hz).2
      rw [e]
      exact q H1 sm
end
end Sq
/-! SqN: the law's values that are no standings; what is refused. -/
namespace Sq
open PySem L2 PyProof.Rows
/-- no square, of a known kind -/
def NoSq (H : Hp) (v : V) : Prop := (∃ n, tyN v H = some n) ∧ fromB v 0 big = false
theorem NoSq.same {H H' : Hp} {v : V} (e : Same H H') (h : NoSq H v) : NoSq H' v := ⟨let ⟨n, a⟩ := h.1; ⟨n, tyN_same e a⟩, h.2⟩
theorem tyN_draw {H H' : Hp} {p : Addr} {x : V} {n : String} (sb : Sbut p H H') (d : DrawAt H p) (d' : DrawAt H' p) (h : tyN x H = some n) : tyN x H' = some n := by
  cases x with
  | ref a =>
    by_cases e : a = p
    · obtain ⟨_, _, _, h1, _⟩ := d
      obtain ⟨_, _, _, h2, _⟩ := d'
      rw [e] at h ⊢
      rw [tyN_lst h1] at h
      rw [tyN_lst h2]
      exact h
    · unfold tyN at h ⊢
      dsimp only at h ⊢
      cases q : H a with
      | none => rw [q] at h; cases h
      | some o =>
        rw [q] at h
        rw [sb a o q e]
        exact h
  | _ => exact h
theorem draw_tup {H : Hp} {p t : Addr} {xs : List V} (d : DrawAt H p) (h : H t = some (.tup xs)) : t ≠ p := by
  obtain ⟨_, _, _, h1, _⟩ := d
  exact ne_of h h1 (by intro z; cases z)
theorem Bad.draw {H H' : Hp} {p : Addr} {x v : V} (sb : Sbut p H H') (d : DrawAt H p) (d' : DrawAt H' p) (h : Bad H x v) : Bad H' x v := by
  rcases h with ⟨n, a, b, c⟩ | ⟨a, xs, e, ha, h⟩
  · exact .inl ⟨n, tyN_draw sb d d' a, b, c⟩
  · refine .inr ⟨a, xs, e, sb _ _ ha (draw_tup d ha), ?_⟩
    rcases h with h | ⟨l, k, r⟩
    · exact .inl h
    · exact .inr ⟨l, fun y hy => let ⟨n, e⟩ := k y hy; ⟨n, tyN_draw sb d d' e⟩, r⟩
theorem NoSq.draw {H H' : Hp} {p : Addr} {v : V} (sb : Sbut p H H') (d : DrawAt H p) (d' : DrawAt H' p) (h : NoSq H v) : NoSq H' v := ⟨let ⟨n, a⟩ := h.1; ⟨n, tyN_draw sb d d' a⟩, h.2⟩
theorem bad_val {H : Hp} {x v : V} (h : Bad H x v) : v = .non ∨ ∃ i : Int, v = .int i := by
  rcases h with ⟨_, _, _, c⟩ | ⟨_, _, _, _, ⟨_, c⟩ | ⟨_, _, i, _, c⟩⟩
  · exact .inl c
  · exact .inl c
  · exact .inr ⟨_, c⟩
/-- a display's items, each as R says -/
def ItemsTA (G : Hp → Prop) (R : Hp → V → Prop) (σ : L2.St) (n : Nat) (t : TA) : Prop := ∀ H (Q : List V → Hp → Prop), G H → (∀ xs H', Same H H' → (∀ y ∈ xs, R H' y) → xs.length = n → Q xs H') → t σ H Q
def ItemTE (G : Hp → Prop) (R : Hp → V → Prop) (σ : L2.St) (t : TE) : Prop := ∀ H (Q : VK), G H → (∀ y H', Same H H' → R H' y → Q y H') → t σ H Q
section
variable {G : Hp → Prop} {R : Hp → V → Prop} {σ : L2.St}
theorem items_nil : ItemsTA G R σ 0 tNil := fun H Q _ k => k [] H (fun _ _ z => z) (fun _ h => nomatch h) rfl
theorem items_cons {te : TE} {tr : TA} {n : Nat} (sG : ∀ H H', Same H H' → G H → G H') (sR : ∀ H H' y, Same H H' → R H y → R H' y) (h1 : ItemTE G R σ te) (h2 : ItemsTA G R σ n tr) : ItemsTA G R σ (n + 1) (tCons te tr) := fun H Q g k =>
  h1 H _ g fun y H1 s1 r1 => h2 H1 _ (sG _ _ s1 g) fun xs H2 s2 r2 e => k (y :: xs) H2 (s1.trans s2) (fun z hz => by
    rcases List.mem_cons.mp hz with q | hz
    · rw [q]; exact sR _ _ _ s2 r1
    · exact r2 z hz) (by rw [List.length_cons, e])
end
/-- a case of the law's: a value that is no standing, beside the index that is told -/
def OddAt (H : Hp) (y : V) : Prop := ∃ t x v, y = .ref t ∧ H t = some (.tup [x, v]) ∧ Bad H x v
theorem odd_same : ∀ H H' y, Same H H' → OddAt H y → OddAt H' y := fun H H' y e ⟨t, x, v, a, b, c⟩ => ⟨t, x, v, a, e _ _ b, c.same e⟩
theorem odd_draw {H H' : Hp} {p : Addr} {y : V} (sb : Sbut p H H') (d : DrawAt H p) (d' : DrawAt H' p) (h : OddAt H y) : OddAt H' y := let ⟨t, x, v, a, b, c⟩ := h; ⟨t, x, v, a, sb _ _ b (draw_tup d b), c.draw sb d d'⟩
/-- a pair of a value and an index, made -/
theorem odd_mk {H H' : Hp} {Q : VK} {x v : V} (k : ∀ y H1, Same H H1 → OddAt H1 y → Q y H1) (sm : Same H H') (b : Bad H' x v) : ([x, v] : List V).length ≤ sizeLine ∧ ∀ p, H' p = none → Q (.ref p) (upd H' p (.tup [x, v])) :=
  ⟨by show 2 ≤ sizeLine; decide, fun p np => k _ _ (same_upd' sm (sm.free np)) ⟨p, x, v, rfl, upd_same, b.same (same_upd np)⟩⟩
theorem bad_items {H : Hp} {a : Addr} {xs : List V} {i : Nat} (h : H a = some (.tup xs)) (l : xs.length ≤ 12) (k : ∀ y ∈ xs, ∃ n, tyN y H = some n) (b : BadIx xs i) : Bad H (.ref a) (.int i) := .inr ⟨a, xs, rfl, h, .inr ⟨l, k, i, b, rfl⟩⟩
/-! ### the displays, by what they hold -/
abbrev t2 (a b : TE) : TE := tTup (tCons a (tCons b tNil))
def tBads : TA := tCons (tC .non) (tCons (tUn (rU fun i => .int (-i)) (tC (.int 1))) (tCons (tOp (rI0 fun i j => .int (i + j)) (tOp (rI CPow fun i j => .int (i ^ j.toNat)) (tC (.int 10)) (tC (.int 30))) (tC (.int 1))) (tCons (tC (.str "3")) (tCons (tC (.bl true))
  (tCons (tTup (tCons (tC (.int 5)) tNil)) (tCons (tLst (tCons (tC (.int 5)) tNil)) tNil))))))
def tOdds1 : TA := tCons (t2 (tC .non) (tC .non)) (tCons (t2 (tLst tNil) (tC .non)) (tCons (t2 (tLst (tCons (tC (.int 1)) (tCons (tC (.int 2)) tNil))) (tC .non)) (tCons (t2 (tC (.str "12")) (tC .non)) (tCons (t2 (tTupRg (tRg1 (tC (.int 13)))) (tC .non))
  (tCons (t2 (tC (.int 3)) (tC .non)) (tCons (t2 tDNewK (tC .non)) tNil))))))
def tOdds2 : TA := tCons (t2 (t2 (tC (.int 0)) (tVar 1)) (tC (.int 1))) (tCons (t2 (tTup (tCons (tVar 1) tNil)) (tC (.int 0))) (tCons (t2 (t2 (tC (.int 3)) (tC (.int 3))) (tC (.int 1)))
  (tCons (t2 (tTup (tCons (tC (.int 1)) (tCons (tC (.int 5)) (tCons (tC (.int 4)) tNil)))) (tC (.int 2))) (tCons (t2 (tTup (tCons (tC (.int 2)) (tCons (tC (.int 4)) (tCons (tC (.int 6)) (tCons (tVar 1) (tCons (tC .non) tNil)))))) (tC (.int 3))) tNil))))
theorem cons_of {ta : TE} {tr : TA} {σ : L2.St} {H : Hp} {Q : List V → Hp → Prop} (h : ta σ H fun x H1 => tr σ H1 fun xs H2 => Q (x :: xs) H2) : tCons ta tr σ H Q := h
theorem seq_of {t u : TS} {D : Ends} {σ : L2.St} {H : Hp} (h : t { D with nx := u D } σ H) : tSeq t u D σ H := h
theorem asg_of {te : TE} {g : TG} {D : Ends} {σ : L2.St} {H : Hp} (h : te σ H fun x H1 => g x σ H1 D.nx) : tAsg te g D σ H := h
theorem gname_of {i : Nat} {x : V} {σ : L2.St} {H : Hp} {Q : L2.St → Hp → Prop} (h : Q (σ.set i (some x)) H) : gName i x σ H Q := h
theorem op_of {r : R2} {ta tb : TE} {σ : L2.St} {H : Hp} {Q : VK} (h : ta σ H fun x H1 => tb σ H1 fun y H2 => r x y H2 Q) : tOp r ta tb σ H Q := h
theorem lst_of {G : Hp → Prop} {R : Hp → V → Prop} {σ : L2.St} {n : Nat} {t : TA} {H : Hp} {Q : VK} (hI : ItemsTA G R σ n t) (hn : n ≤ sizeLine) (g : G H) (k : ∀ xs H1 p, Same H H1 → (∀ y ∈ xs, R H1 y) → xs.length = n → H1 p = none → Q (.ref p) (upd H1 p (.lst xs))) : tLst t σ H Q :=
  hI H _ g fun xs H1 sm all len => ⟨by rw [len]; exact hn, fun p np => k xs H1 p sm all len np⟩
theorem nosq_same : ∀ (H H' : Hp) (y : V), Same H H' → NoSq H y → NoSq H' y := fun _ _ _ e h => h.same e
theorem items_bads {σ : L2.St} : ItemsTA (fun _ => True) NoSq σ 7 tBads := by
  have tr : ∀ (H H' : Hp), Same H H' → (fun _ : Hp => True) H → (fun _ : Hp => True) H' := fun _ _ _ _ => trivial
  refine items_cons tr nosq_same ?_ (items_cons tr nosq_same ?_ (items_cons tr nosq_same ?_ (items_cons tr nosq_same ?_ (items_cons tr nosq_same ?_ (items_cons tr nosq_same ?_ (items_cons tr nosq_same ?_ items_nil))))))
  · exact fun H Q _ k => k .non H (fun _ _ z => z) ⟨⟨_, rfl⟩, rfl⟩
  · exact fun H Q _ k => ⟨_, rfl, k _ H (fun _ _ z => z) ⟨⟨_, rfl⟩, by decide +kernel⟩⟩
  · exact fun H Q _ k => ⟨_, _, rfl, rfl, ⟨by decide, by decide, by decide⟩, _, _, rfl, rfl, k _ H (fun _ _ z => z) ⟨⟨_, rfl⟩, by decide +kernel⟩⟩
  · exact fun H Q _ k => k _ H (fun _ _ z => z) ⟨⟨_, rfl⟩, rfl⟩
  · exact fun H Q _ k => k _ H (fun _ _ z => z) ⟨⟨_, rfl⟩, rfl⟩
  · exact fun H Q _ k => ⟨by show 1 ≤ sizeLine; decide, fun t nt => k _ _ (same_upd nt) ⟨⟨_, tyN_tup upd_same⟩, rfl⟩⟩
  · exact fun H Q _ k => ⟨by show 1 ≤ sizeLine; decide, fun t nt => k _ _ (same_upd nt) ⟨⟨_, tyN_lst upd_same⟩, rfl⟩⟩
theorem items_odds1 {σ : L2.St} : ItemsTA (fun _ => True) OddAt σ 7 tOdds1 := by
  have tr : ∀ (H H' : Hp), Same H H' → (fun _ : Hp => True) H → (fun _ : Hp => True) H' := fun _ _ _ _ => trivial
  refine items_cons tr odd_same ?_ (items_cons tr odd_same ?_ (items_cons tr odd_same ?_ (items_cons tr odd_same ?_ (items_cons tr odd_same ?_ (items_cons tr odd_same ?_ (items_cons tr odd_same ?_ items_nil))))))
  · exact fun H Q _ k => odd_mk k (fun _ _ z => z) (.inl ⟨"NoneType", rfl, by decide, rfl⟩)
  · exact fun H Q _ k => ⟨by show 0 ≤ sizeLine; exact Nat.zero_le _, fun l nl => odd_mk k (same_upd nl) (.inl ⟨"list", tyN_lst upd_same, by decide, rfl⟩)⟩
  · exact fun H Q _ k => ⟨by show 2 ≤ sizeLine; decide, fun l nl => odd_mk k (same_upd nl) (.inl ⟨"list", tyN_lst upd_same, by decide, rfl⟩)⟩
  · exact fun H Q _ k => odd_mk k (fun _ _ z => z) (.inl ⟨"str", rfl, by decide, rfl⟩)
  · exact fun H Q _ k => ⟨_, rfl, ⟨by decide, by decide, by decide, by decide, by decide⟩, fun l nl => odd_mk k (same_upd nl) (.inr ⟨l, _, rfl, upd_same, .inl ⟨by rw [rgV_length]; decide, rfl⟩⟩)⟩
  · exact fun H Q _ k => odd_mk k (fun _ _ z => z) (.inl ⟨"int", rfl, by decide, rfl⟩)
  · exact fun H Q _ k => fun l nl => odd_mk k (same_upd nl) (.inl ⟨"dict", tyN_dK upd_same, by decide, rfl⟩)
theorem known_ints {H : Hp} : ∀ (l : List Int), ∀ y ∈ l.map V.int, ∃ n, tyN y H = some n := fun l y hy => by
  obtain ⟨i, _, rfl⟩ := List.mem_map.mp hy
  exact ⟨"int", rfl⟩
theorem items_odds2 {σ : L2.St} {bad : V} (hσ : σ[1]? = some (some bad)) : ItemsTA (fun H => NoSq H bad) OddAt σ 5 tOdds2 := by
  have sG : ∀ (H H' : Hp), Same H H' → (fun H => NoSq H bad) H → (fun H => NoSq H bad) H' := fun H H' e h => h.same e
  refine items_cons sG odd_same ?_ (items_cons sG odd_same ?_ (items_cons sG odd_same ?_ (items_cons sG odd_same ?_ (items_cons sG odd_same ?_ items_nil))))
  · intro H Q g k
    refine ⟨_, hσ, by show 2 ≤ sizeLine; decide, fun u nu => odd_mk k (same_upd nu) (bad_items (i := 1) upd_same (by show 2 ≤ 12; decide) (fun y hy => ?_) ⟨by show 1 < 2; decide, fromB_at rfl g.2, fun j hj => ?_⟩)⟩
    · rcases List.mem_cons.mp hy with e | hy
      · rw [e]; exact ⟨"int", rfl⟩
      · rw [List.mem_singleton.mp hy]
        exact (g.same (same_upd nu)).1
    · have e : j = 0 := by omega
      subst e
      rfl
  · intro H Q g k
    refine ⟨_, hσ, by show 1 ≤ sizeLine; decide, fun u nu => odd_mk k (same_upd nu) (bad_items (i := 0) upd_same (by show 1 ≤ 12; decide) (fun y hy => ?_) ⟨by show 0 < 1; decide, fromB_at rfl g.2, fun j hj => absurd hj (Nat.not_lt_zero j)⟩)⟩
    rw [List.mem_singleton.mp hy]
    exact (g.same (same_upd nu)).1
  · exact fun H Q g k => ⟨by show 2 ≤ sizeLine; decide, fun u nu => odd_mk k (same_upd nu) (bad_items (i := 1) upd_same (by show 2 ≤ 12; decide) (known_ints [3, 3]) ⟨by show 1 < 2; decide, by decide +kernel, fun j hj => by
      have e : j = 0 := by omega
      subst e
      decide +kernel⟩)⟩
  · exact fun H Q g k => ⟨by show 3 ≤ sizeLine; decide, fun u nu => odd_mk k (same_upd nu) (bad_items (i := 2) upd_same (by show 3 ≤ 12; decide) (known_ints [1, 5, 4]) ⟨by show 2 < 3; decide, by decide +kernel, fun j hj => by
      have e : j = 0 ∨ j = 1 := by omega
      rcases e with e | e <;> (subst e; decide +kernel)⟩)⟩
  · intro H Q g k
    refine ⟨_, hσ, by show 5 ≤ sizeLine; decide, fun u nu => odd_mk k (same_upd nu) (bad_items (i := 3) upd_same (by show 5 ≤ 12; decide) (fun y hy => ?_) ⟨by show 3 < 5; decide, fromB_at rfl g.2, fun j hj => ?_⟩)⟩
    · have e : y = .int 2 ∨ y = .int 4 ∨ y = .int 6 ∨ y = bad ∨ y = .non := by simpa using hy
      rcases e with e | e | e | e | e
      · rw [e]; exact ⟨"int", rfl⟩
      · rw [e]; exact ⟨"int", rfl⟩
      · rw [e]; exact ⟨"int", rfl⟩
      · rw [e]; exact (g.same (same_upd nu)).1
      · rw [e]; exact ⟨"NoneType", rfl⟩
    · have e : j = 0 ∨ j = 1 ∨ j = 2 := by omega
      rcases e with e | e | e <;> (subst e; rfl)
section
variable {P : Program} {w : World} {K : PySem.W.Frag} {mg : Str → Option Value} {base : Heap} {CB CT CL : Addr}
def spNoSt : Sp := fun vs H Q _ => ∃ (p : Addr), vs = [.ref p] ∧ DrawAt H p ∧ ∀ t x v H', Sbut p H H' → DrawAt H' p → H' t = some (.tup [x, v]) → Bad H' x v → Q (.ref t) H'
theorem scNoSt : FnScope ["_law_d", "_law_bad", "_law_odd"] ["_law_d"] (defScope sNoSt) := ⟨rfl, rfl, rfl, by decide +kernel, rfl, by decide +kernel, by decide +kernel⟩
theorem ok_noSt {f : Addr} {fd : FuncData} (F : Fun K "_law_no_standing" "_law_no_standing" sNoSt f fd) (T : Txt K mg CB CT CL) (GP : Has P w K mg base CX0 2 "_law_pick" ["_law_d", "_law_items"] spPick) : FnOk P w K mg base CX0 3 f fd ["_law_d"] spNoSt := by
  refine F.ok scNoSt (fun vs H Q E h => ?_) (fun cdv A outer st H vs Q E hr h => ?_)
  · obtain ⟨p, rfl, _⟩ := h
    rfl
  · obtain ⟨p, rfl, hD, q⟩ := h
    refine ⟨_, pss_cons (ps_set (i := 1) scNoSt.nd rfl (.inl rfl) (pe_has GP hr pass0 (pa_cons (pv 0) (pa_cons (pe_lst (pa_cons pe_non (pa_cons (pe_un un_neg pe_int) (pa_cons (pe_op op_add (pe_op op_pow pe_int pe_int) pe_int) (pa_cons pe_str (pa_cons pe_bl (pa_cons (pe_tup (pa_cons pe_int pa_nil)) (pa_cons (pe_lst (pa_cons pe_int pa_nil)) pa_nil)))))))) pa_nil))))
      (pss_cons (ps_set (i := 2) scNoSt.nd rfl (.inl rfl) (pe_lst (pa_cons (pe_tup (pa_cons pe_non (pa_cons pe_non pa_nil))) (pa_cons (pe_tup (pa_cons (pe_lst pa_nil) (pa_cons pe_non pa_nil))) (pa_cons (pe_tup (pa_cons (pe_lst (pa_cons pe_int (pa_cons pe_int pa_nil))) (pa_cons pe_non pa_nil)))
        (pa_cons (pe_tup (pa_cons pe_str (pa_cons pe_non pa_nil))) (pa_cons (pe_tup (pa_cons (pe_tupRg rfl (by rfl) T.tuple (prg_1 (by rfl) T.range pe_int)) (pa_cons pe_non pa_nil))) (pa_cons (pe_tup (pa_cons pe_int (pa_cons pe_non pa_nil))) (pa_cons (pe_tup (pa_cons pe_dnewK (pa_cons pe_non pa_nil))) pa_nil)))))))))
      (pss_cons (ps_set (i := 2) scNoSt.nd rfl (.inl rfl) (pe_op op_cat (pv 2) (pe_lst (pa_cons (pe_tup (pa_cons (pe_tup (pa_cons pe_int (pa_cons (pv 1) pa_nil))) (pa_cons pe_int pa_nil))) (pa_cons (pe_tup (pa_cons (pe_tup (pa_cons (pv 1) pa_nil)) (pa_cons pe_int pa_nil)))
        (pa_cons (pe_tup (pa_cons (pe_tup (pa_cons pe_int (pa_cons pe_int pa_nil))) (pa_cons pe_int pa_nil))) (pa_cons (pe_tup (pa_cons (pe_tup (pa_cons pe_int (pa_cons pe_int (pa_cons pe_int pa_nil)))) (pa_cons pe_int pa_nil)))
        (pa_cons (pe_tup (pa_cons (pe_tup (pa_cons pe_int (pa_cons pe_int (pa_cons pe_int (pa_cons (pv 1) (pa_cons pe_non pa_nil)))))) (pa_cons pe_int pa_nil))) pa_nil))))))))
      (pss_one (ps_ret (pe_has GP hr pass0 (pa_cons (pv 0) (pa_cons (pv 2) pa_nil))))))), ?_⟩
    -- the bad things
    refine ⟨_, rfl, cons_of ?_⟩
    refine lst_of (t := tBads) items_bads (by decide) trivial fun xs H1 o sm1 all len no => ?_
    have sm2 := same_upd (o := .lst xs) no
    have hD2 := (hD.same sm1).same sm2
    have no_p : o ≠ p := by
      obtain ⟨_, _, _, h1, _⟩ := hD.same sm1
      exact ne_of_none' no h1
    refine ⟨p, o, xs, rfl, hD2, upd_same, no_p, by omega, by omega, fun bad H2 hbad sb2 hD3 => ?_⟩
    have nbad : NoSq H2 bad := ((all bad hbad).same sm2).draw sb2 hD2 hD3
    have sbA : Sbut p H H2 := (sbut_of (sm1.trans sm2) p).trans sb2
    -- the cases, first part
    refine gname_of ?_
    dsimp only
    refine seq_of (asg_of ?_)
    refine lst_of (t := tOdds1) items_odds1 (by decide) trivial fun ys H3 o3 sm3 odd3 len3 no3 => ?_
    have sm4 := same_upd (o := .lst ys) no3
    have nbad4 := (nbad.same sm3).same sm4
    -- the second part
    refine gname_of ?_
    dsimp only
    refine seq_of (asg_of (op_of ⟨_, rfl, ?_⟩))
    refine lst_of (t := tOdds2) (items_odds2 (bad := bad) rfl) (by decide) nbad4 fun zs H5 o5 sm5 odd5 len5 no5 => ?_
    have sm6 := same_upd (o := .lst zs) no5
    refine ⟨o3, o5, ys, zs, rfl, rfl, sm6 _ _ (sm5 _ _ upd_same), upd_same, by rw [len3, len5]; show 12 ≤ sizeLine; decide, fun o7 no7 => ?_⟩
    have sm7 := same_upd (o := .lst (ys ++ zs)) no7
    have sm37 := ((sm4.trans sm5).trans sm6).trans sm7
    have hD7 := (hD3.same sm3).same sm37
    have no7p : o7 ≠ p := by
      obtain ⟨_, _, _, h1, _⟩ := ((hD3.same sm3).same sm4).same (sm5.trans sm6)
      exact ne_of_none' no7 h1
    refine ⟨_, rfl, _, rfl, p, o7, ys ++ zs, rfl, hD7, upd_same, no7p, by rw [List.length_append, len3, len5]; decide, by rw [List.length_append, len3, len5]; decide, fun y H8 hy sb8 hD8 => ?_⟩
    have oy : OddAt H8 y := by
      rcases List.mem_append.mp hy with z | z
      · exact odd_draw sb8 hD7 hD8 (odd_same _ _ _ sm37 (odd3 y z))
      · exact odd_draw sb8 hD7 hD8 (odd_same _ _ _ (sm6.trans sm7) (odd5 y z))
    obtain ⟨t, x, v, rfl, ht, hb⟩ := oy
    exact q t x v H8 ((sbA.trans (sbut_of (sm3.trans sm37) p)).trans sb8) hD8 ht hb
end
end Sq
/-! SqO: the law's word for what is raised. -/
namespace Sq
open PySem L2 PyProof.Rows
section
variable {X : L2.Cx} {k : Nat} {x : Str} {ps : List Str} {sp : Sp} {e : Expr} {es : List Expr} {t : TA} {p pos : Pos} {CX : CXT} {E : L2.St → XK}
theorem pe_hasS (G : Has X.prog X.w X.K X.mg X.base CX k x ps sp) (hr : Room k X.A) (hx : ∀ σ, PassesAt CX X σ (E σ)) (ha : PA X (e :: es) t) (hg : Gl X x := by rfl) (hdb : (x == ("__debug__" : Str)) = false := by decide)
    (he : starEach (e :: es) X.env = (false, eval e X.env) :: starEach es X.env := by rfl) (hpl : (backTo pos (starEach es X.env)).any (·.1) = false := by rfl) :
    PE X (.Call (.Name x p) (e :: es) [] pos) (tCallS sp E t) := by
  obtain ⟨f, fd, a, b, c, d⟩ := G.ex
  exact pe_callS d hr hg a b c hx ha hdb he hpl
end
/-- the word for what is raised at x -/
def WordAt (H : Hp) (Q : VK) (x : V) : Prop :=
  (∃ v, Bad H x v ∧ ∀ t H', Same H H' → H' t = some (.tup [.str "standing", v]) → Q (.ref t) H') ∨
  (∃ a s, x = .ref a ∧ TupI H a s ∧ FineL s ∧ ((greatB s = true ∧ ∀ H', Same H H' → Q (.str "great") H') ∨ (greatB s = false ∧ ∀ H', Same H H' → Q (.str "") H')))
section
variable {P : Program} {w : World} {K : PySem.W.Frag} {mg : Str → Option Value} {base : Heap} {CB CT CL : Addr}
def spWord : Sp := fun vs H Q _ => ∃ (nm : Str) (x : V), vs = [.str nm, x] ∧ WordAt H Q x
abbrev nWord : List Str := ["_law_name", "_law_value", "_law_found", "e"]
theorem scWord : FnScope nWord ["_law_name", "_law_value"] (defScope sWord) := ⟨rfl, rfl, rfl, by decide +kernel, rfl, by decide +kernel, by decide +kernel⟩
theorem ok_word {f : Addr} {fd : FuncData} (F : Fun K "_law_word_told" "_law_word_told" sWord f fd) (T : Txt K mg CB CT CL)
    (GR : Has P w K mg base (L2.CX P w) 52 "remote" ["standing"] (spRemote CB CT)) (GH : Has P w K mg base (L2.CX P w) 52 "hurried" ["standing"] (spHurried CB CT)) : FnOk P w K mg base CX0 53 f fd ["_law_name", "_law_value"] spWord := by
  refine F.ok scWord (fun vs H Q E h => ?_) (fun cdv A outer st H vs Q E hr h => ?_)
  · obtain ⟨nm, x, rfl, _⟩ := h
    rfl
  · obtain ⟨nm, x, rfl, h⟩ := h
    have hr2 : Room 52 _ := hr.mono (by decide)
    refine ⟨_, pss_cons (ps_set (i := 2) scWord.nd rfl (.inl rfl) pe_str)
      (pss_cons (ps_try_two (i := 3) (c := .ref CB) (c1 := .ref CT)
          (tb := fun W => tIfS (tTest (tOp rEq (tVar 0) (tC (.str "remote")))) (tDrop (tCallS (spRemote CB CT) (WE W) (tCons (tVar 1) tNil))) (tDrop (tCallS (spHurried CB CT) (WE W) (tCons (tVar 1) tNil))))
          (ts := fun a cls d => tAsg (tTup (tCons (tC (.str "standing")) (tCons (tXf a cls d CB "index" (tVar 3)) tNil))) (gName 2))
          (ts1 := fun a cls d => tAsg (tC (.str "great")) (gName 2)) rfl rfl scWord.nd rfl rfl ⟨rfl, by decide, .inl T.gB⟩ ⟨rfl, by decide, .inl T.gT⟩
          (fun W pn xe tk _ => pss_one (ps_if (pt_cmpR op_eq (pv 0) pe_str (nomark _)) (pss_one (ps_expr (pe_hasS GR hr2 (fun σ => passAt tk σ) (pa_cons (pv 1) pa_nil)))) (pss_one (ps_expr (pe_hasS GH hr2 (fun σ => passAt tk σ) (pa_cons (pv 1) pa_nil))))))
          (fun a oe cls d pn hz hf => pss_one (ps_set (i := 2) scWord.nd rfl (.inl rfl) (pe_tup (pa_cons pe_str (pa_cons (pe_xf T.xB T.fB hz hf (pv 3)) pa_nil)))))
          (fun a oe cls d pn hz hf => pss_one (ps_set (i := 2) scWord.nd rfl (.inl rfl) pe_str)))
      (pss_one (ps_ret (pv 2)))), ?_⟩
    refine ⟨_, rfl, rfl, _, rfl, ?_⟩
    rcases h with ⟨v, hb, k⟩ | ⟨a, s, rfl, hT, fine, ⟨g, k⟩ | ⟨g, k⟩⟩
    · refine ite2 (fun _ => ?_) (fun _ => ?_)
      all_goals
        refine ⟨_, rfl, x, rfl, .inl ⟨v, hb, fun d H' nd sm hd => .inl ⟨T.mBB, fun a na => ?_⟩⟩⟩
        refine ⟨_, rfl, rfl, rfl, d, [("index", v)], v, rfl, hd, rfl, by show 2 ≤ sizeLine; decide, fun t nt => ?_⟩
        exact ⟨_, rfl, k t _ (sm.trans (same_upd nt)) upd_same⟩
    · refine ite2 (fun _ => ?_) (fun _ => ?_)
      all_goals
        refine ⟨_, rfl, _, rfl, .inr ⟨a, s, rfl, hT, fine, .inl ⟨g, fun H' sm => .inr ⟨T.mTB, T.mTT, fun b nb => ?_⟩⟩⟩⟩
        exact ⟨_, rfl, k H' sm⟩
    · refine ite2 (fun _ => ?_) (fun _ => ?_)
      · exact ⟨_, rfl, _, rfl, .inr ⟨a, s, rfl, hT, fine, .inr ⟨g, fun H' sm => ⟨_, rfl, k H' sm⟩⟩⟩⟩
      · exact ⟨_, rfl, _, rfl, .inr ⟨a, s, rfl, hT, fine, .inr ⟨g, fun p qs H' sm _ _ => ⟨_, rfl, k H' sm⟩⟩⟩⟩
end
end Sq
/-! SqP: the law. -/
namespace Sq
open PySem L2 PyProof.Rows
theorem DrawAt.sbut {H H' : Hp} {p d : Addr} (n : p ≠ d) (e : Sbut d H H') (h : DrawAt H p) : DrawAt H' p := let ⟨a, b, l, h1, h2⟩ := h; ⟨a, b, l, e _ _ h1 n, h2⟩
theorem Ok.small {s : List Int} (h : Ok s) : greatB s = false := by
  unfold greatB
  rw [Bool.or_eq_false_iff]
  refine ⟨decide_eq_false (by have := h.len; omega), ?_⟩
  cases e : s.getLast? with
  | none => rfl
  | some l => exact decide_eq_false (by have := (h.bd l (List.mem_of_getLast? e)).2; omega)
theorem TabAt.sbut {H H' : Hp} {d du : Addr} {xs : List V} {kvs : List (List Key × V)} (hd : H du = some (.lst xs)) (e : Sbut du H H') (t : TabAt H d kvs) : TabAt H' d kvs :=
  ⟨e _ _ t.dc (ne_of t.dc hd (by intro z; cases z)), t.mm.mono fun _ _ ⟨q, a, b⟩ => ⟨q, a, e _ _ b (ne_of b hd (by intro z; cases z))⟩, t.cl⟩
/-- the data of what is told beside a value that is no standing -/
theorem bad_data {K : PySem.W.Frag} {H : Hp} {x v : V} (h : Bad H x v) : ∃ d, (∀ H', Dp K H' v d) ∧ SeqAt.shaped (.tuple [.str "standing", d]) = true ∧ PyData.eqv (.tuple [.str "standing", d]) (.tuple [.str "standing", d]) = true := by
  have so : PyData.strOk "standing" = true := by decide +kernel
  have se : (("standing" : Str) == "standing") = true := by decide +kernel
  rcases bad_val h with rfl | ⟨i, rfl⟩
  · exact ⟨.none, fun _ => .non, by decide +kernel, by decide +kernel⟩
  · refine ⟨.int i, fun _ => .int i, ?_, ?_⟩
    · simp [SeqAt.shaped, PyData.canLay0, PyData.canLayAll0, PyData.depth, PyData.depthAll, so]
    · simp [PyData.eqv, PyData.eqvAll, se]
theorem pairs_alike {H : Hp} {a b : Addr} {qs rs : List Addr} {ps : List (Int × Int)} (ha : H a = some (.lst (qs.map V.ref))) (hb : H b = some (.lst (rs.map V.ref))) (p1 : PairsAt H qs ps) (p2 : PairsAt H rs ps) (l : ps.length ≤ 100) :
    RSeq (RSeq RInt) H (.ref a) (.ref b) := by
  refine ⟨a, b, _, _, rfl, rfl, .inr ⟨ha, hb⟩, by rw [List.length_map, List.length_map, p1.length, p2.length], by rw [List.length_map, p1.length]; exact l, fun i x y hx hy => ?_⟩
  obtain ⟨q, hq, rfl⟩ := map_at hx
  obtain ⟨r, hr, rfl⟩ := map_at hy
  obtain ⟨z, hz, ez⟩ := p1.get hq
  obtain ⟨z', hz', er⟩ := p2.get hr
  rw [hz] at hz'
  cases hz'
  refine ⟨q, r, _, _, rfl, rfl, .inl ⟨ez, er⟩, rfl, by show 2 ≤ 100; decide, fun i x y hx hy => ?_⟩
  rw [hx] at hy
  cases hy
  have := List.mem_of_getElem? hx
  rcases List.mem_cons.mp this with e | e
  · exact ⟨_, e, e⟩
  · exact ⟨_, List.mem_singleton.mp e, List.mem_singleton.mp e⟩
theorem great_1 : FineL [3, 12] ∧ greatB [3, 12] = true := ⟨⟨by decide, by decide, by decide⟩, by decide⟩
theorem great_2 : FineL [0, 1, 2, 3, 4] ∧ greatB [0, 1, 2, 3, 4] = true := ⟨⟨by decide, by decide, by decide⟩, by decide⟩
theorem small_1 : FineL [8, 9, 10, 11] ∧ greatB [8, 9, 10, 11] = false := ⟨⟨by decide, by decide, by decide⟩, by decide⟩
theorem hur_len {s : List Int} (ok : okB s = true) : (hurF s).length ≤ 100 := by
  rw [← due_eq ok]
  exact Nat.le_trans (List.length_filter_le _ _) (Nat.le_trans (steps_len ok) (by decide))
section
variable {P : Program} {w : World} {K : PySem.W.Frag} {mg : Str → Option Value} {base : Heap} {CB CT CL : Addr}
def spLaw (K : PySem.W.Frag) : Sp := fun vs H Q _ => ∃ (a : Addr) (ns : List Int), vs = [.ref a] ∧ SqL K H a (ns.map V.int) ∧ ns.length ≤ 63 ∧ ∀ H', Q (.bl true) H'
abbrev nLaw : List Str := ["_law_script", "_law_d", "_law_standing_here", "_law_known", "_law_is_lost_so", "_law_lasts_here", "_law_due", "_law_one", "_law_to", "_law_later", "_law_bad", "_law_index", "_law_name"]
theorem scLaw : FnScope nLaw ["_law_script"] (defScope sLaw) := ⟨rfl, rfl, rfl, by decide +kernel, rfl, by decide +kernel, by decide +kernel⟩
/-- what the law calls -/
structure Calls (P : Program) (w : World) (K : PySem.W.Frag) (mg : Str → Option Value) (base : Heap) (CB CT : Addr) : Prop where
  rnd : Has P w K mg base CX0 1 "_law_random" ["_law_script", "_law_salt"] (spRandom K)
  bel : Has P w K mg base CX0 1 "_law_below" ["_law_d", "_law_size"] spBelow
  pick : Has P w K mg base CX0 2 "_law_pick" ["_law_d", "_law_items"] spPick
  stand : Has P w K mg base CX0 2 "_law_standing" ["_law_d", "_law_coins", "_law_most"] spStand
  lmoves : Has P w K mg base CX0 1 "_law_moves" ["_law_standing_here"] spSteps
  behind : Has P w K mg base CX0 1 "_law_behind" ["_law_standing_here", "_law_one", "_law_to"] spMoved
  lasts : Has P w K mg base CX0 47 "_law_lasts" ["_law_standing_here", "_law_known"] (spLasts 45)
  eqi : Has P w K mg base CX0 1 "_law_equal" ["_law_actual", "_law_expected"] (spEqR RInt)
  eqs : Has P w K mg base CX0 3 "_law_equal" ["_law_actual", "_law_expected"] (spEqR (RSeq (RSeq RInt)))
  noSt : Has P w K mg base CX0 3 "_law_no_standing" ["_law_d"] spNoSt
  word : Has P w K mg base CX0 53 "_law_word_told" ["_law_name", "_law_value"] spWord
  rem : Has P w K mg base (L2.CX P w) 52 "remote" ["standing"] (spRemote CB CT)
  hur : Has P w K mg base (L2.CX P w) 52 "hurried" ["standing"] (spHurried CB CT)
theorem ok_law {f : Addr} {fd : FuncData} (F : Fun K "law" "law" sLaw f fd) (T : Txt K mg CB CT CL) (C : Calls P w K mg base CB CT) : FnOk P w K mg base CX0 54 f fd ["_law_script"] (spLaw K) := by
  refine F.ok scLaw (fun vs H Q E h => ?_) (fun cdv A outer st H vs Q E hr h => ?_)
  · obtain ⟨a, ns, rfl, _⟩ := h
    rfl
  · obtain ⟨a, ns, rfl, hS, hl, q⟩ := h
    have hu := hu_of hr
    have hr1 : Room 1 _ := hr.mono (by decide)
    have hr2 : Room 2 _ := hr.mono (by decide)
    have hr3 : Room 3 _ := hr.mono (by decide)
    have hr47 : Room 47 _ := hr.mono (by decide)
    have hr52 : Room 52 _ := hr.mono (by decide)
    have hr53 : Room 53 _ := hr.mono (by decide)
    refine ⟨_, pss_cons (ps_set (i := 1) scLaw.nd rfl (.inl rfl) (pe_has C.rnd hr1 pass0 (pa_cons (pv 0) (pa_cons pe_int pa_nil))))
      (pss_cons (ps_par (i := 2) (j := 3) rfl scLaw.nd rfl rfl (by decide) rfl rfl (pa_cons (pe_has C.stand hr2 pass0 (pa_cons (pv 1) (pa_cons (pe_has C.bel hr1 pass0 (pa_cons (pv 1) (pa_cons pe_int pa_nil)))
          (pa_cons (pe_has C.pick hr2 pass0 (pa_cons (pv 1) (pa_cons (pe_lst (pa_cons pe_int (pa_cons pe_int (pa_cons pe_int (pa_cons pe_int pa_nil))))) pa_nil))) pa_nil)))) (pa_cons pe_dnewT pa_nil)) (by rfl))
      (pss_cons (ps_asg (pe_has C.lasts hr47 pass0 (pa_cons (pv 2) (pa_cons (pv 3) pa_nil))) (pg_tup rfl (pgs_cons (pg_name (i := 4) scLaw.nd rfl (.inl rfl)) (pgs_cons (pg_name (i := 5) scLaw.nd rfl (.inl rfl)) pgs_nil))))
      (pss_cons (ps_if (pt_not (pt_val (pe_has C.eqi hr1 pass0 (pa_cons (pe_has C.rem hr52 passL (pa_cons (pv 2) pa_nil)) (pa_cons (pv 5) pa_nil))))) pss_never pss_nil)
      (pss_cons (ps_set (i := 6) scLaw.nd rfl (.inl rfl) (pe_lst pa_nil))
      (pss_cons (ps_for PassesOwn.never rfl (pi_list (pe_has C.lmoves hr1 pass0 (pa_cons (pv 2) pa_nil))) (pg_tup rfl (pgs_cons (pg_name (i := 7) scLaw.nd rfl (.inl rfl)) (pgs_cons (pg_name (i := 8) scLaw.nd rfl (.inl rfl)) pgs_nil)))
        (pss_cons (ps_set (i := 9) scLaw.nd rfl (.inl rfl) (pe_dget hu (pv 3) (pe_has C.behind hr1 pass0 (pa_cons (pv 2) (pa_cons (pv 7) (pa_cons (pv 8) pa_nil)))) (fun _ _ => rfl)))
        (pss_one (ps_if (PW.pt (pw_and (pt_val (pe_ix ix_tup (pv 9) pe_int (fun _ _ => rfl))) (pw_and (pt_not (pt_val (pv 4))) (pw_and1 (pt_cmpR op_eq (pe_ix ix_tup (pv 9) pe_int (fun _ _ => rfl)) (pe_op op_sub (pv 5) pe_int) (nomark _))))))
          (pss_one (ps_expr (pe_bm PySem.F.plainAttrs_list PySem.F.slot_list_append PySem.F.type_list_append mt_append (pv 6) (pa_cons (pe_tup (pa_cons (pv 7) (pa_cons (pv 8) pa_nil))) pa_nil)))) pss_nil))))
      (pss_cons (ps_if (PW.pt (pw_or (pt_not (pt_val (pe_has C.eqs hr3 pass0 (pa_cons (pe_has C.hur hr52 passL (pa_cons (pv 2) pa_nil)) (pa_cons (pv 6) pa_nil))))) (pw_or1 (pt_cmpR op_ne (pv 4) (pe_cmpR op_eq (pe_op op_mod (pv 5) pe_int) pe_int (nomark _)) (nomark _))))) pss_never pss_nil)
      (pss_cons (ps_asg (pe_has C.noSt hr3 pass0 (pa_cons (pv 1) pa_nil)) (pg_tup rfl (pgs_cons (pg_name (i := 10) scLaw.nd rfl (.inl rfl)) (pgs_cons (pg_name (i := 11) scLaw.nd rfl (.inl rfl)) pgs_nil))))
      (pss_cons (ps_for PassesOwn.never rfl (pi_list (pe_lst (pa_cons pe_str (pa_cons pe_str pa_nil)))) (pg_name (i := 12) scLaw.nd rfl (.inl rfl))
        (pss_cons (ps_if (pt_cmpR (op_neD hr.units) (pe_has C.word hr53 pass0 (pa_cons (pv 12) (pa_cons (pv 10) pa_nil))) (pe_tup (pa_cons pe_str (pa_cons (pv 11) pa_nil))) (nomark _)) pss_never pss_nil)
        (pss_one (ps_if (PW.pt (pw_or (pt_cmpR op_ne (pe_has C.word hr53 pass0 (pa_cons (pv 12) (pa_cons (pe_tup (pa_cons pe_int (pa_cons pe_int pa_nil))) pa_nil))) pe_str (nomark _))
          (pw_or1 (pt_cmpR op_ne (pe_has C.word hr53 pass0 (pa_cons (pv 12) (pa_cons (pe_tup (pa_cons pe_int (pa_cons pe_int (pa_cons pe_int (pa_cons pe_int (pa_cons pe_int pa_nil)))))) pa_nil))) pe_str (nomark _))))) pss_never pss_nil))))
      (pss_one (ps_ret (pe_cmpR op_eq (pe_has C.word hr53 pass0 (pa_cons pe_str (pa_cons (pe_tup (pa_cons pe_int (pa_cons pe_int (pa_cons pe_int (pa_cons pe_int pa_nil))))) pa_nil))) pe_str (nomark _)))))))))))), ?_⟩
    have sq0 : ([.int 6, .int 6, .int 8, .int 11] : List V).length ≤ sizeLine := by show 4 ≤ sizeLine; decide
    -- the drawn standing
    refine ⟨_, rfl, a, ns, 2021, rfl, hS, hl, by decide, by decide, fun p H1 sm1 hD1 => ?_⟩
    refine ⟨_, rfl, _, rfl, p, 5, rfl, hD1, by decide, by decide, fun c H2 c0 c1 sb2 hD2 => ⟨_, rfl, sq0, fun o no => ?_⟩⟩
    have sm2 := same_upd (o := .lst [.int 6, .int 6, .int 8, .int 11]) no
    have no_p : o ≠ p := by
      obtain ⟨_, _, _, h1, _⟩ := id hD2
      exact ne_of_none' no h1
    refine ⟨p, o, _, rfl, hD2.same sm2, upd_same, no_p, by show 0 < 4; decide, by show 4 ≤ 1000; decide, fun m H3 hm sb3 hD3 => ?_⟩
    have hm' : ∃ i : Int, m = .int i ∧ 0 ≤ i ∧ i ≤ 11 := by
      have e : m = .int 6 ∨ m = .int 8 ∨ m = .int 11 := by simpa using hm
      rcases e with e | e | e
      · exact ⟨6, e, by decide, by decide⟩
      · exact ⟨8, e, by decide, by decide⟩
      · exact ⟨11, e, by decide, by decide⟩
    obtain ⟨i, rfl, i0, i1⟩ := hm'
    refine ⟨p, c, i, rfl, hD3, c0, by omega, i0, i1, fun t s H4 sb4 hD4 hT4 ok kd nkd => ⟨_, _, rfl, ?_⟩⟩
    have O := ok_of ok
    have sm5 := same_upd (o := .dT []) nkd
    have hD5 := hD4.same sm5
    have hT5 := hT4.same sm5
    have L5 : TabAt (upd H4 kd (.dT [])) kd [] := ⟨upd_same, Memo.nil, fun s _ k => by unfold Kept at k; rw [valV_nil] at k; cases k⟩
    have p_kd : p ≠ kd := by
      obtain ⟨_, _, _, h1, _⟩ := id hD4
      exact ne_of_none h1 nkd
    generalize upd H4 kd (.dT []) = H5 at L5 hT5 hD5
    -- who wins, how long
    refine ⟨_, rfl, _, rfl, t, kd, [], s, rfl, hT5, ok, mu_lt ok, L5, fun kvs H6 wq L6 sb6 _ kp b6 => ?_⟩
    have hT6 := hT5.sbut L5.dc sb6
    have hD6 := hD5.sbut p_kd sb6
    refine ⟨wq, _, rfl, SqT.of b6, rfl, _, _, rfl, _, _, rfl, rfl, ?_⟩
    dsimp only [las]
    -- remote
    refine ⟨_, rfl, _, rfl, .inr ⟨t, s, rfl, hT6, O.fine, .inr ⟨O.small, fun H7 sm7 => ⟨_, rfl, _, _, rfl, ⟨_, rfl, rfl⟩, fun H8 sm8 => ⟨true, rfl, iteF ?_⟩⟩⟩⟩⟩
    have sm68 := sm7.trans sm8
    have L8 := L6.same sm68
    have hT8 := hT6.same sm68
    have hD8 := hD6.same sm68
    clear sm7 sm8 sm68 b6
    -- due
    refine ⟨by show 0 ≤ sizeLine; exact Nat.zero_le _, fun du ndu => ?_⟩
    have sm9 := same_upd (o := .lst []) ndu
    have L9 := L8.same sm9
    have hT9 := hT8.same sm9
    have hD9 := hD8.same sm9
    have du9 : (upd H8 du (.lst [])) du = some (.lst []) := upd_same
    have p_du : p ≠ du := by
      obtain ⟨_, _, _, h1, _⟩ := id hD8
      exact ne_of_none h1 ndu
    generalize upd H8 du (.lst []) = H9 at L9 hT9 hD9 du9
    refine ⟨_, rfl, t, s, rfl, hT9, ok, fun r qs H10 sm10 hr10 pr10 => ⟨r, rfl, ⟨_, SqL.of hr10⟩, ?_⟩⟩
    have du10 := sm10 _ _ du9
    have fit := steps_len ok
    refine for_list (K := K) (a := r) (xs := qs.map V.ref) (fun i σ H' => ∃ (ds : List Addr) (u7 u8 u9 : Option V), σ = [some (.ref a), some (.ref p), some (.ref t), some (.ref kd), some (.bl (isZ s)), some (.int (rem s)), some (.ref du), u7, u8, u9, none, none, none] ∧
        TupI H' t s ∧ TabAt H' kd kvs ∧ DrawAt H' p ∧ H' r = some (.lst (qs.map V.ref)) ∧ PairsAt H' qs (stepsF s) ∧ H' du = some (.lst (ds.map V.ref)) ∧
        PairsAt H' ds (((stepsF s).take i).filter fun p => isZ (mv s p) && (!isZ s && rem (mv s p) == rem s - 1)) ∧ ds.length ≤ i)
      ⟨[], none, none, none, rfl, hT9.same sm10, L9.same sm10, hD9.same sm10, hr10, pr10, du10, trivial, Nat.le_refl _⟩ (fun i σ H' _ ⟨_, _, _, _, _, _, _, _, h, _⟩ => SqL.of h) ?_ ?_
    · rintro i y σ H' hi ⟨ds, u7, u8, u9, rfl, hT', L', hD', hr', pr', hdu, pd, hn⟩
      obtain ⟨q0, hq0, rfl⟩ := map_at hi
      have r_du : r ≠ du := fun z => by
        rw [z, du10] at hr10
        have e : ([] : List V) = qs.map V.ref := by injection hr10 with h1; injection h1
        rw [← e] at hi
        cases hi
      obtain ⟨pp, hpp, hpt⟩ := pr'.get hq0
      have hil : i < (stepsF s).length := (List.getElem?_eq_some_iff.mp hpp).1
      obtain ⟨v, hv⟩ := Option.isSome_iff_exists.mp (L'.cl s ok kp pp (List.mem_of_getElem? hpp))
      obtain ⟨w0, e, b⟩ := L'.mm.get hv
      subst e
      have more := filter_more (fun p => isZ (mv s p) && (!isZ s && rem (mv s p) == rem s - 1)) hpp
      refine ⟨q0, _, rfl, SqT.of hpt, rfl, _, _, rfl, _, _, rfl, rfl, ?_⟩
      refine ⟨_, rfl, _, rfl, _, rfl, _, rfl, t, s, pp.1, pp.2, rfl, hT', Nat.le_trans O.len (by decide), fun k H11 sm11 hk => ?_⟩
      have hk' : H11 k = some (.tup ((keyI (mv s pp)).map kV)) := by rw [keyI_kV]; exact hk
      refine ⟨kd, .ref w0, rfl, by rw [← hv]; exact DGet.t (L'.same sm11).dc hk', ?_⟩
      have b11 := sm11 _ _ b
      refine ⟨_, rfl, w0, _, 0, .bl (isZ (mv s pp)), rfl, rfl, SqT.of b11, rfl, _, rfl, ?_⟩
      have same_ : ∀ (u7 u8 u9 : Option V), (isZ (mv s pp) && (!isZ s && rem (mv s pp) == rem s - 1)) = false → (∃ (ds : List Addr) (v7 v8 v9 : Option V), [some (V.ref a), some (.ref p), some (.ref t), some (.ref kd), some (.bl (isZ s)), some (.int (rem s)), some (.ref du), u7, u8, u9, none, none, none] = [some (.ref a), some (.ref p), some (.ref t), some (.ref kd), some (.bl (isZ s)), some (.int (rem s)), some (.ref du), v7, v8, v9, none, none, none] ∧
        TupI H11 t s ∧ TabAt H11 kd kvs ∧ DrawAt H11 p ∧ H11 r = some (.lst (qs.map V.ref)) ∧ PairsAt H11 qs (stepsF s) ∧ H11 du = some (.lst (ds.map V.ref)) ∧
        PairsAt H11 ds (((stepsF s).take (i + 1)).filter fun p => isZ (mv s p) && (!isZ s && rem (mv s p) == rem s - 1)) ∧ ds.length ≤ i + 1) := fun u7 u8 u9 z => by
        refine ⟨ds, u7, u8, u9, rfl, hT'.same sm11, L'.same sm11, hD'.same sm11, sm11 _ _ hr', pr'.same sm11, sm11 _ _ hdu, ?_, by omega⟩
        rw [z] at more
        rw [more]
        simpa using pd.same sm11
      refine ite2 (fun e1 => ?_) (fun e1 => iteF (same_ _ _ _ (by rw [Bool.eq_false_iff.mpr e1, Bool.false_and])))
      refine ⟨_, rfl, _, rfl, ?_⟩
      refine ite2 (fun e2 => ?_) (fun e2 => iteF (same_ _ _ _ (by rw [Bool.eq_false_iff.mpr e2, Bool.false_and, Bool.and_false])))
      refine ⟨_, rfl, w0, _, 1, .int (rem (mv s pp)), rfl, rfl, SqT.of b11, rfl, _, rfl, _, _, rfl, rfl, rfl, _, rfl, ?_⟩
      rw [dec_int]
      refine ite2 (fun e3 => ?_) (fun e3 => same_ _ _ _ (by rw [Bool.eq_false_iff.mpr e3, Bool.and_false, Bool.and_false]))
      refine ⟨_, rfl, .inl ⟨rfl, _, .inl (.inl (sm11 _ _ hdu))⟩, _, rfl, _, rfl, by show 2 ≤ sizeLine; decide, fun tq ntq => ?_⟩
      have sm12 := sm11.trans (same_upd (o := .tup [.int pp.1, .int pp.2]) ntq)
      have du12 := sm12 _ _ hdu
      refine ⟨du, _, _, rfl, rfl, du12, small100 (by rw [List.length_map]; omega), ?_⟩
      have L12 := L'.same sm12
      have hD12 := hD'.same sm12
      refine ⟨ds ++ [tq], _, _, _, rfl, ?_, L12.wr du12, ?_, ?_, (pr'.same sm12).wr du12, by rw [upd_same, List.map_append]; rfl, ?_, ?_⟩
      · unfold TupI
        rw [upd_ne (ne_of (hT'.same sm12) du12 (by intro z; cases z))]
        exact hT'.same sm12
      · obtain ⟨x0, x1, l, h1, h2⟩ := hD12
        exact ⟨x0, x1, l, by rw [upd_ne p_du]; exact h1, h2⟩
      · rw [upd_ne r_du]
        exact sm12 _ _ hr'
      · have z : (isZ (mv s pp) && (!isZ s && rem (mv s pp) == rem s - 1)) = true := by rw [e1, e2, e3]; rfl
        rw [z] at more
        rw [more]
        simpa using (PairsAt.snoc (p := pp) (q := tq) upd_same (pd.same sm12)).wr du12
      · rw [List.length_append]
        simp only [List.length_cons, List.length_nil]
        omega
    · rintro σ H12 ⟨ds, u7, u8, u9, rfl, hT12, L12, hD12, hr12, pr12, hdu12, pd, hn⟩
      rw [List.length_map, pr10.length, List.take_length] at pd
      have pd' : PairsAt H12 ds (hurF s) := by rw [← due_eq ok]; exact pd
      clear pd
      -- hurried
      refine ⟨_, rfl, _, rfl, .inr ⟨t, s, rfl, hT12, O.fine, .inr ⟨O.small, fun hp hqs H13 sm13 hl13 hp13 => ⟨_, rfl, _, _, rfl, pairs_alike hl13 (sm13 _ _ hdu12) hp13 (pd'.same sm13) (hur_len ok), fun H14 sm14 => ⟨true, rfl, iteF ?_⟩⟩⟩⟩⟩
      have sm24 := sm13.trans sm14
      have hD14 := hD12.same sm24
      refine ⟨_, rfl, _, rfl, _, _, rfl, rfl, (by show (0 : Int) < 2; decide), rfl, rfl, _, rfl, iteNS ?_ ?_⟩
      · rw [dec_int, parity_eq ok]
        rfl
      -- what is no standing
      refine ⟨_, rfl, p, rfl, hD14, fun tb x v H15 sb15 hD15 htb hbad => ?_⟩
      refine ⟨tb, _, rfl, SqT.of htb, rfl, _, _, rfl, _, _, rfl, rfl, ?_⟩
      refine ⟨by show 2 ≤ sizeLine; decide, fun nl nnl => ⟨nl, rfl, ⟨_, SqL.of upd_same⟩, ?_⟩⟩
      have sm16 := same_upd (o := .lst [.str "remote", .str "hurried"]) nnl
      have nl16 : (upd H15 nl (.lst [.str "remote", .str "hurried"])) nl = some (.lst [.str "remote", .str "hurried"]) := upd_same
      have bad16 := hbad.same sm16
      generalize upd H15 nl (.lst [.str "remote", .str "hurried"]) = H16 at nl16 bad16
      obtain ⟨dv, dpv, shv, eqv⟩ := bad_data bad16
      refine for_list (K := K) (a := nl) (xs := [.str "remote", .str "hurried"]) (fun i σ H' => ∃ (u12 : Option V), σ = [some (.ref a), some (.ref p), some (.ref t), some (.ref kd), some (.bl (isZ s)), some (.int (rem s)), some (.ref du), u7, u8, u9, some x, some v, u12] ∧ Same H16 H')
        ⟨none, rfl, fun _ _ z => z⟩ (fun i σ H' _ ⟨_, _, sm⟩ => SqL.of (sm _ _ nl16)) ?_ ?_
      · rintro i y σ H' hi ⟨u12, rfl, sm⟩
        have hy : ∃ nm : Str, y = .str nm := by
          rcases List.mem_cons.mp (List.mem_of_getElem? hi) with e | e
          · exact ⟨_, e⟩
          · exact ⟨_, List.mem_singleton.mp e⟩
        obtain ⟨nm, rfl⟩ := hy
        refine ⟨_, rfl, _, rfl, nm, x, rfl, .inl ⟨v, bad16.same sm, fun tw H17 sm17 htw => ?_⟩⟩
        refine ⟨_, rfl, by show 2 ≤ sizeLine; decide, fun tx ntx => ?_⟩
        have sm18 := same_upd (o := .tup [.str "standing", v]) ntx
        refine ⟨_, _, .tup (SqT.of (sm18 _ _ htw)) (.cons (.str _) (.cons (dpv _) .nil)), .tup (SqT.of upd_same) (.cons (.str _) (.cons (dpv _) .nil)), shv, shv, _, rfl, ?_⟩
        rw [eqv]
        refine iteF ?_
        have sm19 := (sm.trans sm17).trans sm18
        generalize upd H17 tx (.tup [.str "standing", v]) = H19 at sm19
        refine ⟨_, rfl, by show 2 ≤ sizeLine; decide, fun t1 nt1 => ⟨nm, .ref t1, rfl, .inr ⟨t1, [3, 12], rfl, upd_same, great_1.1, .inl ⟨great_1.2, fun H20 sm20 => ⟨rfl, _, rfl, ?_⟩⟩⟩⟩⟩
        rw [decide_eq_true rfl]
        refine iteF ⟨_, rfl, by show 5 ≤ sizeLine; decide, fun t2 nt2 => ⟨nm, .ref t2, rfl, .inr ⟨t2, [0, 1, 2, 3, 4], rfl, upd_same, great_2.1, .inl ⟨great_2.2, fun H21 sm21 => ⟨rfl, _, rfl, ?_⟩⟩⟩⟩⟩
        rw [decide_eq_true rfl]
        refine iteF ⟨_, rfl, ?_⟩
        exact ((sm19.trans (same_upd nt1)).trans sm20).trans ((same_upd nt2).trans sm21)
      · rintro σ H17 ⟨u12, rfl, sm⟩
        refine ⟨by show 4 ≤ sizeLine; decide, fun t1 nt1 => ⟨"remote", .ref t1, rfl, .inr ⟨t1, [8, 9, 10, 11], rfl, upd_same, small_1.1, .inr ⟨small_1.2, fun H18 sm18 => ⟨rfl, ?_⟩⟩⟩⟩⟩
        rw [decide_eq_true rfl]
        exact q H18
end
end Sq
/-! SqZ: what the top has written, put together; the law's own head. -/
namespace Sq
open PySem L2 PyProof.Rows
theorem exm_by {K : PySem.W.Frag} {S C : Addr} {b : Bool} (h1 : PySem.W.subIn K (.ref C) (.type "BaseException") = some true) (h2 : PySem.W.isClsIn K C = true) (h3 : PySem.W.typeIn K (.ref C) = some (.type "type")) (h4 : PySem.W.subIn K (.ref S) (.ref C) = some b) :
    PySem.W.exmOne K (.ref S) (.ref C) = some b := by
  have e1 : (PySem.W.subIn K (.ref C) (.type "BaseException") == some true) = true := by rw [h1] <;> rfl
  have e2 : ((PySem.W.clsIn K C).isSome && PySem.W.typeIn K (.ref C) == some (.type "type")) = true := by
    have z : (PySem.W.clsIn K C).isSome = true := h2
    rw [z, h3] <;> rfl
  unfold PySem.W.exmOne PySem.W.kitCls
  rw [if_pos e1]
  dsimp only
  rw [if_pos e2]
  exact h4
/-- the value that the view leaves open, as the world tells it -/
theorem most_of {p : Program} {mg : Str → Option Value} {h : Heap} {n : Int} (e : n = 10 ^ 30) (x : PySem.W.XL p [("MOST_SQUARE", PySem.W.WData.int n)] mg h) : ∃ t, mg "MOST_SQUARE" = some (.int (10 ^ 30) t) := by
  obtain ⟨v, a, r⟩ := x.2.val _ (List.mem_singleton.mpr rfl)
  cases r with
  | int i t => exact ⟨t, by rw [a, e]⟩
theorem all_mk {P : Program} {w : World} {K : PySem.W.Frag} {h : Heap} {mg : Str → Option Value} {fa CB CT CL : Addr} (X : K.In h) (G : h.Ns mainGlobals mg) (hfa : mg "law" = some (.ref fa)) (sqr : ∃ t, mg "MOST_SQUARE" = some (.int (10 ^ 30) t))
    {nm q : Str} {NB CE : Addr} {bs : List Value} {sn : List Str} {sub : List Value} {ab : Bool} {col : Option Bool} {dd : Option Addr} {m0 m1 m2 m3 m5 : Option Value}
    {f_isInt f_isFrom f_check f_without f_moved f_low f_nearest f_mated f_by f_steps f_searched f_remote f_hurried f_random f_below f_pick f_equal f_noSt f_stand f_lmoves f_behind f_word f_lasts f_law f_bini f_lini f_lmov : Addr} {od_isInt an_isInt od_isFrom an_isFrom od_check an_check od_without an_without od_moved an_moved od_low an_low od_nearest an_nearest od_mated an_mated od_by an_by od_steps an_steps od_searched an_searched od_remote an_remote od_hurried an_hurried od_random an_random od_below an_below od_pick an_pick od_equal an_equal od_noSt an_noSt od_stand an_stand od_lmoves an_lmoves od_behind an_behind od_word an_word od_lasts an_lasts od_law an_law od_bini an_bini od_lini an_lini od_lmov an_lmov : Option Addr}
    {sl_isInt sl_isFrom sl_check sl_without sl_moved sl_low sl_nearest sl_mated sl_by sl_steps sl_searched sl_remote sl_hurried sl_random sl_below sl_pick sl_equal sl_noSt sl_stand sl_lmoves sl_behind sl_word sl_lasts sl_law sl_bini sl_lini sl_lmov : Array (Option Value)}
    {oc_isInt kV_isInt dc_isInt pm_isInt cd_isInt ct_isInt oc_isFrom kV_isFrom dc_isFrom pm_isFrom cd_isFrom ct_isFrom oc_check kV_check dc_check pm_check cd_check ct_check oc_without kV_without dc_without pm_without cd_without ct_without oc_moved kV_moved dc_moved pm_moved cd_moved ct_moved oc_low kV_low dc_low pm_low cd_low ct_low oc_nearest kV_nearest dc_nearest pm_nearest cd_nearest ct_nearest oc_mated kV_mated dc_mated pm_mated cd_mated ct_mated oc_by kV_by dc_by pm_by cd_by ct_by oc_steps kV_steps dc_steps pm_steps cd_steps ct_steps oc_searched kV_searched dc_searched pm_searched cd_searched ct_searched oc_remote kV_remote dc_remote pm_remote cd_remote ct_remote oc_hurried kV_hurried dc_hurried pm_hurried cd_hurried ct_hurried oc_random kV_random dc_random pm_random cd_random ct_random oc_below kV_below dc_below pm_below cd_below ct_below oc_pick kV_pick dc_pick pm_pick cd_pick ct_pick oc_equal kV_equal dc_equal pm_equal cd_equal ct_equal oc_noSt kV_noSt dc_noSt pm_noSt cd_noSt ct_noSt oc_stand kV_stand dc_stand pm_stand cd_stand ct_stand oc_lmoves kV_lmoves dc_lmoves pm_lmoves cd_lmoves ct_lmoves oc_behind kV_behind dc_behind pm_behind cd_behind ct_behind oc_word kV_word dc_word pm_word cd_word ct_word oc_lasts kV_lasts dc_lasts pm_lasts cd_lasts ct_lasts oc_law kV_law dc_law pm_law cd_law ct_law oc_bini kV_bini dc_bini pm_bini cd_bini ct_bini oc_lini kV_lini dc_lini pm_lini cd_lini ct_lini oc_lmov kV_lmov dc_lmov pm_lmov cd_lmov ct_lmov : Value}
    {t_MOST_COINS t_MOST_FEW t_MOST_SEARCHED : Tok}
    (aB : PySem.W.nsIn K mainGlobals "BadStanding" = some (some (.ref CB)))
    (aT : PySem.W.nsIn K mainGlobals "TooGreat" = some (some (.ref CT)))
    (aL : PySem.W.nsIn K mainGlobals "Lasting" = some (some (.ref CL)))
    (xB : K.lookup CB = some (excClassObj nm q CB NB bs (.ref CE :: [.type "ValueError", .type "Exception", .type "BaseException", .type "object"]) true sn sub ab col dd m0 m1 m2 m3 m5 "ValueError.__new__"))
    (saB : PySem.W.findIn K (.ref CB) "__setattr__" = some (some (.builtin "object.__setattr__")))
    (gaB : PySem.W.findIn K (.ref CB) "__getattribute__" = some (some (.builtin "BaseException.__getattribute__")))
    (ggB : PySem.W.findIn K (.ref CB) "__getattr__" = some none)
    (nB : PySem.W.findIn K (.ref CB) "index" = some none)
    (kB : PySem.W.keepIn K (.ref CB) = true)
    (eB : PySem.W.subIn K (.ref CB) (.type "BaseException") = some true)
    (tB : PySem.W.typeIn K (.ref CB) = some (.type "type"))
    (hB : PySem.W.hasDictIn K CB = true)
    (iB : PySem.W.isClsIn K CB = true)
    (sBB : PySem.W.subIn K (.ref CB) (.ref CB) = some true)
    (kT : PySem.W.keepIn K (.ref CT) = true)
    (xT : PySem.W.excIn K CT [.type "ValueError", .type "Exception", .type "BaseException", .type "object"] "ValueError.__new__" = true)
    (eT : PySem.W.subIn K (.ref CT) (.type "BaseException") = some true)
    (tT : PySem.W.typeIn K (.ref CT) = some (.type "type"))
    (iT : PySem.W.isClsIn K CT = true)
    (sTT : PySem.W.subIn K (.ref CT) (.ref CT) = some true)
    (sTB : PySem.W.subIn K (.ref CT) (.ref CB) = some false)
    (pgL : PySem.W.plainGet K CL Str.empty = true)
    (hdL : PySem.W.hasDictIn K CL = true)
    (poL : PySem.W.plainOver K CL = true)
    (saL : PySem.W.findIn K (.ref CL) "__setattr__" = some (some (.builtin "object.__setattr__")))
    (mkL : PySem.W.makesIn K CL = true)
    (kL : PySem.W.keepIn K (.ref CL) = true)
    (nL : PySem.W.findIn K (.ref CL) "known" = some none)
    (a_isInt : PySem.W.nsIn K mainGlobals "is_integer" = some (some (.ref f_isInt)))
    (a_isFrom : PySem.W.nsIn K mainGlobals "is_from" = some (some (.ref f_isFrom)))
    (a_check : PySem.W.nsIn K mainGlobals "check_standing" = some (some (.ref f_check)))
    (a_without : PySem.W.nsIn K mainGlobals "without" = some (some (.ref f_without)))
    (a_moved : PySem.W.nsIn K mainGlobals "moved" = some (some (.ref f_moved)))
    (a_low : PySem.W.nsIn K mainGlobals "low_bit" = some (some (.ref f_low)))
    (a_nearest : PySem.W.nsIn K mainGlobals "nearest" = some (some (.ref f_nearest)))
    (a_mated : PySem.W.nsIn K mainGlobals "mated" = some (some (.ref f_mated)))
    (a_by : PySem.W.nsIn K mainGlobals "by_mates" = some (some (.ref f_by)))
    (a_steps : PySem.W.nsIn K mainGlobals "steps_from" = some (some (.ref f_steps)))
    (a_searched : PySem.W.nsIn K mainGlobals "check_searched" = some (some (.ref f_searched)))
    (a_remote : PySem.W.nsIn K mainGlobals "remote" = some (some (.ref f_remote)))
    (a_hurried : PySem.W.nsIn K mainGlobals "hurried" = some (some (.ref f_hurried)))
    (a_random : PySem.W.nsIn K mainGlobals "_law_random" = some (some (.ref f_random)))
    (a_below : PySem.W.nsIn K mainGlobals "_law_below" = some (some (.ref f_below)))
    (a_pick : PySem.W.nsIn K mainGlobals "_law_pick" = some (some (.ref f_pick)))
    (a_equal : PySem.W.nsIn K mainGlobals "_law_equal" = some (some (.ref f_equal)))
    (a_noSt : PySem.W.nsIn K mainGlobals "_law_no_standing" = some (some (.ref f_noSt)))
    (a_stand : PySem.W.nsIn K mainGlobals "_law_standing" = some (some (.ref f_stand)))
    (a_lmoves : PySem.W.nsIn K mainGlobals "_law_moves" = some (some (.ref f_lmoves)))
    (a_behind : PySem.W.nsIn K mainGlobals "_law_behind" = some (some (.ref f_behind)))
    (a_word : PySem.W.nsIn K mainGlobals "_law_word_told" = some (some (.ref f_word)))
    (a_lasts : PySem.W.nsIn K mainGlobals "_law_lasts" = some (some (.ref f_lasts)))
    (a_law : PySem.W.nsIn K mainGlobals "law" = some (some (.ref f_law)))
    (a_bini : PySem.W.findIn K (.ref CB) "__init__" = some (some (.ref f_bini)))
    (i_bini : PySem.W.isFn K (.ref f_bini) = true)
    (ty_bini : PySem.W.typeIn K (.ref f_bini) = some (.type "function"))
    (a_lini : PySem.W.findIn K (.ref CL) "__init__" = some (some (.ref f_lini)))
    (i_lini : PySem.W.isFn K (.ref f_lini) = true)
    (a_lmov : PySem.W.findIn K (.ref CL) "moves" = some (some (.ref f_lmov)))
    (i_lmov : PySem.W.isFn K (.ref f_lmov) = true)
    (l_isInt : K.lookup f_isInt = some ⟨oc_isInt, od_isInt, .func (PySem.W.fnOf "is_integer" "is_integer" (defArgs sIsInt) (defBody sIsInt) (defScope sIsInt) .none kV_isInt dc_isInt pm_isInt an_isInt cd_isInt ct_isInt), sl_isInt⟩)
    (c_isInt : PySem.W.codeIn K cd_isInt "is_integer" = true)
    (k_isInt : PySem.W.keepIn K (.ref f_isInt) = true)
    (l_isFrom : K.lookup f_isFrom = some ⟨oc_isFrom, od_isFrom, .func (PySem.W.fnOf "is_from" "is_from" (defArgs sIsFrom) (defBody sIsFrom) (defScope sIsFrom) .none kV_isFrom dc_isFrom pm_isFrom an_isFrom cd_isFrom ct_isFrom), sl_isFrom⟩)
    (c_isFrom : PySem.W.codeIn K cd_isFrom "is_from" = true)
    (k_isFrom : PySem.W.keepIn K (.ref f_isFrom) = true)
    (l_check : K.lookup f_check = some ⟨oc_check, od_check, .func (PySem.W.fnOf "check_standing" "check_standing" (defArgs sCheck) (defBody sCheck) (defScope sCheck) .none kV_check dc_check pm_check an_check cd_check ct_check), sl_check⟩)
    (c_check : PySem.W.codeIn K cd_check "check_standing" = true)
    (k_check : PySem.W.keepIn K (.ref f_check) = true)
    (l_without : K.lookup f_without = some ⟨oc_without, od_without, .func (PySem.W.fnOf "without" "without" (defArgs sWithout) (defBody sWithout) (defScope sWithout) .none kV_without dc_without pm_without an_without cd_without ct_without), sl_without⟩)
    (c_without : PySem.W.codeIn K cd_without "without" = true)
    (k_without : PySem.W.keepIn K (.ref f_without) = true)
    (l_moved : K.lookup f_moved = some ⟨oc_moved, od_moved, .func (PySem.W.fnOf "moved" "moved" (defArgs sMoved) (defBody sMoved) (defScope sMoved) .none kV_moved dc_moved pm_moved an_moved cd_moved ct_moved), sl_moved⟩)
    (c_moved : PySem.W.codeIn K cd_moved "moved" = true)
    (k_moved : PySem.W.keepIn K (.ref f_moved) = true)
    (l_low : K.lookup f_low = some ⟨oc_low, od_low, .func (PySem.W.fnOf "low_bit" "low_bit" (defArgs sLow) (defBody sLow) (defScope sLow) .none kV_low dc_low pm_low an_low cd_low ct_low), sl_low⟩)
    (c_low : PySem.W.codeIn K cd_low "low_bit" = true)
    (k_low : PySem.W.keepIn K (.ref f_low) = true)
    (l_nearest : K.lookup f_nearest = some ⟨oc_nearest, od_nearest, .func (PySem.W.fnOf "nearest" "nearest" (defArgs sNearest) (defBody sNearest) (defScope sNearest) .none kV_nearest dc_nearest pm_nearest an_nearest cd_nearest ct_nearest), sl_nearest⟩)
    (c_nearest : PySem.W.codeIn K cd_nearest "nearest" = true)
    (k_nearest : PySem.W.keepIn K (.ref f_nearest) = true)
    (l_mated : K.lookup f_mated = some ⟨oc_mated, od_mated, .func (PySem.W.fnOf "mated" "mated" (defArgs sMated) (defBody sMated) (defScope sMated) .none kV_mated dc_mated pm_mated an_mated cd_mated ct_mated), sl_mated⟩)
    (c_mated : PySem.W.codeIn K cd_mated "mated" = true)
    (k_mated : PySem.W.keepIn K (.ref f_mated) = true)
    (l_by : K.lookup f_by = some ⟨oc_by, od_by, .func (PySem.W.fnOf "by_mates" "by_mates" (defArgs sByMates) (defBody sByMates) (defScope sByMates) .none kV_by dc_by pm_by an_by cd_by ct_by), sl_by⟩)
    (c_by : PySem.W.codeIn K cd_by "by_mates" = true)
    (k_by : PySem.W.keepIn K (.ref f_by) = true)
    (l_steps : K.lookup f_steps = some ⟨oc_steps, od_steps, .func (PySem.W.fnOf "steps_from" "steps_from" (defArgs sSteps) (defBody sSteps) (defScope sSteps) .none kV_steps dc_steps pm_steps an_steps cd_steps ct_steps), sl_steps⟩)
    (c_steps : PySem.W.codeIn K cd_steps "steps_from" = true)
    (k_steps : PySem.W.keepIn K (.ref f_steps) = true)
    (l_searched : K.lookup f_searched = some ⟨oc_searched, od_searched, .func (PySem.W.fnOf "check_searched" "check_searched" (defArgs sSearched) (defBody sSearched) (defScope sSearched) .none kV_searched dc_searched pm_searched an_searched cd_searched ct_searched), sl_searched⟩)
    (c_searched : PySem.W.codeIn K cd_searched "check_searched" = true)
    (k_searched : PySem.W.keepIn K (.ref f_searched) = true)
    (l_remote : K.lookup f_remote = some ⟨oc_remote, od_remote, .func (PySem.W.fnOf "remote" "remote" (defArgs sRemote) (defBody sRemote) (defScope sRemote) .none kV_remote dc_remote pm_remote an_remote cd_remote ct_remote), sl_remote⟩)
    (c_remote : PySem.W.codeIn K cd_remote "remote" = true)
    (k_remote : PySem.W.keepIn K (.ref f_remote) = true)
    (l_hurried : K.lookup f_hurried = some ⟨oc_hurried, od_hurried, .func (PySem.W.fnOf "hurried" "hurried" (defArgs sHurried) (defBody sHurried) (defScope sHurried) .none kV_hurried dc_hurried pm_hurried an_hurried cd_hurried ct_hurried), sl_hurried⟩)
    (c_hurried : PySem.W.codeIn K cd_hurried "hurried" = true)
    (k_hurried : PySem.W.keepIn K (.ref f_hurried) = true)
    (l_random : K.lookup f_random = some ⟨oc_random, od_random, .func (PySem.W.fnOf "_law_random" "_law_random" (defArgs sRandom) (defBody sRandom) (defScope sRandom) .none kV_random dc_random pm_random an_random cd_random ct_random), sl_random⟩)
    (c_random : PySem.W.codeIn K cd_random "_law_random" = true)
    (k_random : PySem.W.keepIn K (.ref f_random) = true)
    (l_below : K.lookup f_below = some ⟨oc_below, od_below, .func (PySem.W.fnOf "_law_below" "_law_below" (defArgs sBelow) (defBody sBelow) (defScope sBelow) .none kV_below dc_below pm_below an_below cd_below ct_below), sl_below⟩)
    (c_below : PySem.W.codeIn K cd_below "_law_below" = true)
    (k_below : PySem.W.keepIn K (.ref f_below) = true)
    (l_pick : K.lookup f_pick = some ⟨oc_pick, od_pick, .func (PySem.W.fnOf "_law_pick" "_law_pick" (defArgs sPick) (defBody sPick) (defScope sPick) .none kV_pick dc_pick pm_pick an_pick cd_pick ct_pick), sl_pick⟩)
    (c_pick : PySem.W.codeIn K cd_pick "_law_pick" = true)
    (k_pick : PySem.W.keepIn K (.ref f_pick) = true)
    (l_equal : K.lookup f_equal = some ⟨oc_equal, od_equal, .func (PySem.W.fnOf "_law_equal" "_law_equal" (defArgs sEqual) (defBody sEqual) (defScope sEqual) .none kV_equal dc_equal pm_equal an_equal cd_equal ct_equal), sl_equal⟩)
    (c_equal : PySem.W.codeIn K cd_equal "_law_equal" = true)
    (k_equal : PySem.W.keepIn K (.ref f_equal) = true)
    (l_noSt : K.lookup f_noSt = some ⟨oc_noSt, od_noSt, .func (PySem.W.fnOf "_law_no_standing" "_law_no_standing" (defArgs sNoSt) (defBody sNoSt) (defScope sNoSt) .none kV_noSt dc_noSt pm_noSt an_noSt cd_noSt ct_noSt), sl_noSt⟩)
    (c_noSt : PySem.W.codeIn K cd_noSt "_law_no_standing" = true)
    (k_noSt : PySem.W.keepIn K (.ref f_noSt) = true)
    (l_stand : K.lookup f_stand = some ⟨oc_stand, od_stand, .func (PySem.W.fnOf "_law_standing" "_law_standing" (defArgs sStand) (defBody sStand) (defScope sStand) .none kV_stand dc_stand pm_stand an_stand cd_stand ct_stand), sl_stand⟩)
    (c_stand : PySem.W.codeIn K cd_stand "_law_standing" = true)
    (k_stand : PySem.W.keepIn K (.ref f_stand) = true)
    (l_lmoves : K.lookup f_lmoves = some ⟨oc_lmoves, od_lmoves, .func (PySem.W.fnOf "_law_moves" "_law_moves" (defArgs sLMoves) (defBody sLMoves) (defScope sLMoves) .none kV_lmoves dc_lmoves pm_lmoves an_lmoves cd_lmoves ct_lmoves), sl_lmoves⟩)
    (c_lmoves : PySem.W.codeIn K cd_lmoves "_law_moves" = true)
    (k_lmoves : PySem.W.keepIn K (.ref f_lmoves) = true)
    (l_behind : K.lookup f_behind = some ⟨oc_behind, od_behind, .func (PySem.W.fnOf "_law_behind" "_law_behind" (defArgs sBehind) (defBody sBehind) (defScope sBehind) .none kV_behind dc_behind pm_behind an_behind cd_behind ct_behind), sl_behind⟩)
    (c_behind : PySem.W.codeIn K cd_behind "_law_behind" = true)
    (k_behind : PySem.W.keepIn K (.ref f_behind) = true)
    (l_word : K.lookup f_word = some ⟨oc_word, od_word, .func (PySem.W.fnOf "_law_word_told" "_law_word_told" (defArgs sWord) (defBody sWord) (defScope sWord) .none kV_word dc_word pm_word an_word cd_word ct_word), sl_word⟩)
    (c_word : PySem.W.codeIn K cd_word "_law_word_told" = true)
    (k_word : PySem.W.keepIn K (.ref f_word) = true)
    (l_lasts : K.lookup f_lasts = some ⟨oc_lasts, od_lasts, .func (PySem.W.fnOf "_law_lasts" "_law_lasts" (defArgs sLasts) (defBody sLasts) (defScope sLasts) .none kV_lasts dc_lasts pm_lasts an_lasts cd_lasts ct_lasts), sl_lasts⟩)
    (c_lasts : PySem.W.codeIn K cd_lasts "_law_lasts" = true)
    (k_lasts : PySem.W.keepIn K (.ref f_lasts) = true)
    (l_law : K.lookup f_law = some ⟨oc_law, od_law, .func (PySem.W.fnOf "law" "law" (defArgs sLaw) (defBody sLaw) (defScope sLaw) .none kV_law dc_law pm_law an_law cd_law ct_law), sl_law⟩)
    (c_law : PySem.W.codeIn K cd_law "law" = true)
    (k_law : PySem.W.keepIn K (.ref f_law) = true)
    (l_bini : K.lookup f_bini = some ⟨oc_bini, od_bini, .func (PySem.W.fnOf "__init__" "BadStanding.__init__" (defArgs sBadInit) (defBody sBadInit) (defScope sBadInit) .none kV_bini dc_bini pm_bini an_bini cd_bini ct_bini), sl_bini⟩)
    (c_bini : PySem.W.codeIn K cd_bini "BadStanding.__init__" = true)
    (k_bini : PySem.W.keepIn K (.ref f_bini) = true)
    (l_lini : K.lookup f_lini = some ⟨oc_lini, od_lini, .func (PySem.W.fnOf "__init__" "Lasting.__init__" (defArgs sLInit) (defBody sLInit) (defScope sLInit) .none kV_lini dc_lini pm_lini an_lini cd_lini ct_lini), sl_lini⟩)
    (c_lini : PySem.W.codeIn K cd_lini "Lasting.__init__" = true)
    (k_lini : PySem.W.keepIn K (.ref f_lini) = true)
    (l_lmov : K.lookup f_lmov = some ⟨oc_lmov, od_lmov, .func (PySem.W.fnOf "moves" "Lasting.moves" (defArgs sMoves) (defBody sMoves) (defScope sMoves) .none kV_lmov dc_lmov pm_lmov an_lmov cd_lmov ct_lmov), sl_lmov⟩)
    (c_lmov : PySem.W.codeIn K cd_lmov "Lasting.moves" = true)
    (k_lmov : PySem.W.keepIn K (.ref f_lmov) = true)
    (z_isinstance : PySem.W.nsIn K mainGlobals "isinstance" = some none)
    (z_int : PySem.W.nsIn K mainGlobals "int" = some none)
    (z_bool : PySem.W.nsIn K mainGlobals "bool" = some none)
    (z_str : PySem.W.nsIn K mainGlobals "str" = some none)
    (z_dict : PySem.W.nsIn K mainGlobals "dict" = some none)
    (z_tuple : PySem.W.nsIn K mainGlobals "tuple" = some none)
    (z_list : PySem.W.nsIn K mainGlobals "list" = some none)
    (z_len : PySem.W.nsIn K mainGlobals "len" = some none)
    (z_enumerate : PySem.W.nsIn K mainGlobals "enumerate" = some none)
    (z_sorted : PySem.W.nsIn K mainGlobals "sorted" = some none)
    (z_range : PySem.W.nsIn K mainGlobals "range" = some none)
    (z_min : PySem.W.nsIn K mainGlobals "min" = some none)
    (z_max : PySem.W.nsIn K mainGlobals "max" = some none)
    (z_abs : PySem.W.nsIn K mainGlobals "abs" = some none)
    (z_all : PySem.W.nsIn K mainGlobals "all" = some none)
    (n_MOST_COINS : PySem.W.nsIn K mainGlobals "MOST_COINS" = some (some (.int 12 t_MOST_COINS)))
    (n_MOST_FEW : PySem.W.nsIn K mainGlobals "MOST_FEW" = some (some (.int 4 t_MOST_FEW)))
    (n_MOST_SEARCHED : PySem.W.nsIn K mainGlobals "MOST_SEARCHED" = some (some (.int 11 t_MOST_SEARCHED)))
    : ∃ fd : FuncData, (∀ (s : Shared) (u : Value), BindsTo s fd ⟨[u], []⟩ [("_law_script", u)]) ∧ ∀ base : Heap, K.In base → base.Ns mainGlobals mg → FnOk P w K mg base CX0 54 fa fd ["_law_script"] (spLaw K) := by
  have e := hfa.symm.trans (PySem.W.mg_of X G a_law)
  cases e
  have T : Txt K mg CB CT CL :=
    { isi := PySem.W.mg_none_of X G z_isinstance, int := PySem.W.mg_none_of X G z_int, bool := PySem.W.mg_none_of X G z_bool, str := PySem.W.mg_none_of X G z_str, dict := PySem.W.mg_none_of X G z_dict,
      tuple := PySem.W.mg_none_of X G z_tuple, list := PySem.W.mg_none_of X G z_list, len := PySem.W.mg_none_of X G z_len, enum := PySem.W.mg_none_of X G z_enumerate, sorted := PySem.W.mg_none_of X G z_sorted,
      range := PySem.W.mg_none_of X G z_range, min := PySem.W.mg_none_of X G z_min, max := PySem.W.mg_none_of X G z_max, abs := PySem.W.mg_none_of X G z_abs, all := PySem.W.mg_none_of X G z_all,
      sq := sqr, coins := ⟨_, PySem.W.mg_of X G n_MOST_COINS⟩, few := ⟨_, PySem.W.mg_of X G n_MOST_FEW⟩, srch := ⟨_, PySem.W.mg_of X G n_MOST_SEARCHED⟩,
      gB := PySem.W.mg_of X G aB, oB := ⟨⟨nm, q, NB, bs, _, sn, sub, ab, col, dd, m0, m1, m2, m3, m5, xB, rfl⟩, saB, eB, tB, kB⟩, fB := nB, xB := ⟨gaB, ggB, eB, hB⟩,
      gT := PySem.W.mg_of X G aT, kT := kT, eT := xT, sT := eT, tT := tT, mBB := exm_by eB iB tB sBB, mTB := exm_by eB iB tB sTB, mTT := exm_by eT iT tT sTT,
      gL := PySem.W.mg_of X G aL, cL := ⟨pgL, hdL, poL, saL⟩, nL := nL }
  have F_isInt := fun_mk (st := sIsInt) l_isInt c_isInt k_isInt
  have b_isInt := F_isInt.binds (ps := ["value"]) fun _ _ _ _ _ _ us hl => match us, hl with | [_], _ => rfl
  have F_isFrom := fun_mk (st := sIsFrom) l_isFrom c_isFrom k_isFrom
  have b_isFrom := F_isFrom.binds (ps := ["value", "low", "high"]) fun _ _ _ _ _ _ us hl => match us, hl with | [_, _, _], _ => rfl
  have F_check := fun_mk (st := sCheck) l_check c_check k_check
  have b_check := F_check.binds (ps := ["standing"]) fun _ _ _ _ _ _ us hl => match us, hl with | [_], _ => rfl
  have F_without := fun_mk (st := sWithout) l_without c_without k_without
  have b_without := F_without.binds (ps := ["standing", "one"]) fun _ _ _ _ _ _ us hl => match us, hl with | [_, _], _ => rfl
  have F_moved := fun_mk (st := sMoved) l_moved c_moved k_moved
  have b_moved := F_moved.binds (ps := ["standing", "one", "to"]) fun _ _ _ _ _ _ us hl => match us, hl with | [_, _, _], _ => rfl
  have F_low := fun_mk (st := sLow) l_low c_low k_low
  have b_low := F_low.binds (ps := ["number"]) fun _ _ _ _ _ _ us hl => match us, hl with | [_], _ => rfl
  have F_nearest := fun_mk (st := sNearest) l_nearest c_nearest k_nearest
  have b_nearest := F_nearest.binds (ps := ["squares"]) fun _ _ _ _ _ _ us hl => match us, hl with | [_], _ => rfl
  have F_mated := fun_mk (st := sMated) l_mated c_mated k_mated
  have b_mated := F_mated.binds (ps := ["standing"]) fun _ _ _ _ _ _ us hl => match us, hl with | [_], _ => rfl
  have F_by := fun_mk (st := sByMates) l_by c_by k_by
  have b_by := F_by.binds (ps := ["standing"]) fun _ _ _ _ _ _ us hl => match us, hl with | [_], _ => rfl
  have F_steps := fun_mk (st := sSteps) l_steps c_steps k_steps
  have b_steps := F_steps.binds (ps := ["standing"]) fun _ _ _ _ _ _ us hl => match us, hl with | [_], _ => rfl
  have F_searched := fun_mk (st := sSearched) l_searched c_searched k_searched
  have b_searched := F_searched.binds (ps := ["standing"]) fun _ _ _ _ _ _ us hl => match us, hl with | [_], _ => rfl
  have F_remote := fun_mk (st := sRemote) l_remote c_remote k_remote
  have b_remote := F_remote.binds (ps := ["standing"]) fun _ _ _ _ _ _ us hl => match us, hl with | [_], _ => rfl
  have F_hurried := fun_mk (st := sHurried) l_hurried c_hurried k_hurried
  have b_hurried := F_hurried.binds (ps := ["standing"]) fun _ _ _ _ _ _ us hl => match us, hl with | [_], _ => rfl
  have F_random := fun_mk (st := sRandom) l_random c_random k_random
  have b_random := F_random.binds (ps := ["_law_script", "_law_salt"]) fun _ _ _ _ _ _ us hl => match us, hl with | [_, _], _ => rfl
  have F_below := fun_mk (st := sBelow) l_below c_below k_below
  have b_below := F_below.binds (ps := ["_law_d", "_law_size"]) fun _ _ _ _ _ _ us hl => match us, hl with | [_, _], _ => rfl
  have F_pick := fun_mk (st := sPick) l_pick c_pick k_pick
  have b_pick := F_pick.binds (ps := ["_law_d", "_law_items"]) fun _ _ _ _ _ _ us hl => match us, hl with | [_, _], _ => rfl
  have F_equal := fun_mk (st := sEqual) l_equal c_equal k_equal
  have b_equal := F_equal.binds (ps := ["_law_actual", "_law_expected"]) fun _ _ _ _ _ _ us hl => match us, hl with | [_, _], _ => rfl
  have F_noSt := fun_mk (st := sNoSt) l_noSt c_noSt k_noSt
  have b_noSt := F_noSt.binds (ps := ["_law_d"]) fun _ _ _ _ _ _ us hl => match us, hl with | [_], _ => rfl
  have F_stand := fun_mk (st := sStand) l_stand c_stand k_stand
  have b_stand := F_stand.binds (ps := ["_law_d", "_law_coins", "_law_most"]) fun _ _ _ _ _ _ us hl => match us, hl with | [_, _, _], _ => rfl
  have F_lmoves := fun_mk (st := sLMoves) l_lmoves c_lmoves k_lmoves
  have b_lmoves := F_lmoves.binds (ps := ["_law_standing_here"]) fun _ _ _ _ _ _ us hl => match us, hl with | [_], _ => rfl
  have F_behind := fun_mk (st := sBehind) l_behind c_behind k_behind
  have b_behind := F_behind.binds (ps := ["_law_standing_here", "_law_one", "_law_to"]) fun _ _ _ _ _ _ us hl => match us, hl with | [_, _, _], _ => rfl
  have F_word := fun_mk (st := sWord) l_word c_word k_word
  have b_word := F_word.binds (ps := ["_law_name", "_law_value"]) fun _ _ _ _ _ _ us hl => match us, hl with | [_, _], _ => rfl
  have F_lasts := fun_mk (st := sLasts) l_lasts c_lasts k_lasts
  have b_lasts := F_lasts.binds (ps := ["_law_standing_here", "_law_known"]) fun _ _ _ _ _ _ us hl => match us, hl with | [_, _], _ => rfl
  have F_law := fun_mk (st := sLaw) l_law c_law k_law
  have F_bini := fun_mk (st := sBadInit) l_bini c_bini k_bini
  have b_bini := F_bini.binds (ps := ["self", "index"]) fun _ _ _ _ _ _ us hl => match us, hl with | [_, _], _ => rfl
  have F_lini := fun_mk (st := sLInit) l_lini c_lini k_lini
  have b_lini := F_lini.binds (ps := ["self"]) fun _ _ _ _ _ _ us hl => match us, hl with | [_], _ => rfl
  have F_lmov := fun_mk (st := sMoves) l_lmov c_lmov k_lmov
  have b_lmov := F_lmov.binds (ps := ["self", "standing"]) fun _ _ _ _ _ _ us hl => match us, hl with | [_, _], _ => rfl
  refine ⟨PySem.W.fnOf "law" "law" (defArgs sLaw) (defBody sLaw) (defScope sLaw) .none kV_law dc_law pm_law an_law cd_law ct_law, fun s u => .of_eq rfl, fun base _ _ => ?_⟩
  have MB : BadMk P w K mg base CB := ⟨⟨f_bini, _, a_bini, ty_bini, b_bini, ok_badInit F_bini⟩⟩
  have G_isInt : Has P w K mg base CX0 1 "is_integer" ["value"] spIsInt := ⟨⟨f_isInt, _, PySem.W.mg_of X G a_isInt, k_isInt, b_isInt, ok_isInt F_isInt T⟩⟩
  have G_isFrom : Has P w K mg base CX0 2 "is_from" ["value", "low", "high"] spIsFrom := ⟨⟨f_isFrom, _, PySem.W.mg_of X G a_isFrom, k_isFrom, b_isFrom, ok_isFrom F_isFrom G_isInt⟩⟩
  have G_check : Has P w K mg base (L2.CX P w) 4 "check_standing" ["standing"] (spCheck CB) := ⟨⟨f_check, _, PySem.W.mg_of X G a_check, k_check, b_check, ok_check F_check T MB G_isFrom⟩⟩
  have G_without : Has P w K mg base CX0 1 "without" ["standing", "one"] spWithout := ⟨⟨f_without, _, PySem.W.mg_of X G a_without, k_without, b_without, ok_without F_without T⟩⟩
  have G_moved : Has P w K mg base CX0 2 "moved" ["standing", "one", "to"] spMoved := ⟨⟨f_moved, _, PySem.W.mg_of X G a_moved, k_moved, b_moved, ok_moved F_moved T G_without⟩⟩
  have G_low : Has P w K mg base CX0 1 "low_bit" ["number"] spLow := ⟨⟨f_low, _, PySem.W.mg_of X G a_low, k_low, b_low, ok_low F_low⟩⟩
  have G_nearest : Has P w K mg base CX0 2 "nearest" ["squares"] spNearest := ⟨⟨f_nearest, _, PySem.W.mg_of X G a_nearest, k_nearest, b_nearest, ok_nearest F_nearest T G_low⟩⟩
  have G_mated : Has P w K mg base CX0 3 "mated" ["standing"] spMated := ⟨⟨f_mated, _, PySem.W.mg_of X G a_mated, k_mated, b_mated, ok_mated F_mated T G_nearest⟩⟩
  have G_by : Has P w K mg base CX0 4 "by_mates" ["standing"] spBy := ⟨⟨f_by, _, PySem.W.mg_of X G a_by, k_by, b_by, ok_by F_by G_mated⟩⟩
  have G_steps : Has P w K mg base CX0 1 "steps_from" ["standing"] spSteps := ⟨⟨f_steps, _, PySem.W.mg_of X G a_steps, k_steps, b_steps, ok_steps F_steps T⟩⟩
  have G_searched : Has P w K mg base (L2.CX P w) 5 "check_searched" ["standing"] (spSearched CB CT) := ⟨⟨f_searched, _, PySem.W.mg_of X G a_searched, k_searched, b_searched, ok_searched F_searched T G_check⟩⟩
  have mM : Meth K CL "moves" f_lmov := ⟨a_lmov, i_lmov, k_lmov⟩
  have S : Srch P w K mg base CL := ⟨⟨f_lini, _, ⟨mkL, a_lini, i_lini, kL⟩, ok_linit F_lini T, b_lini⟩, ⟨f_lmov, _, mM, ok_moves F_lmov T mM b_lmov G_steps G_moved G_by 45, b_lmov⟩⟩
  have G_remote : Has P w K mg base (L2.CX P w) 52 "remote" ["standing"] (spRemote CB CT) := ⟨⟨f_remote, _, PySem.W.mg_of X G a_remote, k_remote, b_remote, ok_remote F_remote T S G_searched⟩⟩
  have G_hurried : Has P w K mg base (L2.CX P w) 52 "hurried" ["standing"] (spHurried CB CT) := ⟨⟨f_hurried, _, PySem.W.mg_of X G a_hurried, k_hurried, b_hurried, ok_hurried F_hurried T S G_searched G_steps G_moved G_by⟩⟩
  have G_random : Has P w K mg base CX0 1 "_law_random" ["_law_script", "_law_salt"] (spRandom K) := ⟨⟨f_random, _, PySem.W.mg_of X G a_random, k_random, b_random, ok_random F_random T T.abs⟩⟩
  have G_below : Has P w K mg base CX0 1 "_law_below" ["_law_d", "_law_size"] spBelow := ⟨⟨f_below, _, PySem.W.mg_of X G a_below, k_below, b_below, ok_below F_below T⟩⟩
  have G_pick : Has P w K mg base CX0 2 "_law_pick" ["_law_d", "_law_items"] spPick := ⟨⟨f_pick, _, PySem.W.mg_of X G a_pick, k_pick, b_pick, ok_pick F_pick T G_below⟩⟩
  have G_stand : Has P w K mg base CX0 2 "_law_standing" ["_law_d", "_law_coins", "_law_most"] spStand := ⟨⟨f_stand, _, PySem.W.mg_of X G a_stand, k_stand, b_stand, ok_stand F_stand T G_below⟩⟩
  have G_lmoves : Has P w K mg base CX0 1 "_law_moves" ["_law_standing_here"] spSteps := ⟨⟨f_lmoves, _, PySem.W.mg_of X G a_lmoves, k_lmoves, b_lmoves, ok_lmoves F_lmoves T⟩⟩
  have G_behind : Has P w K mg base CX0 1 "_law_behind" ["_law_standing_here", "_law_one", "_law_to"] spMoved := ⟨⟨f_behind, _, PySem.W.mg_of X G a_behind, k_behind, b_behind, ok_behind F_behind T⟩⟩
  have G_lasts : Has P w K mg base CX0 47 "_law_lasts" ["_law_standing_here", "_law_known"] (spLasts 45) := ⟨⟨f_lasts, _, PySem.W.mg_of X G a_lasts, k_lasts, b_lasts, ok_lasts F_lasts T (PySem.W.mg_of X G a_lasts) b_lasts G_lmoves G_behind 45⟩⟩
  have E1 := ok_eqInt (P := P) (w := w) (base := base) F_equal T
  have G_eqi : Has P w K mg base CX0 1 "_law_equal" ["_law_actual", "_law_expected"] (spEqR RInt) := ⟨⟨f_equal, _, PySem.W.mg_of X G a_equal, k_equal, b_equal, E1⟩⟩
  have G_eqs : Has P w K mg base CX0 3 "_law_equal" ["_law_actual", "_law_expected"] (spEqR (RSeq (RSeq RInt))) := ⟨⟨f_equal, _, PySem.W.mg_of X G a_equal, k_equal, b_equal, ok_eqSeq F_equal T (PySem.W.mg_of X G a_equal) b_equal (steady_seq steady_int) (ok_eqSeq F_equal T (PySem.W.mg_of X G a_equal) b_equal steady_int E1)⟩⟩
  have G_noSt : Has P w K mg base CX0 3 "_law_no_standing" ["_law_d"] spNoSt := ⟨⟨f_noSt, _, PySem.W.mg_of X G a_noSt, k_noSt, b_noSt, ok_noSt F_noSt T G_pick⟩⟩
  have G_word : Has P w K mg base CX0 53 "_law_word_told" ["_law_name", "_law_value"] spWord := ⟨⟨f_word, _, PySem.W.mg_of X G a_word, k_word, b_word, ok_word F_word T G_remote G_hurried⟩⟩
  exact ok_law F_law T ⟨G_random, G_below, G_pick, G_stand, G_lmoves, G_behind, G_lasts, G_eqi, G_eqs, G_noSt, G_word, G_remote, G_hurried⟩
/-- from the promise to the law, with what the view leaves open handed on -/
theorem law_from {l : PySem.W.OpenLaw} {q : Program} {loose : List Str} {XP : (Str → Option Value) → Heap → Prop} {YP : World → Heap → Prop} {d : DefRec} {K : Params → PySem.W.Frag} (hn : l.most = some 63) (hdf : d.params.defaults = [])
    (hY : ∀ (w : World) (h : Heap), YP w h → (K w.params).In h)
    (F : ∀ (w : World) (mg : Str → Option Value) (fa : Addr) (h : Heap), (K w.params).In h → h.Ns mainGlobals mg → mg d.name = some (.ref fa) → XP mg h →
      ∃ fd : FuncData, (∀ (s : Shared) (u : Value), BindsTo s fd ⟨[u], []⟩ [("_law_script", u)]) ∧ ∀ base : Heap, (K w.params).In base → base.Ns mainGlobals mg → FnOk l.prog w (K w.params) mg base CX0 54 fa fd ["_law_script"] (spLaw (K w.params))) :
    PySem.W.WalkO q loose XP YP l.row.toRowW d [] (fun f vs => PySem.call f vs) := by
  refine Att.attach_call hn hdf fun w s0 s1 mg mb fa o pm cd doc a vs ns Gr Y ho hd hcd hmg hobj hints hlen hg => ?_
  obtain ⟨fd, hb, hF⟩ := F w mg fa _ (hY w _ Y) Gr.T.g hmg Gr.X
  exact law_call (hY w _ Y) Gr.T.g Gr.T.b Gr.T.builtins Gr.T.nolimit hg hobj hints (Nat.le_trans hlen (by decide)) ⟨rfl, by decide, by decide⟩ hF hb (fun H _ hS => ⟨a, ns, rfl, hS, hlen, fun _ => rfl⟩) fun _ _ _ z => z
end Sq
open PySem PySem.W PyProof.Rows
set_option maxRecDepth 100000 in
set_option maxHeartbeats 0 in
theorem PySem.Challenge.cw_squarecoins_k21_whole_hurried_games_holds : PySem.Challenge.rw_squarecoins_k21_whole_hurried_games.Holds := by
  w_on; o_law; k_head; (case hw => w_witness2)
  k_fill
  refine Sq.law_from (l := PySem.Challenge.rw_squarecoins_k21_whole_hurried_games) rfl rfl (fun w h Y => PySem.W.kIn_of Y) ?F
  case F =>
    intro w mg fa h KX G hmg XX
    refine' Sq.all_mk KX G hmg (Sq.most_of (by decide +kernel) XX) ?aB ?aT ?aL ?xB ?saB ?gaB ?ggB ?nB ?kB ?eB ?tB ?hB ?iB ?sBB ?kT ?xT ?eT ?tT ?iT ?sTT ?sTB ?pgL ?hdL ?poL ?saL ?mkL ?kL ?nL ?a_isInt ?a_isFrom ?a_check ?a_without ?a_moved ?a_low ?a_nearest ?a_mated ?a_by ?a_steps ?a_searched ?a_remote ?a_hurried ?a_random ?a_below ?a_pick ?a_equal ?a_noSt ?a_stand ?a_lmoves ?a_behind ?a_word ?a_lasts ?a_law ?a_bini ?i_bini ?ty_bini ?a_lini ?i_lini ?a_lmov ?i_lmov ?l_isInt ?c_isInt ?k_isInt ?l_isFrom ?c_isFrom ?k_isFrom ?l_check ?c_check ?k_check ?l_without ?c_without ?k_without ?l_moved ?c_moved ?k_moved ?l_low ?c_low ?k_low ?l_nearest ?c_nearest ?k_nearest ?l_mated ?c_mated ?k_mated ?l_by ?c_by ?k_by ?l_steps ?c_steps ?k_steps ?l_searched ?c_searched ?k_searched ?l_remote ?c_remote ?k_remote ?l_hurried ?c_hurried ?k_hurried ?l_random ?c_random ?k_random ?l_below ?c_below ?k_below ?l_pick ?c_pick ?k_pick ?l_equal ?c_equal ?k_equal ?l_noSt ?c_noSt ?k_noSt ?l_stand ?c_stand ?k_stand ?l_lmoves ?c_lmoves ?k_lmoves ?l_behind ?c_behind ?k_behind ?l_word ?c_word ?k_word ?l_lasts ?c_lasts ?k_lasts ?l_law ?c_law ?k_law ?l_bini ?c_bini ?k_bini ?l_lini ?c_lini ?k_lini ?l_lmov ?c_lmov ?k_lmov ?z_isinstance ?z_int ?z_bool ?z_str ?z_dict ?z_tuple ?z_list ?z_len ?z_enumerate ?z_sorted ?z_range ?z_min ?z_max ?z_abs ?z_all ?n_MOST_COINS ?n_MOST_FEW ?n_MOST_SEARCHED
    (case aB => k_is); (case aT => k_is); (case aL => k_is); (case xB => k_is); (case saB => k_is); (case gaB => k_is)
    (case ggB => k_is); (case nB => k_is); (case kB => k_is); (case eB => k_is); (case tB => k_is); (case hB => k_is)
    (case iB => k_is); (case sBB => first | rfl | k_is); (case kT => k_is); (case xT => k_exc); (case eT => k_is); (case tT => k_is)
    (case iT => k_is); (case sTT => first | rfl | k_is); (case sTB => k_is); (case pgL => k_is); (case hdL => k_is); (case poL => k_is)
    (case saL => k_is); (case mkL => k_is); (case kL => k_is); (case nL => k_is); (case a_isInt => k_is); (case a_isFrom => k_is)
    (case a_check => k_is); (case a_without => k_is); (case a_moved => k_is); (case a_low => k_is); (case a_nearest => k_is); (case a_mated => k_is)
    (case a_by => k_is); (case a_steps => k_is); (case a_searched => k_is); (case a_remote => k_is); (case a_hurried => k_is); (case a_random => k_is)
    (case a_below => k_is); (case a_pick => k_is); (case a_equal => k_is); (case a_noSt => k_is); (case a_stand => k_is); (case a_lmoves => k_is)
    (case a_behind => k_is); (case a_word => k_is); (case a_lasts => k_is); (case a_law => k_is); (case a_bini => k_is); (case i_bini => k_is)
    (case ty_bini => k_is); (case a_lini => k_is); (case i_lini => k_is); (case a_lmov => k_is); (case i_lmov => k_is); (case l_isInt => k_is)
    (case c_isInt => k_is); (case k_isInt => k_is); (case l_isFrom => k_is); (case c_isFrom => k_is); (case k_isFrom => k_is); (case l_check => k_is)
    (case c_check => k_is); (case k_check => k_is); (case l_without => k_is); (case c_without => k_is); (case k_without => k_is); (case l_moved => k_is)
    (case c_moved => k_is); (case k_moved => k_is); (case l_low => k_is); (case c_low => k_is); (case k_low => k_is); (case l_nearest => k_is)
    (case c_nearest => k_is); (case k_nearest => k_is); (case l_mated => k_is); (case c_mated => k_is); (case k_mated => k_is); (case l_by => k_is)
    (case c_by => k_is); (case k_by => k_is); (case l_steps => k_is); (case c_steps => k_is); (case k_steps => k_is); (case l_searched => k_is)
    (case c_searched => k_is); (case k_searched => k_is); (case l_remote => k_is); (case c_remote => k_is); (case k_remote => k_is); (case l_hurried => k_is)
    (case c_hurried => k_is); (case k_hurried => k_is); (case l_random => k_is); (case c_random => k_is); (case k_random => k_is); (case l_below => k_is)
    (case c_below => k_is); (case k_below => k_is); (case l_pick => k_is); (case c_pick => k_is); (case k_pick => k_is); (case l_equal => k_is)
    (case c_equal => k_is); (case k_equal => k_is); (case l_noSt => k_is); (case c_noSt => k_is); (case k_noSt => k_is); (case l_stand => k_is)
    (case c_stand => k_is); (case k_stand => k_is); (case l_lmoves => k_is); (case c_lmoves => k_is); (case k_lmoves => k_is); (case l_behind => k_is)
    (case c_behind => k_is); (case k_behind => k_is); (case l_word => k_is); (case c_word => k_is); (case k_word => k_is); (case l_lasts => k_is)
    (case c_lasts => k_is); (case k_lasts => k_is); (case l_law => k_is); (case c_law => k_is); (case k_law => k_is); (case l_bini => k_is)
    (case c_bini => k_is); (case k_bini => k_is); (case l_lini => k_is); (case c_lini => k_is); (case k_lini => k_is); (case l_lmov => k_is)
    (case c_lmov => k_is); (case k_lmov => k_is); (case z_isinstance => k_is); (case z_int => k_is); (case z_bool => k_is); (case z_str => k_is)
    (case z_dict => k_is); (case z_tuple => k_is); (case z_list => k_is); (case z_len => k_is); (case z_enumerate => k_is); (case z_sorted => k_is)
    (case z_range => k_is); (case z_min => k_is); (case z_max => k_is); (case z_abs => k_is); (case z_all => k_is); (case n_MOST_COINS => k_is)
    (case n_MOST_FEW => k_is); (case n_MOST_SEARCHED => k_is)
