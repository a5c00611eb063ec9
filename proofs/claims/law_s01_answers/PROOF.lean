import PyProof.Rows.All
import Wide.All
import OpenK.AllK
import Wide.FinOn
import PyProof.EqAt
import PyProof.EqKinds
import PyProof.TupleCall
import Open.SpecLaws
import KE.OsGo
import HandS.ForSpec
import HandS.ForMost
import HandS.More
import HandS.Codes
import HandS.Steps
import PySem.Challenge.RW_dartsleg_s01_answers
set_option Elab.async false
set_option linter.all false
set_option maxRecDepth 100000
set_option maxHeartbeats 8000000
namespace Dl
open Km371

/-! ### With how few darts: what the program's table holds, and that it is what is due -/
def burst (e : Nat) (left : Int) (d : Dart) : Bool := if left < 0 then true else if left = 0 then !ends e d else decide (e ≠ 0) && decide (left = 1)
/-- how few darts stand in the table at a score -/
def cnt (e s : Nat) : Option Nat := if s = 0 then some 0 else fewest e s
def via (e s : Nat) (d : Dart) : Option Nat := if burst e ((s : Int) - (worth d : Nat)) d = true then none else oneMore (cnt e (s - worth d))
def pick (g : Dart → Option Nat) (b : Option (Nat × Dart)) (d : Dart) : Option (Nat × Dart) := match g d with
  | none => b
  | some m => match b with
    | none => some (m, d)
    | some (k, c) => if m < k then some (m, d) else some (k, c)
def best (e s : Nat) : Option (Nat × Dart) := darts.foldl (pick (via e s)) none

/-- the first of the least -/
def Least (g : Dart → Option Nat) (l : List Dart) (b : Option (Nat × Dart)) : Prop :=
  (b = none ∧ ∀ d ∈ l, g d = none) ∨ ∃ n d, b = some (n, d) ∧ l.find? (fun c => g c == some n) = some d ∧ ∀ c ∈ l, ∀ m, g c = some m → n ≤ m

theorem find_more {p : Dart → Bool} {l : List Dart} {d c : Dart} (h : l.find? p = some d) : (l ++ [c]).find? p = some d := by
  rw [List.find?_append, h] <;> rfl
theorem least_step {g : Dart → Option Nat} {l : List Dart} {b : Option (Nat × Dart)} (d : Dart) (h : Least g l b) : Least g (l ++ [d]) (pick g b d) := by
  unfold pick
  cases e : g d with
  | none =>
    rcases h with ⟨rfl, h⟩ | ⟨n, c, rfl, h1, h2⟩
    · exact .inl ⟨rfl, fun x hx => by
        rcases List.mem_append.mp hx with hx | hx
        · exact h x hx
        · rw [List.mem_singleton] at hx; subst hx; exact e⟩
    · refine .inr ⟨n, c, rfl, find_more h1, fun x hx m hm => ?_⟩
      rcases List.mem_append.mp hx with hx | hx
      · exact h2 x hx m hm
      · rw [List.mem_singleton] at hx; subst hx; rw [e] at hm; cases hm
  | some m =>
    rcases h with ⟨rfl, h⟩ | ⟨n, c, rfl, h1, h2⟩
    · refine .inr ⟨m, d, rfl, ?_, fun x hx k hk => ?_⟩
      · rw [List.find?_append]
        have : l.find? (fun c => g c == some m) = none := by
          rw [List.find?_eq_none]
          intro x hx
          rw [h x hx]
          simp
        rw [this]
        simp [List.find?_cons, e]
      · rcases List.mem_append.mp hx with hx | hx
        · rw [h x hx] at hk; cases hk
        · rw [List.mem_singleton] at hx; subst hx; rw [e] at hk; cases hk; exact Nat.le_refl _
    · show Least g (l ++ [d]) (if m < n then some (m, d) else some (n, c))
      by_cases hmn : m < n
      · rw [if_pos hmn]
        refine .inr ⟨m, d, rfl, ?_, fun x hx k hk => ?_⟩
        · rw [List.find?_append]
          have : l.find? (fun c => g c == some m) = none := by
            rw [List.find?_eq_none]
            intro x hx hz
            have hz : g x = some m := by simpa using hz
            have := h2 x hx m hz
            omega
          rw [this]
          simp [List.find?_cons, e]
        · rcases List.mem_append.mp hx with hx | hx
          · have := h2 x hx k hk; omega
          · rw [List.mem_singleton] at hx; subst hx; rw [e] at hk; cases hk; exact Nat.le_refl _
      · rw [if_neg hmn]
        refine .inr ⟨n, c, rfl, find_more h1, fun x hx k hk => ?_⟩
        rcases List.mem_append.mp hx with hx | hx
        · exact h2 x hx k hk
        · rw [List.mem_singleton] at hx; subst hx; rw [e] at hk; cases hk; omega
theorem least_fold {g : Dart → Option Nat} : ∀ (r l : List Dart) (b : Option (Nat × Dart)), Least g l b → Least g (l ++ r) (r.foldl (pick g) b)
  | [], l, b, h => by rw [List.append_nil]; exact h
  | d :: r, l, b, h => by
    have e : l ++ d :: r = (l ++ [d]) ++ r := by rw [List.append_assoc] <;> rfl
    rw [e]
    exact least_fold r (l ++ [d]) _ (least_step d h)
theorem best_least (e s : Nat) : Least (via e s) darts (best e s) := by
  have h := least_fold (g := via e s) darts [] none (.inl ⟨rfl, fun _ h => by cases h⟩)
  exact h

/-- the least of numbers that may lack -/
def MinOf (h : Dart → Option Nat) (l : List Dart) (m : Option Nat) : Prop :=
  (m = none ∧ ∀ d ∈ l, h d = none) ∨ ∃ n, m = some n ∧ (∃ d ∈ l, h d = some n) ∧ ∀ c ∈ l, ∀ k, h c = some k → n ≤ k
theorem min_step {h : Dart → Option Nat} {l : List Dart} {m : Option Nat} (d : Dart) (H : MinOf h l m) : MinOf h (l ++ [d]) (lesser m (h d)) := by
  have mem : ∀ {x}, x ∈ l ++ [d] → x ∈ l ∨ x = d := fun {x} hx => by
    rcases List.mem_append.mp hx with hx | hx
    · exact .inl hx
    · exact .inr (List.mem_singleton.mp hx)
  have inl : ∀ {x}, x ∈ l → x ∈ l ++ [d] := fun {x} hx => List.mem_append.mpr (.inl hx)
  have ind : d ∈ l ++ [d] := List.mem_append.mpr (.inr (List.mem_singleton.mpr rfl))
  cases e : h d with
  | none =>
    rcases H with ⟨rfl, H⟩ | ⟨n, rfl, ⟨c, hc, ec⟩, H⟩
    · exact .inl ⟨rfl, fun x hx => by rcases mem hx with hx | rfl; exact H x hx; exact e⟩
    · exact .inr ⟨n, rfl, ⟨c, inl hc, ec⟩, fun x hx k hk => by
        rcases mem hx with hx | rfl
        · exact H x hx k hk
        · rw [e] at hk; cases hk⟩
  | some k0 =>
    rcases H with ⟨rfl, H⟩ | ⟨n, rfl, ⟨c, hc, ec⟩, H⟩
    · exact .inr ⟨k0, rfl, ⟨d, ind, e⟩, fun x hx k hk => by
        rcases mem hx with hx | rfl
        · rw [H x hx] at hk; cases hk
        · rw [e] at hk; cases hk; exact Nat.le_refl _⟩
    · refine .inr ⟨min n k0, rfl, ?_, fun x hx k hk => ?_⟩
      · by_cases z : n ≤ k0
        · exact ⟨c, inl hc, by rw [Nat.min_eq_left z]; exact ec⟩
        · exact ⟨d, ind, by rw [Nat.min_eq_right (by omega)]; exact e⟩
      · rcases mem hx with hx | rfl
        · have := H x hx k hk; omega
        · rw [e] at hk; cases hk; omega
theorem min_fold {h : Dart → Option Nat} : ∀ (r l : List Dart) (m : Option Nat), MinOf h l m → MinOf h (l ++ r) (r.foldl (fun m d => lesser m (h d)) m)
  | [], l, m, H => by rw [List.append_nil]; exact H
  | d :: r, l, m, H => by
    have e : l ++ d :: r = (l ++ [d]) ++ r := by rw [List.append_assoc] <;> rfl
    rw [e]
    exact min_fold r (l ++ [d]) _ (min_step d H)

theorem lesser_none (m : Option Nat) : lesser m none = m := by cases m <;> rfl
theorem table_at (e : Nat) : ∀ (n j : Nat), j ≤ n → (table e n).getD j none = fewest e (n - j)
  | 0, j, h => by
    have : j = 0 := by omega
    subst this
    rfl
  | n + 1, 0, _ => by
    show (table e (n + 1)).getD 0 none = (table e (n + 1)).headD none
    unfold table
    rfl
  | n + 1, j + 1, h => by
    have ih := table_at e n j (by omega)
    rw [show n + 1 - (j + 1) = n - j by omega, ← ih]
    show (table e (n + 1)).getD (j + 1) none = _
    rw [table]
    rfl
theorem back_at (e n k : Nat) (h1 : 1 ≤ k) (h2 : k ≤ n + 1) : back (table e n) k = fewest e (n + 1 - k) := by
  unfold back
  rw [if_neg (by omega), table_at e n (k - 1) (by omega)]
  congr 1
  omega
theorem fewest_succ (e n : Nat) : fewest e (n + 1) = if open_ e (n + 1) = true then next e (n + 1) (table e n) else none := by
  show (table e (n + 1)).headD none = _
  rw [table]
  rfl
theorem fewest_zero (e : Nat) : fewest e 0 = none := rfl

/-- facts of the darts on the board -/
theorem darts_pos : ∀ d ∈ darts, 1 ≤ worth d ∧ (worth d = 1 → d.times = 1) ∧ 1 ≤ d.times ∧ worth d ≤ 60 := by
  have h : darts.all (fun d => decide (1 ≤ worth d) && (decide (worth d ≠ 1) || decide (d.times = 1)) && decide (1 ≤ d.times) && decide (worth d ≤ 60)) = true := by decide +kernel
  intro d hd
  have := List.all_eq_true.mp h d hd
  simp only [Bool.and_eq_true, Bool.or_eq_true, decide_eq_true_eq] at this
  exact ⟨this.1.1.1, fun z => (this.1.1.2.resolve_left fun q => q z), this.1.2, this.2⟩

/-- what the specification takes the least of -/
def hop (e s : Nat) (d : Dart) : Option Nat := if worth d < s then oneMore (fewest e (s - worth d)) else none
theorem fold_congr {f g : Option Nat → Dart → Option Nat} : ∀ (l : List Dart) (m : Option Nat), (∀ m d, d ∈ l → f m d = g m d) → l.foldl f m = l.foldl g m
  | [], _, _ => rfl
  | d :: r, m, h => by
    rw [List.foldl_cons, List.foldl_cons, h m d (List.mem_cons_self ..)]
    exact fold_congr r _ fun m x hx => h m x (List.mem_cons_of_mem _ hx)
theorem next_is (e n : Nat) : next e (n + 1) (table e n) = if darts.any (fun d => worth d == n + 1 && ends e d) = true then some 1 else darts.foldl (fun m d => lesser m (hop e (n + 1) d)) none := by
  unfold next
  congr 1
  refine fold_congr _ _ fun m d hd => ?_
  unfold hop
  by_cases h : worth d < n + 1
  · rw [if_pos h, if_pos h, back_at e n (worth d) (darts_pos d hd).1 (by omega)]
  · rw [if_neg h, if_neg h, lesser_none]
theorem hop_min (e s : Nat) : MinOf (hop e s) darts (darts.foldl (fun m d => lesser m (hop e s d)) none) :=
  min_fold darts [] none (.inl ⟨rfl, fun _ h => by cases h⟩)
theorem oneMore_some {a : Option Nat} {n : Nat} (h : oneMore a = some n) : ∃ k, a = some k ∧ n = k + 1 := by
  cases a with
  | none => cases h
  | some k => exact ⟨k, rfl, (Option.some.inj h).symm⟩
theorem fewest_pos {e s n : Nat} (h : fewest e s = some n) : 1 ≤ n := by
  cases s with
  | zero => rw [fewest_zero] at h; cases h
  | succ s =>
    rw [fewest_succ] at h
    split at h
    · rw [next_is] at h
      split at h
      · cases h; exact Nat.le_refl _
      · rcases hop_min e (s + 1) with ⟨h1, _⟩ | ⟨k, h1, ⟨d, _, hd⟩, _⟩
        · rw [h1] at h; cases h
        · rw [h1] at h; cases h
          unfold hop at hd
          split at hd
          · obtain ⟨k, _, rfl⟩ := oneMore_some hd; omega
          · cases hd
    · cases h
theorem via_eq {e s : Nat} {d : Dart} (hs : 1 ≤ s) (hd : d ∈ darts) : via e s d = if worth d = s then (if ends e d = true then some 1 else none) else hop e s d := by
  obtain ⟨p1, p2, p3, _⟩ := darts_pos d hd
  unfold via hop burst
  by_cases h1 : worth d = s
  · rw [if_pos h1, if_neg (by omega : ¬ ((s : Int) - (worth d : Nat) < 0)), if_pos (by omega : (s : Int) - (worth d : Nat) = 0)]
    cases q : ends e d with
    | true => simp [h1, cnt, oneMore]
    | false => simp
  · rw [if_neg h1]
    by_cases h2 : worth d < s
    · rw [if_pos h2, if_neg (by omega : ¬ ((s : Int) - (worth d : Nat) < 0)), if_neg (by omega : ¬ (s : Int) - (worth d : Nat) = 0)]
      have hc : cnt e (s - worth d) = fewest e (s - worth d) := by unfold cnt; rw [if_neg (by omega)]
      rw [hc]
      by_cases h3 : e ≠ 0 ∧ s - worth d = 1
      · rw [h3.2]
        have f1 : fewest e 1 = none := by
          rw [fewest_succ, if_neg]
          unfold open_
          rw [if_neg h3.1]
          decide
        rw [f1]
        split <;> rfl
      · rw [if_neg]
        simp only [Bool.and_eq_true, decide_eq_true_eq]
        intro z
        exact h3 ⟨z.1, by omega⟩
    · rw [if_neg h2, if_pos (by omega : ((s : Int) - (worth d : Nat) < 0)), if_pos rfl]
theorem find_congr {p q : Dart → Bool} : ∀ (l : List Dart), (∀ d ∈ l, p d = q d) → l.find? p = l.find? q
  | [], _ => rfl
  | d :: r, h => by
    rw [List.find?_cons, List.find?_cons, h d (List.mem_cons_self ..), find_congr r fun x hx => h x (List.mem_cons_of_mem _ hx)]
/-- what is told of a score -/
def told (e s : Nat) : Option (Nat × Dart) := match fewest e s, first e s with
  | some n, some d => some (n, d)
  | _, _ => none
theorem hop_two {e s : Nat} {d : Dart} {m : Nat} (h : hop e s d = some m) : worth d < s ∧ 2 ≤ m ∧ fewest e (s - worth d) = some (m - 1) := by
  unfold hop at h
  split at h
  · obtain ⟨k, h1, rfl⟩ := oneMore_some h
    have := fewest_pos h1
    exact ⟨by assumption, by omega, by rw [h1]; rfl⟩
  · cases h
theorem best_told {e s : Nat} (hs : 1 ≤ s) : best e s = told e s ∧ (best e s).map (·.1) = fewest e s := by
  have key : ∀ n, fewest e s = some n → (∀ d ∈ darts, ∀ m, via e s d = some m → n ≤ m) → (∃ d ∈ darts, via e s d = some n) →
      (∀ d ∈ darts, (via e s d == some n) = (if n = 1 then worth d == s && ends e d else decide (worth d < s) && fewest e (s - worth d) == some (n - 1))) → best e s = told e s ∧ (best e s).map (·.1) = fewest e s := by
    intro n hf hm hex hp
    obtain ⟨d0, hd0, e0⟩ := hex
    rcases best_least e s with ⟨_, h⟩ | ⟨n', d, hb, hfind, hmin⟩
    · rw [h d0 hd0] at e0; cases e0
    · have hn : n' = n := by
        have a := hmin d0 hd0 n e0
        have hm' := List.mem_of_find?_eq_some hfind
        have hv : via e s d = some n' := by simpa using List.find?_some hfind
        have b := hm d hm' n' hv
        omega
      subst hn
      have hfi : first e s = some d := by
        unfold first
        rw [hf]
        show darts.find? _ = some d
        rw [← hfind]
        exact (find_congr _ hp).symm
      constructor
      · rw [hb]; unfold told; rw [hf, hfi]
      · rw [hb, hf]; rfl
  cases s with
  | zero => omega
  | succ s =>
    by_cases ho : open_ e (s + 1) = true
    · have hf := fewest_succ e s
      rw [if_pos ho, next_is] at hf
      by_cases ha : darts.any (fun d => worth d == s + 1 && ends e d) = true
      · rw [if_pos ha] at hf
        obtain ⟨d0, hd0, hq⟩ := List.any_eq_true.mp ha
        simp only [Bool.and_eq_true, beq_iff_eq] at hq
        refine key 1 hf (fun d hd m hm => ?_) ⟨d0, hd0, by rw [via_eq (by omega) hd0, if_pos hq.1, if_pos hq.2]⟩ (fun d hd => ?_)
        · rw [via_eq (by omega) hd] at hm
          split at hm
          · split at hm <;> cases hm; exact Nat.le_refl _
          · have := hop_two hm; omega
        · rw [if_pos rfl, via_eq (by omega) hd]
          by_cases hw : worth d = s + 1
          · rw [if_pos hw, hw]
            cases ends e d <;> simp
          · rw [if_neg hw]
            have : (worth d == s + 1) = false := by simpa using hw
            rw [this, Bool.false_and]
            cases hh : hop e (s + 1) d with
            | none => rfl
            | some m =>
              have := hop_two hh
              have z : m ≠ 1 := by omega
              simp [z]
      · rw [if_neg ha] at hf
        have hno : ∀ d ∈ darts, worth d = s + 1 → ends e d = false := by
          intro d hd hw
          cases q : ends e d with
          | false => rfl
          | true =>
            refine absurd (List.any_eq_true.mpr ⟨d, hd, ?_⟩) ha
            rw [hw, q] <;> simp
        have hv : ∀ d ∈ darts, via e (s + 1) d = hop e (s + 1) d := by
          intro d hd
          rw [via_eq (by omega) hd]
          by_cases hw : worth d = s + 1
          · rw [if_pos hw, hno d hd hw]
            unfold hop
            rw [if_neg (show ¬ worth d < s + 1 by omega), if_neg Bool.false_ne_true]
          · rw [if_neg hw]
        rcases hop_min e (s + 1) with ⟨h1, h2⟩ | ⟨n, h1, ⟨d0, hd0, e0⟩, h3⟩
        · rw [h1] at hf
          rcases best_least e (s + 1) with ⟨hb, _⟩ | ⟨n', d, hb, hfind, _⟩
          · constructor
            · rw [hb]; unfold told; rw [hf]
            · rw [hb, hf]; rfl
          · have hm' := List.mem_of_find?_eq_some hfind
            have hv' : via e (s + 1) d = some n' := by simpa using List.find?_some hfind
            rw [hv d hm', h2 d hm'] at hv'
            cases hv'
        · rw [h1] at hf
          have n2 := (hop_two e0).2.1
          refine key n hf (fun d hd m hm => h3 d hd m (by rw [← hv d hd]; exact hm)) ⟨d0, hd0, by rw [hv d0 hd0]; exact e0⟩ (fun d hd => ?_)
          rw [if_neg (by omega), hv d hd]
          by_cases hw : worth d < s + 1
          · unfold hop
            rw [if_pos hw]
            cases q : fewest e (s + 1 - worth d) with
            | none => simp [oneMore]
            | some k =>
              have := fewest_pos q
              simp only [oneMore, decide_true, Bool.true_and, hw]
              by_cases z : k + 1 = n
              · have z2 : k = n - 1 := by omega
                rw [z, ← z2, beq_self_eq_true, beq_self_eq_true]
              · have z2 : k ≠ n - 1 := by omega
                rw [beq_false_of_ne (fun q => z (Option.some.inj q)), beq_false_of_ne (fun q => z2 (Option.some.inj q))]
          · unfold hop
            rw [if_neg hw]
            simp [hw]
    · have hf := fewest_succ e s
      rw [if_neg ho] at hf
      unfold open_ at ho
      have h0 : e ≠ 0 ∧ s = 0 := by
        by_cases z : e = 0
        · rw [if_pos z] at ho; simp at ho
        · rw [if_neg z] at ho
          simp at ho
          exact ⟨z, by omega⟩
      obtain ⟨he, rfl⟩ := h0
      rcases best_least e 1 with ⟨hb, _⟩ | ⟨n', d, hb, hfind, _⟩
      · constructor
        · rw [hb]; unfold told; rw [hf]
        · rw [hb, hf]; rfl
      · have hm' := List.mem_of_find?_eq_some hfind
        have hv' : via e 1 d = some n' := by simpa using List.find?_some hfind
        obtain ⟨p1, p2, p3, _⟩ := darts_pos d hm'
        rw [via_eq (by omega) hm'] at hv'
        by_cases hw : worth d = 1
        · rw [if_pos hw] at hv'
          have ht := p2 hw
          have : ends e d = false := by
            unfold ends
            rw [if_neg he]
            split <;> simp [ht]
          rw [this] at hv'
          cases hv'
        · rw [if_neg hw] at hv'
          have := hop_two hv'
          omega
end Dl
namespace Dl
open Km371

/-! ### Legs: what holds of them, and what a dart makes by the program's own order of tests -/
structure GoodNow (n i o : Nat) (x : Now) : Prop where
  len : x.players.length = n
  turn : x.turn < n
  left : 1 ≤ x.left
  opn : x.over = false → ∀ p ∈ x.players, open_ o p.score = true
  bg : open_ o x.began.score = true
  oi : i = 0 → (∀ p ∈ x.players, p.opened = true) ∧ x.began.opened = true
structure Good (l : Leg) : Prop where
  n1 : 1 ≤ l.n
  n4 : l.n ≤ 4
  i1 : l.in_ ≤ 1
  o2 : l.out ≤ 2
  now : GoodNow l.n l.in_ l.out l.now
  past : ∀ x ∈ l.past, GoodNow l.n l.in_ l.out x
  most : l.past.length ≤ 1000

theorem open_pos {o s : Nat} (h : open_ o s = true) : 1 ≤ s := by
  unfold open_ at h
  split at h <;> simp at h <;> omega
def nextV (x : Now) (q : Player) : Now := ⟨x.players.set x.turn q, (x.turn + 1) % x.players.length, 3, (x.players.set x.turn q).getD ((x.turn + 1) % x.players.length) ⟨0, false, 0⟩, false⟩
def wonV (x : Now) (q : Player) : Now := ⟨x.players.set x.turn q, x.turn, x.left, x.began, true⟩
def goV (x : Now) (q : Player) : Now := ⟨x.players.set x.turn q, x.turn, x.left - 1, x.began, false⟩
/-- has opened with this dart; the score behind it -/
def hoV (x : Now) (d : Dart) : Bool := (player x x.turn).opened || decide (d.times = 2)
def scV (x : Now) (d : Dart) : Int := if hoV x d = true then ((player x x.turn).score : Int) - (worth d : Nat) else ((player x x.turn).score : Int)
def thrownV (o : Nat) (x : Now) (d : Dart) : Now × Nat :=
  if hoV x d = true ∧ burst o (scV x d) d = true then (nextV x ⟨x.began.score, x.began.opened, (player x x.turn).thrown + 1⟩, 2)
  else if scV x d = 0 then (wonV x ⟨(scV x d).toNat, hoV x d, (player x x.turn).thrown + 1⟩, 3)
  else if x.left = 1 then (nextV x ⟨(scV x d).toNat, hoV x d, (player x x.turn).thrown + 1⟩, 1)
  else (goV x ⟨(scV x d).toNat, hoV x d, (player x x.turn).thrown + 1⟩, 0)

theorem player_mem {x : Now} {k : Nat} (h : k < x.players.length) : player x k ∈ x.players := by
  unfold player
  rw [List.getD_eq_getElem?_getD, List.getElem?_eq_getElem h]
  exact List.getElem_mem h
theorem pass_next {n : Nat} {x : Now} {q : Player} {b : Player} {f : Nat} (h : x.players.length = n) : pass n ⟨x.players.set x.turn q, x.turn, f, b, false⟩ = nextV x q := by
  unfold pass nextV player
  rw [h]
theorem dart_zero {d : Dart} (h : isDart d = true) : d.times = 0 → d.field = 0 := by
  unfold isDart at h
  intro z
  simp [z] at h
  exact h
theorem throw_is {l : Leg} {d : Dart} (g : Good l) (ho : l.now.over = false) (hd : isDart d = true) : throw_ l d = thrownV l.out l.now d := by
  have hlen := g.now.len
  have hp := player_mem (x := l.now) (k := l.now.turn) (by rw [hlen]; exact g.now.turn)
  have hopen := g.now.opn ho _ hp
  have hpos := open_pos hopen
  have hc : counts l d = hoV l.now d := by
    unfold counts hoV
    by_cases hi : l.in_ = 0
    · rw [(g.now.oi hi).1 _ hp] <;> rfl
    · have : l.in_ = 1 := by have := g.i1; omega
      rw [this]
      by_cases ht : d.times = 2 <;> simp [ht]
  have hoo : ((player l.now l.now.turn).opened || counts l d) = hoV l.now d := by
    rw [hc]
    unfold hoV
    cases (player l.now l.now.turn).opened <;> rfl
  unfold throw_ thrownV
  simp only []
  rw [hoo, hc]
  by_cases c : hoV l.now d = true
  · have sc : scV l.now d = ((player l.now l.now.turn).score : Int) - (worth d : Nat) := by unfold scV; rw [if_pos c]
    rw [sc]
    simp only [c, if_true, true_and]
    by_cases h1 : (player l.now l.now.turn).score = worth d ∧ ends l.out d = true
    · rw [if_pos h1, if_neg, if_pos (show ((player l.now l.now.turn).score : Int) - (worth d : Nat) = 0 by omega)]
      · unfold wonV
        have z : (((player l.now l.now.turn).score : Int) - (worth d : Nat)).toNat = 0 := by have := h1.1; omega
        rw [z]
      · unfold burst
        rw [if_neg (by omega), if_pos (by omega), h1.2]
        decide
    · rw [if_neg h1]
      by_cases h2 : (player l.now l.now.turn).score ≤ worth d ∨ open_ l.out ((player l.now l.now.turn).score - worth d) = false
      · rw [if_pos h2, if_pos, pass_next hlen]
        unfold burst
        by_cases h3 : ((player l.now l.now.turn).score : Int) - (worth d : Nat) < 0
        · rw [if_pos h3]
        · rw [if_neg h3]
          by_cases h4 : ((player l.now l.now.turn).score : Int) - (worth d : Nat) = 0
          · rw [if_pos h4]
            cases q : ends l.out d with
            | false => rfl
            | true => exact absurd ⟨by omega, q⟩ h1
          · rw [if_neg h4]
            rcases h2 with h2 | h2
            · omega
            · unfold open_ at h2
              by_cases h5 : l.out = 0
              · rw [if_pos h5] at h2; simp at h2; omega
              · rw [if_neg h5] at h2
                simp at h2
                simp [h5]
                omega
      · have h2a : ¬ (player l.now l.now.turn).score ≤ worth d := fun z => h2 (.inl z)
        have h2b : open_ l.out ((player l.now l.now.turn).score - worth d) = true := by
          cases q : open_ l.out ((player l.now l.now.turn).score - worth d) with
          | true => rfl
          | false => exact absurd (.inr q) h2
        have hb : ¬ burst l.out (((player l.now l.now.turn).score : Int) - (worth d : Nat)) d = true := by
          unfold burst
          rw [if_neg (by omega), if_neg (by omega)]
          unfold open_ at h2b
          by_cases h5 : l.out = 0
          · simp [h5]
          · rw [if_neg h5] at h2b
            simp at h2b
            simp [h5]
            omega
        rw [if_neg h2, if_neg hb, if_neg (show ¬ ((player l.now l.now.turn).score : Int) - (worth d : Nat) = 0 by omega)]
        have e : (((player l.now l.now.turn).score : Int) - (worth d : Nat)).toNat = (player l.now l.now.turn).score - worth d := by omega
        rw [e]
        by_cases h6 : l.now.left = 1
        · rw [if_pos h6, if_pos h6, pass_next hlen]
        · rw [if_neg h6, if_neg h6]
          rfl
  · have sc : scV l.now d = ((player l.now l.now.turn).score : Int) := by unfold scV; rw [if_neg c]
    have cf : hoV l.now d = false := by cases q : hoV l.now d with
      | false => rfl
      | true => exact absurd q c
    rw [sc]
    simp only [cf, if_false, false_and, Bool.false_eq_true]
    rw [if_neg (show ¬ ((player l.now l.now.turn).score = 0 ∧ ends l.out d = true) by omega), if_neg, if_neg (show ¬ ((player l.now l.now.turn).score : Int) = 0 by omega)]
    · have e : (((player l.now l.now.turn).score : Int)).toNat = (player l.now l.now.turn).score - 0 := by omega
      rw [e]
      by_cases h6 : l.now.left = 1
      · rw [if_pos h6, if_pos h6, pass_next hlen]
      · rw [if_neg h6, if_neg h6]
        rfl
    · intro z
      rcases z with z | z
      · omega
      · rw [Nat.sub_zero, hopen] at z; cases z

theorem mem_set {α : Type} {l : List α} {i : Nat} {q p : α} (h : p ∈ l.set i q) : p = q ∨ p ∈ l := by
  rcases List.mem_or_eq_of_mem_set h with h | h
  · exact .inr h
  · exact .inl h
theorem burst_open {o : Nat} {s : Int} {d : Dart} (h : ¬ burst o s d = true) (h0 : s ≠ 0) : open_ o s.toNat = true ∧ 0 < s := by
  unfold burst at h
  by_cases h1 : s < 0
  · rw [if_pos h1] at h; exact absurd rfl h
  · rw [if_neg h1, if_neg h0] at h
    unfold open_
    by_cases h2 : o = 0
    · rw [if_pos h2]
      refine ⟨by simp; omega, by omega⟩
    · rw [if_neg h2]
      simp [h2] at h
      refine ⟨by simp; omega, by omega⟩
theorem good_next {n i o : Nat} {x : Now} {q : Player} (hn : 1 ≤ n) (g : GoodNow n i o x) (ho : x.over = false) (hq : open_ o q.score = true) (hi : i = 0 → q.opened = true) : GoodNow n i o (nextV x q) := by
  have hl : (x.players.set x.turn q).length = n := by rw [List.length_set]; exact g.len
  have hall : ∀ p ∈ x.players.set x.turn q, open_ o p.score = true := fun p hp => by
    rcases mem_set hp with rfl | hp
    · exact hq
    · exact g.opn ho p hp
  have hop : i = 0 → ∀ p ∈ x.players.set x.turn q, p.opened = true := fun z p hp => by
    rcases mem_set hp with rfl | hp
    · exact hi z
    · exact (g.oi z).1 p hp
  have ht : (x.turn + 1) % x.players.length < n := by rw [g.len]; exact Nat.mod_lt _ hn
  have hm : (x.players.set x.turn q).getD ((x.turn + 1) % x.players.length) ⟨0, false, 0⟩ ∈ x.players.set x.turn q := by
    rw [List.getD_eq_getElem?_getD, List.getElem?_eq_getElem (by rw [hl]; exact ht)]
    exact List.getElem_mem _
  exact ⟨hl, ht, by show 1 ≤ 3; decide, fun _ => hall, hall _ hm, fun z => ⟨hop z, hop z _ hm⟩⟩
theorem good_thrown {n i o : Nat} {x : Now} {d : Dart} (hn : 1 ≤ n) (g : GoodNow n i o x) (ho : x.over = false) : GoodNow n i o (thrownV o x d).1 := by
  have hp := player_mem (x := x) (k := x.turn) (by rw [g.len]; exact g.turn)
  have hl : ∀ q, (x.players.set x.turn q).length = n := fun q => by rw [List.length_set]; exact g.len
  have hopen := g.opn ho _ hp
  have hpos := open_pos hopen
  have hho : i = 0 → hoV x d = true := fun z => by
    unfold hoV
    rw [(g.oi z).1 _ hp] <;> rfl
  have hop : ∀ q : Player, q.opened = hoV x d → i = 0 → ∀ p ∈ x.players.set x.turn q, p.opened = true := fun q hq z p hp => by
    rcases mem_set hp with rfl | hp
    · rw [hq]; exact hho z
    · exact (g.oi z).1 p hp
  unfold thrownV
  by_cases c1 : hoV x d = true ∧ burst o (scV x d) d = true
  · rw [if_pos c1]
    exact good_next hn g ho g.bg fun z => (g.oi z).2
  · rw [if_neg c1]
    by_cases c2 : scV x d = 0
    · rw [if_pos c2]
      exact ⟨hl _, g.turn, g.left, fun z => (Bool.noConfusion (z : true = false)), g.bg, fun z => ⟨hop _ rfl z, (g.oi z).2⟩⟩
    · rw [if_neg c2]
      have hsc : open_ o (scV x d).toNat = true := by
        by_cases c3 : hoV x d = true
        · exact (burst_open (fun z => c1 ⟨c3, z⟩) c2).1
        · unfold scV
          rw [if_neg c3]
          rw [Int.toNat_natCast]
          exact hopen
      by_cases c4 : x.left = 1
      · rw [if_pos c4]
        exact good_next hn g ho hsc hho
      · rw [if_neg c4]
        refine ⟨hl _, g.turn, ?_, fun _ p hp => ?_, g.bg, fun z => ⟨hop _ rfl z, (g.oi z).2⟩⟩
        · have := g.left
          show 1 ≤ x.left - 1
          omega
        · rcases mem_set hp with rfl | hp
          · exact hsc
          · exact g.opn ho p hp
theorem good_fresh {n s i o : Nat} (h1 : 1 ≤ n) (h4 : n ≤ 4) (hs : 2 ≤ s) (hi : i ≤ 1) (ho : o ≤ 2) : Good (fresh n s i o) := by
  have hop : open_ o s = true := by
    unfold open_
    split <;> simp <;> omega
  refine ⟨h1, h4, hi, ho, ⟨List.length_replicate, h1, by show 1 ≤ 3; decide, fun _ p hp => ?_, hop, fun z => ⟨fun p hp => ?_, ?_⟩⟩, fun x hx => (by cases hx), Nat.zero_le _⟩
  · rw [List.eq_of_mem_replicate hp]; exact hop
  · rw [List.eq_of_mem_replicate hp]
    have z : i = 0 := z
    subst z
    rfl
  · have z : i = 0 := z
    subst z
    rfl
theorem act_start (l : Leg) (n s i o : Nat) : act l (.start n s i o) = if n = 0 ∨ PLAYERS < n ∨ s < 2 ∨ MOST < s ∨ 1 < i ∨ 2 < o then (l, only (-22)) else (fresh n s i o, only 0) := rfl
theorem act_dart (l : Leg) (f t : Nat) : act l (.dart f t) = if isDart ⟨f, t⟩ = false then (l, only (-22)) else if l.now.over = true then (l, only (-16)) else if DARTS ≤ l.past.length then (l, only (-28)) else
    (⟨l.n, l.in_, l.out, (throw_ l ⟨f, t⟩).1, l.now :: l.past⟩, only (((throw_ l ⟨f, t⟩).2 : Nat) : Int)) := rfl
theorem good_act {l : Leg} (g : Good l) (x : Km371.Call) : Good (act l x).1 := by
  cases x with
  | start n s i o =>
    rw [act_start]
    by_cases h : n = 0 ∨ PLAYERS < n ∨ s < 2 ∨ MOST < s ∨ 1 < i ∨ 2 < o
    · rw [if_pos h]; exact g
    · rw [if_neg h]
      simp only [PLAYERS, MOST] at h
      exact good_fresh (by omega) (by omega) (by omega) (by omega) (by omega)
  | dart f t =>
    rw [act_dart]
    by_cases h1 : isDart ⟨f, t⟩ = false
    · rw [if_pos h1]; exact g
    · rw [if_neg h1]
      by_cases h2 : l.now.over = true
      · rw [if_pos h2]; exact g
      · rw [if_neg h2]
        by_cases h3 : DARTS ≤ l.past.length
        · rw [if_pos h3]; exact g
        · rw [if_neg h3]
          simp only [DARTS] at h3
          have h2' : l.now.over = false := by cases q : l.now.over with
            | false => rfl
            | true => exact absurd q h2
          have h1' : isDart ⟨f, t⟩ = true := by cases q : isDart ⟨f, t⟩ with
            | true => rfl
            | false => exact absurd q h1
          refine ⟨g.n1, g.n4, g.i1, g.o2, ?_, fun y hy => ?_, ?_⟩
          · show GoodNow l.n l.in_ l.out (throw_ l ⟨f, t⟩).1
            rw [throw_is g h2' h1']
            exact good_thrown g.n1 g.now h2'
          · rcases List.mem_cons.mp hy with rfl | hy
            · exact g.now
            · exact g.past y hy
          · show (l.now :: l.past).length ≤ 1000
            rw [List.length_cons]
            omega
  | back =>
    unfold act
    cases h : l.past with
    | nil => exact g
    | cons y r =>
      refine ⟨g.n1, g.n4, g.i1, g.o2, g.past y (by rw [h]; exact List.mem_cons_self ..), fun z hz => g.past z (by rw [h]; exact List.mem_cons_of_mem _ hz), ?_⟩
      have := g.most
      rw [h, List.length_cons] at this
      show r.length ≤ 1000
      omega
  | player k => exact g
  | turn => exact g
  | fewest o s => exact g
end Dl
namespace Dl
open Km371

/-! ### The list of calls, one behind another -/
/-- a call by its word and its numbers -/
inductive Word : Int → List Int → Km371.Call → Prop
  | start (n s i o : Nat) : Word 0 [(n : Int), (s : Int), (i : Int), (o : Int)] (.start n s i o)
  | dart (f t : Nat) : Word 1 [(f : Int), (t : Int)] (.dart f t)
  | back : Word 2 [] .back
  | player (k : Nat) : Word 3 [(k : Int)] (.player k)
  | turn : Word 4 [] .turn
  | fewest (o s : Nat) : Word 5 [(o : Int), (s : Int)] (.fewest o s)
/-- what a call makes of the object, and what it answers -/
def stepC (s : Option Leg) (x : Km371.Call) : Option Leg × List Int := match s with
  | some a => (some (act a x).1, Km371Neutral.told (act a x).2)
  | none => if Km371Neutral.isStart x then (if (Km371Neutral.told (act (fresh 1 2 0 0) x).2).headD 0 < 0 then none else some (act (fresh 1 2 0 0) x).1, Km371Neutral.told (act (fresh 1 2 0 0) x).2) else (none, [])
theorem step_of {s : Option Leg} {c : Km371Neutral.Call} {x : Km371.Call} (h : Km371Neutral.callOf c = some x) : Km371Neutral.step s c = stepC s x := by
  unfold Km371Neutral.step stepC
  rw [h]
  cases s with
  | none =>
    rfl
  | some a => rfl
/-- how many numbers a word has -/
def many (w : Int) : Nat := if w = 0 then 4 else if w = 1 then 2 else if w = 2 then 0 else if w = 3 then 1 else if w = 4 then 0 else 2
theorem natural_nat {z : Int} {b : Nat} (h : Km371Neutral.natural z b = true) : ∃ n : Nat, z = (n : Int) := by
  unfold Km371Neutral.natural at h
  rw [Bool.and_eq_true, decide_eq_true_eq] at h
  exact ⟨z.toNat, by omega⟩
theorem told_len (l : Leg) (x : Km371.Call) : 1 ≤ (Km371Neutral.told (act l x).2).length ∧ (Km371Neutral.told (act l x).2).length ≤ 4 := by
  have h : ∀ a : Ans, (Km371Neutral.told a).length = a.out.length + 1 := fun a => by
    unfold Km371Neutral.told Km371Neutral.nums
    rw [List.length_cons, List.length_map]
  rw [h]
  refine ⟨by omega, ?_⟩
  have : (act l x).2.out.length ≤ 3 := by
    cases x with
    | start n s i o => rw [act_start]; split <;> exact Nat.zero_le _
    | dart f t => rw [act_dart]; split; exact Nat.zero_le _; split; exact Nat.zero_le _; split <;> exact Nat.zero_le _
    | back =>
      unfold act
      cases l.past <;> exact Nat.zero_le _
    | player k =>
      show (if l.n ≤ k then only (-2) else _ : Ans).out.length ≤ 3
      split
      · exact Nat.zero_le _
      · show 2 ≤ 3; decide
    | turn => exact Nat.le_refl 3
    | fewest o s =>
      show (if 2 < o ∨ s = 0 ∨ MOST < s then only (-22) else _ : Ans).out.length ≤ 3
      split
      · exact Nat.zero_le _
      · split
        · show 2 ≤ 3; decide
        · exact Nat.zero_le _
  omega
theorem stepC_len (s : Option Leg) (x : Km371.Call) : (stepC s x).2.length ≤ 4 := by
  cases s with
  | some a => exact (told_len a x).2
  | none =>
    unfold stepC
    simp only []
    split
    · exact (told_len _ x).2
    · exact Nat.zero_le _

/-- where one stands in the list: what is behind i is still to be read, out is answered -/
structure Rest (l : List Int) (i : Nat) (s : Option Leg) (out : List Int) : Prop where
  le : i ≤ l.length
  ex : ∃ (f : Nat) (cs : List (List (List Int))), PyFlat.calls PyKm371.shape f (l.drop i) = some cs ∧ out.length + 5 * cs.length ≤ 10000 ∧ (cs.map PyKm371.whole).all Km371Neutral.asked1 = true ∧
    Km371Neutral.may s (cs.map PyKm371.whole) = true ∧ PyKm371.answers l = out ++ PyFlat.told (PyFlat.played Km371Neutral.step s (cs.map PyKm371.whole))
theorem rest_start {l : List Int} (h : PyKm371.answers_asked l = true) : Rest l 0 none [] := by
  unfold PyKm371.answers_asked at h
  cases e : PyFlat.calls PyKm371.shape l.length l with
  | none => rw [e] at h; cases h
  | some raw =>
    rw [e] at h
    simp only [Bool.and_eq_true] at h
    obtain ⟨⟨⟨⟨_, h2⟩, _⟩, h4⟩, _⟩ := h
    unfold Km371Neutral.asked at h4
    simp only [Bool.and_eq_true, decide_eq_true_eq] at h4
    unfold PyFlat.atMost at h2
    rw [decide_eq_true_eq] at h2
    refine ⟨Nat.zero_le _, l.length, raw, e, by show 0 + _ ≤ _; omega, h4.2.2.1, h4.2.2.2, ?_⟩
    show PyKm371.answers l = [] ++ _
    unfold PyKm371.answers PyKm371.calls
    rw [e] <;> rfl
theorem rest_end {l : List Int} {s : Option Leg} {out : List Int} (h : Rest l l.length s out) : PyKm371.answers l = out := by
  obtain ⟨f, cs, e, _, _, _, h5⟩ := h.ex
  rw [List.drop_length] at e
  have : cs = [] := by
    cases f with
    | zero => exact (Option.some.inj e).symm
    | succ f => exact (Option.some.inj e).symm
  subst this
  rw [h5]
  show out ++ [] = out
  rw [List.append_nil]
theorem shape_some {p : Int} {n k : Nat} (h : PyKm371.shape p = some (n, k)) : (p = 0 ∨ p = 1 ∨ p = 2 ∨ p = 3 ∨ p = 4 ∨ p = 5) ∧ n = many p ∧ k = 0 := by
  unfold PyKm371.shape at h
  unfold many
  by_cases h0 : p = 0
  · rw [if_pos h0] at h ⊢; cases h; exact ⟨.inl h0, rfl, rfl⟩
  rw [if_neg h0] at h ⊢
  by_cases h1 : p = 1
  · rw [if_pos h1] at h ⊢; cases h; exact ⟨.inr (.inl h1), rfl, rfl⟩
  rw [if_neg h1] at h ⊢
  by_cases h2 : p = 2
  · rw [if_pos h2] at h ⊢; cases h; exact ⟨.inr (.inr (.inl h2)), rfl, rfl⟩
  rw [if_neg h2] at h ⊢
  by_cases h3 : p = 3
  · rw [if_pos h3] at h ⊢; cases h; exact ⟨.inr (.inr (.inr (.inl h3))), rfl, rfl⟩
  rw [if_neg h3] at h ⊢
  by_cases h4 : p = 4
  · rw [if_pos h4] at h ⊢; cases h; exact ⟨.inr (.inr (.inr (.inr (.inl h4)))), rfl, rfl⟩
  rw [if_neg h4] at h ⊢
  by_cases h5 : p = 5
  · rw [if_pos h5] at h; cases h; exact ⟨.inr (.inr (.inr (.inr (.inr h5)))), rfl, rfl⟩
  rw [if_neg h5] at h
  cases h
theorem len0 {α : Type} {l : List α} (h : l.length = 0) : l = [] := List.length_eq_zero_iff.mp h
theorem len1 {α : Type} {l : List α} (h : l.length = 1) : ∃ a, l = [a] := List.length_eq_one_iff.mp h
theorem len2 {α : Type} {l : List α} (h : l.length = 2) : ∃ a b, l = [a, b] := by
  match l, h with
  | [a, b], _ => exact ⟨a, b, rfl⟩
theorem len4 {α : Type} {l : List α} (h : l.length = 4) : ∃ a b c d, l = [a, b, c, d] := by
  match l, h with
  | [a, b, c, d], _ => exact ⟨a, b, c, d, rfl⟩
theorem word_of {p : Int} {xs : List Int} (hp : p = 0 ∨ p = 1 ∨ p = 2 ∨ p = 3 ∨ p = 4 ∨ p = 5) (hl : xs.length = many p) (ha : Km371Neutral.asked1 (PyKm371.whole [p :: xs]) = true) :
    ∃ x, Word p xs x ∧ PyKm371.whole [p :: xs] = [p :: xs] ∧ Km371Neutral.callOf [p :: xs] = some x := by
  rcases hp with rfl | rfl | rfl | rfl | rfl | rfl
  · obtain ⟨a, b, c, d, rfl⟩ := len4 (show xs.length = 4 from hl)
    have ha : (Km371Neutral.natural a 32 && Km371Neutral.natural b 32 && Km371Neutral.natural c 32 && Km371Neutral.natural d 32) = true := ha
    simp only [Bool.and_eq_true] at ha
    obtain ⟨n1, rfl⟩ := natural_nat ha.1.1.1
    obtain ⟨n2, rfl⟩ := natural_nat ha.1.1.2
    obtain ⟨n3, rfl⟩ := natural_nat ha.1.2
    obtain ⟨n4, rfl⟩ := natural_nat ha.2
    exact ⟨_, .start n1 n2 n3 n4, rfl, rfl⟩
  · obtain ⟨a, b, rfl⟩ := len2 (show xs.length = 2 from hl)
    have ha : (Km371Neutral.natural a 32 && Km371Neutral.natural b 32) = true := ha
    simp only [Bool.and_eq_true] at ha
    obtain ⟨n1, rfl⟩ := natural_nat ha.1
    obtain ⟨n2, rfl⟩ := natural_nat ha.2
    exact ⟨_, .dart n1 n2, rfl, rfl⟩
  · obtain rfl := len0 (show xs.length = 0 from hl)
    exact ⟨_, .back, rfl, rfl⟩
  · obtain ⟨a, rfl⟩ := len1 (show xs.length = 1 from hl)
    have ha : Km371Neutral.natural a 32 = true := ha
    obtain ⟨n1, rfl⟩ := natural_nat ha
    exact ⟨_, .player n1, rfl, rfl⟩
  · obtain rfl := len0 (show xs.length = 0 from hl)
    exact ⟨_, .turn, rfl, rfl⟩
  · obtain ⟨a, b, rfl⟩ := len2 (show xs.length = 2 from hl)
    have ha : (Km371Neutral.natural a 32 && Km371Neutral.natural b 32) = true := ha
    simp only [Bool.and_eq_true] at ha
    obtain ⟨n1, rfl⟩ := natural_nat ha.1
    obtain ⟨n2, rfl⟩ := natural_nat ha.2
    exact ⟨_, .fewest n1 n2, rfl, rfl⟩
/-- the next call -/
theorem rest_next {l : List Int} {i : Nat} {s : Option Leg} {out : List Int} (h : Rest l i s out) (hi : i < l.length) : ∃ (w : Int) (xs : List Int) (x : Km371.Call), l[i]? = some w ∧ xs = (l.drop (i + 1)).take (many w) ∧ xs.length = many w ∧
    i + 1 + many w ≤ l.length ∧ (w = 0 ∨ w = 1 ∨ w = 2 ∨ w = 3 ∨ w = 4 ∨ w = 5) ∧ Word w xs x ∧ (stepC s x).2 ≠ [] ∧ out.length + 5 ≤ 10000 ∧ Rest l (i + 1 + many w) (stepC s x).1 (out ++ (((stepC s x).2.length : Nat) : Int) :: (stepC s x).2) := by
  obtain ⟨f, cs, e, hb, ha, hm, ho⟩ := h.ex
  have hdrop : l.drop i = l[i] :: l.drop (i + 1) := List.drop_eq_getElem_cons hi
  rw [hdrop] at e
  cases f with
  | zero => cases e
  | succ f =>
    unfold PyFlat.calls PyFlat.call at e
    simp only [] at e
    cases hs : PyKm371.shape l[i] with
    | none => rw [hs] at e; cases e
    | some nk =>
      obtain ⟨n, k⟩ := nk
      obtain ⟨hw, rfl, rfl⟩ := shape_some hs
      rw [hs] at e
      simp only [] at e
      by_cases hlen : (l.drop (i + 1)).length < many l[i]
      · rw [if_pos hlen] at e; cases e
      · rw [if_neg hlen] at e
        unfold PyFlat.rows at e
        simp only [] at e
        cases hc : PyFlat.calls PyKm371.shape f ((l.drop (i + 1)).drop (many l[i])) with
        | none => rw [hc] at e; cases e
        | some cs' =>
          rw [hc] at e
          have e := Option.some.inj e
          subst e
          have hl2 : i + 1 + many l[i] ≤ l.length := by
            rw [List.length_drop] at hlen
            omega
          have hxl : ((l.drop (i + 1)).take (many l[i])).length = many l[i] := by
            rw [List.length_take, List.length_drop]
            omega
          rw [List.map_cons, List.all_cons, Bool.and_eq_true] at ha
          obtain ⟨x, hx, hwhole, hcall⟩ := word_of hw hxl ha.1
          rw [List.map_cons, hwhole] at hm ho
          have hst := step_of (s := s) hcall
          unfold Km371Neutral.may at hm
          rw [hst, Bool.and_eq_true] at hm
          have hne : (stepC s x).2 ≠ [] := by
            intro z
            rw [z] at hm
            exact Bool.noConfusion hm.1
          refine ⟨l[i], _, x, List.getElem?_eq_getElem hi, rfl, hxl, hl2, hw, hx, hne, by rw [List.length_cons] at hb; omega, hl2, f, cs', ?_, ?_, ha.2, hm.2, ?_⟩
          · rw [List.drop_drop] at hc
            exact hc
          · have := stepC_len s x
            rw [List.length_cons] at hb
            rw [List.length_append, List.length_cons]
            omega
          · have hpl : ∀ (c : List (List Int)) (r : List (List (List Int))), PyFlat.played Km371Neutral.step s (c :: r) = (Km371Neutral.step s c).2 :: PyFlat.played Km371Neutral.step (Km371Neutral.step s c).1 r := fun _ _ => rfl
            rw [ho, hpl, hst]
            unfold PyFlat.told
            rw [List.flatMap_cons, List.append_assoc]
end Dl
namespace Dl
open PySem PySem.Spec PyProof.Rows L2
/-! ### The text by places -/
def top (i : Nat) : Stmt := PySem.Challenge.pw_dartsleg_s01_answers.main.body.getD i (.Pass ⟨0, 0, 0, 0⟩)
/-! ### Fields -/
theorem lk_here {k : Str} {v : V} {r : List (Str × V)} : List.lookup k ((k, v) :: r) = some v := by
  have e : (k == k) = true := beq_self_eq_true k
  simp only [List.lookup, e]
theorem lk_past {k g : Str} {v : V} {r : List (Str × V)} (h : (k == g) = false) : List.lookup k ((g, v) :: r) = List.lookup k r := by
  simp only [List.lookup, h]
theorem put_here {f : Str} {v x : V} {r : List (Str × V)} : putF f v ((f, x) :: r) = (f, v) :: r := if_pos rfl
theorem put_past {f g : Str} {v x : V} {r : List (Str × V)} (h : ¬ g = f) : putF f v ((g, x) :: r) = (g, x) :: putF f v r := if_neg h
theorem put_nil {f : Str} {v : V} : putF f v [] = [(f, v)] := rfl

def fP (v0 v1 v2 : V) : List (Str × V) := [("score", v0), ("has_opened", v1), ("darts", v2)]
theorem fP_len (v0 v1 v2 : V) : (fP v0 v1 v2).length < 1000 := by show 3 < 1000; decide
theorem fP_score (v0 v1 v2 : V) : (fP v0 v1 v2).lookup ("score" : Str) = some v0 := lk_here
theorem fP_has_opened (v0 v1 v2 : V) : (fP v0 v1 v2).lookup ("has_opened" : Str) = some v1 := ((lk_past (by decide +kernel)).trans lk_here)
theorem fP_darts (v0 v1 v2 : V) : (fP v0 v1 v2).lookup ("darts" : Str) = some v2 := ((lk_past (by decide +kernel)).trans ((lk_past (by decide +kernel)).trans lk_here))
theorem fP_put1 (v0 v1 : V) : putF "has_opened" v1 ([("score", v0)] : List (Str × V)) = ([("score", v0), ("has_opened", v1)] : List (Str × V)) := by
  rw [put_past (by decide +kernel), put_nil]
theorem fP_put2 (v0 v1 v2 : V) : putF "darts" v2 ([("score", v0), ("has_opened", v1)] : List (Str × V)) = ([("score", v0), ("has_opened", v1), ("darts", v2)] : List (Str × V)) := by
  rw [put_past (by decide +kernel), put_past (by decide +kernel), put_nil]
def fS (v0 v1 v2 v3 v4 : V) : List (Str × V) := [("players", v0), ("turn", v1), ("left", v2), ("began", v3), ("is_over", v4)]
theorem fS_len (v0 v1 v2 v3 v4 : V) : (fS v0 v1 v2 v3 v4).length < 1000 := by show 5 < 1000; decide
theorem fS_players (v0 v1 v2 v3 v4 : V) : (fS v0 v1 v2 v3 v4).lookup ("players" : Str) = some v0 := lk_here
theorem fS_turn (v0 v1 v2 v3 v4 : V) : (fS v0 v1 v2 v3 v4).lookup ("turn" : Str) = some v1 := ((lk_past (by decide +kernel)).trans lk_here)
theorem fS_left (v0 v1 v2 v3 v4 : V) : (fS v0 v1 v2 v3 v4).lookup ("left" : Str) = some v2 := ((lk_past (by decide +kernel)).trans ((lk_past (by decide +kernel)).trans lk_here))
theorem fS_began (v0 v1 v2 v3 v4 : V) : (fS v0 v1 v2 v3 v4).lookup ("began" : Str) = some v3 := ((lk_past (by decide +kernel)).trans ((lk_past (by decide +kernel)).trans ((lk_past (by decide +kernel)).trans lk_here)))
theorem fS_is_over (v0 v1 v2 v3 v4 : V) : (fS v0 v1 v2 v3 v4).lookup ("is_over" : Str) = some v4 := ((lk_past (by decide +kernel)).trans ((lk_past (by decide +kernel)).trans ((lk_past (by decide +kernel)).trans ((lk_past (by decide +kernel)).trans lk_here))))
theorem fS_no_thrower (v0 v1 v2 v3 v4 : V) : (fS v0 v1 v2 v3 v4).lookup ("thrower" : Str) = none := ((lk_past (by decide +kernel)).trans ((lk_past (by decide +kernel)).trans ((lk_past (by decide +kernel)).trans ((lk_past (by decide +kernel)).trans ((lk_past (by decide +kernel)).trans rfl)))))
theorem fS_no_with_thrower (v0 v1 v2 v3 v4 : V) : (fS v0 v1 v2 v3 v4).lookup ("with_thrower" : Str) = none := ((lk_past (by decide +kernel)).trans ((lk_past (by decide +kernel)).trans ((lk_past (by decide +kernel)).trans ((lk_past (by decide +kernel)).trans ((lk_past (by decide +kernel)).trans rfl)))))
theorem fS_no_going_on (v0 v1 v2 v3 v4 : V) : (fS v0 v1 v2 v3 v4).lookup ("going_on" : Str) = none := ((lk_past (by decide +kernel)).trans ((lk_past (by decide +kernel)).trans ((lk_past (by decide +kernel)).trans ((lk_past (by decide +kernel)).trans ((lk_past (by decide +kernel)).trans rfl)))))
theorem fS_no_won (v0 v1 v2 v3 v4 : V) : (fS v0 v1 v2 v3 v4).lookup ("won" : Str) = none := ((lk_past (by decide +kernel)).trans ((lk_past (by decide +kernel)).trans ((lk_past (by decide +kernel)).trans ((lk_past (by decide +kernel)).trans ((lk_past (by decide +kernel)).trans rfl)))))
theorem fS_no_next_visit (v0 v1 v2 v3 v4 : V) : (fS v0 v1 v2 v3 v4).lookup ("next_visit" : Str) = none := ((lk_past (by decide +kernel)).trans ((lk_past (by decide +kernel)).trans ((lk_past (by decide +kernel)).trans ((lk_past (by decide +kernel)).trans ((lk_past (by decide +kernel)).trans rfl)))))
theorem fS_put1 (v0 v1 : V) : putF "turn" v1 ([("players", v0)] : List (Str × V)) = ([("players", v0), ("turn", v1)] : List (Str × V)) := by
  rw [put_past (by decide +kernel), put_nil]
theorem fS_put2 (v0 v1 v2 : V) : putF "left" v2 ([("players", v0), ("turn", v1)] : List (Str × V)) = ([("players", v0), ("turn", v1), ("left", v2)] : List (Str × V)) := by
  rw [put_past (by decide +kernel), put_past (by decide +kernel), put_nil]
theorem fS_put3 (v0 v1 v2 v3 : V) : putF "began" v3 ([("players", v0), ("turn", v1), ("left", v2)] : List (Str × V)) = ([("players", v0), ("turn", v1), ("left", v2), ("began", v3)] : List (Str × V)) := by
  rw [put_past (by decide +kernel), put_past (by decide +kernel), put_past (by decide +kernel), put_nil]
theorem fS_put4 (v0 v1 v2 v3 v4 : V) : putF "is_over" v4 ([("players", v0), ("turn", v1), ("left", v2), ("began", v3)] : List (Str × V)) = ([("players", v0), ("turn", v1), ("left", v2), ("began", v3), ("is_over", v4)] : List (Str × V)) := by
  rw [put_past (by decide +kernel), put_past (by decide +kernel), put_past (by decide +kernel), put_past (by decide +kernel), put_nil]
def fR (v0 v1 : V) : List (Str × V) := [("opens", v0), ("ends", v1)]
theorem fR_len (v0 v1 : V) : (fR v0 v1).length < 1000 := by show 2 < 1000; decide
theorem fR_opens (v0 v1 : V) : (fR v0 v1).lookup ("opens" : Str) = some v0 := lk_here
theorem fR_ends (v0 v1 : V) : (fR v0 v1).lookup ("ends" : Str) = some v1 := ((lk_past (by decide +kernel)).trans lk_here)
theorem fR_put1 (v0 v1 : V) : putF "ends" v1 ([("opens", v0)] : List (Str × V)) = ([("opens", v0), ("ends", v1)] : List (Str × V)) := by
  rw [put_past (by decide +kernel), put_nil]
def fB (v0 v1 v2 : V) : List (Str × V) := [("rules", v0), ("states", v1), ("fewest", v2)]
theorem fB_len (v0 v1 v2 : V) : (fB v0 v1 v2).length < 1000 := by show 3 < 1000; decide
theorem fB_rules (v0 v1 v2 : V) : (fB v0 v1 v2).lookup ("rules" : Str) = some v0 := lk_here
theorem fB_states (v0 v1 v2 : V) : (fB v0 v1 v2).lookup ("states" : Str) = some v1 := ((lk_past (by decide +kernel)).trans lk_here)
theorem fB_fewest (v0 v1 v2 : V) : (fB v0 v1 v2).lookup ("fewest" : Str) = some v2 := ((lk_past (by decide +kernel)).trans ((lk_past (by decide +kernel)).trans lk_here))
theorem fB_no_start (v0 v1 v2 : V) : (fB v0 v1 v2).lookup ("start" : Str) = none := ((lk_past (by decide +kernel)).trans ((lk_past (by decide +kernel)).trans ((lk_past (by decide +kernel)).trans rfl)))
theorem fB_no_here (v0 v1 v2 : V) : (fB v0 v1 v2).lookup ("here" : Str) = none := ((lk_past (by decide +kernel)).trans ((lk_past (by decide +kernel)).trans ((lk_past (by decide +kernel)).trans rfl)))
theorem fB_no_throw (v0 v1 v2 : V) : (fB v0 v1 v2).lookup ("throw" : Str) = none := ((lk_past (by decide +kernel)).trans ((lk_past (by decide +kernel)).trans ((lk_past (by decide +kernel)).trans rfl)))
theorem fB_no_back (v0 v1 v2 : V) : (fB v0 v1 v2).lookup ("back" : Str) = none := ((lk_past (by decide +kernel)).trans ((lk_past (by decide +kernel)).trans ((lk_past (by decide +kernel)).trans rfl)))
theorem fB_no_player (v0 v1 v2 : V) : (fB v0 v1 v2).lookup ("player" : Str) = none := ((lk_past (by decide +kernel)).trans ((lk_past (by decide +kernel)).trans ((lk_past (by decide +kernel)).trans rfl)))
theorem fB_no_turn_told (v0 v1 v2 : V) : (fB v0 v1 v2).lookup ("turn_told" : Str) = none := ((lk_past (by decide +kernel)).trans ((lk_past (by decide +kernel)).trans ((lk_past (by decide +kernel)).trans rfl)))
theorem fB_no_fewest_told (v0 v1 v2 : V) : (fB v0 v1 v2).lookup ("fewest_told" : Str) = none := ((lk_past (by decide +kernel)).trans ((lk_past (by decide +kernel)).trans ((lk_past (by decide +kernel)).trans rfl)))
theorem fB_no_answer (v0 v1 v2 : V) : (fB v0 v1 v2).lookup ("answer" : Str) = none := ((lk_past (by decide +kernel)).trans ((lk_past (by decide +kernel)).trans ((lk_past (by decide +kernel)).trans rfl)))
theorem fB_put1 (v0 v1 : V) : putF "states" v1 ([("rules", v0)] : List (Str × V)) = ([("rules", v0), ("states", v1)] : List (Str × V)) := by
  rw [put_past (by decide +kernel), put_nil]
theorem fB_put2 (v0 v1 v2 : V) : putF "fewest" v2 ([("rules", v0), ("states", v1)] : List (Str × V)) = ([("rules", v0), ("states", v1), ("fewest", v2)] : List (Str × V)) := by
  rw [put_past (by decide +kernel), put_past (by decide +kernel), put_nil]
theorem fB_set_rules (v0 v1 v2 x : V) : putF "rules" x (fB v0 v1 v2) = fB x v1 v2 := by
  unfold fB
  rw [put_here]
theorem fB_set_states (v0 v1 v2 x : V) : putF "states" x (fB v0 v1 v2) = fB v0 x v2 := by
  unfold fB
  rw [put_past (by decide +kernel), put_here]
theorem fB_set_fewest (v0 v1 v2 x : V) : putF "fewest" x (fB v0 v1 v2) = fB v0 v1 x := by
  unfold fB
  rw [put_past (by decide +kernel), put_past (by decide +kernel), put_here]
def fF (v0 : V) : List (Str × V) := [("tables", v0)]
theorem fF_len (v0 : V) : (fF v0).length < 1000 := by show 1 < 1000; decide
theorem fF_tables (v0 : V) : (fF v0).lookup ("tables" : Str) = some v0 := lk_here
theorem fF_no_table (v0 : V) : (fF v0).lookup ("table" : Str) = none := ((lk_past (by decide +kernel)).trans rfl)
theorem fF_no_told (v0 : V) : (fF v0).lookup ("told" : Str) = none := ((lk_past (by decide +kernel)).trans rfl)
theorem fF_set_tables (v0 x : V) : putF "tables" x (fF v0) = fF x := by
  unfold fF
  rw [put_here]

/-! ### How the data lie in the heap -/
abbrev iN (n : Nat) : V := .int ((n : Nat) : Int)
def DartAt (H : Hp) (a : Addr) (d : Km371.Dart) : Prop := H a = some (.tup [iN d.field, iN d.times])
/-- lists of addresses, item by item -/
def All2 {α : Type} (R : Addr → α → Prop) (as : List Addr) (xs : List α) : Prop := as.length = xs.length ∧ ∀ (i : Nat) a x, as[i]? = some a → xs[i]? = some x → R a x
def PlAt (CP : Addr) (H : Hp) (a : Addr) (p : Km371.Player) : Prop := ∃ dx, H a = some (.ins CP dx (fP (iN p.score) (.bl p.opened) (iN p.thrown)))
def StAt (CP CS : Addr) (H : Hp) (a : Addr) (x : Km371.Now) : Prop := ∃ (dx lp bp : Addr) (as : List Addr), H a = some (.ins CS dx (fS (.ref lp) (iN x.turn) (iN x.left) (.ref bp) (.bl x.over))) ∧ H lp = some (.lst (as.map V.ref)) ∧ as ≠ [] ∧
  All2 (PlAt CP H) as x.players ∧ PlAt CP H bp x.began
def RuAt (CR : Addr) (H : Hp) (a : Addr) (i o : Nat) : Prop := ∃ dx, H a = some (.ins CR dx (fR (iN i) (iN o)))
/-- what stands at a score in a table -/
def EntAt (H : Hp) (e : Nat) (i : Nat) (v : V) : Prop := (i = 0 ∧ ∃ a, v = .ref a ∧ H a = some (.tup [.int 0, .non])) ∨ (1 ≤ i ∧ best e i = none ∧ v = .non) ∨
  (1 ≤ i ∧ ∃ n d a b, best e i = some (n, d) ∧ v = .ref a ∧ H a = some (.tup [iN n, .ref b]) ∧ DartAt H b d)
def TabAt (H : Hp) (a : Addr) (e n : Nat) : Prop := ∃ vs : List V, H a = some (.lst vs) ∧ vs.length = n ∧ ∀ (i : Nat) v, vs[i]? = some v → EntAt H e i v
def has (kvs : List (Key × V)) (e : Nat) : Nat := if (valV kvs (Sum.inl ((e : Nat) : Int))).isSome = true then 1 else 0
/-- the dict of the tables -/
def TbsAt (H : Hp) (d : Addr) : Prop := ∃ kvs : List (Key × V), H d = some (.dK kvs) ∧ kvs.length ≤ has kvs 0 + has kvs 1 + has kvs 2 ∧ ∀ (e : Nat) v, e ≤ 2 → valV kvs (Sum.inl ((e : Nat) : Int)) = some v → ∃ l, v = .ref l ∧ TabAt H l e 1002
def FewAt (CF : Addr) (H : Hp) (f : Addr) : Prop := ∃ dx d, H f = some (.ins CF dx (fF (.ref d))) ∧ TbsAt H d
def LegAt (CR CP CS : Addr) (H : Hp) (ra sa : Addr) (l : Km371.Leg) : Prop := Good l ∧ RuAt CR H ra l.in_ l.out ∧ ∃ ss : List Addr, H sa = some (.lst (ss.map V.ref)) ∧ All2 (StAt CP CS H) ss (l.now :: l.past).reverse
def BoAt (CF CR CP CS CB : Addr) (H : Hp) (b : Addr) (s : Option Km371.Leg) : Prop := ∃ dx ra sa fa, H b = some (.ins CB dx (fB (.ref ra) (.ref sa) (.ref fa))) ∧ FewAt CF H fa ∧ ∀ l, s = some l → LegAt CR CP CS H ra sa l

/-! ### What stays -/
/-- no object of the two classes that change -/
def NoB (CB CF : Addr) : HO → Prop
  | .ins C _ _ => C ≠ CB ∧ C ≠ CF
  | _ => True
/-- no list of ints alone -/
def NoI : HO → Prop
  | .lst xs => ∃ x ∈ xs, ∀ i, x ≠ V.int i
  | _ => True
def Kp (P : HO → Prop) (H H' : Hp) : Prop := ∀ a o, H a = some o → P o → H' a = some o
def But (f : Addr) (H H' : Hp) : Prop := ∀ a o, H a = some o → a ≠ f → H' a = some o
theorem kp_same {P : HO → Prop} {H H' : Hp} (h : Same H H') : Kp P H H' := fun a o e _ => h a o e
theorem Kp.trans {P : HO → Prop} {H H1 H2 : Hp} (h : Kp P H H1) (g : Kp P H1 H2) : Kp P H H2 := fun a o e p => g a o (h a o e p) p
theorem Kp.weak {P R : HO → Prop} {H H1 : Hp} (h : Kp P H H1) (g : ∀ o, R o → P o) : Kp R H H1 := fun a o e p => h a o e (g o p)
theorem same_new {H : Hp} {p : Addr} {o : HO} (h : H p = none) : Same H (upd H p o) := fun b u e => by
  rw [upd_ne (ne_of_none e h)]
  exact e
theorem same_re {H H1 : Hp} {p : Addr} {o : HO} (h : H p = none) (s : Same H H1) : Same H (upd H1 p o) := fun b u e => by
  rw [upd_ne (ne_of_none e h)]
  exact s b u e
theorem but_self {H : Hp} {p : Addr} {o : HO} : But p H (upd H p o) := fun a u e n => by
  rw [upd_ne n]
  exact e
theorem But.trans {f : Addr} {H H1 H2 : Hp} (h : But f H H1) (g : But f H1 H2) : But f H H2 := fun a o e n => g a o (h a o e n) n
theorem same_but {f : Addr} {H H1 : Hp} (h : Same H H1) : But f H H1 := fun a o e _ => h a o e
theorem but_kp {f : Addr} {P : HO → Prop} {H H1 : Hp} {o : HO} (h : But f H H1) (e : H f = some o) (n : ¬ P o) : Kp P H H1 := fun a u ea pu => h a u ea fun z => by
  rw [z, e] at ea
  exact n (Option.some.inj ea ▸ pu)
theorem noI_refs {as : List Addr} (h : as ≠ []) : NoI (.lst (as.map V.ref)) := by
  cases as with
  | nil => exact absurd rfl h
  | cons a r => exact ⟨.ref a, List.mem_map.mpr ⟨a, List.mem_cons_self .., rfl⟩, fun i z => by cases z⟩
/-- what keeps an object keeps those that are built of it -/
structure KeepsD (P : HO → Prop) (CP CS CR : Addr) : Prop where
  tup : ∀ xs, P (.tup xs)
  refs : ∀ as : List Addr, as ≠ [] → P (.lst (as.map V.ref))
  tab : ∀ (vs : List V) a, vs[0]? = some (.ref a) → P (.lst vs)
  dic : ∀ kvs, P (.dK kvs)
  pl : ∀ dx fs, P (.ins CP dx fs)
  st : ∀ dx fs, P (.ins CS dx fs)
  ru : ∀ dx fs, P (.ins CR dx fs)
theorem tab_noI {vs : List V} {a : Addr} (h : vs[0]? = some (.ref a)) : NoI (.lst vs) := ⟨.ref a, List.mem_of_getElem? h, fun i z => by cases z⟩
section
variable {P : HO → Prop} {H H' : Hp} {CP CS CR CF CB a : Addr}
theorem DartAt.kp {d : Km371.Dart} (k : Kp P H H') (D : KeepsD P CP CS CR) (h : DartAt H a d) : DartAt H' a d := k _ _ h (D.tup _)
theorem PlAt.kp {p : Km371.Player} (k : Kp P H H') (D : KeepsD P CP CS CR) (h : PlAt CP H a p) : PlAt CP H' a p := by
  obtain ⟨dx, h⟩ := h
  exact ⟨dx, k _ _ h (D.pl _ _)⟩
theorem All2.imp {α : Type} {R S : Addr → α → Prop} {as : List Addr} {xs : List α} (h : All2 R as xs) (g : ∀ a x, R a x → S a x) : All2 S as xs := ⟨h.1, fun i a x e1 e2 => g a x (h.2 i a x e1 e2)⟩
theorem StAt.kp {x : Km371.Now} (k : Kp P H H') (D : KeepsD P CP CS CR) (h : StAt CP CS H a x) : StAt CP CS H' a x := by
  obtain ⟨dx, lp, bp, as, h1, h2, h3, h4, h5⟩ := h
  exact ⟨dx, lp, bp, as, k _ _ h1 (D.st _ _), k _ _ h2 (D.refs _ h3), h3, h4.imp fun _ _ z => z.kp k D, h5.kp k D⟩
theorem RuAt.kp {i o : Nat} (k : Kp P H H') (D : KeepsD P CP CS CR) (h : RuAt CR H a i o) : RuAt CR H' a i o := by
  obtain ⟨dx, h⟩ := h
  exact ⟨dx, k _ _ h (D.ru _ _)⟩
theorem EntAt.kp {e i : Nat} {v : V} (k : Kp P H H') (D : KeepsD P CP CS CR) (h : EntAt H e i v) : EntAt H' e i v := by
  rcases h with ⟨h0, a, h1, h2⟩ | h | ⟨h0, n, d, a, b, h1, h2, h3, h4⟩
  · exact .inl ⟨h0, a, h1, k _ _ h2 (D.tup _)⟩
  · exact .inr (.inl h)
  · exact .inr (.inr ⟨h0, n, d, a, b, h1, h2, k _ _ h3 (D.tup _), h4.kp k D⟩)
theorem TabAt.kp {e n : Nat} (k : Kp P H H') (D : KeepsD P CP CS CR) (h : TabAt H a e (n + 1)) : TabAt H' a e (n + 1) := by
  obtain ⟨vs, h1, h2, h3⟩ := h
  have hl : 0 < vs.length := by omega
  have hP : P (.lst vs) := by
    rcases h3 0 vs[0] (List.getElem?_eq_getElem hl) with ⟨_, b, h4, _⟩ | h4 | h4
    · exact D.tab vs b (by rw [List.getElem?_eq_getElem hl, h4])
    · omega
    · omega
  exact ⟨vs, k _ _ h1 hP, h2, fun i v q => (h3 i v q).kp k D⟩
theorem TbsAt.kp (k : Kp P H H') (D : KeepsD P CP CS CR) (h : TbsAt H a) : TbsAt H' a := by
  obtain ⟨kvs, h1, h2, h3⟩ := h
  refine ⟨kvs, k _ _ h1 (D.dic _), h2, fun e v he q => ?_⟩
  obtain ⟨l, h4, h5⟩ := h3 e v he q
  exact ⟨l, h4, h5.kp k D⟩
theorem LegAt.kp {ra sa : Addr} {l : Km371.Leg} (k : Kp P H H') (D : KeepsD P CP CS CR) (h : LegAt CR CP CS H ra sa l) : LegAt CR CP CS H' ra sa l := by
  obtain ⟨g, h1, ss, h2, h3⟩ := h
  have hne : ss ≠ [] := by
    intro z
    have q := h3.1
    rw [z, List.length_reverse] at q
    cases q
  exact ⟨g, h1.kp k D, ss, k _ _ h2 (D.refs _ hne), h3.imp fun _ _ z => z.kp k D⟩
theorem keeps_noI : KeepsD NoI CP CS CR := ⟨fun _ => trivial, fun _ h => noI_refs h, fun _ _ h => tab_noI h, fun _ => trivial, fun _ _ => trivial, fun _ _ => trivial, fun _ _ => trivial⟩
theorem keeps_all : KeepsD (fun _ => True) CP CS CR := ⟨fun _ => trivial, fun _ _ => trivial, fun _ _ _ => trivial, fun _ => trivial, fun _ _ => trivial, fun _ _ => trivial, fun _ _ => trivial⟩
theorem keeps_noB (h1 : CP ≠ CB ∧ CP ≠ CF) (h2 : CS ≠ CB ∧ CS ≠ CF) (h3 : CR ≠ CB ∧ CR ≠ CF) : KeepsD (NoB CB CF) CP CS CR := ⟨fun _ => trivial, fun _ _ => trivial, fun _ _ _ => trivial, fun _ => trivial, fun _ _ => h1, fun _ _ => h2, fun _ _ => h3⟩
theorem DartAt.same {d : Km371.Dart} (s : Same H H') (h : DartAt H a d) : DartAt H' a d := s _ _ h
theorem PlAt.same {p : Km371.Player} (s : Same H H') (h : PlAt CP H a p) : PlAt CP H' a p := h.kp (kp_same s) (CS := a) (CR := a) keeps_all
theorem StAt.same {x : Km371.Now} (s : Same H H') (h : StAt CP CS H a x) : StAt CP CS H' a x := h.kp (kp_same s) (CR := a) keeps_all
theorem RuAt.same {i o : Nat} (s : Same H H') (h : RuAt CR H a i o) : RuAt CR H' a i o := h.kp (kp_same s) (CP := a) (CS := a) keeps_all
theorem EntAt.same {e i : Nat} {v : V} (s : Same H H') (h : EntAt H e i v) : EntAt H' e i v := h.kp (kp_same s) (CP := mainGlobals) (CS := mainGlobals) (CR := mainGlobals) keeps_all
theorem BoAt.kpI {s : Option Km371.Leg} (k : Kp NoI H H') (h : BoAt CF CR CP CS CB H a s) : BoAt CF CR CP CS CB H' a s := by
  obtain ⟨dx, ra, sa, fa, h1, ⟨dy, d, h2, h3⟩, h4⟩ := h
  exact ⟨dx, ra, sa, fa, k _ _ h1 trivial, ⟨dy, d, k _ _ h2 trivial, h3.kp k (CP := CP) (CS := CS) (CR := CR) keeps_noI⟩, fun l hl => (h4 l hl).kp k keeps_noI⟩
end
theorem at2 {α : Type} {R : Addr → α → Prop} {as : List Addr} {xs : List α} (h : All2 R as xs) {i : Nat} {x : α} (e : xs[i]? = some x) : ∃ a, as[i]? = some a ∧ R a x := by
  have hi : i < as.length := by
    rw [h.1]
    exact (List.getElem?_eq_some_iff.mp e).1
  exact ⟨as[i], List.getElem?_eq_getElem hi, h.2 i _ x (List.getElem?_eq_getElem hi) e⟩
theorem map_at {as : List Addr} {i : Nat} {a : Addr} (h : as[i]? = some a) : (as.map V.ref)[i]? = some (.ref a) := by
  rw [List.getElem?_map, h]
  rfl
theorem All2.snoc {α : Type} {R : Addr → α → Prop} {as : List Addr} {xs : List α} {a : Addr} {x : α} (h : All2 R as xs) (r : R a x) : All2 R (as ++ [a]) (xs ++ [x]) := by
  refine ⟨by rw [List.length_append, List.length_append, h.1] <;> rfl, fun i b y e1 e2 => ?_⟩
  by_cases hi : i < as.length
  · rw [List.getElem?_append_left hi] at e1
    rw [List.getElem?_append_left (by rw [← h.1]; exact hi)] at e2
    exact h.2 i b y e1 e2
  · rw [List.getElem?_append_right (by omega)] at e1
    rw [List.getElem?_append_right (by rw [← h.1]; omega), ← h.1] at e2
    cases hk : i - as.length with
    | zero =>
      rw [hk] at e1 e2
      cases e1
      cases e2
      exact r
    | succ k =>
      rw [hk] at e1
      cases e1
theorem All2.set {α : Type} {R : Addr → α → Prop} {as : List Addr} {xs : List α} {a : Addr} {x : α} {j : Nat} (h : All2 R as xs) (r : R a x) : All2 R (as.set j a) (xs.set j x) := by
  refine ⟨by rw [List.length_set, List.length_set, h.1], fun i b y e1 e2 => ?_⟩
  rw [List.getElem?_set] at e1 e2
  by_cases hij : j = i
  · rw [if_pos hij] at e1 e2
    split at e1
    · split at e2
      · cases e1
        cases e2
        exact r
      · cases e2
    · cases e1
  · rw [if_neg hij] at e1 e2
    exact h.2 i b y e1 e2
theorem All2.nil {α : Type} {R : Addr → α → Prop} : All2 R [] ([] : List α) := ⟨rfl, fun i b y e1 e2 => by cases e1⟩
/-! ### What the top has written -/
structure Txt (K : PySem.W.Frag) (mg : Str → Option Value) (CF CR CP CS CB : Addr) : Prop where
  clP : Cls K CP
  clS : Cls K CS
  clR : Cls K CR
  clB : Cls K CB
  clF : Cls K CF
  nP_score : NoAttr K CP "score"
  nP_has_opened : NoAttr K CP "has_opened"
  nP_darts : NoAttr K CP "darts"
  nS_players : NoAttr K CS "players"
  nS_turn : NoAttr K CS "turn"
  nS_left : NoAttr K CS "left"
  nS_began : NoAttr K CS "began"
  nS_is_over : NoAttr K CS "is_over"
  nR_opens : NoAttr K CR "opens"
  nR_ends : NoAttr K CR "ends"
  nB_rules : NoAttr K CB "rules"
  nB_states : NoAttr K CB "states"
  nB_fewest : NoAttr K CB "fewest"
  nF_tables : NoAttr K CF "tables"
  c_BULL : ∃ u, mg "BULL" = some u ∧ RelV (.int (25)) u
  c_MOST_FIELD : ∃ u, mg "MOST_FIELD" = some u ∧ RelV (.int (20)) u
  c_ANY_END : ∃ u, mg "ANY_END" = some u ∧ RelV (.int (0)) u
  c_DOUBLE_END : ∃ u, mg "DOUBLE_END" = some u ∧ RelV (.int (1)) u
  c_LAST_END : ∃ u, mg "LAST_END" = some u ∧ RelV (.int (2)) u
  c_MOST_SCORE : ∃ u, mg "MOST_SCORE" = some u ∧ RelV (.int (1001)) u
  c_VISIT : ∃ u, mg "VISIT" = some u ∧ RelV (.int (3)) u
  c_GOES_ON : ∃ u, mg "GOES_ON" = some u ∧ RelV (.int (0)) u
  c_VISIT_OVER : ∃ u, mg "VISIT_OVER" = some u ∧ RelV (.int (1)) u
  c_BURST : ∃ u, mg "BURST" = some u ∧ RelV (.int (2)) u
  c_WON : ∃ u, mg "WON" = some u ∧ RelV (.int (3)) u
  c_START : ∃ u, mg "START" = some u ∧ RelV (.int (0)) u
  c_DART : ∃ u, mg "DART" = some u ∧ RelV (.int (1)) u
  c_BACK : ∃ u, mg "BACK" = some u ∧ RelV (.int (2)) u
  c_PLAYER : ∃ u, mg "PLAYER" = some u ∧ RelV (.int (3)) u
  c_TURN : ∃ u, mg "TURN" = some u ∧ RelV (.int (4)) u
  c_WRONG : ∃ u, mg "WRONG" = some u ∧ RelV (.int (-22)) u
  c_IS_OVER : ∃ u, mg "IS_OVER" = some u ∧ RelV (.int (-16)) u
  c_TOO_MANY : ∃ u, mg "TOO_MANY" = some u ∧ RelV (.int (-28)) u
  c_NOT_THERE : ∃ u, mg "NOT_THERE" = some u ∧ RelV (.int (-2)) u
  c_NO_END : ∃ u, mg "NO_END" = some u ∧ RelV (.int (-33)) u
  c_DONE : ∃ u, mg "DONE" = some u ∧ RelV (.int (0)) u
  c_MOST_PLAYERS : ∃ u, mg "MOST_PLAYERS" = some u ∧ RelV (.int (4)) u
  c_LEAST_SCORE : ∃ u, mg "LEAST_SCORE" = some u ∧ RelV (.int (2)) u
  c_MOST_DARTS : ∃ u, mg "MOST_DARTS" = some u ∧ RelV (.int (1000)) u
  BES : ∃ a, mg "BESIDE" = some (.ref a) ∧ ∀ H, SqT K H a [.int 0, .int 0]
  NUM : ∃ a, mg "NUMBERS" = some (.ref a) ∧ ∀ H, SqT K H a [.int 4, .int 2, .int 0, .int 1, .int 0, .int 2]
  zlen : mg "len" = none
  zrange : mg "range" = none
  zdict : mg "dict" = none
  zint : mg "int" = none
  ePB : CP ≠ CB ∧ CP ≠ CF
  eSB : CS ≠ CB ∧ CS ≠ CF
  eRB : CR ≠ CB ∧ CR ≠ CF
  eBF : CB ≠ CF
/-! ### Calls without arguments -/
section
variable {X : Cx} {k j : Nat} {C : Addr} {x : Str} {sp : Sp} {dvs : List V} {p pos : Pos}
theorem pe_c0 (c : C8.Cal X.prog X.w X.K X.mg X.base k x sp dvs) (hr : Room j X.A) (hk : k ≤ j) (hg : Gl X x) (hdb : (x == ("__debug__" : Str)) = false := by decide) :
    PE X (.Call (.Name x p) [] [] pos) (tCall sp dvs C8.E0 tNil) := by
  obtain ⟨f, fd, ps, ds, F, hm, kp, b, d⟩ := c.ex
  exact pe_call0 F (hr.mono hk) hg hm kp b d C8.pass0 hdb
theorem pe_mk0 (c : C8.Mak X.prog X.w X.K X.mg X.base k x C sp dvs) (hr : Room j X.A) (hk : k + 1 ≤ j) (hg : Gl X x) (hdb : (x == ("__debug__" : Str)) = false := by decide) :
    PE X (.Call (.Name x p) [] [] pos) (tMake C sp dvs C8.E0 tNil) := by
  obtain ⟨f, fd, ps, ds, M, F, hm, b, d⟩ := c.ex
  exact pe_make0 M F (hr.mono hk) hg hm b d C8.pass0 hdb
end
theorem if_true_of {c : Bool} {A B : Prop} (hc : c = true) (h : A) : if c = true then A else B := by
  rw [if_pos hc]
  exact h
theorem if_false_of {c : Bool} {A B : Prop} (hc : c = false) (h : B) : if c = true then A else B := by
  rw [hc, if_neg Bool.false_ne_true]
  exact h
end Dl
namespace Dl
open PySem PySem.Spec PyProof.Rows L2
abbrev sIsDart : Stmt := top 7
abbrev sWorth : Stmt := top 8
abbrev sAllDarts : Stmt := top 9
abbrev sMayEnd : Stmt := top 10
abbrev sBurst : Stmt := top 11
/-! ### Promises -/
def spIsDart : Sp := fun vs H Q _ => ∃ (f t : Nat), vs = [iN f, iN t] ∧ ∀ H', Same H H' → Q (.bl (Km371.isDart ⟨f, t⟩)) H'
def spWorth : Sp := fun vs H Q _ => ∃ (a : Addr) (d : Km371.Dart), vs = [.ref a] ∧ DartAt H a d ∧ d.field ≤ 1000 ∧ Q (iN (Km371.worth d)) H
def spAllDarts : Sp := fun vs H Q _ => vs = [] ∧ ∀ (H' : Hp) (p : Addr) (as : List Addr), Same H H' → H p = none → H' p = some (.lst (as.map V.ref)) → All2 (DartAt H') as Km371.darts → Q (.ref p) H'
def spMayEnd : Sp := fun vs H Q _ => ∃ (e : Nat) (a : Addr) (d : Km371.Dart), vs = [iN e, .ref a] ∧ DartAt H a d ∧ (d.times = 0 → d.field = 0) ∧ Q (.bl (Km371.ends e d)) H
def spBurst : Sp := fun vs H Q _ => ∃ (e : Nat) (l : Int) (a : Addr) (d : Km371.Dart), vs = [iN e, .int l, .ref a] ∧ DartAt H a d ∧ (d.times = 0 → d.field = 0) ∧ Q (.bl (burst e l d)) H

section
variable {P : Program} {w : World} {K : PySem.W.Frag} {mg : Str → Option Value} {base : Heap} {CF CR CP CS CB : Addr}
theorem dec_iN {n : Nat} {m : Int} (h : ¬ (n : Int) = m) : decide (iN n = V.int m) = false := decide_eq_false fun z => h (V.int.inj z)
/-- two pairs of ints compared -/
theorem eqv2 (a b c d : Int) : PyData.eqv (.tuple [.int a, .int b]) (.tuple [.int c, .int d]) = (decide (a = c) && decide (b = d)) := by
  show ((a == c) && ((b == d) && true)) = _
  rw [Bool.and_true]
  rfl
theorem dp2 {H : Hp} {p : Addr} {a b : Int} (h : SqT K H p [.int a, .int b]) : Dp K H (.ref p) (.tuple [.int a, .int b]) := .tup h (.cons (.int _) (.cons (.int _) .nil))
theorem sc_isDart : FnScope ["field", "times"] ["field", "times"] (C8.fnScope sIsDart) := C8.fnScope_by (by decide +kernel)
theorem ok_isDart {f : Addr} {fd : FuncData} (T : Txt K mg CF CR CP CS CB) (F : C8.Def K mg "is_dart" sIsDart f fd) (b : Binds K fd ["field", "times"] []) : C8.Cal P w K mg base 1 "is_dart" spIsDart [] := by
  refine C8.cal0 F b .nil sc_isDart (fun vs H Q E h => ?_) (fun cdv A outer s H vs Q E hr h => ?_)
  · obtain ⟨_, _, rfl, _⟩ := h
    rfl
  · obtain ⟨x, t, rfl, k⟩ := h
    obtain ⟨aB, hB, sB⟩ := T.BES
    refine ⟨_, pss_cons (ps_if (pt_cmpR (op_eqD hr.units) (pe_tup (pa_cons (pv 0) (pa_cons (pv 1) pa_nil))) (C8.pe_gc (v := .ref aB) rfl ⟨_, hB, rfl⟩) (nomark _)) (pss_one (ps_ret pe_bl)) pss_nil)
      (pss_cons (ps_if (pt_cmpR op_eq (pv 0) (C8.pe_gc rfl T.c_BULL) (nomark _)) (pss_one (ps_ret (pe_chain op_le op_le pe_int (pv 1) pe_int))) pss_nil)
      (pss_one (ps_ret (pe_and (pe_chain op_le op_le pe_int (pv 0) (C8.pe_gc rfl T.c_MOST_FIELD)) (pe_one (pe_chain op_le op_le pe_int (pv 1) pe_int)))))), ?_⟩
    refine ⟨_, rfl, _, rfl, (by show 2 ≤ sizeLine; decide), fun p hp => ?_⟩
    have s1 : Same H (upd H p (.tup [iN x, iN t])) := same_new hp
    refine ⟨_, _, dp2 (SqT.of upd_same), dp2 (sB _), rfl, rfl, _, rfl, ?_⟩
    rw [eqv2]
    by_cases h0 : x = 0 ∧ t = 0
    · obtain ⟨rfl, rfl⟩ := h0
      exact if_true_of rfl (k _ s1)
    · refine if_false_of ?_ ?_
      · rw [Bool.and_eq_false_iff, decide_eq_false_iff_not, decide_eq_false_iff_not]
        omega
      · refine ⟨_, rfl, rfl, _, rfl, ?_⟩
        by_cases h1 : x = 25
        · subst h1
          refine if_true_of rfl ?_
          refine ⟨_, rfl, _, _, rfl, rfl, _, rfl, ?_⟩
          have hd : ∀ H', Same H H' → Q (.bl (decide ((1 : Int) ≤ t) && decide ((t : Int) ≤ 2))) H' := fun H' s' => by
            have e : Km371.isDart ⟨25, t⟩ = (decide ((1 : Int) ≤ t) && decide ((t : Int) ≤ 2)) := by
              rw [Bool.eq_iff_iff]
              unfold Km371.isDart
              simp
              omega
            rw [← e]
            exact k _ s'
          by_cases h2 : (1 : Int) ≤ t
          · refine if_true_of (decide_eq_true h2) ⟨_, _, rfl, rfl, ?_⟩
            have := hd _ s1
            rw [decide_eq_true h2, Bool.true_and] at this
            exact this
          · refine if_false_of (decide_eq_false h2) ?_
            have := hd _ s1
            rw [decide_eq_false h2, Bool.false_and] at this
            exact this
        · refine if_false_of (dec_iN (by omega)) ?_
          have e : Km371.isDart ⟨x, t⟩ = (decide ((1 : Int) ≤ x) && decide ((x : Int) ≤ 20) && (decide ((1 : Int) ≤ t) && decide ((t : Int) ≤ 3))) := by
            rw [Bool.eq_iff_iff]
            unfold Km371.isDart
            simp
            omega
          have hd : ∀ H', Same H H' → Q (.bl (decide ((1 : Int) ≤ x) && decide ((x : Int) ≤ 20) && (decide ((1 : Int) ≤ t) && decide ((t : Int) ≤ 3)))) H' := fun H' s' => by
            rw [← e]
            exact k _ s'
          have q := hd _ s1
          refine ⟨_, rfl, _, _, rfl, rfl, _, rfl, ?_⟩
          by_cases h2 : (1 : Int) ≤ x
          · refine if_true_of (decide_eq_true h2) ⟨_, _, rfl, rfl, _, rfl, ?_⟩
            rw [decide_eq_true h2, Bool.true_and] at q
            by_cases h3 : (x : Int) ≤ 20
            · refine if_true_of (decide_eq_true h3) ?_
              rw [decide_eq_true h3, Bool.true_and] at q
              refine ⟨_, rfl, _, _, rfl, rfl, _, rfl, ?_⟩
              by_cases h4 : (1 : Int) ≤ t
              · rw [decide_eq_true h4, Bool.true_and] at q
                exact if_true_of (decide_eq_true h4) ⟨_, _, rfl, rfl, q⟩
              · rw [decide_eq_false h4, Bool.false_and] at q
                exact if_false_of (decide_eq_false h4) q
            · rw [decide_eq_false h3, Bool.false_and] at q
              exact if_false_of (decide_eq_false h3) q
          · rw [decide_eq_false h2, Bool.false_and, Bool.false_and] at q
            exact if_false_of (decide_eq_false h2) ⟨_, rfl, if_false_of rfl q⟩
theorem sc_worth : FnScope ["dart"] ["dart"] (C8.fnScope sWorth) := C8.fnScope_by (by decide +kernel)
theorem ok_worth {f : Addr} {fd : FuncData} (F : C8.Def K mg "worth" sWorth f fd) (b : Binds K fd ["dart"] []) : C8.Cal P w K mg base 1 "worth" spWorth [] := by
  refine C8.cal0 F b .nil sc_worth (fun vs H Q E h => ?_) (fun cdv A outer s H vs Q E hr h => ?_)
  · obtain ⟨_, _, rfl, _⟩ := h
    rfl
  · obtain ⟨a, d, rfl, hd, hf, k⟩ := h
    refine ⟨_, pss_one (ps_ret (pe_op op_mul (pe_ix ix_tup (pv 0) pe_int (fun _ _ => rfl)) (pe_ix ix_tup (pv 0) pe_int (fun _ _ => rfl)))), ?_⟩
    refine ⟨_, rfl, a, _, _, _, rfl, rfl, SqT.of hd, rfl, _, rfl, a, _, _, _, rfl, rfl, SqT.of hd, rfl, _, _, rfl, rfl, .inl ⟨by omega, by omega⟩, ?_⟩
    have e : ((d.field : Int) * (d.times : Int)) = ((Km371.worth d : Nat) : Int) := by
      unfold Km371.worth
      rw [Int.natCast_mul]
    show Q (.int ((d.field : Int) * (d.times : Int))) H
    rw [e]
    exact k
theorem sc_mayEnd : FnScope ["ends", "dart"] ["ends", "dart"] (C8.fnScope sMayEnd) := C8.fnScope_by (by decide +kernel)
theorem ok_mayEnd {f : Addr} {fd : FuncData} (T : Txt K mg CF CR CP CS CB) (F : C8.Def K mg "may_end" sMayEnd f fd) (b : Binds K fd ["ends", "dart"] []) : C8.Cal P w K mg base 1 "may_end" spMayEnd [] := by
  refine C8.cal0 F b .nil sc_mayEnd (fun vs H Q E h => ?_) (fun cdv A outer s H vs Q E hr h => ?_)
  · obtain ⟨_, _, _, rfl, _⟩ := h
    rfl
  · obtain ⟨e, a, d, rfl, hd, hz, k⟩ := h
    obtain ⟨aB, hB, sB⟩ := T.BES
    refine ⟨_, pss_cons (ps_if (pt_cmpR (op_eqD hr.units) (pv 1) (C8.pe_gc (v := .ref aB) rfl ⟨_, hB, rfl⟩) (nomark _)) (pss_one (ps_ret pe_bl)) pss_nil)
      (pss_cons (ps_if (pt_cmpR op_eq (pv 0) (C8.pe_gc rfl T.c_ANY_END) (nomark _)) (pss_one (ps_ret pe_bl)) pss_nil)
      (pss_cons (ps_if (pt_cmpR op_eq (pv 0) (C8.pe_gc rfl T.c_DOUBLE_END) (nomark _)) (pss_one (ps_ret (pe_cmpR op_eq (pe_ix ix_tup (pv 1) pe_int (fun _ _ => rfl)) pe_int (nomark _)))) pss_nil)
      (pss_one (ps_ret (pe_cmpR op_ge (pe_ix ix_tup (pv 1) pe_int (fun _ _ => rfl)) pe_int (nomark _)))))), ?_⟩
    refine ⟨_, rfl, _, _, dp2 (SqT.of hd), dp2 (sB _), rfl, rfl, _, rfl, ?_⟩
    rw [eqv2]
    by_cases h0 : d.times = 0
    · have hf := hz h0
      have ee : Km371.ends e d = false := by
        unfold Km371.ends
        rw [h0]
        split
        · rfl
        · split <;> rfl
      rw [ee] at k
      exact if_true_of (by rw [h0, hf] <;> rfl) k
    · refine if_false_of ?_ ?_
      · rw [Bool.and_eq_false_iff, decide_eq_false_iff_not, decide_eq_false_iff_not]
        omega
      · refine ⟨_, rfl, rfl, _, rfl, ?_⟩
        unfold Km371.ends at k
        by_cases h1 : e = 0
        · subst h1
          refine if_true_of rfl ?_
          rw [if_pos rfl, decide_eq_true (by omega : 1 ≤ d.times)] at k
          exact k
        · rw [if_neg h1] at k
          refine if_false_of (dec_iN (by omega)) ?_
          refine ⟨_, rfl, rfl, _, rfl, ?_⟩
          by_cases h2 : e = 1
          · subst h2
            rw [if_pos rfl] at k
            refine if_true_of rfl ?_
            refine ⟨_, rfl, a, _, _, _, rfl, rfl, SqT.of hd, rfl, rfl, ?_⟩
            have e2 : decide (V.int (d.times : Int) = V.int 2) = (d.times == 2) := by
              rw [Bool.eq_iff_iff]
              simp
              omega
            show Q (.bl (decide (V.int (d.times : Int) = V.int 2))) H
            rw [e2]
            exact k
          · rw [if_neg h2] at k
            refine if_false_of (dec_iN (by omega)) ?_
            refine ⟨_, rfl, a, _, _, _, rfl, rfl, SqT.of hd, rfl, _, _, rfl, rfl, ?_⟩
            have e2 : decide ((2 : Int) ≤ (d.times : Int)) = decide (2 ≤ d.times) := by
              rw [Bool.eq_iff_iff]
              simp
              omega
            show Q (.bl (decide ((2 : Int) ≤ (d.times : Int)))) H
            rw [e2]
            exact k
theorem sc_burst : FnScope ["ends", "left", "dart"] ["ends", "left", "dart"] (C8.fnScope sBurst) := C8.fnScope_by (by decide +kernel)
theorem ok_burst {f : Addr} {fd : FuncData} (T : Txt K mg CF CR CP CS CB) (F : C8.Def K mg "does_burst" sBurst f fd) (b : Binds K fd ["ends", "left", "dart"] []) (cM : C8.Cal P w K mg base 1 "may_end" spMayEnd []) : C8.Cal P w K mg base 2 "does_burst" spBurst [] := by
  refine C8.cal0 F b .nil sc_burst (fun vs H Q E h => ?_) (fun cdv A outer s H vs Q E hr h => ?_)
  · obtain ⟨_, _, _, _, rfl, _⟩ := h
    rfl
  · obtain ⟨e, l, a, d, rfl, hd, hz, k⟩ := h
    refine ⟨_, pss_cons (ps_if (pt_cmpR op_lt (pv 1) pe_int (nomark _)) (pss_one (ps_ret pe_bl)) pss_nil)
      (pss_cons (ps_if (pt_cmpR op_eq (pv 1) pe_int (nomark _)) (pss_one (ps_ret (pe_not (C8.pe_c cM hr (by decide) rfl (pa_cons (pv 0) (pa_cons (pv 2) pa_nil)))))) pss_nil)
      (pss_one (ps_ret (pe_and (pe_cmpR op_ne (pv 0) (C8.pe_gc rfl T.c_ANY_END) (nomark _)) (pe_one (pe_cmpR op_eq (pv 1) pe_int (nomark _))))))), ?_⟩
    unfold burst at k
    refine ⟨_, rfl, _, _, rfl, rfl, _, rfl, ?_⟩
    by_cases h1 : l < 0
    · rw [if_pos h1] at k
      exact if_true_of (decide_eq_true h1) k
    · rw [if_neg h1] at k
      refine if_false_of (decide_eq_false h1) ?_
      refine ⟨_, rfl, rfl, _, rfl, ?_⟩
      by_cases h2 : l = 0
      · subst h2
        rw [if_pos rfl] at k
        refine if_true_of rfl ?_
        exact ⟨_, rfl, _, rfl, e, a, d, rfl, hd, hz, _, rfl, k⟩
      · rw [if_neg h2] at k
        refine if_false_of (decide_eq_false (by intro z; cases z; exact h2 rfl)) ?_
        refine ⟨_, rfl, rfl, _, rfl, ?_⟩
        by_cases h3 : e = 0
        · subst h3
          refine if_false_of rfl ?_
          have z : (decide ((0 : Nat) ≠ 0) && decide (l = 1)) = false := rfl
          rw [z] at k
          exact k
        · refine if_true_of ?_ ?_
          · have z : decide (iN e = V.int 0) = false := decide_eq_false (by intro z; cases z; exact h3 rfl)
            show (!decide (iN e = V.int 0)) = true
            rw [z] <;> rfl
          · refine ⟨_, rfl, rfl, ?_⟩
            have z : (decide (e ≠ 0) && decide (l = 1)) = decide (V.int l = V.int 1) := by
              rw [decide_eq_true h3, Bool.true_and, Bool.eq_iff_iff]
              simp
            rw [z] at k
            exact k
end
end Dl
namespace Dl
open PySem PySem.Spec PyProof.Rows L2
/-! ### all_darts -/
def row (t k : Nat) : List Km371.Dart := (List.range k).map fun j => ⟨j + 1, t⟩
def round (t : Nat) : List Km371.Dart := row t 20 ++ (if t < 3 then [⟨25, t⟩] else [])
def pre (i : Nat) : List Km371.Dart := (List.range i).flatMap fun j => round (j + 1)
theorem pre_all : pre 3 = Km371.darts := rfl
theorem pre_succ (i : Nat) : pre (i + 1) = pre i ++ round (i + 1) := by
  unfold pre
  rw [List.range_succ, List.flatMap_append, List.flatMap_cons, List.flatMap_nil, List.append_nil]
theorem row_succ (t k : Nat) : row t (k + 1) = row t k ++ [⟨k + 1, t⟩] := by
  unfold row
  rw [List.range_succ, List.map_append] <;> rfl
theorem row_len (t k : Nat) : (row t k).length = k := by unfold row; rw [List.length_map, List.length_range]
theorem round_len (t : Nat) : (round t).length ≤ 21 := by
  unfold round
  rw [List.length_append, row_len]
  split
  · show 20 + 1 ≤ 21; decide
  · show 20 + 0 ≤ 21; decide
theorem pre_len : ∀ i, (pre i).length ≤ 21 * i
  | 0 => Nat.zero_le _
  | i + 1 => by
    rw [pre_succ, List.length_append]
    have := pre_len i
    have := round_len (i + 1)
    omega
theorem All2.app {α : Type} {R : Addr → α → Prop} {as bs : List Addr} {xs ys : List α} (h : All2 R as xs) (g : All2 R bs ys) : All2 R (as ++ bs) (xs ++ ys) := by
  refine ⟨by rw [List.length_append, List.length_append, h.1, g.1], fun i b y e1 e2 => ?_⟩
  by_cases hi : i < as.length
  · rw [List.getElem?_append_left hi] at e1
    rw [List.getElem?_append_left (by rw [← h.1]; exact hi)] at e2
    exact h.2 i b y e1 e2
  · rw [List.getElem?_append_right (by omega)] at e1
    rw [List.getElem?_append_right (by rw [← h.1]; omega), ← h.1] at e2
    exact g.2 _ b y e1 e2
theorem refs_snoc (as : List Addr) (q : Addr) : (as ++ [q]).map V.ref = as.map V.ref ++ [.ref q] := by rw [List.map_append] <;> rfl
theorem dart_upd {H : Hp} {p a : Addr} {d : Km371.Dart} {xs ys : List V} (e : H p = some (.lst xs)) (h : DartAt H a d) : DartAt (upd H p (.lst ys)) a d := by
  show upd H p (.lst ys) a = _
  rw [upd_ne (ne_of h e (by intro z; cases z))]
  exact h
section
variable {P : Program} {w : World} {K : PySem.W.Frag} {mg : Str → Option Value} {base : Heap} {CF CR CP CS CB : Addr}
theorem sc_allDarts : FnScope ["found", "times", "field"] [] (C8.fnScope sAllDarts) := C8.fnScope_by (by decide +kernel)
theorem ok_allDarts {f : Addr} {fd : FuncData} (T : Txt K mg CF CR CP CS CB) (F : C8.Def K mg "all_darts" sAllDarts f fd) (b : Binds K fd [] []) : C8.Cal P w K mg base 1 "all_darts" spAllDarts [] := by
  refine C8.cal0 F b .nil sc_allDarts (fun vs H Q E h => ?_) (fun cdv A outer s H vs Q E hr h => ?_)
  · obtain ⟨rfl, _⟩ := h
    rfl
  · obtain ⟨rfl, k⟩ := h
    refine ⟨_, pss_cons (ps_set (i := 0) sc_allDarts.nd rfl (.inl rfl) (pe_lst pa_nil))
      (pss_cons (ps_for PassesOwn.never rfl (pi_tup (pe_tup (pa_cons pe_int (pa_cons pe_int (pa_cons pe_int pa_nil))))) (pg_name (i := 1) sc_allDarts.nd rfl (.inr rfl))
        (pss_cons (ps_expr (pe_bm PySem.F.plainAttrs_list PySem.F.slot_list_extend PySem.F.type_list_extend mt_extend (pv 0)
            (pa_cons (pe_lc (own := [("field", 2)]) (g := gName 2) (by rfl) sc_allDarts.nd (pi_range2 rfl T.zrange (pa_cons pe_int (pa_cons (pe_op op_add (C8.pe_gc rfl T.c_MOST_FIELD) pe_int) pa_nil)))
              (blkOk_by (own := [("field", 2)]) (N := ["found", "times", "field"]) (sc := C8.fnScope sAllDarts) (by decide +kernel)) (fun _ _ _ _ _ => pg_name (i := 2) sc_allDarts.nd rfl (Or.inl rfl)) (fun _ _ _ _ _ => pts_nil)
              (fun _ _ _ _ _ => pe_tup (pa_cons (pv 2) (pa_cons (pv 1) pa_nil)))) pa_nil)))
        (pss_one (ps_if (pt_cmpR op_lt (pv 1) pe_int (nomark _)) (pss_one (ps_expr (pe_bm PySem.F.plainAttrs_list PySem.F.slot_list_append PySem.F.type_list_append mt_append (pv 0) (pa_cons (pe_tup (pa_cons (C8.pe_gc rfl T.c_BULL) (pa_cons (pv 1) pa_nil))) pa_nil)))) pss_nil))))
      (pss_one (ps_ret (pv 0)))), ?_⟩
    -- found = []
    refine ⟨Nat.zero_le _, fun p hp => ?_⟩
    -- for times in (1, 2, 3)
    refine ⟨(by show 3 ≤ sizeLine; decide), fun tq htq => ?_⟩
    have npt : p ≠ tq := fun z => by
      rw [← z, upd_same] at htq
      cases htq
    refine ⟨tq, rfl, ⟨_, SqT.of upd_same⟩, for_tup (K := K) (a := tq) (xs := [.int 1, .int 2, .int 3]) (fun i σ H' => ∃ (v : Option V) (as : List Addr), σ = [some (.ref p), v, none] ∧ Same H H' ∧ H' p = some (.lst (as.map V.ref)) ∧
        All2 (DartAt H') as (pre i) ∧ H' tq = some (.tup [.int 1, .int 2, .int 3])) ⟨none, [], rfl, same_re (s := same_new hp) (by rw [upd_ne npt.symm] at htq; exact htq), by rw [upd_ne npt]; exact upd_same, All2.nil, upd_same⟩
      (fun i σ H' _ ⟨_, _, _, _, _, _, h5⟩ => SqT.of h5) ?_ ?_⟩
    · rintro i y σ H1 hi ⟨v, as, rfl, s1, hL, hA, hT⟩
      have hi3 : i < 3 := (List.getElem?_eq_some_iff.mp hi).1
      obtain rfl : y = iN (i + 1) := by
        have : i = 0 ∨ i = 1 ∨ i = 2 := by omega
        rcases this with rfl | rfl | rfl <;> exact (Option.some.inj hi).symm
      have hal := hA.1
      have hpl := pre_len i
      -- found.extend([(field, times) for field in range(1, MOST_FIELD + 1)])
      refine ⟨_, rfl, .inl ⟨rfl, _, SqL.of hL⟩, _, _, rfl, rfl, 1, 21, rfl, ⟨by decide, by decide, by decide, by decide⟩, fun D hD => ?_⟩
      have nDp : p ≠ D := ne_of_none hL hD
      have nDt : tq ≠ D := ne_of_none hT hD
      refine lc_range (lo := 1) (n := 20) (fun j H' => Same H1 H' ∧ ∃ bs : List Addr, H' D = some (.lst (bs.map V.ref)) ∧ All2 (DartAt H') bs (row (i + 1) j)) ⟨same_new hD, [], upd_same, All2.nil⟩ ?_ ?_
      · rintro j H2 hj ⟨s2, bs, hB, hR⟩
        have hbl := hR.1
        rw [row_len] at hbl
        refine ⟨rfl, ?_⟩
        refine ⟨_, rfl, _, rfl, (by show 2 ≤ sizeLine; decide), fun q hq => ?_⟩
        have nDq : D ≠ q := ne_of_none hB hq
        have e2 : Same H2 (upd H2 q (.tup [.int (1 + (j : Int)), iN (i + 1)])) := same_new hq
        refine ⟨bs.map V.ref, e2 _ _ hB, by rw [List.length_map, hbl]; exact Nat.lt_of_lt_of_le hj (by decide), ?_, bs ++ [q], ?_, ?_⟩
        · exact same_re hD (fun b o e => e2 _ _ (s2 _ _ e))
        · rw [upd_same, refs_snoc]
        · rw [row_succ]
          refine All2.snoc (hR.imp fun a d h => dart_upd (e2 _ _ hB) (h.same e2)) ?_
          refine dart_upd (e2 _ _ hB) ?_
          show upd H2 q _ q = _
          rw [upd_same]
          have z : (1 + (j : Int)) = ((j + 1 : Nat) : Int) := by omega
          rw [z]
      · rintro H2 ⟨s2, bs, hB, hR⟩
        have hbl := hR.1
        rw [row_len] at hbl
        refine ⟨p, D, _, _, rfl, rfl, s2 _ _ hL, hB, ?_, ?_⟩
        · rw [List.length_map, List.length_map, hbl, hal]
          exact Nat.le_trans (show (pre i).length + 20 ≤ 1000 by omega) (by decide)
        -- if times < 3: found.append((BULL, times))
        have s3 : Same H (upd H2 p (.lst (as.map V.ref ++ bs.map V.ref))) := same_re hp fun b o e => s2 _ _ (s1 _ _ e)
        have hA3 : All2 (DartAt (upd H2 p (.lst (as.map V.ref ++ bs.map V.ref)))) (as ++ bs) (pre i ++ row (i + 1) 20) :=
          All2.app (hA.imp fun a d h => dart_upd (s2 _ _ hL) (h.same s2)) (hR.imp fun a d h => dart_upd (s2 _ _ hL) h)
        have hT3 : upd H2 p (.lst (as.map V.ref ++ bs.map V.ref)) tq = some (.tup [.int 1, .int 2, .int 3]) := by
          rw [upd_ne npt.symm]
          exact s2 _ _ hT
        have hP3 : upd H2 p (.lst (as.map V.ref ++ bs.map V.ref)) p = some (.lst ((as ++ bs).map V.ref)) := by rw [upd_same, List.map_append]
        generalize upd H2 p (.lst (as.map V.ref ++ bs.map V.ref)) = H3 at s3 hA3 hT3 hP3 ⊢
        refine ⟨_, rfl, _, _, rfl, rfl, _, rfl, ?_⟩
        by_cases h3 : i + 1 < 3
        · refine if_true_of (decide_eq_true (by omega)) ?_
          refine ⟨_, rfl, .inl ⟨rfl, _, SqL.of hP3⟩, _, rfl, (by show 2 ≤ sizeLine; decide), fun q hq => ?_⟩
          have e4 : Same H3 (upd H3 q (.tup [.int 25, iN (i + 1)])) := same_new hq
          refine ⟨p, _, _, rfl, rfl, e4 _ _ hP3, ?_, ?_⟩
          · rw [List.length_map, List.length_append, hbl, hal]
            exact Nat.lt_of_le_of_lt (show (pre i).length + 20 ≤ 1000 by omega) (by decide)
          · refine ⟨_, as ++ bs ++ [q], rfl, same_re hp fun b o e => e4 _ _ (s3 _ _ e), by rw [upd_same, refs_snoc], ?_, ?_⟩
            · rw [pre_succ]
              unfold round
              rw [if_pos h3, ← List.append_assoc]
              refine All2.snoc (hA3.imp fun a d h => dart_upd (e4 _ _ hP3) (h.same e4)) ?_
              refine dart_upd (e4 _ _ hP3) ?_
              exact upd_same
            · rw [upd_ne npt.symm]
              exact e4 _ _ hT3
        · refine if_false_of (decide_eq_false (by omega)) ?_
          refine ⟨_, as ++ bs, rfl, s3, hP3, ?_, hT3⟩
          rw [pre_succ]
          unfold round
          rw [if_neg h3, List.append_nil]
          exact hA3
    · rintro σ H1 ⟨v, as, rfl, s1, hL, hA, hT⟩
      exact ⟨_, rfl, k H1 p as s1 hp hL hA⟩
end
end Dl
namespace Dl
open PySem PySem.Spec PyProof.Rows L2
abbrev sBestAt : Stmt := top 15
abbrev sTableOf : Stmt := top 16
/-! ### best_at, table_of -/
def spBestAt : Sp := fun vs H Q _ => ∃ (e s : Nat) (fl dl : Addr) (as : List Addr), vs = [iN e, iN s, .ref fl, .ref dl] ∧ 1 ≤ s ∧ TabAt H fl e s ∧ H dl = some (.lst (as.map V.ref)) ∧ All2 (DartAt H) as Km371.darts ∧
  ∀ (H' : Hp) (v : V), Same H H' → EntAt H' e s v → Q v H'
def spTableOf : Sp := fun vs H Q _ => ∃ e : Nat, vs = [iN e] ∧ ∀ (H' : Hp) (p : Addr), Same H H' → H p = none → TabAt H' p e 1002 → Q (.ref p) H'
def BestV (H : Hp) (o : Option (Nat × Km371.Dart)) (v : V) : Prop := (o = none ∧ v = .non) ∨ ∃ n d a c, o = some (n, d) ∧ v = .ref a ∧ H a = some (.tup [iN n, .ref c]) ∧ DartAt H c d
theorem BestV.same {H H' : Hp} {o : Option (Nat × Km371.Dart)} {v : V} (s : Same H H') (h : BestV H o v) : BestV H' o v := by
  rcases h with h | ⟨n, d, a, c, h1, h2, h3, h4⟩
  · exact .inl h
  · exact .inr ⟨n, d, a, c, h1, h2, s _ _ h3, h4.same s⟩
theorem ent_cnt {H : Hp} {e i : Nat} {v : V} (h : EntAt H e i v) : (cnt e i = none ∧ v = .non) ∨ ∃ n a x, cnt e i = some n ∧ v = .ref a ∧ H a = some (.tup [iN n, x]) := by
  have c1 : 1 ≤ i → cnt e i = (best e i).map (·.1) := fun h => by
    rw [(best_told h).2]
    unfold cnt
    rw [if_neg (by omega)]
  rcases h with ⟨rfl, a, h1, h2⟩ | ⟨h0, h1, h2⟩ | ⟨h0, n, d, a, b, h1, h2, h3, h4⟩
  · exact .inr ⟨0, a, .non, rfl, h1, h2⟩
  · exact .inl ⟨by rw [c1 h0, h1] <;> rfl, h2⟩
  · exact .inr ⟨n, a, .ref b, by rw [c1 h0, h1] <;> rfl, h2, h3⟩
theorem darts_field : ∀ d ∈ Km371.darts, d.field ≤ 25 := by
  have h : Km371.darts.all (fun d => decide (d.field ≤ 25)) = true := by decide +kernel
  intro d hd
  exact of_decide_eq_true (List.all_eq_true.mp h d hd)
theorem take_more {α : Type} {l : List α} {i : Nat} {x : α} (h : l[i]? = some x) : l.take (i + 1) = l.take i ++ [x] := by
  obtain ⟨hi, e⟩ := List.getElem?_eq_some_iff.mp h
  rw [List.take_succ, h] <;> rfl
def fold (e s i : Nat) : Option (Nat × Km371.Dart) := (Km371.darts.take i).foldl (pick (via e s)) none
theorem fold_succ {e s i : Nat} {d : Km371.Dart} (h : Km371.darts[i]? = some d) : fold e s (i + 1) = pick (via e s) (fold e s i) d := by
  unfold fold
  rw [take_more h, List.foldl_append] <;> rfl
theorem fold_all (e s : Nat) : fold e s Km371.darts.length = best e s := by
  unfold fold best
  rw [List.take_length]
theorem pick_none {g : Km371.Dart → Option Nat} {b : Option (Nat × Km371.Dart)} {d : Km371.Dart} (h : g d = none) : pick g b d = b := by unfold pick; rw [h]
theorem pick_first {g : Km371.Dart → Option Nat} {d : Km371.Dart} {m : Nat} (h : g d = some m) : pick g none d = some (m, d) := by unfold pick; rw [h]
theorem pick_some {g : Km371.Dart → Option Nat} {d c : Km371.Dart} {m k : Nat} (h : g d = some m) : pick g (some (k, c)) d = if m < k then some (m, d) else some (k, c) := by unfold pick; rw [h]
section
variable {P : Program} {w : World} {K : PySem.W.Frag} {mg : Str → Option Value} {base : Heap} {CF CR CP CS CB : Addr}
theorem sc_bestAt : FnScope ["ends", "score", "found", "darts", "best", "dart", "left", "many"] ["ends", "score", "found", "darts"] (C8.fnScope sBestAt) := C8.fnScope_by (by decide +kernel)
theorem ok_bestAt {f : Addr} {fd : FuncData} (T : Txt K mg CF CR CP CS CB) (F : C8.Def K mg "best_at" sBestAt f fd) (b : Binds K fd ["ends", "score", "found", "darts"] []) (cW : C8.Cal P w K mg base 1 "worth" spWorth []) (cB : C8.Cal P w K mg base 2 "does_burst" spBurst []) :
    C8.Cal P w K mg base 3 "best_at" spBestAt [] := by
  refine C8.cal0 F b .nil sc_bestAt (fun vs H Q E h => ?_) (fun cdv A outer s H vs Q E hr h => ?_)
  · obtain ⟨_, _, _, _, _, rfl, _⟩ := h
    rfl
  · obtain ⟨e, s, fl, dl, as, rfl, hs1, hT, hD, hA, k⟩ := h
    refine ⟨_, pss_cons (ps_set (i := 4) sc_bestAt.nd rfl (.inl rfl) pe_non)
      (pss_cons (ps_for PassesOwn.never rfl (pi_list (pv 3)) (pg_name (i := 5) sc_bestAt.nd rfl (.inl rfl))
        (pss_cons (ps_set (i := 6) sc_bestAt.nd rfl (.inl rfl) (pe_op op_sub (pv 1) (C8.pe_c cW hr (by decide) rfl (pa_cons (pv 5) pa_nil))))
        (pss_one (ps_if (PW.pt (pw_and (pt_not (pt_val (C8.pe_c cB hr (by decide) rfl (pa_cons (pv 0) (pa_cons (pv 6) (pa_cons (pv 5) pa_nil)))))) (pw_and1 (pt_cmpR op_notN (pe_ix ix_list (pv 2) (pv 6) (fun _ _ => rfl)) pe_non (nomark _)))))
          (pss_cons (ps_set (i := 7) sc_bestAt.nd rfl (.inl rfl) (pe_op op_add (pe_ix ix_tup (pe_ix ix_list (pv 2) (pv 6) (fun _ _ => rfl)) pe_int (fun _ _ => rfl)) pe_int))
          (pss_one (ps_if (PW.pt (pw_or (pt_cmpR op_isN (pv 4) pe_non (nomark _)) (pw_or1 (pt_cmpR op_lt (pv 7) (pe_ix ix_tup (pv 4) pe_int (fun _ _ => rfl)) (nomark _)))))
            (pss_one (ps_set (i := 4) sc_bestAt.nd rfl (.inl rfl) (pe_tup (pa_cons (pv 7) (pa_cons (pv 5) pa_nil))))) pss_nil)))
          pss_nil))))
      (pss_one (ps_ret (pv 4)))), ?_⟩
    obtain ⟨ts, hT1, hT2, hT3⟩ := hT
    refine ⟨_, rfl, dl, rfl, ⟨_, SqL.of hD⟩, for_list (K := K) (a := dl) (xs := as.map V.ref) (fun i σ H' => ∃ (bv : V) (v1 v2 v3 : Option V), σ = [some (iN e), some (iN s), some (.ref fl), some (.ref dl), some bv, v1, v2, v3] ∧ Same H H' ∧ BestV H' (fold e s i) bv)
      ⟨.non, none, none, none, rfl, Same.refl _, .inl ⟨rfl, rfl⟩⟩ (fun i σ H' _ ⟨_, _, _, _, _, h2, _⟩ => SqL.of (h2 _ _ hD)) ?_ ?_⟩
    · rintro i y σ H1 hi ⟨bv, v1, v2, v3, rfl, s1, hb⟩
      obtain ⟨da, hda, rfl⟩ : ∃ da, as[i]? = some da ∧ y = V.ref da := by
        rw [List.getElem?_map] at hi
        cases q : as[i]? with
        | none => rw [q] at hi; cases hi
        | some da => rw [q] at hi; exact ⟨da, rfl, (Option.some.inj hi).symm⟩
      obtain ⟨d, hd⟩ : ∃ d, Km371.darts[i]? = some d := by
        have q := (List.getElem?_eq_some_iff.mp hda).1
        rw [hA.1] at q
        exact ⟨_, List.getElem?_eq_getElem q⟩
      have hmem : d ∈ Km371.darts := List.mem_of_getElem? hd
      have hdA : DartAt H1 da d := (hA.2 i da d hda hd).same s1
      obtain ⟨p1, p2, p3, p4⟩ := darts_pos d hmem
      have hz : d.times = 0 → d.field = 0 := fun z => by omega
      have hstep := fold_succ (e := e) (s := s) hd
      -- left = score - worth(dart)
      refine ⟨_, rfl, _, rfl, da, d, rfl, hdA, (by have := darts_field d hmem; omega), _, _, rfl, rfl, ?_⟩
      -- not does_burst(ends, left, dart)
      refine ⟨_, rfl, _, rfl, _, rfl, e, _, da, d, rfl, hdA, hz, _, rfl, ?_⟩
      by_cases hbu : burst e ((s : Int) - (Km371.worth d : Nat)) d = true
      · have hv : via e s d = none := by unfold via; rw [if_pos hbu]
        rw [pick_none hv] at hstep
        rw [hbu]
        exact ⟨bv, _, _, v3, rfl, s1, by rw [hstep]; exact hb⟩
      · have hbf : burst e ((s : Int) - (Km371.worth d : Nat)) d = false := by simpa using hbu
        have hle : Km371.worth d ≤ s := by
          by_cases z : Km371.worth d ≤ s
          · exact z
          · unfold burst at hbf
            rw [if_pos (by omega)] at hbf
            cases hbf
        have hv : via e s d = Km371.oneMore (cnt e (s - Km371.worth d)) := by unfold via; rw [if_neg hbu]
        have hlt : s - Km371.worth d < ts.length := by omega
        have hget : ts[s - Km371.worth d]? = some ts[s - Km371.worth d] := List.getElem?_eq_getElem hlt
        have hat : atI ts ((s : Int) - (Km371.worth d : Nat)) = some ts[s - Km371.worth d] := at_of (by omega) hget
        have hent := (hT3 _ _ hget).same s1
        have hF : SqL K H1 fl ts := SqL.of (s1 _ _ hT1)
        generalize ts[s - Km371.worth d] = tv at hget hat hent
        rw [hbf]
        -- found[left] is not None
        refine ⟨_, rfl, _, rfl, fl, ts, _, tv, rfl, rfl, hF, hat, rfl, _, rfl, ?_⟩
        rcases ent_cnt hent with ⟨hc, rfl⟩ | ⟨n, a, x, hc, rfl, ha⟩
        · rw [hc] at hv
          rw [pick_none hv] at hstep
          exact ⟨bv, _, _, v3, rfl, s1, by rw [hstep]; exact hb⟩
        · rw [hc] at hv
          have hv : via e s d = some (n + 1) := hv
          -- many = found[left][0] + 1
          refine ⟨_, rfl, _, rfl, fl, ts, _, _, rfl, rfl, hF, hat, a, _, _, _, rfl, rfl, SqT.of ha, rfl, _, _, rfl, rfl, ?_⟩
          refine ⟨_, rfl, rfl, _, rfl, ?_⟩
          have fin : ∀ H2, (∃ q, H1 q = none ∧ H2 = upd H1 q (.tup [iN (n + 1), .ref da])) → ∃ q, Same H H2 ∧ H2 q = some (.tup [iN (n + 1), .ref da]) ∧ DartAt H2 da d := by
            rintro H2 ⟨q, hq, rfl⟩
            exact ⟨q, fun b o z => same_new hq _ _ (s1 _ _ z), upd_same, hdA.same (same_new hq)⟩
          rcases hb with ⟨hb0, rfl⟩ | ⟨n0, d0, a0, c0, hb0, rfl, hb1, hb2⟩
          · rw [hb0, pick_first hv] at hstep
            -- best is None
            refine ⟨_, rfl, _, rfl, (by show 2 ≤ sizeLine; decide), fun q hq => ?_⟩
            refine ⟨_, _, _, _, rfl, fun b o z => same_new hq _ _ (s1 _ _ z), ?_⟩
            rw [hstep]
            exact .inr ⟨n + 1, d, q, da, rfl, rfl, upd_same, hdA.same (same_new hq)⟩
          · rw [hb0, pick_some hv] at hstep
            refine ⟨_, rfl, _, rfl, a0, _, _, _, rfl, rfl, SqT.of hb1, rfl, _, _, rfl, rfl, _, rfl, ?_⟩
            by_cases hlt2 : n + 1 < n0
            · rw [if_pos hlt2] at hstep
              refine if_true_of (decide_eq_true (by omega)) ?_
              refine ⟨_, rfl, _, rfl, (by show 2 ≤ sizeLine; decide), fun q hq => ?_⟩
              refine ⟨_, _, _, _, rfl, fun b o z => same_new hq _ _ (s1 _ _ z), ?_⟩
              rw [hstep]
              exact .inr ⟨n + 1, d, q, da, rfl, rfl, upd_same, hdA.same (same_new hq)⟩
            · rw [if_neg hlt2] at hstep
              refine if_false_of (decide_eq_false (by omega)) ?_
              refine ⟨_, _, _, _, rfl, s1, ?_⟩
              rw [hstep]
              exact .inr ⟨n0, d0, a0, c0, rfl, rfl, hb1, hb2⟩
    · rintro σ H1 ⟨bv, v1, v2, v3, rfl, s1, hb⟩
      refine ⟨_, rfl, k H1 bv s1 ?_⟩
      rw [List.length_map, hA.1, fold_all] at hb
      rcases hb with ⟨h1, h2⟩ | ⟨n, d, a, c, h1, h2, h3, h4⟩
      · exact .inr (.inl ⟨hs1, h1, h2⟩)
      · exact .inr (.inr ⟨hs1, n, d, a, c, h1, h2, h3, h4⟩)
theorem sc_tableOf : FnScope ["ends", "darts", "found", "score"] ["ends"] (C8.fnScope sTableOf) := C8.fnScope_by (by decide +kernel)
theorem ok_tableOf {f : Addr} {fd : FuncData} (T : Txt K mg CF CR CP CS CB) (F : C8.Def K mg "table_of" sTableOf f fd) (b : Binds K fd ["ends"] []) (cA : C8.Cal P w K mg base 1 "all_darts" spAllDarts []) (cB : C8.Cal P w K mg base 3 "best_at" spBestAt []) :
    C8.Cal P w K mg base 4 "table_of" spTableOf [] := by
  refine C8.cal0 F b .nil sc_tableOf (fun vs H Q E h => ?_) (fun cdv A outer s H vs Q E hr h => ?_)
  · obtain ⟨_, rfl, _⟩ := h
    rfl
  · obtain ⟨e, rfl, k⟩ := h
    refine ⟨_, pss_cons (ps_set (i := 1) sc_tableOf.nd rfl (.inl rfl) (pe_c0 cA hr (by decide) rfl))
      (pss_cons (ps_set (i := 2) sc_tableOf.nd rfl (.inl rfl) (pe_lst (pa_cons (pe_tup (pa_cons pe_int (pa_cons pe_non pa_nil))) pa_nil)))
      (pss_cons (ps_for PassesOwn.never rfl (pi_range2 rfl T.zrange (pa_cons pe_int (pa_cons (pe_op op_add (C8.pe_gc rfl T.c_MOST_SCORE) pe_int) pa_nil))) (pg_name (i := 3) sc_tableOf.nd rfl (.inl rfl))
        (pss_one (ps_expr (pe_bm PySem.F.plainAttrs_list PySem.F.slot_list_append PySem.F.type_list_append mt_append (pv 2) (pa_cons (C8.pe_c cB hr (by decide) rfl (pa_cons (pv 0) (pa_cons (pv 3) (pa_cons (pv 2) (pa_cons (pv 1) pa_nil))))) pa_nil)))))
      (pss_one (ps_ret (pv 2))))), ?_⟩
    refine ⟨rfl, fun H1 dl as s1 hn1 hD hA => ?_⟩
    refine ⟨(by show 2 ≤ sizeLine; decide), fun q hq => ⟨(by show 1 ≤ sizeLine; decide), fun p hp => ?_⟩⟩
    have s2 : Same H1 (upd H1 q (.tup [.int 0, .non])) := same_new hq
    have hp0 : H p = none := by
      have z := s2.free hp
      exact s1.free z
    have npq : q ≠ p := ne_of_none upd_same hp
    have npd : dl ≠ p := ne_of_none (s2 _ _ hD) hp
    refine ⟨_, _, rfl, rfl, 1, 1002, rfl, ⟨by decide, by decide, by decide, by decide⟩, for_range (lo := 1) (n := 1001) (fun i σ H' => ∃ v, σ = [some (iN e), some (.ref dl), some (.ref p), v] ∧ Same H H' ∧ H' dl = some (.lst (as.map V.ref)) ∧ All2 (DartAt H') as Km371.darts ∧ TabAt H' p e (i + 1)) ?_ ?_ ?_⟩
    · refine ⟨none, rfl, same_re hp0 fun b o z => s2 _ _ (s1 _ _ z), by rw [upd_ne npd]; exact s2 _ _ hD, hA.imp fun a d h => (h.same s2).same (same_new hp), [.ref q], upd_same, rfl, fun i v hi => ?_⟩
      have : i = 0 := by
        have := (List.getElem?_eq_some_iff.mp hi).1
        rw [List.length_singleton] at this
        omega
      subst this
      refine .inl ⟨rfl, q, (Option.some.inj hi).symm, ?_⟩
      rw [upd_ne npq]
      exact upd_same
    · rintro i σ H2 hi ⟨v, rfl, s3, hD2, hA2, hT⟩
      have hT0 := hT
      obtain ⟨ts, hT1, hT2, hT3⟩ := hT
      refine ⟨_, rfl, .inl ⟨rfl, _, SqL.of hT1⟩, _, rfl, _, rfl, _, rfl, _, rfl, e, i + 1, p, dl, as, ?_, by omega, hT0, hD2, hA2, fun H3 bv s4 hE => ?_⟩
      · have z : (1 + (i : Int)) = ((i + 1 : Nat) : Int) := by omega
        rw [z]
        rfl
      · refine ⟨p, _, _, rfl, rfl, s4 _ _ hT1, by rw [hT2]; exact Nat.lt_of_lt_of_le (show i + 1 < 2000 by omega) (by decide), ?_⟩
        have up : ∀ {a : Addr} {xs : List V}, H3 a = some (.tup xs) → upd H3 p (.lst (ts ++ [bv])) a = some (.tup xs) := fun {a xs} z => by
          rw [upd_ne (ne_of z (s4 _ _ hT1) (by intro z; cases z))]
          exact z
        have upE : ∀ {j : Nat} {v : V}, EntAt H3 e j v → EntAt (upd H3 p (.lst (ts ++ [bv]))) e j v := fun {j v} z => by
          rcases z with ⟨h0, a, h1, h2⟩ | z | ⟨h0, n, d, a, b, h1, h2, h3, h4⟩
          · exact .inl ⟨h0, a, h1, up h2⟩
          · exact .inr (.inl z)
          · exact .inr (.inr ⟨h0, n, d, a, b, h1, h2, up h3, up h4⟩)
        refine ⟨_, rfl, same_re hp0 fun b o z => s4 _ _ (s3 _ _ z), ?_, hA2.imp fun a d h => up (s4 _ _ h), ts ++ [bv], upd_same, ?_, fun j v hj => ?_⟩
        · rw [upd_ne npd]
          exact s4 _ _ hD2
        · rw [List.length_append, hT2] <;> rfl
        · by_cases hjl : j < ts.length
          · rw [List.getElem?_append_left hjl] at hj
            exact upE ((hT3 j v hj).same s4)
          · have hj2 := (List.getElem?_eq_some_iff.mp hj).1
            rw [List.length_append, List.length_singleton] at hj2
            have e1 : j = i + 1 := by omega
            subst e1
            rw [List.getElem?_append_right (by omega), hT2, Nat.sub_self] at hj
            have e2 : bv = v := Option.some.inj hj
            subst e2
            exact upE hE
    · rintro σ H2 ⟨v, rfl, s3, hD2, hA2, hT⟩
      exact ⟨_, rfl, k H2 p s3 hp0 hT⟩
end
end Dl
namespace Dl
open PySem PySem.Spec PyProof.Rows L2
abbrev sFInit : Stmt := inClass (top 14) 0
abbrev sTable : Stmt := inClass (top 14) 1
abbrev sTold : Stmt := inClass (top 14) 2
/-! ### Fewest -/
def spFInit (CF : Addr) : Sp := fun vs H Q _ => ∃ (p dx : Addr), vs = [.ref p] ∧ H p = some (.ins CF dx []) ∧ ∀ H' : Hp, FewAt CF H' p → But p H H' → Q .non H'
def spTable (CF : Addr) : Sp := fun vs H Q _ => ∃ (f : Addr) (e : Nat), vs = [.ref f, iN e] ∧ e ≤ 2 ∧ FewAt CF H f ∧ ∀ (H' : Hp) (l : Addr), FewAt CF H' f → But f H H' → TabAt H' l e 1002 → Q (.ref l) H'
def spTold (CF : Addr) : Sp := fun vs H Q _ => ∃ (f : Addr) (e s : Nat), vs = [.ref f, iN e, iN s] ∧ e ≤ 2 ∧ s ≤ 1001 ∧ FewAt CF H f ∧ ∀ (H' : Hp) (v : V), FewAt CF H' f → But f H H' → EntAt H' e s v → Q v H'
theorem EntAt.kq {H H' : Hp} {e i : Nat} {v : V} (k : ∀ a xs, H a = some (.tup xs) → H' a = some (.tup xs)) (h : EntAt H e i v) : EntAt H' e i v := by
  rcases h with ⟨h0, a, h1, h2⟩ | z | ⟨h0, n, d, a, b, h1, h2, h3, h4⟩
  · exact .inl ⟨h0, a, h1, k _ _ h2⟩
  · exact .inr (.inl z)
  · exact .inr (.inr ⟨h0, n, d, a, b, h1, h2, k _ _ h3, k _ _ h4⟩)
theorem TabAt.kq {H H' : Hp} {a : Addr} {e n : Nat} (k : ∀ a xs, H a = some (.tup xs) → H' a = some (.tup xs)) (l : ∀ a xs, H a = some (.lst xs) → H' a = some (.lst xs)) (h : TabAt H a e n) : TabAt H' a e n := by
  obtain ⟨vs, h1, h2, h3⟩ := h
  exact ⟨vs, l _ _ h1, h2, fun i v q => (h3 i v q).kq k⟩
theorem key_inj {a b : Nat} (h : (Sum.inl ((a : Nat) : Int) : Key) = Sum.inl ((b : Nat) : Int)) : a = b := by
  have := Sum.inl.inj h
  omega
theorem has_put {kvs : List (Key × V)} {e : Nat} {v : V} (he : e ≤ 2) (hn : valV kvs (Sum.inl ((e : Nat) : Int)) = none) (hl : kvs.length ≤ has kvs 0 + has kvs 1 + has kvs 2) :
    (putK kvs (Sum.inl ((e : Nat) : Int)) v).length ≤ has (putK kvs (Sum.inl ((e : Nat) : Int)) v) 0 + has (putK kvs (Sum.inl ((e : Nat) : Int)) v) 1 + has (putK kvs (Sum.inl ((e : Nat) : Int)) v) 2 := by
  have h1 : (putK kvs (Sum.inl ((e : Nat) : Int)) v).length = kvs.length + 1 := by rw [putK_new v hn, List.length_append] <;> rfl
  have he1 : has (putK kvs (Sum.inl ((e : Nat) : Int)) v) e = 1 := by
    unfold has
    rw [valV_put, if_pos rfl] <;> rfl
  have he0 : has kvs e = 0 := by
    unfold has
    rw [hn] <;> rfl
  have ho : ∀ j : Nat, j ≠ e → has (putK kvs (Sum.inl ((e : Nat) : Int)) v) j = has kvs j := fun j hj => by
    unfold has
    rw [valV_put, if_neg (fun z => hj (key_inj z))]
  rw [h1]
  have : e = 0 ∨ e = 1 ∨ e = 2 := by omega
  rcases this with rfl | rfl | rfl
  · rw [he1, ho 1 (by decide), ho 2 (by decide)]; omega
  · rw [he1, ho 0 (by decide), ho 2 (by decide)]; omega
  · rw [he1, ho 0 (by decide), ho 1 (by decide)]; omega
theorem has_le (kvs : List (Key × V)) (e : Nat) : has kvs e ≤ 1 := by unfold has; split <;> omega
section
variable {P : Program} {w : World} {K : PySem.W.Frag} {mg : Str → Option Value} {base : Heap} {CF CR CP CS CB : Addr}
theorem sc_fInit : FnScope ["self"] ["self"] (C8.fnScope sFInit) := C8.fnScope_by (by decide +kernel)
theorem ok_fInit {f : Addr} {fd : FuncData} (T : Txt K mg CF CR CP CS CB) (M : Mk K CF f) (hm : mg "Fewest" = some (.ref CF)) (F : C8.Fun K "__init__" "Fewest.__init__" sFInit f fd) (b : Binds K fd ["self"] []) : C8.Mak P w K mg base 1 "Fewest" CF (spFInit CF) [] := by
  refine C8.mak0 M hm F b .nil sc_fInit (fun vs H Q E h => ?_) (fun cdv A outer s H vs Q E hr h => ?_)
  · obtain ⟨_, _, rfl, _⟩ := h
    rfl
  · obtain ⟨p, dx, rfl, hp, k⟩ := h
    refine ⟨_, pss_one (ps_fld (pv 0) pe_dnewK rfl), ?_⟩
    intro d hd
    have npd : p ≠ d := ne_of_none hp hd
    refine ⟨_, rfl, p, CF, dx, [], rfl, (by rw [upd_ne npd]; exact hp), T.clF, T.nF_tables, (by show 0 < 1000; decide), ?_⟩
    refine k _ ⟨dx, d, upd_same, [], by rw [upd_ne npd.symm, upd_same], Nat.zero_le _, fun e v _ z => by cases z⟩ fun a o e n => ?_
    rw [upd_ne n, upd_ne (ne_of_none e hd)]
    exact e
theorem sc_table : FnScope ["self", "ends", "tables"] ["self", "ends"] (C8.fnScope sTable) := C8.fnScope_by (by decide +kernel)
theorem ok_table {f : Addr} {fd : FuncData} (T : Txt K mg CF CR CP CS CB) (me : Meth K CF "table" f) (F : C8.Fun K "table" "Fewest.table" sTable f fd) (b : Binds K fd ["self", "ends"] []) (cT : C8.Cal P w K mg base 4 "table_of" spTableOf []) :
    C8.Met P w K mg base 5 CF "table" (spTable CF) [] := by
  refine C8.met0 T.clF me F b sc_table (fun vs H Q E h => ?_) (fun cdv A outer s H vs Q E hr h => ?_)
  · obtain ⟨_, _, rfl, _⟩ := h
    rfl
  · obtain ⟨fa, e, rfl, he, ⟨dx, d, h1, kvs, h2, h3, h4⟩, k⟩ := h
    refine ⟨_, pss_cons (ps_if (pt_cmp (pc_dnotin (hu_of hr) (pv 1) (pe_fld (pv 0) rfl))) (pss_cons (ps_set (i := 2) sc_table.nd rfl (.inl rfl) (pe_callTy call_dictD rfl T.zdict (by decide +kernel) (pa_cons (pe_fld (pv 0) rfl) pa_nil)))
        (pss_cons (ps_dput (hu_of hr) (pv 2) (pv 1) (C8.pe_c cT hr (by decide) rfl (pa_cons (pv 1) pa_nil)) rfl) (pss_one (ps_fld (pv 0) (pv 2) rfl)))) pss_nil)
      (pss_one (ps_ret (pe_dget (hu_of hr) (pe_fld (pv 0) rfl) (pv 1) (fun _ _ => rfl)))), ?_⟩
    refine ⟨_, rfl, _, rfl, fa, CF, dx, _, _, rfl, h1, T.clF, T.nF_tables, fF_tables _, d, _, rfl, DGet.k (k := Sum.inl ((e : Nat) : Int)) h2, _, rfl, ?_⟩
    cases hv : valV kvs (Sum.inl ((e : Nat) : Int)) with
    | some v =>
      refine if_false_of rfl ?_
      obtain ⟨l, rfl, hl⟩ := h4 e v he hv
      refine ⟨_, rfl, fa, CF, dx, _, _, rfl, h1, T.clF, T.nF_tables, fF_tables _, _, rfl, d, _, rfl, ?_, k H l ⟨dx, d, h1, kvs, h2, h3, h4⟩ (fun _ _ z _ => z) hl⟩
      rw [← hv]
      exact DGet.k (k := Sum.inl ((e : Nat) : Int)) h2
    | none =>
      refine if_true_of rfl ?_
      refine ⟨_, rfl, fa, CF, dx, _, _, rfl, h1, T.clF, T.nF_tables, fF_tables _, d, kvs, rfl, .inl h2, fun p hp => ?_⟩
      have s1 : Same H (upd H p (.dK kvs)) := same_new hp
      refine ⟨_, rfl, e, rfl, fun H2 l s2 hl0 hl => ?_⟩
      have hp2 : H2 p = some (.dK kvs) := s2 _ _ upd_same
      have hlen : kvs.length ≤ 3 := by
        have := has_le kvs 0
        have := has_le kvs 1
        have := has_le kvs 2
        omega
      refine ⟨_, rfl, _, rfl, p, _, rfl, DPut.k (k := Sum.inl ((e : Nat) : Int)) hp2 (Nat.lt_of_le_of_lt hlen (by decide)), ?_⟩
      have nfp : fa ≠ p := ne_of_none h1 hp
      refine ⟨_, rfl, _, rfl, fa, CF, dx, _, rfl, (by rw [upd_ne nfp]; exact s2 _ _ (s1 _ _ h1)), T.clF, T.nF_tables, fF_len _, ?_⟩
      rw [fF_set_tables]
      -- the heap as it is now
      have kt : ∀ a xs, H2 a = some (.tup xs) → upd (upd H2 p (.dK (putK kvs (Sum.inl ((e : Nat) : Int)) (.ref l)))) fa (.ins CF dx (fF (.ref p))) a = some (.tup xs) := fun a xs z => by
        rw [upd_ne (ne_of z (s2 _ _ (s1 _ _ h1)) (by intro z; cases z)), upd_ne (ne_of z hp2 (by intro z; cases z))]
        exact z
      have kl : ∀ a xs, H2 a = some (.lst xs) → upd (upd H2 p (.dK (putK kvs (Sum.inl ((e : Nat) : Int)) (.ref l)))) fa (.ins CF dx (fF (.ref p))) a = some (.lst xs) := fun a xs z => by
        rw [upd_ne (ne_of z (s2 _ _ (s1 _ _ h1)) (by intro z; cases z)), upd_ne (ne_of z hp2 (by intro z; cases z))]
        exact z
      have hl4 := hl.kq kt kl
      have hd4 : upd (upd H2 p (.dK (putK kvs (Sum.inl ((e : Nat) : Int)) (.ref l)))) fa (.ins CF dx (fF (.ref p))) p = some (.dK (putK kvs (Sum.inl ((e : Nat) : Int)) (.ref l))) := by rw [upd_ne nfp.symm, upd_same]
      have hget : DGet (upd (upd H2 p (.dK (putK kvs (Sum.inl ((e : Nat) : Int)) (.ref l)))) fa (.ins CF dx (fF (.ref p)))) p (iN e) (some (.ref l)) := by
        have z := DGet.k (k := Sum.inl ((e : Nat) : Int)) hd4
        rw [valV_put, if_pos rfl] at z
        exact z
      refine ⟨_, rfl, fa, CF, dx, _, _, rfl, upd_same, T.clF, T.nF_tables, fF_tables _, _, rfl, p, _, rfl, hget, k _ l ⟨dx, p, upd_same, _, hd4, has_put he hv h3, fun e' v' he' hv' => ?_⟩ (fun a o z n => ?_) hl4⟩
      · rw [valV_put] at hv'
        by_cases ee : e' = e
        · subst ee
          rw [if_pos rfl] at hv'
          cases hv'
          exact ⟨l, rfl, hl4⟩
        · rw [if_neg (fun z => ee (key_inj z))] at hv'
          obtain ⟨l', rfl, hl'⟩ := h4 e' v' he' hv'
          exact ⟨l', rfl, hl'.kq (fun a xs z => kt a xs (s2 _ _ (s1 _ _ z))) fun a xs z => kl a xs (s2 _ _ (s1 _ _ z))⟩
      · rw [upd_ne n, upd_ne (ne_of_none z hp)]
        exact s2 _ _ (s1 _ _ z)
theorem sc_told : FnScope ["self", "ends", "score"] ["self", "ends", "score"] (C8.fnScope sTold) := C8.fnScope_by (by decide +kernel)
theorem ok_told {f : Addr} {fd : FuncData} (T : Txt K mg CF CR CP CS CB) (me : Meth K CF "told" f) (F : C8.Fun K "told" "Fewest.told" sTold f fd) (b : Binds K fd ["self", "ends", "score"] []) (cT : C8.Met P w K mg base 5 CF "table" (spTable CF) []) :
    C8.Met P w K mg base 6 CF "told" (spTold CF) [] := by
  refine C8.met0 T.clF me F b sc_told (fun vs H Q E h => ?_) (fun cdv A outer s H vs Q E hr h => ?_)
  · obtain ⟨_, _, _, rfl, _⟩ := h
    rfl
  · obtain ⟨fa, e, s, rfl, he, hs, hF, k⟩ := h
    refine ⟨_, pss_one (ps_ret (pe_ix ix_list (C8.pe_mt cT hr (by decide) (pv 0) (pa_cons (pv 1) pa_nil)) (pv 2) (fun _ _ => rfl))), ?_⟩
    obtain ⟨dx, d, h1, _⟩ := id hF
    refine ⟨_, rfl, fa, dx, _, rfl, h1, fF_no_table _, _, rfl, fa, e, rfl, he, hF, fun H' l hF' hB hT => ?_⟩
    obtain ⟨vs, h2, h3, h4⟩ := hT
    have hlt : s < vs.length := by omega
    have hg : vs[s]? = some vs[s] := List.getElem?_eq_getElem hlt
    exact ⟨_, rfl, l, vs, _, _, rfl, rfl, SqL.of h2, atI_nat hg, k H' _ hF' hB (h4 _ _ hg)⟩
end
end Dl
namespace Dl
open PySem PySem.Spec PyProof.Rows L2
abbrev sRInit : Stmt := inClass (top 23) 0
abbrev sPInit : Stmt := inClass (top 24) 0
abbrev sSInit : Stmt := inClass (top 25) 0
abbrev sThrower : Stmt := inClass (top 25) 1
abbrev sWith : Stmt := inClass (top 25) 2
abbrev sGoing : Stmt := inClass (top 25) 3
abbrev sWon : Stmt := inClass (top 25) 4
abbrev sNext : Stmt := inClass (top 25) 5
/-! ### Rules, Player, State -/
def spRInit (CR : Addr) : Sp := fun vs H Q _ => ∃ (p dx : Addr) (v0 v1 : V), vs = [.ref p, v0, v1] ∧ H p = some (.ins CR dx []) ∧ ∀ H' : Hp, H' p = some (.ins CR dx (fR v0 v1)) → But p H H' → Q .non H'
def spPInit (CP : Addr) : Sp := fun vs H Q _ => ∃ (p dx : Addr) (v0 v1 v2 : V), vs = [.ref p, v0, v1, v2] ∧ H p = some (.ins CP dx []) ∧ ∀ H' : Hp, H' p = some (.ins CP dx (fP v0 v1 v2)) → But p H H' → Q .non H'
def spSInit (CS : Addr) : Sp := fun vs H Q _ => ∃ (p dx : Addr) (v0 v1 v2 v3 v4 : V), vs = [.ref p, v0, v1, v2, v3, v4] ∧ H p = some (.ins CS dx []) ∧ ∀ H' : Hp, H' p = some (.ins CS dx (fS v0 v1 v2 v3 v4)) → But p H H' → Q .non H'
def spThrower (CS : Addr) : Sp := fun vs H Q _ => ∃ (a dx lp q : Addr) (v2 v3 v4 : V) (as : List Addr) (t : Nat), vs = [.ref a] ∧ H a = some (.ins CS dx (fS (.ref lp) (iN t) v2 v3 v4)) ∧ H lp = some (.lst (as.map V.ref)) ∧ as[t]? = some q ∧ Q (.ref q) H
def spWith (CS : Addr) : Sp := fun vs H Q _ => ∃ (a dx lp q : Addr) (v2 v3 v4 : V) (as : List Addr) (t : Nat), vs = [.ref a, .ref q] ∧ H a = some (.ins CS dx (fS (.ref lp) (iN t) v2 v3 v4)) ∧ H lp = some (.lst (as.map V.ref)) ∧ t < as.length ∧ as.length ≤ 4 ∧
  ∀ (H' : Hp) (p : Addr), Same H H' → H p = none → H' p = some (.lst ((as.set t q).map V.ref)) → Q (.ref p) H'
def spMove (CP CS : Addr) (g : Km371.Now → Km371.Player → Km371.Now) : Sp := fun vs H Q _ => ∃ (a q : Addr) (x : Km371.Now) (pl : Km371.Player), vs = [.ref a, .ref q] ∧ StAt CP CS H a x ∧ PlAt CP H q pl ∧ x.turn < x.players.length ∧ x.players.length ≤ 4 ∧ 1 ≤ x.left ∧
  ∀ (H' : Hp) (p : Addr), Same H H' → StAt CP CS H' p (g x pl) → Q (.ref p) H'
theorem pl0 : ([] : List (Str × V)).length ≤ 0 := Nat.le_refl _
theorem pl1 {f : Str} {v : V} {n : Nat} : ∀ {fs : List (Str × V)}, fs.length ≤ n → (putF f v fs).length ≤ n + 1
  | [], _ => by show 1 ≤ n + 1; omega
  | (g, x) :: r, h => by
    unfold putF
    split
    · rw [List.length_cons] at *; omega
    · rw [List.length_cons] at *
      have := pl1 (f := f) (v := v) (n := n - 1) (fs := r) (by omega)
      omega
theorem fS_new (v0 v1 v2 v3 v4 : V) : putF "is_over" v4 (putF "began" v3 (putF "left" v2 (putF "turn" v1 (putF "players" v0 [])))) = fS v0 v1 v2 v3 v4 := by
  show putF "is_over" v4 (putF "began" v3 (putF "left" v2 (putF "turn" v1 ([("players", v0)] : List (Str × V))))) = _
  rw [fS_put1, fS_put2, fS_put3, fS_put4] <;> rfl
theorem fP_new (v0 v1 v2 : V) : putF "darts" v2 (putF "has_opened" v1 (putF "score" v0 [])) = fP v0 v1 v2 := by
  show putF "darts" v2 (putF "has_opened" v1 ([("score", v0)] : List (Str × V))) = _
  rw [fP_put1, fP_put2] <;> rfl
theorem fR_new (v0 v1 : V) : putF "ends" v1 (putF "opens" v0 []) = fR v0 v1 := by
  show putF "ends" v1 ([("opens", v0)] : List (Str × V)) = _
  rw [fR_put1] <;> rfl
theorem cut_to {xs : List V} {t : Nat} (h : t ≤ xs.length) : cutV xs none (some ((t : Nat) : Int)) = xs.take t := by
  unfold cutV
  rw [HT.sIx_nat, HT.sIx_none, Nat.min_eq_left h]
  rfl
theorem cut_from {xs : List V} {t : Nat} (h : t ≤ xs.length) : cutV xs (some ((t : Nat) : Int)) none = xs.drop t := by
  unfold cutV
  rw [HT.sIx_nat, HT.sIx_none, Nat.min_eq_left h]
  exact List.take_of_length_le (by rw [List.length_drop] <;> exact Nat.le_refl _)
theorem cut_set {as : List Addr} {t : Nat} {q : Addr} (h : t < as.length) : cutV (as.map V.ref) none (some ((t : Nat) : Int)) ++ [V.ref q] ++ cutV (as.map V.ref) (some ((t : Nat) + 1 : Int)) none = (as.set t q).map V.ref := by
  rw [cut_to (by rw [List.length_map]; omega), show ((t : Nat) : Int) + 1 = ((t + 1 : Nat) : Int) from rfl, cut_from (by rw [List.length_map]; omega), List.set_eq_take_append_cons_drop, if_pos h, List.map_append, List.map_cons, List.map_take, List.map_drop, List.append_assoc]
  rfl
section
variable {P : Program} {w : World} {K : PySem.W.Frag} {mg : Str → Option Value} {base : Heap} {CF CR CP CS CB : Addr}
theorem sc_rInit : FnScope ["self", "opens", "ends"] ["self", "opens", "ends"] (C8.fnScope sRInit) := C8.fnScope_by (by decide +kernel)
theorem ok_rInit {f : Addr} {fd : FuncData} (T : Txt K mg CF CR CP CS CB) (M : Mk K CR f) (hm : mg "Rules" = some (.ref CR)) (F : C8.Fun K "__init__" "Rules.__init__" sRInit f fd) (b : Binds K fd ["self", "opens", "ends"] []) : C8.Mak P w K mg base 1 "Rules" CR (spRInit CR) [] := by
  refine C8.mak0 M hm F b .nil sc_rInit (fun vs H Q E h => ?_) (fun cdv A outer s H vs Q E hr h => ?_)
  · obtain ⟨_, _, _, _, rfl, _⟩ := h
    rfl
  · obtain ⟨p, dx, v0, v1, rfl, hp, k⟩ := h
    refine ⟨_, pss_cons (ps_fld (pv 0) (pv 1) rfl) (pss_one (ps_fld (pv 0) (pv 2) rfl)), ?_⟩
    refine ⟨_, rfl, _, rfl, p, CR, dx, [], rfl, hp, T.clR, T.nR_opens, (by decide), _, rfl, _, rfl, p, CR, dx, _, rfl, upd_same, T.clR, T.nR_ends, Nat.lt_of_le_of_lt (pl1 pl0) (by decide), ?_⟩
    refine k _ (by rw [upd_same, fR_new]) fun a o e n => ?_
    rw [upd_ne n, upd_ne n]
    exact e
theorem sc_pInit : FnScope ["self", "score", "has_opened", "darts"] ["self", "score", "has_opened", "darts"] (C8.fnScope sPInit) := C8.fnScope_by (by decide +kernel)
theorem ok_pInit {f : Addr} {fd : FuncData} (T : Txt K mg CF CR CP CS CB) (M : Mk K CP f) (hm : mg "Player" = some (.ref CP)) (F : C8.Fun K "__init__" "Player.__init__" sPInit f fd) (b : Binds K fd ["self", "score", "has_opened", "darts"] []) : C8.Mak P w K mg base 1 "Player" CP (spPInit CP) [] := by
  refine C8.mak0 M hm F b .nil sc_pInit (fun vs H Q E h => ?_) (fun cdv A outer s H vs Q E hr h => ?_)
  · obtain ⟨_, _, _, _, _, rfl, _⟩ := h
    rfl
  · obtain ⟨p, dx, v0, v1, v2, rfl, hp, k⟩ := h
    refine ⟨_, pss_cons (ps_fld (pv 0) (pv 1) rfl) (pss_cons (ps_fld (pv 0) (pv 2) rfl) (pss_one (ps_fld (pv 0) (pv 3) rfl))), ?_⟩
    refine ⟨_, rfl, _, rfl, p, CP, dx, [], rfl, hp, T.clP, T.nP_score, (by decide), _, rfl, _, rfl, p, CP, dx, _, rfl, upd_same, T.clP, T.nP_has_opened, Nat.lt_of_le_of_lt (pl1 pl0) (by decide),
      _, rfl, _, rfl, p, CP, dx, _, rfl, upd_same, T.clP, T.nP_darts, Nat.lt_of_le_of_lt (pl1 (pl1 pl0)) (by decide), ?_⟩
    refine k _ (by rw [upd_same, fP_new]) fun a o e n => ?_
    rw [upd_ne n, upd_ne n, upd_ne n]
    exact e
theorem sc_sInit : FnScope ["self", "players", "turn", "left", "began", "is_over"] ["self", "players", "turn", "left", "began", "is_over"] (C8.fnScope sSInit) := C8.fnScope_by (by decide +kernel)
theorem ok_sInit {f : Addr} {fd : FuncData} (T : Txt K mg CF CR CP CS CB) (M : Mk K CS f) (hm : mg "State" = some (.ref CS)) (F : C8.Fun K "__init__" "State.__init__" sSInit f fd) (b : Binds K fd ["self", "players", "turn", "left", "began", "is_over"] []) : C8.Mak P w K mg base 1 "State" CS (spSInit CS) [] := by
  refine C8.mak0 M hm F b .nil sc_sInit (fun vs H Q E h => ?_) (fun cdv A outer s H vs Q E hr h => ?_)
  · obtain ⟨_, _, _, _, _, _, _, rfl, _⟩ := h
    rfl
  · obtain ⟨p, dx, v0, v1, v2, v3, v4, rfl, hp, k⟩ := h
    refine ⟨_, pss_cons (ps_fld (pv 0) (pv 1) rfl) (pss_cons (ps_fld (pv 0) (pv 2) rfl) (pss_cons (ps_fld (pv 0) (pv 3) rfl) (pss_cons (ps_fld (pv 0) (pv 4) rfl) (pss_one (ps_fld (pv 0) (pv 5) rfl))))), ?_⟩
    refine ⟨_, rfl, _, rfl, p, CS, dx, [], rfl, hp, T.clS, T.nS_players, (by decide), _, rfl, _, rfl, p, CS, dx, _, rfl, upd_same, T.clS, T.nS_turn, Nat.lt_of_le_of_lt (pl1 pl0) (by decide),
      _, rfl, _, rfl, p, CS, dx, _, rfl, upd_same, T.clS, T.nS_left, Nat.lt_of_le_of_lt (pl1 (pl1 pl0)) (by decide), _, rfl, _, rfl, p, CS, dx, _, rfl, upd_same, T.clS, T.nS_began, Nat.lt_of_le_of_lt (pl1 (pl1 (pl1 pl0))) (by decide),
      _, rfl, _, rfl, p, CS, dx, _, rfl, upd_same, T.clS, T.nS_is_over, Nat.lt_of_le_of_lt (pl1 (pl1 (pl1 (pl1 pl0)))) (by decide), ?_⟩
    refine k _ (by rw [upd_same, fS_new]) fun a o e n => ?_
    rw [upd_ne n, upd_ne n, upd_ne n, upd_ne n, upd_ne n]
    exact e
theorem sc_thrower : FnScope ["self"] ["self"] (C8.fnScope sThrower) := C8.fnScope_by (by decide +kernel)
theorem ok_thrower {f : Addr} {fd : FuncData} (T : Txt K mg CF CR CP CS CB) (me : Meth K CS "thrower" f) (F : C8.Fun K "thrower" "State.thrower" sThrower f fd) (b : Binds K fd ["self"] []) : C8.Met P w K mg base 1 CS "thrower" (spThrower CS) [] := by
  refine C8.met0 T.clS me F b sc_thrower (fun vs H Q E h => ?_) (fun cdv A outer s H vs Q E hr h => ?_)
  · obtain ⟨_, _, _, _, _, _, _, _, _, rfl, _⟩ := h
    rfl
  · obtain ⟨a, dx, lp, q, v2, v3, v4, as, t, rfl, h1, h2, h3, k⟩ := h
    refine ⟨_, pss_one (ps_ret (pe_ix ix_list (pe_fld (pv 0) rfl) (pe_fld (pv 0) rfl) (fun _ _ => rfl))), ?_⟩
    exact ⟨_, rfl, a, CS, dx, _, _, rfl, h1, T.clS, T.nS_players, fS_players _ _ _ _ _, _, rfl, a, CS, dx, _, _, rfl, h1, T.clS, T.nS_turn, fS_turn _ _ _ _ _, lp, _, _, _, rfl, rfl, SqL.of h2, atI_nat (map_at h3), k⟩
theorem sc_with : FnScope ["self", "player"] ["self", "player"] (C8.fnScope sWith) := C8.fnScope_by (by decide +kernel)
theorem ok_with {f : Addr} {fd : FuncData} (T : Txt K mg CF CR CP CS CB) (me : Meth K CS "with_thrower" f) (F : C8.Fun K "with_thrower" "State.with_thrower" sWith f fd) (b : Binds K fd ["self", "player"] []) : C8.Met P w K mg base 1 CS "with_thrower" (spWith CS) [] := by
  refine C8.met0 T.clS me F b sc_with (fun vs H Q E h => ?_) (fun cdv A outer s H vs Q E hr h => ?_)
  · obtain ⟨_, _, _, _, _, _, _, _, _, rfl, _⟩ := h
    rfl
  · obtain ⟨a, dx, lp, q, v2, v3, v4, as, t, rfl, h1, h2, h3, h4, k⟩ := h
    refine ⟨_, pss_one (ps_ret (pe_op op_cat (pe_op op_cat (pe_slice sl_list (pe_fld (pv 0) rfl) po_none (po_some (pe_fld (pv 0) rfl))) (pe_lst (pa_cons (pv 1) pa_nil)))
      (pe_slice sl_list (pe_fld (pv 0) rfl) (po_some (pe_op op_add (pe_fld (pv 0) rfl) pe_int)) po_none))), ?_⟩
    refine ⟨_, rfl, a, CS, dx, _, _, rfl, h1, T.clS, T.nS_players, fS_players _ _ _ _ _, _, rfl, a, CS, dx, _, _, rfl, h1, T.clS, T.nS_turn, fS_turn _ _ _ _ _, _, rfl, lp, _, rfl, SqL.of h2, fun p1 hp1 => ?_⟩
    have l1 : (cutV (as.map V.ref) none (some ((t : Nat) : Int))).length ≤ 4 := Nat.le_trans (cutV_length _ _ _) (by rw [List.length_map]; exact h4)
    have l2 : (cutV (as.map V.ref) (some (((t : Nat) : Int) + 1)) none).length ≤ 4 := Nat.le_trans (cutV_length _ _ _) (by rw [List.length_map]; exact h4)
    have s1 : Same H (upd H p1 (.lst (cutV (as.map V.ref) none (some ((t : Nat) : Int))))) := same_new hp1
    have e1 : upd H p1 (.lst (cutV (as.map V.ref) none (some ((t : Nat) : Int)))) p1 = some (.lst (cutV (as.map V.ref) none (some ((t : Nat) : Int)))) := upd_same
    generalize upd H p1 (.lst (cutV (as.map V.ref) none (some ((t : Nat) : Int)))) = H1 at s1 e1 ⊢
    refine ⟨_, rfl, (by show 1 ≤ sizeLine; decide), fun p2 hp2 => ?_⟩
    have s2 : Same H1 (upd H1 p2 (.lst [.ref q])) := same_new hp2
    have e2 : upd H1 p2 (.lst [.ref q]) p2 = some (.lst [.ref q]) := upd_same
    generalize upd H1 p2 (.lst [.ref q]) = H2 at s2 e2 ⊢
    refine ⟨p1, p2, _, _, rfl, rfl, s2 _ _ e1, e2, Nat.le_trans (show _ ≤ 4 + 1 from Nat.add_le_add l1 (Nat.le_refl _)) (by decide), fun p3 hp3 => ?_⟩
    have s3 : Same H2 (upd H2 p3 (.lst (cutV (as.map V.ref) none (some ((t : Nat) : Int)) ++ [.ref q]))) := same_new hp3
    have e3 : upd H2 p3 (.lst (cutV (as.map V.ref) none (some ((t : Nat) : Int)) ++ [.ref q])) p3 = some (.lst (cutV (as.map V.ref) none (some ((t : Nat) : Int)) ++ [.ref q])) := upd_same
    generalize upd H2 p3 (.lst (cutV (as.map V.ref) none (some ((t : Nat) : Int)) ++ [.ref q])) = H3 at s3 e3 ⊢
    have sH : Same H H3 := fun b o z => s3 _ _ (s2 _ _ (s1 _ _ z))
    refine ⟨_, rfl, a, CS, dx, _, _, rfl, sH _ _ h1, T.clS, T.nS_players, fS_players _ _ _ _ _, _, rfl, a, CS, dx, _, _, rfl, sH _ _ h1, T.clS, T.nS_turn, fS_turn _ _ _ _ _, _, _, rfl, rfl, _, rfl, lp, _, rfl, SqL.of (sH _ _ h2), fun p4 hp4 => ?_⟩
    have s4 : Same H3 (upd H3 p4 (.lst (cutV (as.map V.ref) (some (((t : Nat) : Int) + 1)) none))) := same_new hp4
    have e4 : upd H3 p4 (.lst (cutV (as.map V.ref) (some (((t : Nat) : Int) + 1)) none)) p4 = some (.lst (cutV (as.map V.ref) (some (((t : Nat) : Int) + 1)) none)) := upd_same
    generalize upd H3 p4 (.lst (cutV (as.map V.ref) (some (((t : Nat) : Int) + 1)) none)) = H4 at s4 e4 ⊢
    refine ⟨p3, p4, _, _, rfl, rfl, s4 _ _ e3, e4, ?_, fun p5 hp5 => ?_⟩
    · rw [List.length_append, List.length_singleton]
      exact Nat.le_trans (show _ ≤ 4 + 1 + 4 from Nat.add_le_add (Nat.add_le_add l1 (Nat.le_refl _)) l2) (by decide)
    · have hf : H p5 = none := (show Same H H4 from fun b o z => s4 _ _ (sH _ _ z)).free hp5
      exact k _ p5 (fun b o z => same_new hp5 _ _ (s4 _ _ (sH _ _ z))) hf (by rw [upd_same, cut_set h3])
/-- a state is made -/
theorem st_made {H1 H2 : Hp} {x dx lp bp : Addr} {as : List Addr} {y : Km371.Now} (nx : H1 x = none) (nd : H1 dx = none) (B : But x (upd (upd H1 dx (.own x)) x (.ins CS dx [])) H2) (hx : H2 x = some (.ins CS dx (fS (.ref lp) (iN y.turn) (iN y.left) (.ref bp) (.bl y.over))))
    (hl : H1 lp = some (.lst (as.map V.ref))) (ne : as ≠ []) (ha : All2 (PlAt CP H1) as y.players) (hb : PlAt CP H1 bp y.began) : Same H1 H2 ∧ StAt CP CS H2 x y := by
  have s : Same H1 H2 := Same.made nx nd B
  exact ⟨s, dx, lp, bp, as, hx, s _ _ hl, ne, ha.imp fun _ _ z => z.same s, hb.same s⟩
theorem set_ne {α : Type} {as : List α} {t : Nat} {q : α} (h : as ≠ []) : as.set t q ≠ [] := fun z => h (by
  have := congrArg List.length z
  rw [List.length_set] at this
  exact List.length_eq_zero_iff.mp this)
theorem sc_going : FnScope ["self", "player"] ["self", "player"] (C8.fnScope sGoing) := C8.fnScope_by (by decide +kernel)
theorem ok_going {f : Addr} {fd : FuncData} (T : Txt K mg CF CR CP CS CB) (me : Meth K CS "going_on" f) (F : C8.Fun K "going_on" "State.going_on" sGoing f fd) (b : Binds K fd ["self", "player"] []) (cW : C8.Met P w K mg base 1 CS "with_thrower" (spWith CS) []) (cS : C8.Mak P w K mg base 1 "State" CS (spSInit CS) []) :
    C8.Met P w K mg base 3 CS "going_on" (spMove CP CS goV) [] := by
  refine C8.met0 T.clS me F b sc_going (fun vs H Q E h => ?_) (fun cdv A outer s H vs Q E hr h => ?_)
  · obtain ⟨_, _, _, _, rfl, _⟩ := h
    rfl
  · obtain ⟨a, q, x, pl, rfl, ⟨dx, lp, bp, as, h1, h2, h3, h4, h5⟩, hq, ht, h44, hl1, k⟩ := h
    refine ⟨_, pss_one (ps_ret (C8.pe_mk cS hr (by decide) rfl (pa_cons (C8.pe_mt cW hr (by decide) (pv 0) (pa_cons (pv 1) pa_nil)) (pa_cons (pe_fld (pv 0) rfl) (pa_cons (pe_op op_sub (pe_fld (pv 0) rfl) pe_int) (pa_cons (pe_fld (pv 0) rfl) (pa_cons pe_bl pa_nil))))))), ?_⟩
    refine ⟨_, rfl, a, dx, _, rfl, h1, fS_no_with_thrower _ _ _ _ _, _, rfl, a, dx, lp, q, _, _, _, as, x.turn, rfl, h1, h2, (by rw [h4.1]; exact ht), (by rw [h4.1]; exact h44), fun H1 lp' s1 _ hlp => ?_⟩
    refine ⟨_, rfl, a, CS, dx, _, _, rfl, s1 _ _ h1, T.clS, T.nS_turn, fS_turn _ _ _ _ _, _, rfl, a, CS, dx, _, _, rfl, s1 _ _ h1, T.clS, T.nS_left, fS_left _ _ _ _ _, _, _, rfl, rfl, _, rfl, a, CS, dx, _, _, rfl, s1 _ _ h1, T.clS, T.nS_began, fS_began _ _ _ _ _, ?_⟩
    intro y dy ny ndy ney
    refine ⟨y, dy, _, _, _, _, _, rfl, upd_same, fun H2 hy B => ⟨rfl, ?_⟩⟩
    have z : ((x.left : Int) - 1) = ((x.left - 1 : Nat) : Int) := by omega
    have hy : H2 y = some (.ins CS dy (fS (.ref lp') (iN x.turn) (.int ((x.left : Int) - 1)) (.ref bp) (.bl false))) := hy
    rw [z] at hy
    obtain ⟨s2, g⟩ := st_made (CP := CP) (as := as.set x.turn q) (y := goV x pl) ny ndy B hy hlp (set_ne h3) (All2.set (h4.imp fun _ _ z => z.same s1) (hq.same s1)) (h5.same s1)
    exact k H2 y (fun b o z => s2 _ _ (s1 _ _ z)) g
theorem sc_won : FnScope ["self", "player"] ["self", "player"] (C8.fnScope sWon) := C8.fnScope_by (by decide +kernel)
theorem ok_won {f : Addr} {fd : FuncData} (T : Txt K mg CF CR CP CS CB) (me : Meth K CS "won" f) (F : C8.Fun K "won" "State.won" sWon f fd) (b : Binds K fd ["self", "player"] []) (cW : C8.Met P w K mg base 1 CS "with_thrower" (spWith CS) []) (cS : C8.Mak P w K mg base 1 "State" CS (spSInit CS) []) :
    C8.Met P w K mg base 3 CS "won" (spMove CP CS wonV) [] := by
  refine C8.met0 T.clS me F b sc_won (fun vs H Q E h => ?_) (fun cdv A outer s H vs Q E hr h => ?_)
  · obtain ⟨_, _, _, _, rfl, _⟩ := h
    rfl
  · obtain ⟨a, q, x, pl, rfl, ⟨dx, lp, bp, as, h1, h2, h3, h4, h5⟩, hq, ht, h44, hl1, k⟩ := h
    refine ⟨_, pss_one (ps_ret (C8.pe_mk cS hr (by decide) rfl (pa_cons (C8.pe_mt cW hr (by decide) (pv 0) (pa_cons (pv 1) pa_nil)) (pa_cons (pe_fld (pv 0) rfl) (pa_cons (pe_fld (pv 0) rfl) (pa_cons (pe_fld (pv 0) rfl) (pa_cons pe_bl pa_nil))))))), ?_⟩
    refine ⟨_, rfl, a, dx, _, rfl, h1, fS_no_with_thrower _ _ _ _ _, _, rfl, a, dx, lp, q, _, _, _, as, x.turn, rfl, h1, h2, (by rw [h4.1]; exact ht), (by rw [h4.1]; exact h44), fun H1 lp' s1 _ hlp => ?_⟩
    refine ⟨_, rfl, a, CS, dx, _, _, rfl, s1 _ _ h1, T.clS, T.nS_turn, fS_turn _ _ _ _ _, _, rfl, a, CS, dx, _, _, rfl, s1 _ _ h1, T.clS, T.nS_left, fS_left _ _ _ _ _, _, rfl, a, CS, dx, _, _, rfl, s1 _ _ h1, T.clS, T.nS_began, fS_began _ _ _ _ _, ?_⟩
    intro y dy ny ndy ney
    refine ⟨y, dy, _, _, _, _, _, rfl, upd_same, fun H2 hy B => ⟨rfl, ?_⟩⟩
    obtain ⟨s2, g⟩ := st_made (CP := CP) (as := as.set x.turn q) (y := wonV x pl) ny ndy B hy hlp (set_ne h3) (All2.set (h4.imp fun _ _ z => z.same s1) (hq.same s1)) (h5.same s1)
    exact k H2 y (fun b o z => s2 _ _ (s1 _ _ z)) g
theorem sc_next : FnScope ["self", "player", "players", "turn"] ["self", "player"] (C8.fnScope sNext) := C8.fnScope_by (by decide +kernel)
theorem ok_next {f : Addr} {fd : FuncData} (T : Txt K mg CF CR CP CS CB) (me : Meth K CS "next_visit" f) (F : C8.Fun K "next_visit" "State.next_visit" sNext f fd) (b : Binds K fd ["self", "player"] []) (cW : C8.Met P w K mg base 1 CS "with_thrower" (spWith CS) []) (cS : C8.Mak P w K mg base 1 "State" CS (spSInit CS) []) :
    C8.Met P w K mg base 3 CS "next_visit" (spMove CP CS nextV) [] := by
  refine C8.met0 T.clS me F b sc_next (fun vs H Q E h => ?_) (fun cdv A outer s H vs Q E hr h => ?_)
  · obtain ⟨_, _, _, _, rfl, _⟩ := h
    rfl
  · obtain ⟨a, q, x, pl, rfl, ⟨dx, lp, bp, as, h1, h2, h3, h4, h5⟩, hq, ht, h44, hl1, k⟩ := h
    refine ⟨_, pss_cons (ps_set (i := 2) sc_next.nd rfl (.inl rfl) (C8.pe_mt cW hr (by decide) (pv 0) (pa_cons (pv 1) pa_nil)))
      (pss_cons (ps_set (i := 3) sc_next.nd rfl (.inl rfl) (pe_op op_mod (pe_op op_add (pe_fld (pv 0) rfl) pe_int) (pe_callB call_len_seq (by rfl) T.zlen PySem.boot_len (pa_cons (pv 2) pa_nil))))
      (pss_one (ps_ret (C8.pe_mk cS hr (by decide) rfl (pa_cons (pv 2) (pa_cons (pv 3) (pa_cons (C8.pe_gc rfl T.c_VISIT) (pa_cons (pe_ix ix_list (pv 2) (pv 3) (fun _ _ => rfl)) (pa_cons pe_bl pa_nil))))))))), ?_⟩
    refine ⟨_, rfl, a, dx, _, rfl, h1, fS_no_with_thrower _ _ _ _ _, _, rfl, a, dx, lp, q, _, _, _, as, x.turn, rfl, h1, h2, (by rw [h4.1]; exact ht), (by rw [h4.1]; exact h44), fun H1 lp' s1 _ hlp => ?_⟩
    have hlen : ((as.set x.turn q).map V.ref).length = x.players.length := by rw [List.length_map, List.length_set, h4.1]
    refine ⟨_, rfl, a, CS, dx, _, _, rfl, s1 _ _ h1, T.clS, T.nS_turn, fS_turn _ _ _ _ _, _, _, rfl, rfl, _, rfl, lp', _, rfl, .inl (SqL.of hlp), _, _, rfl, rfl, (by rw [hlen]; omega), ?_⟩
    have hA : All2 (PlAt CP H1) (as.set x.turn q) (x.players.set x.turn pl) := All2.set (h4.imp fun _ _ z => z.same s1) (hq.same s1)
    have hm : (x.turn + 1) % x.players.length < x.players.length := Nat.mod_lt _ (by omega)
    have hm2 : (x.turn + 1) % x.players.length < (x.players.set x.turn pl).length := by rw [List.length_set]; exact hm
    obtain ⟨b2, hb2, hb3⟩ := at2 hA (List.getElem?_eq_getElem hm2)
    have z : (((x.turn : Int) + 1) % (((as.set x.turn q).map V.ref).length : Int)) = (((x.turn + 1) % x.players.length : Nat) : Int) := by
      rw [hlen, Int.natCast_emod, Int.natCast_add]
      rfl
    refine ⟨_, rfl, _, rfl, _, rfl, _, rfl, lp', _, _, .ref b2, rfl, rfl, SqL.of hlp, ?_, ?_⟩
    · show atI ((as.set x.turn q).map V.ref) (((x.turn : Int) + 1) % (((as.set x.turn q).map V.ref).length : Int)) = _
      rw [z]
      exact atI_nat (map_at hb2)
    · intro y dy ny ndy ney
      refine ⟨y, dy, _, _, _, _, _, rfl, upd_same, fun H2 hy B => ⟨rfl, ?_⟩⟩
      have hy : H2 y = some (.ins CS dy (fS (.ref lp') (.int (((x.turn : Int) + 1) % (((as.set x.turn q).map V.ref).length : Int))) (.int 3) (.ref b2) (.bl false))) := hy
      rw [z] at hy
      have hbg : (nextV x pl).began = (x.players.set x.turn pl)[(x.turn + 1) % x.players.length] := by
        show (x.players.set x.turn pl).getD ((x.turn + 1) % x.players.length) ⟨0, false, 0⟩ = _
        rw [List.getD_eq_getElem?_getD, List.getElem?_eq_getElem hm2] <;> rfl
      obtain ⟨s2, g⟩ := st_made (CP := CP) (as := as.set x.turn q) (y := nextV x pl) ny ndy B hy hlp (set_ne h3) hA (by rw [hbg]; exact hb3)
      exact k H2 y (fun b o z => s2 _ _ (s1 _ _ z)) g
end
end Dl
namespace Dl
open PySem PySem.Spec PyProof.Rows L2
abbrev sFirst : Stmt := top 26
abbrev sThrown : Stmt := top 27
/-! ### first_state, thrown -/
def spFirst (CR CP CS : Addr) : Sp := fun vs H Q _ => ∃ (n s i o : Nat) (ra : Addr), vs = [iN n, iN s, .ref ra] ∧ 1 ≤ n ∧ n ≤ 4 ∧ RuAt CR H ra i o ∧ ∀ (H' : Hp) (p : Addr), Same H H' → StAt CP CS H' p (Km371.fresh n s i o).now → Q (.ref p) H'
def spThrown (CR CP CS : Addr) : Sp := fun vs H Q _ => ∃ (ra a da : Addr) (n i o : Nat) (x : Km371.Now) (d : Km371.Dart), vs = [.ref ra, .ref a, .ref da] ∧ RuAt CR H ra i o ∧ StAt CP CS H a x ∧ DartAt H da d ∧ Km371.isDart d = true ∧ GoodNow n i o x ∧ n ≤ 4 ∧
  ∀ (H' : Hp) (t p : Addr), Same H H' → H' t = some (.tup [.ref p, iN (thrownV o x d).2]) → StAt CP CS H' p (thrownV o x d).1 → Q (.ref t) H'
theorem dec_zero (i : Nat) : decide (iN i = V.int 0) = (i == 0) := by
  rw [Bool.eq_iff_iff]
  simp
theorem dart_small {d : Km371.Dart} (h : Km371.isDart d = true) : d.field ≤ 1000 := by
  unfold Km371.isDart at h
  simp at h
  omega
section
variable {P : Program} {w : World} {K : PySem.W.Frag} {mg : Str → Option Value} {base : Heap} {CF CR CP CS CB : Addr}
/-- a player is made -/
theorem pl_made {H1 H2 : Hp} {x dx : Addr} {p : Km371.Player} (nx : H1 x = none) (nd : H1 dx = none) (B : But x (upd (upd H1 dx (.own x)) x (.ins CP dx [])) H2) (hx : H2 x = some (.ins CP dx (fP (iN p.score) (.bl p.opened) (iN p.thrown)))) : Same H1 H2 ∧ PlAt CP H2 x p :=
  ⟨Same.made nx nd B, dx, hx⟩
theorem sc_first : FnScope ["many", "score", "rules", "players", "k"] ["many", "score", "rules"] (C8.fnScope sFirst) := C8.fnScope_by (by decide +kernel)
theorem ok_first {f : Addr} {fd : FuncData} (T : Txt K mg CF CR CP CS CB) (F : C8.Def K mg "first_state" sFirst f fd) (b : Binds K fd ["many", "score", "rules"] []) (cP : C8.Mak P w K mg base 1 "Player" CP (spPInit CP) []) (cS : C8.Mak P w K mg base 1 "State" CS (spSInit CS) []) :
    C8.Cal P w K mg base 3 "first_state" (spFirst CR CP CS) [] := by
  refine C8.cal0 F b .nil sc_first (fun vs H Q E h => ?_) (fun cdv A outer s H vs Q E hr h => ?_)
  · obtain ⟨_, _, _, _, _, rfl, _⟩ := h
    rfl
  · obtain ⟨n, s, i, o, ra, rfl, h1, h4, ⟨dr, hR⟩, k⟩ := h
    refine ⟨_, pss_cons (ps_setLc (i := 3) (own := [("k", 4)]) (g := gName 4) (te := tMake CP (spPInit CP) [] C8.E0 (tCons (tVar 1) (tCons (tOp rEq (tFld K (tVar 2) "opens") (tC (.int 0))) (tCons (tC (.int 0)) tNil)))) (by rfl) sc_first.nd rfl rfl (sw_true rfl rfl rfl (by decide +kernel)) (pi_range1 rfl T.zrange (pa_cons (pv 0) pa_nil))
        (blkOk_by (own := [("k", 4)]) (N := ["many", "score", "rules", "players", "k"]) (sc := C8.fnScope sFirst) (by decide +kernel)) (fun _ _ _ _ _ => pg_name (i := 4) sc_first.nd rfl (Or.inl rfl)) (fun _ _ _ _ _ => pts_nil)
        (fun _ _ _ _ _ => C8.pe_mk cP hr (by decide) rfl (by exact (pa_cons (pv 1) (pa_cons (pe_cmpR op_eq (pe_fld (pv 2) rfl) pe_int (nomark _)) (pa_cons pe_int pa_nil))))))
      (pss_one (ps_ret (C8.pe_mk cS hr (by decide) rfl (pa_cons (pv 3) (pa_cons pe_int (pa_cons (C8.pe_gc rfl T.c_VISIT) (pa_cons (pe_ix ix_list (pv 3) pe_int (fun _ _ => rfl)) (pa_cons pe_bl pa_nil)))))))), ?_⟩
    refine ⟨_, rfl, (n : Int), rfl, by omega, by omega, fun D hD => ?_⟩
    refine lc_range (lo := 0) (n := ((n : Nat) : Int).toNat) (fun j H' => Same H H' ∧ ∃ bs : List Addr, H' D = some (.lst (bs.map V.ref)) ∧ All2 (PlAt CP H') bs (List.replicate j ⟨s, i == 0, 0⟩)) ⟨same_new hD, [], upd_same, All2.nil⟩ ?_ ?_
    · rintro j H2 hj ⟨s2, bs, hB, hA⟩
      rw [Int.toNat_natCast] at hj
      have hbl := hA.1
      rw [List.length_replicate] at hbl
      refine ⟨rfl, ?_⟩
      refine ⟨_, rfl, _, rfl, ra, CR, dr, _, _, rfl, s2 _ _ hR, T.clR, T.nR_opens, fR_opens _ _, rfl, ?_⟩
      intro y dy ny ndy ney
      refine ⟨y, dy, _, _, _, rfl, upd_same, fun H3 hy B => ⟨rfl, ?_⟩⟩
      have hy : H3 y = some (.ins CP dy (fP (iN s) (.bl (decide (iN i = V.int 0))) (iN 0))) := hy
      rw [dec_zero] at hy
      obtain ⟨s3, g⟩ := pl_made (p := ⟨s, i == 0, 0⟩) ny ndy B hy
      have hB3 : H3 D = some (.lst (bs.map V.ref)) := s3 _ _ hB
      have up : ∀ a p, PlAt CP H3 a p → PlAt CP (upd H3 D (.lst (bs.map V.ref ++ [.ref y]))) a p := fun a p ⟨dz, z⟩ => ⟨dz, by
        rw [upd_ne (ne_of z hB3 (by intro z; cases z))]
        exact z⟩
      refine ⟨bs.map V.ref, hB3, by rw [List.length_map, hbl]; exact Nat.lt_of_lt_of_le (show j < 4 by omega) (by decide), same_re hD fun b o z => s3 _ _ (s2 _ _ z), bs ++ [y], by rw [upd_same, refs_snoc], ?_⟩
      rw [List.replicate_succ']
      exact All2.snoc (hA.imp fun a p z => up a p (z.same s3)) (up _ _ g)
    · rintro H2 ⟨s2, bs, hB, hA⟩
      rw [Int.toNat_natCast] at hA
      have hbl := hA.1
      rw [List.length_replicate] at hbl
      have h0 : (List.replicate n (⟨s, i == 0, 0⟩ : Km371.Player))[0]? = some ⟨s, i == 0, 0⟩ := by
        rw [List.getElem?_replicate, if_pos (show 0 < n from h1)]
      obtain ⟨b0, hb0, hb1⟩ := at2 hA h0
      refine ⟨_, rfl, _, rfl, D, _, _, .ref b0, rfl, rfl, SqL.of hB, atI_nat (j := 0) (map_at hb0), ?_⟩
      intro y dy ny ndy ney
      refine ⟨y, dy, _, _, _, _, _, rfl, upd_same, fun H3 hy B => ⟨rfl, ?_⟩⟩
      have hne : bs ≠ [] := fun z => by
        rw [z] at hbl
        have : (0 : Nat) = n := hbl
        omega
      obtain ⟨s3, g⟩ := st_made (CP := CP) (as := bs) (y := (Km371.fresh n s i o).now) ny ndy B hy hB hne hA hb1
      exact k H3 y (fun b o z => s3 _ _ (s2 _ _ z)) g
theorem sc_thrown : FnScope ["rules", "state", "dart", "player", "has_opened", "score", "found"] ["rules", "state", "dart"] (C8.fnScope sThrown) := C8.fnScope_by (by decide +kernel)
theorem ok_thrown {f : Addr} {fd : FuncData} (T : Txt K mg CF CR CP CS CB) (F : C8.Def K mg "thrown" sThrown f fd) (b : Binds K fd ["rules", "state", "dart"] []) (cW : C8.Cal P w K mg base 1 "worth" spWorth []) (cB : C8.Cal P w K mg base 2 "does_burst" spBurst [])
    (cP : C8.Mak P w K mg base 1 "Player" CP (spPInit CP) []) (cT : C8.Met P w K mg base 1 CS "thrower" (spThrower CS) []) (cG : C8.Met P w K mg base 3 CS "going_on" (spMove CP CS goV) []) (cV : C8.Met P w K mg base 3 CS "won" (spMove CP CS wonV) []) (cN : C8.Met P w K mg base 3 CS "next_visit" (spMove CP CS nextV) []) :
    C8.Cal P w K mg base 4 "thrown" (spThrown CR CP CS) [] := by
  refine C8.cal0 F b .nil sc_thrown (fun vs H Q E h => ?_) (fun cdv A outer s H vs Q E hr h => ?_)
  · obtain ⟨_, _, _, _, _, _, _, _, rfl, _⟩ := h
    rfl
  · obtain ⟨ra, a, da, n, i, o, x, d, rfl, ⟨dr, hR⟩, hSt, hD, hdart, g, hn4, k⟩ := h
    obtain ⟨dx, lp, bp, as, h1, h2, h3, h4, h5⟩ := id hSt
    refine ⟨_, pss_cons (ps_set (i := 3) sc_thrown.nd rfl (.inl rfl) (C8.pe_mt0 cT hr (by decide) (pv 1)))
      (C8.pss_cut (ps_set (i := 4) sc_thrown.nd rfl (.inl rfl) (pe_or (pe_fld (pv 3) rfl) (pe_one (pe_cmpR op_eq (pe_ix ix_tup (pv 2) pe_int (fun _ _ => rfl)) pe_int (nomark _)))))
      (pss_cons (ps_set (i := 5) sc_thrown.nd rfl (.inl rfl) (pe_fld (pv 3) rfl))
      (C8.pss_cut (ps_if (pt_val (pv 4)) (pss_one (ps_set (i := 5) sc_thrown.nd rfl (.inl rfl) (pe_op op_sub (pv 5) (C8.pe_c cW hr (by decide) rfl (pa_cons (pv 2) pa_nil))))) pss_nil)
      (C8.pss_cut (ps_if (PW.pt (pw_and (pt_val (pv 4)) (pw_and1 (pt_val (C8.pe_c cB hr (by decide) rfl (pa_cons (pe_fld (pv 0) rfl) (pa_cons (pv 5) (pa_cons (pv 2) pa_nil))))))))
          (pss_one (ps_ret (pe_tup (pa_cons (C8.pe_mt cN hr (by decide) (pv 1) (pa_cons (C8.pe_mk cP hr (by decide) rfl (pa_cons (pe_fld (pe_fld (pv 1) rfl) rfl) (pa_cons (pe_fld (pe_fld (pv 1) rfl) rfl) (pa_cons (pe_op op_add (pe_fld (pv 3) rfl) pe_int) pa_nil)))) pa_nil)) (pa_cons (C8.pe_gc rfl T.c_BURST) pa_nil))))) pss_nil)
      (pss_cons (ps_set (i := 6) sc_thrown.nd rfl (.inl rfl) (C8.pe_mk cP hr (by decide) rfl (pa_cons (pv 5) (pa_cons (pv 4) (pa_cons (pe_op op_add (pe_fld (pv 3) rfl) pe_int) pa_nil)))))
      (pss_cons (ps_if (pt_cmpR op_eq (pv 5) pe_int (nomark _)) (pss_one (ps_ret (pe_tup (pa_cons (C8.pe_mt cV hr (by decide) (pv 1) (pa_cons (pv 6) pa_nil)) (pa_cons (C8.pe_gc rfl T.c_WON) pa_nil))))) pss_nil)
      (pss_cons (ps_if (pt_cmpR op_eq (pe_fld (pv 1) rfl) pe_int (nomark _)) (pss_one (ps_ret (pe_tup (pa_cons (C8.pe_mt cN hr (by decide) (pv 1) (pa_cons (pv 6) pa_nil)) (pa_cons (C8.pe_gc rfl T.c_VISIT_OVER) pa_nil))))) pss_nil)
      (pss_one (ps_ret (pe_tup (pa_cons (C8.pe_mt cG hr (by decide) (pv 1) (pa_cons (pv 6) pa_nil)) (pa_cons (C8.pe_gc rfl T.c_GOES_ON) pa_nil))))))))))))
      , ?_⟩
    -- player = state.thrower()
    have htl : x.turn < x.players.length := by rw [g.len]; exact g.turn
    have h44 : x.players.length ≤ 4 := by rw [g.len]; exact hn4
    have hpl : x.players[x.turn]? = some (Km371.player x x.turn) := by
      unfold Km371.player
      rw [List.getD_eq_getElem?_getD, List.getElem?_eq_getElem htl] <;> rfl
    obtain ⟨q, hq, dq, hqP⟩ := at2 h4 hpl
    obtain ⟨db, hbP⟩ := id h5
    have hz := dart_zero hdart
    refine ⟨_, rfl, a, dx, _, rfl, h1, fS_no_thrower _ _ _ _ _, a, dx, lp, q, _, _, _, as, x.turn, rfl, h1, h2, hq, ?_⟩
    -- has_opened = player.has_opened or dart[1] == 2
    refine ⟨fun σ' H' => H' = H ∧ σ' = [some (.ref ra), some (.ref a), some (.ref da), some (.ref q), some (.bl (hoV x d)), none, none], ?_, ?_⟩
    · refine ⟨_, rfl, q, CP, dq, _, _, rfl, hqP, T.clP, T.nP_has_opened, fP_has_opened _ _ _, _, rfl, ?_⟩
      by_cases c : (Km371.player x x.turn).opened = true
      · refine if_true_of c ⟨rfl, ?_⟩
        have e : hoV x d = true := by unfold hoV; rw [c] <;> rfl
        rw [e]
        rfl
      · have c' : (Km371.player x x.turn).opened = false := by simpa using c
        refine if_false_of c' ?_
        refine ⟨_, rfl, da, _, _, _, rfl, rfl, SqT.of hD, rfl, rfl, rfl, ?_⟩
        have e : hoV x d = decide (iN d.times = V.int 2) := by
          unfold hoV
          rw [c', Bool.false_or, Bool.eq_iff_iff]
          simp
          omega
        rw [e]
        rfl
    rintro σ' H' ⟨rfl, rfl⟩
    -- score = player.score
    refine ⟨_, rfl, q, CP, dq, _, _, rfl, hqP, T.clP, T.nP_score, fP_score _ _ _, ?_⟩
    -- if has_opened: score = score - worth(dart)
    refine ⟨fun σ' H1 => H1 = H' ∧ σ' = [some (.ref ra), some (.ref a), some (.ref da), some (.ref q), some (.bl (hoV x d)), some (.int (scV x d)), none], ?_, ?_⟩
    · refine ⟨_, rfl, _, rfl, ?_⟩
      by_cases c : hoV x d = true
      · refine if_true_of c ?_
        refine ⟨_, rfl, _, rfl, da, d, rfl, hD, dart_small hdart, _, _, rfl, rfl, rfl, ?_⟩
        have e : scV x d = ((Km371.player x x.turn).score : Int) - (Km371.worth d : Nat) := by unfold scV; rw [if_pos c]
        rw [e]
        rfl
      · refine if_false_of (by simpa using c) ⟨rfl, ?_⟩
        have e : scV x d = ((Km371.player x x.turn).score : Int) := by unfold scV; rw [if_neg c]
        rw [e]
        rfl
    rintro σ' H1 ⟨rfl, rfl⟩
    -- if has_opened and does_burst(rules.ends, score, dart)
    refine ⟨fun σ' H2 => H2 = H1 ∧ σ' = [some (.ref ra), some (.ref a), some (.ref da), some (.ref q), some (.bl (hoV x d)), some (.int (scV x d)), none] ∧ ¬ (hoV x d = true ∧ burst o (scV x d) d = true), ?_, ?_⟩
    · refine ⟨_, rfl, _, rfl, ?_⟩
      by_cases c : hoV x d = true
      · refine if_true_of c ?_
        refine ⟨_, rfl, ra, CR, dr, _, _, rfl, hR, T.clR, T.nR_ends, fR_ends _ _, _, rfl, _, rfl, o, scV x d, da, d, rfl, hD, hz, _, rfl, ?_⟩
        by_cases c2 : burst o (scV x d) d = true
        · refine if_true_of c2 ?_
          have ht : thrownV o x d = (nextV x ⟨x.began.score, x.began.opened, (Km371.player x x.turn).thrown + 1⟩, 2) := by
            unfold thrownV
            rw [if_pos ⟨c, c2⟩]
          rw [ht] at k
          refine ⟨_, rfl, a, dx, _, rfl, h1, fS_no_next_visit _ _ _ _ _, _, rfl, a, CS, dx, _, _, rfl, h1, T.clS, T.nS_began, fS_began _ _ _ _ _, bp, CP, db, _, _, rfl, hbP, T.clP, T.nP_score, fP_score _ _ _,
            _, rfl, a, CS, dx, _, _, rfl, h1, T.clS, T.nS_began, fS_began _ _ _ _ _, bp, CP, db, _, _, rfl, hbP, T.clP, T.nP_has_opened, fP_has_opened _ _ _,
            _, rfl, q, CP, dq, _, _, rfl, hqP, T.clP, T.nP_darts, fP_darts _ _ _, _, _, rfl, rfl, ?_⟩
          intro y dy ny ndy ney
          refine ⟨y, dy, _, _, _, rfl, upd_same, fun H3 hy B => ⟨rfl, ?_⟩⟩
          obtain ⟨s3, gy⟩ := pl_made (p := ⟨x.began.score, x.began.opened, (Km371.player x x.turn).thrown + 1⟩) ny ndy B hy
          refine ⟨a, y, x, _, rfl, hSt.same s3, gy, htl, h44, g.left, fun H4 p s4 hp => ?_⟩
          refine ⟨(by show 2 ≤ sizeLine; decide), fun t htn => ?_⟩
          exact k _ t p (fun b o z => same_new htn _ _ (s4 _ _ (s3 _ _ z))) upd_same (hp.same (same_new htn))
        · refine if_false_of (by simpa using c2) ⟨rfl, rfl, fun z => c2 z.2⟩
      · exact if_false_of (by simpa using c) (if_false_of rfl ⟨rfl, rfl, fun z => c z.1⟩)
    rintro σ' H2 ⟨rfl, rfl, hnb⟩
    -- found = Player(score, has_opened, player.darts + 1)
    have hsc : 0 ≤ scV x d := by
      by_cases c : hoV x d = true
      · have c2 : ¬ burst o (scV x d) d = true := fun z => hnb ⟨c, z⟩
        unfold burst at c2
        by_cases z : scV x d < 0
        · rw [if_pos z] at c2
          exact absurd rfl c2
        · omega
      · unfold scV
        rw [if_neg c]
        omega
    have hnat : scV x d = (((scV x d).toNat : Nat) : Int) := by omega
    have ht : thrownV o x d = if scV x d = 0 then (wonV x ⟨(scV x d).toNat, hoV x d, (Km371.player x x.turn).thrown + 1⟩, 3) else if x.left = 1 then (nextV x ⟨(scV x d).toNat, hoV x d, (Km371.player x x.turn).thrown + 1⟩, 1)
        else (goV x ⟨(scV x d).toNat, hoV x d, (Km371.player x x.turn).thrown + 1⟩, 0) := by
      unfold thrownV
      rw [if_neg hnb]
    refine ⟨_, rfl, _, rfl, _, rfl, q, CP, dq, _, _, rfl, hqP, T.clP, T.nP_darts, fP_darts _ _ _, _, _, rfl, rfl, ?_⟩
    intro y dy ny ndy ney
    refine ⟨y, dy, _, _, _, rfl, upd_same, fun H3 hy B => ⟨rfl, ?_⟩⟩
    have hy : H3 y = some (.ins CP dy (fP (.int (scV x d)) (.bl (hoV x d)) (iN ((Km371.player x x.turn).thrown + 1)))) := hy
    have hy' : H3 y = some (.ins CP dy (fP (iN (scV x d).toNat) (.bl (hoV x d)) (iN ((Km371.player x x.turn).thrown + 1)))) := hy.trans (congrArg (fun z => some (HO.ins CP dy (fP (.int z) (.bl (hoV x d)) (iN ((Km371.player x x.turn).thrown + 1))))) hnat)
    obtain ⟨s3, gy⟩ := pl_made (p := ⟨(scV x d).toNat, hoV x d, (Km371.player x x.turn).thrown + 1⟩) ny ndy B hy'
    -- if score == 0
    refine ⟨_, rfl, rfl, _, rfl, ?_⟩
    by_cases c0 : scV x d = 0
    · rw [if_pos c0] at ht
      rw [ht] at k
      refine if_true_of (decide_eq_true (by rw [c0])) ?_
      refine ⟨_, rfl, a, dx, _, rfl, s3 _ _ h1, fS_no_won _ _ _ _ _, _, rfl, a, y, x, _, rfl, hSt.same s3, gy, htl, h44, g.left, fun H4 p s4 hp => ?_⟩
      refine ⟨(by show 2 ≤ sizeLine; decide), fun t htn => ?_⟩
      exact k _ t p (fun b o z => same_new htn _ _ (s4 _ _ (s3 _ _ z))) upd_same (hp.same (same_new htn))
    · rw [if_neg c0] at ht
      refine if_false_of (decide_eq_false (fun z => c0 (V.int.inj z))) ?_
      -- if state.left == 1
      refine ⟨_, rfl, a, CS, dx, _, _, rfl, s3 _ _ h1, T.clS, T.nS_left, fS_left _ _ _ _ _, rfl, _, rfl, ?_⟩
      by_cases c1 : x.left = 1
      · rw [if_pos c1] at ht
        rw [ht] at k
        refine if_true_of (decide_eq_true (by rw [c1] <;> rfl)) ?_
        refine ⟨_, rfl, a, dx, _, rfl, s3 _ _ h1, fS_no_next_visit _ _ _ _ _, _, rfl, a, y, x, _, rfl, hSt.same s3, gy, htl, h44, g.left, fun H4 p s4 hp => ?_⟩
        refine ⟨(by show 2 ≤ sizeLine; decide), fun t htn => ?_⟩
        exact k _ t p (fun b o z => same_new htn _ _ (s4 _ _ (s3 _ _ z))) upd_same (hp.same (same_new htn))
      · rw [if_neg c1] at ht
        rw [ht] at k
        refine if_false_of (dec_iN (by omega)) ?_
        refine ⟨_, rfl, a, dx, _, rfl, s3 _ _ h1, fS_no_going_on _ _ _ _ _, _, rfl, a, y, x, _, rfl, hSt.same s3, gy, htl, h44, g.left, fun H4 p s4 hp => ?_⟩
        refine ⟨(by show 2 ≤ sizeLine; decide), fun t htn => ?_⟩
        exact k _ t p (fun b o z => same_new htn _ _ (s4 _ _ (s3 _ _ z))) upd_same (hp.same (same_new htn))
end
end Dl
namespace Dl
open PySem PySem.Spec PyProof.Rows L2
abbrev sBInit : Stmt := inClass (top 44) 0
abbrev sStart : Stmt := inClass (top 44) 1
abbrev sHere : Stmt := inClass (top 44) 2
abbrev sThrow : Stmt := inClass (top 44) 3
abbrev sBack : Stmt := inClass (top 44) 4
abbrev sPlayer : Stmt := inClass (top 44) 5
abbrev sTurn : Stmt := inClass (top 44) 6
abbrev sFew : Stmt := inClass (top 44) 7
/-! ### Board -/
/-- the board stands as s, the answer is out -/
def PostB (CF CR CP CS CB : Addr) (H : Hp) (Q : VK) (b : Addr) (s : Option Km371.Leg) (out : List Int) : Prop :=
  ∀ (H' : Hp) (p : Addr), BoAt CF CR CP CS CB H' b s → Kp (NoB CB CF) H H' → (∀ a o, H a = some o → NoB CB CF o → a ≠ p) → H' p = some (.lst (out.map V.int)) → Q (.ref p) H'
def PostL (CF CR CP CS CB : Addr) (H : Hp) (Q : VK) (b : Addr) (l : Km371.Leg) (x : Km371.Call) : Prop := PostB CF CR CP CS CB H Q b (some (Km371.act l x).1) (Km371Neutral.told (Km371.act l x).2)
def spBInit (CF CR CP CS CB : Addr) : Sp := fun vs H Q _ => ∃ (p dx : Addr), vs = [.ref p] ∧ H p = some (.ins CB dx []) ∧ ∀ H' : Hp, BoAt CF CR CP CS CB H' p none → But p H H' → Q .non H'
def spStart (CF CR CP CS CB : Addr) : Sp := fun vs H Q _ => ∃ (b : Addr) (t : Option Km371.Leg) (n s i o : Nat), vs = [.ref b, iN n, iN s, iN i, iN o] ∧ BoAt CF CR CP CS CB H b t ∧ PostB CF CR CP CS CB H Q b (stepC t (.start n s i o)).1 (stepC t (.start n s i o)).2
def spHere (CB : Addr) : Sp := fun vs H Q _ => ∃ (b dx sa q : Addr) (v0 v2 : V) (ss : List Addr), vs = [.ref b] ∧ H b = some (.ins CB dx (fB v0 (.ref sa) v2)) ∧ H sa = some (.lst ((ss ++ [q]).map V.ref)) ∧ Q (.ref q) H
def spThrow (CF CR CP CS CB : Addr) : Sp := fun vs H Q _ => ∃ (b : Addr) (l : Km371.Leg) (f t : Nat), vs = [.ref b, iN f, iN t] ∧ BoAt CF CR CP CS CB H b (some l) ∧ PostL CF CR CP CS CB H Q b l (.dart f t)
def spBack (CF CR CP CS CB : Addr) : Sp := fun vs H Q _ => ∃ (b : Addr) (l : Km371.Leg), vs = [.ref b] ∧ BoAt CF CR CP CS CB H b (some l) ∧ PostL CF CR CP CS CB H Q b l .back
def spPlayer (CF CR CP CS CB : Addr) : Sp := fun vs H Q _ => ∃ (b : Addr) (l : Km371.Leg) (k : Nat), vs = [.ref b, iN k] ∧ BoAt CF CR CP CS CB H b (some l) ∧ PostL CF CR CP CS CB H Q b l (.player k)
def spTurn (CF CR CP CS CB : Addr) : Sp := fun vs H Q _ => ∃ (b : Addr) (l : Km371.Leg), vs = [.ref b] ∧ BoAt CF CR CP CS CB H b (some l) ∧ PostL CF CR CP CS CB H Q b l .turn
def spFew (CF CR CP CS CB : Addr) : Sp := fun vs H Q _ => ∃ (b : Addr) (l : Km371.Leg) (o s : Nat), vs = [.ref b, iN o, iN s] ∧ BoAt CF CR CP CS CB H b (some l) ∧ PostL CF CR CP CS CB H Q b l (.fewest o s)
theorem fB_new (v0 v1 v2 : V) : putF "fewest" v2 (putF "states" v1 (putF "rules" v0 [])) = fB v0 v1 v2 := by
  show putF "fewest" v2 (putF "states" v1 ([("rules", v0)] : List (Str × V))) = _
  rw [fB_put1, fB_put2] <;> rfl
theorem All2.unsnoc {α : Type} {R : Addr → α → Prop} {as : List Addr} {xs : List α} {x : α} (h : All2 R as (xs ++ [x])) : ∃ as' a, as = as' ++ [a] ∧ All2 R as' xs ∧ R a x := by
  have hl := h.1
  rw [List.length_append, List.length_singleton] at hl
  have hne : as ≠ [] := fun z => by
    rw [z] at hl
    have : 0 = xs.length + 1 := hl
    omega
  obtain ⟨as', a, rfl⟩ : ∃ as' a, as = as' ++ [a] := ⟨_, _, (List.dropLast_concat_getLast hne).symm⟩
  have hd : as'.length = xs.length := by
    rw [List.length_append, List.length_singleton] at hl
    omega
  refine ⟨as', a, rfl, ⟨hd, fun i c y e1 e2 => ?_⟩, ?_⟩
  · have hi : i < as'.length := (List.getElem?_eq_some_iff.mp e1).1
    refine h.2 i c y ?_ ?_
    · rw [List.getElem?_append_left hi]
      exact e1
    · rw [List.getElem?_append_left (by rw [← hd]; exact hi)]
      exact e2
  · refine h.2 xs.length _ _ ?_ ?_
    · rw [List.getElem?_append_right (by omega), hd, Nat.sub_self] <;> rfl
    · rw [List.getElem?_append_right (Nat.le_refl _), Nat.sub_self] <;> rfl
section
variable {P : Program} {w : World} {K : PySem.W.Frag} {mg : Str → Option Value} {base : Heap} {CF CR CP CS CB : Addr}
theorem leg_last {H : Hp} {ra sa : Addr} {l : Km371.Leg} (h : LegAt CR CP CS H ra sa l) : ∃ (ss : List Addr) (q : Addr), H sa = some (.lst ((ss ++ [q]).map V.ref)) ∧ All2 (StAt CP CS H) ss l.past.reverse ∧ StAt CP CS H q l.now := by
  obtain ⟨_, _, ss, h1, h2⟩ := h
  rw [List.reverse_cons] at h2
  obtain ⟨ss', q, rfl, h3, h4⟩ := h2.unsnoc
  exact ⟨ss', q, h1, h3, h4⟩
theorem BoAt.same {H H' : Hp} {b : Addr} {s : Option Km371.Leg} (s1 : Same H H') (h : BoAt CF CR CP CS CB H b s) : BoAt CF CR CP CS CB H' b s := h.kpI (kp_same s1)
theorem ret_of {H H' : Hp} {Q : VK} {b : Addr} {s : Option Km371.Leg} {out : List Int} (k : PostB CF CR CP CS CB H Q b s out) (hB : BoAt CF CR CP CS CB H' b s) (hk : Kp (NoB CB CF) H H') : ∀ p, H' p = none → Q (.ref p) (upd H' p (.lst (out.map V.int))) :=
  fun p hp => k _ p (hB.same (same_new hp)) (hk.trans (kp_same (same_new hp))) (fun a o e n => ne_of_none (hk a o e n) hp) upd_same
theorem kp_b {H : Hp} {b dx : Addr} {fs : List (Str × V)} {o : HO} (hb : H b = some (.ins CB dx fs)) : Kp (NoB CB CF) H (upd H b o) := fun a u e p => by
  rw [upd_ne (fun z => ?_)]
  · exact e
  · rw [z, hb] at e
    cases e
    exact p.1 rfl
theorem kp_f {H H' : Hp} {f dx : Addr} {fs : List (Str × V)} (hf : H f = some (.ins CF dx fs)) (B : But f H H') : Kp (NoB CB CF) H H' := but_kp B hf (fun p => p.2 rfl)
theorem FewAt.upd_b {H : Hp} {b dx fa : Addr} {fs : List (Str × V)} {o : HO} (T : Txt K mg CF CR CP CS CB) (hb : H b = some (.ins CB dx fs)) (h : FewAt CF H fa) : FewAt CF (upd H b o) fa := by
  obtain ⟨dy, d, h1, h2⟩ := h
  refine ⟨dy, d, ?_, h2.kp (kp_b hb) (keeps_noB T.ePB T.eSB T.eRB)⟩
  rw [upd_ne (ne_of h1 hb (by intro z; cases z; exact T.eBF rfl))]
  exact h1
theorem sc_bInit : FnScope ["self"] ["self"] (C8.fnScope sBInit) := C8.fnScope_by (by decide +kernel)
theorem ok_bInit {f : Addr} {fd : FuncData} (T : Txt K mg CF CR CP CS CB) (M : Mk K CB f) (hm : mg "Board" = some (.ref CB)) (F : C8.Fun K "__init__" "Board.__init__" sBInit f fd) (b : Binds K fd ["self"] []) (cR : C8.Mak P w K mg base 1 "Rules" CR (spRInit CR) []) (cF : C8.Mak P w K mg base 1 "Fewest" CF (spFInit CF) []) :
    C8.Mak P w K mg base 3 "Board" CB (spBInit CF CR CP CS CB) [] := by
  refine C8.mak0 M hm F b .nil sc_bInit (fun vs H Q E h => ?_) (fun cdv A outer s H vs Q E hr h => ?_)
  · obtain ⟨_, _, rfl, _⟩ := h
    rfl
  · obtain ⟨p, dx, rfl, hp, k⟩ := h
    refine ⟨_, pss_cons (ps_fld (pv 0) (C8.pe_mk cR hr (by decide) rfl (pa_cons pe_int (pa_cons pe_int pa_nil))) rfl) (pss_cons (ps_fld (pv 0) (pe_lst pa_nil) rfl) (pss_one (ps_fld (pv 0) (pe_mk0 cF hr (by decide) rfl) rfl))), ?_⟩
    -- self.rules = Rules(0, 0)
    intro y dy ny ndy ney
    refine ⟨y, dy, _, _, rfl, upd_same, fun H1 hy B => ⟨rfl, ?_⟩⟩
    have s1 : Same H H1 := Same.made ny ndy B
    refine ⟨_, rfl, p, CB, dx, [], rfl, s1 _ _ hp, T.clB, T.nB_rules, (by decide), ?_⟩
    -- self.states = []
    refine ⟨Nat.zero_le _, fun sa hsa => ?_⟩
    have npsa : p ≠ sa := ne_of_none upd_same hsa
    refine ⟨_, rfl, p, CB, dx, _, rfl, Eq.trans (upd_ne npsa) upd_same, T.clB, T.nB_states, Nat.lt_of_le_of_lt (pl1 pl0) (by decide), ?_⟩
    -- self.fewest = Fewest()
    intro z dz nz ndz nez
    refine ⟨z, dz, rfl, upd_same, fun H4 hF B4 => ⟨rfl, ?_⟩⟩
    have s4 := Same.made nz ndz B4
    refine ⟨_, rfl, p, CB, dx, _, rfl, s4 _ _ upd_same, T.clB, T.nB_fewest, Nat.lt_of_le_of_lt (pl1 (pl1 pl0)) (by decide), ?_⟩
    have hp4 := s4 _ _ (upd_same (H := upd (upd H1 p (.ins CB dx (putF "rules" (.ref y) []))) sa (.lst [])) (a := p) (o := .ins CB dx (putF "states" (.ref sa) (putF "rules" (.ref y) []))))
    refine k _ ⟨dx, y, sa, z, by rw [upd_same, fB_new], FewAt.upd_b T hp4 hF, fun l hl => by cases hl⟩ fun a o e n => ?_
    rw [upd_ne n]
    refine s4 _ _ ?_
    rw [upd_ne n]
    have e1 : upd H1 p (.ins CB dx (putF "rules" (.ref y) [])) a = some o := by
      rw [upd_ne n]
      exact s1 _ _ e
    rw [upd_ne (ne_of_none e1 hsa)]
    exact e1
theorem sc_here : FnScope ["self"] ["self"] (C8.fnScope sHere) := C8.fnScope_by (by decide +kernel)
theorem ok_here {f : Addr} {fd : FuncData} (T : Txt K mg CF CR CP CS CB) (me : Meth K CB "here" f) (F : C8.Fun K "here" "Board.here" sHere f fd) (b : Binds K fd ["self"] []) : C8.Met P w K mg base 1 CB "here" (spHere CB) [] := by
  refine C8.met0 T.clB me F b sc_here (fun vs H Q E h => ?_) (fun cdv A outer s H vs Q E hr h => ?_)
  · obtain ⟨_, _, _, _, _, _, _, rfl, _⟩ := h
    rfl
  · obtain ⟨ba, dx, sa, q, v0, v2, ss, rfl, h1, h2, k⟩ := h
    refine ⟨_, pss_one (ps_ret (pe_ix ix_list (pe_fld (pv 0) rfl) (pe_un un_neg pe_int) (fun _ _ => rfl))), ?_⟩
    refine ⟨_, rfl, ba, CB, dx, _, _, rfl, h1, T.clB, T.nB_states, fB_states _ _ _, _, rfl, sa, _, _, .ref q, rfl, rfl, SqL.of h2, ?_, k⟩
    rw [refs_snoc]
    exact atI_last _ _
theorem ans_chain {σ : L2.St} {H : Hp} {ta tb tc : TE} {a b c : Int} (ha : Val ta σ H (.int a)) (hb : Val tb σ H (.int b)) (hc : Val tc σ H (.int c)) :
    Ans (tTest (tChain (rI0 fun i j => .bl (decide (i ≤ j))) (rI0 fun i j => .bl (decide (i ≤ j))) ta tb tc)) σ H (decide (a ≤ b) && decide (b ≤ c)) := by
  intro Q q
  refine ha _ ?_
  refine hb _ ?_
  refine ⟨a, b, rfl, rfl, _, rfl, ?_⟩
  by_cases h : a ≤ b
  · refine if_true_of (decide_eq_true h) ?_
    refine hc _ ?_
    rw [decide_eq_true h, Bool.true_and] at q
    exact ⟨b, c, rfl, rfl, _, rfl, q⟩
  · rw [decide_eq_false h, Bool.false_and] at q
    exact if_false_of (decide_eq_false h) ⟨_, rfl, q⟩
theorem ans_orB {σ : L2.St} {H : Hp} {t u : TT} {b1 b2 : Bool} (h1 : Ans t σ H b1) (h2 : Ans u σ H b2) : Ans (tOr t u) σ H (b1 || b2) := by
  cases b1 with
  | true => exact ans_or1 h1
  | false => exact ans_or h1 h2
theorem ans_gtI {σ : L2.St} {H : Hp} {ta tb : TE} {a b : Int} (ha : Val ta σ H (.int a)) (hb : Val tb σ H (.int b)) : Ans (tTest (tOp (rI0 fun i j => .bl (decide (j < i))) ta tb)) σ H (decide (b < a)) := by
  intro Q q
  refine ha _ ?_
  refine hb _ ?_
  exact ⟨a, b, rfl, rfl, _, rfl, q⟩
theorem sc_start : FnScope ["self", "n", "score", "opens", "ends"] ["self", "n", "score", "opens", "ends"] (C8.fnScope sStart) := C8.fnScope_by (by decide +kernel)
theorem ok_start {f : Addr} {fd : FuncData} (T : Txt K mg CF CR CP CS CB) (me : Meth K CB "start" f) (F : C8.Fun K "start" "Board.start" sStart f fd) (b : Binds K fd ["self", "n", "score", "opens", "ends"] []) (cR : C8.Mak P w K mg base 1 "Rules" CR (spRInit CR) []) (cS : C8.Cal P w K mg base 3 "first_state" (spFirst CR CP CS) []) :
    C8.Met P w K mg base 4 CB "start" (spStart CF CR CP CS CB) [] := by
  refine C8.met0 T.clB me F b sc_start (fun vs H Q E h => ?_) (fun cdv A outer s H vs Q E hr h => ?_)
  · obtain ⟨_, _, _, _, _, _, rfl, _⟩ := h
    rfl
  · obtain ⟨ba, t, n, s, i, o, rfl, hBo, k⟩ := h
    refine ⟨_, pss_cons (ps_if (PW.pt (pw_or (pt_not (pt_chain op_le op_le pe_int (pv 1) (C8.pe_gc rfl T.c_MOST_PLAYERS))) (pw_or (pt_not (pt_chain op_le op_le (C8.pe_gc rfl T.c_LEAST_SCORE) (pv 2) (C8.pe_gc rfl T.c_MOST_SCORE)))
          (pw_or (pt_cmpR op_gt (pv 3) pe_int (nomark _)) (pw_or1 (pt_cmpR op_gt (pv 4) (C8.pe_gc rfl T.c_LAST_END) (nomark _))))))) (pss_one (ps_ret (pe_lst (pa_cons (C8.pe_gc rfl T.c_WRONG) pa_nil)))) pss_nil)
      (pss_cons (ps_fld (pv 0) (C8.pe_mk cR hr (by decide) rfl (pa_cons (pv 3) (pa_cons (pv 4) pa_nil))) rfl)
      (pss_cons (ps_fld (pv 0) (pe_lst (pa_cons (C8.pe_c cS hr (by decide) rfl (pa_cons (pv 1) (pa_cons (pv 2) (pa_cons (pe_fld (pv 0) rfl) pa_nil)))) pa_nil)) rfl)
      (pss_one (ps_ret (pe_lst (pa_cons (C8.pe_gc rfl T.c_DONE) pa_nil)))))), ?_⟩
    refine (ans_orB (ans_not (ans_chain (a := 1) (b := (n : Int)) (c := 4) val_c (val_var rfl) val_c)) (ans_orB (ans_not (ans_chain (a := 2) (b := (s : Int)) (c := 1001) val_c (val_var rfl) val_c)) (ans_orB (ans_gtI (a := (i : Int)) (b := 1) (val_var rfl) val_c) (ans_gtI (a := (o : Int)) (b := 2) (val_var rfl) val_c)))) _ ?_
    by_cases bad : n = 0 ∨ Km371.PLAYERS < n ∨ s < 2 ∨ Km371.MOST < s ∨ 1 < i ∨ 2 < o
    · refine if_true_of ?_ ?_
      · simp only [Km371.PLAYERS, Km371.MOST] at bad
        simp only [Bool.or_eq_true, Bool.not_eq_true', Bool.and_eq_false_iff, decide_eq_false_iff_not, decide_eq_true_eq]
        omega
      · refine ⟨(by show 1 ≤ sizeLine; decide), ?_⟩
        have e : ∀ l, Km371.act l (.start n s i o) = (l, Km371.only (-22)) := fun l => by rw [act_start, if_pos bad]
        have e2 : stepC t (.start n s i o) = (t, [-22]) := by
          cases t with
          | none =>
            unfold stepC
            rw [e]
            rfl
          | some l =>
            show (some (Km371.act l (.start n s i o)).1, Km371Neutral.told (Km371.act l (.start n s i o)).2) = _
            rw [e]
            rfl
        rw [e2] at k
        exact ret_of (out := [-22]) k hBo (kp_same (Same.refl _))
    · refine if_false_of ?_ ?_
      · simp only [Km371.PLAYERS, Km371.MOST] at bad
        simp only [Bool.or_eq_false_iff, Bool.not_eq_false', Bool.and_eq_true, decide_eq_false_iff_not, decide_eq_true_eq]
        omega
      · have e : ∀ l, Km371.act l (.start n s i o) = (Km371.fresh n s i o, Km371.only 0) := fun l => by rw [act_start, if_neg bad]
        have e2 : stepC t (.start n s i o) = (some (Km371.fresh n s i o), [0]) := by
          cases t with
          | none =>
            unfold stepC
            rw [e]
            rfl
          | some l =>
            show (some (Km371.act l (.start n s i o)).1, Km371Neutral.told (Km371.act l (.start n s i o)).2) = _
            rw [e]
            rfl
        rw [e2] at k
        simp only [Km371.PLAYERS, Km371.MOST] at bad
        obtain ⟨dx, ra, sa, fa, h1, hFew, _⟩ := hBo
        -- self.rules = Rules(opens, ends)
        refine ⟨_, rfl, _, rfl, ?_⟩
        intro y dy ny ndy ney
        refine ⟨y, dy, _, _, rfl, upd_same, fun H1 hy B => ⟨rfl, ?_⟩⟩
        have s1 : Same H H1 := Same.made ny ndy B
        have hb1 := s1 _ _ h1
        refine ⟨_, rfl, ba, CB, dx, _, rfl, hb1, T.clB, T.nB_rules, fB_len _ _ _, ?_⟩
        rw [fB_set_rules]
        have k2 : Kp (NoB CB CF) H1 (upd H1 ba (.ins CB dx (fB (.ref y) (.ref sa) (.ref fa)))) := kp_b hb1
        have hF2 : FewAt CF (upd H1 ba (.ins CB dx (fB (.ref y) (.ref sa) (.ref fa)))) fa := by
          obtain ⟨df, dd, hf1, hf2⟩ := hFew
          exact FewAt.upd_b T hb1 ⟨df, dd, s1 _ _ hf1, hf2.kp (kp_same s1) (CP := CP) (CS := CS) (CR := CR) keeps_all⟩
        have hy2 : RuAt CR (upd H1 ba (.ins CB dx (fB (.ref y) (.ref sa) (.ref fa)))) y i o := RuAt.kp k2 (keeps_noB T.ePB T.eSB T.eRB) ⟨dy, hy⟩
        have hb2 : upd H1 ba (.ins CB dx (fB (.ref y) (.ref sa) (.ref fa))) ba = some (.ins CB dx (fB (.ref y) (.ref sa) (.ref fa))) := upd_same
        generalize upd H1 ba (.ins CB dx (fB (.ref y) (.ref sa) (.ref fa))) = H2 at k2 hF2 hy2 hb2 ⊢
        -- self.states = [first_state(n, score, self.rules)]
        refine ⟨_, rfl, _, rfl, _, rfl, ba, CB, dx, _, _, rfl, hb2, T.clB, T.nB_rules, fB_rules _ _ _, n, s, i, o, y, rfl, by omega, by omega, hy2, fun H3 p s3 hSt => ?_⟩
        refine ⟨(by show 1 ≤ sizeLine; decide), fun sl hsl => ?_⟩
        have s4 : Same H3 (upd H3 sl (.lst [.ref p])) := same_new hsl
        have e4 : upd H3 sl (.lst [.ref p]) sl = some (.lst [.ref p]) := upd_same
        generalize upd H3 sl (.lst [.ref p]) = H4 at s4 e4 ⊢
        have hb4 := s4 _ _ (s3 _ _ hb2)
        refine ⟨_, rfl, ba, CB, dx, _, rfl, hb4, T.clB, T.nB_states, fB_len _ _ _, ?_⟩
        rw [fB_set_states]
        have k5 : Kp (NoB CB CF) H4 (upd H4 ba (.ins CB dx (fB (.ref y) (.ref sl) (.ref fa)))) := kp_b hb4
        have KD := keeps_noB (CB := CB) (CF := CF) T.ePB T.eSB T.eRB
        refine ⟨(by show 1 ≤ sizeLine; decide), ret_of (out := [0]) k ⟨dx, y, sl, fa, upd_same, ?_, fun l hl => ?_⟩ ?_⟩
        · obtain ⟨df, dd, hf1, hf2⟩ := hF2
          refine FewAt.upd_b T hb4 ⟨df, dd, s4 _ _ (s3 _ _ hf1), hf2.kp (kp_same fun b o z => s4 _ _ (s3 _ _ z)) (CP := CP) (CS := CS) (CR := CR) keeps_all⟩
        · cases hl
          refine ⟨good_fresh (by omega) (by omega) (by omega) (by omega) (by omega), (hy2.same fun b o z => s4 _ _ (s3 _ _ z)).kp k5 KD, [p], k5 _ _ e4 trivial, ?_⟩
          exact All2.snoc All2.nil ((hSt.same s4).kp k5 KD)
        · exact (kp_same s1).trans (k2.trans ((kp_same fun b o z => s4 _ _ (s3 _ _ z)).trans k5))
end
end Dl
namespace Dl
open PySem PySem.Spec PyProof.Rows L2
theorem told_only (v : Int) : Km371Neutral.told (Km371.only v) = [v] := rfl
theorem bit_int (b : Bool) : ((Km371.bit b : Nat) : Int) = (if b then 1 else 0) := by cases b <;> rfl
def tellF : Option Nat → Option Km371.Dart → Km371.Ans
  | some n, some d => ⟨((n : Nat) : Int), [d.field, d.times]⟩
  | _, _ => Km371.only (-33)
theorem act_few (l : Km371.Leg) {o s : Nat} (h : ¬ (2 < o ∨ s = 0 ∨ Km371.MOST < s)) : (best o s = none → Km371.act l (.fewest o s) = (l, Km371.only (-33))) ∧ ∀ n d, best o s = some (n, d) → Km371.act l (.fewest o s) = (l, ⟨((n : Nat) : Int), [d.field, d.times]⟩) := by
  have e : Km371.act l (.fewest o s) = (l, tellF (Km371.fewest o s) (Km371.first o s)) := by
    unfold Km371.act
    simp only []
    rw [if_neg h]
    cases Km371.fewest o s <;> cases Km371.first o s <;> rfl
  have hs : 1 ≤ s := by omega
  have hb := (best_told (e := o) hs).1
  unfold told at hb
  rw [e]
  cases hf : Km371.fewest o s with
  | none =>
    rw [hf] at hb
    refine ⟨fun _ => rfl, fun n d z => ?_⟩
    rw [hb] at z
    cases z
  | some n' =>
    cases hg : Km371.first o s with
    | none =>
      rw [hf, hg] at hb
      refine ⟨fun _ => rfl, fun n d z => ?_⟩
      rw [hb] at z
      cases z
    | some d' =>
      rw [hf, hg] at hb
      refine ⟨fun z => ?_, fun n d z => ?_⟩
      · rw [hb] at z
        cases z
      · rw [hb] at z
        cases z
        rfl
section
variable {P : Program} {w : World} {K : PySem.W.Frag} {mg : Str → Option Value} {base : Heap} {CF CR CP CS CB : Addr}
theorem sc_throw : FnScope ["self", "field", "times", "state", "what"] ["self", "field", "times"] (C8.fnScope sThrow) := C8.fnScope_by (by decide +kernel)
theorem ok_throw {f : Addr} {fd : FuncData} (T : Txt K mg CF CR CP CS CB) (me : Meth K CB "throw" f) (F : C8.Fun K "throw" "Board.throw" sThrow f fd) (b : Binds K fd ["self", "field", "times"] []) (cI : C8.Cal P w K mg base 1 "is_dart" spIsDart []) (cH : C8.Met P w K mg base 1 CB "here" (spHere CB) [])
    (cT : C8.Cal P w K mg base 4 "thrown" (spThrown CR CP CS) []) : C8.Met P w K mg base 5 CB "throw" (spThrow CF CR CP CS CB) [] := by
  refine C8.met0 T.clB me F b sc_throw (fun vs H Q E h => ?_) (fun cdv A outer s H vs Q E hr h => ?_)
  · obtain ⟨_, _, _, _, rfl, _⟩ := h
    rfl
  · obtain ⟨ba, l, x, t, rfl, hBo, k⟩ := h
    refine ⟨_, pss_cons (ps_if (pt_not (pt_val (C8.pe_c cI hr (by decide) rfl (pa_cons (pv 1) (pa_cons (pv 2) pa_nil))))) (pss_one (ps_ret (pe_lst (pa_cons (C8.pe_gc rfl T.c_WRONG) pa_nil)))) pss_nil)
      (pss_cons (ps_if (pt_val (pe_fld (C8.pe_mt0 cH hr (by decide) (pv 0)) rfl)) (pss_one (ps_ret (pe_lst (pa_cons (C8.pe_gc rfl T.c_IS_OVER) pa_nil)))) pss_nil)
      (pss_cons (ps_if (pt_cmpR op_gt (pe_callB call_len_seq (by rfl) T.zlen PySem.boot_len (pa_cons (pe_fld (pv 0) rfl) pa_nil)) (C8.pe_gc rfl T.c_MOST_DARTS) (nomark _)) (pss_one (ps_ret (pe_lst (pa_cons (C8.pe_gc rfl T.c_TOO_MANY) pa_nil)))) pss_nil)
      (pss_cons (ps_asg (C8.pe_c cT hr (by decide) rfl (pa_cons (pe_fld (pv 0) rfl) (pa_cons (C8.pe_mt0 cH hr (by decide) (pv 0)) (pa_cons (pe_tup (pa_cons (pv 1) (pa_cons (pv 2) pa_nil))) pa_nil))))
          (pg_tup rfl (pgs_cons (pg_name (i := 3) sc_throw.nd rfl (.inl rfl)) (pgs_cons (pg_name (i := 4) sc_throw.nd rfl (.inl rfl)) pgs_nil))))
      (pss_cons (ps_fld (pv 0) (pe_op op_cat (pe_fld (pv 0) rfl) (pe_lst (pa_cons (pv 3) pa_nil))) rfl)
      (pss_one (ps_ret (pe_lst (pa_cons (pv 4) pa_nil)))))))), ?_⟩
    -- if not is_dart(field, times)
    refine ⟨_, rfl, _, rfl, x, t, rfl, fun H1 s1 => ⟨_, rfl, ?_⟩⟩
    have hB1 := hBo.same s1
    have k1 : Kp (NoB CB CF) H H1 := kp_same s1
    by_cases hd : Km371.isDart ⟨x, t⟩ = false
    · have e : Km371.act l (.dart x t) = (l, Km371.only (-22)) := by rw [act_dart, if_pos hd]
      have k : PostB CF CR CP CS CB H Q ba (some l) [-22] := by
        unfold PostL at k
        rw [e] at k
        exact k
      refine if_true_of (by rw [hd] <;> rfl) ?_
      exact ⟨(by show 1 ≤ sizeLine; decide), ret_of k hB1 k1⟩
    · have hd' : Km371.isDart ⟨x, t⟩ = true := by simpa using hd
      refine if_false_of (by rw [hd'] <;> rfl) ?_
      -- if self.here().is_over
      obtain ⟨dx, ra, sa, fa, h1, hFew, hLeg⟩ := id hB1
      have hLeg := hLeg l rfl
      have good := hLeg.1
      have hRu := hLeg.2.1
      obtain ⟨ss, q, hSa, hSs, hNow⟩ := leg_last hLeg
      have hlen : ss.length = l.past.length := by rw [hSs.1, List.length_reverse]
      obtain ⟨dq, lp, bp, as, hq1, _⟩ := id hNow
      refine ⟨_, rfl, ba, dx, _, rfl, h1, fB_no_here _ _ _, ba, dx, sa, q, _, _, ss, rfl, h1, hSa, q, CS, dq, _, _, rfl, hq1, T.clS, T.nS_is_over, fS_is_over _ _ _ _ _, _, rfl, ?_⟩
      by_cases ho : l.now.over = true
      · have e : Km371.act l (.dart x t) = (l, Km371.only (-16)) := by rw [act_dart, if_neg hd, if_pos ho]
        have k : PostB CF CR CP CS CB H Q ba (some l) [-16] := by
          unfold PostL at k
          rw [e] at k
          exact k
        refine if_true_of ho ?_
        exact ⟨(by show 1 ≤ sizeLine; decide), ret_of k hB1 k1⟩
      · have ho' : l.now.over = false := by simpa using ho
        refine if_false_of ho' ?_
        -- if len(self.states) > MOST_DARTS
        have hlist : ((ss ++ [q]).map V.ref).length = l.past.length + 1 := by rw [List.length_map, List.length_append, List.length_singleton, hlen]
        refine ⟨_, rfl, ba, CB, dx, _, _, rfl, h1, T.clB, T.nB_states, fB_states _ _ _, sa, _, rfl, .inl (SqL.of hSa), _, _, rfl, rfl, _, rfl, ?_⟩
        rw [hlist]
        by_cases hm : Km371.DARTS ≤ l.past.length
        · have e : Km371.act l (.dart x t) = (l, Km371.only (-28)) := by rw [act_dart, if_neg hd, if_neg ho, if_pos hm]
          have k : PostB CF CR CP CS CB H Q ba (some l) [-28] := by
            unfold PostL at k
            rw [e] at k
            exact k
          simp only [Km371.DARTS] at hm
          refine if_true_of (decide_eq_true (by omega)) ?_
          exact ⟨(by show 1 ≤ sizeLine; decide), ret_of k hB1 k1⟩
        · have e : Km371.act l (.dart x t) = (⟨l.n, l.in_, l.out, (thrownV l.out l.now ⟨x, t⟩).1, l.now :: l.past⟩, Km371.only (((thrownV l.out l.now ⟨x, t⟩).2 : Nat) : Int)) := by
            rw [act_dart, if_neg hd, if_neg ho, if_neg hm, throw_is good ho' hd']
          have gact := good_act good (.dart x t)
          rw [e] at gact
          have k : PostB CF CR CP CS CB H Q ba (some ⟨l.n, l.in_, l.out, (thrownV l.out l.now ⟨x, t⟩).1, l.now :: l.past⟩) [(((thrownV l.out l.now ⟨x, t⟩).2 : Nat) : Int)] := by
            unfold PostL at k
            rw [e] at k
            exact k
          simp only [Km371.DARTS] at hm
          refine if_false_of (decide_eq_false (by omega)) ?_
          -- state, what = thrown(self.rules, self.here(), (field, times))
          refine ⟨_, rfl, ba, CB, dx, _, _, rfl, h1, T.clB, T.nB_rules, fB_rules _ _ _, _, rfl, ba, dx, _, rfl, h1, fB_no_here _ _ _, ba, dx, sa, q, _, _, ss, rfl, h1, hSa, _, rfl, _, rfl, (by show 2 ≤ sizeLine; decide), fun dp hdp => ?_⟩
          have s2 : Same H1 (upd H1 dp (.tup [iN x, iN t])) := same_new hdp
          refine ⟨ra, q, dp, l.n, l.in_, l.out, l.now, ⟨x, t⟩, rfl, hRu.same s2, hNow.same s2, upd_same, hd', good.now, good.n4, fun H3 tp p s3 htp hp => ?_⟩
          have s13 : Same H1 H3 := fun b o z => s3 _ _ (s2 _ _ z)
          refine ⟨tp, _, rfl, SqT.of htp, rfl, _, _, rfl, _, _, rfl, rfl, ?_⟩
          -- self.states = self.states + [state]
          have hb3 := s13 _ _ h1
          refine ⟨_, rfl, ba, CB, dx, _, _, rfl, hb3, T.clB, T.nB_states, fB_states _ _ _, _, rfl, (by show 1 ≤ sizeLine; decide), fun p1 hp1 => ?_⟩
          have s4 : Same H3 (upd H3 p1 (.lst [.ref p])) := same_new hp1
          have e4 : upd H3 p1 (.lst [.ref p]) p1 = some (.lst [.ref p]) := upd_same
          generalize upd H3 p1 (.lst [.ref p]) = H4 at s4 e4 ⊢
          refine ⟨sa, p1, _, _, rfl, rfl, s4 _ _ (s13 _ _ hSa), e4, ?_, fun p2 hp2 => ?_⟩
          · rw [hlist, List.length_singleton]
            exact Nat.le_trans (show l.past.length + 1 + 1 ≤ 2000 by omega) (by decide)
          · rw [← refs_snoc]
            have s5 : Same H4 (upd H4 p2 (.lst ((ss ++ [q] ++ [p]).map V.ref))) := same_new hp2
            have e5 : upd H4 p2 (.lst ((ss ++ [q] ++ [p]).map V.ref)) p2 = some (.lst ((ss ++ [q] ++ [p]).map V.ref)) := upd_same
            generalize upd H4 p2 (.lst ((ss ++ [q] ++ [p]).map V.ref)) = H5 at s5 e5 ⊢
            have s15 : Same H1 H5 := fun b o z => s5 _ _ (s4 _ _ (s13 _ _ z))
            have hb5 := s15 _ _ h1
            refine ⟨_, rfl, ba, CB, dx, _, rfl, hb5, T.clB, T.nB_states, fB_len _ _ _, ?_⟩
            rw [fB_set_states]
            have k6 : Kp (NoB CB CF) H5 (upd H5 ba (.ins CB dx (fB (.ref ra) (.ref p2) (.ref fa)))) := kp_b hb5
            have KD := keeps_noB (CB := CB) (CF := CF) T.ePB T.eSB T.eRB
            refine ⟨_, rfl, (by show 1 ≤ sizeLine; decide), ret_of k ⟨dx, ra, p2, fa, upd_same, ?_, fun l' hl' => ?_⟩ (k1.trans ((kp_same s15).trans k6))⟩
            · obtain ⟨df, dd, hf1, hf2⟩ := hFew
              exact FewAt.upd_b T hb5 ⟨df, dd, s15 _ _ hf1, hf2.kp (kp_same s15) (CP := CP) (CS := CS) (CR := CR) keeps_all⟩
            · cases hl'
              refine ⟨gact, (hRu.same s15).kp k6 KD, _, k6 _ _ e5 trivial, ?_⟩
              rw [List.reverse_cons, List.reverse_cons]
              exact All2.snoc (All2.snoc (hSs.imp fun _ _ z => (z.same s15).kp k6 KD) ((hNow.same s15).kp k6 KD)) ((hp.same fun b o z => s5 _ _ (s4 _ _ z)).kp k6 KD)
theorem sc_back : FnScope ["self"] ["self"] (C8.fnScope sBack) := C8.fnScope_by (by decide +kernel)
theorem ok_back {f : Addr} {fd : FuncData} (T : Txt K mg CF CR CP CS CB) (me : Meth K CB "back" f) (F : C8.Fun K "back" "Board.back" sBack f fd) (b : Binds K fd ["self"] []) : C8.Met P w K mg base 1 CB "back" (spBack CF CR CP CS CB) [] := by
  refine C8.met0 T.clB me F b sc_back (fun vs H Q E h => ?_) (fun cdv A outer s H vs Q E hr h => ?_)
  · obtain ⟨_, _, rfl, _⟩ := h
    rfl
  · obtain ⟨ba, l, rfl, hBo, k⟩ := h
    refine ⟨_, pss_cons (ps_if (pt_cmpR op_eq (pe_callB call_len_seq (by rfl) T.zlen PySem.boot_len (pa_cons (pe_fld (pv 0) rfl) pa_nil)) pe_int (nomark _)) (pss_one (ps_ret (pe_lst (pa_cons (C8.pe_gc rfl T.c_NOT_THERE) pa_nil)))) pss_nil)
      (pss_cons (ps_fld (pv 0) (pe_slice sl_list (pe_fld (pv 0) rfl) po_none (po_some (pe_un un_neg pe_int))) rfl)
      (pss_one (ps_ret (pe_lst (pa_cons (pe_op op_sub (pe_callB call_len_seq (by rfl) T.zlen PySem.boot_len (pa_cons (pe_fld (pv 0) rfl) pa_nil)) pe_int) pa_nil))))), ?_⟩
    obtain ⟨dx, ra, sa, fa, h1, hFew, hLeg⟩ := id hBo
    have hLeg := hLeg l rfl
    have good := hLeg.1
    have hRu := hLeg.2.1
    obtain ⟨ss, q, hSa, hSs, hNow⟩ := leg_last hLeg
    have hlen : ss.length = l.past.length := by rw [hSs.1, List.length_reverse]
    have hlist : ((ss ++ [q]).map V.ref).length = l.past.length + 1 := by rw [List.length_map, List.length_append, List.length_singleton, hlen]
    refine ⟨_, rfl, ba, CB, dx, _, _, rfl, h1, T.clB, T.nB_states, fB_states _ _ _, sa, _, rfl, .inl (SqL.of hSa), rfl, _, rfl, ?_⟩
    rw [hlist]
    cases hp : l.past with
    | nil =>
      have e : Km371.act l .back = (l, Km371.only (-2)) := by
        unfold Km371.act
        rw [hp]
      have k : PostB CF CR CP CS CB H Q ba (some l) [-2] := by
        unfold PostL at k
        rw [e] at k
        exact k
      refine if_true_of rfl ?_
      exact ⟨(by show 1 ≤ sizeLine; decide), ret_of k hBo (kp_same (Same.refl _))⟩
    | cons y r =>
      have e : Km371.act l .back = (⟨l.n, l.in_, l.out, y, r⟩, Km371.only ((r.length : Nat) : Int)) := by
        unfold Km371.act
        rw [hp]
      have gact := good_act good .back
      rw [e] at gact
      have k : PostB CF CR CP CS CB H Q ba (some ⟨l.n, l.in_, l.out, y, r⟩) [((r.length : Nat) : Int)] := by
        unfold PostL at k
        rw [e] at k
        exact k
      refine if_false_of (dec_iN (by rw [List.length_cons]; omega)) ?_
      -- self.states = self.states[:-1]
      refine ⟨_, rfl, ba, CB, dx, _, _, rfl, h1, T.clB, T.nB_states, fB_states _ _ _, _, rfl, _, rfl, sa, _, rfl, SqL.of hSa, fun p hpn => ?_⟩
      have hcut : cutV ((ss ++ [q]).map V.ref) none (some (-1)) = ss.map V.ref := by
        unfold cutV
        have h1 : HT.sIx ((ss ++ [q]).map V.ref).length ((ss ++ [q]).map V.ref).length (some (-1)) = ss.length := by
          show (if (-1 : Int) < 0 then ((-1 : Int) + (((ss ++ [q]).map V.ref).length : Int)).toNat else min (-1 : Int).toNat ((ss ++ [q]).map V.ref).length) = _
          rw [if_pos (by decide), hlist, hlen]
          omega
        rw [h1, HT.sIx_none, refs_snoc, List.drop_zero, Nat.sub_zero]
        have z : ss.length = (ss.map V.ref).length := by rw [List.length_map]
        rw [z]
        exact List.take_left
      have hcut' : cutV ((ss ++ [q]).map V.ref) none (some (-(1 : Int))) = ss.map V.ref := hcut
      rw [hcut']
      have s2 : Same H (upd H p (.lst (ss.map V.ref))) := same_new hpn
      have e2 : upd H p (.lst (ss.map V.ref)) p = some (.lst (ss.map V.ref)) := upd_same
      generalize upd H p (.lst (ss.map V.ref)) = H2 at s2 e2 ⊢
      have hb2 := s2 _ _ h1
      refine ⟨_, rfl, ba, CB, dx, _, rfl, hb2, T.clB, T.nB_states, fB_len _ _ _, ?_⟩
      rw [fB_set_states]
      have k3 : Kp (NoB CB CF) H2 (upd H2 ba (.ins CB dx (fB (.ref ra) (.ref p) (.ref fa)))) := kp_b hb2
      have KD := keeps_noB (CB := CB) (CF := CF) T.ePB T.eSB T.eRB
      have hl2 : ((ss.map V.ref).length : Int) - 1 = ((r.length : Nat) : Int) := by
        rw [List.length_map, hlen, hp, List.length_cons]
        omega
      have ret := ret_of (H' := upd H2 ba (.ins CB dx (fB (.ref ra) (.ref p) (.ref fa)))) k ⟨dx, ra, p, fa, upd_same, ?_, fun l' hl' => ?_⟩ ((kp_same s2).trans k3)
      · refine ⟨_, rfl, ba, CB, dx, _, _, rfl, upd_same, T.clB, T.nB_states, fB_states _ _ _, p, _, rfl, .inl (SqL.of (k3 _ _ e2 trivial)), _, _, rfl, rfl, (by show 1 ≤ sizeLine; decide), ?_⟩
        show ∀ p', _ = none → Q (.ref p') (upd _ p' (.lst [.int (((ss.map V.ref).length : Int) - 1)]))
        rw [hl2]
        exact ret
      · obtain ⟨df, dd, hf1, hf2⟩ := hFew
        exact FewAt.upd_b T hb2 ⟨df, dd, s2 _ _ hf1, hf2.kp (kp_same s2) (CP := CP) (CS := CS) (CR := CR) keeps_all⟩
      · cases hl'
        refine ⟨gact, (hRu.same s2).kp k3 KD, _, k3 _ _ e2 trivial, ?_⟩
        rw [hp] at hSs
        exact hSs.imp fun _ _ z => (z.same s2).kp k3 KD
theorem sc_player : FnScope ["self", "k", "found"] ["self", "k"] (C8.fnScope sPlayer) := C8.fnScope_by (by decide +kernel)
theorem ok_player {f : Addr} {fd : FuncData} (T : Txt K mg CF CR CP CS CB) (me : Meth K CB "player" f) (F : C8.Fun K "player" "Board.player" sPlayer f fd) (b : Binds K fd ["self", "k"] []) (cH : C8.Met P w K mg base 1 CB "here" (spHere CB) []) : C8.Met P w K mg base 2 CB "player" (spPlayer CF CR CP CS CB) [] := by
  refine C8.met0 T.clB me F b sc_player (fun vs H Q E h => ?_) (fun cdv A outer s H vs Q E hr h => ?_)
  · obtain ⟨_, _, _, rfl, _⟩ := h
    rfl
  · obtain ⟨ba, l, j, rfl, hBo, k⟩ := h
    refine ⟨_, pss_cons (ps_if (pt_cmpR op_ge (pv 1) (pe_callB call_len_seq (by rfl) T.zlen PySem.boot_len (pa_cons (pe_fld (C8.pe_mt0 cH hr (by decide) (pv 0)) rfl) pa_nil)) (nomark _)) (pss_one (ps_ret (pe_lst (pa_cons (C8.pe_gc rfl T.c_NOT_THERE) pa_nil)))) pss_nil)
      (pss_cons (ps_set (i := 2) sc_player.nd rfl (.inl rfl) (pe_ix ix_list (pe_fld (C8.pe_mt0 cH hr (by decide) (pv 0)) rfl) (pv 1) (fun _ _ => rfl)))
      (pss_one (ps_ret (pe_lst (pa_cons (pe_fld (pv 2) rfl) (pa_cons (pe_callTy call_int1 rfl T.zint (by decide +kernel) (pa_cons (pe_fld (pv 2) rfl) pa_nil)) (pa_cons (pe_fld (pv 2) rfl) pa_nil))))))), ?_⟩
    obtain ⟨dx, ra, sa, fa, h1, hFew, hLeg⟩ := id hBo
    have hLeg := hLeg l rfl
    have good := hLeg.1
    obtain ⟨ss, q, hSa, hSs, hNow⟩ := leg_last hLeg
    obtain ⟨dq, lp, bp, as, hq1, hq2, hq3, hq4, hq5⟩ := id hNow
    have hal : as.length = l.n := by rw [hq4.1, good.now.len]
    refine ⟨_, rfl, _, rfl, ba, dx, _, rfl, h1, fB_no_here _ _ _, ba, dx, sa, q, _, _, ss, rfl, h1, hSa, q, CS, dq, _, _, rfl, hq1, T.clS, T.nS_players, fS_players _ _ _ _ _, lp, _, rfl, .inl (SqL.of hq2), _, _, rfl, rfl, _, rfl, ?_⟩
    rw [List.length_map, hal]
    by_cases hn : l.n ≤ j
    · have e : Km371.act l (.player j) = (l, Km371.only (-2)) := by
        show (l, if l.n ≤ j then Km371.only (-2) else _) = _
        rw [if_pos hn]
      have k : PostB CF CR CP CS CB H Q ba (some l) [-2] := by
        unfold PostL at k
        rw [e] at k
        exact k
      refine if_true_of (decide_eq_true (by omega)) ?_
      exact ⟨(by show 1 ≤ sizeLine; decide), ret_of k hBo (kp_same (Same.refl _))⟩
    · have e : Km371.act l (.player j) = (l, ⟨(((Km371.player l.now j).score : Nat) : Int), [Km371.bit (Km371.player l.now j).opened, (Km371.player l.now j).thrown]⟩) := by
        show (l, if l.n ≤ j then Km371.only (-2) else _) = _
        rw [if_neg hn]
      have k : PostB CF CR CP CS CB H Q ba (some l) [(((Km371.player l.now j).score : Nat) : Int), (if (Km371.player l.now j).opened then 1 else 0), (((Km371.player l.now j).thrown : Nat) : Int)] := by
        unfold PostL at k
        rw [e] at k
        rw [← bit_int]
        exact k
      refine if_false_of (decide_eq_false (by omega)) ?_
      have hj : l.now.players[j]? = some (Km371.player l.now j) := by
        unfold Km371.player
        have z : j < l.now.players.length := by rw [good.now.len]; omega
        rw [List.getD_eq_getElem?_getD, List.getElem?_eq_getElem z] <;> rfl
      obtain ⟨pa, hpa, dpa, hpP⟩ := at2 hq4 hj
      refine ⟨_, rfl, ba, dx, _, rfl, h1, fB_no_here _ _ _, ba, dx, sa, q, _, _, ss, rfl, h1, hSa, q, CS, dq, _, _, rfl, hq1, T.clS, T.nS_players, fS_players _ _ _ _ _, _, rfl, lp, _, _, _, rfl, rfl, SqL.of hq2, atI_nat (map_at hpa), ?_⟩
      refine ⟨_, rfl, pa, CP, dpa, _, _, rfl, hpP, T.clP, T.nP_score, fP_score _ _ _, _, rfl, pa, CP, dpa, _, _, rfl, hpP, T.clP, T.nP_has_opened, fP_has_opened _ _ _, .inr ⟨_, rfl, ?_⟩⟩
      refine ⟨_, rfl, pa, CP, dpa, _, _, rfl, hpP, T.clP, T.nP_darts, fP_darts _ _ _, (by show 3 ≤ sizeLine; decide), ret_of k hBo (kp_same (Same.refl _))⟩
theorem sc_turn : FnScope ["self", "state"] ["self"] (C8.fnScope sTurn) := C8.fnScope_by (by decide +kernel)
theorem ok_turn {f : Addr} {fd : FuncData} (T : Txt K mg CF CR CP CS CB) (me : Meth K CB "turn_told" f) (F : C8.Fun K "turn_told" "Board.turn_told" sTurn f fd) (b : Binds K fd ["self"] []) (cH : C8.Met P w K mg base 1 CB "here" (spHere CB) []) : C8.Met P w K mg base 2 CB "turn_told" (spTurn CF CR CP CS CB) [] := by
  refine C8.met0 T.clB me F b sc_turn (fun vs H Q E h => ?_) (fun cdv A outer s H vs Q E hr h => ?_)
  · obtain ⟨_, _, rfl, _⟩ := h
    rfl
  · obtain ⟨ba, l, rfl, hBo, k⟩ := h
    refine ⟨_, pss_cons (ps_set (i := 1) sc_turn.nd rfl (.inl rfl) (C8.pe_mt0 cH hr (by decide) (pv 0)))
      (pss_one (ps_ret (pe_lst (pa_cons (pe_fld (pv 1) rfl) (pa_cons (pe_fld (pv 1) rfl) (pa_cons (pe_fld (pe_fld (pv 1) rfl) rfl) (pa_cons (pe_callTy call_int1 rfl T.zint (by decide +kernel) (pa_cons (pe_fld (pv 1) rfl) pa_nil)) pa_nil))))))), ?_⟩
    obtain ⟨dx, ra, sa, fa, h1, hFew, hLeg⟩ := id hBo
    have hLeg := hLeg l rfl
    obtain ⟨ss, q, hSa, hSs, hNow⟩ := leg_last hLeg
    obtain ⟨dq, lp, bp, as, hq1, hq2, hq3, hq4, dbp, hq5⟩ := id hNow
    have k : PostB CF CR CP CS CB H Q ba (some l) [((l.now.turn : Nat) : Int), ((l.now.left : Nat) : Int), ((l.now.began.score : Nat) : Int), (if l.now.over then 1 else 0)] := by
      unfold PostL at k
      rw [← bit_int]
      exact k
    refine ⟨_, rfl, ba, dx, _, rfl, h1, fB_no_here _ _ _, ba, dx, sa, q, _, _, ss, rfl, h1, hSa, ?_⟩
    refine ⟨_, rfl, q, CS, dq, _, _, rfl, hq1, T.clS, T.nS_turn, fS_turn _ _ _ _ _, _, rfl, q, CS, dq, _, _, rfl, hq1, T.clS, T.nS_left, fS_left _ _ _ _ _, _, rfl, q, CS, dq, _, _, rfl, hq1, T.clS, T.nS_began, fS_began _ _ _ _ _,
      bp, CP, dbp, _, _, rfl, hq5, T.clP, T.nP_score, fP_score _ _ _, _, rfl, q, CS, dq, _, _, rfl, hq1, T.clS, T.nS_is_over, fS_is_over _ _ _ _ _, .inr ⟨_, rfl, ?_⟩⟩
    exact ⟨(by show 4 ≤ sizeLine; decide), ret_of k hBo (kp_same (Same.refl _))⟩
theorem sc_few : FnScope ["self", "ends", "score", "found"] ["self", "ends", "score"] (C8.fnScope sFew) := C8.fnScope_by (by decide +kernel)
theorem ok_few {f : Addr} {fd : FuncData} (T : Txt K mg CF CR CP CS CB) (me : Meth K CB "fewest_told" f) (F : C8.Fun K "fewest_told" "Board.fewest_told" sFew f fd) (b : Binds K fd ["self", "ends", "score"] []) (cT : C8.Met P w K mg base 6 CF "told" (spTold CF) []) : C8.Met P w K mg base 7 CB "fewest_told" (spFew CF CR CP CS CB) [] := by
  refine C8.met0 T.clB me F b sc_few (fun vs H Q E h => ?_) (fun cdv A outer s H vs Q E hr h => ?_)
  · obtain ⟨_, _, _, _, rfl, _⟩ := h
    rfl
  · obtain ⟨ba, l, o, s, rfl, hBo, k⟩ := h
    refine ⟨_, pss_cons (ps_if (PW.pt (pw_or (pt_cmpR op_gt (pv 1) (C8.pe_gc rfl T.c_LAST_END) (nomark _)) (pw_or1 (pt_not (pt_chain op_le op_le pe_int (pv 2) (C8.pe_gc rfl T.c_MOST_SCORE)))))) (pss_one (ps_ret (pe_lst (pa_cons (C8.pe_gc rfl T.c_WRONG) pa_nil)))) pss_nil)
      (pss_cons (ps_set (i := 3) sc_few.nd rfl (.inl rfl) (C8.pe_mt cT hr (by decide) (pe_fld (pv 0) rfl) (pa_cons (pv 1) (pa_cons (pv 2) pa_nil))))
      (pss_cons (ps_if (pt_cmpR op_isN (pv 3) pe_non (nomark _)) (pss_one (ps_ret (pe_lst (pa_cons (C8.pe_gc rfl T.c_NO_END) pa_nil)))) pss_nil)
      (pss_one (ps_ret (pe_lst (pa_cons (pe_ix ix_tup (pv 3) pe_int (fun _ _ => rfl)) (pa_cons (pe_ix ix_tup (pe_ix ix_tup (pv 3) pe_int (fun _ _ => rfl)) pe_int (fun _ _ => rfl)) (pa_cons (pe_ix ix_tup (pe_ix ix_tup (pv 3) pe_int (fun _ _ => rfl)) pe_int (fun _ _ => rfl)) pa_nil)))))))), ?_⟩
    refine (ans_orB (ans_gtI (a := (o : Int)) (b := 2) (val_var rfl) val_c) (ans_not (ans_chain (a := 1) (b := (s : Int)) (c := 1001) val_c (val_var rfl) val_c))) _ ?_
    by_cases bad : 2 < o ∨ s = 0 ∨ Km371.MOST < s
    · have e : Km371.act l (.fewest o s) = (l, Km371.only (-22)) := by
        show (l, if 2 < o ∨ s = 0 ∨ Km371.MOST < s then Km371.only (-22) else _) = _
        rw [if_pos bad]
      have k : PostB CF CR CP CS CB H Q ba (some l) [-22] := by
        unfold PostL at k
        rw [e] at k
        exact k
      refine if_true_of ?_ ?_
      · simp only [Km371.MOST] at bad
        simp only [Bool.or_eq_true, Bool.not_eq_true', Bool.and_eq_false_iff, decide_eq_false_iff_not, decide_eq_true_eq]
        omega
      · exact ⟨(by show 1 ≤ sizeLine; decide), ret_of k hBo (kp_same (Same.refl _))⟩
    · obtain ⟨eN, eS⟩ := act_few l (by exact bad)
      simp only [Km371.MOST] at bad
      refine if_false_of ?_ ?_
      · simp only [Bool.or_eq_false_iff, Bool.not_eq_false', Bool.and_eq_true, decide_eq_false_iff_not, decide_eq_true_eq]
        omega
      · have hs1 : 1 ≤ s := by omega
        obtain ⟨dx, ra, sa, fa, h1, hFew, hLeg⟩ := hBo
        have hLeg := hLeg l rfl
        obtain ⟨df, dd, hf1, hf2⟩ := id hFew
        refine ⟨_, rfl, ba, CB, dx, _, _, rfl, h1, T.clB, T.nB_fewest, fB_fewest _ _ _, fa, df, _, rfl, hf1, fF_no_told _, _, rfl, _, rfl, fa, o, s, rfl, by omega, by omega, hFew, fun H1 v hFew1 B hE => ?_⟩
        have k1 : Kp (NoB CB CF) H H1 := kp_f hf1 B
        have hba : ba ≠ fa := ne_of h1 hf1 (by intro z; exact T.eBF (HO.ins.inj z).1)
        have KD := keeps_noB (CB := CB) (CF := CF) T.ePB T.eSB T.eRB
        have hBo1 : BoAt CF CR CP CS CB H1 ba (some l) := ⟨dx, ra, sa, fa, B _ _ h1 hba, hFew1, fun l' hl' => by
          cases hl'
          exact hLeg.kp k1 KD⟩
        -- if found is None
        refine ⟨_, rfl, rfl, _, rfl, ?_⟩
        rcases hE with ⟨h0, _⟩ | ⟨_, hbn, rfl⟩ | ⟨_, n, d, a, c, hbs, rfl, hva, hvc⟩
        · omega
        · have e := eN hbn
          have k : PostB CF CR CP CS CB H Q ba (some l) [-33] := by
            unfold PostL at k
            rw [e] at k
            exact k
          refine if_true_of rfl ?_
          exact ⟨(by show 1 ≤ sizeLine; decide), ret_of k hBo1 k1⟩
        · have e := eS n d hbs
          have k : PostB CF CR CP CS CB H Q ba (some l) [((n : Nat) : Int), ((d.field : Nat) : Int), ((d.times : Nat) : Int)] := by
            unfold PostL at k
            rw [e] at k
            exact k
          refine if_false_of rfl ?_
          refine ⟨_, rfl, a, _, _, _, rfl, rfl, SqT.of hva, rfl, _, rfl, a, _, _, _, rfl, rfl, SqT.of hva, rfl, c, _, _, _, rfl, rfl, SqT.of hvc, rfl, _, rfl, a, _, _, _, rfl, rfl, SqT.of hva, rfl, c, _, _, _, rfl, rfl, SqT.of hvc, rfl, (by show 3 ≤ sizeLine; decide), ret_of k hBo1 k1⟩
end
end Dl
namespace Dl
open PySem PySem.Spec PyProof.Rows L2
abbrev sAnswer : Stmt := inClass (top 44) 8
abbrev sAnswers : Stmt := top 45
/-! ### Board.answer, answers -/
def spAnswer (K : PySem.W.Frag) (CF CR CP CS CB : Addr) : Sp := fun vs H Q _ => ∃ (b nl : Addr) (s : Option Km371.Leg) (c : Int) (xs : List Int) (x : Km371.Call), vs = [.ref b, .int c, .ref nl] ∧ SqL K H nl (xs.map V.int) ∧ Word c xs x ∧ (stepC s x).2 ≠ [] ∧ BoAt CF CR CP CS CB H b s ∧
  PostB CF CR CP CS CB H Q b (stepC s x).1 (stepC s x).2
def spAnswers (K : PySem.W.Frag) : Sp := fun vs H Q _ => ∃ (a : Addr) (ns : List Int), vs = [.ref a] ∧ SqL K H a (ns.map V.int) ∧ PyKm371.answers_asked ns = true ∧ ns.length ≤ 30000 ∧ ∀ (H' : Hp) (p : Addr), H' p = some (.lst ((PyKm371.answers ns).map V.int)) → Q (.ref p) H'
/-- how many numbers are still to be read -/
def left (ns : List Int) (σ : L2.St) : Nat := match σ[3]? with
  | some (some (V.int i)) => ns.length - i.toNat
  | _ => 0
theorem some_of {s : Option Km371.Leg} {x : Km371.Call} (h : (stepC s x).2 ≠ []) (hs : Km371Neutral.isStart x = false) : ∃ l, s = some l := by
  cases s with
  | some l => exact ⟨l, rfl⟩
  | none =>
    refine absurd ?_ h
    unfold stepC
    simp only []
    rw [hs]
    rfl
section
variable {P : Program} {w : World} {K : PySem.W.Frag} {mg : Str → Option Value} {base : Heap} {CF CR CP CS CB : Addr}
theorem sc_answer : FnScope ["self", "word", "numbers"] ["self", "word", "numbers"] (C8.fnScope sAnswer) := C8.fnScope_by (by decide +kernel)
theorem ok_answer {f : Addr} {fd : FuncData} (T : Txt K mg CF CR CP CS CB) (me : Meth K CB "answer" f) (F : C8.Fun K "answer" "Board.answer" sAnswer f fd) (b : Binds K fd ["self", "word", "numbers"] []) (c0 : C8.Met P w K mg base 4 CB "start" (spStart CF CR CP CS CB) []) (c1 : C8.Met P w K mg base 5 CB "throw" (spThrow CF CR CP CS CB) [])
    (c2 : C8.Met P w K mg base 1 CB "back" (spBack CF CR CP CS CB) []) (c3 : C8.Met P w K mg base 2 CB "player" (spPlayer CF CR CP CS CB) []) (c4 : C8.Met P w K mg base 2 CB "turn_told" (spTurn CF CR CP CS CB) []) (c5 : C8.Met P w K mg base 7 CB "fewest_told" (spFew CF CR CP CS CB) []) :
    C8.Met P w K mg base 8 CB "answer" (spAnswer K CF CR CP CS CB) [] := by
  refine C8.met0 T.clB me F b sc_answer (fun vs H Q E h => ?_) (fun cdv A outer s H vs Q E hr h => ?_)
  · obtain ⟨_, _, _, _, _, _, rfl, _⟩ := h
    rfl
  · obtain ⟨ba, nl, s, c, xs, x, rfl, hL, hW, hne, hBo, k⟩ := h
    refine ⟨_, pss_cons (ps_if (pt_cmpR op_eq (pv 1) (C8.pe_gc rfl T.c_START) (nomark _)) (pss_one (ps_ret (C8.pe_mt c0 hr (by decide) (pv 0) (pa_cons (pe_ix ix_list (pv 2) pe_int (fun _ _ => rfl)) (pa_cons (pe_ix ix_list (pv 2) pe_int (fun _ _ => rfl)) (pa_cons (pe_ix ix_list (pv 2) pe_int (fun _ _ => rfl)) (pa_cons (pe_ix ix_list (pv 2) pe_int (fun _ _ => rfl)) pa_nil))))))) pss_nil)
      (pss_cons (ps_if (pt_cmpR op_eq (pv 1) (C8.pe_gc rfl T.c_DART) (nomark _)) (pss_one (ps_ret (C8.pe_mt c1 hr (by decide) (pv 0) (pa_cons (pe_ix ix_list (pv 2) pe_int (fun _ _ => rfl)) (pa_cons (pe_ix ix_list (pv 2) pe_int (fun _ _ => rfl)) pa_nil))))) pss_nil)
      (pss_cons (ps_if (pt_cmpR op_eq (pv 1) (C8.pe_gc rfl T.c_BACK) (nomark _)) (pss_one (ps_ret (C8.pe_mt0 c2 hr (by decide) (pv 0)))) pss_nil)
      (pss_cons (ps_if (pt_cmpR op_eq (pv 1) (C8.pe_gc rfl T.c_PLAYER) (nomark _)) (pss_one (ps_ret (C8.pe_mt c3 hr (by decide) (pv 0) (pa_cons (pe_ix ix_list (pv 2) pe_int (fun _ _ => rfl)) pa_nil)))) pss_nil)
      (pss_cons (ps_if (pt_cmpR op_eq (pv 1) (C8.pe_gc rfl T.c_TURN) (nomark _)) (pss_one (ps_ret (C8.pe_mt0 c4 hr (by decide) (pv 0)))) pss_nil)
      (pss_one (ps_ret (C8.pe_mt c5 hr (by decide) (pv 0) (pa_cons (pe_ix ix_list (pv 2) pe_int (fun _ _ => rfl)) (pa_cons (pe_ix ix_list (pv 2) pe_int (fun _ _ => rfl)) pa_nil))))))))), ?_⟩
    obtain ⟨dx, ra, sa, fa, h1, _⟩ := id hBo
    cases hW with
    | start n s' i o =>
      refine ⟨_, rfl, rfl, _, rfl, if_true_of rfl ?_⟩
      exact ⟨_, rfl, ba, dx, _, rfl, h1, fB_no_start _ _ _, _, rfl, nl, _, _, _, rfl, rfl, hL, rfl, _, rfl, nl, _, _, _, rfl, rfl, hL, rfl, _, rfl, nl, _, _, _, rfl, rfl, hL, rfl, _, rfl, nl, _, _, _, rfl, rfl, hL, rfl, ba, s, n, s', i, o, rfl, hBo, k⟩
    | dart x t =>
      obtain ⟨l, rfl⟩ := some_of hne rfl
      refine ⟨_, rfl, rfl, _, rfl, if_false_of rfl ⟨_, rfl, rfl, _, rfl, if_true_of rfl ?_⟩⟩
      exact ⟨_, rfl, ba, dx, _, rfl, h1, fB_no_throw _ _ _, _, rfl, nl, _, _, _, rfl, rfl, hL, rfl, _, rfl, nl, _, _, _, rfl, rfl, hL, rfl, ba, l, x, t, rfl, hBo, k⟩
    | back =>
      obtain ⟨l, rfl⟩ := some_of hne rfl
      refine ⟨_, rfl, rfl, _, rfl, if_false_of rfl ⟨_, rfl, rfl, _, rfl, if_false_of rfl ⟨_, rfl, rfl, _, rfl, if_true_of rfl ?_⟩⟩⟩
      exact ⟨_, rfl, ba, dx, _, rfl, h1, fB_no_back _ _ _, ba, l, rfl, hBo, k⟩
    | player j =>
      obtain ⟨l, rfl⟩ := some_of hne rfl
      refine ⟨_, rfl, rfl, _, rfl, if_false_of rfl ⟨_, rfl, rfl, _, rfl, if_false_of rfl ⟨_, rfl, rfl, _, rfl, if_false_of rfl ⟨_, rfl, rfl, _, rfl, if_true_of rfl ?_⟩⟩⟩⟩
      exact ⟨_, rfl, ba, dx, _, rfl, h1, fB_no_player _ _ _, _, rfl, nl, _, _, _, rfl, rfl, hL, rfl, ba, l, j, rfl, hBo, k⟩
    | turn =>
      obtain ⟨l, rfl⟩ := some_of hne rfl
      refine ⟨_, rfl, rfl, _, rfl, if_false_of rfl ⟨_, rfl, rfl, _, rfl, if_false_of rfl ⟨_, rfl, rfl, _, rfl, if_false_of rfl ⟨_, rfl, rfl, _, rfl, if_false_of rfl ⟨_, rfl, rfl, _, rfl, if_true_of rfl ?_⟩⟩⟩⟩⟩
      exact ⟨_, rfl, ba, dx, _, rfl, h1, fB_no_turn_told _ _ _, ba, l, rfl, hBo, k⟩
    | fewest o s' =>
      obtain ⟨l, rfl⟩ := some_of hne rfl
      refine ⟨_, rfl, rfl, _, rfl, if_false_of rfl ⟨_, rfl, rfl, _, rfl, if_false_of rfl ⟨_, rfl, rfl, _, rfl, if_false_of rfl ⟨_, rfl, rfl, _, rfl, if_false_of rfl ⟨_, rfl, rfl, _, rfl, if_false_of rfl ?_⟩⟩⟩⟩⟩
      exact ⟨_, rfl, ba, dx, _, rfl, h1, fB_no_fewest_told _ _ _, _, rfl, nl, _, _, _, rfl, rfl, hL, rfl, _, rfl, nl, _, _, _, rfl, rfl, hL, rfl, ba, l, o, s', rfl, hBo, k⟩
/-- the list that is handed in, beside the list at fl -/
def CalAt (K : PySem.W.Frag) (H : Hp) (fl a : Addr) (xs : List V) : Prop := (a ≠ fl ∧ Rd H a (.lst xs)) ∨ ∀ H' : Hp, SqL K H' a xs
theorem CalAt.sq {H : Hp} {fl a : Addr} {xs : List V} (h : CalAt K H fl a xs) : SqL K H a xs := by
  rcases h with ⟨_, h⟩ | h
  · exact .inl h
  · exact h H
theorem CalAt.kp {H H' : Hp} {fl a : Addr} {xs : List V} (k : Kp (NoB CB CF) H H') (h : CalAt K H fl a xs) : CalAt K H' fl a xs := by
  rcases h with ⟨n, h⟩ | h
  · refine .inl ⟨n, ?_⟩
    rcases h with h | ⟨o, h⟩
    · exact .inl (k _ _ h trivial)
    · exact .inr ⟨o, k _ _ h trivial⟩
  · exact .inr h
theorem CalAt.upd {H : Hp} {fl a : Addr} {xs : List V} {o : HO} (h : CalAt K H fl a xs) : CalAt K (upd H fl o) fl a xs := by
  rcases h with ⟨n, h⟩ | h
  · refine .inl ⟨n, ?_⟩
    rcases h with h | ⟨o, h⟩
    · exact .inl (by rw [upd_ne n]; exact h)
    · exact .inr ⟨o, by rw [upd_ne n]; exact h⟩
  · exact .inr h
theorem cal_of {H H' : Hp} {fl a : Addr} {xs : List V} (h : SqL K H a xs) (hf : H fl = none) (s : Same H H') : CalAt K H' fl a xs := by
  rcases h with h | h
  · rcases h with h | ⟨o, h⟩
    · exact .inl ⟨ne_of_none h hf, .inl (s _ _ h)⟩
    · exact .inl ⟨ne_of_none h hf, .inr ⟨o, s _ _ h⟩⟩
  · exact .inr fun _ => .inr h
theorem kp_ints {H : Hp} {fl : Addr} {out : List Int} {o : HO} (h : H fl = some (.lst (out.map V.int))) : Kp NoI H (upd H fl o) := fun a u e p => by
  rw [upd_ne (fun z => ?_)]
  · exact e
  · rw [z, h] at e
    cases e
    obtain ⟨x, hx, hn⟩ := p
    obtain ⟨i, _, rfl⟩ := List.mem_map.mp hx
    exact hn i rfl
theorem cut_mid {ns : List Int} {i m : Nat} (h : i + 1 + m ≤ ns.length) : cutV (ns.map V.int) (some (((i : Nat) : Int) + 1)) (some (((i : Nat) : Int) + 1 + ((m : Nat) : Int))) = ((ns.drop (i + 1)).take m).map V.int := by
  unfold cutV
  have e1 : ((i : Nat) : Int) + 1 = ((i + 1 : Nat) : Int) := rfl
  have e2 : ((i : Nat) : Int) + 1 + ((m : Nat) : Int) = ((i + 1 + m : Nat) : Int) := by omega
  rw [e2, e1, HT.sIx_nat, HT.sIx_nat, List.length_map, Nat.min_eq_left h, Nat.min_eq_left (by omega : i + 1 ≤ ns.length), show i + 1 + m - (i + 1) = m by omega, List.map_take, List.map_drop]
theorem num_at {c : Int} (h : c = 0 ∨ c = 1 ∨ c = 2 ∨ c = 3 ∨ c = 4 ∨ c = 5) : atI [V.int 4, .int 2, .int 0, .int 1, .int 0, .int 2] c = some (iN (many c)) := by
  rcases h with rfl | rfl | rfl | rfl | rfl | rfl <;> rfl
theorem sc_answers : FnScope ["calls", "board", "found", "at", "word", "behind", "told"] ["calls"] (C8.fnScope sAnswers) := C8.fnScope_by (by decide +kernel)
theorem ok_answers {f : Addr} {fd : FuncData} (T : Txt K mg CF CR CP CS CB) (F : C8.Def K mg "answers" sAnswers f fd) (b : Binds K fd ["calls"] []) (cB : C8.Mak P w K mg base 3 "Board" CB (spBInit CF CR CP CS CB) []) (cA : C8.Met P w K mg base 8 CB "answer" (spAnswer K CF CR CP CS CB) []) :
    FnOk P w K mg base C8.CX0 9 f fd ["calls"] (spAnswers K) := by
  refine C8.fn0 F.fn sc_answers (fun vs H Q E h => ?_) (fun cdv A outer s H vs Q E hr h => ?_)
  · obtain ⟨_, _, rfl, _⟩ := h
    rfl
  · obtain ⟨a, ns, rfl, hL, hask, hlen, k⟩ := h
    obtain ⟨aN, hN, sN⟩ := T.NUM
    refine ⟨_, pss_cons (ps_set (i := 1) sc_answers.nd rfl (.inl rfl) (pe_mk0 cB hr (by decide) rfl))
      (pss_cons (ps_set (i := 2) sc_answers.nd rfl (.inl rfl) (pe_lst pa_nil))
      (pss_cons (ps_set (i := 3) sc_answers.nd rfl (.inl rfl) pe_int)
      (pss_cons (ps_while PassesOwn.never (pt_cmpR op_lt (pv 3) (pe_callB call_len_seq (by rfl) T.zlen PySem.boot_len (pa_cons (pv 0) pa_nil)) (nomark _))
        (pss_cons (ps_set (i := 4) sc_answers.nd rfl (.inl rfl) (pe_ix ix_list (pv 0) (pv 3) (fun _ _ => rfl)))
        (pss_cons (ps_set (i := 5) sc_answers.nd rfl (.inl rfl) (pe_op op_add (pe_op op_add (pv 3) pe_int) (pe_ix ix_tup (C8.pe_gc (v := .ref aN) rfl ⟨_, hN, rfl⟩) (pv 4) (fun _ _ => rfl))))
        (pss_cons (ps_set (i := 6) sc_answers.nd rfl (.inl rfl) (C8.pe_mt cA hr (by decide) (pv 1) (pa_cons (pv 4) (pa_cons (pe_slice sl_list (pv 0) (po_some (pe_op op_add (pv 3) pe_int)) (po_some (pv 5))) pa_nil))))
        (pss_cons (ps_expr (pe_bm PySem.F.plainAttrs_list PySem.F.slot_list_append PySem.F.type_list_append mt_append (pv 2) (pa_cons (pe_callB call_len_seq (by rfl) T.zlen PySem.boot_len (pa_cons (pv 6) pa_nil)) pa_nil)))
        (pss_cons (ps_expr (pe_bm PySem.F.plainAttrs_list PySem.F.slot_list_extend PySem.F.type_list_extend mt_extend (pv 2) (pa_cons (pv 6) pa_nil)))
        (pss_one (ps_set (i := 3) sc_answers.nd rfl (.inl rfl) (pv 5)))))))))
      (pss_one (ps_ret (pv 2)))))), ?_⟩
    -- board = Board()
    intro ba db nb ndb neb
    refine ⟨ba, db, rfl, upd_same, fun H1 hB1 B1 => ⟨rfl, ?_⟩⟩
    have s1 : Same H H1 := Same.made nb ndb B1
    -- found = []
    refine ⟨Nat.zero_le _, fun fl hfl => ?_⟩
    have s2 : Same H1 (upd H1 fl (.lst [])) := same_new hfl
    have hf0 : H fl = none := s1.free hfl
    -- at = 0; while at < len(calls)
    refine while_by (fun σ H' => ∃ (i : Nat) (t : Option Km371.Leg) (out : List Int) (v4 v5 v6 : Option V), σ = [some (.ref a), some (.ref ba), some (.ref fl), some (iN i), v4, v5, v6] ∧ Rest ns i t out ∧ BoAt CF CR CP CS CB H' ba t ∧
        H' fl = some (.lst (out.map V.int)) ∧ CalAt K H' fl a (ns.map V.int))
      (fun σ _ => left ns σ) ⟨0, none, [], none, none, none, rfl, rest_start hask, hB1.same s2, upd_same, cal_of hL hf0 fun b o z => s2 _ _ (s1 _ _ z)⟩ ?_ ?_
    · rintro σ H2 ⟨i, t, out, v4, v5, v6, rfl, hR, hBo, hF, hC⟩
      refine ⟨_, rfl, _, rfl, a, _, rfl, .inl hC.sq, _, _, rfl, rfl, _, rfl, ?_⟩
      rw [List.length_map]
      by_cases hi : i < ns.length
      · refine if_true_of (decide_eq_true (by omega)) ?_
        obtain ⟨c, xs, x, hc, hxs, hxl, hle, h6, hW, hne, hout, hR2⟩ := rest_next hR hi
        -- word = calls[at]
        refine ⟨_, rfl, _, rfl, a, _, _, .int c, rfl, rfl, hC.sq, ?_, ?_⟩
        · refine atI_nat ?_
          rw [List.getElem?_map, hc]
          rfl
        -- behind = at + 1 + NUMBERS[word]
        refine ⟨_, rfl, _, _, rfl, rfl, _, rfl, aN, _, _, _, rfl, rfl, sN _, num_at h6, _, _, rfl, rfl, ?_⟩
        -- told = board.answer(word, calls[at + 1:behind])
        obtain ⟨dx, ra, sa, fa, h1, _⟩ := id hBo
        refine ⟨_, rfl, ba, dx, _, rfl, h1, fB_no_answer _ _ _, _, rfl, _, rfl, _, rfl, _, _, rfl, rfl, _, rfl, _, rfl, _, rfl, a, _, rfl, hC.sq, fun nl hnl => ?_⟩
        have hcut := cut_mid (i := i) (m := many c) hle
        rw [← hxs] at hcut
        show spAnswer K CF CR CP CS CB [.ref ba, .int c, .ref nl] (upd H2 nl (.lst (cutV (ns.map V.int) (some (((i : Nat) : Int) + 1)) (some (((i : Nat) : Int) + 1 + ((many c : Nat) : Int)))))) _ C8.E0
        rw [hcut]
        have s3 : Same H2 (upd H2 nl (.lst (xs.map V.int))) := same_new hnl
        have e3 : upd H2 nl (.lst (xs.map V.int)) nl = some (.lst (xs.map V.int)) := upd_same
        generalize upd H2 nl (.lst (xs.map V.int)) = H3 at s3 e3 ⊢
        refine ⟨ba, nl, t, c, xs, x, rfl, SqL.of e3, hW, hne, hBo.same s3, fun H4 p hBo4 k4 hpn hp => ?_⟩
        have hF3 : H3 fl = some (.lst (out.map V.int)) := s3 _ _ hF
        have hF4 := k4 _ _ hF3 trivial
        have hC4 : CalAt K H4 fl a (ns.map V.int) := CalAt.kp k4 (CalAt.kp (CB := CB) (CF := CF) (kp_same s3) hC)
        have npf : p ≠ fl := (hpn fl _ hF3 trivial).symm
        -- found.append(len(told))
        refine ⟨_, rfl, .inl ⟨rfl, _, SqL.of hF4⟩, _, rfl, p, _, rfl, .inl (SqL.of hp), fl, _, _, rfl, rfl, hF4, ?_, ?_⟩
        · rw [List.length_map]
          exact Nat.lt_of_le_of_lt (show out.length ≤ 10000 by omega) (by decide)
        have hs4 := stepC_len t x
        rw [List.length_map]
        have eo : out.map V.int ++ [V.int (((stepC t x).2.length : Nat) : Int)] = (out ++ [(((stepC t x).2.length : Nat) : Int)]).map V.int := by rw [List.map_append] <;> rfl
        rw [eo]
        have hBo5 := hBo4.kpI (kp_ints (o := .lst ((out ++ [(((stepC t x).2.length : Nat) : Int)]).map V.int)) hF4)
        have hC5 : CalAt K (upd H4 fl (.lst ((out ++ [(((stepC t x).2.length : Nat) : Int)]).map V.int))) fl a (ns.map V.int) := hC4.upd
        have hp5 : upd H4 fl (.lst ((out ++ [(((stepC t x).2.length : Nat) : Int)]).map V.int)) p = some (.lst ((stepC t x).2.map V.int)) := by
          rw [upd_ne npf]
          exact hp
        have hF5 : upd H4 fl (.lst ((out ++ [(((stepC t x).2.length : Nat) : Int)]).map V.int)) fl = some (.lst ((out ++ [(((stepC t x).2.length : Nat) : Int)]).map V.int)) := upd_same
        generalize upd H4 fl (.lst ((out ++ [(((stepC t x).2.length : Nat) : Int)]).map V.int)) = H5 at hBo5 hC5 hp5 hF5 ⊢
        -- found.extend(told)
        refine ⟨_, rfl, .inl ⟨rfl, _, SqL.of hF5⟩, _, rfl, fl, p, _, _, rfl, rfl, hF5, hp5, ?_, ?_⟩
        · rw [List.length_map, List.length_map, List.length_append, List.length_singleton]
          exact Nat.le_trans (show out.length + 1 + (stepC t x).2.length ≤ 20000 by omega) (by decide)
        rw [← List.map_append]
        -- at = behind
        refine ⟨_, rfl, ⟨i + 1 + many c, (stepC t x).1, out ++ (((stepC t x).2.length : Nat) : Int) :: (stepC t x).2, some (.int c), some (.int (((i : Nat) : Int) + 1 + ((many c : Nat) : Int))), some (.ref p), ?_, hR2, hBo5.kpI (kp_ints hF5), ?_, hC5.upd⟩, ?_⟩
        · have z : ((i : Nat) : Int) + 1 + ((many c : Nat) : Int) = ((i + 1 + many c : Nat) : Int) := by omega
          show [some (V.ref a), some (.ref ba), some (.ref fl), some (.int (((i : Nat) : Int) + 1 + ((many c : Nat) : Int))), some (.int c), some (.int (((i : Nat) : Int) + 1 + ((many c : Nat) : Int))), some (.ref p)] = _
          rw [z]
        · rw [upd_same, List.append_assoc] <;> rfl
        · show ns.length - (((i : Nat) : Int) + 1 + ((many c : Nat) : Int)).toNat < ns.length - ((i : Nat) : Int).toNat
          omega
      · refine if_false_of (decide_eq_false (by omega)) ?_
        have hie : i = ns.length := by
          have := hR.le
          omega
        subst hie
        refine ⟨_, rfl, k H2 fl ?_⟩
        rw [rest_end hR]
        exact hF
    · rintro σ H2 Q1 Q2 hQ ⟨v, e1, v2, e2, p, ys, e3, h4, i, j, e5, e6, c, e7, h8⟩
      exact ⟨v, e1, v2, e2, p, ys, e3, h4, i, j, e5, e6, c, e7, hQ _ _ h8⟩
end
end Dl
namespace Dl
open PySem PySem.Spec PyProof.Rows L2
open PySem.W (Codec)
/-! ### The end: what the top has written -/
section
variable {K : PySem.W.Frag} {h : Heap} {mg : Str → Option Value}
theorem def_mk {x : Str} {st : Stmt} {f : Addr} {oc kV dc pm cd ct : Value} {od an : Option Addr} {sl : Array (Option Value)} (X : K.In h) (G : h.Ns mainGlobals mg) (a : PySem.W.nsIn K mainGlobals x = some (some (.ref f)))
    (l : K.lookup f = some ⟨oc, od, .func (PySem.W.fnOf x x (C8.fnArgs st) (C8.fnBody st) (C8.fnScope st) .none kV dc pm an cd ct), sl⟩) (c : PySem.W.codeIn K cd x = true) (k : PySem.W.keepIn K (.ref f) = true) :
    ∃ (f : Addr) (fd : FuncData), C8.Def K mg x st f fd ∧ fd.defaults = .none := ⟨f, _, ⟨⟨_, _, _, _, _, _, _, _, _, _, rfl, l, c⟩, PySem.W.mg_of X G a, k⟩, rfl⟩
theorem meth_mk {x qual : Str} {st : Stmt} {C f : Addr} {oc kV dc pm cd ct : Value} {od an : Option Addr} {sl : Array (Option Value)} (a : PySem.W.findIn K (.ref C) x = some (some (.ref f))) (i : PySem.W.isFn K (.ref f) = true)
    (l : K.lookup f = some ⟨oc, od, .func (PySem.W.fnOf x qual (C8.fnArgs st) (C8.fnBody st) (C8.fnScope st) .none kV dc pm an cd ct), sl⟩) (c : PySem.W.codeIn K cd qual = true) (k : PySem.W.keepIn K (.ref f) = true) :
    ∃ (f : Addr) (fd : FuncData), Meth K C x f ∧ C8.Fun K x qual st f fd ∧ fd.defaults = .none := ⟨f, _, ⟨a, i, k⟩, ⟨_, _, _, _, _, _, _, _, _, _, rfl, l, c⟩, rfl⟩
theorem init_mk {qual : Str} {st : Stmt} {C f : Addr} {oc kV dc pm cd ct : Value} {od an : Option Addr} {sl : Array (Option Value)} (a : PySem.W.findIn K (.ref C) "__init__" = some (some (.ref f))) (i : PySem.W.isFn K (.ref f) = true)
    (l : K.lookup f = some ⟨oc, od, .func (PySem.W.fnOf "__init__" qual (C8.fnArgs st) (C8.fnBody st) (C8.fnScope st) .none kV dc pm an cd ct), sl⟩) (c : PySem.W.codeIn K cd qual = true) (m : PySem.W.makesIn K C = true) (k : PySem.W.keepIn K (.ref C) = true) :
    ∃ (f : Addr) (fd : FuncData), Mk K C f ∧ C8.Fun K "__init__" qual st f fd ∧ fd.defaults = .none := ⟨f, _, ⟨m, a, i, k⟩, ⟨_, _, _, _, _, _, _, _, _, _, rfl, l, c⟩, rfl⟩
theorem cls_mk {C : Addr} (pg : PySem.W.plainGet K C Str.empty = true) (hd : PySem.W.hasDictIn K C = true) (po : PySem.W.plainOver K C = true) (sa : PySem.W.findIn K (.ref C) "__setattr__" = some (some (.builtin "object.__setattr__"))) : Cls K C := ⟨pg, hd, po, sa⟩
theorem con_mk {x : Str} {n : Int} {t : Tok} (X : K.In h) (G : h.Ns mainGlobals mg) (a : PySem.W.nsIn K mainGlobals x = some (some (.int n t))) : ∃ u, mg x = some u ∧ RelV (.int n) u := ⟨_, PySem.W.mg_of X G a, _, rfl⟩
theorem tup2_mk {x : Str} {f : Addr} {i0 i1 : Int} {t0 t1 : Tok} {od : Option Addr} {n : Nat} {sl : Array (Option Value)} (X : K.In h) (G : h.Ns mainGlobals mg) (a : PySem.W.nsIn K mainGlobals x = some (some (.ref f))) (l : K.lookup f = some ⟨.type "tuple", od, .seq #[.int i0 t0, .int i1 t1] n, sl⟩) :
    ∃ a, mg x = some (.ref a) ∧ ∀ H, SqT K H a [.int i0, .int i1] := ⟨f, PySem.W.mg_of X G a, fun H => .inr ⟨_, _, _, l, rfl, rfl, (by show 2 ≤ sizeLine; decide), .cons ⟨_, rfl⟩ (.cons ⟨_, rfl⟩ .nil)⟩⟩
theorem tup6_mk {x : Str} {f : Addr} {i0 i1 i2 i3 i4 i5 : Int} {t0 t1 t2 t3 t4 t5 : Tok} {od : Option Addr} {n : Nat} {sl : Array (Option Value)} (X : K.In h) (G : h.Ns mainGlobals mg) (a : PySem.W.nsIn K mainGlobals x = some (some (.ref f)))
    (l : K.lookup f = some ⟨.type "tuple", od, .seq #[.int i0 t0, .int i1 t1, .int i2 t2, .int i3 t3, .int i4 t4, .int i5 t5] n, sl⟩) :
    ∃ a, mg x = some (.ref a) ∧ ∀ H, SqT K H a [.int i0, .int i1, .int i2, .int i3, .int i4, .int i5] := ⟨f, PySem.W.mg_of X G a, fun H => .inr ⟨_, _, _, l, rfl, rfl, (by show 6 ≤ sizeLine; decide), .cons ⟨_, rfl⟩ (.cons ⟨_, rfl⟩ (.cons ⟨_, rfl⟩ (.cons ⟨_, rfl⟩ (.cons ⟨_, rfl⟩ (.cons ⟨_, rfl⟩ .nil)))))⟩⟩
theorem cls_ne {C D : Addr} {m : Str} {v : Value} (a : PySem.W.findIn K (.ref C) m = some none) (b : PySem.W.findIn K (.ref D) m = some (some v)) : C ≠ D := fun z => by
  rw [z, b] at a
  cases a
theorem bi_isDart {f : Addr} {fd : FuncData} (F : C8.Def K mg "is_dart" sIsDart f fd) (d : fd.defaults = .none) : Binds K fd ["field", "times"] [] := C8.Fun.binds F.fn d (ps := ["field", "times"]) fun _ _ _ _ _ _ us hl => match us, hl with | [_, _], _ => rfl
theorem bi_worth {f : Addr} {fd : FuncData} (F : C8.Def K mg "worth" sWorth f fd) (d : fd.defaults = .none) : Binds K fd ["dart"] [] := C8.Fun.binds F.fn d (ps := ["dart"]) fun _ _ _ _ _ _ us hl => match us, hl with | [_], _ => rfl
theorem bi_allDarts {f : Addr} {fd : FuncData} (F : C8.Def K mg "all_darts" sAllDarts f fd) (d : fd.defaults = .none) : Binds K fd [] [] := C8.Fun.binds F.fn d (ps := []) fun _ _ _ _ _ _ us hl => match us, hl with | [], _ => rfl
theorem bi_mayEnd {f : Addr} {fd : FuncData} (F : C8.Def K mg "may_end" sMayEnd f fd) (d : fd.defaults = .none) : Binds K fd ["ends", "dart"] [] := C8.Fun.binds F.fn d (ps := ["ends", "dart"]) fun _ _ _ _ _ _ us hl => match us, hl with | [_, _], _ => rfl
theorem bi_burst {f : Addr} {fd : FuncData} (F : C8.Def K mg "does_burst" sBurst f fd) (d : fd.defaults = .none) : Binds K fd ["ends", "left", "dart"] [] := C8.Fun.binds F.fn d (ps := ["ends", "left", "dart"]) fun _ _ _ _ _ _ us hl => match us, hl with | [_, _, _], _ => rfl
theorem bi_bestAt {f : Addr} {fd : FuncData} (F : C8.Def K mg "best_at" sBestAt f fd) (d : fd.defaults = .none) : Binds K fd ["ends", "score", "found", "darts"] [] := C8.Fun.binds F.fn d (ps := ["ends", "score", "found", "darts"]) fun _ _ _ _ _ _ us hl => match us, hl with | [_, _, _, _], _ => rfl
theorem bi_tableOf {f : Addr} {fd : FuncData} (F : C8.Def K mg "table_of" sTableOf f fd) (d : fd.defaults = .none) : Binds K fd ["ends"] [] := C8.Fun.binds F.fn d (ps := ["ends"]) fun _ _ _ _ _ _ us hl => match us, hl with | [_], _ => rfl
theorem bi_first {f : Addr} {fd : FuncData} (F : C8.Def K mg "first_state" sFirst f fd) (d : fd.defaults = .none) : Binds K fd ["many", "score", "rules"] [] := C8.Fun.binds F.fn d (ps := ["many", "score", "rules"]) fun _ _ _ _ _ _ us hl => match us, hl with | [_, _, _], _ => rfl
theorem bi_thrown {f : Addr} {fd : FuncData} (F : C8.Def K mg "thrown" sThrown f fd) (d : fd.defaults = .none) : Binds K fd ["rules", "state", "dart"] [] := C8.Fun.binds F.fn d (ps := ["rules", "state", "dart"]) fun _ _ _ _ _ _ us hl => match us, hl with | [_, _, _], _ => rfl
theorem bi_answers {f : Addr} {fd : FuncData} (F : C8.Def K mg "answers" sAnswers f fd) (d : fd.defaults = .none) : Binds K fd ["calls"] [] := C8.Fun.binds F.fn d (ps := ["calls"]) fun _ _ _ _ _ _ us hl => match us, hl with | [_], _ => rfl
theorem bi_FInit {f : Addr} {fd : FuncData} (F : C8.Fun K "__init__" "Fewest.__init__" sFInit f fd) (d : fd.defaults = .none) : Binds K fd ["self"] [] := C8.Fun.binds F d (ps := ["self"]) fun _ _ _ _ _ _ us hl => match us, hl with | [_], _ => rfl
theorem bi_RInit {f : Addr} {fd : FuncData} (F : C8.Fun K "__init__" "Rules.__init__" sRInit f fd) (d : fd.defaults = .none) : Binds K fd ["self", "opens", "ends"] [] := C8.Fun.binds F d (ps := ["self", "opens", "ends"]) fun _ _ _ _ _ _ us hl => match us, hl with | [_, _, _], _ => rfl
theorem bi_PInit {f : Addr} {fd : FuncData} (F : C8.Fun K "__init__" "Player.__init__" sPInit f fd) (d : fd.defaults = .none) : Binds K fd ["self", "score", "has_opened", "darts"] [] := C8.Fun.binds F d (ps := ["self", "score", "has_opened", "darts"]) fun _ _ _ _ _ _ us hl => match us, hl with | [_, _, _, _], _ => rfl
theorem bi_SInit {f : Addr} {fd : FuncData} (F : C8.Fun K "__init__" "State.__init__" sSInit f fd) (d : fd.defaults = .none) : Binds K fd ["self", "players", "turn", "left", "began", "is_over"] [] := C8.Fun.binds F d (ps := ["self", "players", "turn", "left", "began", "is_over"]) fun _ _ _ _ _ _ us hl => match us, hl with | [_, _, _, _, _, _], _ => rfl
theorem bi_BInit {f : Addr} {fd : FuncData} (F : C8.Fun K "__init__" "Board.__init__" sBInit f fd) (d : fd.defaults = .none) : Binds K fd ["self"] [] := C8.Fun.binds F d (ps := ["self"]) fun _ _ _ _ _ _ us hl => match us, hl with | [_], _ => rfl
theorem bi_F_table {f : Addr} {fd : FuncData} (F : C8.Fun K "table" "Fewest.table" sTable f fd) (d : fd.defaults = .none) : Binds K fd ["self", "ends"] [] := C8.Fun.binds F d (ps := ["self", "ends"]) fun _ _ _ _ _ _ us hl => match us, hl with | [_, _], _ => rfl
theorem bi_F_told {f : Addr} {fd : FuncData} (F : C8.Fun K "told" "Fewest.told" sTold f fd) (d : fd.defaults = .none) : Binds K fd ["self", "ends", "score"] [] := C8.Fun.binds F d (ps := ["self", "ends", "score"]) fun _ _ _ _ _ _ us hl => match us, hl with | [_, _, _], _ => rfl
theorem bi_S_thrower {f : Addr} {fd : FuncData} (F : C8.Fun K "thrower" "State.thrower" sThrower f fd) (d : fd.defaults = .none) : Binds K fd ["self"] [] := C8.Fun.binds F d (ps := ["self"]) fun _ _ _ _ _ _ us hl => match us, hl with | [_], _ => rfl
theorem bi_S_with_thrower {f : Addr} {fd : FuncData} (F : C8.Fun K "with_thrower" "State.with_thrower" sWith f fd) (d : fd.defaults = .none) : Binds K fd ["self", "player"] [] := C8.Fun.binds F d (ps := ["self", "player"]) fun _ _ _ _ _ _ us hl => match us, hl with | [_, _], _ => rfl
theorem bi_S_going_on {f : Addr} {fd : FuncData} (F : C8.Fun K "going_on" "State.going_on" sGoing f fd) (d : fd.defaults = .none) : Binds K fd ["self", "player"] [] := C8.Fun.binds F d (ps := ["self", "player"]) fun _ _ _ _ _ _ us hl => match us, hl with | [_, _], _ => rfl
theorem bi_S_won {f : Addr} {fd : FuncData} (F : C8.Fun K "won" "State.won" sWon f fd) (d : fd.defaults = .none) : Binds K fd ["self", "player"] [] := C8.Fun.binds F d (ps := ["self", "player"]) fun _ _ _ _ _ _ us hl => match us, hl with | [_, _], _ => rfl
theorem bi_S_next_visit {f : Addr} {fd : FuncData} (F : C8.Fun K "next_visit" "State.next_visit" sNext f fd) (d : fd.defaults = .none) : Binds K fd ["self", "player"] [] := C8.Fun.binds F d (ps := ["self", "player"]) fun _ _ _ _ _ _ us hl => match us, hl with | [_, _], _ => rfl
theorem bi_B_start {f : Addr} {fd : FuncData} (F : C8.Fun K "start" "Board.start" sStart f fd) (d : fd.defaults = .none) : Binds K fd ["self", "n", "score", "opens", "ends"] [] := C8.Fun.binds F d (ps := ["self", "n", "score", "opens", "ends"]) fun _ _ _ _ _ _ us hl => match us, hl with | [_, _, _, _, _], _ => rfl
theorem bi_B_here {f : Addr} {fd : FuncData} (F : C8.Fun K "here" "Board.here" sHere f fd) (d : fd.defaults = .none) : Binds K fd ["self"] [] := C8.Fun.binds F d (ps := ["self"]) fun _ _ _ _ _ _ us hl => match us, hl with | [_], _ => rfl
theorem bi_B_throw {f : Addr} {fd : FuncData} (F : C8.Fun K "throw" "Board.throw" sThrow f fd) (d : fd.defaults = .none) : Binds K fd ["self", "field", "times"] [] := C8.Fun.binds F d (ps := ["self", "field", "times"]) fun _ _ _ _ _ _ us hl => match us, hl with | [_, _, _], _ => rfl
theorem bi_B_back {f : Addr} {fd : FuncData} (F : C8.Fun K "back" "Board.back" sBack f fd) (d : fd.defaults = .none) : Binds K fd ["self"] [] := C8.Fun.binds F d (ps := ["self"]) fun _ _ _ _ _ _ us hl => match us, hl with | [_], _ => rfl
theorem bi_B_player {f : Addr} {fd : FuncData} (F : C8.Fun K "player" "Board.player" sPlayer f fd) (d : fd.defaults = .none) : Binds K fd ["self", "k"] [] := C8.Fun.binds F d (ps := ["self", "k"]) fun _ _ _ _ _ _ us hl => match us, hl with | [_, _], _ => rfl
theorem bi_B_turn_told {f : Addr} {fd : FuncData} (F : C8.Fun K "turn_told" "Board.turn_told" sTurn f fd) (d : fd.defaults = .none) : Binds K fd ["self"] [] := C8.Fun.binds F d (ps := ["self"]) fun _ _ _ _ _ _ us hl => match us, hl with | [_], _ => rfl
theorem bi_B_fewest_told {f : Addr} {fd : FuncData} (F : C8.Fun K "fewest_told" "Board.fewest_told" sFew f fd) (d : fd.defaults = .none) : Binds K fd ["self", "ends", "score"] [] := C8.Fun.binds F d (ps := ["self", "ends", "score"]) fun _ _ _ _ _ _ us hl => match us, hl with | [_, _, _], _ => rfl
theorem bi_B_answer {f : Addr} {fd : FuncData} (F : C8.Fun K "answer" "Board.answer" sAnswer f fd) (d : fd.defaults = .none) : Binds K fd ["self", "word", "numbers"] [] := C8.Fun.binds F d (ps := ["self", "word", "numbers"]) fun _ _ _ _ _ _ us hl => match us, hl with | [_, _, _], _ => rfl
end
theorem all_of {P : Program} {w : World} {K : PySem.W.Frag} {h : Heap} {mg : Str → Option Value} {fa CF CR CP CS CB : Addr} (X : K.In h) (G : h.Ns mainGlobals mg) (hfa : mg "answers" = some (.ref fa))
    (aF : PySem.W.nsIn K mainGlobals "Fewest" = some (some (.ref CF)))
    (aR : PySem.W.nsIn K mainGlobals "Rules" = some (some (.ref CR)))
    (aP : PySem.W.nsIn K mainGlobals "Player" = some (some (.ref CP)))
    (aS : PySem.W.nsIn K mainGlobals "State" = some (some (.ref CS)))
    (aB : PySem.W.nsIn K mainGlobals "Board" = some (some (.ref CB)))
    (T : Txt K mg CF CR CP CS CB)
    (d_isDart : ∃ (f : Addr) (fd : FuncData), C8.Def K mg "is_dart" sIsDart f fd ∧ fd.defaults = .none)
    (d_worth : ∃ (f : Addr) (fd : FuncData), C8.Def K mg "worth" sWorth f fd ∧ fd.defaults = .none)
    (d_allDarts : ∃ (f : Addr) (fd : FuncData), C8.Def K mg "all_darts" sAllDarts f fd ∧ fd.defaults = .none)
    (d_mayEnd : ∃ (f : Addr) (fd : FuncData), C8.Def K mg "may_end" sMayEnd f fd ∧ fd.defaults = .none)
    (d_burst : ∃ (f : Addr) (fd : FuncData), C8.Def K mg "does_burst" sBurst f fd ∧ fd.defaults = .none)
    (d_bestAt : ∃ (f : Addr) (fd : FuncData), C8.Def K mg "best_at" sBestAt f fd ∧ fd.defaults = .none)
    (d_tableOf : ∃ (f : Addr) (fd : FuncData), C8.Def K mg "table_of" sTableOf f fd ∧ fd.defaults = .none)
    (d_first : ∃ (f : Addr) (fd : FuncData), C8.Def K mg "first_state" sFirst f fd ∧ fd.defaults = .none)
    (d_thrown : ∃ (f : Addr) (fd : FuncData), C8.Def K mg "thrown" sThrown f fd ∧ fd.defaults = .none)
    (d_answers : ∃ (f : Addr) (fd : FuncData), C8.Def K mg "answers" sAnswers f fd ∧ fd.defaults = .none)
    (i_F : ∃ (f : Addr) (fd : FuncData), Mk K CF f ∧ C8.Fun K "__init__" "Fewest.__init__" sFInit f fd ∧ fd.defaults = .none)
    (i_R : ∃ (f : Addr) (fd : FuncData), Mk K CR f ∧ C8.Fun K "__init__" "Rules.__init__" sRInit f fd ∧ fd.defaults = .none)
    (i_P : ∃ (f : Addr) (fd : FuncData), Mk K CP f ∧ C8.Fun K "__init__" "Player.__init__" sPInit f fd ∧ fd.defaults = .none)
    (i_S : ∃ (f : Addr) (fd : FuncData), Mk K CS f ∧ C8.Fun K "__init__" "State.__init__" sSInit f fd ∧ fd.defaults = .none)
    (i_B : ∃ (f : Addr) (fd : FuncData), Mk K CB f ∧ C8.Fun K "__init__" "Board.__init__" sBInit f fd ∧ fd.defaults = .none)
    (m_F_table : ∃ (f : Addr) (fd : FuncData), Meth K CF "table" f ∧ C8.Fun K "table" "Fewest.table" sTable f fd ∧ fd.defaults = .none)
    (m_F_told : ∃ (f : Addr) (fd : FuncData), Meth K CF "told" f ∧ C8.Fun K "told" "Fewest.told" sTold f fd ∧ fd.defaults = .none)
    (m_S_thrower : ∃ (f : Addr) (fd : FuncData), Meth K CS "thrower" f ∧ C8.Fun K "thrower" "State.thrower" sThrower f fd ∧ fd.defaults = .none)
    (m_S_with_thrower : ∃ (f : Addr) (fd : FuncData), Meth K CS "with_thrower" f ∧ C8.Fun K "with_thrower" "State.with_thrower" sWith f fd ∧ fd.defaults = .none)
    (m_S_going_on : ∃ (f : Addr) (fd : FuncData), Meth K CS "going_on" f ∧ C8.Fun K "going_on" "State.going_on" sGoing f fd ∧ fd.defaults = .none)
    (m_S_won : ∃ (f : Addr) (fd : FuncData), Meth K CS "won" f ∧ C8.Fun K "won" "State.won" sWon f fd ∧ fd.defaults = .none)
    (m_S_next_visit : ∃ (f : Addr) (fd : FuncData), Meth K CS "next_visit" f ∧ C8.Fun K "next_visit" "State.next_visit" sNext f fd ∧ fd.defaults = .none)
    (m_B_start : ∃ (f : Addr) (fd : FuncData), Meth K CB "start" f ∧ C8.Fun K "start" "Board.start" sStart f fd ∧ fd.defaults = .none)
    (m_B_here : ∃ (f : Addr) (fd : FuncData), Meth K CB "here" f ∧ C8.Fun K "here" "Board.here" sHere f fd ∧ fd.defaults = .none)
    (m_B_throw : ∃ (f : Addr) (fd : FuncData), Meth K CB "throw" f ∧ C8.Fun K "throw" "Board.throw" sThrow f fd ∧ fd.defaults = .none)
    (m_B_back : ∃ (f : Addr) (fd : FuncData), Meth K CB "back" f ∧ C8.Fun K "back" "Board.back" sBack f fd ∧ fd.defaults = .none)
    (m_B_player : ∃ (f : Addr) (fd : FuncData), Meth K CB "player" f ∧ C8.Fun K "player" "Board.player" sPlayer f fd ∧ fd.defaults = .none)
    (m_B_turn_told : ∃ (f : Addr) (fd : FuncData), Meth K CB "turn_told" f ∧ C8.Fun K "turn_told" "Board.turn_told" sTurn f fd ∧ fd.defaults = .none)
    (m_B_fewest_told : ∃ (f : Addr) (fd : FuncData), Meth K CB "fewest_told" f ∧ C8.Fun K "fewest_told" "Board.fewest_told" sFew f fd ∧ fd.defaults = .none)
    (m_B_answer : ∃ (f : Addr) (fd : FuncData), Meth K CB "answer" f ∧ C8.Fun K "answer" "Board.answer" sAnswer f fd ∧ fd.defaults = .none)
    : ∃ fd : FuncData, (∀ (s : Shared) (us : List Value), us.length = (["calls"] : List Str).length → BindsTo s fd ⟨us, []⟩ ((["calls"] : List Str).zip us)) ∧ ∀ base : Heap, K.In base → base.Ns mainGlobals mg → FnOk P w K mg base C8.CX0 9 fa fd ["calls"] (spAnswers K) := by
  have gF := PySem.W.mg_of X G aF
  have gR := PySem.W.mg_of X G aR
  have gP := PySem.W.mg_of X G aP
  have gS := PySem.W.mg_of X G aS
  have gB := PySem.W.mg_of X G aB
  obtain ⟨f_isDart, fd_isDart, D_isDart, n_isDart⟩ := d_isDart
  obtain ⟨f_worth, fd_worth, D_worth, n_worth⟩ := d_worth
  obtain ⟨f_allDarts, fd_allDarts, D_allDarts, n_allDarts⟩ := d_allDarts
  obtain ⟨f_mayEnd, fd_mayEnd, D_mayEnd, n_mayEnd⟩ := d_mayEnd
  obtain ⟨f_burst, fd_burst, D_burst, n_burst⟩ := d_burst
  obtain ⟨f_bestAt, fd_bestAt, D_bestAt, n_bestAt⟩ := d_bestAt
  obtain ⟨f_tableOf, fd_tableOf, D_tableOf, n_tableOf⟩ := d_tableOf
  obtain ⟨f_first, fd_first, D_first, n_first⟩ := d_first
  obtain ⟨f_thrown, fd_thrown, D_thrown, n_thrown⟩ := d_thrown
  obtain ⟨f_answers, fd_answers, D_answers, n_answers⟩ := d_answers
  obtain ⟨fi_F, fdi_F, Mk_F, I_F, ni_F⟩ := i_F
  obtain ⟨fi_R, fdi_R, Mk_R, I_R, ni_R⟩ := i_R
  obtain ⟨fi_P, fdi_P, Mk_P, I_P, ni_P⟩ := i_P
  obtain ⟨fi_S, fdi_S, Mk_S, I_S, ni_S⟩ := i_S
  obtain ⟨fi_B, fdi_B, Mk_B, I_B, ni_B⟩ := i_B
  obtain ⟨fm_F_table, fdm_F_table, Me_F_table, F_F_table, nm_F_table⟩ := m_F_table
  obtain ⟨fm_F_told, fdm_F_told, Me_F_told, F_F_told, nm_F_told⟩ := m_F_told
  obtain ⟨fm_S_thrower, fdm_S_thrower, Me_S_thrower, F_S_thrower, nm_S_thrower⟩ := m_S_thrower
  obtain ⟨fm_S_with_thrower, fdm_S_with_thrower, Me_S_with_thrower, F_S_with_thrower, nm_S_with_thrower⟩ := m_S_with_thrower
  obtain ⟨fm_S_going_on, fdm_S_going_on, Me_S_going_on, F_S_going_on, nm_S_going_on⟩ := m_S_going_on
  obtain ⟨fm_S_won, fdm_S_won, Me_S_won, F_S_won, nm_S_won⟩ := m_S_won
  obtain ⟨fm_S_next_visit, fdm_S_next_visit, Me_S_next_visit, F_S_next_visit, nm_S_next_visit⟩ := m_S_next_visit
  obtain ⟨fm_B_start, fdm_B_start, Me_B_start, F_B_start, nm_B_start⟩ := m_B_start
  obtain ⟨fm_B_here, fdm_B_here, Me_B_here, F_B_here, nm_B_here⟩ := m_B_here
  obtain ⟨fm_B_throw, fdm_B_throw, Me_B_throw, F_B_throw, nm_B_throw⟩ := m_B_throw
  obtain ⟨fm_B_back, fdm_B_back, Me_B_back, F_B_back, nm_B_back⟩ := m_B_back
  obtain ⟨fm_B_player, fdm_B_player, Me_B_player, F_B_player, nm_B_player⟩ := m_B_player
  obtain ⟨fm_B_turn_told, fdm_B_turn_told, Me_B_turn_told, F_B_turn_told, nm_B_turn_told⟩ := m_B_turn_told
  obtain ⟨fm_B_fewest_told, fdm_B_fewest_told, Me_B_fewest_told, F_B_fewest_told, nm_B_fewest_told⟩ := m_B_fewest_told
  obtain ⟨fm_B_answer, fdm_B_answer, Me_B_answer, F_B_answer, nm_B_answer⟩ := m_B_answer
  have e := hfa.symm.trans D_answers.mgf
  cases e
  refine ⟨fd_answers, ?_, fun base _ _ => ?_⟩
  · obtain ⟨oc, od, dV, kV, doc, pm, an, cdv, ct, osl, rfl, lk, hcd⟩ := D_answers.fn.ex
    have z : dV = .none := n_answers
    subst z
    exact fun s us hu => match us, hu with | [_], _ => .of_eq rfl
  · have c_isDart := ok_isDart (P := P) (w := w) (base := base) T D_isDart (bi_isDart D_isDart n_isDart)
    have c_worth := ok_worth (P := P) (w := w) (base := base) D_worth (bi_worth D_worth n_worth)
    have c_allDarts := ok_allDarts (P := P) (w := w) (base := base) T D_allDarts (bi_allDarts D_allDarts n_allDarts)
    have c_mayEnd := ok_mayEnd (P := P) (w := w) (base := base) T D_mayEnd (bi_mayEnd D_mayEnd n_mayEnd)
    have c_burst := ok_burst T D_burst (bi_burst D_burst n_burst) c_mayEnd
    have c_bestAt := ok_bestAt T D_bestAt (bi_bestAt D_bestAt n_bestAt) c_worth c_burst
    have c_tableOf := ok_tableOf T D_tableOf (bi_tableOf D_tableOf n_tableOf) c_allDarts c_bestAt
    have k_F := ok_fInit (P := P) (w := w) (base := base) T Mk_F gF I_F (bi_FInit I_F ni_F)
    have k_table := ok_table T Me_F_table F_F_table (bi_F_table F_F_table nm_F_table) c_tableOf
    have k_told := ok_told T Me_F_told F_F_told (bi_F_told F_F_told nm_F_told) k_table
    have k_R := ok_rInit (P := P) (w := w) (base := base) T Mk_R gR I_R (bi_RInit I_R ni_R)
    have k_P := ok_pInit (P := P) (w := w) (base := base) T Mk_P gP I_P (bi_PInit I_P ni_P)
    have k_S := ok_sInit (P := P) (w := w) (base := base) T Mk_S gS I_S (bi_SInit I_S ni_S)
    have k_thrower := ok_thrower (P := P) (w := w) (base := base) T Me_S_thrower F_S_thrower (bi_S_thrower F_S_thrower nm_S_thrower)
    have k_with := ok_with (P := P) (w := w) (base := base) T Me_S_with_thrower F_S_with_thrower (bi_S_with_thrower F_S_with_thrower nm_S_with_thrower)
    have k_going := ok_going T Me_S_going_on F_S_going_on (bi_S_going_on F_S_going_on nm_S_going_on) k_with k_S
    have k_won := ok_won T Me_S_won F_S_won (bi_S_won F_S_won nm_S_won) k_with k_S
    have k_next := ok_next T Me_S_next_visit F_S_next_visit (bi_S_next_visit F_S_next_visit nm_S_next_visit) k_with k_S
    have c_first := ok_first T D_first (bi_first D_first n_first) k_P k_S
    have c_thrown := ok_thrown T D_thrown (bi_thrown D_thrown n_thrown) c_worth c_burst k_P k_thrower k_going k_won k_next
    have k_B := ok_bInit (CP := CP) (CS := CS) T Mk_B gB I_B (bi_BInit I_B ni_B) k_R k_F
    have k_start := ok_start T Me_B_start F_B_start (bi_B_start F_B_start nm_B_start) k_R c_first
    have k_here := ok_here (P := P) (w := w) (base := base) T Me_B_here F_B_here (bi_B_here F_B_here nm_B_here)
    have k_throw := ok_throw T Me_B_throw F_B_throw (bi_B_throw F_B_throw nm_B_throw) c_isDart k_here c_thrown
    have k_back := ok_back (P := P) (w := w) (base := base) T Me_B_back F_B_back (bi_B_back F_B_back nm_B_back)
    have k_player := ok_player T Me_B_player F_B_player (bi_B_player F_B_player nm_B_player) k_here
    have k_turn := ok_turn T Me_B_turn_told F_B_turn_told (bi_B_turn_told F_B_turn_told nm_B_turn_told) k_here
    have k_few := ok_few T Me_B_fewest_told F_B_fewest_told (bi_B_fewest_told F_B_fewest_told nm_B_fewest_told) k_told
    have k_answer := ok_answer T Me_B_answer F_B_answer (bi_B_answer F_B_answer nm_B_answer) k_start k_throw k_back k_player k_turn k_few
    exact ok_answers T D_answers (bi_answers D_answers n_answers) k_B k_answer
theorem txt_of {K : PySem.W.Frag} {h : Heap} {mg : Str → Option Value} {CF CR CP CS CB : Addr} {vB vF : Value} (X : K.In h) (G : h.Ns mainGlobals mg)
    (clP : Cls K CP)
    (clS : Cls K CS)
    (clR : Cls K CR)
    (clB : Cls K CB)
    (clF : Cls K CF)
    (nP_score : PySem.W.findIn K (.ref CP) "score" = some none)
    (nP_has_opened : PySem.W.findIn K (.ref CP) "has_opened" = some none)
    (nP_darts : PySem.W.findIn K (.ref CP) "darts" = some none)
    (nS_players : PySem.W.findIn K (.ref CS) "players" = some none)
    (nS_turn : PySem.W.findIn K (.ref CS) "turn" = some none)
    (nS_left : PySem.W.findIn K (.ref CS) "left" = some none)
    (nS_began : PySem.W.findIn K (.ref CS) "began" = some none)
    (nS_is_over : PySem.W.findIn K (.ref CS) "is_over" = some none)
    (nR_opens : PySem.W.findIn K (.ref CR) "opens" = some none)
    (nR_ends : PySem.W.findIn K (.ref CR) "ends" = some none)
    (nB_rules : PySem.W.findIn K (.ref CB) "rules" = some none)
    (nB_states : PySem.W.findIn K (.ref CB) "states" = some none)
    (nB_fewest : PySem.W.findIn K (.ref CB) "fewest" = some none)
    (nF_tables : PySem.W.findIn K (.ref CF) "tables" = some none)
    (c_BULL : ∃ u, mg "BULL" = some u ∧ RelV (.int (25)) u)
    (c_MOST_FIELD : ∃ u, mg "MOST_FIELD" = some u ∧ RelV (.int (20)) u)
    (c_ANY_END : ∃ u, mg "ANY_END" = some u ∧ RelV (.int (0)) u)
    (c_DOUBLE_END : ∃ u, mg "DOUBLE_END" = some u ∧ RelV (.int (1)) u)
    (c_LAST_END : ∃ u, mg "LAST_END" = some u ∧ RelV (.int (2)) u)
    (c_MOST_SCORE : ∃ u, mg "MOST_SCORE" = some u ∧ RelV (.int (1001)) u)
    (c_VISIT : ∃ u, mg "VISIT" = some u ∧ RelV (.int (3)) u)
    (c_GOES_ON : ∃ u, mg "GOES_ON" = some u ∧ RelV (.int (0)) u)
    (c_VISIT_OVER : ∃ u, mg "VISIT_OVER" = some u ∧ RelV (.int (1)) u)
    (c_BURST : ∃ u, mg "BURST" = some u ∧ RelV (.int (2)) u)
    (c_WON : ∃ u, mg "WON" = some u ∧ RelV (.int (3)) u)
    (c_START : ∃ u, mg "START" = some u ∧ RelV (.int (0)) u)
    (c_DART : ∃ u, mg "DART" = some u ∧ RelV (.int (1)) u)
    (c_BACK : ∃ u, mg "BACK" = some u ∧ RelV (.int (2)) u)
    (c_PLAYER : ∃ u, mg "PLAYER" = some u ∧ RelV (.int (3)) u)
    (c_TURN : ∃ u, mg "TURN" = some u ∧ RelV (.int (4)) u)
    (c_WRONG : ∃ u, mg "WRONG" = some u ∧ RelV (.int (-22)) u)
    (c_IS_OVER : ∃ u, mg "IS_OVER" = some u ∧ RelV (.int (-16)) u)
    (c_TOO_MANY : ∃ u, mg "TOO_MANY" = some u ∧ RelV (.int (-28)) u)
    (c_NOT_THERE : ∃ u, mg "NOT_THERE" = some u ∧ RelV (.int (-2)) u)
    (c_NO_END : ∃ u, mg "NO_END" = some u ∧ RelV (.int (-33)) u)
    (c_DONE : ∃ u, mg "DONE" = some u ∧ RelV (.int (0)) u)
    (c_MOST_PLAYERS : ∃ u, mg "MOST_PLAYERS" = some u ∧ RelV (.int (4)) u)
    (c_LEAST_SCORE : ∃ u, mg "LEAST_SCORE" = some u ∧ RelV (.int (2)) u)
    (c_MOST_DARTS : ∃ u, mg "MOST_DARTS" = some u ∧ RelV (.int (1000)) u)
    (BES : ∃ a, mg "BESIDE" = some (.ref a) ∧ ∀ H, SqT K H a [.int 0, .int 0])
    (NUM : ∃ a, mg "NUMBERS" = some (.ref a) ∧ ∀ H, SqT K H a [.int 4, .int 2, .int 0, .int 1, .int 0, .int 2])
    (zlen : PySem.W.nsIn K mainGlobals "len" = some none)
    (zrange : PySem.W.nsIn K mainGlobals "range" = some none)
    (zdict : PySem.W.nsIn K mainGlobals "dict" = some none)
    (zint : PySem.W.nsIn K mainGlobals "int" = some none)
    (fBs : PySem.W.findIn K (.ref CB) "start" = some (some vB)) (fFt : PySem.W.findIn K (.ref CF) "told" = some (some vF))
    (sP : PySem.W.findIn K (.ref CP) "start" = some none)
    (sS : PySem.W.findIn K (.ref CS) "start" = some none)
    (sR : PySem.W.findIn K (.ref CR) "start" = some none)
    (sF : PySem.W.findIn K (.ref CF) "start" = some none)
    (tP : PySem.W.findIn K (.ref CP) "told" = some none)
    (tS : PySem.W.findIn K (.ref CS) "told" = some none)
    (tR : PySem.W.findIn K (.ref CR) "told" = some none)
    : Txt K mg CF CR CP CS CB := ⟨clP, clS, clR, clB, clF, nP_score, nP_has_opened, nP_darts, nS_players, nS_turn, nS_left, nS_began, nS_is_over, nR_opens, nR_ends, nB_rules, nB_states, nB_fewest, nF_tables, c_BULL, c_MOST_FIELD, c_ANY_END, c_DOUBLE_END, c_LAST_END, c_MOST_SCORE, c_VISIT, c_GOES_ON, c_VISIT_OVER, c_BURST, c_WON, c_START, c_DART, c_BACK, c_PLAYER, c_TURN, c_WRONG, c_IS_OVER, c_TOO_MANY, c_NOT_THERE, c_NO_END, c_DONE, c_MOST_PLAYERS, c_LEAST_SCORE, c_MOST_DARTS, BES, NUM, PySem.W.mg_none_of X G zlen, PySem.W.mg_none_of X G zrange, PySem.W.mg_none_of X G zdict, PySem.W.mg_none_of X G zint, ⟨cls_ne sP fBs, cls_ne tP fFt⟩, ⟨cls_ne sS fBs, cls_ne tS fFt⟩, ⟨cls_ne sR fBs, cls_ne tR fFt⟩, (cls_ne sF fBs).symm⟩
end Dl
open PySem PySem.W PyProof.Rows
set_option maxRecDepth 100000 in
set_option maxHeartbeats 16000000 in
theorem PySem.Challenge.cw_dartsleg_s01_answers_holds : PySem.Challenge.rw_dartsleg_s01_answers.Holds := by
  w_on; k_headS; (case hw => exact ⟨[.list [.int 0, .int 1, .int 2, .int 0, .int 0]], by decide +kernel, by decide +kernel⟩)
  k_fillS
  refine L2.walk_specK (r := PySem.Challenge.rw_dartsleg_s01_answers) (k := 9) (CX := C8.CX0) (ps := ["calls"]) (sp := Dl.spAnswers) (by decide +kernel) rfl rfl ⟨rfl, by decide, by decide⟩ (fun w h Y => PySem.W.kIn_of Y) ?F ?S (fun _ _ _ _ z => z)
  case F =>
    intro w mg fa h Y KX G hmg
    refine' Dl.all_of KX G hmg ?aF ?aR ?aP ?aS ?aB ?T ?d_isDart ?d_worth ?d_allDarts ?d_mayEnd ?d_burst ?d_bestAt ?d_tableOf ?d_first ?d_thrown ?d_answers ?i_F ?i_R ?i_P ?i_S ?i_B ?m_F_table ?m_F_told ?m_S_thrower ?m_S_with_thrower ?m_S_going_on ?m_S_won ?m_S_next_visit ?m_B_start ?m_B_here ?m_B_throw ?m_B_back ?m_B_player ?m_B_turn_told ?m_B_fewest_told ?m_B_answer
    (case aF => k_is)
    (case aR => k_is)
    (case aP => k_is)
    (case aS => k_is)
    (case aB => k_is)
    case T =>
      refine' Dl.txt_of KX G ?clP ?clS ?clR ?clB ?clF ?nP_score ?nP_has_opened ?nP_darts ?nS_players ?nS_turn ?nS_left ?nS_began ?nS_is_over ?nR_opens ?nR_ends ?nB_rules ?nB_states ?nB_fewest ?nF_tables ?c_BULL ?c_MOST_FIELD ?c_ANY_END ?c_DOUBLE_END ?c_LAST_END ?c_MOST_SCORE ?c_VISIT ?c_GOES_ON ?c_VISIT_OVER ?c_BURST ?c_WON ?c_START ?c_DART ?c_BACK ?c_PLAYER ?c_TURN ?c_WRONG ?c_IS_OVER ?c_TOO_MANY ?c_NOT_THERE ?c_NO_END ?c_DONE ?c_MOST_PLAYERS ?c_LEAST_SCORE ?c_MOST_DARTS ?BES ?NUM ?zlen ?zrange ?zdict ?zint ?fBs ?fFt ?sP ?sS ?sR ?sF ?tP ?tS ?tR
      (case clP => (refine' Dl.cls_mk ?pg ?hd ?po ?sa; (case pg => k_is); (case hd => k_is); (case po => k_is); (case sa => k_is)))
      (case clS => (refine' Dl.cls_mk ?pg ?hd ?po ?sa; (case pg => k_is); (case hd => k_is); (case po => k_is); (case sa => k_is)))
      (case clR => (refine' Dl.cls_mk ?pg ?hd ?po ?sa; (case pg => k_is); (case hd => k_is); (case po => k_is); (case sa => k_is)))
      (case clB => (refine' Dl.cls_mk ?pg ?hd ?po ?sa; (case pg => k_is); (case hd => k_is); (case po => k_is); (case sa => k_is)))
      (case clF => (refine' Dl.cls_mk ?pg ?hd ?po ?sa; (case pg => k_is); (case hd => k_is); (case po => k_is); (case sa => k_is)))
      (case nP_score => k_is)
      (case nP_has_opened => k_is)
      (case nP_darts => k_is)
      (case nS_players => k_is)
      (case nS_turn => k_is)
      (case nS_left => k_is)
      (case nS_began => k_is)
      (case nS_is_over => k_is)
      (case nR_opens => k_is)
      (case nR_ends => k_is)
      (case nB_rules => k_is)
      (case nB_states => k_is)
      (case nB_fewest => k_is)
      (case nF_tables => k_is)
      (case c_BULL => (refine' Dl.con_mk KX G ?a; (case a => k_is)))
      (case c_MOST_FIELD => (refine' Dl.con_mk KX G ?a; (case a => k_is)))
      (case c_ANY_END => (refine' Dl.con_mk KX G ?a; (case a => k_is)))
      (case c_DOUBLE_END => (refine' Dl.con_mk KX G ?a; (case a => k_is)))
      (case c_LAST_END => (refine' Dl.con_mk KX G ?a; (case a => k_is)))
      (case c_MOST_SCORE => (refine' Dl.con_mk KX G ?a; (case a => k_is)))
      (case c_VISIT => (refine' Dl.con_mk KX G ?a; (case a => k_is)))
      (case c_GOES_ON => (refine' Dl.con_mk KX G ?a; (case a => k_is)))
      (case c_VISIT_OVER => (refine' Dl.con_mk KX G ?a; (case a => k_is)))
      (case c_BURST => (refine' Dl.con_mk KX G ?a; (case a => k_is)))
      (case c_WON => (refine' Dl.con_mk KX G ?a; (case a => k_is)))
      (case c_START => (refine' Dl.con_mk KX G ?a; (case a => k_is)))
      (case c_DART => (refine' Dl.con_mk KX G ?a; (case a => k_is)))
      (case c_BACK => (refine' Dl.con_mk KX G ?a; (case a => k_is)))
      (case c_PLAYER => (refine' Dl.con_mk KX G ?a; (case a => k_is)))
      (case c_TURN => (refine' Dl.con_mk KX G ?a; (case a => k_is)))
      (case c_WRONG => (refine' Dl.con_mk KX G ?a; (case a => k_is)))
      (case c_IS_OVER => (refine' Dl.con_mk KX G ?a; (case a => k_is)))
      (case c_TOO_MANY => (refine' Dl.con_mk KX G ?a; (case a => k_is)))
      (case c_NOT_THERE => (refine' Dl.con_mk KX G ?a; (case a => k_is)))
      (case c_NO_END => (refine' Dl.con_mk KX G ?a; (case a => k_is)))
      (case c_DONE => (refine' Dl.con_mk KX G ?a; (case a => k_is)))
      (case c_MOST_PLAYERS => (refine' Dl.con_mk KX G ?a; (case a => k_is)))
      (case c_LEAST_SCORE => (refine' Dl.con_mk KX G ?a; (case a => k_is)))
      (case c_MOST_DARTS => (refine' Dl.con_mk KX G ?a; (case a => k_is)))
      (case BES => (refine' Dl.tup2_mk KX G ?a ?l; (case a => k_is); (case l => k_is)))
      (case NUM => (refine' Dl.tup6_mk KX G ?a ?l; (case a => k_is); (case l => k_is)))
      (case zlen => k_is)
      (case zrange => k_is)
      (case zdict => k_is)
      (case zint => k_is)
      (case fBs => k_is)
      (case fFt => k_is)
      (case sP => k_is)
      (case sS => k_is)
      (case sR => k_is)
      (case sF => k_is)
      (case tP => k_is)
      (case tS => k_is)
      (case tR => k_is)
    (case d_isDart => (refine' Dl.def_mk KX G ?a ?l ?c ?k; (case a => k_is); (case l => k_is); (case c => k_is); (case k => k_is)))
    (case d_worth => (refine' Dl.def_mk KX G ?a ?l ?c ?k; (case a => k_is); (case l => k_is); (case c => k_is); (case k => k_is)))
    (case d_allDarts => (refine' Dl.def_mk KX G ?a ?l ?c ?k; (case a => k_is); (case l => k_is); (case c => k_is); (case k => k_is)))
    (case d_mayEnd => (refine' Dl.def_mk KX G ?a ?l ?c ?k; (case a => k_is); (case l => k_is); (case c => k_is); (case k => k_is)))
    (case d_burst => (refine' Dl.def_mk KX G ?a ?l ?c ?k; (case a => k_is); (case l => k_is); (case c => k_is); (case k => k_is)))
    (case d_bestAt => (refine' Dl.def_mk KX G ?a ?l ?c ?k; (case a => k_is); (case l => k_is); (case c => k_is); (case k => k_is)))
    (case d_tableOf => (refine' Dl.def_mk KX G ?a ?l ?c ?k; (case a => k_is); (case l => k_is); (case c => k_is); (case k => k_is)))
    (case d_first => (refine' Dl.def_mk KX G ?a ?l ?c ?k; (case a => k_is); (case l => k_is); (case c => k_is); (case k => k_is)))
    (case d_thrown => (refine' Dl.def_mk KX G ?a ?l ?c ?k; (case a => k_is); (case l => k_is); (case c => k_is); (case k => k_is)))
    (case d_answers => (refine' Dl.def_mk KX G ?a ?l ?c ?k; (case a => k_is); (case l => k_is); (case c => k_is); (case k => k_is)))
    (case i_F => (refine' Dl.init_mk ?a ?i ?l ?c ?m ?k; (case a => k_is); (case i => k_is); (case l => k_is); (case c => k_is); (case m => k_is); (case k => k_is)))
    (case i_R => (refine' Dl.init_mk ?a ?i ?l ?c ?m ?k; (case a => k_is); (case i => k_is); (case l => k_is); (case c => k_is); (case m => k_is); (case k => k_is)))
    (case i_P => (refine' Dl.init_mk ?a ?i ?l ?c ?m ?k; (case a => k_is); (case i => k_is); (case l => k_is); (case c => k_is); (case m => k_is); (case k => k_is)))
    (case i_S => (refine' Dl.init_mk ?a ?i ?l ?c ?m ?k; (case a => k_is); (case i => k_is); (case l => k_is); (case c => k_is); (case m => k_is); (case k => k_is)))
    (case i_B => (refine' Dl.init_mk ?a ?i ?l ?c ?m ?k; (case a => k_is); (case i => k_is); (case l => k_is); (case c => k_is); (case m => k_is); (case k => k_is)))
    (case m_F_table => (refine' Dl.meth_mk ?a ?i ?l ?c ?k; (case a => k_is); (case i => k_is); (case l => k_is); (case c => k_is); (case k => k_is)))
    (case m_F_told => (refine' Dl.meth_mk ?a ?i ?l ?c ?k; (case a => k_is); (case i => k_is); (case l => k_is); (case c => k_is); (case k => k_is)))
    (case m_S_thrower => (refine' Dl.meth_mk ?a ?i ?l ?c ?k; (case a => k_is); (case i => k_is); (case l => k_is); (case c => k_is); (case k => k_is)))
    (case m_S_with_thrower => (refine' Dl.meth_mk ?a ?i ?l ?c ?k; (case a => k_is); (case i => k_is); (case l => k_is); (case c => k_is); (case k => k_is)))
    (case m_S_going_on => (refine' Dl.meth_mk ?a ?i ?l ?c ?k; (case a => k_is); (case i => k_is); (case l => k_is); (case c => k_is); (case k => k_is)))
    (case m_S_won => (refine' Dl.meth_mk ?a ?i ?l ?c ?k; (case a => k_is); (case i => k_is); (case l => k_is); (case c => k_is); (case k => k_is)))
    (case m_S_next_visit => (refine' Dl.meth_mk ?a ?i ?l ?c ?k; (case a => k_is); (case i => k_is); (case l => k_is); (case c => k_is); (case k => k_is)))
    (case m_B_start => (refine' Dl.meth_mk ?a ?i ?l ?c ?k; (case a => k_is); (case i => k_is); (case l => k_is); (case c => k_is); (case k => k_is)))
    (case m_B_here => (refine' Dl.meth_mk ?a ?i ?l ?c ?k; (case a => k_is); (case i => k_is); (case l => k_is); (case c => k_is); (case k => k_is)))
    (case m_B_throw => (refine' Dl.meth_mk ?a ?i ?l ?c ?k; (case a => k_is); (case i => k_is); (case l => k_is); (case c => k_is); (case k => k_is)))
    (case m_B_back => (refine' Dl.meth_mk ?a ?i ?l ?c ?k; (case a => k_is); (case i => k_is); (case l => k_is); (case c => k_is); (case k => k_is)))
    (case m_B_player => (refine' Dl.meth_mk ?a ?i ?l ?c ?k; (case a => k_is); (case i => k_is); (case l => k_is); (case c => k_is); (case k => k_is)))
    (case m_B_turn_told => (refine' Dl.meth_mk ?a ?i ?l ?c ?k; (case a => k_is); (case i => k_is); (case l => k_is); (case c => k_is); (case k => k_is)))
    (case m_B_fewest_told => (refine' Dl.meth_mk ?a ?i ?l ?c ?k; (case a => k_is); (case i => k_is); (case l => k_is); (case c => k_is); (case k => k_is)))
    (case m_B_answer => (refine' Dl.meth_mk ?a ?i ?l ?c ?k; (case a => k_is); (case i => k_is); (case l => k_is); (case c => k_is); (case k => k_is)))
  case S =>
    intro K H xs a hO hwi hask hx
    cases hx with
    | cons h1 h2 =>
      cases h2
      cases h1 with
      | lst hs ha =>
        have e := L2.ints_dw a.1 _ ha
        subst e
        have q : ((Codec.inLen 0 30000 a.1 && a.1.all (Codec.inInt 0 4294967295)) && true) = true := hwi
        rw [Bool.and_eq_true, Bool.and_eq_true] at q
        exact ⟨_, a.1, rfl, hs, hask, (Codec.inNat_iff.mp q.1.1).2, fun H' p hp => .lst (L2.SqL.of hp) (L2.dw_ints _)⟩
#print axioms PySem.Challenge.cw_dartsleg_s01_answers_holds
