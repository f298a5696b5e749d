import PyProof.Rows.All
import Wide.All
import OpenK.AllK
import Wide.FinOn
import HandS.ForMost
import HandS.Deep
import HandS.Flow
import HandS.Conv
import HandS.IsInst
import HandS.Style
import HandS.DictTup
import KE.KDictKeyed
import KE.SortData
import PyProof.ReprRoads
import PyProof.Transfer
import PySem.Challenge.RW_quiltward_k96_whole_shields_show_that_fe
import HandS.Walk
import HandS.Ends
import PyProof.ReprReads
import PyProof.ReprText
import PyProof.ReprLen
import PyProof.Rows.ReprOcc
set_option Elab.async false
set_option linter.all false
set_option maxRecDepth 100000
set_option maxHeartbeats 8000000
namespace Qw
section
variable {α β : Type}
/-! ### the fewest tests, over any items: a test is what it says of an item -/
def lo (o : Option Nat) (c : Nat) : Option Nat := match o with
  | none => some c
  | some m => if c < m then some c else some m
def sp (p : α → Bool) (g : List α) : Bool := !(g.filter p).isEmpty && !(g.filter fun x => !p x).isEmpty
def few (ps : List (α → Bool)) : Nat → List α → Nat
  | 0, _ => 0
  | n + 1, g => ((ps.foldl (fun o p => if sp p g then lo o (1 + max (few ps n (g.filter p)) (few ps n (g.filter fun x => !p x))) else o) none)).getD 0
/-- the fold's value -/
def costs (ps : List (α → Bool)) (n : Nat) (g : List α) : List Nat := (ps.filter fun p => sp p g).map fun p => 1 + max (few ps n (g.filter p)) (few ps n (g.filter fun x => !p x))
theorem foldl_costs (ps : List (α → Bool)) (n : Nat) (g : List α) : ∀ (qs : List (α → Bool)) (o : Option Nat),
    qs.foldl (fun o p => if sp p g then lo o (1 + max (few ps n (g.filter p)) (few ps n (g.filter fun x => !p x))) else o) o =
      ((qs.filter fun p => sp p g).map fun p => 1 + max (few ps n (g.filter p)) (few ps n (g.filter fun x => !p x))).foldl lo o
  | [], _ => rfl
  | q :: qs, o => by
    rw [List.foldl_cons, List.filter_cons]
    by_cases h : sp q g = true
    · rw [if_pos h, if_pos h, List.map_cons, List.foldl_cons]
      exact foldl_costs ps n g qs _
    · rw [if_neg h, if_neg h]
      exact foldl_costs ps n g qs _
theorem few_succ (ps : List (α → Bool)) (n : Nat) (g : List α) : few ps (n + 1) g = ((costs ps n g).foldl lo none).getD 0 := by
  show ((ps.foldl _ none)).getD 0 = _
  rw [foldl_costs ps n g ps none]
  rfl
theorem lo_some : ∀ (cs : List Nat) (m : Nat), ∃ k, cs.foldl lo (some m) = some k ∧ k ≤ m ∧ (∀ c ∈ cs, k ≤ c) ∧ (k = m ∨ k ∈ cs)
  | [], m => ⟨m, rfl, Nat.le_refl _, by simp, .inl rfl⟩
  | c :: cs, m => by
    rw [List.foldl_cons]
    by_cases h : c < m
    · obtain ⟨k, e, h1, h2, h3⟩ := lo_some cs c
      refine ⟨k, ?_, by omega, fun d hd => ?_, ?_⟩
      · show cs.foldl lo (if c < m then some c else some m) = _
        rw [if_pos h]; exact e
      · rcases List.mem_cons.mp hd with rfl | hd
        · exact h1
        · exact h2 d hd
      · rcases h3 with h3 | h3
        · exact .inr (List.mem_cons.mpr (.inl h3))
        · exact .inr (List.mem_cons.mpr (.inr h3))
    · obtain ⟨k, e, h1, h2, h3⟩ := lo_some cs m
      refine ⟨k, ?_, h1, fun d hd => ?_, ?_⟩
      · show cs.foldl lo (if c < m then some c else some m) = _
        rw [if_neg h]; exact e
      · rcases List.mem_cons.mp hd with rfl | hd
        · omega
        · exact h2 d hd
      · rcases h3 with h3 | h3
        · exact .inl h3
        · exact .inr (List.mem_cons.mpr (.inr h3))
/-- the least of some numbers; 0 if there are none -/
theorem lo_none (cs : List Nat) : (cs = [] ∧ cs.foldl lo none = none) ∨ ∃ k, cs.foldl lo none = some k ∧ k ∈ cs ∧ ∀ c ∈ cs, k ≤ c := by
  cases cs with
  | nil => exact .inl ⟨rfl, rfl⟩
  | cons c cs =>
    right
    obtain ⟨k, e, h1, h2, h3⟩ := lo_some cs c
    refine ⟨k, e, ?_, fun d hd => ?_⟩
    · rcases h3 with h3 | h3
      · exact List.mem_cons.mpr (.inl h3)
      · exact List.mem_cons.mpr (.inr h3)
    · rcases List.mem_cons.mp hd with rfl | hd
      · exact h1
      · exact h2 d hd
theorem sp_iff {p : α → Bool} {g : List α} : sp p g = true ↔ (∃ x ∈ g, p x = true) ∧ ∃ x ∈ g, p x = false := by
  unfold sp
  rw [Bool.and_eq_true]
  have nonempty_iff : ∀ (q : α → Bool), (!(g.filter q).isEmpty) = true ↔ ∃ x ∈ g, q x = true := by
    intro q
    rw [Bool.not_eq_true', List.isEmpty_eq_false_iff_exists_mem]
    constructor
    · rintro ⟨x, hx⟩
      exact ⟨x, List.mem_filter.mp hx⟩
    · rintro ⟨x, hx⟩
      exact ⟨x, List.mem_filter.mpr hx⟩
  rw [nonempty_iff p, nonempty_iff (fun x => !p x)]
  simp
theorem filter_lens (p : α → Bool) : ∀ g : List α, (g.filter p).length + (g.filter fun x => !p x).length = g.length
  | [] => rfl
  | x :: g => by
    have ih := filter_lens p g
    rw [List.filter_cons, List.filter_cons]
    cases h : p x <;> simp <;> omega
theorem sp_lens {p : α → Bool} {g : List α} (h : sp p g = true) : (g.filter p).length < g.length ∧ (g.filter fun x => !p x).length < g.length ∧ 2 ≤ g.length := by
  unfold sp at h
  rw [Bool.and_eq_true] at h
  have a : 0 < (g.filter p).length := by
    rw [List.length_pos_iff]; intro e; rw [e] at h; simp at h
  have b : 0 < (g.filter fun x => !p x).length := by
    rw [List.length_pos_iff]; intro e; rw [e] at h; simp at h
  have c := filter_lens p g
  omega
theorem costs_mem {ps : List (α → Bool)} {n : Nat} {g : List α} {c : Nat} : c ∈ costs ps n g ↔ ∃ p ∈ ps, sp p g = true ∧ c = 1 + max (few ps n (g.filter p)) (few ps n (g.filter fun x => !p x)) := by
  unfold costs
  rw [List.mem_map]
  constructor
  · rintro ⟨p, hp, rfl⟩
    rw [List.mem_filter] at hp
    exact ⟨p, hp.1, hp.2, rfl⟩
  · rintro ⟨p, hp, h, rfl⟩
    exact ⟨p, List.mem_filter.mpr ⟨hp, h⟩, rfl⟩
/-- more fuel than the length is no matter -/
theorem few_fuel (ps : List (α → Bool)) : ∀ (n m : Nat) (g : List α), g.length ≤ n → g.length ≤ m → few ps n g = few ps m g
  | 0, 0, _, _, _ => rfl
  | 0, m + 1, g, h, _ => by
    have : g = [] := List.length_eq_zero_iff.mp (Nat.le_zero.mp h)
    subst this
    rw [few_succ]
    have e : costs ps m ([] : List α) = [] := by
      rw [List.eq_nil_iff_forall_not_mem]
      intro c hc
      obtain ⟨p, _, hs, _⟩ := costs_mem.mp hc
      have := (sp_lens hs).2.2
      simp at this
    rw [e]; rfl
  | n + 1, 0, g, _, h => by
    have : g = [] := List.length_eq_zero_iff.mp (Nat.le_zero.mp h)
    subst this
    rw [few_succ]
    have e : costs ps n ([] : List α) = [] := by
      rw [List.eq_nil_iff_forall_not_mem]
      intro c hc
      obtain ⟨p, _, hs, _⟩ := costs_mem.mp hc
      have := (sp_lens hs).2.2
      simp at this
    rw [e]; rfl
  | n + 1, m + 1, g, hn, hm => by
    rw [few_succ, few_succ]
    have e : costs ps n g = costs ps m g := by
      unfold costs
      refine List.map_congr_left fun p hp => ?_
      have hs := sp_lens (List.mem_filter.mp hp).2
      rw [few_fuel ps n m _ (by omega) (by omega), few_fuel ps n m _ (by omega) (by omega)]
    rw [e]
/-- the fewest tests -/
def fw (ps : List (α → Bool)) (g : List α) : Nat := few ps g.length g
theorem fw_fuel {ps : List (α → Bool)} {n : Nat} {g : List α} (h : g.length ≤ n) : few ps n g = fw ps g := few_fuel ps _ _ g h (Nat.le_refl _)
def cs (ps : List (α → Bool)) (g : List α) : List Nat := (ps.filter fun p => sp p g).map fun p => 1 + max (fw ps (g.filter p)) (fw ps (g.filter fun x => !p x))
theorem fw_eq (ps : List (α → Bool)) (g : List α) : fw ps g = ((cs ps g).foldl lo none).getD 0 := by
  have e : few ps (g.length + 1) g = fw ps g := fw_fuel (Nat.le_succ _)
  rw [← e, few_succ]
  have : costs ps g.length g = cs ps g := by
    unfold costs cs
    refine List.map_congr_left fun p hp => ?_
    have hs := sp_lens (List.mem_filter.mp hp).2
    rw [fw_fuel (by omega), fw_fuel (by omega)]
  rw [this]
theorem cs_mem {ps : List (α → Bool)} {g : List α} {c : Nat} : c ∈ cs ps g ↔ ∃ p ∈ ps, sp p g = true ∧ c = 1 + max (fw ps (g.filter p)) (fw ps (g.filter fun x => !p x)) := by
  unfold cs
  rw [List.mem_map]
  constructor
  · rintro ⟨p, hp, rfl⟩
    rw [List.mem_filter] at hp
    exact ⟨p, hp.1, hp.2, rfl⟩
  · rintro ⟨p, hp, h, rfl⟩
    exact ⟨p, List.mem_filter.mpr ⟨hp, h⟩, rfl⟩
/-- either no test divides, or one is the best -/
theorem fw_cases (ps : List (α → Bool)) (g : List α) : ((∀ p ∈ ps, sp p g = false) ∧ fw ps g = 0) ∨
    ∃ p ∈ ps, sp p g = true ∧ fw ps g = 1 + max (fw ps (g.filter p)) (fw ps (g.filter fun x => !p x)) ∧ ∀ q ∈ ps, sp q g = true → fw ps g ≤ 1 + max (fw ps (g.filter q)) (fw ps (g.filter fun x => !q x)) := by
  rcases lo_none (cs ps g) with ⟨e, h⟩ | ⟨k, h, hk, hl⟩
  · left
    refine ⟨fun p hp => ?_, by rw [fw_eq, h]; rfl⟩
    cases hs : sp p g with
    | false => rfl
    | true =>
      have := cs_mem.mpr ⟨p, hp, hs, rfl⟩
      rw [e] at this; simp at this
  · right
    have e : fw ps g = k := by rw [fw_eq, h]; rfl
    obtain ⟨p, hp, hs, hc⟩ := cs_mem.mp hk
    exact ⟨p, hp, hs, e.trans hc, fun q hq hs' => by rw [e]; exact hl _ (cs_mem.mpr ⟨q, hq, hs', rfl⟩)⟩
theorem fw_small (ps : List (α → Bool)) {g : List α} (h : g.length ≤ 1) : fw ps g = 0 := by
  rcases fw_cases ps g with ⟨_, e⟩ | ⟨p, _, hs, _⟩
  · exact e
  · have := (sp_lens hs).2.2
    omega
theorem fw_pos {ps : List (α → Bool)} {g : List α} : 0 < fw ps g ↔ ∃ p ∈ ps, sp p g = true := by
  rcases fw_cases ps g with ⟨h, e⟩ | ⟨p, hp, hs, e, _⟩
  · rw [e]
    constructor
    · intro z; exact absurd z (Nat.lt_irrefl _)
    · rintro ⟨p, hp, hs⟩
      rw [h p hp] at hs; cases hs
  · rw [e]
    exact ⟨fun _ => ⟨p, hp, hs⟩, fun _ => by omega⟩
/-- the items may be named otherwise -/
theorem filter_map_of {p : β → Bool} {q : α → Bool} {f : α → β} : ∀ {g : List α}, (∀ x ∈ g, q x = p (f x)) → (g.map f).filter p = (g.filter q).map f
  | [], _ => rfl
  | x :: g, h => by
    have ih := filter_map_of (g := g) (p := p) (q := q) (f := f) fun y hy => h y (List.mem_cons_of_mem _ hy)
    rw [List.map_cons, List.filter_cons, List.filter_cons, ih, h x List.mem_cons_self]
    cases p (f x) <;> simp
theorem lo_congr {cs cs' : List Nat} (h : cs = cs') : (cs.foldl lo none).getD 0 = (cs'.foldl lo none).getD 0 := by rw [h]
theorem few_map (f : α → β) : ∀ (n : Nat) (ps : List (β → Bool)) (qs : List (α → Bool)) (g : List α), ps.length = qs.length → (∀ (i : Nat) (p : β → Bool) (q : α → Bool), ps[i]? = some p → qs[i]? = some q → ∀ x ∈ g, q x = p (f x)) → few ps n (g.map f) = few qs n g
  | 0, _, _, _, _, _ => rfl
  | n + 1, ps, qs, g, hl, h => by
    have key : ∀ (k : Nat) (ps' : List (β → Bool)) (qs' : List (α → Bool)), ps'.length = qs'.length → (∀ (i : Nat) (p : β → Bool) (q : α → Bool), ps'[i]? = some p → qs'[i]? = some q → ∀ x ∈ g, q x = p (f x)) → ∀ o,
        ps'.foldl (fun o p => if sp p (g.map f) then lo o (1 + max (few ps n ((g.map f).filter p)) (few ps n ((g.map f).filter fun x => !p x))) else o) o =
        qs'.foldl (fun o p => if sp p g then lo o (1 + max (few qs n (g.filter p)) (few qs n (g.filter fun x => !p x))) else o) o := by
      intro k ps'
      induction ps' with
      | nil =>
        intro qs' hl' _ o
        cases qs' with
        | nil => rfl
        | cons _ _ => simp at hl'
      | cons p ps' ih =>
        intro qs' hl' h' o
        cases qs' with
        | nil => simp at hl'
        | cons q qs' =>
          have hpq : ∀ x ∈ g, q x = p (f x) := h' 0 p q rfl rfl
          have e1 : (g.map f).filter p = (g.filter q).map f := filter_map_of hpq
          have e2 : (g.map f).filter (fun x => !p x) = (g.filter fun x => !q x).map f := filter_map_of fun x hx => by rw [hpq x hx]
          rw [List.foldl_cons, List.foldl_cons]
          have e3 : sp p (g.map f) = sp q g := by unfold sp; rw [e1, e2]; simp
          have e4 : few ps n ((g.map f).filter p) = few qs n (g.filter q) := by
            rw [e1]; exact few_map f n ps qs _ hl fun i p' q' a b x hx => h i p' q' a b x (List.mem_filter.mp hx).1
          have e5 : few ps n ((g.map f).filter fun x => !p x) = few qs n (g.filter fun x => !q x) := by
            rw [e2]; exact few_map f n ps qs _ hl fun i p' q' a b x hx => h i p' q' a b x (List.mem_filter.mp hx).1
          rw [e3, e4, e5]
          exact ih qs' (by simpa using hl') (fun i p' q' a b => h' (i + 1) p' q' (by simpa using a) (by simpa using b)) _
    show (List.foldl _ none ps).getD 0 = (List.foldl _ none qs).getD 0
    rw [key 0 ps qs hl h none]
theorem fw_map {f : α → β} {ps : List (β → Bool)} {qs : List (α → Bool)} {g : List α} (hl : ps.length = qs.length) (h : ∀ (i : Nat) (p : β → Bool) (q : α → Bool), ps[i]? = some p → qs[i]? = some q → ∀ x ∈ g, q x = p (f x)) : fw ps (g.map f) = fw qs g := by
  unfold fw
  rw [List.length_map]
  exact few_map f _ ps qs g hl h

/-! ### shields -/
variable [DecidableEq α]
def within (row g : List α) : Bool := row.all fun x => decide (x ∈ g)
def holds (rows : List (List α × Int)) (g : List α) (n : Int) : Bool := decide (n ≤ 0) || rows.any fun r => decide (n ≤ r.2) && within r.1 g
def rowOk (ps : List (α → Bool)) (rows : List (List α × Int)) (c : List α) (r : List α × Int) : Bool :=
  !(decide (r.2 < 1)) && within r.1 c && (ps.any fun p => sp p r.1) && ps.all fun p => !sp p r.1 || (holds rows (r.1.filter p) (r.2 - 1) || holds rows (r.1.filter fun x => !p x) (r.2 - 1))
def shieldOk (ps : List (α → Bool)) (c : List α) (rows : List (List α × Int)) : Bool := rows.all fun r => rowOk ps rows c r
theorem within_iff {row g : List α} : within row g = true ↔ ∀ x ∈ row, x ∈ g := by
  unfold within
  rw [List.all_eq_true]
  simp
theorem sp_mono {p : α → Bool} {row g : List α} (h : ∀ x ∈ row, x ∈ g) (hs : sp p row = true) : sp p g = true := by
  obtain ⟨⟨x, hx, px⟩, ⟨y, hy, py⟩⟩ := sp_iff.mp hs
  exact sp_iff.mpr ⟨⟨x, h x hx, px⟩, ⟨y, h y hy, py⟩⟩
/-- what a right shield tells is so, for the causes of a row or more of them -/
theorem shield_sound {ps : List (α → Bool)} {c : List α} {rows : List (List α × Int)} (ok : shieldOk ps c rows = true) :
    ∀ (n : Nat) (g : List α), g.length ≤ n → ∀ r ∈ rows, (∀ x ∈ r.1, x ∈ g) → r.2 ≤ (fw ps g : Int) := by
  intro n
  induction n with
  | zero =>
    intro g hg r hr hx
    have : g = [] := List.length_eq_zero_iff.mp (Nat.le_zero.mp hg)
    subst this
    have hrow := List.all_eq_true.mp ok r hr
    unfold rowOk at hrow
    simp only [Bool.and_eq_true] at hrow
    obtain ⟨p, hp, hs⟩ := List.any_eq_true.mp hrow.1.2
    obtain ⟨⟨x, hx', _⟩, _⟩ := sp_iff.mp hs
    exact absurd (hx x hx') (by simp)
  | succ n ih =>
    intro g hg r hr hx
    have hrow := List.all_eq_true.mp ok r hr
    unfold rowOk at hrow
    simp only [Bool.and_eq_true] at hrow
    obtain ⟨p, hp, hs⟩ := List.any_eq_true.mp hrow.1.2
    have hsg := sp_mono hx hs
    rcases fw_cases ps g with ⟨h0, _⟩ | ⟨q, hq, hqs, e, _⟩
    · rw [h0 p hp] at hsg; cases hsg
    · have hlen := sp_lens hqs
      rw [e]
      have hall := List.all_eq_true.mp hrow.2 q hq
      have mem1 : ∀ x, x ∈ g → q x = true → x ∈ g.filter q := fun x a b => List.mem_filter.mpr ⟨a, b⟩
      have mem2 : ∀ x, x ∈ g → q x = false → x ∈ g.filter fun x => !q x := fun x a b => List.mem_filter.mpr ⟨a, by simp [b]⟩
      have hold : ∀ (g1 g2 : List α), g2.length ≤ n → (∀ x ∈ g1, x ∈ g2) → holds rows g1 (r.2 - 1) = true → r.2 - 1 ≤ (fw ps g2 : Int) := by
        intro g1 g2 hl hm hh
        unfold holds at hh
        rw [Bool.or_eq_true] at hh
        rcases hh with hh | hh
        · have := of_decide_eq_true hh
          omega
        · obtain ⟨r', hr', h'⟩ := List.any_eq_true.mp hh
          rw [Bool.and_eq_true] at h'
          have a := of_decide_eq_true h'.1
          have b := ih g2 hl r' hr' fun x hx' => hm x (within_iff.mp h'.2 x hx')
          omega
      by_cases hqr : sp q r.1 = true
      · rw [hqr] at hall
        simp only [Bool.not_true, Bool.false_or, Bool.or_eq_true] at hall
        rcases hall with hh | hh
        · have := hold _ (g.filter q) (by omega) (fun x hx' => mem1 x (hx x (List.mem_filter.mp hx').1) (List.mem_filter.mp hx').2) hh
          omega
        · have := hold _ (g.filter fun x => !q x) (by omega) (fun x hx' => mem2 x (hx x (List.mem_filter.mp hx').1) (by simpa using (List.mem_filter.mp hx').2)) hh
          omega
      · have : (∀ x ∈ r.1, q x = true) ∨ ∀ x ∈ r.1, q x = false := by
          by_cases h1 : ∃ x ∈ r.1, q x = true
          · left
            intro x hx'
            cases hq' : q x with
            | true => rfl
            | false => exact absurd (sp_iff.mpr ⟨h1, x, hx', hq'⟩) hqr
          · right
            intro x hx'
            cases hq' : q x with
            | false => rfl
            | true => exact absurd ⟨x, hx', hq'⟩ h1
        rcases this with hh | hh
        · have := ih (g.filter q) (by omega) r hr fun x hx' => mem1 x (hx x hx') (hh x hx')
          omega
        · have := ih (g.filter fun x => !q x) (by omega) r hr fun x hx' => mem2 x (hx x hx') (hh x hx')
          omega
/-- rows made of groups with their fewest tests, each with the harder side of each of its tests, are a right shield -/
theorem shield_made {ps : List (α → Bool)} {c : List α} {gs : List (List α)} (hc : ∀ g ∈ gs, ∀ x ∈ g, x ∈ c) (hp : ∀ g ∈ gs, 0 < fw ps g)
    (hb : ∀ g ∈ gs, ∀ p ∈ ps, sp p g = true → (fw ps (g.filter fun x => !p x) ≤ fw ps (g.filter p) ∧ (0 < fw ps (g.filter p) → g.filter p ∈ gs)) ∨ (fw ps (g.filter p) < fw ps (g.filter fun x => !p x) ∧ (g.filter fun x => !p x) ∈ gs)) :
    shieldOk ps c (gs.map fun g => (g, (fw ps g : Int))) = true := by
  unfold shieldOk
  rw [List.all_eq_true]
  intro r hr
  obtain ⟨g, hg, rfl⟩ := List.mem_map.mp hr
  unfold rowOk
  have hpos := hp g hg
  have h1 : (!(decide (((fw ps g : Int)) < 1))) = true := by
    rw [Bool.not_eq_true', decide_eq_false_iff_not]; omega
  have h2 : within g c = true := within_iff.mpr (hc g hg)
  have h3 : (ps.any fun p => sp p g) = true := by
    obtain ⟨p, hp', hs⟩ := fw_pos.mp hpos
    exact List.any_eq_true.mpr ⟨p, hp', hs⟩
  simp only [h1, h2, h3, Bool.true_and]
  rw [List.all_eq_true]
  intro p hp'
  cases hs : sp p g with
  | false => rfl
  | true =>
    rcases fw_cases ps g with ⟨h0, _⟩ | ⟨_, _, _, _, hmin⟩
    · rw [h0 p hp'] at hs; cases hs
    · have hle := hmin p hp' hs
      have there : ∀ g', g' ∈ gs → (fw ps g : Int) - 1 ≤ (fw ps g' : Int) → holds (gs.map fun g => (g, (fw ps g : Int))) g' ((fw ps g : Int) - 1) = true := by
        intro g' hg' hn
        unfold holds
        rw [Bool.or_eq_true]
        right
        refine List.any_eq_true.mpr ⟨(g', (fw ps g' : Int)), List.mem_map.mpr ⟨g', hg', rfl⟩, ?_⟩
        rw [Bool.and_eq_true]
        exact ⟨decide_eq_true hn, within_iff.mpr fun _ z => z⟩
      have zero : ∀ g', (fw ps g : Int) - 1 ≤ 0 → holds (gs.map fun g => (g, (fw ps g : Int))) g' ((fw ps g : Int) - 1) = true := by
        intro g' hn
        unfold holds
        rw [decide_eq_true hn]; rfl
      rcases hb g hg p hp' hs with ⟨ha, hb'⟩ | ⟨ha, hb'⟩
      · by_cases hz : 0 < fw ps (g.filter p)
        · have := there _ (hb' hz) (by omega)
          rw [this]; rfl
        · have := zero (g.filter p) (by omega)
          rw [this]; rfl
      · have := there _ hb' (by omega)
        rw [this]; simp
/-! ### all choices out of a list -/
def subs : List α → List (List α)
  | [] => [[]]
  | x :: l => subs l ++ (subs l).map (x :: ·)
theorem subs_len : ∀ l : List α, (subs l).length = 2 ^ l.length
  | [] => rfl
  | x :: l => by
    rw [subs, List.length_append, List.length_map, subs_len l, List.length_cons, Nat.pow_succ]; omega
theorem subs_self : ∀ l : List α, l ∈ subs l
  | [] => by simp [subs]
  | x :: l => by
    rw [subs, List.mem_append]
    exact .inr (List.mem_map.mpr ⟨l, subs_self l, rfl⟩)
theorem subs_filter {p : α → Bool} : ∀ {l g : List α}, g ∈ subs l → g.filter p ∈ subs l
  | [], g, h => by
    rw [subs, List.mem_singleton] at h
    subst h
    simp [subs]
  | x :: l, g, h => by
    rw [subs, List.mem_append] at h ⊢
    rcases h with h | h
    · exact .inl (subs_filter h)
    · obtain ⟨g', hg', rfl⟩ := List.mem_map.mp h
      rw [List.filter_cons]
      split
      · exact .inr (List.mem_map.mpr ⟨_, subs_filter hg', rfl⟩)
      · exact .inl (subs_filter hg')
theorem subs_mem : ∀ {l g : List α}, g ∈ subs l → ∀ x ∈ g, x ∈ l
  | [], g, h, x, hx => by
    rw [subs, List.mem_singleton] at h
    subst h
    simp at hx
  | y :: l, g, h, x, hx => by
    rw [subs, List.mem_append] at h
    rcases h with h | h
    · exact List.mem_cons_of_mem _ (subs_mem h x hx)
    · obtain ⟨g', hg', rfl⟩ := List.mem_map.mp h
      rcases List.mem_cons.mp hx with rfl | hx
      · exact List.mem_cons_self
      · exact List.mem_cons_of_mem _ (subs_mem hg' x hx)
theorem subs_le : ∀ {l g : List α}, g ∈ subs l → g.length ≤ l.length
  | [], g, h => by
    rw [subs, List.mem_singleton] at h
    subst h
    simp
  | y :: l, g, h => by
    rw [subs, List.mem_append] at h
    rcases h with h | h
    · have := subs_le h; simp; omega
    · obtain ⟨g', hg', rfl⟩ := List.mem_map.mp h
      have := subs_le hg'; simp; omega
/-- how many of some groups are not met yet -/
def left (all met : List (List α)) : Nat := all.countP fun g => decide (g ∉ met)
theorem left_le (all met : List (List α)) : left all met ≤ all.length := List.countP_le_length
theorem left_add {all met : List (List α)} {g : List α} (h : g ∈ all) (hn : g ∉ met) : left all (met ++ [g]) < left all met := by
  unfold left
  induction all with
  | nil => simp at h
  | cons x all ih =>
    rw [List.countP_cons, List.countP_cons]
    have mono : ∀ l : List (List α), l.countP (fun g' => decide (g' ∉ met ++ [g])) ≤ l.countP fun g' => decide (g' ∉ met) := by
      intro l
      refine List.countP_mono_left fun y _ hy => ?_
      simp only [decide_eq_true_eq, List.mem_append, not_or] at hy ⊢
      exact hy.1
    by_cases e : x = g
    · subst e
      have h1 : decide (x ∉ met ++ [x]) = false := by simp
      have h2 : decide (x ∉ met) = true := decide_eq_true hn
      rw [h1, h2]
      have := mono all
      rw [if_neg Bool.false_ne_true, if_pos rfl]
      omega
    · have hg : g ∈ all := by
        rcases List.mem_cons.mp h with h | h
        · exact absurd h.symm e
        · exact h
      have := ih hg
      have e2 : decide (x ∉ met ++ [g]) = decide (x ∉ met) := by
        refine decide_eq_decide.mpr ?_
        rw [List.mem_append, not_or]
        simp [e]
      rw [e2]
      omega
end
end Qw
namespace Qw
open PySem L2
/-! ### heaps: what stands, stands, but for some places -/
def Keep (X : List Addr) (H H' : Hp) : Prop := ∀ b o, b ∉ X → H b = some o → H' b = some o
def Dom (X : List Addr) (H : Hp) : Prop := ∀ x ∈ X, H x ≠ none
section
variable {X Y : List Addr} {H H1 H2 : Hp} {p : Addr} {o : HO}
theorem Keep.refl : Keep X H H := fun _ _ _ e => e
theorem Keep.trans (a : Keep X H H1) (b : Keep X H1 H2) : Keep X H H2 := fun c o h e => b c o h (a c o h e)
theorem Keep.of (a : Same H H1) : Keep X H H1 := fun c o _ e => a c o e
theorem Keep.same (a : Keep [] H H1) : Same H H1 := fun c o e => a c o (by simp) e
theorem Keep.mono (a : Keep X H H1) (h : ∀ x ∈ X, x ∈ Y) : Keep Y H H1 := fun c o n e => a c o (fun z => n (h c z)) e
theorem Keep.new (n : H p = none) : Keep X H (upd H p o) := fun c _ _ e => by rw [upd_ne (ne_of_none e n)]; exact e
theorem Keep.put (h : p ∈ X) : Keep X H (upd H p o) := fun c _ n e => by rw [upd_ne (fun z => n (by rw [z]; exact h))]; exact e
theorem Keep.over (k : Keep X H H1) (n : H p = none) : Keep X H (upd H1 p o) := fun c u nc e => by rw [upd_ne (ne_of_none e n)]; exact k c u nc e
theorem Same.over (k : Same H H1) (n : H p = none) : Same H (upd H1 p o) := fun c u e => by rw [upd_ne (ne_of_none e n)]; exact k c u e
theorem Same.new (n : H p = none) : Same H (upd H p o) := fun c _ e => by rw [upd_ne (ne_of_none e n)]; exact e
theorem Keep.free (a : Keep X H H1) (d : Dom X H1) (n : H1 p = none) : H p = none := by
  cases q : H p with
  | none => rfl
  | some u =>
    by_cases hp : p ∈ X
    · exact absurd n (d p hp)
    · rw [a p u hp q] at n; cases n
theorem Dom.fresh (d : Dom X H) (n : H p = none) : p ∉ X := fun h => d p h n
theorem Dom.same (d : Dom X H) (a : Same H H1) : Dom X H1 := fun x hx z => d x hx (a.free z)
theorem Dom.nil : Dom [] H := fun _ h => absurd h (by simp)
theorem upd_some {b : Addr} {u : HO} (e : H b = some u) (n : H p = none) : upd H p o b = some u := by rw [upd_ne (ne_of_none e n)]; exact e
end
/-! ### data, off some places -/
mutual
inductive Da (X : List Addr) (H : Hp) : V → PyData → Prop
  | non : Da X H .non .none
  | bl (b : Bool) : Da X H (.bl b) (.bool b)
  | int (i : Int) : Da X H (.int i) (.int i)
  | str (x : Str) : Da X H (.str x) (.str x)
  | lst {a : Addr} {xs : List V} {ds : List PyData} : a ∉ X → H a = some (.lst xs) → DaAll X H xs ds → Da X H (.ref a) (.list ds)
  | tup {a : Addr} {xs : List V} {ds : List PyData} : a ∉ X → H a = some (.tup xs) → DaAll X H xs ds → Da X H (.ref a) (.tuple ds)
inductive DaAll (X : List Addr) (H : Hp) : List V → List PyData → Prop
  | nil : DaAll X H [] []
  | cons {v : V} {vs : List V} {d : PyData} {ds : List PyData} : Da X H v d → DaAll X H vs ds → DaAll X H (v :: vs) (d :: ds)
end
section
variable {X Y : List Addr} {H H' : Hp}
mutual
theorem Da.map (f : ∀ b o, b ∉ X → H b = some o → b ∉ Y ∧ H' b = some o) : ∀ (d : PyData) (v : V), Da X H v d → Da Y H' v d
  | .none, _, h => by cases h; exact .non
  | .bool b, _, h => by cases h; exact .bl b
  | .int b, _, h => by cases h; exact .int b
  | .str b, _, h => by cases h; exact .str b
  | .list ds, _, h => by
    cases h with
    | lst n e a => exact .lst (f _ _ n e).1 (f _ _ n e).2 (DaAll.map f ds _ a)
  | .tuple ds, _, h => by
    cases h with
    | tup n e a => exact .tup (f _ _ n e).1 (f _ _ n e).2 (DaAll.map f ds _ a)
  | .dict _, _, h => by cases h
theorem DaAll.map (f : ∀ b o, b ∉ X → H b = some o → b ∉ Y ∧ H' b = some o) : ∀ (ds : List PyData) (vs : List V), DaAll X H vs ds → DaAll Y H' vs ds
  | [], _, h => by cases h; exact .nil
  | d :: ds, _, h => by
    cases h with
    | cons a b => exact .cons (Da.map f d _ a) (DaAll.map f ds _ b)
end
mutual
theorem Da.dp {K : PySem.W.Frag} : ∀ (d : PyData) (v : V), Da X H v d → Dp K H v d
  | .none, _, h => by cases h; exact .non
  | .bool b, _, h => by cases h; exact .bl b
  | .int b, _, h => by cases h; exact .int b
  | .str b, _, h => by cases h; exact .str b
  | .list ds, _, h => by
    cases h with
    | lst n e a => exact .lst (SqL.of e) (DaAll.dp ds _ a)
  | .tuple ds, _, h => by
    cases h with
    | tup n e a => exact .tup (SqT.of e) (DaAll.dp ds _ a)
  | .dict _, _, h => by cases h
theorem DaAll.dp {K : PySem.W.Frag} : ∀ (ds : List PyData) (vs : List V), DaAll X H vs ds → DpAll K H vs ds
  | [], _, h => by cases h; exact .nil
  | d :: ds, _, h => by
    cases h with
    | cons a b => exact .cons (Da.dp d _ a) (DaAll.dp ds _ b)
end
variable {v : V} {d : PyData} {vs : List V} {ds : List PyData} {a : Addr}
theorem Da.D {K : PySem.W.Frag} (h : Da X H v d) : Dp K H v d := Da.dp d v h
theorem Da.keep (h : Da X H v d) (k : Keep X H H') : Da X H' v d := Da.map (fun b o n e => ⟨n, k b o n e⟩) d v h
theorem DaAll.keep (h : DaAll X H vs ds) (k : Keep X H H') : DaAll X H' vs ds := DaAll.map (fun b o n e => ⟨n, k b o n e⟩) ds vs h
theorem Da.same (h : Da X H v d) (k : Same H H') : Da X H' v d := h.keep (Keep.of k)
theorem DaAll.same (h : DaAll X H vs ds) (k : Same H H') : DaAll X H' vs ds := h.keep (Keep.of k)
theorem Da.less (h : Da X H v d) (s : ∀ x ∈ Y, x ∈ X) : Da Y H v d := Da.map (fun b o n e => ⟨fun z => n (s b z), e⟩) d v h
theorem DaAll.less (h : DaAll X H vs ds) (s : ∀ x ∈ Y, x ∈ X) : DaAll Y H vs ds := DaAll.map (fun b o n e => ⟨fun z => n (s b z), e⟩) ds vs h
theorem Da.tail (h : Da (a :: X) H v d) : Da X H v d := h.less fun _ z => List.mem_cons_of_mem _ z
theorem DaAll.tail (h : DaAll (a :: X) H vs ds) : DaAll X H vs ds := h.less fun _ z => List.mem_cons_of_mem _ z
theorem Da.off (h : Da X H v d) (n : H a = none) : Da (a :: X) H v d := Da.map (fun b o z e => ⟨fun q => (List.mem_cons.mp q).elim (fun q => ne_of_none e n q) z, e⟩) d v h
theorem DaAll.off (h : DaAll X H vs ds) (n : H a = none) : DaAll (a :: X) H vs ds := DaAll.map (fun b o z e => ⟨fun q => (List.mem_cons.mp q).elim (fun q => ne_of_none e n q) z, e⟩) ds vs h
/-- a new object at a -/
theorem Da.new {o : HO} (h : Da X H v d) (n : H a = none) : Da (a :: X) (upd H a o) v d := (h.off n).keep (Keep.new n)
theorem DaAll.new {o : HO} (h : DaAll X H vs ds) (n : H a = none) : DaAll (a :: X) (upd H a o) vs ds := (h.off n).keep (Keep.new n)
theorem Da.put {o : HO} (h : Da (a :: X) H v d) : Da (a :: X) (upd H a o) v d := h.keep (Keep.put List.mem_cons_self)
theorem DaAll.put {o : HO} (h : DaAll (a :: X) H vs ds) : DaAll (a :: X) (upd H a o) vs ds := h.keep (Keep.put List.mem_cons_self)
theorem Da.getL (h : Da X H v (.list ds)) : ∃ a xs, v = .ref a ∧ a ∉ X ∧ H a = some (.lst xs) ∧ DaAll X H xs ds := by
  cases h with
  | lst n e r => exact ⟨_, _, rfl, n, e, r⟩
theorem Da.getT (h : Da X H v (.tuple ds)) : ∃ a xs, v = .ref a ∧ a ∉ X ∧ H a = some (.tup xs) ∧ DaAll X H xs ds := by
  cases h with
  | tup n e r => exact ⟨_, _, rfl, n, e, r⟩
theorem Da.getI {i : Int} (h : Da X H v (.int i)) : v = .int i := by cases h; rfl
theorem Da.getS {x : Str} (h : Da X H v (.str x)) : v = .str x := by cases h; rfl
theorem DaAll.len (h : DaAll X H vs ds) : vs.length = ds.length := by
  induction ds generalizing vs with
  | nil => cases h; rfl
  | cons d ds ih => cases h with | cons a b => simp [ih b]
theorem DaAll.nil' (h : DaAll X H vs []) : vs = [] := by cases h; rfl
theorem DaAll.uncons (h : DaAll X H vs (d :: ds)) : ∃ v r, vs = v :: r ∧ Da X H v d ∧ DaAll X H r ds := by
  cases h with
  | cons a b => exact ⟨_, _, rfl, a, b⟩
theorem DaAll.get (h : DaAll X H vs ds) {i : Nat} (e : vs[i]? = some v) : ∃ d, ds[i]? = some d ∧ Da X H v d := by
  induction ds generalizing vs i with
  | nil => cases h; simp at e
  | cons d ds ih =>
    cases h with
    | cons a b =>
      cases i with
      | zero => simp at e; subst e; exact ⟨d, rfl, a⟩
      | succ i => exact ih b (by simpa using e)
theorem DaAll.get' (h : DaAll X H vs ds) {i : Nat} (e : ds[i]? = some d) : ∃ v, vs[i]? = some v ∧ Da X H v d := by
  induction ds generalizing vs i with
  | nil => simp at e
  | cons d ds ih =>
    cases h with
    | cons a b =>
      cases i with
      | zero => simp at e; subst e; exact ⟨_, rfl, a⟩
      | succ i => exact ih b (by simpa using e)
theorem DaAll.mem (h : DaAll X H vs ds) (m : v ∈ vs) : ∃ d ∈ ds, Da X H v d := by
  obtain ⟨i, hi, e⟩ := List.getElem_of_mem m
  obtain ⟨d, hd, q⟩ := h.get (i := i) (v := v) (by rw [List.getElem?_eq_getElem hi, e])
  exact ⟨d, List.mem_of_getElem? hd, q⟩
theorem DaAll.app {us : List V} {es : List PyData} (h : DaAll X H vs ds) (k : DaAll X H us es) : DaAll X H (vs ++ us) (ds ++ es) := by
  induction ds generalizing vs with
  | nil => cases h; exact k
  | cons d ds ih => cases h with | cons a b => exact .cons a (ih b)
theorem DaAll.one (h : Da X H v d) : DaAll X H [v] [d] := .cons h .nil
theorem DaAll.drop (h : DaAll X H vs ds) : ∀ n : Nat, DaAll X H (vs.drop n) (ds.drop n) := by
  induction ds generalizing vs with
  | nil => intro n; cases h; simpa using DaAll.nil
  | cons d ds ih =>
    intro n
    cases h with
    | cons a b =>
      cases n with
      | zero => exact .cons a b
      | succ n => exact ih b n
theorem DaAll.take (h : DaAll X H vs ds) : ∀ n : Nat, DaAll X H (vs.take n) (ds.take n) := by
  induction ds generalizing vs with
  | nil => intro n; cases h; simpa using DaAll.nil
  | cons d ds ih =>
    intro n
    cases h with
    | cons a b =>
      cases n with
      | zero => exact .nil
      | succ n => exact .cons a (ih b n)
theorem daInts (ns : List Int) : DaAll X H (ns.map V.int) (ns.map .int) := by
  induction ns with
  | nil => exact .nil
  | cons n ns ih => exact .cons (.int n) ih
theorem DaAll.ints {ns : List Int} (h : DaAll X H vs (ns.map .int)) : vs = ns.map V.int := by
  induction ns generalizing vs with
  | nil => cases h; rfl
  | cons n ns ih =>
    obtain ⟨v, r, rfl, a, b⟩ := DaAll.uncons h
    rw [a.getI, ih b]; rfl
/-- data with what they stand for -/
theorem DaAll.zip {β : Type} {enc : β → PyData} : ∀ {bs : List β} {vs : List V}, DaAll X H vs (bs.map enc) → ∃ zs : List (V × β), zs.map (·.1) = vs ∧ zs.map (·.2) = bs ∧ ∀ z ∈ zs, Da X H z.1 (enc z.2)
  | [], _, h => by cases h; exact ⟨[], rfl, rfl, by simp⟩
  | b :: bs, _, h => by
    cases h with
    | @cons v r _ _ a t =>
      obtain ⟨zs, e1, e2, e3⟩ := DaAll.zip t
      exact ⟨(v, b) :: zs, by simp [e1], by simp [e2], fun z hz => by
        rcases List.mem_cons.mp hz with rfl | hz
        · exact a
        · exact e3 z hz⟩
theorem DaAll.unzip {β : Type} {enc : β → PyData} : ∀ {zs : List (V × β)}, (∀ z ∈ zs, Da X H z.1 (enc z.2)) → DaAll X H (zs.map (·.1)) ((zs.map (·.2)).map enc)
  | [], _ => .nil
  | z :: zs, h => .cons (h z List.mem_cons_self) (DaAll.unzip fun y hy => h y (List.mem_cons_of_mem _ hy))
end
end Qw
namespace Qw
open PySem L2
section
variable {β γ : Type}
/-- a turn of a comprehension that changes nothing that stands: f tells what it makes of the item -/
def TurnR (g : TG) (tt : TT) (te : TE) (vs : List Nat) (σ : St) (H1 : Hp) (D : Addr) (f : β → Option γ) (Rel : Hp → V → γ → Prop) (x : V) (b : β) : Prop :=
  ∀ (H : Hp) (N : V → Hp → Prop) (M : Hp → Prop), Same H1 H → H D ≠ none → (∀ v c H', f b = some c → Same H H' → Rel H' v c → N v H') → (∀ H', f b = none → Same H H' → M H') →
    g x (wipe σ vs) H fun σ2 H2 => wipe σ2 vs = wipe σ vs ∧ tt σ2 H2 fun k H3 => if k = true then te σ2 H3 fun y H4 => N y H4 else M H3
def AccR (H1 : Hp) (D : Addr) (bs : List β) (f : β → Option γ) (Rel : Hp → V → γ → Prop) (i : Nat) (H : Hp) : Prop :=
  ∃ acc, H D = some (.lst acc) ∧ Same H1 H ∧ Paired (Rel H) acc ((bs.take i).filterMap f)
theorem filterMap_len {f : β → Option γ} : ∀ l : List β, (l.filterMap f).length ≤ l.length
  | [] => Nat.le_refl _
  | b :: l => by
    have ih := filterMap_len (f := f) l
    rw [List.filterMap_cons]
    split <;> simp <;> omega
theorem take_succ_of {bs : List β} {i : Nat} {b : β} (h : bs[i]? = some b) : bs.take (i + 1) = bs.take i ++ [b] := by
  rw [List.take_add_one, h]; rfl
variable {g : TG} {tt : TT} {te : TE} {vs : List Nat} {σ : St} {H1 : Hp} {D : Addr} {Qd : Hp → Prop} {f : β → Option γ} {Rel : Hp → V → γ → Prop}
theorem accR_0 {bs : List β} (hD : H1 D = none) : AccR H1 D bs f Rel 0 (upd H1 D (.lst [])) := ⟨[], upd_same, Same.new hD, .nil⟩
theorem accR_turn {bs : List β} {i : Nat} {x : V} {b : β} {H : Hp} (hD : H1 D = none) (hz : bs.length ≤ sizeLine) (st : ∀ H H' v c, Keep [D] H H' → Rel H v c → Rel H' v c) (hb : bs[i]? = some b) (t : TurnR g tt te vs σ H1 D f Rel x b)
    (p : AccR H1 D bs f Rel i H) : g x (wipe σ vs) H fun σ2 H2 => wipe σ2 vs = wipe σ vs ∧ tt σ2 H2 fun k H3 =>
      if k = true then te σ2 H3 fun y H4 => ∃ acc, H4 D = some (.lst acc) ∧ acc.length < sizeLine ∧ AccR H1 D bs f Rel (i + 1) (upd H4 D (.lst (acc ++ [y]))) else AccR H1 D bs f Rel (i + 1) H3 := by
  obtain ⟨acc, e, s1, pr⟩ := p
  have hi : i < bs.length := (List.getElem?_eq_some_iff.mp hb).1
  have hlen : acc.length < sizeLine := by
    have h1 := Paired.length pr
    have h2 := filterMap_len (f := f) (bs.take i)
    rw [List.length_take] at h2
    omega
  refine t H (fun y H4 => ∃ acc, H4 D = some (.lst acc) ∧ acc.length < sizeLine ∧ AccR H1 D bs f Rel (i + 1) (upd H4 D (.lst (acc ++ [y])))) _ s1 (by rw [e]; simp) (fun v c H' hf s2 r => ?_) fun H' hf s2 => ?_
  · refine ⟨acc, s2 _ _ e, hlen, acc ++ [v], upd_same, fun b' o hb' => ?_, ?_⟩
    · rw [upd_ne (ne_of_none hb' hD)]; exact s2 _ _ (s1 _ _ hb')
    · rw [take_succ_of hb, List.filterMap_append]
      have e1 : [b].filterMap f = [c] := by simp [hf]
      rw [e1]
      exact Paired.snoc (Paired.mapP pr fun v c q => st _ _ _ _ ((Keep.of s2).trans (Keep.put (by simp))) q) (st _ _ _ _ (Keep.put (by simp)) r)
  · refine ⟨acc, s2 _ _ e, s1.trans s2, ?_⟩
    rw [take_succ_of hb, List.filterMap_append]
    have e1 : [b].filterMap f = [] := by simp [hf]
    rw [e1, List.append_nil]
    exact Paired.mapP pr fun v c q => st _ _ _ _ (Keep.of s2) q
theorem accR_end {bs : List β} {n : Nat} {H : Hp} (hn : bs.length = n) (hd : ∀ H acc, Same H1 H → H D = some (.lst acc) → Paired (Rel H) acc (bs.filterMap f) → Qd H) (p : AccR H1 D bs f Rel n H) : Qd H := by
  obtain ⟨acc, e, s1, pr⟩ := p
  rw [List.take_of_length_le (by omega)] at pr
  exact hd H acc s1 e pr
theorem zip_at {zs : List (V × β)} {i : Nat} {x : V} (h : (zs.map (·.1))[i]? = some x) : ∃ z, zs[i]? = some z ∧ z.1 = x ∧ (zs.map (·.2))[i]? = some z.2 := by
  rw [List.getElem?_map] at h
  cases e : zs[i]? with
  | none => rw [e] at h; cases h
  | some z =>
    rw [e] at h
    exact ⟨z, rfl, Option.some.inj h, by rw [List.getElem?_map, e]; rfl⟩
/-- over a list -/
theorem lcL {K : PySem.W.Frag} {a : Addr} {zs : List (V × β)} (f : β → Option γ) (Rel : Hp → V → γ → Prop) (hD : H1 D = none) (hl : SqL K H1 a (zs.map (·.1))) (hz : zs.length ≤ sizeLine)
    (st : ∀ H H' v c, Keep [D] H H' → Rel H v c → Rel H' v c) (t : ∀ (i : Nat) (z : V × β), zs[i]? = some z → TurnR g tt te vs σ H1 D f Rel z.1 z.2) (hd : ∀ H acc, Same H1 H → H D = some (.lst acc) → Paired (Rel H) acc ((zs.map (·.2)).filterMap f) → Qd H) :
    ∃ W : Nat → Nat → Hp → Prop, (∃ m, W 0 m (upd H1 D (.lst []))) ∧ ∀ i m H, W i m H →
      ((Itl K a).stop i H ∧ Qd H) ∨ ((Itl K a).go i H ∧ ∃ Nx : Hp → Prop, (∀ H', Nx H' → ∃ m', m' < m ∧ W (i + 1) m' H') ∧ ∀ x H', (Itl K a).yld i H x H' → g x (wipe σ vs) H' fun σ2 H2 => wipe σ2 vs = wipe σ vs ∧ tt σ2 H2 fun b H3 =>
        if b = true then te σ2 H3 fun y H4 => ∃ acc, H4 D = some (.lst acc) ∧ acc.length < sizeLine ∧ Nx (upd H4 D (.lst (acc ++ [y]))) else Nx H3) := by
  refine lc_list (K := K) (a := a) (xs := zs.map (·.1)) (AccR H1 D (zs.map (·.2)) f Rel) (accR_0 hD) (fun i H _ p => ?_) (fun i x H hx p => ?_) fun H p => ?_
  · obtain ⟨acc, e, s1, pr⟩ := p
    exact s1.seq hl
  · obtain ⟨z, h1, rfl, h3⟩ := zip_at hx
    exact accR_turn hD (by rw [List.length_map]; exact hz) st h3 (t i z h1) p
  · exact accR_end (n := (zs.map (·.1)).length) (by simp) hd p
/-- over a tuple -/
theorem lcT {K : PySem.W.Frag} {a : Addr} {zs : List (V × β)} (f : β → Option γ) (Rel : Hp → V → γ → Prop) (hD : H1 D = none) (hl : H1 a = some (.tup (zs.map (·.1)))) (hz : zs.length ≤ sizeLine)
    (st : ∀ H H' v c, Keep [D] H H' → Rel H v c → Rel H' v c) (t : ∀ (i : Nat) (z : V × β), zs[i]? = some z → TurnR g tt te vs σ H1 D f Rel z.1 z.2) (hd : ∀ H acc, Same H1 H → H D = some (.lst acc) → Paired (Rel H) acc ((zs.map (·.2)).filterMap f) → Qd H) :
    ∃ W : Nat → Nat → Hp → Prop, (∃ m, W 0 m (upd H1 D (.lst []))) ∧ ∀ i m H, W i m H →
      ((Itt K a).stop i H ∧ Qd H) ∨ ((Itt K a).go i H ∧ ∃ Nx : Hp → Prop, (∀ H', Nx H' → ∃ m', m' < m ∧ W (i + 1) m' H') ∧ ∀ x H', (Itt K a).yld i H x H' → g x (wipe σ vs) H' fun σ2 H2 => wipe σ2 vs = wipe σ vs ∧ tt σ2 H2 fun b H3 =>
        if b = true then te σ2 H3 fun y H4 => ∃ acc, H4 D = some (.lst acc) ∧ acc.length < sizeLine ∧ Nx (upd H4 D (.lst (acc ++ [y]))) else Nx H3) := by
  refine lc_tup (K := K) (a := a) (xs := zs.map (·.1)) (AccR H1 D (zs.map (·.2)) f Rel) (accR_0 hD) (fun i H _ p => ?_) (fun i x H hx p => ?_) fun H p => ?_
  · obtain ⟨acc, e, s1, pr⟩ := p
    exact SqT.of (s1 _ _ hl)
  · obtain ⟨z, h1, rfl, h3⟩ := zip_at hx
    exact accR_turn hD (by rw [List.length_map]; exact hz) st h3 (t i z h1) p
  · exact accR_end (n := (zs.map (·.1)).length) (by simp) hd p
/-- over a range that begins at 0 -/
theorem lcR {n : Nat} {m : Nat} (hm : n = m) (f : Nat → Option γ) (Rel : Hp → V → γ → Prop) (hD : H1 D = none) (hz : n ≤ sizeLine)
    (st : ∀ H H' v c, Keep [D] H H' → Rel H v c → Rel H' v c) (t : ∀ i : Nat, i < n → TurnR g tt te vs σ H1 D f Rel (.int (i : Int)) i) (hd : ∀ H acc, Same H1 H → H D = some (.lst acc) → Paired (Rel H) acc ((List.range n).filterMap f) → Qd H) :
    ∃ W : Nat → Nat → Hp → Prop, (∃ m, W 0 m (upd H1 D (.lst []))) ∧ ∀ i m' H, W i m' H →
      ((Itr 0 m).stop i H ∧ Qd H) ∨ ((Itr 0 m).go i H ∧ ∃ Nx : Hp → Prop, (∀ H', Nx H' → ∃ k, k < m' ∧ W (i + 1) k H') ∧ ∀ x H', (Itr 0 m).yld i H x H' → g x (wipe σ vs) H' fun σ2 H2 => wipe σ2 vs = wipe σ vs ∧ tt σ2 H2 fun b H3 =>
        if b = true then te σ2 H3 fun y H4 => ∃ acc, H4 D = some (.lst acc) ∧ acc.length < sizeLine ∧ Nx (upd H4 D (.lst (acc ++ [y]))) else Nx H3) := by
  subst hm
  refine lc_range (lo := 0) (n := n) (AccR H1 D (List.range n) f Rel) (accR_0 hD) (fun i H hi p => ?_) fun H p => ?_
  · have hb : (List.range n)[i]? = some i := by simp [hi]
    have ht := t i hi
    rw [show ((0 : Int) + (i : Int)) = (i : Int) from by omega]
    exact accR_turn hD (by simpa using hz) st hb ht p
  · exact accR_end (n := n) (by simp) hd p
/-- what is made: values of their own; data -/
abbrev RelF (φ : γ → V) : Hp → V → γ → Prop := fun _ v c => v = φ c
abbrev RelD (X : List Addr) (enc : γ → PyData) : Hp → V → γ → Prop := fun H v c => Da X H v (enc c)
theorem relF_st {φ : γ → V} : ∀ (H H' : Hp) (v : V) (c : γ), Keep [D] H H' → RelF φ H v c → RelF φ H' v c := fun _ _ _ _ _ r => r
theorem relD_st {X : List Addr} {enc : γ → PyData} : ∀ (H H' : Hp) (v : V) (c : γ), Keep [D] H H' → RelD (D :: X) enc H v c → RelD (D :: X) enc H' v c := fun _ _ _ _ k r => r.keep (k.mono fun x hx => by simp at hx; simp [hx])
theorem relF_map {φ : γ → V} {H : Hp} {acc : List V} {cs : List γ} (p : Paired (RelF φ H) acc cs) : acc = cs.map φ := by
  induction p with
  | nil => rfl
  | cons h _ ih => rw [List.map_cons, ← ih, h]
theorem relD_all {X : List Addr} {enc : γ → PyData} {H : Hp} {acc : List V} {cs : List γ} (p : Paired (RelD X enc H) acc cs) : DaAll X H acc (cs.map enc) := by
  induction p with
  | nil => exact .nil
  | cons h _ ih => exact .cons h ih
theorem perm_lift {α δ : Type} {φ : α → δ} {l l' : List δ} (h : l'.Perm l) : ∀ zs : List α, zs.map φ = l → ∃ zs' : List α, zs'.map φ = l' ∧ zs'.Perm zs := by
  induction h with
  | nil => intro zs e; exact ⟨[], rfl, by rw [List.map_eq_nil_iff.mp e]⟩
  | cons x _ ih =>
    intro zs e
    cases zs with
    | nil => cases e
    | cons z zs =>
      rw [List.map_cons] at e
      injection e with e1 e2
      obtain ⟨zs', e3, p⟩ := ih zs e2
      exact ⟨z :: zs', by rw [List.map_cons, e1, e3], p.cons z⟩
  | swap x y l =>
    intro zs e
    match zs, e with
    | z :: y' :: zs, e =>
      rw [List.map_cons, List.map_cons] at e
      injection e with e1 e2
      injection e2 with e2 e3
      exact ⟨y' :: z :: zs, by rw [List.map_cons, List.map_cons, e1, e2, e3], .swap _ _ _⟩
  | trans _ _ ih1 ih2 =>
    intro zs e
    obtain ⟨z1, e1, p1⟩ := ih2 zs e
    obtain ⟨z2, e2, p2⟩ := ih1 z1 e1
    exact ⟨z2, e2, p2.trans p1⟩
theorem DaAll.perm {X : List Addr} {H : Hp} {enc : β → PyData} {bs : List β} {us us' : List V} (h : DaAll X H us (bs.map enc)) (p : us'.Perm us) : ∃ bs' : List β, bs'.Perm bs ∧ DaAll X H us' (bs'.map enc) := by
  obtain ⟨zs, e1, e2, hz⟩ := h.zip
  obtain ⟨zs', e3, q⟩ := perm_lift p zs e1
  refine ⟨zs'.map (·.2), by rw [← e2]; exact q.map _, ?_⟩
  rw [← e3]
  exact DaAll.unzip fun z hz' => hz z (q.mem_iff.mp hz')
theorem DaAll.memB {X : List Addr} {H : Hp} {enc : β → PyData} {bs : List β} {us : List V} {v : V} (h : DaAll X H us (bs.map enc)) (m : v ∈ us) : ∃ b ∈ bs, Da X H v (enc b) := by
  obtain ⟨d, hd, q⟩ := h.mem m
  obtain ⟨b, hb, rfl⟩ := List.mem_map.mp hd
  exact ⟨b, hb, q⟩
theorem DaAll.lenB {X : List Addr} {H : Hp} {enc : β → PyData} {bs : List β} {us : List V} (h : DaAll X H us (bs.map enc)) : us.length = bs.length := by
  have := h.len
  rwa [List.length_map] at this
/-- keeping items as they are -/
def keepIf (p : β → Bool) : V × β → Option (V × β) := fun z => if p z.2 = true then some z else none
theorem keepIf_map (p : β → Bool) : ∀ zs : List (V × β), (zs.filterMap (keepIf p)) = zs.filter fun z => p z.2
  | [] => rfl
  | z :: zs => by
    rw [List.filterMap_cons, List.filter_cons, keepIf_map p zs]
    unfold keepIf
    cases p z.2 <;> simp
theorem filter_snd (p : β → Bool) : ∀ zs : List (V × β), (zs.filter fun z => p z.2).map (·.2) = (zs.map (·.2)).filter p
  | [] => rfl
  | z :: zs => by
    rw [List.filter_cons, List.map_cons, List.filter_cons]
    cases p z.2 <;> simp [filter_snd p zs]
theorem someIf_map (p : β → Bool) (φ : β → γ) : ∀ bs : List β, bs.filterMap (fun b => if p b = true then some (φ b) else none) = (bs.filter p).map φ
  | [] => rfl
  | b :: bs => by
    rw [List.filterMap_cons, List.filter_cons, someIf_map p φ bs]
    cases p b <;> simp
theorem all_map (φ : β → γ) : ∀ bs : List β, bs.filterMap (fun b => some (φ b)) = bs.map φ
  | [] => rfl
  | b :: bs => by rw [List.filterMap_cons, List.map_cons, all_map φ bs]
end
/-! ### data that are told apart -/
structure Enc {β : Type} [DecidableEq β] (enc : β → PyData) (n : Nat) : Prop where
  eqv : ∀ a b, PyData.eqv (enc a) (enc b) = decide (a = b)
  lay : ∀ a, (enc a).canLay0 = true
  dep : ∀ a, (enc a).depth ≤ n
section
variable {β γ : Type} [DecidableEq β] [DecidableEq γ] {enc : β → PyData} {enc' : γ → PyData} {n m : Nat}
def encL {β : Type} (enc : β → PyData) (bs : List β) : PyData := .list (bs.map enc)
theorem Enc.eqvAll (h : Enc enc n) : ∀ as bs : List β, PyData.eqvAll (as.map enc) (bs.map enc) = decide (as = bs)
  | [], [] => by simp [PyData.eqvAll]
  | [], _ :: _ => by simp [PyData.eqvAll]
  | _ :: _, [] => by simp [PyData.eqvAll]
  | a :: as, b :: bs => by
    rw [List.map_cons, List.map_cons, PyData.eqvAll, h.eqv, Enc.eqvAll h as bs]
    by_cases h1 : a = b <;> by_cases h2 : as = bs <;> simp [h1, h2]
theorem Enc.layAll (h : Enc enc n) : ∀ as : List β, PyData.canLayAll0 (as.map enc) = true
  | [] => by simp [PyData.canLayAll0]
  | a :: as => by simp [PyData.canLayAll0, h.lay a, Enc.layAll h as]
theorem Enc.depAll (h : Enc enc n) : ∀ as : List β, PyData.depthAll (as.map enc) ≤ n
  | [] => by simp [PyData.depthAll]
  | a :: as => by
    have h1 := Enc.depAll h as
    have h2 := h.dep a
    simp only [List.map_cons, PyData.depthAll]
    omega
theorem Enc.list (h : Enc enc n) : Enc (encL enc) (n + 1) := by
  refine ⟨fun a b => ?_, fun a => ?_, fun a => ?_⟩
  · unfold encL; rw [PyData.eqv]; exact h.eqvAll a b
  · unfold encL; rw [PyData.canLay0]; exact h.layAll a
  · unfold encL
    have := h.depAll a
    simp only [PyData.depth]; omega
theorem Enc.shaped (h : Enc enc n) (hn : n ≤ 64) (a : β) : SeqAt.shaped (enc a) = true := by
  show ((enc a).canLay0 && decide ((enc a).depth ≤ 64)) = true
  rw [h.lay a, decide_eq_true (Nat.le_trans (h.dep a) hn)]; rfl
theorem Enc.any (h : Enc enc n) (a : β) (bs : List β) : ((bs.map enc).any fun z => PyData.eqv z (enc a)) = decide (a ∈ bs) := by
  induction bs with
  | nil => simp
  | cons b bs ih =>
    rw [List.map_cons, List.any_cons, ih, h.eqv]
    by_cases h1 : b = a <;> by_cases h2 : a ∈ bs <;> simp [h1, h2, eq_comm]
    all_goals (try (intro z; exact absurd z.symm h1))
end
theorem decide_any {p : Prop} (i j : Decidable p) : @decide p i = @decide p j := by congr
/-- x in l, x not in l, over data that are told apart -/
theorem inD_of {β : Type} [DecidableEq β] {a : β} {bs : List β} [inst : Decidable (a ∈ bs)] {enc : β → PyData} {n : Nat} (E : Enc enc n) (hn : n + 1 ≤ 64) {K : PySem.W.Frag} {X Y : List Addr} {H : Hp} {x y : V} {Q : VK} (hx : Da X H x (enc a)) (hy : Da Y H y (encL enc bs))
    (q : Q (.bl (decide (a ∈ bs))) H) : rInD K x y H Q := by
  refine ⟨_, _, hx.D, hy.D, E.shaped (by omega) a, E.list.shaped hn bs, ?_⟩
  rw [E.any, decide_any _ inst]
  exact q
theorem notInD_of {β : Type} [DecidableEq β] {a : β} {bs : List β} [inst : Decidable (a ∈ bs)] {enc : β → PyData} {n : Nat} (E : Enc enc n) (hn : n + 1 ≤ 64) {K : PySem.W.Frag} {X Y : List Addr} {H : Hp} {x y : V} {Q : VK} (hx : Da X H x (enc a)) (hy : Da Y H y (encL enc bs))
    (q : Q (.bl (!decide (a ∈ bs))) H) : rNotInD K x y H Q := by
  refine ⟨_, _, hx.D, hy.D, E.shaped (by omega) a, E.list.shaped hn bs, ?_⟩
  rw [E.any, decide_any _ inst]
  exact q
end Qw
namespace Qw
open PySem L2
/-! ### sorted(xs) of data: a new list of the same items -/
theorem dpAll_len {K : PySem.W.Frag} {H : Hp} : ∀ {ds : List PyData} {vs : List V}, DpAll K H vs ds → vs.length = ds.length
  | [], _, h => by cases h; rfl
  | d :: ds, _, h => by cases h with | cons a b => simp [dpAll_len b]
theorem sort_pairs {X : Cx} {pins : List (Addr × Obj)} {σ : St} {H : Hp} {s : Shared} (I : Inv X pins σ H s) : ∀ (ds : List PyData) (vs : List V) (us : List Value), DpAll X.K H vs ds → Vals vs us →
    ∃ bs : List (V × PyData), bs.map (·.1) = vs ∧ bs.map (·.2) = ds ∧ PySem.W.EachIs (fun v (b : V × PyData) => RelV b.1 v) us bs ∧ PySem.W.EachIs (fun v (b : V × PyData) => ∃ as, Reads s.heap v b.2 as) us bs
  | [], _, _, h, r => by
    cases h
    cases r
    exact ⟨[], rfl, rfl, .nil, .nil⟩
  | d :: ds, _, _, h, r => by
    cases h with
    | cons a b =>
      cases r with
      | cons r1 r2 =>
        obtain ⟨bs, e1, e2, g1, g2⟩ := sort_pairs I ds _ _ b r2
        exact ⟨(_, d) :: bs, by simp [e1], by simp [e2], .cons r1 g1, .cons (Dp.reads I d _ _ a r1) g2⟩
theorem vals_each {us : List Value} {bs : List (V × PyData)} (h : PySem.W.EachIs (fun v (b : V × PyData) => RelV b.1 v) us bs) : Vals (bs.map (·.1)) us := by
  induction h with
  | nil => exact .nil
  | cons a _ ih => exact .cons a ih
def rSortD (K : PySem.W.Frag) : List V → Hp → VK → Prop := fun xs H Q => ∃ (a : Addr) (vs : List V) (ds : List PyData), xs = [.ref a] ∧ H a = some (.lst vs) ∧ DpAll K H vs ds ∧ PySem.W.AllAlike ds ∧ PySem.W.Sortable ds ∧ (∀ d ∈ ds, d.depth ≤ 40) ∧
  ∀ p vs', H p = none → vs'.Perm vs → Q (.ref p) (upd H p (.lst vs'))
theorem call_sortD {X : Cx} (hu : X.A.units + 64 < cLine) : CallR X (.builtin "sorted") (rSortD X.K) := by
  intro pins s σ H xs us Q I r q
  obtain ⟨a, vs, ds, rfl, ha, hd, hal, hk, hdep, q⟩ := q
  obtain ⟨u, rfl, ru⟩ := vals1 r
  cases ru
  obtain ⟨its, rv, pl, hlen⟩ := I.list (SqL.of (K := X.K) ha)
  obtain ⟨bs, e1, e2, g1, g2⟩ := sort_pairs I ds vs its hd rv
  have e3 : bs.map (fun b => b.2) = ds := e2
  have hbl : bs.length ≤ sizeLine := by rw [← e1, List.length_map] at hlen; exact hlen
  refine PySem.W.sorted_data (enc := fun b : V × PyData => b.2) pl.isList g1 g2 (by rw [e3]; exact hal) (by rw [e3]; exact hk) hbl (fun b hb => ?_) fun out hl g3 => ?_
  · have := hdep b.2 (by rw [← e2]; exact List.mem_map.mpr ⟨b, hb, rfl⟩)
    omega
  · have pm := List.mergeSort_perm bs (PySem.W.dataLe false fun b : V × PyData => b.2)
    have pm1 : ((bs.mergeSort (PySem.W.dataLe false fun b : V × PyData => b.2)).map (·.1)).Perm vs := by rw [← e1]; exact pm.map _
    have rv2 := vals_each g3
    obtain ⟨c, hc⟩ := PyProof.Rows.sortedAll_at s.heap its (List.toArray out)
    refine ⟨.ref (s.heap.objs.size + 1), upd H (s.heap.objs.size + 1) (.lst ((bs.mergeSort (PySem.W.dataLe false fun b : V × PyData => b.2)).map (·.1))), ?_, rfl, q _ _ (I.hok.fresh (Nat.le_succ _)) pm1⟩
    refine I.laid (t' := s.toks) (fun _ _ z => PyProof.Rows.sortedAll_old z) (Nat.le_succ _) ⟨?_, out, c, rv2, hc⟩
    rw [pm1.length_eq]; exact hlen
/-! ### repr of data, where no repr is running -/
def rReprD (K : PySem.W.Frag) : List V → Hp → VK → Prop := fun xs H Q => ∃ (a : Addr) (d : PyData), xs = [.ref a] ∧ Dp K H (.ref a) d ∧ d.showable = true ∧ d.hasDict = false ∧ d.depth ≤ 40 ∧ d.shown.length ≤ sizeLine ∧ Q (.str d.shown) H
theorem call_reprD {X : Cx} (hg : X.A.guards = some []) (hu : X.A.units + 64 < cLine) : CallR X (.builtin "repr") (rReprD X.K) := by
  intro pins s σ H xs us Q I r q
  obtain ⟨a, d, rfl, hd, h1, h2, h3, h4, q⟩ := q
  obtain ⟨u, rfl, ru⟩ := vals1 r
  cases ru
  obtain ⟨as, rd⟩ := Dp.reads I d _ (.ref a) hd rfl
  refine repr_of_reads' rd h1 (fun z => by rw [h2] at z; cases z) hg (by omega) (fun _ _ z => z) (fun h' t k hk => ?_) h4
  exact ⟨.str d.shown, H, I.kept (t' := k) hk, ⟨t, rfl⟩, q⟩
/-! ### dicts whose keys are nested tuples -/
mutual
theorem nested_of {h : Heap} : ∀ (k : NestedKey) (v : Value) (as : List Addr), Reads h v k.data as → NestedIs h k v
  | .none, _, _, r => by rw [NestedKey.data] at r; cases r; exact .none
  | .num i, _, _, r => by rw [NestedKey.data] at r; cases r; exact .int _ _
  | .text x, _, _, r => by rw [NestedKey.data] at r; cases r; exact .text _ _
  | .tup ks, _, _, r => by
    rw [NestedKey.data] at r
    cases r with
    | tuple h1 h2 h3 h4 => exact .tup h1 h2 h3 (nested_all ks _ _ h4)
theorem nested_all {h : Heap} : ∀ (ks : List NestedKey) (vs : List Value) (as : List Addr), ReadsAll h vs (NestedKey.datas ks) as → NestedAll h ks vs
  | [], _, _, r => by rw [NestedKey.datas] at r; cases r; exact .nil
  | k :: ks, _, _, r => by
    rw [NestedKey.datas] at r
    cases r with
    | cons a b => exact .cons (nested_of k _ _ a) (nested_all ks _ _ b)
end
abbrev NEnt := NestedKey × Addr × V
def NRel : List NEnt → List (NestedKey × Addr × Value) → Prop := Paired fun p q => p.1 = q.1 ∧ p.2.1 = q.2.1 ∧ RelV p.2.2 q.2.2
/-- at d: a dict with these keys (each at its address) and values -/
def DN (P : Program) (w : World) (d : Addr) (es : List NEnt) : HO := .ext fun h => es.length ≤ sizeLine ∧ (d == sysModules) = false ∧ ∃ xs, NRel es xs ∧
  ∃ o ts ep, h.get? d = some o ∧ o.ExactDict ∧ o.data = .dict ts ep ∧ ts.toList = xs.map (entryOfKey (nestedKind P w)) ∧ (xs.map (·.1)).Nodup
/-- its keys are data that stand -/
def KeysOk (K : PySem.W.Frag) (H : Hp) (es : List NEnt) : Prop := ∀ e ∈ es, Dp K H (.ref e.2.1) e.1.data ∧ e.1.depth ≤ 8
def atN (es : List NEnt) (k : NestedKey) : Option V := (es.find? fun e => decide (e.1 = k)).map (·.2.2)
def putN (es : List NEnt) (k : NestedKey) (a : Addr) (v : V) : List NEnt :=
  if es.any (fun e => decide (e.1 = k)) then es.map fun e => if e.1 = k then (e.1, e.2.1, v) else e else es ++ [(k, a, v)]
theorem putN_len (es : List NEnt) (k : NestedKey) (a : Addr) (v : V) : (putN es k a v).length ≤ es.length + 1 := by
  unfold putN
  split <;> simp
theorem putN_mem {es : List NEnt} {k : NestedKey} {a : Addr} {v : V} {e : NEnt} (h : e ∈ putN es k a v) : e ∈ es ∨ (e.1 = k ∧ e.2.2 = v ∧ (e.2.1 = a ∨ ∃ u, (k, e.2.1, u) ∈ es)) := by
  unfold putN at h
  split at h
  · obtain ⟨f, hf, rfl⟩ := List.mem_map.mp h
    by_cases hk : f.1 = k
    · rw [if_pos hk]
      refine .inr ⟨hk, rfl, .inr ⟨f.2.2, ?_⟩⟩
      rw [← hk]; exact hf
    · rw [if_neg hk]; exact .inl hf
  · rcases List.mem_append.mp h with h | h
    · exact .inl h
    · rw [List.mem_singleton] at h
      subst h
      exact .inr ⟨rfl, rfl, .inl rfl⟩
theorem putN_has {es : List NEnt} {k : NestedKey} {a : Addr} {v : V} {j : NestedKey} (h : j = k ∨ j ∈ es.map (·.1)) : j ∈ (putN es k a v).map (·.1) := by
  unfold putN
  split
  · rename_i hany
    obtain ⟨f, hf, hk⟩ := List.any_eq_true.mp hany
    have hk := of_decide_eq_true hk
    have key : (es.map fun e => if e.1 = k then (e.1, e.2.1, v) else e).map (·.1) = es.map (·.1) := by
      rw [List.map_map]
      refine List.map_congr_left fun e _ => ?_
      show (if e.1 = k then (e.1, e.2.1, v) else e).1 = e.1
      split <;> rfl
    rw [key]
    rcases h with rfl | h
    · rw [← hk]; exact List.mem_map.mpr ⟨f, hf, rfl⟩
    · exact h
  · rw [List.map_append, List.mem_append]
    rcases h with rfl | h
    · exact .inr (by simp)
    · exact .inl h
theorem atN_some {es : List NEnt} {k : NestedKey} (h : k ∈ es.map (·.1)) : ∃ v a, atN es k = some v ∧ (k, a, v) ∈ es := by
  unfold atN
  cases e : es.find? (fun e => decide (e.1 = k)) with
  | none =>
    obtain ⟨f, hf, hk⟩ := List.mem_map.mp h
    have := List.find?_eq_none.mp e f hf
    simp [hk] at this
  | some f =>
    have h1 := List.find?_some e
    have h2 := List.mem_of_find?_eq_some e
    have h3 : f.1 = k := of_decide_eq_true h1
    exact ⟨f.2.2, f.2.1, rfl, by rw [← h3]; exact h2⟩
theorem nrel_at {es : List NEnt} {xs : List (NestedKey × Addr × Value)} (r : NRel es xs) (k : NestedKey) : RelO (atN es k) ((atKey xs k).map (·.2)) := by
  unfold NRel at r
  unfold atN atKey
  induction r with
  | nil => exact True.intro
  | @cons p q ps qs h _ ih =>
    obtain ⟨h1, h2, h3⟩ := h
    by_cases hk : p.1 = k
    · have hq : q.1 = k := h1 ▸ hk
      simp only [List.find?_cons, hk, hq, decide_true, Option.map_some]
      exact h3
    · have hq : ¬ q.1 = k := fun z => hk (h1.trans z)
      simp only [List.find?_cons, hk, hq, decide_false]
      exact ih
theorem nrel_any {es : List NEnt} {xs : List (NestedKey × Addr × Value)} (r : NRel es xs) (k : NestedKey) : es.any (fun e => decide (e.1 = k)) = xs.any fun x => decide (x.1 = k) := by
  unfold NRel at r
  induction r with
  | nil => rfl
  | @cons p q ps qs h _ ih =>
    rw [List.any_cons, List.any_cons, ih, h.1]
theorem nrel_put {es : List NEnt} {xs : List (NestedKey × Addr × Value)} (r : NRel es xs) (k : NestedKey) (a : Addr) {v : V} {u : Value} (rv : RelV v u) : NRel (putN es k a v) (storedH xs k a u) := by
  have ha := nrel_any r k
  have rep : NRel (es.map fun e => if e.1 = k then (e.1, e.2.1, v) else e) (xs.map (putAt k u)) := by
    unfold NRel at r ⊢
    clear ha
    induction r with
    | nil => exact .nil
    | @cons p q ps qs h _ ih =>
      refine .cons ?_ ih
      obtain ⟨h1, h2, h3⟩ := h
      unfold putAt
      dsimp only
      by_cases hk : p.1 = k
      · have hq : q.1 = k := h1 ▸ hk
        rw [if_pos hk, if_pos hq]
        exact ⟨h1, h2, rv⟩
      · have hq : ¬ q.1 = k := fun z => hk (h1.trans z)
        rw [if_neg hk, if_neg hq]
        exact ⟨h1, h2, h3⟩
  have e1 : storedH xs k a u = if xs.any (fun x => decide (x.1 = k)) then xs.map (putAt k u) else xs ++ [(k, a, u)] := by
    unfold storedH
    by_cases hc : (atKey xs k).isSome = true
    · rw [if_pos hc]
      have : xs.any (fun x => decide (x.1 = k)) = true := by
        unfold atKey at hc
        rw [Option.isSome_map, List.find?_isSome] at hc
        obtain ⟨x, hx, hk⟩ := hc
        exact List.any_eq_true.mpr ⟨x, hx, hk⟩
      rw [if_pos this]
    · rw [if_neg hc]
      have : ¬ xs.any (fun x => decide (x.1 = k)) = true := by
        intro z
        obtain ⟨x, hx, hk⟩ := List.any_eq_true.mp z
        refine hc ?_
        unfold atKey
        rw [Option.isSome_map, List.find?_isSome]
        exact ⟨x, hx, hk⟩
      rw [if_neg this]
  rw [e1]
  unfold putN
  rw [ha]
  split
  · exact rep
  · unfold NRel at r ⊢
    exact Paired.snoc r ⟨rfl, rfl, rv⟩
section
variable {X : Cx} {pins : List (Addr × Obj)} {σ : St} {H : Hp} {s : Shared} {d : Addr} {es : List NEnt}
theorem dn_is (I : Inv X pins σ H s) (e : H d = some (DN X.prog X.w d es)) (ok : KeysOk X.K H es) : es.length ≤ sizeLine ∧ (d == sysModules) = false ∧ ∃ xs, NRel es xs ∧ s.heap.DictOfH (nestedKind X.prog X.w) d xs := by
  obtain ⟨⟨z, y, xs, r, o, ts, ep, h1, h2, h3, h4, h5⟩, _, _⟩ := (show ObjOk X.prog X.w H s.heap d (DN X.prog X.w d es) from I.hok d _ e)
  refine ⟨z, y, xs, r, o, ts, ep, h1, h2, h3, h4, fun x hx => ?_, h5⟩
  have all : ∀ {l : List NEnt} {m : List (NestedKey × Addr × Value)}, NRel l m → (∀ e ∈ l, e ∈ es) → ∀ x ∈ m, ∃ e ∈ es, e.1 = x.1 ∧ e.2.1 = x.2.1 := by
    intro l m q
    unfold NRel at q
    induction q with
    | nil => intro _ x hx; exact nomatch hx
    | @cons p q ps qs hq _ ih =>
      intro hs x hx
      rcases List.mem_cons.mp hx with rfl | hx
      · exact ⟨p, hs p List.mem_cons_self, hq.1, hq.2.1⟩
      · exact ih (fun e he => hs e (List.mem_cons_of_mem _ he)) x hx
  obtain ⟨e', he', k1, k2⟩ := all r (fun _ z => z) x hx
  obtain ⟨g1, g2⟩ := ok e' he'
  rw [k1] at g1 g2
  rw [k2] at g1
  obtain ⟨as, rd⟩ := Dp.reads I _ _ (.ref x.2.1) g1 rfl
  exact ⟨nested_of _ _ _ rd, g2⟩
theorem key_is (I : Inv X pins σ H s) {b : Addr} {k : NestedKey} (h : Dp X.K H (.ref b) k.data) (hd : k.depth ≤ 8) : (nestedKind X.prog X.w).is s.heap k b := by
  obtain ⟨as, rd⟩ := Dp.reads I _ _ (.ref b) h rfl
  exact ⟨nested_of _ _ _ rd, hd⟩
theorem nroom {A : Around} (hu : A.units + 64 < cLine) {P : Program} {w : World} : (nestedKind P w).room A.in1 := by
  show A.units + 1 + 8 < cLine
  omega
end
section
variable {X : Cx} {o i value : Expr} {td ty tv : TE} {pos pos' : Pos}
/-- {} -/
def tDNewN (P : Program) (w : World) : TE := fun _ H Q => ∀ p, H p = none → Q (.ref p) (upd H p (DN P w p []))
theorem pe_dnewN : PE X (.Dict [] [] pos) (tDNewN X.prog X.w) := by
  refine ⟨fun pins s σ H Q I h => wpAny_Dict_empty ?_⟩
  refine ⟨.ref s.heap.objs.size, _, I.laid (a := s.heap.objs.size) (o := DN X.prog X.w s.heap.objs.size []) (t' := s.toks) (fun _ _ q => Heap.get?_push_of_some _ q) (Nat.le_refl _) ?_, rfl, h _ (I.hok.fresh (Nat.le_refl _))⟩
  have hat : (s.heap.push { cls := .type "dict", data := .dict #[] }).get? s.heap.objs.size = some { cls := .type "dict", data := .dict #[] } := Heap.get?_push_size _ rfl
  refine ⟨⟨Nat.zero_le _, beq_eq_false_iff_ne.mpr (Ne.symm (Nat.ne_of_lt I.big)), [], .nil, _, #[], 0, hat, ⟨rfl, rfl, rfl⟩, rfl, rfl, List.nodup_nil⟩, ⟨_, hat⟩, ?_⟩
  rintro h1 h2 ⟨a, b, xs, r, ob, ts, ep, q, rst⟩ k
  exact ⟨a, b, xs, r, ob, ts, ep, k _ q, rst⟩
/-- d[y] -/
def tNGet (P : Program) (w : World) (K : PySem.W.Frag) (td ty : TE) : TE := fun σ H Q => td σ H fun x H1 => ty σ H1 fun y H2 => ∃ d b es k v, x = .ref d ∧ y = .ref b ∧ H2 d = some (DN P w d es) ∧ KeysOk K H2 es ∧ Dp K H2 (.ref b) k.data ∧ k.depth ≤ 8 ∧ atN es k = some v ∧ Q v H2
theorem pe_nget (hu : X.A.units + 64 < cLine) (ho : PE X o td) (hi : PE X i ty) (hs : NoSl i) : PE X (.Subscript o i pos) (tNGet X.prog X.w X.K td ty) := by
  refine ⟨fun pins s σ H Q I h => subD_of PySem.F.slot_dict_getitem.lookup hs ?_⟩
  refine thn (ho.run pins s σ H _ I h) fun u s1 ⟨x, H1, I1, rx, q1⟩ => ?_
  refine thn (hi.run pins s1 σ H1 _ I1 q1) fun iv s2 ⟨y, H2, I2, ry, d, b, es, k, v, ex, ey, e, ok, kd, dk, l, q2⟩ => ?_
  subst ex ey
  cases rx
  cases ry
  obtain ⟨z, hd, xs, rel, dd⟩ := dn_is I2 e ok
  obtain ⟨w', hw, rw'⟩ := RelO.some_of (v := v) (o := (atKey xs k).map (·.2)) (by rw [← l]; exact nrel_at rel k)
  obtain ⟨p, hp, hp2⟩ := Option.map_eq_some_iff.mp hw
  refine ⟨dd.typeIs, wpAny_getItem_heap (nroom hu) (key_is I2 kd dk) dd hp ?_⟩
  rw [hp2]
  exact ⟨v, H2, I2.tok _, rw', q2⟩
/-- d[y] = v -/
def sNPut (P : Program) (w : World) (K : PySem.W.Frag) (td ty tv : TE) : TS := fun D σ H => tv σ H fun v H1 => td σ H1 fun x H2 => ty σ H2 fun y H3 => ∃ d b es k, x = .ref d ∧ y = .ref b ∧ H3 d = some (DN P w d es) ∧ KeysOk K H3 es ∧ Dp K H3 (.ref b) k.data ∧ k.depth ≤ 8 ∧ es.length < sizeLine ∧
  D.nx σ (upd H3 d (DN P w d (putN es k b v)))
theorem ps_nput (hu : X.A.units + 64 < cLine) (ho : PE X o td) (hi : PE X i ty) (hv : PE X value tv) (hs : swapsWith value (some (.Subscript o i pos')) pos.line X.env = pure false) :
    PS X (.Assign [.Subscript o i pos'] value pos) (sNPut X.prog X.w X.K td ty tv) := by
  refine ⟨fun pins s σ H D I h => wpAny_Assign_Subscript ?_ hs⟩
  refine thn (hv.run pins s σ H _ I h) fun r s1 ⟨v, H1, I1, rv, q1⟩ => ?_
  refine thn (ho.run pins s1 σ H1 _ I1 q1) fun u s2 ⟨x, H2, I2, rx, q2⟩ => ?_
  refine thn (hi.run pins s2 σ H2 _ I2 q2) fun iv s3 ⟨y, H3, I3, ry, d, b, es, k, ex, ey, e, ok, kd, dk, hl, q3⟩ => ?_
  subst ex ey
  cases rx
  cases ry
  obtain ⟨z, hd, xs, rel, dd⟩ := dn_is I3 e ok
  have hz : xs.length ≤ sizeLine := by rw [← Paired.length rel]; exact z
  refine wpAny_setItem_heap (hsz := hz) (nroom hu) (key_is I3 kd dk) dd fun h' dd' sb => ⟨σ, _, ?_, q3⟩
  obtain ⟨ob, ts, ep, hq, g2, g3, g4, _, g5⟩ := dd'
  refine d_write I3 (by rw [e]; exact True.intro) sb ⟨ob, hq⟩ ⟨⟨?_, hd, _, nrel_put rel k b rv, ob, ts, ep, hq, g2, g3, g4, g5⟩, ⟨ob, hq⟩, ?_⟩
  · have := putN_len es k b v; omega
  · rintro h1 h2 ⟨a, b, xs, r, ob, ts, ep, q, rst⟩ k
    exact ⟨a, b, xs, r, ob, ts, ep, k _ q, rst⟩
/-- len(d) -/
theorem call_lenN : CallR X (.builtin "len") (fun xs H Q => ∃ d es, xs = [.ref d] ∧ H d = some (DN X.prog X.w d es) ∧ KeysOk X.K H es ∧ Q (.int es.length) H) := by
  intro pins s σ H xs us Q I r q
  obtain ⟨d, es, rfl, e, ok, q⟩ := q
  obtain ⟨u, rfl, ru⟩ := vals1 r
  cases ru
  obtain ⟨z, hd, xs, rel, dd⟩ := dn_is I e ok
  have hl : es.length = xs.length := Paired.length rel
  have km : s.heap.DictKeyed (nestedKind X.prog X.w) d (pairsH xs) := ⟨xs, dd, rfl⟩
  refine PyProof.Rows.call_len_slot (n := (pairsH xs).length) km.typeIs F.slot_dict_len (fun Q' hq => len_keyed hd km hq) (by omega) ?_ ?_
  · rw [pairsH_length, ← hl]
    rw [sizeLine_eq] at z
    omega
  · refine ⟨.int es.length, H, I.tok _, ⟨s.toks + 1, ?_⟩, q⟩
    rw [pairsH_length, hl]
/-- sorted(d): a new list of the keys -/
def rSortN (P : Program) (w : World) (K : PySem.W.Frag) : List V → Hp → VK → Prop := fun xs H Q => ∃ d es, xs = [.ref d] ∧ H d = some (DN P w d es) ∧ KeysOk K H es ∧ PySem.W.AllAlike (es.map fun e => e.1.data) ∧ PySem.W.Sortable (es.map fun e => e.1.data) ∧ (∀ e ∈ es, e.1.data.depth ≤ 40) ∧
  ∀ p (es' : List NEnt), H p = none → es'.Perm es → Q (.ref p) (upd H p (.lst (es'.map fun e => V.ref e.2.1)))
theorem refs_vals : ∀ {vs : List Value} {es : List NEnt}, PySem.W.EachIs (fun v (e : NEnt) => v = .ref e.2.1) vs es → Vals (es.map fun e => V.ref e.2.1) vs
  | _, _, .nil => .nil
  | _, _, .cons a t => .cons a (refs_vals t)
theorem refs_each : ∀ {es : List NEnt} {xs : List (NestedKey × Addr × Value)}, NRel es xs → PySem.W.EachIs (fun v (e : NEnt) => v = .ref e.2.1) (xs.map fun x => Value.ref x.2.1) es
  | _, _, .nil => .nil
  | _, _, .cons h t => .cons (by rw [h.2.1]) (refs_each t)
theorem refs_reads {pins : List (Addr × Obj)} {σ : St} {H : Hp} {s : Shared} (I : Inv X pins σ H s) : ∀ {vs : List Value} {es : List NEnt}, PySem.W.EachIs (fun v (e : NEnt) => v = .ref e.2.1) vs es → KeysOk X.K H es →
    PySem.W.EachIs (fun v (e : NEnt) => ∃ as, Reads s.heap v e.1.data as) vs es
  | _, _, .nil, _ => .nil
  | _, _, .cons a t, k => .cons (by
      obtain ⟨as, r⟩ := Dp.reads I _ _ (.ref _) (k _ List.mem_cons_self).1 rfl
      exact ⟨as, by rw [a]; exact r⟩) (refs_reads I t fun e he => k e (List.mem_cons_of_mem _ he))
theorem call_sortN (hc : X.calm = true) (hu : X.A.units + 64 < cLine) : CallR X (.builtin "sorted") (rSortN X.prog X.w X.K) := by
  intro pins s σ H xs us Q I r q
  obtain ⟨d, es, rfl, e, ok, hal, hk, hdep, q⟩ := q
  obtain ⟨u, rfl, ru⟩ := vals1 r
  cases ru
  obtain ⟨z, hd, ys, rel, o, ts, ep, ho, hx, hdt, he, his, hn⟩ := dn_is I e ok
  have l1 : ts.size = ys.length := size_of_entries he
  have l2 : es.length = ys.length := Paired.length rel
  refine PySem.Calls.call_function_entry PyProof.Rows.kind_sorted PyProof.Rows.plain_sorted PyProof.Rows.entry_sorted (PyProof.Rows.args_sorted1 _) ?_
  unfold Builtin.«sorted»
  refine wpAny_bind (m := checkCount "sorted" 1 1 _) (wpAny_pure ?_)
  refine wpAny_bind (PySem.W.kdu_collect (A := X.A.in1) (kdl_raw hd hx hdt) (I.ok.hd hc) ho (by omega) fun h1 tk acc kp it => ?_)
  have ea : acc.toList = ys.map fun x => Value.ref x.2.1 := by
    have hl : acc.toList.length = ys.length := by rw [Array.length_toList, it.1, l1]
    refine List.ext_getElem? fun j => ?_
    rw [List.getElem?_map]
    cases hj : acc.toList[j]? with
    | none =>
      rw [List.getElem?_eq_none (by have := List.getElem?_eq_none_iff.mp hj; omega)]
      rfl
    | some v =>
      obtain ⟨en, hen, hv⟩ := it.2 j v (by rw [← Array.getElem?_toList]; exact hj)
      have qe := entry_at he j
      rw [hen] at qe
      cases hb : ys[j]? with
      | none => rw [hb] at qe; exact nomatch qe
      | some b =>
        rw [hb] at qe
        have e2 := Option.some.inj qe
        rw [hv, e2]
        rfl
  have I1 : Inv X pins σ H { s with heap := h1, toks := tk } := I.kept kp
  have g1 := refs_each rel
  rw [← ea] at g1
  have g2 := refs_reads I1 g1 ok
  refine wpAny_bind (wpAny_newList ?_ (by rw [ea, List.length_map]; omega))
  have hoL : (h1.push (PyProof.Rows.seqObj "list" acc.toList.toArray 0)).get? h1.objs.size = some (PyProof.Rows.seqObj "list" acc.toList.toArray 0) := Heap.get?_push_size _ rfl
  have g3 : PySem.W.EachIs (fun v (e : NEnt) => ∃ as, Reads (h1.push (PyProof.Rows.seqObj "list" acc.toList.toArray 0)) v e.1.data as ∧ h1.objs.size ∉ as) acc.toList es := by
    refine g2.mono fun v e ⟨as, r⟩ => ⟨as, PyProof.Rows.Reads.keeps (fun _ _ q => Heap.get?_push_of_some _ q) r, fun hm => ?_⟩
    obtain ⟨ob, hob⟩ := PyProof.On.reads_mem_get r _ hm
    exact absurd (Heap.lt_size hob) (Nat.lt_irrefl _)
  refine wpAny_bind (wpAny_holding ?_)
  refine PySem.W.list_sort_data (s := { s with heap := h1.push (PyProof.Rows.seqObj "list" acc.toList.toArray 0), toks := tk }) (a := h1.objs.size) (n := 0) (vs := acc.toList) (bs := es) (enc := fun e : NEnt => e.1.data) hoL g1 g3 hal hk z (fun b hb => ?_) fun out hl g4 => ?_
  · have := hdep b hb
    show X.A.units + 1 + 1 + _ < cLine
    omega
  · have pm := List.mergeSort_perm es (PySem.W.dataLe false fun e : NEnt => e.1.data)
    have rv := refs_vals g4
    obtain ⟨c, hc'⟩ := PyProof.Rows.sortedHeap_at (vs := acc.toList) (out := List.toArray out) hoL
    refine wpAny_pure ⟨_, rfl, .ref h1.objs.size, upd H h1.objs.size (.lst ((es.mergeSort (PySem.W.dataLe false fun e : NEnt => e.1.data)).map fun e => V.ref e.2.1)), I1.laid (t' := tk) (fun b u e => ?_) (Nat.le_refl _) ?_, rfl, q _ _ (I1.hok.fresh (Nat.le_refl _)) pm⟩
    · have hb : b < h1.objs.size := Heap.lt_size e
      rw [PyProof.Rows.sortedHeap_old (Nat.ne_of_lt hb) (by rw [PyProof.Rows.size_push']; exact Nat.lt_succ_of_lt hb)]
      exact Heap.get?_push_of_some _ e
    · refine ⟨?_, out, c, rv, hc'⟩
      rw [List.length_map, pm.length_eq]
      exact z
end
end Qw
namespace Qw
open PySem L2
/-! ### the text by places -/
def top (i : Nat) : Stmt := PySem.Challenge.pw_quiltward_k96_whole_shields_show_that_fe.main.body.getD i (.Pass ⟨0, 0, 0, 0⟩)
theorem _root_.L2.Room.un65 {k : Nat} {A : Around} (r : Room k A) : A.units + 65 < cLine := by have := r.un; omega
/-- a def of the module; a method of the class at C; its __init__ -/
structure FnAt (K : PySem.W.Frag) (mg : Str → Option Value) (x : Str) (st : Stmt) (ps : List Str) (f : Addr) (fd : FuncData) : Prop where
  F : Fun K x x st f fd
  b : Binds K fd ps []
  m : mg x = some (.ref f)
structure MeAt (K : PySem.W.Frag) (C : Addr) (x qual : Str) (st : Stmt) (ps : List Str) (f : Addr) (fd : FuncData) : Prop where
  F : Fun K x qual st f fd
  b : Binds K fd ps []
  mt : Meth K C x f
structure InAt (K : PySem.W.Frag) (C : Addr) (qual : Str) (st : Stmt) (ps : List Str) (f : Addr) (fd : FuncData) : Prop where
  F : Fun K "__init__" qual st f fd
  b : Binds K fd ps []
  mak : Mk K C f
abbrev s_isb : Stmt := top 1
abbrev N_isb : List Str := ["part", "cause", "name"]
theorem sc_isb : FnScope N_isb ["part", "cause"] (defScope s_isb) := ⟨rfl, rfl, rfl, by decide +kernel, rfl, by decide +kernel, by decide +kernel⟩
abbrev s_mrk : Stmt := top 2
abbrev N_mrk : List Str := ["causes", "tests", "index", "k"]
theorem sc_mrk : FnScope N_mrk ["causes", "tests", "index"] (defScope s_mrk) := ⟨rfl, rfl, rfl, by decide +kernel, rfl, by decide +kernel, by decide +kernel⟩
abbrev s_pin : Stmt := inClass (top 3) 0
abbrev N_pin : List Str := ["self", "causes", "tests", "index"]
theorem sc_pin : FnScope N_pin ["self", "causes", "tests"] (defScope s_pin) := ⟨rfl, rfl, rfl, by decide +kernel, rfl, by decide +kernel, by decide +kernel⟩
abbrev s_sid : Stmt := inClass (top 3) 1
abbrev N_sid : List Str := ["self", "group", "index", "row", "k"]
theorem sc_sid : FnScope N_sid ["self", "group", "index"] (defScope s_sid) := ⟨rfl, rfl, rfl, by decide +kernel, rfl, by decide +kernel, by decide +kernel⟩
abbrev s_spl : Stmt := inClass (top 3) 2
abbrev N_spl : List Str := ["self", "group", "found", "index", "bad", "good"]
theorem sc_spl : FnScope N_spl ["self", "group"] (defScope s_spl) := ⟨rfl, rfl, rfl, by decide +kernel, rfl, by decide +kernel, by decide +kernel⟩
abbrev s_bes : Stmt := inClass (top 3) 3
abbrev N_bes : List Str := ["self", "group", "found", "index", "bad", "good", "count"]
theorem sc_bes : FnScope N_bes ["self", "group"] (defScope s_bes) := ⟨rfl, rfl, rfl, by decide +kernel, rfl, by decide +kernel, by decide +kernel⟩
abbrev s_shi : Stmt := top 4
abbrev N_shi : List Str := ["causes", "tests", "planner", "whole", "found", "waiting", "group", "count", "index", "bad", "good", "k"]
theorem sc_shi : FnScope N_shi ["causes", "tests"] (defScope s_shi) := ⟨rfl, rfl, rfl, by decide +kernel, rfl, by decide +kernel, by decide +kernel⟩
abbrev s_hol : Stmt := top 5
abbrev N_hol : List Str := ["causes", "rows", "count", "row", "number", "one"]
theorem sc_hol : FnScope N_hol ["causes", "rows", "count"] (defScope s_hol) := ⟨rfl, rfl, rfl, by decide +kernel, rfl, by decide +kernel, by decide +kernel⟩
abbrev s_shr : Stmt := top 6
abbrev N_shr : List Str := ["causes", "tests", "rows", "row", "number", "divided", "part", "bad", "good", "cause", "one"]
theorem sc_shr : FnScope N_shr ["causes", "tests", "rows"] (defScope s_shr) := ⟨rfl, rfl, rfl, by decide +kernel, rfl, by decide +kernel, by decide +kernel⟩
abbrev s_sta : Stmt := top 8
abbrev N_sta : List Str := ["_law_script", "_law_seed", "_law_cell"]
theorem sc_sta : FnScope N_sta ["_law_script"] (defScope s_sta) := ⟨rfl, rfl, rfl, by decide +kernel, rfl, by decide +kernel, by decide +kernel⟩
abbrev s_drw : Stmt := top 9
abbrev N_drw : List Str := ["_law_state_here", "_law_many", "_law_cells", "_law_mixed", "_law_value"]
theorem sc_drw : FnScope N_drw ["_law_state_here", "_law_many"] (defScope s_drw) := ⟨rfl, rfl, rfl, by decide +kernel, rfl, by decide +kernel, by decide +kernel⟩
abbrev s_pck : Stmt := top 10
abbrev N_pck : List Str := ["_law_state_here", "_law_row"]
theorem sc_pck : FnScope N_pck ["_law_state_here", "_law_row"] (defScope s_pck) := ⟨rfl, rfl, rfl, by decide +kernel, rfl, by decide +kernel, by decide +kernel⟩
abbrev s_som : Stmt := top 11
abbrev N_som : List Str := ["_law_state_here", "_law_row", "_law_most", "_law_found", "_law_k", "_law_one"]
theorem sc_som : FnScope N_som ["_law_state_here", "_law_row", "_law_most"] (defScope s_som) := ⟨rfl, rfl, rfl, by decide +kernel, rfl, by decide +kernel, by decide +kernel⟩
abbrev s_pth : Stmt := top 12
abbrev N_pth : List Str := ["_law_state_here"]
theorem sc_pth : FnScope N_pth ["_law_state_here"] (defScope s_pth) := ⟨rfl, rfl, rfl, by decide +kernel, rfl, by decide +kernel, by decide +kernel⟩
abbrev s_chg : Stmt := top 13
abbrev N_chg : List Str := ["_law_state_here", "_law_known", "_law_ids", "_law_kind", "_law_file", "_law_texts", "_law_given", "_law_lines", "_law_one", "_law_k", "_law_line"]
theorem sc_chg : FnScope N_chg ["_law_state_here", "_law_known", "_law_ids"] (defScope s_chg) := ⟨rfl, rfl, rfl, by decide +kernel, rfl, by decide +kernel, by decide +kernel⟩
abbrev s_pwk : Stmt := top 14
abbrev N_pwk : List Str := ["_law_state_here", "_law_most", "_law_label", "_law_row", "_law_known", "_law_turn", "_law_author", "_law_name", "_law_changes", "_law_ids", "_law_place", "_law_change_here", "_law_patch", "_law_lines", "_law_k"]
theorem sc_pwk : FnScope N_pwk ["_law_state_here", "_law_most"] (defScope s_pwk) := ⟨rfl, rfl, rfl, by decide +kernel, rfl, by decide +kernel, by decide +kernel⟩
abbrev s_nds : Stmt := top 15
abbrev N_nds : List Str := ["_law_patch", "_law_found", "_law_change_here", "_law_rows", "_law_part", "_law_name", "_law_vertex"]
theorem sc_nds : FnScope N_nds ["_law_patch"] (defScope s_nds) := ⟨rfl, rfl, rfl, by decide +kernel, rfl, by decide +kernel, by decide +kernel⟩
abbrev s_abl : Stmt := top 18
abbrev N_abl : List Str := ["_law_row", "_law_found", "_law_patch", "_law_rows", "_law_name", "_law_one"]
theorem sc_abl : FnScope N_abl ["_law_row"] (defScope s_abl) := ⟨rfl, rfl, rfl, by decide +kernel, rfl, by decide +kernel, by decide +kernel⟩
abbrev s_btw : Stmt := top 19
abbrev N_btw : List Str := ["_law_state_here", "_law_row", "_law_most", "_law_below", "_law_ids", "_law_good", "_law_name", "_law_patch", "_law_one"]
theorem sc_btw : FnScope N_btw ["_law_state_here", "_law_row", "_law_most"] (defScope s_btw) := ⟨rfl, rfl, rfl, by decide +kernel, rfl, by decide +kernel, by decide +kernel⟩
abbrev s_pts : Stmt := top 20
abbrev N_pts : List Str := ["_law_row", "_law_good", "_law_fresh", "_law_below", "_law_found", "_law_count", "_law_part", "_law_lacks", "_law_k", "_law_name", "_law_size", "_law_one"]
theorem sc_pts : FnScope N_pts ["_law_row", "_law_good", "_law_fresh"] (defScope s_pts) := ⟨rfl, rfl, rfl, by decide +kernel, rfl, by decide +kernel, by decide +kernel⟩
abbrev s_cau : Stmt := top 21
abbrev N_cau : List Str := ["_law_row", "_law_fresh", "_law_below", "_law_found", "_law_k", "_law_other", "_law_name"]
theorem sc_cau : FnScope N_cau ["_law_row", "_law_fresh"] (defScope s_cau) := ⟨rfl, rfl, rfl, by decide +kernel, rfl, by decide +kernel, by decide +kernel⟩
abbrev s_bad : Stmt := top 22
abbrev N_bad : List Str := ["_law_part", "_law_cause", "_law_name"]
theorem sc_bad : FnScope N_bad ["_law_part", "_law_cause"] (defScope s_bad) := ⟨rfl, rfl, rfl, by decide +kernel, rfl, by decide +kernel, by decide +kernel⟩
abbrev s_cas : Stmt := top 23
abbrev N_cas : List Str := ["_law_state_here", "_law_causes_here", "_law_tests", "_law_label", "_law_row", "_law_files", "_law_good", "_law_fresh", "_law_cause", "_law_part"]
theorem sc_cas : FnScope N_cas ["_law_state_here"] (defScope s_cas) := ⟨rfl, rfl, rfl, by decide +kernel, rfl, by decide +kernel, by decide +kernel⟩
abbrev s_few : Stmt := top 24
abbrev N_few : List Str := ["_law_tests", "_law_group", "_law_known", "_law_key", "_law_best", "_law_index", "_law_bad_here", "_law_good", "_law_count", "_law_cause"]
theorem sc_few : FnScope N_few ["_law_tests", "_law_group", "_law_known"] (defScope s_few) := ⟨rfl, rfl, rfl, by decide +kernel, rfl, by decide +kernel, by decide +kernel⟩
abbrev s_std : Stmt := top 28
abbrev N_std : List Str := ["_law_rows", "_law_causes_here", "_law_count", "_law_row", "_law_number", "_law_one"]
theorem sc_std : FnScope N_std ["_law_rows", "_law_causes_here", "_law_count"] (defScope s_std) := ⟨rfl, rfl, rfl, by decide +kernel, rfl, by decide +kernel, by decide +kernel⟩
abbrev s_rgt : Stmt := top 29
abbrev N_rgt : List Str := ["_law_causes_here", "_law_tests", "_law_rows", "_law_row", "_law_number", "_law_dividing", "_law_part", "_law_bad_here", "_law_good", "_law_one"]
theorem sc_rgt : FnScope N_rgt ["_law_causes_here", "_law_tests", "_law_rows"] (defScope s_rgt) := ⟨rfl, rfl, rfl, by decide +kernel, rfl, by decide +kernel, by decide +kernel⟩
abbrev s_trn : Stmt := top 30
abbrev N_trn : List Str := ["_law_state_here", "_law_rows", "_law_found", "_law_turn", "_law_at", "_law_kind", "_law_row", "_law_number"]
theorem sc_trn : FnScope N_trn ["_law_state_here", "_law_rows"] (defScope s_trn) := ⟨rfl, rfl, rfl, by decide +kernel, rfl, by decide +kernel, by decide +kernel⟩
abbrev s_law : Stmt := top 31
abbrev N_law : List Str := ["_law_script", "_law_state_here", "_law_kept", "_law_known", "_law_most", "_law_rows", "_law_turn", "_law_causes_here", "_law_tests", "_law_other", "_law_right_here", "_law_row", "_law_number", "_law_ordered", "_law_cause"]
theorem sc_law : FnScope N_law ["_law_script"] (defScope s_law) := ⟨rfl, rfl, rfl, by decide +kernel, rfl, by decide +kernel, by decide +kernel⟩
/-- what the top has left: the defs, the class, the built-in names -/
structure Tx (K : PySem.W.Frag) (mg : Str → Option Value) (a : Nat → Addr) (d : Nat → FuncData) (C : Addr) : Prop where
  isb : FnAt K mg "is_bad" s_isb ["part", "cause"] (a 0) (d 0)
  mrk : FnAt K mg "marks" s_mrk ["causes", "tests", "index"] (a 1) (d 1)
  pin : InAt K C "Planner.__init__" s_pin ["self", "causes", "tests"] (a 2) (d 2)
  sid : MeAt K C "sides" "Planner.sides" s_sid ["self", "group", "index"] (a 3) (d 3)
  spl : MeAt K C "splits" "Planner.splits" s_spl ["self", "group"] (a 4) (d 4)
  bes : MeAt K C "best" "Planner.best" s_bes ["self", "group"] (a 5) (d 5)
  shi : FnAt K mg "shield" s_shi ["causes", "tests"] (a 6) (d 6)
  hol : FnAt K mg "holds_row" s_hol ["causes", "rows", "count"] (a 7) (d 7)
  shr : FnAt K mg "shield_right" s_shr ["causes", "tests", "rows"] (a 8) (d 8)
  sta : FnAt K mg "_law_state" s_sta ["_law_script"] (a 9) (d 9)
  drw : FnAt K mg "_law_draw" s_drw ["_law_state_here", "_law_many"] (a 10) (d 10)
  pck : FnAt K mg "_law_pick" s_pck ["_law_state_here", "_law_row"] (a 11) (d 11)
  som : FnAt K mg "_law_some" s_som ["_law_state_here", "_law_row", "_law_most"] (a 12) (d 12)
  pth : FnAt K mg "_law_path" s_pth ["_law_state_here"] (a 13) (d 13)
  chg : FnAt K mg "_law_change" s_chg ["_law_state_here", "_law_known", "_law_ids"] (a 14) (d 14)
  pwk : FnAt K mg "_law_patchwork" s_pwk ["_law_state_here", "_law_most"] (a 15) (d 15)
  nds : FnAt K mg "_law_needs" s_nds ["_law_patch"] (a 16) (d 16)
  abl : FnAt K mg "_law_all_below" s_abl ["_law_row"] (a 17) (d 17)
  btw : FnAt K mg "_law_between" s_btw ["_law_state_here", "_law_row", "_law_most"] (a 18) (d 18)
  pts : FnAt K mg "_law_parts" s_pts ["_law_row", "_law_good", "_law_fresh"] (a 19) (d 19)
  cau : FnAt K mg "_law_causes" s_cau ["_law_row", "_law_fresh"] (a 20) (d 20)
  bad : FnAt K mg "_law_bad" s_bad ["_law_part", "_law_cause"] (a 21) (d 21)
  cas : FnAt K mg "_law_case" s_cas ["_law_state_here"] (a 22) (d 22)
  few : FnAt K mg "_law_fewest" s_few ["_law_tests", "_law_group", "_law_known"] (a 23) (d 23)
  std : FnAt K mg "_law_stands" s_std ["_law_rows", "_law_causes_here", "_law_count"] (a 24) (d 24)
  rgt : FnAt K mg "_law_right" s_rgt ["_law_causes_here", "_law_tests", "_law_rows"] (a 25) (d 25)
  trn : FnAt K mg "_law_turned" s_trn ["_law_state_here", "_law_rows"] (a 26) (d 26)
  law : FnAt K mg "law" s_law ["_law_script"] (a 27) (d 27)
  cl : Cls K C
  nR : NoAttr K C "rows"
  nK : NoAttr K C "known"
  mgC : mg "Planner" = some (.ref C)
  len : mg "len" = none
  int : mg "int" = none
  abs : mg "abs" = none
  range : mg "range" = none
  sorted : mg "sorted" = none
  isinstance : mg "isinstance" = none
  tuple : mg "tuple" = none
  list : mg "list" = none
  repr : mg "repr" = none
  max : mg "max" = none
  any : mg "any" = none
  bool : mg "bool" = none
end Qw
namespace Qw
open PySem L2
/-! ### labels, ids, vertices, causes, parts, rows: as data -/
abbrev Lab := Fin 8 × Fin 3
abbrev Id := Fin 3 × Fin 8
abbrev Vx := Id × Nat × Nat
def marksOf : Fin 3 → List Int
  | 0 => []
  | 1 => [0]
  | 2 => [1, 4]
def authOf : Fin 3 → Str
  | 0 => "ann"
  | 1 => "bo"
  | 2 => "cy"
def encLab (l : Lab) : PyData := .tuple [.str "label", .int (l.1.val : Int), .tuple ((marksOf l.2).map .int)]
def encI (l : Lab) (i : Id) : PyData := .tuple [encLab l, .str (authOf i.1), .int ((i.2.val : Int) + 1)]
def encV (l : Lab) (v : Vx) : PyData := .tuple [encI l v.1, .int (v.2.1 : Int), .int (v.2.2 : Int)]
/-- causes and parts; lists of them -/
abbrev encC (l : Lab) : List Id → PyData := encL (encI l)
abbrev encG (l : Lab) : List (List Id) → PyData := encL (encC l)
def encRow (l : Lab) (r : List (List Id) × Int) : PyData := .tuple [encG l r.1, .int r.2]
abbrev encRs (l : Lab) : List (List (List Id) × Int) → PyData := encL (encRow l)
theorem auth_eqv : ∀ a b : Fin 3, ((authOf a) == (authOf b)) = decide (a = b) := by decide +kernel
theorem eqvInts : ∀ ns : List Int, PyData.eqvAll (ns.map .int) (ns.map .int) = true
  | [] => by simp [PyData.eqvAll]
  | n :: ns => by simp [PyData.eqvAll, PyData.eqv, eqvInts ns]
theorem lab_eqv (l : Lab) : PyData.eqv (encLab l) (encLab l) = true := by
  unfold encLab
  simp [PyData.eqv, PyData.eqvAll, eqvInts]
theorem eI (l : Lab) : Enc (encI l) 3 := by
  refine ⟨fun a b => ?_, fun a => ?_, fun a => ?_⟩
  · have h : PyData.eqv (encI l a) (encI l b) = (((authOf a.1) == (authOf b.1)) && (((a.2.val : Int) + 1 == (b.2.val : Int) + 1))) := by
      unfold encI
      simp only [PyData.eqv, PyData.eqvAll, lab_eqv, Bool.true_and, Bool.and_true]
    rw [h, auth_eqv]
    obtain ⟨a1, a2⟩ := a
    obtain ⟨b1, b2⟩ := b
    by_cases h1 : a1 = b1
    · by_cases h2 : a2 = b2
      · subst h1 h2; simp
      · have : ¬ ((a2.val : Int) + 1 = (b2.val : Int) + 1) := fun z => h2 (Fin.ext (by omega))
        simp [h1, h2, this]
    · simp [h1]
  · obtain ⟨⟨l1, l2⟩, a1, a2⟩ := (l, a)
    have h1 : ∀ a : Fin 3, (PyData.str (authOf a)).canLay0 = true := by decide +kernel
    have h2 : ∀ m : Fin 3, PyData.canLayAll0 ((marksOf m).map .int) = true := by decide +kernel
    have h3 : (PyData.str "label").canLay0 = true := by decide +kernel
    unfold encI encLab
    have h4 := h1 a.1
    have h5 := h2 l.2
    simp only [PyData.canLay0, PyData.canLayAll0, Bool.and_true, Bool.true_and] at h3 h4 h5 ⊢
    rw [h3, h4, h5]; rfl
  · have h2 : ∀ m : Fin 3, PyData.depthAll ((marksOf m).map .int) = 0 := by decide +kernel
    unfold encI encLab
    simp only [PyData.depth, PyData.depthAll, h2]
    decide
theorem eC (l : Lab) : Enc (encC l) 4 := (eI l).list
theorem eG (l : Lab) : Enc (encG l) 5 := (eC l).list
theorem eRow (l : Lab) : Enc (encRow l) 6 := by
  refine ⟨fun a b => ?_, fun a => ?_, fun a => ?_⟩
  · have h : PyData.eqv (encRow l a) (encRow l b) = (PyData.eqv (encG l a.1) (encG l b.1) && (a.2 == b.2)) := by
      unfold encRow
      simp only [PyData.eqv, PyData.eqvAll, Bool.and_true]
    rw [h, (eG l).eqv]
    obtain ⟨a1, a2⟩ := a
    obtain ⟨b1, b2⟩ := b
    by_cases h1 : a1 = b1 <;> by_cases h2 : a2 = b2 <;> simp [h1, h2]
  · have h := (eG l).lay a.1
    unfold encRow
    simp only [PyData.canLay0, PyData.canLayAll0, Bool.and_true, h]
  · have h := (eG l).dep a.1
    unfold encRow
    simp only [PyData.depth, PyData.depthAll]
    omega
theorem eRs (l : Lab) : Enc (encRs l) 7 := (eRow l).list
theorem eV (l : Lab) : Enc (encV l) 4 := by
  refine ⟨fun a b => ?_, fun a => ?_, fun a => ?_⟩
  · have h : PyData.eqv (encV l a) (encV l b) = (PyData.eqv (encI l a.1) (encI l b.1) && (((a.2.1 : Int) == (b.2.1 : Int)) && ((a.2.2 : Int) == (b.2.2 : Int)))) := by
      unfold encV
      simp only [PyData.eqv, PyData.eqvAll, Bool.and_true]
    rw [h, (eI l).eqv]
    obtain ⟨a1, a2, a3⟩ := a
    obtain ⟨b1, b2, b3⟩ := b
    by_cases h1 : a1 = b1 <;> by_cases h2 : a2 = b2 <;> by_cases h3 : a3 = b3 <;> simp [h1, h2, h3] <;> omega
  · have h := (eI l).lay a.1
    unfold encV
    simp only [PyData.canLay0, PyData.canLayAll0, Bool.and_true, h]
  · have h := (eI l).dep a.1
    unfold encV
    simp only [PyData.depth, PyData.depthAll]
    omega
/-! ### they can be ordered -/
theorem alikeInts (ns : List Int) : PySem.W.alikeAll (ns.map .int) (ns.map .int) = true := PySem.W.alike_ints ns ns
theorem alI (l : Lab) (a b : Id) : PySem.W.alike (encI l a) (encI l b) = true := by
  unfold encI encLab
  simp [PySem.W.alike, PySem.W.alikeAll, alikeInts]
theorem alV (l : Lab) (a b : Vx) : PySem.W.alike (encV l a) (encV l b) = true := by
  unfold encV
  simp [PySem.W.alike, PySem.W.alikeAll, alI]
theorem alIs (l : Lab) : ∀ a b : List Id, PySem.W.alikeAll (a.map (encI l)) (b.map (encI l)) = true
  | [], _ => by simp [PySem.W.alikeAll]
  | _ :: _, [] => by simp [PySem.W.alikeAll]
  | x :: xs, y :: ys => by rw [List.map_cons, List.map_cons, PySem.W.alikeAll, alI, alIs l xs ys]; rfl
theorem alC (l : Lab) (a b : List Id) : PySem.W.alike (encC l a) (encC l b) = true := by
  unfold encC encL
  rw [PySem.W.alike]; exact alIs l a b
/-- a part with its size -/
def encZ (l : Lab) (z : Int × List Id) : PyData := .tuple [.int z.1, encC l z.2]
theorem alZ (l : Lab) (a b : Int × List Id) : PySem.W.alike (encZ l a) (encZ l b) = true := by
  unfold encZ
  simp only [PySem.W.alike, PySem.W.alikeAll, alC, Bool.and_true]
/-- sorted(xs), over data that are told apart, and tuples -/
theorem sortD_of {β : Type} [DecidableEq β] {enc : β → PyData} {n : Nat} (E : Enc enc n) (hn : n ≤ 40) (al : ∀ a b, PySem.W.alike (enc a) (enc b) = true) (tp : ∀ b, ∃ x r, enc b = .tuple (x :: r))
    {K : PySem.W.Frag} {X : List Addr} {H : Hp} {q : Addr} {us : List V} {bs : List β} {Q : VK} (e : H q = some (.lst us)) (h : DaAll X H us (bs.map enc))
    (k : ∀ (p : Addr) (us' : List V) (bs' : List β), H p = none → bs'.Perm bs → DaAll X H us' (bs'.map enc) → Q (.ref p) (upd H p (.lst us'))) : rSortD K [.ref q] H Q := by
  refine ⟨q, us, _, rfl, e, DaAll.dp _ _ h, PySem.W.AllAlike.of al, PySem.W.Sortable.tuples tp, fun d hd => ?_, fun p us' np pm => ?_⟩
  · obtain ⟨b, _, rfl⟩ := List.mem_map.mp hd
    exact Nat.le_trans (E.dep b) hn
  · obtain ⟨bs', pb, h'⟩ := h.perm pm
    exact k p us' bs' np pb h'
/-- a cause shows in a part -/
def bad (t c : List Id) : Bool := c.all fun i => decide (i ∈ t)
end Qw
/-! The rules with the written part K named: within a comprehension's block the unifier wants it so. -/
namespace Qw
open PySem L2
section
variable {X : Cx} {e o i b value : Expr} {te ta tb td ty tv : TE} {tl th : TO} {tg : Expr} {pos p2 pos' : Pos} {lo hi : Option Expr} {es rest : List Expr} {k : Nat} {t : TGs} {P : Program} {w : World}
theorem ix_listK (K : PySem.W.Frag) (hK : X.K = K) : IxR X (rIxL K) := by subst hK; exact ix_list
theorem ix_tupK (K : PySem.W.Frag) (hK : X.K = K) : IxR X (rIxT K) := by subst hK; exact ix_tup
theorem op_inSK (K : PySem.W.Frag) (hK : X.K = K) : OpR X (compareOp .In) (rIn K false) := by subst hK; exact op_in_seq
theorem op_notInSK (K : PySem.W.Frag) (hK : X.K = K) : OpR X (compareOp .NotIn) (rIn K true) := by subst hK; exact op_notIn_seq
theorem op_inDK (K : PySem.W.Frag) (hK : X.K = K) (hu : X.A.units + 65 < cLine) : OpR X (compareOp .In) (rInD K) := by subst hK; exact op_inD hu
theorem op_notInDK (K : PySem.W.Frag) (hK : X.K = K) (hu : X.A.units + 65 < cLine) : OpR X (compareOp .NotIn) (rNotInD K) := by subst hK; exact op_notInD hu
theorem op_eqDK (K : PySem.W.Frag) (hK : X.K = K) (hu : X.A.units + 64 < cLine) : OpR X (compareOp .Eq) (rEqD K) := by subst hK; exact op_eqD hu
theorem op_neDK (K : PySem.W.Frag) (hK : X.K = K) (hu : X.A.units + 64 < cLine) : OpR X (compareOp .NotEq) (rNeD K) := by subst hK; exact op_neD hu
def rLen (K : PySem.W.Frag) : List V → Hp → VK → Prop := fun xs H Q => ∃ p ys, xs = [.ref p] ∧ (SqL K H p ys ∨ SqT K H p ys) ∧ Q (.int ys.length) H
theorem call_lenK (K : PySem.W.Frag) (hK : X.K = K) : CallR X (.builtin "len") (rLen K) := by subst hK; exact call_len_seq
def rListOf (K : PySem.W.Frag) : List V → Hp → VK → Prop := fun xs H Q => ∃ p ys, xs = [.ref p] ∧ (SqL K H p ys ∨ SqT K H p ys) ∧ ∀ l, H l = none → Q (.ref l) (upd H l (.lst ys))
theorem call_listK (K : PySem.W.Frag) (hK : X.K = K) : CallR X (.type "list") (rListOf K) := by subst hK; exact call_list_of
def rTupOf (K : PySem.W.Frag) : List V → Hp → VK → Prop := fun xs H Q => ∃ p ys, xs = [.ref p] ∧ ((SqL K H p ys ∧ ∀ l, H l = none → Q (.ref l) (upd H l (.tup ys))) ∨ (SqT K H p ys ∧ Q (.ref p) H))
theorem call_tupleK (K : PySem.W.Frag) (hK : X.K = K) : CallR X (.type "tuple") (rTupOf K) := by subst hK; exact call_tuple_of
theorem call_sortDK (K : PySem.W.Frag) (hK : X.K = K) (hu : X.A.units + 64 < cLine) : CallR X (.builtin "sorted") (rSortD K) := by subst hK; exact call_sortD hu
theorem call_sortNK (P : Program) (w : World) (K : PySem.W.Frag) (hP : X.prog = P) (hw : X.w = w) (hK : X.K = K) (hc : X.calm = true) (hu : X.A.units + 64 < cLine) : CallR X (.builtin "sorted") (rSortN P w K) := by subst hP hw hK; exact call_sortN hc hu
theorem call_reprK (K : PySem.W.Frag) (hK : X.K = K) (hg : X.A.guards = some []) (hu : X.A.units + 64 < cLine) : CallR X (.builtin "repr") (rReprD K) := by subst hK; exact call_reprD hg hu
def rLenN (P : Program) (w : World) (K : PySem.W.Frag) : List V → Hp → VK → Prop := fun xs H Q => ∃ d es, xs = [.ref d] ∧ H d = some (DN P w d es) ∧ KeysOk K H es ∧ Q (.int es.length) H
theorem call_lenNK (P : Program) (w : World) (K : PySem.W.Frag) (hP : X.prog = P) (hw : X.w = w) (hK : X.K = K) : CallR X (.builtin "len") (rLenN P w K) := by subst hP hw hK; exact call_lenN
theorem sl_listK (K : PySem.W.Frag) (hK : X.K = K) : SlR X (rSlL K) := by subst hK; exact sl_list
theorem sl_tupK (K : PySem.W.Frag) (hK : X.K = K) : SlR X (rSlT K) := by subst hK; exact sl_tup
theorem pi_listK (K : PySem.W.Frag) (hK : X.K = K) (h : PE X e te) : PI X tg e (iList K te) := by subst hK; exact pi_list h
theorem pi_tupK (K : PySem.W.Frag) (hK : X.K = K) (h : PE X e te) : PI X tg e (iTup K te) := by subst hK; exact pi_tup h
theorem pg_tupK (K : PySem.W.Frag) (hK : X.K = K) {n : Nat} (hc : X.calm = true) (h : PGs X es t) (hn : (assignEach es X.env).length = n := by rfl) (hst : (assignEach es X.env).findIdx? (·.1) = none := by rfl) : PG X (.Tuple es k pos) (gTup K n t) := by
  subst hK; exact pg_tup hc h hn hst
theorem pe_ngetK (P : Program) (w : World) (K : PySem.W.Frag) (hP : X.prog = P) (hw : X.w = w) (hK : X.K = K) (hu : X.A.units + 64 < cLine) (ho : PE X o td) (hi : PE X i ty) (hs : NoSl i) : PE X (.Subscript o i pos) (tNGet P w K td ty) := by subst hP hw hK; exact pe_nget hu ho hi hs
theorem ps_nputK (P : Program) (w : World) (K : PySem.W.Frag) (hP : X.prog = P) (hw : X.w = w) (hK : X.K = K) (hu : X.A.units + 64 < cLine) (ho : PE X o td) (hi : PE X i ty) (hv : PE X value tv) (hs : swapsWith value (some (.Subscript o i pos')) pos.line X.env = pure false) :
    PS X (.Assign [.Subscript o i pos'] value pos) (sNPut P w K td ty tv) := by subst hP hw hK; exact ps_nput hu ho hi hv hs
theorem pe_dnewNK (P : Program) (w : World) (hP : X.prog = P) (hw : X.w = w) : PE X (.Dict [] [] pos) (tDNewN P w) := by subst hP hw; exact pe_dnewN
theorem pe_orTK (K : PySem.W.Frag) (hK : X.K = K) {a b : Expr} (ha : PE X a ta) (hb : PE X (.BoolOp .Or (b :: rest) pos) tb) : PE X (.BoolOp .Or (a :: b :: rest) pos) (tOrT K ta tb) := by subst hK; exact pe_orT ha hb
theorem pe_fldK (K : PySem.W.Frag) (hK : X.K = K) {f : Str} (he : PE X e ta) (hb : attributeBase e f X.env (eval e X.env) = eval e X.env) : PE X (.Attribute e f pos) (tFld K ta f) := by subst hK; exact pe_fld he hb
theorem call_isiK2 (K : PySem.W.Frag) (hK : X.K = K) : CallR X (.builtin "isinstance") (rIsi K) := by subst hK; exact call_isi
theorem cr_anyK (K : PySem.W.Frag) (hK : X.K = K) (hc : X.calm = true) : CallR X (.builtin "any") (rAny K) := by subst hK; exact cr_any hc
end
/-! ### ways -/
theorem iteD {c A B : Prop} [Decidable c] (h1 : c → A) (h2 : ¬ c → B) : if decide c = true then A else B := by
  by_cases h : c
  · rw [decide_eq_true h]; exact iteT (h1 h)
  · rw [decide_eq_false h]; exact iteF (h2 h)
theorem iteN {c A B : Prop} [Decidable c] (h1 : ¬ c → A) (h2 : c → B) : if (!decide c) = true then A else B := by
  by_cases h : c
  · rw [decide_eq_true h]; exact iteF (h2 h)
  · rw [decide_eq_false h]; exact iteT (h1 h)
theorem iteB {b : Bool} {A B : Prop} (h1 : b = true → A) (h2 : b = false → B) : if b = true then A else B := by
  cases b with
  | true => exact iteT (h1 rfl)
  | false => exact iteF (h2 rfl)
theorem iteNB {b : Bool} {A B : Prop} (h1 : b = false → A) (h2 : b = true → B) : if (!b) = true then A else B := by
  cases b with
  | true => exact iteF (h2 rfl)
  | false => exact iteT (h1 rfl)
/-- an if whose test is two tests that change nothing: what follows is shown once -/
theorem ifAnd {t u : TT} {A B : TS} {D : Ends} {σ : St} {H : Hp} {b1 b2 : Bool} (h1 : ∀ Q : Bool → Hp → Prop, Q b1 H → t σ H Q) (h2 : b1 = true → ∀ Q : Bool → Hp → Prop, Q b2 H → u σ H Q) (ha : b1 = true → b2 = true → A D σ H) (hb : (b1 && b2) = false → B D σ H) : tIfS (tAnd t u) A B D σ H := by
  refine h1 _ ?_
  cases b1 with
  | true =>
    refine iteT (h2 rfl _ ?_)
    cases b2 with
    | true => exact iteT (ha rfl rfl)
    | false => exact iteF (hb rfl)
  | false => exact iteF (iteF (hb rfl))
theorem ifOr {t u : TT} {A B : TS} {D : Ends} {σ : St} {H : Hp} {b1 b2 : Bool} (h1 : ∀ Q : Bool → Hp → Prop, Q b1 H → t σ H Q) (h2 : b1 = false → ∀ Q : Bool → Hp → Prop, Q b2 H → u σ H Q) (ha : (b1 || b2) = true → A D σ H) (hb : b1 = false → b2 = false → B D σ H) : tIfS (tOr t u) A B D σ H := by
  refine h1 _ ?_
  cases b1 with
  | false =>
    refine iteF (h2 rfl _ ?_)
    cases b2 with
    | true => exact iteT (ha rfl)
    | false => exact iteF (hb rfl rfl)
  | true => exact iteT (iteT (ha rfl))
theorem seqAnd {t u : TT} {A R : TS} {D : Ends} {σ : St} {H : Hp} {b1 b2 : Bool} (h1 : ∀ Q : Bool → Hp → Prop, Q b1 H → t σ H Q) (h2 : b1 = true → ∀ Q : Bool → Hp → Prop, Q b2 H → u σ H Q) (ha : b1 = true → b2 = true → A { D with nx := R D } σ H) (hb : (b1 && b2) = false → R D σ H) : tSeq (tIfS (tAnd t u) A tNext) R D σ H :=
  ifAnd h1 h2 ha hb
theorem seqOr {t u : TT} {A R : TS} {D : Ends} {σ : St} {H : Hp} {b1 b2 : Bool} (h1 : ∀ Q : Bool → Hp → Prop, Q b1 H → t σ H Q) (h2 : b1 = false → ∀ Q : Bool → Hp → Prop, Q b2 H → u σ H Q) (ha : (b1 || b2) = true → A { D with nx := R D } σ H) (hb : b1 = false → b2 = false → R D σ H) : tSeq (tIfS (tOr t u) A tNext) R D σ H :=
  ifOr h1 h2 ha hb
theorem line1000 {n : Nat} (h : n ≤ 1000) : n ≤ sizeLine := Nat.le_of_lt (small1000 h)
end Qw
namespace Qw
open PySem L2
section
variable {P : Program} {w : World} {K : PySem.W.Frag} {mg : Str → Option Value} {base : Heap} {a : Nat → Addr} {d : Nat → FuncData} {C : Addr}
def spIsb : Sp := fun vs H Q _ => ∃ (X : List Addr) (l : Lab) (x y : V) (t c : List Id), vs = [x, y] ∧ Da X H x (encC l t) ∧ Da X H y (encC l c) ∧ c.length ≤ 1000 ∧ ∀ H', Same H H' → Q (.bl (bad t c)) H'
theorem ok_isb (T : Tx K mg a d C) : FnOk P w K mg base CX0 1 (a 0) (d 0) ["part", "cause"] spIsb := by
  refine T.isb.F.ok sc_isb (fun vs H Q E h => ?_) (fun cdv A outer s H vs Q E hr h => ?_)
  · obtain ⟨X, l, x, y, t, c, rfl, _⟩ := h
    rfl
  · obtain ⟨X, l, x, y, t, c, rfl, hx, hy, hc, k⟩ := h
    have nd := sc_isb.nd
    have hu := hu_of hr
    refine ⟨_, (pss_one (ps_ret (pe_cmpR op_eq (pe_callB (call_lenK K rfl) (by rfl) T.len (by decide +kernel) (pa_cons (pe_lc (own := [("name", 2)]) (g := gName 2) (by rfl) nd (pi_listK K rfl (pv 1)) (blkOk_by (own := [("name", 2)]) (N := N_isb) (sc := defScope s_isb) (by decide +kernel)) (fun _ _ _ _ _ => (pg_name (i := 2) nd rfl (by first | exact Or.inl rfl | exact Or.inr rfl))) (fun _ _ _ _ _ => (pts_one (pt_cmpR (op_notInDK K rfl hr.un65) (pv 2) (pv 0) (by rfl)))) (fun _ _ _ _ _ => (pv 2))) pa_nil)) pe_int (nomark _)))), ?_⟩
    obtain ⟨p, xs, rfl, np, hp, r⟩ := hy.getL
    obtain ⟨zs, e1, e2, hz⟩ := r.zip
    subst e1
    have hzl : zs.length = c.length := by rw [← e2, List.length_map]
    refine ⟨_, rfl, p, rfl, ⟨_, SqL.of hp⟩, fun D hD => lcL (K := K) (γ := Unit) (fun i => if i ∈ t then none else some ()) (fun _ _ _ => True) hD (SqL.of hp) (line1000 (by omega)) (fun _ _ _ _ _ _ => True.intro) (fun i z hi => ?_) fun H' acc s1 e pr => ?_⟩
    · intro H1 N M s1 _ hN hM
      refine ⟨rfl, _, rfl, _, rfl, notInD_of (eI l) (by decide) ((hz z (List.mem_of_getElem? hi)).same s1) (hx.same s1) ⟨_, rfl, ?_⟩⟩
      exact iteN (fun hm => ⟨_, rfl, hN _ () _ (if_neg hm) (Same.refl _) True.intro⟩) fun hm => hM _ (if_pos hm) (Same.refl _)
    · refine ⟨D, acc, rfl, .inl (SqL.of e), rfl, ?_⟩
      have h1 : acc.length = (c.filterMap fun i => if i ∈ t then none else some ()).length := by rw [← e2]; exact Paired.length pr
      have h2 : ∀ c : List Id, decide ((V.int ((c.filterMap fun i => if i ∈ t then none else some ()).length : Int)) = .int 0) = bad t c := by
        intro c
        induction c with
        | nil => rfl
        | cons i c ih =>
          unfold bad at ih ⊢
          rw [List.filterMap_cons, List.all_cons]
          by_cases hm : i ∈ t
          · simp only [hm, if_true, decide_true, Bool.true_and]
            exact ih
          · simp only [hm, if_false, decide_false, Bool.false_and]
            rw [decide_eq_false]
            intro z
            have := V.int.inj z
            simp at this
            omega
      have h3 := k H' s1
      rw [← h2 c, ← h1] at h3
      exact h3
end
end Qw
namespace Qw
open PySem L2
section
variable {P : Program} {w : World} {K : PySem.W.Frag} {mg : Str → Option Value} {base : Heap} {a : Nat → Addr} {d : Nat → FuncData} {C : Addr}
/-! ### the law's own is-it-bad -/
theorem inV_bl (bs : List Bool) : (!inV (.bl false) (bs.map V.bl)) = bs.all id := by
  unfold inV
  induction bs with
  | nil => rfl
  | cons b bs ih =>
    rw [List.map_cons, List.any_cons, List.all_cons, ← ih]
    cases b <;> simp [eqV]
theorem flat_bl : ∀ bs : List Bool, (bs.map V.bl).all flatV = true
  | [] => rfl
  | b :: bs => by rw [List.map_cons, List.all_cons, flat_bl bs]; rfl
theorem ok_bad (T : Tx K mg a d C) : FnOk P w K mg base CX0 1 (a 21) (d 21) ["_law_part", "_law_cause"] spIsb := by
  refine T.bad.F.ok sc_bad (fun vs H Q E h => ?_) (fun cdv A outer s H vs Q E hr h => ?_)
  · obtain ⟨X, l, x, y, t, c, rfl, _⟩ := h
    rfl
  · obtain ⟨X, l, x, y, t, c, rfl, hx, hy, hc, k⟩ := h
    have nd := sc_bad.nd
    have hu := hu_of hr
    refine ⟨_, (pss_one (ps_ret (pe_cmpR (op_notInSK K rfl) pe_bl (pe_lc (own := [("_law_name", 2)]) (g := gName 2) (tt := tYes) (by rfl) nd (pi_listK K rfl (pv 1)) (blkOk_by (own := [("_law_name", 2)]) (N := N_bad) (sc := defScope s_bad) (by decide +kernel)) (fun _ _ _ _ _ => (pg_name (i := 2) nd rfl (by first | exact Or.inl rfl | exact Or.inr rfl))) (fun _ _ _ _ _ => pts_nil) (fun _ _ _ _ _ => (pe_cmpR (op_inDK K rfl hr.un65) (pv 2) (pv 0) (by rfl)))) (by rfl)))), ?_⟩
    obtain ⟨p, xs, rfl, np, hp, r⟩ := hy.getL
    obtain ⟨zs, e1, e2, hz⟩ := r.zip
    subst e1
    have hzl : zs.length = c.length := by rw [← e2, List.length_map]
    refine ⟨_, rfl, p, rfl, ⟨_, SqL.of hp⟩, fun D hD => lcL (K := K) (γ := Bool) (fun i => some (decide (i ∈ t))) (RelF V.bl) hD (SqL.of hp) (line1000 (by omega)) relF_st (fun i z hi => ?_) fun H' acc s1 e pr => ?_⟩
    · intro H1 N M s1 _ hN hM
      exact ⟨rfl, _, rfl, _, rfl, inD_of (eI l) (by decide) ((hz z (List.mem_of_getElem? hi)).same s1) (hx.same s1) (hN _ _ _ rfl (Same.refl _) rfl)⟩
    · have ea := relF_map pr
      rw [all_map, e2] at ea
      subst ea
      refine ⟨D, _, rfl, .inl (SqL.of e), rfl, flat_bl _, ?_⟩
      show Q (.bl (!inV (.bl false) ((c.map fun i => decide (i ∈ t)).map V.bl))) H'
      rw [inV_bl, List.all_map]
      exact k H' s1
/-! ### the state, draws -/
def Sta (p c : Addr) (H : Hp) : Prop := p ≠ c ∧ ∃ (ns : List Int) (s : Int), H p = some (.lst [.ref c, .int s]) ∧ H c = some (.lst (ns.map V.int)) ∧ ns.length ≤ 1000 ∧ 0 ≤ s ∧ s < 2147483648
theorem Sta.dom {p c : Addr} {H : Hp} (h : Sta p c H) : Dom [p, c] H := by
  obtain ⟨_, ns, s, h1, h2, _⟩ := h
  intro x hx
  rcases List.mem_cons.mp hx with rfl | hx
  · rw [h1]; simp
  · rw [List.mem_singleton] at hx
    subst hx
    rw [h2]; simp
theorem Sta.same {p c : Addr} {H H' : Hp} (h : Sta p c H) (k : Same H H') : Sta p c H' := by
  obtain ⟨n, ns, s, h1, h2, r⟩ := h
  exact ⟨n, ns, s, k _ _ h1, k _ _ h2, r⟩
theorem Sta.off {p c q : Addr} {H H' : Hp} (h : Sta p c H) (k : Keep [q] H H') (n1 : p ≠ q) (n2 : c ≠ q) : Sta p c H' := by
  obtain ⟨n, ns, s, h1, h2, r⟩ := h
  exact ⟨n, ns, s, k _ _ (by simp [n1]) h1, k _ _ (by simp [n2]) h2, r⟩
def spDrw : Sp := fun vs H Q _ => ∃ (p c : Addr) (n : Int), vs = [.ref p, .int n] ∧ Sta p c H ∧ n ≤ 1000000 ∧ ∀ r H', 0 ≤ r → (1 ≤ n → r < n) → (n < 1 → r = 0) → Sta p c H' → Keep [p, c] H H' → Q (.int r) H'
theorem ok_drw (T : Tx K mg a d C) : FnOk P w K mg base CX0 1 (a 10) (d 10) ["_law_state_here", "_law_many"] spDrw := by
  refine T.drw.F.ok sc_drw (fun vs H Q E h => ?_) (fun cdv A outer s H vs Q E hr h => ?_)
  · obtain ⟨p, c, n, rfl, _⟩ := h
    rfl
  · obtain ⟨p, c, n, rfl, st, hn, k⟩ := h
    have nd := sc_drw.nd
    have hu := hu_of hr
    refine ⟨_, (pss_cons (ps_if (pt_cmpR op_lt (pv 1) pe_int (nomark _)) (pss_one (ps_ret pe_int)) pss_nil)
      (pss_cons (ps_set (i := 2) nd rfl (by first | exact Or.inl rfl | exact Or.inr rfl) (pe_ix (ix_listK K rfl) (pv 0) pe_int (fun _ _ => rfl)))
      (pss_cons (ps_while PassesOwn.never (PW.pt (pw_and (pt_cmpR op_gt (pe_callB (call_lenK K rfl) (by rfl) T.len (by decide +kernel) (pa_cons (pv 2) pa_nil)) pe_int (nomark _)) (pw_and1 (pt_cmpR op_eq (pe_ix (ix_listK K rfl) (pv 2) pe_int (fun _ _ => rfl)) pe_int (nomark _))))) (pss_one (ps_expr (pe_bm PySem.F.plainAttrs_list PySem.F.slot_list_pop PySem.F.type_list_pop mt_popAt (pv 2) (pa_cons pe_int pa_nil)))))
      (pss_cons (ps_if (pt_cmpR op_gt (pe_callB (call_lenK K rfl) (by rfl) T.len (by decide +kernel) (pa_cons (pv 2) pa_nil)) pe_int (nomark _)) (pss_cons (ps_set (i := 4) nd rfl (by first | exact Or.inl rfl | exact Or.inr rfl) (pe_ix (ix_listK K rfl) (pv 2) pe_int (fun _ _ => rfl)))
      (pss_cons (ps_asg (pe_op op_fdiv (pv 4) (pv 1)) (pg_sub (pv 2) pe_int set_list))
      (pss_one (ps_ret (pe_op op_mod (pe_callTy call_int1 (by rfl) T.int (by decide +kernel) (pa_cons (pv 4) pa_nil)) (pv 1)))))) pss_nil)
      (pss_cons (ps_set (i := 3) nd rfl (by first | exact Or.inl rfl | exact Or.inr rfl) (pe_op op_mod (pe_callTy call_int1 (by rfl) T.int (by decide +kernel) (pa_cons (pe_op op_add (pe_op op_mul (pe_ix (ix_listK K rfl) (pv 0) pe_int (fun _ _ => rfl)) pe_int) pe_int) pa_nil)) pe_int))
      (pss_cons (ps_asg (pv 3) (pg_sub (pv 0) pe_int set_list))
      (pss_one (ps_ret (pe_op op_mod (pe_callTy call_int1 (by rfl) T.int (by decide +kernel) (pa_cons (pe_op op_fdiv (pv 3) pe_int) pa_nil)) (pv 1)))))))))), ?_⟩
    obtain ⟨npc, ns0, s0, hp, hc, hl, hs0, hs1⟩ := id st
    -- fewer than one: nought
    refine ⟨_, rfl, _, _, rfl, rfl, _, rfl, iteD (fun h1 => k 0 H (by omega) (by omega) (fun _ => rfl) st Keep.refl) fun h1 => ?_⟩
    -- the cells
    refine ⟨_, rfl, p, _, _, _, rfl, rfl, SqL.of hp, rfl, ?_⟩
    -- noughts at the front fall
    refine ⟨fun m σ H' => ∃ ns : List Int, m = ns.length ∧ σ = [some (.ref p), some (.int n), some (.ref c), none, none] ∧ H' p = some (.lst [.ref c, .int s0]) ∧ H' c = some (.lst (ns.map V.int)) ∧ ns.length ≤ 1000 ∧ Keep [p, c] H H',
      ⟨_, ns0, rfl, rfl, hp, hc, hl, Keep.refl⟩, ?_⟩
    rintro m σ H1 ⟨ns, rfl, rfl, hp1, hc1, hl1, kp⟩
    refine ⟨_, rfl, c, _, rfl, .inl (SqL.of hc1), _, _, rfl, rfl, _, rfl, iteD (fun h2 => ?_) fun h2 => ?_⟩
    · obtain ⟨x, r, rfl⟩ : ∃ x r, ns = x :: r := by
        cases ns with
        | nil => exact absurd h2 (by decide)
        | cons x r => exact ⟨x, r, rfl⟩
      refine ⟨_, rfl, c, _, _, _, rfl, rfl, SqL.of hc1, atI_nat (j := 0) rfl, rfl, _, rfl, iteD (fun h3 => ?_) fun h3 => ?_⟩
      · refine ⟨fun σ' H' => σ' = [some (.ref p), some (.int n), some (.ref c), none, none] ∧ H' = upd H1 c (.lst (r.map V.int)), ?_, ?_⟩
        · rintro σ' H' ⟨rfl, rfl⟩
          refine ⟨r.length, Nat.lt_succ_self _, r, rfl, rfl, by rw [upd_ne npc]; exact hp1, upd_same, by simp at hl1; omega, kp.trans (Keep.put (by simp))⟩
        · refine ⟨_, rfl, .inl ⟨rfl, _, SqL.of hc1⟩, c, _, 0, 0, _, rfl, rfl, hc1, by decide, by decide, ?_, rfl, rfl, rfl⟩
          unfold seqIndex?
          simp
      · -- a cell is there that is not nought
        refine ⟨_, rfl, c, _, rfl, .inl (SqL.of hc1), _, _, rfl, rfl, _, rfl, iteD (fun _ => ?_) fun h => absurd h2 h⟩
        refine ⟨_, rfl, c, _, _, _, rfl, rfl, SqL.of hc1, atI_nat (j := 0) rfl, ?_⟩
        refine ⟨_, rfl, _, rfl, _, _, rfl, rfl, ⟨by omega, by omega⟩, _, rfl, c, _, 0, 0, rfl, rfl, hc1, by simp [ixN], ?_⟩
        refine ⟨_, rfl, .inl ⟨_, rfl, _, rfl, _, _, rfl, rfl, by omega, ?_⟩⟩
        refine k _ _ (Int.emod_nonneg _ (by omega)) (fun _ => Int.emod_lt_of_pos _ (by omega)) (fun _ => by omega) ⟨npc, (x / n) :: r, s0, ?_, ?_, hl1, hs0, hs1⟩ (kp.trans (Keep.put (by simp)))
        · rw [upd_ne npc]; exact hp1
        · rw [upd_same]; rfl
    · -- no cell is left
      have e0 : ns = [] := by
        cases ns with
        | nil => rfl
        | cons x r => exact absurd (by simp : (0 : Int) < ((((x :: r).map V.int).length : Nat) : Int)) h2
      subst e0
      refine ⟨_, rfl, c, _, rfl, .inl (SqL.of hc1), _, _, rfl, rfl, _, rfl, iteD (fun h => absurd h h2) fun _ => ?_⟩
      refine ⟨_, rfl, p, _, _, _, rfl, rfl, SqL.of hp1, rfl, _, _, rfl, rfl, .inl ⟨by omega, by omega⟩, _, _, rfl, rfl, 
        .inl ⟨_, rfl, _, _, rfl, rfl, (by show (0 : Int) < 2147483647; decide), ?_⟩⟩
      refine ⟨_, rfl, _, rfl, p, _, 1, 1, rfl, rfl, hp1, rfl, ?_⟩
      refine ⟨_, rfl, _, _, rfl, rfl, ⟨by decide, by decide⟩, .inl ⟨_, rfl, _, rfl, _, _, rfl, rfl, by omega, ?_⟩⟩
      have b1 := Int.emod_nonneg (s0 * 48271 + 12345) (show (2147483647 : Int) ≠ 0 by decide)
      have b2 := Int.emod_lt_of_pos (s0 * 48271 + 12345) (show (0 : Int) < 2147483647 by decide)
      refine k _ _ (Int.emod_nonneg _ (by omega)) (fun _ => Int.emod_lt_of_pos _ (by omega)) (fun _ => by omega) ⟨npc, [], (s0 * 48271 + 12345) % 2147483647, ?_, ?_, by decide, b1, by omega⟩ (kp.trans (Keep.put (by simp)))
      · rw [upd_same]; rfl
      · rw [upd_ne npc.symm]; exact hc1
end
end Qw
namespace Qw
open PySem L2
section
variable {P : Program} {w : World} {K : PySem.W.Frag} {mg : Str → Option Value} {base : Heap} {a : Nat → Addr} {d : Nat → FuncData} {C : Addr}
theorem Sta.new {p c q : Addr} {H : Hp} {o : HO} (h : Sta p c H) (n : H q = none) : Sta p c (upd H q o) := h.same (Same.new n)
theorem Sta.put {p c q : Addr} {H : Hp} {o : HO} (h : Sta p c H) (n1 : q ≠ p) (n2 : q ≠ c) : Sta p c (upd H q o) := h.off (Keep.put (by simp)) n1.symm n2.symm
theorem Sta.ne {p c q : Addr} {H : Hp} (h : Sta p c H) (n : H q = none) : q ∉ [p, c] := h.dom.fresh n
theorem ne1 {q p c : Addr} (h : q ∉ [p, c]) : q ≠ p := fun e => h (by simp [e])
theorem ne2 {q p c : Addr} (h : q ∉ [p, c]) : q ≠ c := fun e => h (by simp [e])
/-- the state, and places that data keep off: the state's own among them -/
structure SX (p c : Addr) (X : List Addr) (H : Hp) : Prop where
  sta : Sta p c H
  dom : Dom X H
  sub : ∀ x ∈ [p, c], x ∈ X
section
variable {p c q : Addr} {X : List Addr} {H H' : Hp} {o : HO}
theorem SX.step (h : SX p c X H) (s : Sta p c H') (k : Keep [p, c] H H') : SX p c X H' := by
  refine ⟨s, fun x hx z => ?_, h.sub⟩
  by_cases hm : x ∈ [p, c]
  · exact s.dom x hm z
  · cases e : H x with
    | none => exact h.dom x hx e
    | some u => rw [k x u hm e] at z; cases z
theorem SX.ne (h : SX p c X H) (n : H q = none) : q ∉ X := h.dom.fresh n
theorem SX.off (h : SX p c X H) (n : q ∉ X) : q ∉ [p, c] := fun z => n (h.sub q z)
theorem SX.k (h : SX p c X H) {H1 H2 : Hp} (k : Keep [p, c] H1 H2) : Keep X H1 H2 := k.mono h.sub
theorem SX.new (h : SX p c X H) (n : H q = none) : SX p c X (upd H q o) := h.step (h.sta.new n) (Keep.new n)
theorem SX.same (h : SX p c X H) (k : Same H H') : SX p c X H' := h.step (h.sta.same k) (Keep.of k)
theorem SX.put (h : SX p c X H) (n1 : q ≠ p) (n2 : q ≠ c) : SX p c X (upd H q o) := by
  refine ⟨h.sta.put n1 n2, fun x hx z => ?_, h.sub⟩
  by_cases e : x = q
  · subst e; rw [upd_same] at z; cases z
  · rw [upd_ne e] at z; exact h.dom x hx z
/-- one more place to keep off -/
theorem SX.cons (h : SX p c X H) (e : H q ≠ none) : SX p c (q :: X) H := ⟨h.sta, fun x hx => (List.mem_cons.mp hx).elim (fun z => by rw [z]; exact e) (h.dom x), fun x hx => List.mem_cons_of_mem _ (h.sub x hx)⟩
end
/-! ### the state that a script makes -/
def spSta (K : PySem.W.Frag) : Sp := fun vs H Q _ => ∃ (q : Addr) (ns : List Int), vs = [.ref q] ∧ SqL K H q (ns.map V.int) ∧ ns.length ≤ 63 ∧ ∀ p c H', H p = none → H c = none → Sta p c H' → Same H H' → Q (.ref p) H'
theorem ok_sta (T : Tx K mg a d C) : FnOk P w K mg base CX0 1 (a 9) (d 9) ["_law_script"] (spSta K) := by
  refine T.sta.F.ok sc_sta (fun vs H Q E h => ?_) (fun cdv A outer s H vs Q E hr h => ?_)
  · obtain ⟨q, ns, rfl, _⟩ := h
    rfl
  · obtain ⟨q, ns, rfl, hq, hl, k⟩ := h
    have nd := sc_sta.nd
    have hu := hu_of hr
    refine ⟨_, (pss_cons (ps_set (i := 1) nd rfl (by first | exact Or.inl rfl | exact Or.inr rfl) pe_int)
      (pss_cons (ps_for PassesOwn.never rfl (pi_listK K rfl (pv 0)) (pg_name (i := 2) nd rfl (by first | exact Or.inl rfl | exact Or.inr rfl)) (pss_one (ps_set (i := 1) nd rfl (by first | exact Or.inl rfl | exact Or.inr rfl) (pe_op op_mod (pe_callTy call_int1 (by rfl) T.int (by decide +kernel) (pa_cons (pe_op op_add (pe_op op_mul (pv 1) pe_int) (pv 2)) pa_nil)) pe_int))))
      (pss_one (ps_ret (pe_lst (pa_cons (pe_lc (own := [("_law_cell", 2)]) (g := gName 2) (tt := tYes) (by rfl) nd (pi_listK K rfl (pv 0)) (blkOk_by (own := [("_law_cell", 2)]) (N := N_sta) (sc := defScope s_sta) (by decide +kernel)) (fun _ _ _ _ _ => (pg_name (i := 2) nd rfl (by first | exact Or.inl rfl | exact Or.inr rfl))) (fun _ _ _ _ _ => pts_nil) (fun _ _ _ _ _ => (pe_callB call_abs (by rfl) T.abs (by decide +kernel) (pa_cons (pv 2) pa_nil)))) (pa_cons (pe_op op_add (pv 1) pe_int) pa_nil))))))), ?_⟩
    refine ⟨_, rfl, q, rfl, ⟨_, hq⟩, for_list (K := K) (a := q) (xs := ns.map V.int) (fun i σ H2 => H2 = H ∧ ∃ (z : Int) (v : Option V), σ = [some (.ref q), some (.int z), v] ∧ 0 ≤ z ∧ z < 1000003) ⟨rfl, 7, none, rfl, by decide, by decide⟩ ?_ ?_ ?_⟩
    · rintro i σ H2 _ ⟨rfl, _⟩
      exact hq
    · rintro i y σ H2 hi ⟨rfl, z, v, rfl, h1, h2⟩
      obtain ⟨n, _, rfl⟩ : ∃ n, ns[i]? = some n ∧ V.int n = y := by
        rw [List.getElem?_map] at hi
        exact Option.map_eq_some_iff.mp hi
      refine ⟨_, rfl, _, _, rfl, rfl, .inl ⟨by omega, by omega⟩, _, rfl, _, _, rfl, rfl, .inl ⟨_, rfl, _, _, rfl, rfl, (by show (0 : Int) < 1000003; decide), ?_⟩⟩
      exact ⟨rfl, _, _, rfl, Int.emod_nonneg _ (by decide), Int.emod_lt_of_pos _ (by decide)⟩
    · rintro σ H2 ⟨rfl, z, v, rfl, h1, h2⟩
      refine ⟨_, rfl, q, rfl, ⟨_, hq⟩, fun D hD => lcL (K := K) (zs := ns.map fun n => (V.int n, n)) (γ := Int) (fun n => some (if n < 0 then -n else n)) (RelF V.int) hD (by rw [List.map_map]; exact hq) (line1000 (by rw [List.length_map]; omega)) relF_st (fun i z hi => ?_) fun H' acc s1 e pr => ?_⟩
      · obtain ⟨n, _, rfl⟩ : ∃ n, ns[i]? = some n ∧ (V.int n, n) = z := by
          rw [List.getElem?_map] at hi
          exact Option.map_eq_some_iff.mp hi
        intro H1 N M s1 _ hN hM
        exact ⟨rfl, _, rfl, _, rfl, hN _ _ _ rfl (Same.refl _) rfl⟩
      · have ea := relF_map pr
        subst ea
        refine ⟨_, rfl, _, _, rfl, rfl, (by show 2 ≤ sizeLine; decide), fun p hp => ?_⟩
        have npc : p ≠ D := fun z => by rw [z, e] at hp; cases hp
        refine k p D _ (s1.free hp) hD ⟨npc, _, _, upd_same, by rw [upd_ne npc.symm]; exact e, ?_, by omega, by omega⟩ (s1.trans (Same.new hp))
        refine Nat.le_trans (filterMap_len _) ?_
        simp
        omega
/-! ### one of a list -/
def spPck : Sp := fun vs H Q _ => ∃ (p c r : Addr) (xs : List V), vs = [.ref p, .ref r] ∧ Sta p c H ∧ r ∉ [p, c] ∧ H r = some (.lst xs) ∧ xs ≠ [] ∧ xs.length ≤ 100000 ∧ ∀ v H', v ∈ xs → Sta p c H' → Keep [p, c] H H' → Q v H'
theorem ok_pck (T : Tx K mg a d C) : FnOk P w K mg base CX0 2 (a 11) (d 11) ["_law_state_here", "_law_row"] spPck := by
  have G_drw : FnOk P w K mg base CX0 1 _ _ _ spDrw := ok_drw T
  refine T.pck.F.ok sc_pck (fun vs H Q E h => ?_) (fun cdv A outer s H vs Q E hr h => ?_)
  · obtain ⟨p, c, r, xs, rfl, _⟩ := h
    rfl
  · obtain ⟨p, c, r, xs, rfl, st, nr, hr1, hne, hl, k⟩ := h
    have nd := sc_pck.nd
    have hr_drw : Room 1 _ := hr
    refine ⟨_, (pss_one (ps_ret (pe_ix (ix_listK K rfl) (pv 1) (pe_call G_drw hr_drw (by rfl) T.drw.m T.drw.F.kp T.drw.b .nil pass0 (pa_cons (pv 0) (pa_cons (pe_callB (call_lenK K rfl) (by rfl) T.len (by decide +kernel) (pa_cons (pv 1) pa_nil)) pa_nil))) (fun _ _ => rfl)))), ?_⟩
    have hpos : 0 < xs.length := List.length_pos_iff.mpr hne
    refine ⟨_, rfl, _, rfl, _, rfl, r, _, rfl, .inl (SqL.of hr1), p, c, _, rfl, st, by omega, fun j H' j0 j1 _ st' kp => ?_⟩
    have hj := j1 (by omega)
    obtain ⟨v, hv⟩ : ∃ v, xs[j.toNat]? = some v := ⟨xs[j.toNat]'(by omega), List.getElem?_eq_getElem (by omega)⟩
    refine ⟨r, xs, j, v, rfl, rfl, SqL.of (kp _ _ nr hr1), ?_, k v H' (List.mem_of_getElem? hv) st' kp⟩
    have := atI_nat hv
    rwa [Int.toNat_of_nonneg j0] at this
/-! ### some of a list of vertices -/
theorem eVt (l : Lab) (b : Vx) : ∃ x r, encV l b = .tuple (x :: r) := ⟨_, _, rfl⟩
theorem eIt (l : Lab) (b : Id) : ∃ x r, encI l b = .tuple (x :: r) := ⟨_, _, rfl⟩
def spSom : Sp := fun vs H Q _ => ∃ (l : Lab) (p c : Addr) (X : List Addr) (r : V) (most : Int) (xs : List Vx), vs = [.ref p, r, .int most] ∧ SX p c X H ∧ Da X H r (encL (encV l) xs) ∧ xs.length ≤ 1000 ∧ 0 ≤ most ∧ most ≤ 10 ∧
  ∀ v H' ys, (∀ y ∈ ys, y ∈ xs) → ys.length ≤ 10 → Sta p c H' → Keep [p, c] H H' → Da X H' v (encL (encV l) ys) → Q v H'
theorem ok_som (T : Tx K mg a d C) : FnOk P w K mg base CX0 3 (a 12) (d 12) ["_law_state_here", "_law_row", "_law_most"] spSom := by
  have G_drw : FnOk P w K mg base CX0 1 _ _ _ spDrw := ok_drw T
  have G_pck : FnOk P w K mg base CX0 2 _ _ _ spPck := ok_pck T
  refine T.som.F.ok sc_som (fun vs H Q E h => ?_) (fun cdv A outer s H vs Q E hr h => ?_)
  · obtain ⟨l, p, c, X, r, most, xs, rfl, _⟩ := h
    rfl
  · obtain ⟨l, p, c, X, rv, most, xs, rfl, sx, hrow, hl, m0, m1, k⟩ := h
    have nd := sc_som.nd
    have hr_drw : Room 1 _ := hr.mono (by decide)
    have hr_pck : Room 2 _ := hr
    refine ⟨_, (pss_cons (ps_set (i := 3) nd rfl (by first | exact Or.inl rfl | exact Or.inr rfl) (pe_lst pa_nil))
      (pss_cons (ps_for PassesOwn.never rfl (pi_range1 (by rfl) T.range (pa_cons (pe_call G_drw hr_drw (by rfl) T.drw.m T.drw.F.kp T.drw.b .nil pass0 (pa_cons (pv 0) (pa_cons (pe_op op_add (pv 2) pe_int) pa_nil))) pa_nil)) (pg_name (i := 4) nd rfl (by first | exact Or.inl rfl | exact Or.inr rfl)) (pss_one (ps_if (pt_cmpR op_gt (pe_callB (call_lenK K rfl) (by rfl) T.len (by decide +kernel) (pa_cons (pv 1) pa_nil)) pe_int (nomark _)) (pss_cons (ps_set (i := 5) nd rfl (by first | exact Or.inl rfl | exact Or.inr rfl) (pe_call G_pck hr_pck (by rfl) T.pck.m T.pck.F.kp T.pck.b .nil pass0 (pa_cons (pv 0) (pa_cons (pv 1) pa_nil))))
      (pss_one (ps_if (pt_cmpR (op_notInDK K rfl hr.un65) (pv 5) (pv 3) (by rfl)) (pss_one (ps_expr (pe_bm PySem.F.plainAttrs_list PySem.F.slot_list_append PySem.F.type_list_append mt_append (pv 3) (pa_cons (pv 5) pa_nil)))) pss_nil))) pss_nil)))
      (pss_one (ps_ret (pe_callB (call_sortDK K rfl hr.units) (by rfl) T.sorted (by decide +kernel) (pa_cons (pv 3) pa_nil)))))), ?_⟩
    obtain ⟨r, us, rfl, nr, hr1, rr⟩ := hrow.getL
    refine ⟨Nat.zero_le _, fun f hf => ?_⟩
    have st := sx.sta
    have nfX := sx.ne hf
    have nf := sx.off nfX
    -- how many turns
    refine ⟨_, rfl, _, rfl, _, _, rfl, rfl, p, c, _, rfl, st.new hf, by omega, fun n H1 n0 n1 _ st1 kp1 => ?_⟩
    have hn := n1 (by omega)
    have k1 : Keep [p, c] H H1 := (Keep.new hf).trans kp1
    have hf1 : H1 f = some (.lst []) := kp1 _ _ nf upd_same
    refine ⟨_, rfl, by omega, by omega, for_range (lo := 0) (n := n.toNat) (fun i σ H2 => ∃ (x4 x5 : Option V) (ws : List V) (ys : List Vx), σ = [some (.ref p), some (.ref r), some (.int most), some (.ref f), x4, x5] ∧ Sta p c H2 ∧ Keep [p, c] H H2 ∧
      H2 f = some (.lst ws) ∧ DaAll (f :: X) H2 ws (ys.map (encV l)) ∧ (∀ y ∈ ys, y ∈ xs) ∧ ys.length ≤ i) ⟨none, none, [], [], rfl, st1, k1, hf1, .nil, by simp, Nat.le_refl _⟩ ?_ ?_⟩
    · rintro i σ H2 hi ⟨x4, x5, ws, ys, rfl, st2, k2, hf2, wy, hys, hyl⟩
      have hr2 := k2 _ _ (sx.off nr) hr1
      refine ⟨_, rfl, r, _, rfl, .inl (SqL.of hr2), _, _, rfl, rfl, _, rfl, iteD (fun hpos => ?_) fun hpos => ?_⟩
      · have hne : us ≠ [] := fun z => by rw [z] at hpos; exact absurd hpos (by decide)
        refine ⟨_, rfl, _, rfl, p, c, r, us, rfl, st2, sx.off nr, hr2, hne, ?_, fun v H3 hv st3 kp3 => ?_⟩
        · have := rr.lenB; omega
        have k3 := k2.trans kp3
        obtain ⟨y, hy, dvf⟩ := ((rr.off hf).keep ((sx.k k3).mono fun x hx => List.mem_cons_of_mem _ hx)).memB hv
        have dv := dvf.tail
        have hf3 := kp3 _ _ nf hf2
        have wy3 := wy.keep ((sx.k kp3).mono fun x hx => List.mem_cons_of_mem _ hx)
        have df : Da X H3 (.ref f) (encL (encV l) ys) := .lst nfX hf3 (wy3.less fun x hx => List.mem_cons_of_mem _ hx)
        refine ⟨_, rfl, _, rfl, notInD_of (eV l) (by decide) dv df ⟨_, rfl, iteN (fun _ => ?_) fun _ => ?_⟩⟩
        · refine ⟨_, rfl, .inl ⟨rfl, _, SqL.of hf3⟩, _, rfl, f, ws, _, rfl, rfl, hf3, small1000 (by have := wy3.lenB; omega), ?_⟩
          refine ⟨_, _, ws ++ [v], ys ++ [y], rfl, st3.put (ne1 nf) (ne2 nf), k3.over hf, upd_same, ?_, ?_, ?_⟩
          · rw [List.map_append]; exact (wy3.app (DaAll.one dvf)).put
          · intro z hz
            rcases List.mem_append.mp hz with hz | hz
            · exact hys z hz
            · rw [List.mem_singleton] at hz; subst hz; exact hy
          · simp; omega
        · exact ⟨_, _, ws, ys, rfl, st3, k3, hf3, wy3, hys, by omega⟩
      · exact ⟨_, _, ws, ys, rfl, st2, k2, hf2, wy, hys, by omega⟩
    · rintro σ H2 ⟨x4, x5, ws, ys, rfl, st2, k2, hf2, wy, hys, hyl⟩
      refine ⟨_, rfl, sortD_of (eV l) (by decide) (alV l) (eVt l) hf2 (wy.less fun x hx => List.mem_cons_of_mem _ hx) fun q us' ys' nq pm wy' => ?_⟩
      refine k _ _ ys' (fun y hy => hys y (pm.mem_iff.mp hy)) (by rw [pm.length_eq]; omega) (st2.new nq) (k2.trans (Keep.new nq)) (.lst ((sx.step st2 k2).ne nq) upd_same ?_)
      exact wy'.keep (Keep.new nq)
end
end Qw
namespace Qw
open PySem L2
/-! ### ids and vertices as keys -/
def nkLab (l : Lab) : NestedKey := .tup [.text "label", .num (l.1.val : Int), .tup ((marksOf l.2).map .num)]
def nkI (l : Lab) (i : Id) : NestedKey := .tup [nkLab l, .text (authOf i.1), .num ((i.2.val : Int) + 1)]
def nkV (l : Lab) (v : Vx) : NestedKey := .tup [nkI l v.1, .num (v.2.1 : Int), .num (v.2.2 : Int)]
theorem datas_num : ∀ ns : List Int, NestedKey.datas (ns.map .num) = ns.map .int
  | [] => by simp [NestedKey.datas]
  | n :: ns => by simp [NestedKey.datas, NestedKey.data, datas_num ns]
theorem nkI_data (l : Lab) (i : Id) : (nkI l i).data = encI l i := by
  unfold nkI nkLab encI encLab
  simp [NestedKey.data, NestedKey.datas, datas_num]
theorem nkV_data (l : Lab) (v : Vx) : (nkV l v).data = encV l v := by
  unfold nkV encV
  simp [NestedKey.data, NestedKey.datas, nkI_data]
theorem nkM_depth : ∀ m : Fin 3, NestedKey.depthAll ((marksOf m).map .num) = 0 := by decide +kernel
theorem nkI_depth (l : Lab) (i : Id) : (nkI l i).depth ≤ 8 := by
  unfold nkI nkLab
  simp [NestedKey.depth, NestedKey.depthAll, nkM_depth]
theorem nkV_depth (l : Lab) (v : Vx) : (nkV l v).depth ≤ 8 := by
  unfold nkV nkI nkLab
  simp [NestedKey.depth, NestedKey.depthAll, nkM_depth]
theorem enc_inj {β : Type} [DecidableEq β] {enc : β → PyData} {n : Nat} (E : Enc enc n) {x y : β} (h : enc x = enc y) : x = y := by
  have h1 := E.eqv x x
  rw [decide_eq_true rfl] at h1
  have h2 := E.eqv x y
  rw [← h, h1] at h2
  exact of_decide_eq_true h2.symm
theorem nkI_inj {l : Lab} {i j : Id} (h : nkI l i = nkI l j) : i = j := enc_inj (eI l) (by rw [← nkI_data, ← nkI_data, h])
theorem nkV_inj {l : Lab} {i j : Vx} (h : nkV l i = nkV l j) : i = j := enc_inj (eV l) (by rw [← nkV_data, ← nkV_data, h])
/-! ### what is known of files: each with the names and the lines given -/
abbrev KE := Vx × Addr × V × List Vx × List Vx
def keN (l : Lab) (e : KE) : NEnt := (nkV l e.1, e.2.1, e.2.2.1)
def encKv (l : Lab) (g : List Vx × List Vx) : PyData := .tuple [encL (encV l) g.1, encL (encV l) g.2]
structure KnAt (P : Program) (w : World) (l : Lab) (X : List Addr) (H : Hp) (kd : Addr) (kes : List KE) : Prop where
  at_ : H kd = some (DN P w kd (kes.map (keN l)))
  key : ∀ e ∈ kes, Da X H (.ref e.2.1) (encV l e.1)
  val : ∀ e ∈ kes, Da X H e.2.2.1 (encKv l e.2.2.2)
/-- the ids that may be spoken of; what is given is not empty; lines stand once -/
structure KeOk (S : Id → Prop) (e : KE) : Prop where
  id : S e.1.1
  ne : e.2.2.2.1 ≠ []
  gl : e.2.2.2.1.length ≤ 500
  ll : e.2.2.2.2.length ≤ 500
  gi : ∀ v ∈ e.2.2.2.1, S v.1
  li : ∀ v ∈ e.2.2.2.2, S v.1
  nd : e.2.2.2.2.Nodup
section
variable {P : Program} {w : World} {K : PySem.W.Frag} {l : Lab} {X : List Addr} {H H' : Hp} {kd : Addr} {kes : List KE}
theorem KnAt.keep (h : KnAt P w l X H kd kes) (k : Keep X H H') (n : kd ∉ X) : KnAt P w l X H' kd kes :=
  ⟨k _ _ n h.at_, fun e he => (h.key e he).keep k, fun e he => (h.val e he).keep k⟩
theorem KnAt.keep' {p c : Addr} (h : KnAt P w l X H kd kes) {H0 : Hp} (sx : SX p c X H0) (k : Keep [p, c] H H') (n : kd ∉ [p, c]) : KnAt P w l X H' kd kes :=
  ⟨k _ _ n h.at_, fun e he => (h.key e he).keep (sx.k k), fun e he => (h.val e he).keep (sx.k k)⟩
theorem KnAt.keys (h : KnAt P w l X H kd kes) : KeysOk K H (kes.map (keN l)) := fun e he => by
  obtain ⟨f, hf, rfl⟩ := List.mem_map.mp he
  refine ⟨?_, nkV_depth l f.1⟩
  show Dp K H (.ref f.2.1) (nkV l f.1).data
  rw [nkV_data]
  exact (h.key f hf).D
theorem KnAt.get (h : KnAt P w l X H kd kes) {f : KE} (hf : f ∈ kes) : ∃ g ∈ kes, g.1 = f.1 ∧ atN (kes.map (keN l)) (nkV l f.1) = some g.2.2.1 := by
  obtain ⟨v, a, e1, e2⟩ := atN_some (es := kes.map (keN l)) (k := nkV l f.1) (by
    rw [List.map_map]
    exact List.mem_map.mpr ⟨f, hf, rfl⟩)
  obtain ⟨g, hg, e3⟩ := List.mem_map.mp e2
  unfold keN at e3
  injection e3 with e4 e5
  injection e5 with e6 e7
  exact ⟨g, hg, nkV_inj e4, by rw [e1, e7]⟩
theorem KnAt.alike (kes : List KE) : PySem.W.AllAlike ((kes.map (keN l)).map fun e => e.1.data) ∧ PySem.W.Sortable ((kes.map (keN l)).map fun e => e.1.data) ∧ ∀ e ∈ kes.map (keN l), e.1.data.depth ≤ 40 := by
  have e : (kes.map (keN l)).map (fun e => e.1.data) = (kes.map (·.1)).map (encV l) := by
    rw [List.map_map, List.map_map]
    exact List.map_congr_left fun e _ => nkV_data l e.1
  rw [e]
  refine ⟨PySem.W.AllAlike.of (alV l), PySem.W.Sortable.tuples (eVt l), fun e he => ?_⟩
  obtain ⟨f, _, rfl⟩ := List.mem_map.mp he
  show (nkV l f.1).data.depth ≤ 40
  rw [nkV_data]
  exact Nat.le_trans ((eV l).dep f.1) (by decide)
end
/-! ### changes, patches -/
inductive Ch where
  | add (pd : List PyData)
  | back (i : Id)
  | move (f : Vx) (pd : List PyData) (os : List Vx)
  | drop (f : Vx) (os : List Vx)
  | cut (f : Vx) (os : List Vx)
  | order (f x y : Vx)
  | lines (f : Vx) (us ds : List Vx) (ts : List PyData)
def encCh (l : Lab) : Ch → PyData
  | .add pd => .tuple [.str "add", .tuple pd]
  | .back i => .tuple [.str "back", encI l i]
  | .move f pd os => .tuple [.str "move", encV l f, .tuple pd, encL (encV l) os]
  | .drop f os => .tuple [.str "drop", encV l f, encL (encV l) os]
  | .cut f os => .tuple [.str "cut", encV l f, encL (encV l) os]
  | .order f x y => .tuple [.str "order", encV l f, encV l x, encV l y]
  | .lines f us ds ts => .tuple [.str "lines", encV l f, encL (encV l) us, encL (encV l) ds, .list ts]
/-- it speaks of ids in S alone; a file that it changes is a key -/
def ChOk (S : Id → Prop) (ks : List Vx) : Ch → Prop
  | .add _ => True
  | .back i => S i
  | .move f _ os => f ∈ ks ∧ S f.1 ∧ os.length ≤ 10 ∧ ∀ v ∈ os, S v.1
  | .drop f os => S f.1 ∧ os.length ≤ 10 ∧ ∀ v ∈ os, S v.1
  | .cut f os => S f.1 ∧ os.length ≤ 10 ∧ ∀ v ∈ os, S v.1
  | .order f x y => S f.1 ∧ S x.1 ∧ S y.1
  | .lines f us ds ts => f ∈ ks ∧ S f.1 ∧ us.length ≤ 10 ∧ ds.length ≤ 10 ∧ (∀ v ∈ us, S v.1) ∧ (∀ v ∈ ds, S v.1) ∧ ts.length ≤ 3
section
variable {P : Program} {w : World} {K : PySem.W.Frag} {mg : Str → Option Value} {base : Heap} {a : Nat → Addr} {d : Nat → FuncData} {C : Addr}
/-! ### a path -/
def spPth : Sp := fun vs H Q _ => ∃ (p c : Addr) (X : List Addr), vs = [.ref p] ∧ SX p c X H ∧ ∀ v ds H', Sta p c H' → Keep [p, c] H H' → Da X H' v (.tuple ds) → Q v H'
theorem ok_pth (T : Tx K mg a d C) : FnOk P w K mg base CX0 3 (a 13) (d 13) ["_law_state_here"] spPth := by
  have G_pck : FnOk P w K mg base CX0 2 _ _ _ spPck := ok_pck T
  refine T.pth.F.ok sc_pth (fun vs H Q E h => ?_) (fun cdv A outer s H vs Q E hr h => ?_)
  · obtain ⟨p, c, X, rfl, _⟩ := h
    rfl
  · obtain ⟨p, c, X, rfl, st, k⟩ := h
    have nd := sc_pth.nd
    have hr_pck : Room 2 _ := hr
    refine ⟨_, (pss_one (ps_ret (pe_call G_pck hr_pck (by rfl) T.pck.m T.pck.F.kp T.pck.b .nil pass0 (pa_cons (pv 0) (pa_cons (pe_lst (pa_cons (pe_tup (pa_cons pe_str pa_nil)) (pa_cons (pe_tup (pa_cons pe_str pa_nil)) (pa_cons (pe_tup (pa_cons pe_str (pa_cons pe_str pa_nil))) (pa_cons (pe_tup (pa_cons pe_str pa_nil)) pa_nil))))) pa_nil))))), ?_⟩
    refine ⟨_, rfl, (by show 1 ≤ sizeLine; decide), fun t1 n1 => ⟨(by show 1 ≤ sizeLine; decide), fun t2 n2 => ⟨(by show 2 ≤ sizeLine; decide), fun t3 n3 => ⟨(by show 1 ≤ sizeLine; decide), fun t4 n4 => ⟨(by show 4 ≤ sizeLine; decide), fun r nr => ?_⟩⟩⟩⟩⟩
    have st1 := st.new (o := .tup [V.str "a"]) n1
    have st2 := st1.new (o := .tup [V.str "b"]) n2
    have st3 := st2.new (o := .tup [V.str "a", V.str "c"]) n3
    have st4 := st3.new (o := .tup [V.str "d1"]) n4
    have st5 := st4.new (o := .lst [.ref t1, .ref t2, .ref t3, .ref t4]) nr
    refine ⟨p, c, r, _, rfl, st5.sta, st5.off (st4.ne nr), upd_same, by simp, by simp, fun v H' hv st' kp => ?_⟩
    have kk : Keep [p, c] H H' := ((((Keep.new n1).trans (Keep.new n2)).trans (Keep.new n3)).trans (Keep.new n4)).trans ((Keep.new nr).trans kp)
    simp only [List.mem_cons, List.not_mem_nil, or_false] at hv
    rcases hv with rfl | rfl | rfl | rfl
    · exact k _ [.str "a"] H' st' kk (.tup (st.ne n1) (kp _ _ (st.off (st.ne n1)) (upd_some (upd_some (upd_some (upd_some upd_same n2) n3) n4) nr)) (.cons (.str _) .nil))
    · exact k _ [.str "b"] H' st' kk (.tup (st1.ne n2) (kp _ _ (st.off (st1.ne n2)) (upd_some (upd_some (upd_some upd_same n3) n4) nr)) (.cons (.str _) .nil))
    · exact k _ [.str "a", .str "c"] H' st' kk (.tup (st2.ne n3) (kp _ _ (st.off (st2.ne n3)) (upd_some (upd_some upd_same n4) nr)) (.cons (.str _) (.cons (.str _) .nil)))
    · exact k _ [.str "d1"] H' st' kk (.tup (st3.ne n4) (kp _ _ (st.off (st3.ne n4)) (upd_some upd_same nr)) (.cons (.str _) .nil))
end
end Qw
namespace Qw
open PySem L2
section
variable {P : Program} {w : World} {K : PySem.W.Frag} {mg : Str → Option Value} {base : Heap} {a : Nat → Addr} {d : Nat → FuncData} {C : Addr}
/-! ### some of a list, or its first, or its last -/
theorem atEnd {us : List V} {z : Int} (h : us ≠ []) (hz : z = 0 ∨ z = -1) : ∃ u ∈ us, atI us z = some u := by
  rcases hz with rfl | rfl
  · cases us with
    | nil => exact absurd rfl h
    | cons u r => exact ⟨u, List.mem_cons_self, atI_nat (j := 0) rfl⟩
  · rcases List.eq_nil_or_concat us with e | ⟨r, u, e⟩
    · exact absurd e h
    · rw [List.concat_eq_append] at e
      subst e
      exact ⟨u, by simp, atI_last r u⟩
theorem orSom {l : Lab} {p c : Addr} {X : List Addr} {H : Hp} {σ : St} {i : Nat} {g : V} {m z : Int} {TI : TE} {xs : List Vx} {Q : VK} (e0 : σ[0]? = some (some (.ref p))) (ei : σ[i]? = some (some g)) (st : SX p c X H) (hg : Da X H g (encL (encV l) xs)) (hl : xs.length ≤ 500)
    (m0 : 0 ≤ m) (m1 : m ≤ 10) (hz : ∀ H Q, Q (.int z) H → TI σ H Q) (hx : xs ≠ []) (hat : z = 0 ∨ z = -1)
    (k : ∀ v H' ys, (∀ y ∈ ys, y ∈ xs) → ys.length ≤ 10 → Sta p c H' → Keep [p, c] H H' → Da X H' v (encL (encV l) ys) → Q v H') :
    tOrT K (tCall spSom [] E0 (tCons (tVar 0) (tCons (tVar i) (tCons (tC (.int m)) tNil)))) (tLst (tCons (tOp (rIxL K) (tVar i) TI) tNil)) σ H Q := by
  refine ⟨_, e0, _, ei, l, p, c, X, g, m, xs, rfl, st, hg, by omega, m0, m1, fun v H' ys h1 h2 h3 h4 h5 => ?_⟩
  obtain ⟨f, us, rfl, nf, hf, r⟩ := id h5.getL
  refine ⟨!us.isEmpty, .inl ⟨us, SqL.of hf, rfl⟩, iteNB (fun _ => k _ H' ys h1 h2 h3 h4 h5) fun _ => ?_⟩
  obtain ⟨ga, gus, rfl, ng, hga, gr⟩ := (hg.keep (st.k h4)).getL
  have hne : gus ≠ [] := fun e => hx (by
    have := gr.lenB
    rw [e] at this
    exact List.length_eq_zero_iff.mp this.symm)
  obtain ⟨u, hu, eu⟩ := atEnd hne hat
  obtain ⟨y, hy, du⟩ := gr.memB hu
  refine ⟨_, ei, hz _ _ ⟨ga, gus, z, u, rfl, rfl, SqL.of hga, eu, (by show 1 ≤ sizeLine; decide), fun t nt => ?_⟩⟩
  exact k _ _ [y] (fun y' hy' => by rw [List.mem_singleton] at hy'; subst hy'; exact hy) (by simp) (h3.new nt) (h4.trans (Keep.new nt)) (.lst ((st.step h3 h4).ne nt) upd_same (DaAll.one (du.keep (Keep.new nt))))
theorem neD_of {β : Type} [DecidableEq β] {enc : β → PyData} {n : Nat} (E : Enc enc n) (hn : n ≤ 64) {X Y : List Addr} {H : Hp} {x y : V} {u v : β} {Q : VK} (hx : Da X H x (enc u)) (hy : Da Y H y (enc v)) (q : Q (.bl (!decide (u = v))) H) : rNeD K x y H Q := by
  refine ⟨_, _, hx.D, hy.D, E.shaped hn u, E.shaped hn v, ?_⟩
  rw [E.eqv]
  exact q
/-! ### a change -/
def spChg (P : Program) (w : World) : Sp := fun vs H Q _ => ∃ (l : Lab) (p c kd q : Addr) (X : List Addr) (kes : List KE) (ids : List Id) (S : Id → Prop), vs = [.ref p, .ref kd, .ref q] ∧ SX p c X H ∧ kd ∉ [p, c] ∧ KnAt P w l X H kd kes ∧ (∀ e ∈ kes, KeOk S e) ∧ kes.length ≤ 500 ∧
  Da X H (.ref q) (encL (encI l) ids) ∧ (∀ i ∈ ids, S i) ∧ ids.length ≤ 100 ∧ ∀ v ch H', ChOk S (kes.map (·.1)) ch → Sta p c H' → Keep [p, c] H H' → Da X H' v (encCh l ch) → Q v H'
theorem ok_chg (T : Tx K mg a d C) : FnOk P w K mg base CX0 4 (a 14) (d 14) ["_law_state_here", "_law_known", "_law_ids"] (spChg P w) := by
  have G_drw : FnOk P w K mg base CX0 1 _ _ _ spDrw := ok_drw T
  have G_pck : FnOk P w K mg base CX0 2 _ _ _ spPck := ok_pck T
  have G_pth : FnOk P w K mg base CX0 3 _ _ _ spPth := ok_pth T
  have G_som : FnOk P w K mg base CX0 3 _ _ _ spSom := ok_som T
  refine T.chg.F.ok sc_chg (fun vs H Q E h => ?_) (fun cdv A outer s H vs Q E hr h => ?_)
  · obtain ⟨l, p, c, kd, q, X, kes, ids, S, rfl, _⟩ := h
    rfl
  · obtain ⟨l, p, c, kd, q, X, kes, ids, S, rfl, sx, nkd, kn, ko, kl, hq, hS, hql, k⟩ := h
    have nd := sc_chg.nd
    have hu := hu_of hr
    have hr_drw : Room 1 _ := hr.mono (by decide)
    have hr_pck : Room 2 _ := hr.mono (by decide)
    have hr_pth : Room 3 _ := hr
    have hr_som : Room 3 _ := hr
    refine ⟨_, (pss_cons (ps_set (i := 3) nd rfl (by first | exact Or.inl rfl | exact Or.inr rfl) (pe_call G_drw hr_drw (by rfl) T.drw.m T.drw.F.kp T.drw.b .nil pass0 (pa_cons (pv 0) (pa_cons pe_int pa_nil))))
      (pss_cons (ps_if (PW.pt (pw_or (pt_cmpR op_eq (pe_callB (call_lenNK P w K rfl rfl rfl) (by rfl) T.len (by decide +kernel) (pa_cons (pv 1) pa_nil)) pe_int (nomark _)) (pw_or1 (pt_cmpR op_eq (pv 3) pe_int (nomark _))))) (pss_one (ps_ret (pe_tup (pa_cons pe_str (pa_cons (pe_call G_pth hr_pth (by rfl) T.pth.m T.pth.F.kp T.pth.b .nil pass0 (pa_cons (pv 0) pa_nil)) pa_nil))))) pss_nil)
      (pss_cons (ps_if (PW.pt (pw_and (pt_cmpR op_eq (pv 3) pe_int (nomark _)) (pw_and1 (pt_cmpR op_gt (pe_callB (call_lenK K rfl) (by rfl) T.len (by decide +kernel) (pa_cons (pv 2) pa_nil)) pe_int (nomark _))))) (pss_one (ps_ret (pe_tup (pa_cons pe_str (pa_cons (pe_call G_pck hr_pck (by rfl) T.pck.m T.pck.F.kp T.pck.b .nil pass0 (pa_cons (pv 0) (pa_cons (pv 2) pa_nil))) pa_nil))))) pss_nil)
      (pss_cons (ps_set (i := 4) nd rfl (by first | exact Or.inl rfl | exact Or.inr rfl) (pe_call G_pck hr_pck (by rfl) T.pck.m T.pck.F.kp T.pck.b .nil pass0 (pa_cons (pv 0) (pa_cons (pe_callB (call_sortNK P w K rfl rfl rfl rfl hr.units) (by rfl) T.sorted (by decide +kernel) (pa_cons (pv 1) pa_nil)) pa_nil))))
      (pss_cons (ps_asg (pe_ngetK P w K rfl rfl rfl hr.units (pv 1) (pv 4) (fun _ _ => rfl)) (pg_tupK K rfl (by rfl) (pgs_cons (pg_name (i := 6) nd rfl (by first | exact Or.inl rfl | exact Or.inr rfl)) (pgs_cons (pg_name (i := 7) nd rfl (by first | exact Or.inl rfl | exact Or.inr rfl)) pgs_nil))))
      (pss_cons (ps_if (pt_cmpR op_eq (pv 3) pe_int (nomark _)) (pss_one (ps_ret (pe_tup (pa_cons pe_str (pa_cons (pv 4) (pa_cons (pe_call G_pth hr_pth (by rfl) T.pth.m T.pth.F.kp T.pth.b .nil pass0 (pa_cons (pv 0) pa_nil)) (pa_cons (pe_orTK K rfl (pe_call G_som hr_som (by rfl) T.som.m T.som.F.kp T.som.b .nil pass0 (pa_cons (pv 0) (pa_cons (pv 6) (pa_cons pe_int pa_nil)))) (pe_one (pe_lst (pa_cons (pe_ix (ix_listK K rfl) (pv 6) (pe_un un_neg pe_int) (fun _ _ => rfl)) pa_nil)))) pa_nil))))))) pss_nil)
      (pss_cons (ps_if (pt_cmpR op_eq (pv 3) pe_int (nomark _)) (pss_one (ps_ret (pe_tup (pa_cons pe_str (pa_cons (pv 4) (pa_cons (pe_orTK K rfl (pe_call G_som hr_som (by rfl) T.som.m T.som.F.kp T.som.b .nil pass0 (pa_cons (pv 0) (pa_cons (pv 6) (pa_cons pe_int pa_nil)))) (pe_one (pe_lst (pa_cons (pe_ix (ix_listK K rfl) (pv 6) (pe_un un_neg pe_int) (fun _ _ => rfl)) pa_nil)))) pa_nil)))))) pss_nil)
      (pss_cons (ps_if (PW.pt (pw_and (pt_cmpR op_lt (pv 3) pe_int (nomark _)) (pw_and1 (pt_cmpR op_gt (pe_callB (call_lenK K rfl) (by rfl) T.len (by decide +kernel) (pa_cons (pv 7) pa_nil)) pe_int (nomark _))))) (pss_one (ps_ret (pe_tup (pa_cons pe_str (pa_cons (pv 4) (pa_cons (pe_orTK K rfl (pe_call G_som hr_som (by rfl) T.som.m T.som.F.kp T.som.b .nil pass0 (pa_cons (pv 0) (pa_cons (pv 7) (pa_cons pe_int pa_nil)))) (pe_one (pe_lst (pa_cons (pe_ix (ix_listK K rfl) (pv 7) pe_int (fun _ _ => rfl)) pa_nil)))) pa_nil)))))) pss_nil)
      (pss_cons (ps_if (PW.pt (pw_and (pt_cmpR op_lt (pv 3) pe_int (nomark _)) (pw_and1 (pt_cmpR op_gt (pe_callB (call_lenK K rfl) (by rfl) T.len (by decide +kernel) (pa_cons (pv 7) pa_nil)) pe_int (nomark _))))) (pss_cons (ps_set (i := 8) nd rfl (by first | exact Or.inl rfl | exact Or.inr rfl) (pe_call G_pck hr_pck (by rfl) T.pck.m T.pck.F.kp T.pck.b .nil pass0 (pa_cons (pv 0) (pa_cons (pv 7) pa_nil))))
      (pss_one (ps_ret (pe_tup (pa_cons pe_str (pa_cons (pv 4) (pa_cons (pv 8) (pa_cons (pe_call G_pck hr_pck (by rfl) T.pck.m T.pck.F.kp T.pck.b .nil pass0 (pa_cons (pv 0) (pa_cons (pe_lc (own := [("_law_line", 10)]) (g := gName 10) (by rfl) nd (pi_listK K rfl (pv 7)) (blkOk_by (own := [("_law_line", 10)]) (N := N_chg) (sc := defScope s_chg) (by decide +kernel)) (fun _ _ _ _ _ => (pg_name (i := 10) nd rfl (by first | exact Or.inl rfl | exact Or.inr rfl))) (fun _ _ _ _ _ => (pts_one (pt_cmpR (op_neDK K rfl hr.units) (pv 10) (pv 8) (nomark _)))) (fun _ _ _ _ _ => (pv 10))) pa_nil))) pa_nil)))))))) pss_nil)
      (pss_cons (ps_setLc (i := 5) (own := [("_law_k", 9)]) (g := gName 9) (tt := tYes) (by rfl) nd rfl rfl (sw_true rfl rfl rfl (by decide +kernel)) (pi_range1 (by rfl) T.range (pa_cons (pe_op op_add pe_int (pe_call G_drw hr_drw (by rfl) T.drw.m T.drw.F.kp T.drw.b .nil pass0 (pa_cons (pv 0) (pa_cons pe_int pa_nil)))) pa_nil)) (blkOk_by (own := [("_law_k", 9)]) (N := N_chg) (sc := defScope s_chg) (by decide +kernel)) (fun _ _ _ _ _ => (pg_name (i := 9) nd rfl (by first | exact Or.inl rfl | exact Or.inr rfl))) (fun _ _ _ _ _ => pts_nil) (fun _ _ _ _ _ => (pe_call G_pck hr_pck (by rfl) T.pck.m T.pck.F.kp T.pck.b .nil pass0 (pa_cons (pv 0) (pa_cons (pe_lst (pa_cons pe_str (pa_cons pe_str (pa_cons pe_str (pa_cons pe_str (pa_cons pe_str pa_nil)))))) pa_nil)))))
      (pss_one (ps_ret (pe_tup (pa_cons pe_str (pa_cons (pv 4) (pa_cons (pe_call G_som hr_som (by rfl) T.som.m T.som.F.kp T.som.b .nil pass0 (pa_cons (pv 0) (pa_cons (pv 7) (pa_cons pe_int pa_nil)))) (pa_cons (pe_call G_som hr_som (by rfl) T.som.m T.som.F.kp T.som.b .nil pass0 (pa_cons (pv 0) (pa_cons (pv 7) (pa_cons pe_int pa_nil)))) (pa_cons (pv 5) pa_nil)))))))))))))))))), ?_⟩
    have st := sx.sta
    obtain ⟨q, qs, e, nqX, hq1, rq⟩ := id hq.getL
    have nq := sx.off nqX
    cases e
    -- what is drawn
    refine ⟨_, rfl, p, c, _, rfl, st, by decide, fun kind H1 k0 _ _ st1 kp1 => ?_⟩
    have kn1 := kn.keep' sx kp1 nkd
    -- a new file
    have fin : ∀ {H' : Hp} {us : List V} {ds : List PyData} (ch : Ch), Sta p c H' → Keep [p, c] H H' → ChOk S (kes.map (·.1)) ch → encCh l ch = .tuple ds → us.length ≤ 5 → DaAll X H' us ds → us.length ≤ sizeLine ∧ ∀ t, H' t = none → Q (.ref t) (upd H' t (.tup us)) := by
      intro H' us ds ch s' k' ok e hl r
      refine ⟨line1000 (by omega), fun t nt => k _ ch _ ok (s'.new nt) (k'.trans (Keep.new nt)) ?_⟩
      rw [e]
      exact .tup ((sx.step s' k').ne nt) upd_same (r.keep (Keep.new nt))
    dsimp only [gName]
    refine seqOr (fun _ q => ⟨_, rfl, kd, _, rfl, kn1.at_, kn1.keys, rfl, _, rfl, q⟩) (fun _ _ q => ⟨_, rfl, rfl, _, rfl, q⟩) (fun _ => ?_) fun h0 _ => ?_
    · refine ⟨_, rfl, p, c, X, rfl, sx.step st1 kp1, fun v ds H2 st2 kp2 dv => ?_⟩
      exact fin (.add ds) st2 (kp1.trans kp2) True.intro rfl (by simp) (.cons (.str _) (.cons dv .nil))
    have hne : kes ≠ [] := fun e => of_decide_eq_false h0 (by rw [e]; rfl)
    -- a patch is taken back
    have hq2 := kp1 _ _ nq hq1
    refine seqAnd (fun _ q => ⟨_, rfl, rfl, _, rfl, q⟩) (fun _ _ z => ⟨_, rfl, q, _, rfl, .inl (SqL.of hq2), _, _, rfl, rfl, _, rfl, z⟩) (fun _ h2 => ?_) fun _ => ?_
    · have h2 := of_decide_eq_true h2
      have hqe : qs ≠ [] := fun e => by rw [e] at h2; exact absurd h2 (by decide)
      refine ⟨_, rfl, _, rfl, p, c, q, qs, rfl, st1, nq, hq2, hqe, (by have := rq.lenB; omega), fun v H2 hv st2 kp2 => ?_⟩
      obtain ⟨i, hi, dv⟩ := (rq.keep (sx.k (kp1.trans kp2))).memB hv
      exact fin (.back i) st2 (kp1.trans kp2) (hS i hi) rfl (by simp) (.cons (.str _) (.cons dv .nil))
    -- a file
    refine ⟨_, rfl, _, rfl, kd, _, rfl, kn1.at_, kn1.keys, (KnAt.alike kes).1, (KnAt.alike kes).2.1, (KnAt.alike kes).2.2, fun sl es' nsl pm => ?_⟩
    have hsl : es' ≠ [] := fun e => hne (by
      have := pm.length_eq
      rw [e, List.length_map] at this
      exact List.length_eq_zero_iff.mp this.symm)
    refine ⟨p, c, sl, _, rfl, st1.new nsl, st1.ne nsl, upd_same, by simpa using hsl, (by rw [List.length_map, pm.length_eq, List.length_map]; omega), fun fv H2 hfv st2 kp2 => ?_⟩
    have k2 : Keep [p, c] H H2 := kp1.trans ((Keep.new nsl).trans kp2)
    obtain ⟨e', he', rfl⟩ := List.mem_map.mp hfv
    obtain ⟨f, hf, rfl⟩ := List.mem_map.mp (pm.mem_iff.mp he')
    have kn2 := kn.keep' sx k2 nkd
    obtain ⟨g, hg, eg, ea⟩ := kn2.get hf
    have df : Da X H2 (.ref f.2.1) (encV l f.1) := kn2.key f hf
    refine ⟨_, rfl, _, rfl, kd, f.2.1, _, nkV l f.1, g.2.2.1, rfl, rfl, kn2.at_, kn2.keys, ?_, nkV_depth _ _, ea, ?_⟩
    · rw [nkV_data]; exact df.D
    obtain ⟨gp, gxs, egv, ngp, hgp, rg⟩ := (kn2.val g hg).getT
    obtain ⟨gv, r1, rfl, dgv, rg1⟩ := rg.uncons
    obtain ⟨lv, r2, rfl, dlv, rg2⟩ := rg1.uncons
    have := rg2.nil'
    subst this
    refine ⟨gp, _, egv, SqT.of hgp, rfl, gv, _, rfl, lv, _, rfl, rfl, ?_⟩
    have og := ko g hg
    have of_ := ko f hf
    have fk : f.1 ∈ kes.map (·.1) := List.mem_map.mpr ⟨f, hf, rfl⟩
    -- the names are moved
    refine ⟨_, rfl, rfl, _, rfl, iteD (fun _ => ?_) fun _ => ?_⟩
    · refine ⟨_, rfl, _, rfl, p, c, X, rfl, sx.step st2 k2, fun v ds H3 st3 kp3 dv => ?_⟩
      refine orSom (l := l) (p := p) (c := c) (g := gv) (xs := g.2.2.2.1) (z := -1) rfl rfl (sx.step st3 (k2.trans kp3)) (dgv.keep (sx.k kp3)) og.gl (by decide) (by decide) (fun _ _ q => ⟨_, rfl, q⟩) og.ne (.inr rfl) fun o H4 ys hys hyl st4 kp4 dov => ?_
      exact fin (.move f.1 ds ys) st4 (k2.trans (kp3.trans kp4)) ⟨fk, of_.id, hyl, fun v hv => og.gi v (hys v hv)⟩ rfl (by simp) (.cons (.str _) (.cons (df.keep (sx.k (kp3.trans kp4))) (.cons (dv.keep (sx.k kp4)) (.cons dov .nil))))
    -- names are dropped
    refine ⟨_, rfl, rfl, _, rfl, iteD (fun _ => ?_) fun _ => ?_⟩
    · refine ⟨_, rfl, ?_⟩
      refine orSom (l := l) (p := p) (c := c) (g := gv) (xs := g.2.2.2.1) (z := -1) rfl rfl (sx.step st2 k2) dgv og.gl (by decide) (by decide) (fun _ _ q => ⟨_, rfl, q⟩) og.ne (.inr rfl) fun o H4 ys hys hyl st4 kp4 dov => ?_
      exact fin (.drop f.1 ys) st4 (k2.trans kp4) ⟨of_.id, hyl, fun v hv => og.gi v (hys v hv)⟩ rfl (by simp) (.cons (.str _) (.cons (df.keep (sx.k kp4)) (.cons dov .nil)))
    -- lines are cut
    obtain ⟨lp, lus, rfl, nlpX, hlp, rl⟩ := id dlv.getL
    have nlp := sx.off nlpX
    dsimp only [tNext]
    refine seqAnd (fun _ q => ⟨_, rfl, _, _, rfl, rfl, _, rfl, q⟩) (fun _ _ q => ⟨_, rfl, lp, _, rfl, .inl (SqL.of hlp), _, _, rfl, rfl, _, rfl, q⟩) (fun _ h2 => ?_) fun _ => ?_
    · have hne2 : g.2.2.2.2 ≠ [] := fun e => by
        have e1 := rl.lenB
        rw [e] at e1
        have h3 := of_decide_eq_true h2
        rw [e1] at h3
        exact absurd h3 (by decide)
      refine ⟨_, rfl, ?_⟩
      refine orSom (l := l) (p := p) (c := c) (g := .ref lp) (xs := g.2.2.2.2) (z := 0) rfl rfl (sx.step st2 k2) dlv og.ll (by decide) (by decide) (fun _ _ q => q) hne2 (.inl rfl) fun o H4 ys hys hyl st4 kp4 dov => ?_
      exact fin (.cut f.1 ys) st4 (k2.trans kp4) ⟨of_.id, hyl, fun v hv => og.li v (hys v hv)⟩ rfl (by simp) (.cons (.str _) (.cons (df.keep (sx.k kp4)) (.cons dov .nil)))
    -- two lines in order
    refine seqAnd (fun _ q => ⟨_, rfl, _, _, rfl, rfl, _, rfl, q⟩) (fun _ _ q => ⟨_, rfl, lp, _, rfl, .inl (SqL.of hlp), _, _, rfl, rfl, _, rfl, q⟩) (fun _ h2 => ?_) fun _ => ?_
    · have h3 := of_decide_eq_true h2
      rw [rl.lenB] at h3
      have hne2 : lus ≠ [] := fun e => by
        have e1 := rl.lenB
        rw [e] at e1
        simp at e1
        rw [← e1] at h3
        exact absurd h3 (by decide)
      refine ⟨_, rfl, _, rfl, p, c, lp, lus, rfl, st2, nlp, hlp, hne2, (by have := rl.lenB; have := og.ll; omega), fun ov H3 hov st3 kp3 => ?_⟩
      obtain ⟨one, hone, dov⟩ := (rl.keep (sx.k kp3)).memB hov
      obtain ⟨zs, e1, e2, hz⟩ := (rl.keep (sx.k kp3)).zip
      subst e1
      have hlp3 := kp3 _ _ nlp hlp
      refine ⟨_, rfl, _, rfl, _, rfl, _, rfl, lp, rfl, ⟨_, SqL.of hlp3⟩, fun D hD => lcL (K := K) (γ := Vx) (fun y => if y = one then none else some y) (RelD (D :: X) (encV l)) hD (SqL.of hlp3) (line1000 ?_) relD_st (fun j z hj => ?_) fun H4 acc s4 e4 pr => ?_⟩
      · have := og.ll
        rw [← e2, List.length_map] at this
        omega
      · intro H1 N M s1 _ hN hM
        have dz := hz z (List.mem_of_getElem? hj)
        refine ⟨rfl, _, rfl, _, rfl, neD_of (eV l) (by decide) (dz.same s1) (dov.same s1) ⟨_, rfl, iteN (fun hm => ⟨_, rfl, hN _ _ _ (if_neg hm) (Same.refl _) ?_⟩) fun hm => hM _ (if_pos hm) (Same.refl _)⟩⟩
        exact ((dz.off hD).same s1)
      · have ra := relD_all pr
        rw [e2] at ra
        have st4 := st3.same s4
        have nDX : D ∉ X := (sx.step st3 (k2.trans kp3)).ne hD
        have nD := sx.off nDX
        have hacc : acc ≠ [] := fun e => by
          rw [e] at ra
          have e5 := ra.lenB
          have h6 : ∀ y ∈ g.2.2.2.2, y = one := by
            intro y hy
            by_cases hy1 : y = one
            · exact hy1
            · exfalso
              have : y ∈ g.2.2.2.2.filterMap fun y => if y = one then none else some y := List.mem_filterMap.mpr ⟨y, hy, if_neg hy1⟩
              rw [List.length_eq_zero_iff.mp e5.symm] at this
              exact absurd this (by simp)
          have h7 := og.nd
          cases hg2 : g.2.2.2.2 with
          | nil => rw [hg2] at h3; exact absurd h3 (by decide)
          | cons y1 r =>
            cases r with
            | nil => rw [hg2] at h3; exact absurd h3 (by simp)
            | cons y2 r =>
              rw [hg2] at h7 h6
              have a1 := h6 y1 (by simp)
              have a2 := h6 y2 (by simp)
              rw [a1, a2] at h7
              simp at h7
        have hal : acc.length ≤ 100000 := by
          have h8 := ra.lenB
          have h9 := filterMap_len (f := fun y => if y = one then none else some y) g.2.2.2.2
          have := og.ll
          omega
        refine ⟨p, c, D, acc, rfl, st4, nD, e4, hacc, hal, fun xv H5 hxv st5 kp5 => ?_⟩
        obtain ⟨y, hy, dxv⟩ := ((ra.less fun x hx => List.mem_cons_of_mem _ hx).keep (sx.k kp5)).memB hxv
        obtain ⟨y', hy', e6⟩ := List.mem_filterMap.mp hy
        have e7 : y' = y := by
          by_cases hy1 : y' = one
          · rw [if_pos hy1] at e6; cases e6
          · rw [if_neg hy1] at e6; exact Option.some.inj e6
        subst e7
        have k5 : Keep [p, c] H2 H5 := (kp3.trans (Keep.of s4)).trans kp5
        exact fin (.order f.1 one y') st5 (k2.trans k5) ⟨of_.id, og.li _ hone, og.li _ hy'⟩ rfl (by simp) (.cons (.str _) (.cons (df.keep (sx.k k5)) (.cons (dov.keep (sx.k ((Keep.of s4).trans kp5))) (.cons dxv .nil))))
    -- new lines
    refine ⟨_, rfl, p, c, _, rfl, st2, by decide, fun n H3 n0 n1 _ st3 kp3 => ?_⟩
    have n2 := n1 (by decide)
    refine ⟨1, n, rfl, rfl, 1 + n, rfl, by omega, by omega, fun D hD => ?_⟩
    have nDX : D ∉ X := (sx.step st3 (k2.trans kp3)).ne hD
    have nD := sx.off nDX
    refine lc_range (lo := 0) (n := (1 + n).toNat) (fun i H' => ∃ (acc : List V) (ds : List PyData), H' D = some (.lst acc) ∧ Sta p c H' ∧ Keep [p, c] H3 H' ∧ DaAll (D :: X) H' acc ds ∧ acc.length = i) ⟨[], [], upd_same, st3.new hD, Keep.new hD, .nil, rfl⟩ ?_ ?_
    · rintro i H4 hi ⟨acc, ds, e4, st4, kp4, ra, hal⟩
      refine ⟨rfl, _, rfl, (by show 5 ≤ sizeLine; decide), fun r nr => ?_⟩
      refine ⟨p, c, r, _, rfl, st4.new nr, st4.ne nr, upd_same, by simp, by simp, fun tv H5 htv st5 kp5 => ?_⟩
      have nDr : D ≠ r := fun z => by rw [z, nr] at e4; cases e4
      refine ⟨acc, kp5 _ _ nD (by rw [upd_ne nDr]; exact e4), small1000 (by omega), ?_⟩
      obtain ⟨x, rfl⟩ : ∃ x : Str, tv = .str x := by
        simp only [List.mem_cons, List.not_mem_nil, or_false] at htv
        rcases htv with rfl | rfl | rfl | rfl | rfl <;> exact ⟨_, rfl⟩
      refine ⟨acc ++ [.str x], ds ++ [.str x], upd_same, st5.put (ne1 nD) (ne2 nD), (kp4.trans ((Keep.new nr).trans kp5)).over hD, ?_, by simp [hal]⟩
      exact (((ra.keep (Keep.new nr)).keep ((sx.k kp5).mono fun x hx => List.mem_cons_of_mem _ hx)).app (DaAll.one (.str x))).put
    · rintro H4 ⟨acc, ds, e4, st4, kp4, ra, hal⟩
      have k4 : Keep [p, c] H2 H4 := kp3.trans kp4
      refine ⟨_, rfl, _, rfl, _, rfl, l, p, c, X, .ref lp, 2, g.2.2.2.2, rfl, sx.step st4 (k2.trans k4), dlv.keep (sx.k k4), by have := og.ll; omega, by decide, by decide, fun u H5 us hus hul st5 kp5 du => ?_⟩
      refine ⟨_, rfl, _, rfl, l, p, c, X, .ref lp, 2, g.2.2.2.2, rfl, sx.step st5 (k2.trans (k4.trans kp5)), dlv.keep (sx.k (k4.trans kp5)), by have := og.ll; omega, by decide, by decide, fun u2 H6 us2 hus2 hul2 st6 kp6 du2 => ?_⟩
      have k6 := k4.trans (kp5.trans kp6)
      refine ⟨_, rfl, ?_⟩
      refine fin (.lines f.1 us us2 ds) st6 (k2.trans k6) ⟨fk, of_.id, hul, hul2, fun v hv => og.li v (hus v hv), fun v hv => og.li v (hus2 v hv), ?_⟩ rfl (by simp) (.cons (.str _) (.cons (df.keep (sx.k k6)) (.cons (du.keep (sx.k kp6)) (.cons du2 (.cons (Da.keep (.lst nDX e4 (ra.less fun x hx => List.mem_cons_of_mem _ hx)) (sx.k (kp5.trans kp6))) .nil)))))
      have := ra.len
      omega
end
end Qw
namespace Qw
open PySem L2
/-! ### patches, rows of patches -/
abbrev PT := Id × List Ch × Str
def encPt (l : Lab) (t : PT) : PyData := .tuple [.str "patch", encI l t.1, .list (t.2.1.map (encCh l)), .str t.2.2]
def idsOf (row : List PT) : List Id := row.map (·.1)
theorem ChOk.mono {S S' : Id → Prop} {ks ks' : List Vx} (h : ∀ i, S i → S' i) (hk : ∀ f ∈ ks, f ∈ ks') : ∀ {ch : Ch}, ChOk S ks ch → ChOk S' ks' ch
  | .add _, _ => True.intro
  | .back i, o => h i o
  | .move f _ os, o => ⟨hk _ o.1, h _ o.2.1, o.2.2.1, fun v hv => h _ (o.2.2.2 v hv)⟩
  | .drop f os, o => ⟨h _ o.1, o.2.1, fun v hv => h _ (o.2.2 v hv)⟩
  | .cut f os, o => ⟨h _ o.1, o.2.1, fun v hv => h _ (o.2.2 v hv)⟩
  | .order f x y, o => ⟨h _ o.1, h _ o.2.1, h _ o.2.2⟩
  | .lines f us ds ts, o => ⟨hk _ o.1, h _ o.2.1, o.2.2.1, o.2.2.2.1, fun v hv => h _ (o.2.2.2.2.1 v hv), fun v hv => h _ (o.2.2.2.2.2.1 v hv), o.2.2.2.2.2.2⟩
structure PtOk (bf : List Id) (t : PT) : Prop where
  n : t.2.1.length ≤ 3
  ch : ∀ ch ∈ t.2.1, ∃ ks, ChOk (fun i => i = t.1 ∨ i ∈ bf) ks ch
def RowOk (row : List PT) : Prop := ∀ (j : Nat) (t : PT), row[j]? = some t → PtOk (idsOf (row.take j)) t
theorem RowOk.snoc {row : List PT} {t : PT} (h : RowOk row) (ht : PtOk (idsOf row) t) : RowOk (row ++ [t]) := by
  intro j u hj
  by_cases hlt : j < row.length
  · rw [List.getElem?_append_left hlt] at hj
    rw [List.take_append_of_le_length (by omega)]
    exact h j u hj
  · rw [List.getElem?_append_right (by omega)] at hj
    have hj0 : j - row.length = 0 := by
      cases e : j - row.length with
      | zero => rfl
      | succ k => rw [e] at hj; simp at hj
    rw [hj0] at hj
    have : t = u := by simpa using hj
    subst this
    have e : j = row.length := by omega
    rw [e, List.take_append_of_le_length (Nat.le_refl _), List.take_length]
    exact ht
/-- how many ids an author has; the next one is new -/
def cnt (a : Fin 3) (is : List Id) : Nat := (is.filter fun j => decide (j.1 = a)).length
def Uq (is : List Id) : Prop := ∀ i ∈ is, i.2.val < cnt i.1 is
theorem Uq.new {is : List Id} {a : Fin 3} {n : Fin 8} (h : Uq is) (e : n.val = cnt a is) : (a, n) ∉ is := fun z => by
  have := h _ z
  simp only [e] at this
  exact absurd this (Nat.lt_irrefl _)
theorem Uq.snoc {is : List Id} {a : Fin 3} {n : Fin 8} (h : Uq is) (e : n.val = cnt a is) : Uq (is ++ [(a, n)]) := by
  have mono : ∀ b, cnt b is ≤ cnt b (is ++ [(a, n)]) := fun b => by
    unfold cnt
    rw [List.filter_append, List.length_append]
    omega
  intro i hi
  rcases List.mem_append.mp hi with hi | hi
  · exact Nat.lt_of_lt_of_le (h i hi) (mono _)
  · rw [List.mem_singleton] at hi
    subst hi
    show n.val < cnt a (is ++ [(a, n)])
    unfold cnt
    rw [List.filter_append, List.length_append]
    unfold cnt at e
    simp [e]
theorem cnt_le (a : Fin 3) (is : List Id) : cnt a is ≤ is.length := List.length_filter_le _ _
/-! ### the table of files, stored into -/
def putE (kes : List KE) (x : Vx) (a : Addr) (v : V) (g : List Vx × List Vx) : List KE :=
  if kes.any (fun e => decide (e.1 = x)) then kes.map fun e => if e.1 = x then (e.1, e.2.1, v, g) else e else kes ++ [(x, a, v, g)]
theorem putE_keN (l : Lab) (kes : List KE) (x : Vx) (a : Addr) (v : V) (g : List Vx × List Vx) : (putE kes x a v g).map (keN l) = putN (kes.map (keN l)) (nkV l x) a v := by
  have e1 : (kes.map (keN l)).any (fun e => decide (e.1 = nkV l x)) = kes.any fun e => decide (e.1 = x) := by
    rw [List.any_map]
    refine congrArg (List.any kes) (funext fun e => ?_)
    show decide (nkV l e.1 = nkV l x) = decide (e.1 = x)
    exact decide_eq_decide.mpr ⟨nkV_inj, fun h => by rw [h]⟩
  unfold putE putN
  rw [e1]
  split
  · rw [List.map_map, List.map_map]
    refine List.map_congr_left fun e _ => ?_
    show keN l (if e.1 = x then (e.1, e.2.1, v, g) else e) = if nkV l e.1 = nkV l x then (nkV l e.1, e.2.1, v) else keN l e
    by_cases h : e.1 = x
    · rw [if_pos h, if_pos (by rw [h])]; rfl
    · rw [if_neg h, if_neg fun z => h (nkV_inj z)]
  · rw [List.map_append]; rfl
theorem putE_mem {kes : List KE} {x : Vx} {a : Addr} {v : V} {g : List Vx × List Vx} {e : KE} (h : e ∈ putE kes x a v g) : e ∈ kes ∨ (e.1 = x ∧ e.2.2.1 = v ∧ e.2.2.2 = g ∧ (e.2.1 = a ∨ ∃ f ∈ kes, f.1 = x ∧ f.2.1 = e.2.1)) := by
  unfold putE at h
  split at h
  · obtain ⟨f, hf, rfl⟩ := List.mem_map.mp h
    by_cases hk : f.1 = x
    · rw [if_pos hk]
      exact .inr ⟨hk, rfl, rfl, .inr ⟨f, hf, hk, rfl⟩⟩
    · rw [if_neg hk]; exact .inl hf
  · rcases List.mem_append.mp h with h | h
    · exact .inl h
    · rw [List.mem_singleton] at h
      subst h
      exact .inr ⟨rfl, rfl, rfl, .inl rfl⟩
theorem putE_len (kes : List KE) (x : Vx) (a : Addr) (v : V) (g : List Vx × List Vx) : (putE kes x a v g).length ≤ kes.length + 1 := by
  unfold putE
  split <;> simp
theorem KeOk.mono {S S' : Id → Prop} {e : KE} (o : KeOk S e) (h : ∀ i, S i → S' i) : KeOk S' e := ⟨h _ o.id, o.ne, o.gl, o.ll, fun v hv => h _ (o.gi v hv), fun v hv => h _ (o.li v hv), o.nd⟩
/-! ### what holds while a row of patches is made -/
structure PwI (P : Program) (w : World) (l : Lab) (p c rw kd : Addr) (Y : List Addr) (lab : V) (H0 H : Hp) (us : List V) (row : List PT) (kes : List KE) (S : Id → Prop) (t : Nat) : Prop where
  sx : SX p c Y H
  kp : Keep [p, c] H0 H
  inr : rw ∈ Y
  ink : kd ∈ Y
  nr : rw ∉ [p, c]
  nk : kd ∉ [p, c]
  zr : H0 rw = none
  zk : H0 kd = none
  lda : Da Y H lab (encLab l)
  rwe : H rw = some (.lst us)
  rda : DaAll Y H us (row.map (encPt l))
  rok : RowOk row
  uq : Uq (idsOf row)
  kn : KnAt P w l Y H kd kes
  ko : ∀ e ∈ kes, KeOk S e
  kl : kes.length ≤ t
  kb : ∀ e ∈ kes, e.2.2.2.1.length ≤ 1 + t ∧ e.2.2.2.2.length ≤ 3 * t
  tb : t ≤ 100
section
variable {P : Program} {w : World} {l : Lab} {p c rw kd q : Addr} {Y : List Addr} {lab : V} {H0 H H' : Hp} {us : List V} {row : List PT} {kes : List KE} {S : Id → Prop} {t : Nat} {o : HO}
theorem PwI.step (h : PwI P w l p c rw kd Y lab H0 H us row kes S t) (s : Sta p c H') (k : Keep [p, c] H H') : PwI P w l p c rw kd Y lab H0 H' us row kes S t :=
  { h with sx := h.sx.step s k, kp := h.kp.trans k, lda := h.lda.keep (h.sx.k k), rwe := k _ _ h.nr h.rwe, rda := h.rda.keep (h.sx.k k), kn := h.kn.keep' h.sx k h.nk }
theorem PwI.new (h : PwI P w l p c rw kd Y lab H0 H us row kes S t) (n : H q = none) : PwI P w l p c rw kd Y lab H0 (upd H q o) us row kes S t := h.step (h.sx.sta.new n) (Keep.new n)
theorem PwI.same (h : PwI P w l p c rw kd Y lab H0 H us row kes S t) (k : Same H H') : PwI P w l p c rw kd Y lab H0 H' us row kes S t := h.step (h.sx.sta.same k) (Keep.of k)
theorem PwI.fresh0 (h : PwI P w l p c rw kd Y lab H0 H us row kes S t) (n : H q = none) : H0 q = none := h.kp.free h.sx.sta.dom n
/-- a new object to keep off -/
theorem PwI.cons (h : PwI P w l p c rw kd Y lab H0 H us row kes S t) (n : H q = none) : PwI P w l p c rw kd (q :: Y) lab H0 (upd H q o) us row kes S t := by
  have h' := h.new (o := o) n
  refine { h' with sx := h'.sx.cons (by rw [upd_same]; simp), inr := List.mem_cons_of_mem _ h.inr, ink := List.mem_cons_of_mem _ h.ink, lda := h.lda.new n, rda := h.rda.new n, kn := ⟨h'.kn.at_, fun e he => (h.kn.key e he).new n, fun e he => (h.kn.val e he).new n⟩ }
theorem PwI.less (h : PwI P w l p c rw kd (q :: Y) lab H0 H us row kes S t) (i1 : rw ∈ Y) (i2 : kd ∈ Y) (i3 : ∀ x ∈ [p, c], x ∈ Y) : PwI P w l p c rw kd Y lab H0 H us row kes S t :=
  { h with sx := ⟨h.sx.sta, fun x hx => h.sx.dom x (List.mem_cons_of_mem _ hx), i3⟩, inr := i1, ink := i2, lda := h.lda.tail, rda := h.rda.tail, kn := ⟨h.kn.at_, fun e he => (h.kn.key e he).tail, fun e he => (h.kn.val e he).tail⟩ }
/-- the object at q is changed; data keep off it -/
theorem PwI.put (h : PwI P w l p c rw kd Y lab H0 H us row kes S t) (iq : q ∈ Y) (n1 : q ∉ [p, c]) (n2 : rw ≠ q) (n3 : kd ≠ q) (z : H0 q = none) : PwI P w l p c rw kd Y lab H0 (upd H q o) us row kes S t :=
  { h with sx := h.sx.put (ne1 n1) (ne2 n1), kp := h.kp.over z, lda := h.lda.keep (Keep.put iq), rwe := by rw [upd_ne n2]; exact h.rwe, rda := h.rda.keep (Keep.put iq), kn := ⟨by rw [upd_ne n3]; exact h.kn.at_, fun e he => (h.kn.key e he).keep (Keep.put iq), fun e he => (h.kn.val e he).keep (Keep.put iq)⟩ }
/-- a file is stored -/
theorem PwI.store (h : PwI P w l p c rw kd Y lab H0 H us row kes S t) {x : Vx} {b : Addr} {v : V} {g : List Vx × List Vx} (hk : Da Y H (.ref b) (encV l x)) (hv : Da Y H v (encKv l g)) (nrk : rw ≠ kd) (ok : KeOk S (x, b, v, g)) (b1 : g.1.length ≤ 1 + (t + 1)) (b2 : g.2.length ≤ 3 * (t + 1)) (tb : t + 1 ≤ 100) :
    PwI P w l p c rw kd Y lab H0 (upd H kd (DN P w kd (putN (kes.map (keN l)) (nkV l x) b v))) us row (putE kes x b v g) S (t + 1) := by
  have kk : ∀ {o : HO}, Keep Y H (upd H kd o) := Keep.put h.ink
  refine { h with sx := h.sx.put (ne1 h.nk) (ne2 h.nk), kp := h.kp.over h.zk, lda := h.lda.keep kk, rwe := by rw [upd_ne nrk]; exact h.rwe, rda := h.rda.keep kk, kn := ⟨by rw [upd_same, putE_keN], fun e he => ?_, fun e he => ?_⟩, ko := fun e he => ?_, kl := ?_, kb := fun e he => ?_, tb := tb }
  · rcases putE_mem he with he | ⟨e1, e2, e3, e4⟩
    · exact (h.kn.key e he).keep kk
    · rw [e1]
      rcases e4 with e4 | ⟨f, hf, f1, f2⟩
      · rw [e4]; exact hk.keep kk
      · rw [← f2, ← f1]; exact (h.kn.key f hf).keep kk
  · rcases putE_mem he with he | ⟨e1, e2, e3, e4⟩
    · exact (h.kn.val e he).keep kk
    · rw [e2, e3]; exact hv.keep kk
  · rcases putE_mem he with he | ⟨e1, e2, e3, e4⟩
    · exact h.ko e he
    · obtain ⟨k1, k2, k3, k4, k5, k6, k7⟩ := ok
      exact ⟨by rw [e1]; exact k1, by rw [e3]; exact k2, by rw [e3]; exact k3, by rw [e3]; exact k4, by rw [e3]; exact k5, by rw [e3]; exact k6, by rw [e3]; exact k7⟩
  · have := putE_len kes x b v g
    have := h.kl
    omega
  · rcases putE_mem he with he | ⟨e1, e2, e3, e4⟩
    · have := h.kb e he
      omega
    · rw [e3]; exact ⟨b1, b2⟩
theorem PwI.more {t' : Nat} (h : PwI P w l p c rw kd Y lab H0 H us row kes S t) (h1 : t ≤ t') (h2 : t' ≤ 100) : PwI P w l p c rw kd Y lab H0 H us row kes S t' :=
  { h with kl := by have := h.kl; omega, kb := fun e he => by have := h.kb e he; omega, tb := h2 }
theorem PwI.wide {S' : Id → Prop} (h : PwI P w l p c rw kd Y lab H0 H us row kes S t) (hS : ∀ i, S i → S' i) : PwI P w l p c rw kd Y lab H0 H us row kes S' t :=
  { h with ko := fun e he => (h.ko e he).mono hS }
/-- a patch is put behind the row -/
theorem PwI.push {pt : Addr} {x : PT} (h : PwI P w l p c rw kd Y lab H0 H us row kes S t) (nrk : rw ≠ kd) (hp : Da Y H (.ref pt) (encPt l x)) (ht : PtOk (idsOf row) x) (hu : Uq (idsOf (row ++ [x]))) (hS : ∀ i, S i → i ∈ idsOf (row ++ [x])) :
    PwI P w l p c rw kd Y lab H0 (upd H rw (.lst (us ++ [.ref pt]))) (us ++ [.ref pt]) (row ++ [x]) kes (fun i => i ∈ idsOf (row ++ [x])) t := by
  have kk : ∀ {o : HO}, Keep Y H (upd H rw o) := Keep.put h.inr
  refine { h with sx := h.sx.put (ne1 h.nr) (ne2 h.nr), kp := h.kp.over h.zr, lda := h.lda.keep kk, rwe := upd_same, rda := ?_, rok := h.rok.snoc ht, uq := hu, kn := ⟨by rw [upd_ne nrk.symm]; exact h.kn.at_, fun e he => (h.kn.key e he).keep kk, fun e he => (h.kn.val e he).keep kk⟩, ko := fun e he => (h.ko e he).mono hS }
  rw [List.map_append]
  exact (h.rda.app (DaAll.one hp)).keep kk
end
/-! ### a patch, an id: what stands there -/
section
variable {X : List Addr} {H : Hp} {v : V} {l : Lab}
theorem pt_get {t : PT} (h : Da X H v (encPt l t)) : ∃ pa idv chv, v = .ref pa ∧ H pa = some (.tup [.str "patch", idv, chv, .str t.2.2]) ∧ Da X H idv (encI l t.1) ∧ Da X H chv (.list (t.2.1.map (encCh l))) := by
  obtain ⟨pa, xs, e, _, hp, r⟩ := h.getT
  obtain ⟨v1, r1, rfl, d1, s1⟩ := r.uncons
  obtain ⟨v2, r2, rfl, d2, s2⟩ := s1.uncons
  obtain ⟨v3, r3, rfl, d3, s3⟩ := s2.uncons
  obtain ⟨v4, r4, rfl, d4, s4⟩ := s3.uncons
  rw [s4.nil', d1.getS, d4.getS] at hp
  exact ⟨pa, v2, v3, e, hp, d2, d3⟩
theorem id_get {i : Id} (h : Da X H v (encI l i)) : ∃ ia lab, v = .ref ia ∧ H ia = some (.tup [lab, .str (authOf i.1), .int ((i.2.val : Int) + 1)]) ∧ Da X H lab (encLab l) := by
  obtain ⟨pa, xs, e, _, hp, r⟩ := h.getT
  obtain ⟨v1, r1, rfl, d1, s1⟩ := r.uncons
  obtain ⟨v2, r2, rfl, d2, s2⟩ := s1.uncons
  obtain ⟨v3, r3, rfl, d3, s3⟩ := s2.uncons
  rw [s3.nil', d2.getS, d3.getI] at hp
  exact ⟨pa, v1, e, hp, d1⟩
/-- the inner loop's own objects -/
structure PwJ (l : Lab) (Y : List Addr) (nm il cl : Addr) (nid : Id) (is : List Id) (H : Hp) (cs : List V) (chs : List Ch) : Prop where
  cle : H cl = some (.lst cs)
  cda : DaAll Y H cs (chs.map (encCh l))
  nda : Da Y H (.ref nm) (encI l nid)
  ida : Da Y H (.ref il) (encL (encI l) is)
theorem PwJ.step {Y : List Addr} {nm il cl : Addr} {nid : Id} {is : List Id} {H H' : Hp} {cs : List V} {chs : List Ch} (h : PwJ l Y nm il cl nid is H cs chs) (k : Keep Y H H') (e : H' cl = some (.lst cs)) : PwJ l Y nm il cl nid is H' cs chs :=
  ⟨e, h.cda.keep k, h.nda.keep k, h.ida.keep k⟩
theorem PwJ.new {Y : List Addr} {nm il cl q : Addr} {nid : Id} {is : List Id} {H : Hp} {cs : List V} {chs : List Ch} {o : HO} (h : PwJ l Y nm il cl nid is H cs chs) (n : H q = none) : PwJ l Y nm il cl nid is (upd H q o) cs chs :=
  h.step (Keep.new n) (upd_some h.cle n)
end
theorem cnt_fm (au : Fin 3) : ∀ row : List PT, (row.filterMap fun t => if t.1.1 = au then some () else none).length = cnt au (idsOf row)
  | [] => rfl
  | t :: row => by
    have ih := cnt_fm au row
    unfold cnt idsOf at ih ⊢
    rw [List.filterMap_cons, List.map_cons, List.filter_cons]
    by_cases h : t.1.1 = au
    · simp [h, ih]
    · simp [h, ih]
end Qw
namespace Qw
open PySem L2
section
variable {P : Program} {w : World} {K : PySem.W.Frag} {mg : Str → Option Value} {base : Heap} {a : Nat → Addr} {d : Nat → FuncData} {C : Addr}
theorem auth_inj {x y : Fin 3} (h : authOf x = authOf y) : x = y := by
  have e := auth_eqv x y
  rw [h, beq_self_eq_true] at e
  exact of_decide_eq_true e.symm
/-! ### a row of patches -/
def spPwk : Sp := fun vs H Q _ => ∃ (p c : Addr) (X : List Addr), vs = [.ref p, .int 8] ∧ SX p c X H ∧ ∀ (l : Lab) (v : V) (row : List PT) (fs : List Vx) (H' : Hp), RowOk row → row.length ≤ 8 → Sta p c H' → Keep [p, c] H H' →
  Da X H' v (.tuple [encLab l, .list (row.map (encPt l)), encL (encV l) fs]) → Q v H'
theorem ok_pwk (T : Tx K mg a d C) : FnOk P w K mg base CX0 5 (a 15) (d 15) ["_law_state_here", "_law_most"] spPwk := by
  have G_drw : FnOk P w K mg base CX0 1 _ _ _ spDrw := ok_drw T
  have G_pck : FnOk P w K mg base CX0 2 _ _ _ spPck := ok_pck T
  have G_chg : FnOk P w K mg base CX0 4 _ _ _ (spChg P w) := ok_chg T
  refine T.pwk.F.ok sc_pwk (fun vs H Q E h => ?_) (fun cdv A outer s H vs Q E hr h => ?_)
  · obtain ⟨p, c, X, rfl, _⟩ := h
    rfl
  · obtain ⟨p, c, X, rfl, sx, k⟩ := h
    have nd := sc_pwk.nd
    have hu := hu_of hr
    have hr_drw : Room 1 _ := hr.mono (by decide)
    have hr_pck : Room 2 _ := hr.mono (by decide)
    have hr_chg : Room 4 _ := hr
    refine ⟨_, (pss_cons (ps_set (i := 2) nd rfl (by first | exact Or.inl rfl | exact Or.inr rfl) (pe_tup (pa_cons pe_str (pa_cons (pe_call G_drw hr_drw (by rfl) T.drw.m T.drw.F.kp T.drw.b .nil pass0 (pa_cons (pv 0) (pa_cons pe_int pa_nil))) (pa_cons (pe_call G_pck hr_pck (by rfl) T.pck.m T.pck.F.kp T.pck.b .nil pass0 (pa_cons (pv 0) (pa_cons (pe_lst (pa_cons (pe_tup pa_nil) (pa_cons (pe_tup (pa_cons pe_int pa_nil)) (pa_cons (pe_tup (pa_cons pe_int (pa_cons pe_int pa_nil))) pa_nil)))) pa_nil))) pa_nil)))))
      (pss_cons (ps_set (i := 3) nd rfl (by first | exact Or.inl rfl | exact Or.inr rfl) (pe_lst pa_nil))
      (pss_cons (ps_set (i := 4) nd rfl (by first | exact Or.inl rfl | exact Or.inr rfl) (pe_dnewNK P w rfl rfl))
      (pss_cons (ps_for PassesOwn.never rfl (pi_range1 (by rfl) T.range (pa_cons (pe_call G_drw hr_drw (by rfl) T.drw.m T.drw.F.kp T.drw.b .nil pass0 (pa_cons (pv 0) (pa_cons (pe_op op_add (pv 1) pe_int) pa_nil))) pa_nil)) (pg_name (i := 5) nd rfl (by first | exact Or.inl rfl | exact Or.inr rfl)) (pss_cons (ps_set (i := 6) nd rfl (by first | exact Or.inl rfl | exact Or.inr rfl) (pe_call G_pck hr_pck (by rfl) T.pck.m T.pck.F.kp T.pck.b .nil pass0 (pa_cons (pv 0) (pa_cons (pe_lst (pa_cons pe_str (pa_cons pe_str (pa_cons pe_str pa_nil)))) pa_nil))))
      (pss_cons (ps_set (i := 7) nd rfl (by first | exact Or.inl rfl | exact Or.inr rfl) (pe_tup (pa_cons (pv 2) (pa_cons (pv 6) (pa_cons (pe_op op_add pe_int (pe_callB (call_lenK K rfl) (by rfl) T.len (by decide +kernel) (pa_cons (pe_lc (own := [("_law_patch", 12)]) (g := gName 12) (by rfl) nd (pi_listK K rfl (pv 3)) (blkOk_by (own := [("_law_patch", 12)]) (N := N_pwk) (sc := defScope s_pwk) (by decide +kernel)) (fun _ _ _ _ _ => (pg_name (i := 12) nd rfl (by first | exact Or.inl rfl | exact Or.inr rfl))) (fun _ _ _ _ _ => (pts_one (pt_cmpR op_eq (pe_ix (ix_tupK K rfl) (pe_ix (ix_tupK K rfl) (pv 12) pe_int (fun _ _ => rfl)) pe_int (fun _ _ => rfl)) (pv 6) (nomark _)))) (fun _ _ _ _ _ => (pv 12))) pa_nil))) pa_nil)))))
      (pss_cons (ps_set (i := 8) nd rfl (by first | exact Or.inl rfl | exact Or.inr rfl) (pe_lst pa_nil))
      (pss_cons (ps_setLc (i := 9) (own := [("_law_patch", 12)]) (g := gName 12) (tt := tYes) (by rfl) nd rfl rfl (sw_true rfl rfl rfl (by decide +kernel)) (pi_listK K rfl (pv 3)) (blkOk_by (own := [("_law_patch", 12)]) (N := N_pwk) (sc := defScope s_pwk) (by decide +kernel)) (fun _ _ _ _ _ => (pg_name (i := 12) nd rfl (by first | exact Or.inl rfl | exact Or.inr rfl))) (fun _ _ _ _ _ => pts_nil) (fun _ _ _ _ _ => (pe_ix (ix_tupK K rfl) (pv 12) pe_int (fun _ _ => rfl))))
      (pss_cons (ps_for PassesOwn.never rfl (pi_range1 (by rfl) T.range (pa_cons (pe_op op_add pe_int (pe_call G_drw hr_drw (by rfl) T.drw.m T.drw.F.kp T.drw.b .nil pass0 (pa_cons (pv 0) (pa_cons pe_int pa_nil)))) pa_nil)) (pg_name (i := 10) nd rfl (by first | exact Or.inl rfl | exact Or.inr rfl)) (pss_cons (ps_set (i := 11) nd rfl (by first | exact Or.inl rfl | exact Or.inr rfl) (pe_call G_chg hr_chg (by rfl) T.chg.m T.chg.F.kp T.chg.b .nil pass0 (pa_cons (pv 0) (pa_cons (pv 4) (pa_cons (pv 9) pa_nil)))))
      (pss_cons (ps_expr (pe_bm PySem.F.plainAttrs_list PySem.F.slot_list_append PySem.F.type_list_append mt_append (pv 8) (pa_cons (pv 11) pa_nil)))
      (pss_one (ps_if (pt_cmpR op_eq (pe_ix (ix_tupK K rfl) (pv 11) pe_int (fun _ _ => rfl)) pe_str (nomark _)) (pss_one (ps_nputK P w K rfl rfl rfl hr.units (pv 4) (pe_tup (pa_cons (pv 7) (pa_cons (pv 10) (pa_cons pe_int pa_nil)))) (pe_tup (pa_cons (pe_lst (pa_cons (pe_tup (pa_cons (pv 7) (pa_cons (pv 10) (pa_cons pe_int pa_nil)))) pa_nil)) (pa_cons (pe_lst pa_nil) pa_nil)))  rfl)) (pss_one (ps_if (pt_cmpR op_eq (pe_ix (ix_tupK K rfl) (pv 11) pe_int (fun _ _ => rfl)) pe_str (nomark _)) (pss_one (ps_nputK P w K rfl rfl rfl hr.units (pv 4) (pe_ix (ix_tupK K rfl) (pv 11) pe_int (fun _ _ => rfl)) (pe_tup (pa_cons (pe_op op_cat (pe_ix (ix_tupK K rfl) (pe_ngetK P w K rfl rfl rfl hr.units (pv 4) (pe_ix (ix_tupK K rfl) (pv 11) pe_int (fun _ _ => rfl)) (fun _ _ => rfl)) pe_int (fun _ _ => rfl)) (pe_lst (pa_cons (pe_tup (pa_cons (pv 7) (pa_cons (pv 10) (pa_cons pe_int pa_nil)))) pa_nil))) (pa_cons (pe_ix (ix_tupK K rfl) (pe_ngetK P w K rfl rfl rfl hr.units (pv 4) (pe_ix (ix_tupK K rfl) (pv 11) pe_int (fun _ _ => rfl)) (fun _ _ => rfl)) pe_int (fun _ _ => rfl)) pa_nil)))  rfl)) (pss_one (ps_if (pt_cmpR op_eq (pe_ix (ix_tupK K rfl) (pv 11) pe_int (fun _ _ => rfl)) pe_str (nomark _)) (pss_cons (ps_set (i := 13) nd rfl (by first | exact Or.inl rfl | exact Or.inr rfl) (pe_op op_cat (pe_ix (ix_tupK K rfl) (pe_ngetK P w K rfl rfl rfl hr.units (pv 4) (pe_ix (ix_tupK K rfl) (pv 11) pe_int (fun _ _ => rfl)) (fun _ _ => rfl)) pe_int (fun _ _ => rfl)) (pe_lc (own := [("_law_k", 14)]) (g := gName 14) (tt := tYes) (by rfl) nd (pi_range1 (by rfl) T.range (pa_cons (pe_callB (call_lenK K rfl) (by rfl) T.len (by decide +kernel) (pa_cons (pe_ix (ix_tupK K rfl) (pv 11) pe_int (fun _ _ => rfl)) pa_nil)) pa_nil)) (blkOk_by (own := [("_law_k", 14)]) (N := N_pwk) (sc := defScope s_pwk) (by decide +kernel)) (fun _ _ _ _ _ => (pg_name (i := 14) nd rfl (by first | exact Or.inl rfl | exact Or.inr rfl))) (fun _ _ _ _ _ => pts_nil) (fun _ _ _ _ _ => (pe_tup (pa_cons (pv 7) (pa_cons (pv 10) (pa_cons (pv 14) pa_nil))))))))
      (pss_one (ps_nputK P w K rfl rfl rfl hr.units (pv 4) (pe_ix (ix_tupK K rfl) (pv 11) pe_int (fun _ _ => rfl)) (pe_tup (pa_cons (pe_ix (ix_tupK K rfl) (pe_ngetK P w K rfl rfl rfl hr.units (pv 4) (pe_ix (ix_tupK K rfl) (pv 11) pe_int (fun _ _ => rfl)) (fun _ _ => rfl)) pe_int (fun _ _ => rfl)) (pa_cons (pv 13) pa_nil)))  rfl))) pss_nil)))))))))
      (pss_one (ps_expr (pe_bm PySem.F.plainAttrs_list PySem.F.slot_list_append PySem.F.type_list_append mt_append (pv 3) (pa_cons (pe_tup (pa_cons pe_str (pa_cons (pv 7) (pa_cons (pv 8) (pa_cons (pe_call G_pck hr_pck (by rfl) T.pck.m T.pck.F.kp T.pck.b .nil pass0 (pa_cons (pv 0) (pa_cons (pe_lst (pa_cons pe_str (pa_cons pe_str (pa_cons pe_str pa_nil)))) pa_nil))) pa_nil))))) pa_nil))))))))))
      (pss_one (ps_ret (pe_tup (pa_cons (pv 2) (pa_cons (pv 3) (pa_cons (pe_callB (call_sortNK P w K rfl rfl rfl rfl hr.units) (by rfl) T.sorted (by decide +kernel) (pa_cons (pv 4) pa_nil)) pa_nil)))))))))), ?_⟩
    have st := sx.sta
    -- the label
    refine ⟨_, rfl, p, c, _, rfl, st, by decide, fun lv H1 l0 l1 _ st1 kp1 => ?_⟩
    have l2 := l1 (by decide)
    refine ⟨_, rfl, Nat.zero_le _, fun t1 n1 => ⟨(by show 1 ≤ sizeLine; decide), fun t2 n2 => ⟨(by show 2 ≤ sizeLine; decide), fun t3 n3 => ⟨(by show 3 ≤ sizeLine; decide), fun r nr => ?_⟩⟩⟩⟩
    have sx1 := sx.step st1 kp1
    have sx2 := sx1.new (o := .tup []) n1
    have sx3 := sx2.new (o := .tup [V.int 0]) n2
    have sx4 := sx3.new (o := .tup [V.int 1, V.int 4]) n3
    have sx5 := sx4.new (o := .lst [.ref t1, .ref t2, .ref t3]) nr
    refine ⟨p, c, r, _, rfl, sx5.sta, sx5.off (sx4.ne nr), upd_same, by simp, by simp, fun mv H2 hmv st2 kp2 => ?_⟩
    obtain ⟨mk, dmv⟩ : ∃ mk : Fin 3, Da X H2 mv (.tuple ((marksOf mk).map .int)) := by
      simp only [List.mem_cons, List.not_mem_nil, or_false] at hmv
      rcases hmv with rfl | rfl | rfl
      · exact ⟨0, .tup (sx1.ne n1) (kp2 _ _ (sx.off (sx1.ne n1)) (upd_some (upd_some (upd_some upd_same n2) n3) nr)) .nil⟩
      · exact ⟨1, .tup (sx2.ne n2) (kp2 _ _ (sx.off (sx2.ne n2)) (upd_some (upd_some upd_same n3) nr)) (.cons (.int 0) .nil)⟩
      · exact ⟨2, .tup (sx3.ne n3) (kp2 _ _ (sx.off (sx3.ne n3)) (upd_some upd_same nr)) (.cons (.int 1) (.cons (.int 4) .nil))⟩
    have sx6 := sx5.step st2 kp2
    have k2 : Keep [p, c] H H2 := ((((kp1.trans (Keep.new n1)).trans (Keep.new n2)).trans (Keep.new n3)).trans (Keep.new nr)).trans kp2
    refine ⟨(by show 3 ≤ sizeLine; decide), fun lt nlt => ?_⟩
    have sx7 := sx6.new (o := .tup [V.str "label", V.int lv, mv]) nlt
    obtain ⟨lvl, rfl⟩ : ∃ lvl : Fin 8, ((lvl.val : Nat) : Int) = lv := ⟨⟨lv.toNat, by omega⟩, by show ((lv.toNat : Nat) : Int) = lv; omega⟩
    have dlab : Da X (upd H2 lt (.tup [V.str "label", V.int lvl.val, mv])) (.ref lt) (encLab (lvl, mk)) := .tup (sx6.ne nlt) upd_same (.cons (.str _) (.cons (.int _) (.cons (dmv.keep (Keep.new nlt)) .nil)))
    generalize hHa : upd H2 lt (.tup [V.str "label", V.int lvl.val, mv]) = Ha at dlab sx7 ⊢
    have ka : Keep [p, c] H Ha := by rw [← hHa]; exact k2.trans (Keep.new nlt)
    generalize hl : ((lvl, mk) : Lab) = l at dlab
    -- an empty row, an empty table
    refine ⟨Nat.zero_le _, fun rw nrw => ?_⟩
    refine fun kd nkd => ?_
    have nrk : rw ≠ kd := fun z => by rw [z, upd_same] at nkd; cases nkd
    have zk : Ha kd = none := by rw [upd_ne nrk.symm] at nkd; exact nkd
    have sx8 := (sx7.new (o := .lst []) nrw).new (o := DN P w kd []) nkd
    have sx9 : SX p c (kd :: rw :: X) (upd (upd Ha rw (.lst [])) kd (DN P w kd [])) := (sx8.cons (q := rw) (by rw [upd_ne nrk, upd_same]; simp)).cons (by rw [upd_same]; simp)
    have iR : rw ∈ kd :: rw :: X := by simp
    have iK : kd ∈ kd :: rw :: X := by simp
    have iPC : ∀ x ∈ [p, c], x ∈ kd :: rw :: X := fun x hx => List.mem_cons_of_mem _ (List.mem_cons_of_mem _ (sx.sub x hx))
    have inv0 : PwI P w l p c rw kd (kd :: rw :: X) (.ref lt) Ha (upd (upd Ha rw (.lst [])) kd (DN P w kd [])) [] [] [] (fun i => i ∈ idsOf []) (3 * 0) :=
      { sx := sx9, kp := (Keep.new nrw).trans (Keep.new nkd), inr := iR, ink := iK, nr := sx.off (sx7.ne nrw), nk := sx.off (sx7.ne zk), zr := nrw, zk := zk,
        lda := (dlab.new nrw).new nkd, rwe := by rw [upd_ne nrk, upd_same], rda := .nil, rok := fun j t h => by simp at h, uq := fun i hi => absurd hi (by simp [idsOf]),
        kn := ⟨upd_same, by simp, by simp⟩, ko := by simp, kl := by simp, kb := by simp, tb := by decide }
    generalize upd (upd Ha rw (.lst [])) kd (DN P w kd []) = Hb at inv0
    -- the patches, one after another
    refine ⟨_, rfl, _, rfl, 8, 1, rfl, rfl, p, c, _, rfl, inv0.sx.sta, by decide, fun n Hc n0 n1 _ stc kpc => ?_⟩
    have n2 := n1 (by decide)
    refine ⟨n, rfl, by omega, by omega, for_range (lo := 0) (n := n.toNat) (fun i σ H' => ∃ (x5 x6 x7 x8 x9 x10 x11 x12 x13 x14 : Option V) (us : List V) (row : List PT) (kes : List KE),
      σ = [some (.ref p), some (.int 8), some (.ref lt), some (.ref rw), some (.ref kd), x5, x6, x7, x8, x9, x10, x11, x12, x13, x14] ∧ row.length = i ∧ PwI P w l p c rw kd (kd :: rw :: X) (.ref lt) Ha H' us row kes (fun i => i ∈ idsOf row) (3 * i)) ⟨none, none, none, none, none, none, none, none, none, none, [], [], [], rfl, rfl, inv0.step stc kpc⟩ ?_ ?_⟩
    · rintro i σ H3 hi ⟨x5, x6, x7, x8, x9, x10, x11, x12, x13, x14, us, row, kes, rfl, hrl, I⟩
      have hi8 : i < 8 := by omega
      -- who recorded it
      refine ⟨_, rfl, (by show 3 ≤ sizeLine; decide), fun r nr => ?_⟩
      have I1 := I.new (o := .lst [V.str "ann", V.str "bo", V.str "cy"]) nr
      refine ⟨p, c, r, _, rfl, I1.sx.sta, I1.sx.off (I.sx.ne nr), upd_same, by simp, by simp, fun av H4 hav st4 kp4 => ?_⟩
      obtain ⟨au, rfl⟩ : ∃ au : Fin 3, av = .str (authOf au) := by
        simp only [List.mem_cons, List.not_mem_nil, or_false] at hav
        rcases hav with rfl | rfl | rfl
        · exact ⟨0, rfl⟩
        · exact ⟨1, rfl⟩
        · exact ⟨2, rfl⟩
      have I2 := I1.step st4 kp4
      -- the name
      obtain ⟨zs, e1, e2, hz⟩ := I2.rda.zip
      have hzl : zs.length ≤ 1000 := by
        have : zs.length = row.length := by rw [← e2, List.length_map]
        omega
      have hrw2 := I2.rwe
      rw [← e1] at hrw2
      refine ⟨_, rfl, _, rfl, _, rfl, rw, rfl, ⟨_, SqL.of hrw2⟩, fun D hD => lcL (K := K) (γ := Unit) (fun pt : PT => if pt.1.1 = au then some () else none) (fun _ _ _ => True) hD (SqL.of hrw2) (line1000 hzl) (fun _ _ _ _ _ _ => True.intro) (fun j z hj => ?_) fun H5 acc s5 e5 pr5 => ?_⟩
      · intro H' N M s1 _ hN hM
        obtain ⟨zv, zt⟩ := z
        obtain ⟨pa, idv, chv, rfl, hpa, did, dch⟩ := pt_get (hz _ (List.mem_of_getElem? hj))
        obtain ⟨ia, lab', rfl, hia, _⟩ := id_get did
        refine ⟨rfl, _, rfl, pa, _, 1, _, rfl, rfl, SqT.of (s1 _ _ hpa), atI_nat (j := 1) rfl, ia, _, 1, _, rfl, rfl, SqT.of (s1 _ _ hia), atI_nat (j := 1) rfl, _, rfl, rfl, _, rfl, iteD (fun hm => ⟨_, rfl, hN _ () _ (if_pos ?_) (Same.refl _) True.intro⟩) fun hm => hM _ (if_neg fun z => hm ?_) (Same.refl _)⟩
        · exact auth_inj (V.str.inj hm)
        · show V.str _ = V.str _
          rw [z]
      have hcn : acc.length = cnt au (idsOf row) := by
        rw [Paired.length pr5, e2]
        exact cnt_fm au row
      have hcl : acc.length < 8 := by
        have := cnt_le au (idsOf row)
        unfold idsOf at this hcn
        rw [List.length_map] at this
        omega
      refine ⟨D, acc, rfl, .inl (SqL.of e5), 1, _, rfl, rfl, (by show 3 ≤ sizeLine; decide), fun nm nnm => ?_⟩
      have I5 := I2.same s5
      generalize hnid : ((au, ⟨acc.length, hcl⟩) : Id) = nid
      have nidx : nid ∉ idsOf row := by rw [← hnid]; exact I5.uq.new hcn
      have uq' : Uq (idsOf row ++ [nid]) := by rw [← hnid]; exact I5.uq.snoc hcn
      have dnm : Da (kd :: rw :: X) (upd H5 nm (.tup [.ref lt, .str (authOf au), .int (1 + (acc.length : Int))])) (.ref nm) (encI l nid) := by
        refine .tup (I5.sx.ne nnm) upd_same (.cons (I5.lda.keep (Keep.new nnm)) (.cons ?_ (.cons ?_ .nil)))
        · rw [← hnid]; exact .str _
        · rw [← hnid, Int.add_comm]; exact .int _
      have I6 := I5.new (o := .tup [.ref lt, .str (authOf au), .int (1 + (acc.length : Int))]) nnm
      generalize upd H5 nm (.tup [.ref lt, .str (authOf au), .int (1 + (acc.length : Int))]) = H6 at dnm I6
      -- no changes yet
      refine ⟨Nat.zero_le _, fun cl ncl => ?_⟩
      have I7 := I6.cons (o := .lst []) ncl
      have dnm7 := dnm.new (o := .lst []) ncl
      have hcl7 : (upd H6 cl (.lst [])) cl = some (.lst []) := upd_same
      have zcl : Ha cl = none := I6.fresh0 ncl
      have nclr : rw ≠ cl := ne_of_none I6.rwe ncl
      have nclk : kd ≠ cl := ne_of_none I6.kn.at_ ncl
      have nclp : cl ∉ [p, c] := I6.sx.off (I6.sx.ne ncl)
      generalize upd H6 cl (.lst []) = H7 at I7 dnm7 hcl7
      -- the ids
      obtain ⟨zs7, e71, e72, hz7⟩ := I7.rda.zip
      have hzl7 : zs7.length ≤ 1000 := by
        have : zs7.length = row.length := by rw [← e72, List.length_map]
        omega
      have hrw7 := I7.rwe
      rw [← e71] at hrw7
      refine ⟨_, rfl, rw, rfl, ⟨_, SqL.of hrw7⟩, fun D7 hD7 => lcL (K := K) (γ := Id) (fun pt : PT => some pt.1) (RelD (D7 :: cl :: kd :: rw :: X) (encI l)) hD7 (SqL.of hrw7) (line1000 hzl7) relD_st (fun j z hj => ?_) fun H8 acc8 s8 e8 pr8 => ?_⟩
      · intro H' N M s1 _ hN hM
        obtain ⟨zv, zt⟩ := z
        obtain ⟨pa, idv, chv, rfl, hpa, did, dch⟩ := pt_get (hz7 _ (List.mem_of_getElem? hj))
        exact ⟨rfl, _, rfl, pa, _, 1, _, rfl, rfl, SqT.of (s1 _ _ hpa), atI_nat (j := 1) rfl, hN _ _ _ rfl (Same.refl _) ((did.off hD7).same s1)⟩
      have ra8 := relD_all pr8
      rw [all_map, e72] at ra8
      have I8 := I7.same s8
      have hl8 : (row.map fun pt : PT => pt.1).length ≤ 100 := by rw [List.length_map]; omega
      have J8 : PwJ l (cl :: kd :: rw :: X) nm D7 cl nid (idsOf row) H8 [] [] := ⟨s8 _ _ hcl7, .nil, dnm7.same s8, .lst (I7.sx.ne hD7) e8 ra8.tail⟩
      -- the changes, one after another
      refine ⟨_, rfl, p, c, _, rfl, I8.sx.sta, by decide, fun m H9 m0 m1 _ st9 kp9 => ?_⟩
      have m2 := m1 (by decide)
      have iC : cl ∈ cl :: kd :: rw :: X := by simp
      have hS0 : ∀ i, (fun i => i ∈ idsOf row) i → (fun i => i = nid ∨ i ∈ idsOf row) i := fun i hi => .inr hi
      have I9 := (I8.step st9 kp9).wide hS0
      have J9 := J8.step (I8.sx.k kp9) (kp9 _ _ nclp J8.cle)
      have P9 : ∀ e ∈ kes, ∀ v ∈ e.2.2.2.2, v.1 = nid → v.2.1 < 0 := fun e he v hv z => absurd (by rw [← z]; exact (I8.ko e he).li v hv) nidx
      refine ⟨1, m, rfl, rfl, 1 + m, rfl, by omega, by omega, for_range (lo := 0) (n := (1 + m).toNat) (fun j σ H' => ∃ (x10 x11 x12 x13 x14 : Option V) (cs : List V) (chs : List Ch) (kes : List KE),
        σ = [some (.ref p), some (.int 8), some (.ref lt), some (.ref rw), some (.ref kd), some (.int (0 + (i : Int))), some (.str (authOf au)), some (.ref nm), some (.ref cl), some (.ref D7), x10, x11, x12, x13, x14] ∧
        PwI P w l p c rw kd (cl :: kd :: rw :: X) (.ref lt) Ha H' us row kes (fun i => i = nid ∨ i ∈ idsOf row) (3 * i + j) ∧ PwJ l (cl :: kd :: rw :: X) nm D7 cl nid (idsOf row) H' cs chs ∧ chs.length = j ∧
        (∀ ch ∈ chs, ∃ ks, ChOk (fun i => i = nid ∨ i ∈ idsOf row) ks ch) ∧ ∀ e ∈ kes, ∀ v ∈ e.2.2.2.2, v.1 = nid → v.2.1 < j) ⟨x10, x11, x12, x13, x14, [], [], kes, rfl, I9, J9, rfl, by simp, P9⟩ ?_ ?_⟩
      · rintro j σ H' hj ⟨x10, x11, x12, x13, x14, cs, chs, kes, rfl, I, J, hjl, hch, hpl⟩
        have hj3 : j < 3 := by omega
        rw [Int.zero_add]
        refine ⟨_, rfl, _, rfl, _, rfl, l, p, c, kd, D7, cl :: kd :: rw :: X, kes, idsOf row, fun i => i = nid ∨ i ∈ idsOf row, rfl, I.sx, I.nk, I.kn, I.ko, by have := I.kl; omega, J.ida, fun i hi => .inr hi, ?_, fun cv ch H1 ok st1 kp1 dcv => ?_⟩
        · unfold idsOf; rw [List.length_map]; omega
        have I1 := I.step st1 kp1
        have J1 := J.step (I.sx.k kp1) (kp1 _ _ nclp J.cle)
        refine ⟨_, rfl, .inl ⟨rfl, _, SqL.of J1.cle⟩, _, rfl, cl, cs, cv, rfl, rfl, J1.cle, small1000 (by have := J1.cda.lenB; omega), ?_⟩
        have I2 := I1.put (o := .lst (cs ++ [cv])) iC nclp nclr nclk zcl
        have kc : Keep (cl :: kd :: rw :: X) H1 (upd H1 cl (.lst (cs ++ [cv]))) := Keep.put iC
        have J2 : PwJ l (cl :: kd :: rw :: X) nm D7 cl nid (idsOf row) (upd H1 cl (.lst (cs ++ [cv]))) (cs ++ [cv]) (chs ++ [ch]) :=
          ⟨upd_same, by rw [List.map_append]; exact (J1.cda.app (DaAll.one dcv)).keep kc, J1.nda.keep kc, J1.ida.keep kc⟩
        have dcv2 := dcv.keep kc
        generalize upd H1 cl (.lst (cs ++ [cv])) = H2 at I2 J2 dcv2
        have hjl2 : (chs ++ [ch]).length = j + 1 := by rw [List.length_append, hjl]; rfl
        have hch2 : ∀ c' ∈ chs ++ [ch], ∃ ks, ChOk (fun i => i = nid ∨ i ∈ idsOf row) ks c' := fun c' hc' => by
          rcases List.mem_append.mp hc' with hc' | hc'
          · exact hch c' hc'
          · rw [List.mem_singleton] at hc'
            subst hc'
            exact ⟨_, ok⟩
        have hpl2 : ∀ e ∈ kes, ∀ v ∈ e.2.2.2.2, v.1 = nid → v.2.1 < j + 1 := fun e he v hv z => Nat.lt_succ_of_lt (hpl e he v hv z)
        have I3 := I2.more (t' := 3 * i + (j + 1)) (by omega) (by omega)
        cases ch with
        | back bi =>
          obtain ⟨ct, cxs, rfl, nct, hct, rct⟩ := dcv2.getT
          obtain ⟨v0, r0, rfl, d0, s0⟩ := rct.uncons
          rw [d0.getS] at hct
          refine ⟨_, rfl, ct, _, 0, _, rfl, rfl, SqT.of hct, atI_nat (j := 0) rfl, rfl, _, rfl, iteD (fun h => absurd h (by decide)) fun _ => ?_⟩
          refine ⟨_, rfl, ct, _, 0, _, rfl, rfl, SqT.of hct, atI_nat (j := 0) rfl, rfl, _, rfl, iteD (fun h => absurd h (by decide)) fun _ => ?_⟩
          refine ⟨_, rfl, ct, _, 0, _, rfl, rfl, SqT.of hct, atI_nat (j := 0) rfl, rfl, _, rfl, iteD (fun h => absurd h (by decide)) fun _ => ?_⟩
          exact ⟨_, _, _, _, _, _, _, kes, rfl, I3, J2, hjl2, hch2, hpl2⟩
        | drop ff os =>
          obtain ⟨ct, cxs, rfl, nct, hct, rct⟩ := dcv2.getT
          obtain ⟨v0, r0, rfl, d0, s0⟩ := rct.uncons
          rw [d0.getS] at hct
          refine ⟨_, rfl, ct, _, 0, _, rfl, rfl, SqT.of hct, atI_nat (j := 0) rfl, rfl, _, rfl, iteD (fun h => absurd h (by decide)) fun _ => ?_⟩
          refine ⟨_, rfl, ct, _, 0, _, rfl, rfl, SqT.of hct, atI_nat (j := 0) rfl, rfl, _, rfl, iteD (fun h => absurd h (by decide)) fun _ => ?_⟩
          refine ⟨_, rfl, ct, _, 0, _, rfl, rfl, SqT.of hct, atI_nat (j := 0) rfl, rfl, _, rfl, iteD (fun h => absurd h (by decide)) fun _ => ?_⟩
          exact ⟨_, _, _, _, _, _, _, kes, rfl, I3, J2, hjl2, hch2, hpl2⟩
        | cut ff os =>
          obtain ⟨ct, cxs, rfl, nct, hct, rct⟩ := dcv2.getT
          obtain ⟨v0, r0, rfl, d0, s0⟩ := rct.uncons
          rw [d0.getS] at hct
          refine ⟨_, rfl, ct, _, 0, _, rfl, rfl, SqT.of hct, atI_nat (j := 0) rfl, rfl, _, rfl, iteD (fun h => absurd h (by decide)) fun _ => ?_⟩
          refine ⟨_, rfl, ct, _, 0, _, rfl, rfl, SqT.of hct, atI_nat (j := 0) rfl, rfl, _, rfl, iteD (fun h => absurd h (by decide)) fun _ => ?_⟩
          refine ⟨_, rfl, ct, _, 0, _, rfl, rfl, SqT.of hct, atI_nat (j := 0) rfl, rfl, _, rfl, iteD (fun h => absurd h (by decide)) fun _ => ?_⟩
          exact ⟨_, _, _, _, _, _, _, kes, rfl, I3, J2, hjl2, hch2, hpl2⟩
        | order ff xx yy =>
          obtain ⟨ct, cxs, rfl, nct, hct, rct⟩ := dcv2.getT
          obtain ⟨v0, r0, rfl, d0, s0⟩ := rct.uncons
          rw [d0.getS] at hct
          refine ⟨_, rfl, ct, _, 0, _, rfl, rfl, SqT.of hct, atI_nat (j := 0) rfl, rfl, _, rfl, iteD (fun h => absurd h (by decide)) fun _ => ?_⟩
          refine ⟨_, rfl, ct, _, 0, _, rfl, rfl, SqT.of hct, atI_nat (j := 0) rfl, rfl, _, rfl, iteD (fun h => absurd h (by decide)) fun _ => ?_⟩
          refine ⟨_, rfl, ct, _, 0, _, rfl, rfl, SqT.of hct, atI_nat (j := 0) rfl, rfl, _, rfl, iteD (fun h => absurd h (by decide)) fun _ => ?_⟩
          exact ⟨_, _, _, _, _, _, _, kes, rfl, I3, J2, hjl2, hch2, hpl2⟩
        | add pd =>
          obtain ⟨ct, cxs, rfl, nct, hct, rct⟩ := dcv2.getT
          obtain ⟨v0, r0, rfl, d0, s0⟩ := rct.uncons
          rw [d0.getS] at hct
          refine ⟨_, rfl, ct, _, 0, _, rfl, rfl, SqT.of hct, atI_nat (j := 0) rfl, rfl, _, rfl, iteD (fun _ => ?_) fun h => absurd rfl h⟩
          -- a new file
          refine ⟨_, rfl, _, rfl, (by show 3 ≤ sizeLine; decide), fun v1 nv1 => ⟨(by show 1 ≤ sizeLine; decide), fun l1 nl1 => ⟨Nat.zero_le _, fun l2 nl2 => ⟨(by show 2 ≤ sizeLine; decide), fun tp ntp => ?_⟩⟩⟩⟩
          have d1 : Da (cl :: kd :: rw :: X) (upd H2 v1 (.tup [.ref nm, .int (j : Int), .int 0])) (.ref v1) (encV l (nid, j, 0)) := .tup (I2.sx.ne nv1) upd_same (.cons (J2.nda.keep (Keep.new nv1)) (.cons (.int _) (.cons (.int 0) .nil)))
          have I4 := I2.new (o := .tup [.ref nm, .int (j : Int), .int 0]) nv1
          have J4 := J2.new (o := .tup [.ref nm, .int (j : Int), .int 0]) nv1
          generalize upd H2 v1 (.tup [.ref nm, .int (j : Int), .int 0]) = H4 at d1 I4 J4 nl1 nl2 ntp ⊢
          have d2 : Da (cl :: kd :: rw :: X) (upd H4 l1 (.lst [.ref v1])) (.ref l1) (encL (encV l) [(nid, j, 0)]) := .lst (I4.sx.ne nl1) upd_same (DaAll.one (d1.keep (Keep.new nl1)))
          have I5 := I4.new (o := .lst [.ref v1]) nl1
          have J5 := J4.new (o := .lst [.ref v1]) nl1
          generalize upd H4 l1 (.lst [.ref v1]) = H5 at d2 I5 J5 nl2 ntp ⊢
          have d3 : Da (cl :: kd :: rw :: X) (upd H5 l2 (.lst [])) (.ref l2) (encL (encV l) []) := .lst (I5.sx.ne nl2) upd_same .nil
          have d2 := d2.keep (Keep.new (o := .lst []) nl2)
          have I6 := I5.new (o := .lst []) nl2
          have J6 := J5.new (o := .lst []) nl2
          generalize upd H5 l2 (.lst []) = H6 at d2 d3 I6 J6 ntp ⊢
          have d4 : Da (cl :: kd :: rw :: X) (upd H6 tp (.tup [.ref l1, .ref l2])) (.ref tp) (encKv l ([(nid, j, 0)], [])) := .tup (I6.sx.ne ntp) upd_same (.cons (d2.keep (Keep.new ntp)) (.cons (d3.keep (Keep.new ntp)) .nil))
          have I7 := I6.new (o := .tup [.ref l1, .ref l2]) ntp
          have J7 := J6.new (o := .tup [.ref l1, .ref l2]) ntp
          generalize upd H6 tp (.tup [.ref l1, .ref l2]) = H7' at d4 I7 J7 ⊢
          refine ⟨_, rfl, _, rfl, _, rfl, (by show 3 ≤ sizeLine; decide), fun kt nkt => ?_⟩
          have d5 : Da (cl :: kd :: rw :: X) (upd H7' kt (.tup [.ref nm, .int (j : Int), .int 0])) (.ref kt) (encV l (nid, j, 0)) := .tup (I7.sx.ne nkt) upd_same (.cons (J7.nda.keep (Keep.new nkt)) (.cons (.int _) (.cons (.int 0) .nil)))
          have d4 := d4.keep (Keep.new (o := .tup [.ref nm, .int (j : Int), .int 0]) nkt)
          have I8 := I7.new (o := .tup [.ref nm, .int (j : Int), .int 0]) nkt
          have J8 := J7.new (o := .tup [.ref nm, .int (j : Int), .int 0]) nkt
          generalize upd H7' kt (.tup [.ref nm, .int (j : Int), .int 0]) = H8' at d4 d5 I8 J8 ⊢
          refine ⟨kd, kt, _, nkV l (nid, j, 0), rfl, rfl, I8.kn.at_, I8.kn.keys, by rw [nkV_data]; exact d5.D, nkV_depth _ _, small1000 (by rw [List.length_map]; have := I8.kl; omega), ?_⟩
          have I9 := I8.store d5 d4 nrk ⟨.inl rfl, by simp, by simp, by simp, by simp, by simp, by simp⟩ (by simp) (by simp) (by omega)
          refine ⟨_, _, _, _, _, _, _, _, rfl, I9, J8.step (Keep.put I8.ink) (by rw [upd_ne nclk.symm]; exact J8.cle), hjl2, hch2, fun e he v hv z => ?_⟩
          rcases putE_mem he with he | ⟨e1, e2, e3, e4⟩
          · exact hpl2 e he v hv z
          · rw [e3] at hv; exact absurd hv (by simp)
        | move ff pd os =>
          obtain ⟨ct, cxs, rfl, nct, hct, rct⟩ := dcv2.getT
          obtain ⟨v0, r0, rfl, d0, s0⟩ := rct.uncons
          obtain ⟨fv, r1, rfl, df, s1⟩ := s0.uncons
          rw [d0.getS] at hct
          refine ⟨_, rfl, ct, _, 0, _, rfl, rfl, SqT.of hct, atI_nat (j := 0) rfl, rfl, _, rfl, iteD (fun h => absurd h (by decide)) fun _ => ?_⟩
          refine ⟨_, rfl, ct, _, 0, _, rfl, rfl, SqT.of hct, atI_nat (j := 0) rfl, rfl, _, rfl, iteD (fun _ => ?_) fun h => absurd rfl h⟩
          obtain ⟨fe, hfe, efe⟩ := List.mem_map.mp ok.1
          obtain ⟨ge, hge, ege, eat⟩ := I2.kn.get hfe
          rw [efe] at eat
          have hgo := I2.ko ge hge
          have hgb := I2.kb ge hge
          obtain ⟨fa, fxs, rfl, nfa, hfa, rfa⟩ := id df.getT
          obtain ⟨gp, gxs, egv, ngp, hgp, rg⟩ := (I2.kn.val ge hge).getT
          obtain ⟨gv, rr1, rfl, dgv, rg1⟩ := rg.uncons
          obtain ⟨lv', rr2, rfl, dlv, rg2⟩ := rg1.uncons
          have := rg2.nil'
          subst this
          obtain ⟨ga, gus, rfl, nga, hga, rga⟩ := id dgv.getL
          have dkf : Dp K H2 (.ref fa) (nkV l ff).data := by rw [nkV_data]; exact df.D
          refine ⟨_, rfl, _, rfl, ct, _, 1, _, rfl, rfl, SqT.of hct, atI_nat (j := 1) rfl, kd, fa, _, nkV l ff, _, rfl, rfl, I2.kn.at_, I2.kn.keys, dkf, nkV_depth _ _, eat, gp, _, 0, _, egv, rfl, SqT.of hgp, atI_nat (j := 0) rfl, ?_⟩
          refine ⟨_, rfl, _, rfl, (by show 3 ≤ sizeLine; decide), fun v1 nv1 => ⟨(by show 1 ≤ sizeLine; decide), fun l1 nl1 => ?_⟩⟩
          have d1 : Da (cl :: kd :: rw :: X) (upd H2 v1 (.tup [.ref nm, .int (j : Int), .int 0])) (.ref v1) (encV l (nid, j, 0)) := .tup (I2.sx.ne nv1) upd_same (.cons (J2.nda.keep (Keep.new nv1)) (.cons (.int _) (.cons (.int 0) .nil)))
          have k1 : Same H2 (upd (upd H2 v1 (.tup [.ref nm, .int (j : Int), .int 0])) l1 (.lst [.ref v1])) := (Same.new nv1).trans (Same.new nl1)
          have d1 := d1.keep (Keep.new (o := .lst [.ref v1]) nl1)
          have hl1 : (upd (upd H2 v1 (.tup [.ref nm, .int (j : Int), .int 0])) l1 (.lst [.ref v1])) l1 = some (.lst [.ref v1]) := upd_same
          generalize upd (upd H2 v1 (.tup [.ref nm, .int (j : Int), .int 0])) l1 (.lst [.ref v1]) = H4 at d1 k1 hl1 ⊢
          refine ⟨ga, l1, gus, _, rfl, rfl, k1 _ _ hga, hl1, line1000 ?_, fun ca nca => ?_⟩
          · have := rga.lenB
            have := hgo.gl
            simp
            omega
          have I4 := I2.same k1
          have J4 := J2.step (Keep.of k1) (k1 _ _ J2.cle)
          have d6 : Da (cl :: kd :: rw :: X) (upd H4 ca (.lst (gus ++ [.ref v1]))) (.ref ca) (encL (encV l) (ge.2.2.2.1 ++ [(nid, j, 0)])) := by
            refine .lst (I4.sx.ne nca) upd_same ?_
            rw [List.map_append]
            exact ((rga.same k1).app (DaAll.one d1)).keep (Keep.new nca)
          have k5 : Same H2 (upd H4 ca (.lst (gus ++ [.ref v1]))) := k1.trans (Same.new nca)
          have I5 := I4.new (o := .lst (gus ++ [.ref v1])) nca
          have J5 := J4.new (o := .lst (gus ++ [.ref v1])) nca
          generalize upd H4 ca (.lst (gus ++ [.ref v1])) = H5 at d6 k5 I5 J5 ⊢
          have dkf5 : Dp K H5 (.ref fa) (nkV l ff).data := by rw [nkV_data]; exact (df.same k5).D
          refine ⟨_, rfl, _, rfl, ct, _, 1, _, rfl, rfl, SqT.of (k5 _ _ hct), atI_nat (j := 1) rfl, kd, fa, _, nkV l ff, _, rfl, rfl, I5.kn.at_, I5.kn.keys, dkf5, nkV_depth _ _, eat, gp, _, 1, _, egv, rfl, SqT.of (k5 _ _ hgp), atI_nat (j := 1) rfl, ?_⟩
          refine ⟨(by show 2 ≤ sizeLine; decide), fun tp ntp => ?_⟩
          have d7 : Da (cl :: kd :: rw :: X) (upd H5 tp (.tup [.ref ca, lv'])) (.ref tp) (encKv l (ge.2.2.2.1 ++ [(nid, j, 0)], ge.2.2.2.2)) := .tup (I5.sx.ne ntp) upd_same (.cons (d6.keep (Keep.new ntp)) (.cons ((dlv.same k5).keep (Keep.new ntp)) .nil))
          have k6 : Same H2 (upd H5 tp (.tup [.ref ca, lv'])) := k5.trans (Same.new ntp)
          have I6 := I5.new (o := .tup [.ref ca, lv']) ntp
          have J6 := J5.new (o := .tup [.ref ca, lv']) ntp
          generalize upd H5 tp (.tup [.ref ca, lv']) = H6 at d7 k6 I6 J6 ⊢
          refine ⟨_, rfl, _, rfl, ct, _, 1, _, rfl, rfl, SqT.of (k6 _ _ hct), atI_nat (j := 1) rfl, kd, fa, _, nkV l ff, rfl, rfl, I6.kn.at_, I6.kn.keys, by rw [nkV_data]; exact (df.same k6).D, nkV_depth _ _, small1000 (by rw [List.length_map]; have := I6.kl; omega), ?_⟩
          have I9 := I6.store (df.same k6) d7 nrk ⟨ok.2.1, by simp, by have := hgb.1; simp; omega, hgo.ll, fun v hv => by
            rcases List.mem_append.mp hv with hv | hv
            · exact hgo.gi v hv
            · rw [List.mem_singleton] at hv; subst hv; exact .inl rfl, hgo.li, hgo.nd⟩ (by have := hgb.1; simp; omega) (by have := hgb.2; simp; omega) (by omega)
          refine ⟨_, _, _, _, _, _, _, _, rfl, I9, J6.step (Keep.put I6.ink) (by rw [upd_ne nclk.symm]; exact J6.cle), hjl2, hch2, fun e he v hv z => ?_⟩
          rcases putE_mem he with he | ⟨e1, e2, e3, e4⟩
          · exact hpl2 e he v hv z
          · rw [e3] at hv; exact hpl2 ge hge v hv z
        | lines ff us1 ds1 ts =>
          obtain ⟨ct, cxs, rfl, nct, hct, rct⟩ := dcv2.getT
          obtain ⟨v0, r0, rfl, d0, s0⟩ := rct.uncons
          obtain ⟨fv, r1, rfl, df, s1⟩ := s0.uncons
          obtain ⟨uv, r2, rfl, du, s2⟩ := s1.uncons
          obtain ⟨dv, r3, rfl, dd, s3⟩ := s2.uncons
          obtain ⟨tv, r4, rfl, dt, s4⟩ := s3.uncons
          rw [d0.getS] at hct
          refine ⟨_, rfl, ct, _, 0, _, rfl, rfl, SqT.of hct, atI_nat (j := 0) rfl, rfl, _, rfl, iteD (fun h => absurd h (by decide)) fun _ => ?_⟩
          refine ⟨_, rfl, ct, _, 0, _, rfl, rfl, SqT.of hct, atI_nat (j := 0) rfl, rfl, _, rfl, iteD (fun h => absurd h (by decide)) fun _ => ?_⟩
          refine ⟨_, rfl, ct, _, 0, _, rfl, rfl, SqT.of hct, atI_nat (j := 0) rfl, rfl, _, rfl, iteD (fun _ => ?_) fun h => absurd rfl h⟩
          obtain ⟨fe, hfe, efe⟩ := List.mem_map.mp ok.1
          obtain ⟨ge, hge, ege, eat⟩ := I2.kn.get hfe
          rw [efe] at eat
          have hgo := I2.ko ge hge
          have hgb := I2.kb ge hge
          obtain ⟨fa, fxs, rfl, nfa, hfa, rfa⟩ := id df.getT
          obtain ⟨gp, gxs, egv, ngp, hgp, rg⟩ := (I2.kn.val ge hge).getT
          obtain ⟨gv, rr1, rfl, dgv, rg1⟩ := rg.uncons
          obtain ⟨lv', rr2, rfl, dlv, rg2⟩ := rg1.uncons
          have := rg2.nil'
          subst this
          obtain ⟨la, lus, rfl, nla, hla, rla⟩ := id dlv.getL
          obtain ⟨ta, tus, rfl, nta, hta, rta⟩ := id dt.getL
          have htl : tus.length ≤ 3 := by rw [rta.len]; exact ok.2.2.2.2.2.2
          have dkf : Dp K H2 (.ref fa) (nkV l ff).data := by rw [nkV_data]; exact df.D
          refine ⟨_, rfl, _, rfl, ct, _, 1, _, rfl, rfl, SqT.of hct, atI_nat (j := 1) rfl, kd, fa, _, nkV l ff, _, rfl, rfl, I2.kn.at_, I2.kn.keys, dkf, nkV_depth _ _, eat, gp, _, 1, _, egv, rfl, SqT.of hgp, atI_nat (j := 1) rfl, ?_⟩
          refine ⟨_, rfl, ct, _, 4, _, rfl, rfl, SqT.of hct, atI_nat (j := 4) rfl, ta, tus, rfl, .inl (SqL.of hta), _, rfl, by omega, by omega, fun D hD => ?_⟩
          refine lcR (n := tus.length) (Int.toNat_natCast _).symm (fun k => some k) (RelD (D :: cl :: kd :: rw :: X) fun k => encV l (nid, j, k)) hD (line1000 (by omega)) relD_st (fun k hk => ?_) fun H4 acc s4' e4 pr4 => ?_
          · intro H' N M s1 hDn hN hM
            refine ⟨rfl, _, rfl, _, rfl, _, rfl, (by show 3 ≤ sizeLine; decide), fun v1 nv1 => hN _ _ _ rfl (Same.new nv1) (.tup (fun z => ?_) upd_same (.cons ((J2.nda.off hD).same (s1.trans (Same.new nv1))) (.cons (.int _) (.cons (.int _) .nil))))⟩
            rcases List.mem_cons.mp z with rfl | z
            · exact hDn nv1
            · exact (I2.same s1).sx.ne nv1 z
          have ra4 := relD_all pr4
          rw [all_map] at ra4
          refine ⟨la, D, lus, acc, rfl, rfl, s4' _ _ hla, e4, line1000 ?_, fun ca nca => ?_⟩
          · have := rla.lenB
            have := hgo.ll
            have := ra4.len
            simp at this
            omega
          have I4 := I2.same s4'
          have J4 := J2.step (Keep.of s4') (s4' _ _ J2.cle)
          have d6 : Da (cl :: kd :: rw :: X) (upd H4 ca (.lst (lus ++ acc))) (.ref ca) (encL (encV l) (ge.2.2.2.2 ++ (List.range tus.length).map fun k => (nid, j, k))) := by
            refine .lst (I4.sx.ne nca) upd_same ?_
            rw [List.map_append, List.map_map]
            have h1 := ra4.tail
            rw [List.map_map] at h1
            exact ((rla.same s4').app h1).keep (Keep.new nca)
          have k5 : Same H2 (upd H4 ca (.lst (lus ++ acc))) := s4'.trans (Same.new nca)
          have I5 := I4.new (o := .lst (lus ++ acc)) nca
          have J5 := J4.new (o := .lst (lus ++ acc)) nca
          generalize upd H4 ca (.lst (lus ++ acc)) = H5 at d6 k5 I5 J5 ⊢
          have dkf5 : Dp K H5 (.ref fa) (nkV l ff).data := by rw [nkV_data]; exact (df.same k5).D
          refine ⟨_, rfl, _, rfl, ct, _, 1, _, rfl, rfl, SqT.of (k5 _ _ hct), atI_nat (j := 1) rfl, kd, fa, _, nkV l ff, _, rfl, rfl, I5.kn.at_, I5.kn.keys, dkf5, nkV_depth _ _, eat, gp, _, 0, _, egv, rfl, SqT.of (k5 _ _ hgp), atI_nat (j := 0) rfl, ?_⟩
          refine ⟨_, rfl, (by show 2 ≤ sizeLine; decide), fun tp ntp => ?_⟩
          have d7 : Da (cl :: kd :: rw :: X) (upd H5 tp (.tup [gv, .ref ca])) (.ref tp) (encKv l (ge.2.2.2.1, ge.2.2.2.2 ++ (List.range tus.length).map fun k => (nid, j, k))) := .tup (I5.sx.ne ntp) upd_same (.cons ((dgv.same k5).keep (Keep.new ntp)) (.cons (d6.keep (Keep.new ntp)) .nil))
          have k6 : Same H2 (upd H5 tp (.tup [gv, .ref ca])) := k5.trans (Same.new ntp)
          have I6 := I5.new (o := .tup [gv, .ref ca]) ntp
          have J6 := J5.new (o := .tup [gv, .ref ca]) ntp
          generalize upd H5 tp (.tup [gv, .ref ca]) = H6 at d7 k6 I6 J6 ⊢
          refine ⟨_, rfl, _, rfl, ct, _, 1, _, rfl, rfl, SqT.of (k6 _ _ hct), atI_nat (j := 1) rfl, kd, fa, _, nkV l ff, rfl, rfl, I6.kn.at_, I6.kn.keys, by rw [nkV_data]; exact (df.same k6).D, nkV_depth _ _, small1000 (by rw [List.length_map]; have := I6.kl; omega), ?_⟩
          have new_id : ∀ v ∈ (List.range tus.length).map fun k => ((nid, j, k) : Vx), v.1 = nid ∧ v.2.1 = j := fun v hv => by
            obtain ⟨k, _, rfl⟩ := List.mem_map.mp hv
            exact ⟨rfl, rfl⟩
          have I9 := I6.store (df.same k6) d7 nrk ⟨ok.2.1, hgo.ne, hgo.gl, by have := hgb.2; simp; omega, hgo.gi, fun v hv => by
            rcases List.mem_append.mp hv with hv | hv
            · exact hgo.li v hv
            · exact .inl (new_id v hv).1, by
              refine List.nodup_append.mpr ⟨hgo.nd, ?_, fun v hv v' hv' e => ?_⟩
              · exact List.Pairwise.map _ (fun a b hab e => hab (by injection e with _ e; injection e)) List.nodup_range
              · subst e
                have h1 := new_id v hv'
                have h2 := hpl ge hge v hv h1.1
                omega⟩ (by have := hgb.1; simp; omega) (by have := hgb.2; simp; omega) (by omega)
          refine ⟨_, _, _, _, _, _, _, _, rfl, I9, J6.step (Keep.put I6.ink) (by rw [upd_ne nclk.symm]; exact J6.cle), hjl2, hch2, fun e he v hv z => ?_⟩
          rcases putE_mem he with he | ⟨e1, e2, e3, e4⟩
          · exact hpl2 e he v hv z
          · rw [e3] at hv
            rcases List.mem_append.mp hv with hv | hv
            · exact hpl2 ge hge v hv z
            · have := (new_id v hv).2; omega
      · rintro σ H' ⟨x10, x11, x12, x13, x14, cs, chs, kes, rfl, I, J, hjl, hch, hpl⟩
        refine ⟨_, rfl, .inl ⟨rfl, _, SqL.of I.rwe⟩, _, rfl, _, rfl, _, rfl, (by show 3 ≤ sizeLine; decide), fun r nr => ?_⟩
        have I1 := I.new (o := .lst [V.str "", V.str "n", V.str "more"]) nr
        have J1 := J.new (o := .lst [V.str "", V.str "n", V.str "more"]) nr
        refine ⟨p, c, r, _, rfl, I1.sx.sta, I1.sx.off (I.sx.ne nr), upd_same, by simp, by simp, fun tv H1 htv st1 kp1 => ?_⟩
        obtain ⟨x, rfl⟩ : ∃ x : Str, tv = .str x := by
          simp only [List.mem_cons, List.not_mem_nil, or_false] at htv
          rcases htv with rfl | rfl | rfl <;> exact ⟨_, rfl⟩
        have I2 := I1.step st1 kp1
        have J2 := J1.step (I1.sx.k kp1) (kp1 _ _ nclp J1.cle)
        refine ⟨(by show 4 ≤ sizeLine; decide), fun pt npt => ?_⟩
        have I3 := I2.new (o := .tup [V.str "patch", .ref nm, .ref cl, V.str x]) npt
        have J3 := J2.new (o := .tup [V.str "patch", .ref nm, .ref cl, V.str x]) npt
        refine ⟨rw, us, _, rfl, rfl, I3.rwe, small1000 (by have := I3.rda.lenB; omega), ?_⟩
        have I4 := I3.less (q := cl) iR iK iPC
        have lessC : ∀ y ∈ kd :: rw :: X, y ∈ cl :: kd :: rw :: X := fun y hy => List.mem_cons_of_mem _ hy
        have ncY : cl ∉ kd :: rw :: X := I6.sx.ne ncl
        have dpt : Da (kd :: rw :: X) (upd H1 pt (.tup [V.str "patch", .ref nm, .ref cl, V.str x])) (.ref pt) (encPt l (nid, chs, x)) :=
          .tup (fun z => I2.sx.ne npt (lessC _ z)) upd_same (.cons (.str _) (.cons (J3.nda.less lessC) (.cons (.lst ncY J3.cle (J3.cda.less lessC)) (.cons (.str _) .nil))))
        have I5 := I4.push nrk dpt ⟨by show chs.length ≤ 3; omega, hch⟩ (by unfold idsOf at uq' ⊢; rw [List.map_append]; exact uq') (fun i hi => by
          unfold idsOf
          rw [List.map_append, List.mem_append]
          rcases hi with hi | hi
          · exact .inr (by simp [hi])
          · exact .inl hi)
        exact ⟨_, _, _, _, _, _, _, _, _, _, _, _, _, rfl, by rw [List.length_append, hrl]; rfl, I5.more (by omega) (by omega)⟩
    · rintro σ H' ⟨x5, x6, x7, x8, x9, x10, x11, x12, x13, x14, us, row, kes, rfl, hrl, I⟩
      refine ⟨_, rfl, _, rfl, _, rfl, kd, _, rfl, I.kn.at_, I.kn.keys, (KnAt.alike kes).1, (KnAt.alike kes).2.1, (KnAt.alike kes).2.2, fun sl es' nsl pm => ?_⟩
      have I1 := I.new (o := .lst (es'.map fun e => V.ref e.2.1)) nsl
      refine ⟨(by show 3 ≤ sizeLine; decide), fun rt nrt => ?_⟩
      have I2 := I1.new (o := .tup [.ref lt, .ref rw, .ref sl]) nrt
      have lessX : ∀ x ∈ X, x ∈ kd :: rw :: X := fun x hx => List.mem_cons_of_mem _ (List.mem_cons_of_mem _ hx)
      obtain ⟨ks', pk, e3⟩ : ∃ ks' : List KE, ks'.Perm kes ∧ es' = ks'.map (keN l) := by
        obtain ⟨ks', e4, pk⟩ := perm_lift pm kes rfl
        exact ⟨ks', pk, e4.symm⟩
      subst e3
      have nrX : rw ∉ X := sx7.ne nrw
      refine k l _ row (ks'.map (·.1)) _ I.rok (by omega) I2.sx.sta (ka.trans I2.kp) (.tup (fun z => I1.sx.ne nrt (lessX _ z)) upd_same (.cons (I2.lda.less lessX) (.cons (.lst nrX I2.rwe (I2.rda.less lessX)) (.cons (.lst (fun z => I.sx.ne nsl (lessX _ z)) (upd_some upd_same nrt) ?_) .nil))))
      have := DaAll.unzip (X := X) (H := upd (upd H' sl (.lst ((ks'.map (keN l)).map fun e => V.ref e.2.1))) rt (.tup [.ref lt, .ref rw, .ref sl])) (enc := encV l) (zs := ks'.map fun e => ((V.ref e.2.1, e.1) : V × Vx)) (fun z hz => by
        obtain ⟨e, he, rfl⟩ := List.mem_map.mp hz
        exact (I2.kn.key e (pk.mem_iff.mp he)).less lessX)
      simp only [List.map_map] at this ⊢
      exact this
end
end Qw
namespace Qw
open PySem L2
/-! ### a change as one walks it: its word, its file, the rest -/
structure ChW (l : Lab) (X : List Addr) (H : Hp) (S : Id → Prop) (cv : V) (nm : Str) (fv : V) (rest : List V) : Prop where
  at_ : ∃ ct, cv = .ref ct ∧ H ct = some (.tup (.str nm :: fv :: rest))
  nb : nm ≠ "back"
  na : nm ≠ "add"
  fd : ∃ f : Vx, Da X H fv (encV l f) ∧ S f.1
  ne : rest ≠ []
  rl : rest.length ≤ 3
  parts : ∀ y ∈ rest, (∃ a xs, y = .ref a ∧ H a = some (.tup xs)) ∨ ∃ a xs, y = .ref a ∧ H a = some (.lst xs) ∧ (nm = "cut" ∨ nm = "drop" ∨ nm = "move" → ∃ os : List Vx, DaAll X H xs (os.map (encV l)) ∧ os.length ≤ 10 ∧ ∀ v ∈ os, S v.1)
  ln : nm = "lines" → ∃ (ua : Addr) (us : List V) (da : Addr) (ds : List V) (tv : V) (uo dd : List Vx), rest = [.ref ua, .ref da, tv] ∧ H ua = some (.lst us) ∧ H da = some (.lst ds) ∧ DaAll X H us (uo.map (encV l)) ∧ DaAll X H ds (dd.map (encV l)) ∧ uo.length ≤ 10 ∧ dd.length ≤ 10 ∧ (∀ v ∈ uo, S v.1) ∧ ∀ v ∈ dd, S v.1
  od : nm = "order" → ∃ (xv yv : V) (x y : Vx), rest = [xv, yv] ∧ Da X H xv (encV l x) ∧ Da X H yv (encV l y) ∧ S x.1 ∧ S y.1
section
variable {l : Lab} {X : List Addr} {H : Hp} {S : Id → Prop} {cv : V} {ks : List Vx}
theorem daLst {v : V} {os : List Vx} (h : Da X H v (encL (encV l) os)) : ∃ a xs, v = .ref a ∧ H a = some (.lst xs) ∧ DaAll X H xs (os.map (encV l)) := let ⟨a, xs, e, _, h1, h2⟩ := h.getL; ⟨a, xs, e, h1, h2⟩
theorem daTup {v : V} {ds : List PyData} (h : Da X H v (.tuple ds)) : ∃ a xs, v = .ref a ∧ H a = some (.tup xs) := let ⟨a, xs, e, _, h1, _⟩ := h.getT; ⟨a, xs, e, h1⟩
theorem chW {ch : Ch} (h : Da X H cv (encCh l ch)) (ok : ChOk S ks ch) : (∃ pd ct pv, ch = .add pd ∧ cv = .ref ct ∧ H ct = some (.tup [.str "add", pv])) ∨
    (∃ i ct iv, ch = .back i ∧ cv = .ref ct ∧ H ct = some (.tup [.str "back", iv]) ∧ Da X H iv (encI l i) ∧ S i) ∨ ∃ nm fv rest, ChW l X H S cv nm fv rest := by
  cases ch with
  | add pd =>
    obtain ⟨ct, xs, rfl, _, hct, r⟩ := h.getT
    obtain ⟨v0, r0, rfl, d0, s0⟩ := r.uncons
    obtain ⟨v1, r1, rfl, d1, s1⟩ := s0.uncons
    rw [d0.getS, s1.nil'] at hct
    exact .inl ⟨pd, ct, v1, rfl, rfl, hct⟩
  | back i =>
    obtain ⟨ct, xs, rfl, _, hct, r⟩ := h.getT
    obtain ⟨v0, r0, rfl, d0, s0⟩ := r.uncons
    obtain ⟨v1, r1, rfl, d1, s1⟩ := s0.uncons
    rw [d0.getS, s1.nil'] at hct
    exact .inr (.inl ⟨i, ct, v1, rfl, rfl, hct, d1, ok⟩)
  | move f pd os =>
    obtain ⟨ct, xs, rfl, _, hct, r⟩ := h.getT
    obtain ⟨v0, r0, rfl, d0, s0⟩ := r.uncons
    obtain ⟨v1, r1, rfl, d1, s1⟩ := s0.uncons
    obtain ⟨v2, r2, rfl, d2, s2⟩ := s1.uncons
    obtain ⟨v3, r3, rfl, d3, s3⟩ := s2.uncons
    rw [d0.getS, s3.nil'] at hct
    obtain ⟨b1, ys, e1, q1⟩ := daTup d2
    obtain ⟨b2, zs, e2, q2, q3⟩ := daLst d3
    refine .inr (.inr ⟨"move", v1, [v2, v3], ⟨_, rfl, hct⟩, by decide, by decide, ⟨f, d1, ok.2.1⟩, by simp, by simp, fun y hy => ?_, fun z => absurd z (by decide), fun z => absurd z (by decide)⟩)
    simp only [List.mem_cons, List.not_mem_nil, or_false] at hy
    rcases hy with rfl | rfl
    · exact .inl ⟨b1, ys, e1, q1⟩
    · exact .inr ⟨b2, zs, e2, q2, fun _ => ⟨os, q3, ok.2.2.1, ok.2.2.2⟩⟩
  | drop f os =>
    obtain ⟨ct, xs, rfl, _, hct, r⟩ := h.getT
    obtain ⟨v0, r0, rfl, d0, s0⟩ := r.uncons
    obtain ⟨v1, r1, rfl, d1, s1⟩ := s0.uncons
    obtain ⟨v3, r3, rfl, d3, s3⟩ := s1.uncons
    rw [d0.getS, s3.nil'] at hct
    obtain ⟨b2, zs, e2, q2, q3⟩ := daLst d3
    refine .inr (.inr ⟨"drop", v1, [v3], ⟨_, rfl, hct⟩, by decide, by decide, ⟨f, d1, ok.1⟩, by simp, by simp, fun y hy => ?_, fun z => absurd z (by decide), fun z => absurd z (by decide)⟩)
    rw [List.mem_singleton] at hy
    subst hy
    exact .inr ⟨b2, zs, e2, q2, fun _ => ⟨os, q3, ok.2.1, ok.2.2⟩⟩
  | cut f os =>
    obtain ⟨ct, xs, rfl, _, hct, r⟩ := h.getT
    obtain ⟨v0, r0, rfl, d0, s0⟩ := r.uncons
    obtain ⟨v1, r1, rfl, d1, s1⟩ := s0.uncons
    obtain ⟨v3, r3, rfl, d3, s3⟩ := s1.uncons
    rw [d0.getS, s3.nil'] at hct
    obtain ⟨b2, zs, e2, q2, q3⟩ := daLst d3
    refine .inr (.inr ⟨"cut", v1, [v3], ⟨_, rfl, hct⟩, by decide, by decide, ⟨f, d1, ok.1⟩, by simp, by simp, fun y hy => ?_, fun z => absurd z (by decide), fun z => absurd z (by decide)⟩)
    rw [List.mem_singleton] at hy
    subst hy
    exact .inr ⟨b2, zs, e2, q2, fun _ => ⟨os, q3, ok.2.1, ok.2.2⟩⟩
  | order f x y =>
    obtain ⟨ct, xs, rfl, _, hct, r⟩ := h.getT
    obtain ⟨v0, r0, rfl, d0, s0⟩ := r.uncons
    obtain ⟨v1, r1, rfl, d1, s1⟩ := s0.uncons
    obtain ⟨v2, r2, rfl, d2, s2⟩ := s1.uncons
    obtain ⟨v3, r3, rfl, d3, s3⟩ := s2.uncons
    rw [d0.getS, s3.nil'] at hct
    refine .inr (.inr ⟨"order", v1, [v2, v3], ⟨_, rfl, hct⟩, by decide, by decide, ⟨f, d1, ok.1⟩, by simp, by simp, fun y hy => ?_, fun z => absurd z (by decide), fun _ => ⟨v2, v3, x, y, rfl, d2, d3, ok.2.1, ok.2.2⟩⟩)
    simp only [List.mem_cons, List.not_mem_nil, or_false] at hy
    rcases hy with rfl | rfl
    · exact .inl (daTup d2)
    · exact .inl (daTup d3)
  | lines f us ds ts =>
    obtain ⟨ct, xs, rfl, _, hct, r⟩ := h.getT
    obtain ⟨v0, r0, rfl, d0, s0⟩ := r.uncons
    obtain ⟨v1, r1, rfl, d1, s1⟩ := s0.uncons
    obtain ⟨v2, r2, rfl, d2, s2⟩ := s1.uncons
    obtain ⟨v3, r3, rfl, d3, s3⟩ := s2.uncons
    obtain ⟨v4, r4, rfl, d4, s4⟩ := s3.uncons
    rw [d0.getS, s4.nil'] at hct
    obtain ⟨b2, us', e2, q2, q3⟩ := daLst d2
    obtain ⟨b3, ds', e3, g2, g3⟩ := daLst d3
    obtain ⟨b4, ts', e4, _, t2, _⟩ := d4.getL
    have cm : ∀ {A : Prop}, (("lines" : Str) = "cut" ∨ ("lines" : Str) = "drop" ∨ ("lines" : Str) = "move") → A := fun z => by
      rcases z with z | z | z <;> exact absurd z (by decide)
    refine .inr (.inr ⟨"lines", v1, [v2, v3, v4], ⟨_, rfl, hct⟩, by decide, by decide, ⟨f, d1, ok.2.1⟩, by simp, by simp, fun y hy => ?_, fun _ => ⟨b2, us', b3, ds', v4, us, ds, by rw [e2, e3], q2, g2, q3, g3, ok.2.2.1, ok.2.2.2.1, ok.2.2.2.2.1, ok.2.2.2.2.2.1⟩, fun z => absurd z (by decide)⟩)
    simp only [List.mem_cons, List.not_mem_nil, or_false] at hy
    rcases hy with rfl | rfl | rfl
    · exact .inr ⟨b2, us', e2, q2, cm⟩
    · exact .inr ⟨b3, ds', e3, g2, cm⟩
    · exact .inr ⟨b4, ts', e4, t2, cm⟩
theorem ChW.same {H' : Hp} {nm : Str} {fv : V} {rest : List V} (h : ChW l X H S cv nm fv rest) (k : Same H H') : ChW l X H' S cv nm fv rest := by
  refine ⟨?_, h.nb, h.na, ?_, h.ne, h.rl, fun y hy => ?_, fun z => ?_, fun z => ?_⟩
  · obtain ⟨ct, e, q⟩ := h.at_; exact ⟨ct, e, k _ _ q⟩
  · obtain ⟨f, df, s⟩ := h.fd; exact ⟨f, df.same k, s⟩
  · rcases h.parts y hy with ⟨b, xs, e, q⟩ | ⟨b, xs, e, q, g⟩
    · exact .inl ⟨b, xs, e, k _ _ q⟩
    · exact .inr ⟨b, xs, e, k _ _ q, fun z => let ⟨os, d, r⟩ := g z; ⟨os, d.same k, r⟩⟩
  · obtain ⟨ua, us, da, ds, tv, uo, dd, e, q1, q2, d1, d2, r⟩ := h.ln z
    exact ⟨ua, us, da, ds, tv, uo, dd, e, k _ _ q1, k _ _ q2, d1.same k, d2.same k, r⟩
  · obtain ⟨xv, yv, x, y, e, d1, d2, r⟩ := h.od z
    exact ⟨xv, yv, x, y, e, d1.same k, d2.same k, r⟩
end
theorem inV_strs (x : Str) (ys : List Str) : inV (.str x) (ys.map V.str) = decide (x ∈ ys) := by
  unfold inV
  induction ys with
  | nil => rfl
  | cons y ys ih =>
    rw [List.map_cons, List.any_cons, ih]
    show ((y == x) || decide (x ∈ ys)) = decide (x ∈ y :: ys)
    by_cases h : y = x
    · subst h; simp
    · have h2 : ¬ x = y := fun z => h z.symm
      simp [h, h2]
end Qw
namespace Qw
open PySem L2
theorem cut2 (x y : V) (r : List V) : cutV (x :: y :: r) (some 2) none = r := by
  unfold cutV
  have e1 : HT.sIx (x :: y :: r).length 0 (some 2) = 2 := by
    have := HT.sIx_nat (x :: y :: r).length 0 2
    rw [show ((2 : Nat) : Int) = 2 from rfl] at this
    rw [this]
    simp
  rw [e1, HT.sIx_none]
  simp
theorem cut2n (x y : V) (r : List V) : ¬ (HT.sIx (x :: y :: r).length 0 (some 2) = 0 ∧ HT.sIx (x :: y :: r).length (x :: y :: r).length none = (x :: y :: r).length) := by
  intro h
  have := HT.sIx_nat (x :: y :: r).length 0 2
  rw [show ((2 : Nat) : Int) = 2 from rfl, h.1] at this
  simp at this
theorem eIt' (l : Lab) (b : Id) : ∃ x r, encI l b = .tuple (x :: r) := ⟨_, _, rfl⟩
theorem vx_get {X : List Addr} {H : Hp} {v : V} {l : Lab} {x : Vx} (h : Da X H v (encV l x)) : ∃ va idv r, v = .ref va ∧ H va = some (.tup (idv :: r)) ∧ Da X H idv (encI l x.1) := by
  obtain ⟨pa, xs, e, _, hp, r⟩ := h.getT
  obtain ⟨v1, r1, rfl, d1, s1⟩ := r.uncons
  exact ⟨pa, v1, r1, e, hp, d1⟩
section
variable {P : Program} {w : World} {K : PySem.W.Frag} {mg : Str → Option Value} {base : Heap} {a : Nat → Addr} {d : Nat → FuncData} {C : Addr}
/-! ### what a patch needs -/
def spNds : Sp := fun vs H Q _ => ∃ (X : List Addr) (l : Lab) (bf : List Id) (t : PT) (v : V), vs = [v] ∧ Dom X H ∧ Da X H v (encPt l t) ∧ PtOk bf t ∧ ∀ q is H', (∀ i ∈ is, i ∈ bf) → is.length ≤ 1000 → Same H H' → Da X H' q (encL (encI l) is) → Q q H'
theorem ok_nds (T : Tx K mg a d C) : FnOk P w K mg base CX0 1 (a 16) (d 16) ["_law_patch"] spNds := by
  refine T.nds.F.ok sc_nds (fun vs H Q E h => ?_) (fun cdv A outer s H vs Q E hr h => ?_)
  · obtain ⟨X, l, bf, t, v, rfl, _⟩ := h
    rfl
  · obtain ⟨X, l, bf, t, v, rfl, dom, dv, ok, k⟩ := h
    have nd := sc_nds.nd
    have hu := hu_of hr
    refine ⟨_, (pss_cons (ps_set (i := 1) nd rfl (by first | exact Or.inl rfl | exact Or.inr rfl) (pe_lst pa_nil))
      (pss_cons (ps_for PassesOwn.never rfl (pi_listK K rfl (pe_ix (ix_tupK K rfl) (pv 0) pe_int (fun _ _ => rfl))) (pg_name (i := 2) nd rfl (by first | exact Or.inl rfl | exact Or.inr rfl)) (pss_one (ps_if (pt_cmpR op_eq (pe_ix (ix_tupK K rfl) (pv 2) pe_int (fun _ _ => rfl)) pe_str (nomark _)) (pss_one (ps_expr (pe_bm PySem.F.plainAttrs_list PySem.F.slot_list_append PySem.F.type_list_append mt_append (pv 1) (pa_cons (pe_ix (ix_tupK K rfl) (pv 2) pe_int (fun _ _ => rfl)) pa_nil)))) (pss_one (ps_if (pt_cmpR op_ne (pe_ix (ix_tupK K rfl) (pv 2) pe_int (fun _ _ => rfl)) pe_str (nomark _)) (pss_cons (ps_set (i := 3) nd rfl (by first | exact Or.inl rfl | exact Or.inr rfl) (pe_lst (pa_cons (pe_ix (ix_tupK K rfl) (pv 2) pe_int (fun _ _ => rfl)) pa_nil)))
      (pss_cons (ps_for PassesOwn.never rfl (pi_tupK K rfl (pe_slice (sl_tupK K rfl) (pv 2) (po_some pe_int) po_none)) (pg_name (i := 4) nd rfl (by first | exact Or.inl rfl | exact Or.inr rfl)) (pss_one (ps_if (PW.pt (pw_and (pt_val (pe_callB (call_isiK2 K rfl) (by rfl) T.isinstance (by decide +kernel) (pa_cons (pv 4) (pa_cons (pe_bltn (v := .ty "list") (u := .type "list") (by rfl) T.list (by decide +kernel) rfl) pa_nil)))) (pw_and1 (pt_cmpR (op_inSK K rfl) (pe_ix (ix_tupK K rfl) (pv 2) pe_int (fun _ _ => rfl)) (pe_tup (pa_cons pe_str (pa_cons pe_str (pa_cons pe_str pa_nil)))) (by rfl))))) (pss_one (ps_set (i := 3) nd rfl (by first | exact Or.inl rfl | exact Or.inr rfl) (pe_op op_cat (pv 3) (pv 4)))) pss_nil)))
      (pss_cons (ps_if (pt_cmpR op_eq (pe_ix (ix_tupK K rfl) (pv 2) pe_int (fun _ _ => rfl)) pe_str (nomark _)) (pss_one (ps_set (i := 3) nd rfl (by first | exact Or.inl rfl | exact Or.inr rfl) (pe_op op_cat (pe_op op_cat (pv 3) (pe_ix (ix_tupK K rfl) (pv 2) pe_int (fun _ _ => rfl))) (pe_ix (ix_tupK K rfl) (pv 2) pe_int (fun _ _ => rfl))))) pss_nil)
      (pss_cons (ps_if (pt_cmpR op_eq (pe_ix (ix_tupK K rfl) (pv 2) pe_int (fun _ _ => rfl)) pe_str (nomark _)) (pss_one (ps_set (i := 3) nd rfl (by first | exact Or.inl rfl | exact Or.inr rfl) (pe_op op_cat (pv 3) (pe_lst (pa_cons (pe_ix (ix_tupK K rfl) (pv 2) pe_int (fun _ _ => rfl)) (pa_cons (pe_ix (ix_tupK K rfl) (pv 2) pe_int (fun _ _ => rfl)) pa_nil)))))) pss_nil)
      (pss_one (ps_set (i := 1) nd rfl (by first | exact Or.inl rfl | exact Or.inr rfl) (pe_op op_cat (pv 1) (pe_lc (own := [("_law_vertex", 6)]) (g := gName 6) (tt := tYes) (by rfl) nd (pi_listK K rfl (pv 3)) (blkOk_by (own := [("_law_vertex", 6)]) (N := N_nds) (sc := defScope s_nds) (by decide +kernel)) (fun _ _ _ _ _ => (pg_name (i := 6) nd rfl (by first | exact Or.inl rfl | exact Or.inr rfl))) (fun _ _ _ _ _ => pts_nil) (fun _ _ _ _ _ => (pe_ix (ix_tupK K rfl) (pv 6) pe_int (fun _ _ => rfl))))))))))) pss_nil)))))
      (pss_one (ps_ret (pe_callB (call_sortDK K rfl hr.units) (by rfl) T.sorted (by decide +kernel) (pa_cons (pe_lc (own := [("_law_name", 5)]) (g := gName 5) (by rfl) nd (pi_listK K rfl (pv 1)) (blkOk_by (own := [("_law_name", 5)]) (N := N_nds) (sc := defScope s_nds) (by decide +kernel)) (fun _ _ _ _ _ => (pg_name (i := 5) nd rfl (by first | exact Or.inl rfl | exact Or.inr rfl))) (fun _ _ _ _ _ => (pts_one (pt_cmpR (op_neDK K rfl hr.units) (pv 5) (pe_ix (ix_tupK K rfl) (pv 0) pe_int (fun _ _ => rfl)) (nomark _)))) (fun _ _ _ _ _ => (pv 5))) pa_nil)))))), ?_⟩
    obtain ⟨pa, idv, chv, rfl, hpa, did, dch⟩ := pt_get dv
    obtain ⟨ca, cvs, rfl, nca, hca, rca⟩ := dch.getL
    generalize hS : (fun i : Id => i = t.1 ∨ i ∈ bf) = S
    have hSd : ∀ i, S i ↔ (i = t.1 ∨ i ∈ bf) := fun i => by rw [← hS]
    refine ⟨Nat.zero_le _, fun f0 nf0 => ?_⟩
    have hcl : cvs.length ≤ 3 := by rw [rca.lenB]; exact ok.n
    refine ⟨_, rfl, pa, _, 2, _, rfl, rfl, SqT.of (upd_some hpa nf0), atI_nat (j := 2) rfl, ca, rfl, ⟨_, SqL.of (upd_some hca nf0)⟩, for_list (K := K) (a := ca) (xs := cvs) (fun i σ H' => ∃ (f : Addr) (us : List V) (is : List Id) (x2 x3 x4 x5 x6 : Option V),
      σ = [some (.ref pa), some (.ref f), x2, x3, x4, x5, x6] ∧ Same H H' ∧ H f = none ∧ H' f = some (.lst us) ∧ f ∉ X ∧ DaAll (f :: X) H' us (is.map (encI l)) ∧ (∀ j ∈ is, S j) ∧ is.length ≤ 100 * i) ⟨f0, [], [], none, none, none, none, none, rfl, Same.new nf0, nf0, upd_same, dom.fresh nf0, .nil, by simp, by simp⟩ ?_ ?_ ?_⟩
    · rintro i σ H' _ ⟨f, us, is, x2, x3, x4, x5, x6, rfl, s1, _⟩
      exact SqL.of (s1 _ _ hca)
    · rintro i cv σ H' hi ⟨f, us, is, x2, x3, x4, x5, x6, rfl, s1, zf, hf, nf, rus, his, hil⟩
      have hi3 : i < 3 := by have := (List.getElem?_eq_some_iff.mp hi).1; omega
      obtain ⟨dd, hdd, dcv⟩ := rca.get hi
      obtain ⟨ch, hch, rfl⟩ : ∃ ch, t.2.1[i]? = some ch ∧ encCh l ch = dd := by
        rw [List.getElem?_map] at hdd
        exact Option.map_eq_some_iff.mp hdd
      obtain ⟨ks, okc⟩ := ok.ch ch (List.mem_of_getElem? hch)
      rw [hS] at okc
      rcases chW dcv okc with ⟨pd, ct, pv, rfl, rfl, hct⟩ | ⟨bi, ct, iv, rfl, rfl, hct, div, hbi⟩ | ⟨nm, fv, rest, W0⟩
      · have hct := s1 _ _ hct
        refine ⟨_, rfl, ct, _, 0, _, rfl, rfl, SqT.of hct, atI_nat (j := 0) rfl, rfl, _, rfl, iteD (fun h => absurd h (by decide)) fun _ => ?_⟩
        refine ⟨_, rfl, ct, _, 0, _, rfl, rfl, SqT.of hct, atI_nat (j := 0) rfl, rfl, _, rfl, iteN (fun h => absurd rfl h) fun _ => ?_⟩
        exact ⟨f, us, is, _, _, _, _, _, rfl, s1, zf, hf, nf, rus, his, by omega⟩
      · have hct := s1 _ _ hct
        refine ⟨_, rfl, ct, _, 0, _, rfl, rfl, SqT.of hct, atI_nat (j := 0) rfl, rfl, _, rfl, iteD (fun _ => ?_) fun h => absurd rfl h⟩
        refine ⟨_, rfl, .inl ⟨rfl, _, SqL.of hf⟩, _, rfl, ct, _, 1, _, rfl, rfl, SqT.of hct, atI_nat (j := 1) rfl, f, us, iv, rfl, rfl, hf, small1000 (by have := rus.lenB; omega), ?_⟩
        refine ⟨f, _, is ++ [bi], _, _, _, _, _, rfl, Same.over s1 zf, zf, upd_same, nf, ?_, fun j hj => ?_, by simp; omega⟩
        · rw [List.map_append]; exact (rus.app (DaAll.one ((div.off zf).same s1))).put
        · rcases List.mem_append.mp hj with hj | hj
          · exact his j hj
          · rw [List.mem_singleton] at hj; subst hj; exact hbi
      · have W := W0.same s1
        obtain ⟨ct, rfl, hct⟩ := W.at_
        refine ⟨_, rfl, ct, _, 0, _, rfl, rfl, SqT.of hct, atI_nat (j := 0) rfl, rfl, _, rfl, iteD (fun h => absurd (V.str.inj h) W.nb) fun _ => ?_⟩
        refine ⟨_, rfl, ct, _, 0, _, rfl, rfl, SqT.of hct, atI_nat (j := 0) rfl, rfl, _, rfl, iteN (fun _ => ?_) fun h => absurd (V.str.inj h) W.na⟩
        obtain ⟨ff, dfv, hff⟩ := W.fd
        refine ⟨_, rfl, ct, _, 1, _, rfl, rfl, SqT.of hct, atI_nat (j := 1) rfl, (by show 1 ≤ sizeLine; decide), fun r0 nr0 => ?_⟩
        have hct1 := upd_some (o := .lst [fv]) hct nr0
        refine ⟨_, rfl, 2, rfl, ct, _, rfl, SqT.of hct1, cut2n _ _ _, fun sp nsp => ?_⟩
        rw [cut2]
        have s2 : Same H' (upd (upd H' r0 (.lst [fv])) sp (.tup rest)) := (Same.new nr0).trans (Same.new nsp)
        have hr0 : (upd (upd H' r0 (.lst [fv])) sp (.tup rest)) r0 = some (.lst [fv]) := upd_some upd_same nsp
        have hsp : (upd (upd H' r0 (.lst [fv])) sp (.tup rest)) sp = some (.tup rest) := upd_same
        generalize upd (upd H' r0 (.lst [fv])) sp (.tup rest) = H2 at s2 hr0 hsp
        -- what follows the rows, once
        have last : ∀ (ra : Addr) (rs : List V) (vs : List Vx) (x4 x5 x6 : Option V) (H3 : Hp), Same H' H3 → H3 ra = some (.lst rs) → DaAll X H3 rs (vs.map (encV l)) → (∀ v ∈ vs, S v.1) → vs.length ≤ 90 →
            tOp rCat (tVar 1) (tLc (iList K (tVar 3)) (gName 6) tYes (tOp (rIxT K) (tVar 6) (tC (.int 0))) [6]) [some (.ref pa), some (.ref f), some (.ref ct), some (.ref ra), x4, x5, x6] H3 (fun x H4 => ∃ (f : Addr) (us : List V) (is : List Id) (y2 y3 y4 y5 y6 : Option V),
              [some (.ref pa), some x, some (.ref ct), some (.ref ra), x4, x5, x6] = [some (.ref pa), some (.ref f), y2, y3, y4, y5, y6] ∧ Same H H4 ∧ H f = none ∧ H4 f = some (.lst us) ∧ f ∉ X ∧ DaAll (f :: X) H4 us (is.map (encI l)) ∧ (∀ j ∈ is, S j) ∧ is.length ≤ 100 * (i + 1)) := by
          intro ra rs vs x4 x5 x6 H3 s3 hra rrs hvs hvl
          obtain ⟨zs, e1, e2, hz⟩ := rrs.zip
          subst e1
          have hzl : zs.length = vs.length := by rw [← e2, List.length_map]
          refine ⟨_, rfl, _, rfl, ra, rfl, ⟨_, SqL.of hra⟩, fun D hD => lcL (K := K) (γ := Id) (fun v : Vx => some v.1) (RelD (D :: X) (encI l)) hD (SqL.of hra) (line1000 (by omega)) relD_st (fun j z hj => ?_) fun H4 acc s4 e4 pr4 => ?_⟩
          · intro H5 N M s5 _ hN hM
            obtain ⟨zv, zt⟩ := z
            obtain ⟨va, idv', r', rfl, hva, did'⟩ := vx_get (hz _ (List.mem_of_getElem? hj))
            exact ⟨rfl, _, rfl, va, _, 0, _, rfl, rfl, SqT.of (s5 _ _ hva), atI_nat (j := 0) rfl, hN _ _ _ rfl (Same.refl _) ((did'.off hD).same s5)⟩
          · have ra4 := relD_all pr4
            rw [all_map, e2] at ra4
            have hf4 := s4 _ _ (s3 _ _ hf)
            refine ⟨f, D, us, acc, rfl, rfl, hf4, e4, line1000 ?_, fun f' nf' => ?_⟩
            · have := rus.lenB
              have := ra4.lenB
              simp at this
              omega
            have s5 : Same H H4 := (s1.trans s3).trans s4
            refine ⟨f', _, is ++ vs.map (·.1), some (.ref ct), some (.ref ra), x4, x5, x6, rfl, s5.trans (Same.new nf'), s5.free nf', upd_same, (dom.same s5).fresh nf', ?_, fun j hj => ?_, by simp; omega⟩
            · rw [List.map_append]
              exact ((rus.same (s3.trans s4)).tail.app ra4.tail).new nf'
            · rcases List.mem_append.mp hj with hj | hj
              · exact his j hj
              · obtain ⟨v, hv, rfl⟩ := List.mem_map.mp hj
                exact hvs v hv
        refine ⟨sp, rfl, ⟨_, SqT.of hsp⟩, for_tup (K := K) (a := sp) (xs := rest) (fun k σ H3 => ∃ (ra : Addr) (rs : List V) (vs : List Vx) (x4 x5 x6 : Option V), σ = [some (.ref pa), some (.ref f), some (.ref ct), some (.ref ra), x4, x5, x6] ∧ Same H2 H3 ∧ H3 ra = some (.lst rs) ∧ DaAll X H3 rs (vs.map (encV l)) ∧ (∀ v ∈ vs, S v.1) ∧ vs.length ≤ 1 + 10 * k)
          ⟨r0, [fv], [ff], _, _, _, rfl, Same.refl _, hr0, DaAll.one (dfv.same s2), fun v hv => by rw [List.mem_singleton] at hv; subst hv; exact hff, by simp⟩ ?_ ?_ ?_⟩
        · rintro k σ H3 _ ⟨ra, rs, vs, x4, x5, x6, rfl, s3, _⟩
          exact SqT.of (s3 _ _ hsp)
        · rintro k y σ H3 hk ⟨ra, rs, vs, x4, x5, x6, rfl, s3, hra, rrs, hvs, hvl⟩
          have W3 := W.same (s2.trans s3)
          have hct3 := s3 _ _ (s2 _ _ hct)
          have hkl : k < 3 := by have := (List.getElem?_eq_some_iff.mp hk).1; have := W.rl; omega
          rcases W3.parts y (List.mem_of_getElem? hk) with ⟨b, xs, rfl, hb⟩ | ⟨b, xs, rfl, hb, hos⟩
          · refine ⟨_, rfl, .ref b, .ty "list", _, _, false, rfl, .ty _, .base (.tup hb), kit_ty (by decide +kernel), _, rfl, iteF (iteF ?_)⟩
            exact ⟨ra, rs, vs, _, _, _, rfl, s3, hra, rrs, hvs, by omega⟩
          · refine ⟨_, rfl, .ref b, .ty "list", _, _, true, rfl, .ty _, .base (.lst hb), kit_ty (by decide +kernel), _, rfl, iteT ?_⟩
            refine ⟨_, rfl, ct, _, 0, _, rfl, rfl, SqT.of hct3, atI_nat (j := 0) rfl, (by show 3 ≤ sizeLine; decide), fun tt ntt => ⟨tt, (["cut", "drop", "move"] : List Str).map V.str, rfl, .inr (SqT.of upd_same), rfl, rfl, _, rfl, ?_⟩⟩
            have s4 : Same H3 (upd H3 tt (.tup [V.str "cut", V.str "drop", V.str "move"])) := Same.new ntt
            refine iteB (fun hin => ?_) fun _ => ⟨ra, rs, vs, _, _, _, rfl, s3.trans s4, s4 _ _ hra, rrs.same s4, hvs, by omega⟩
            have hin2 : inV (.str nm) ((["cut", "drop", "move"] : List Str).map V.str) = true := hin
            rw [inV_strs] at hin2
            have hin3 := of_decide_eq_true hin2
            simp only [List.mem_cons, List.not_mem_nil, or_false] at hin3
            obtain ⟨os, dos, hol, hos2⟩ := hos hin3
            refine ⟨_, rfl, _, rfl, ra, b, rs, xs, rfl, rfl, s4 _ _ hra, s4 _ _ hb, line1000 ?_, fun ra' nra' => ?_⟩
            · have := rrs.lenB
              have := dos.lenB
              omega
            have s5 := s4.trans (Same.new (o := .lst (rs ++ xs)) nra')
            refine ⟨ra', _, vs ++ os, _, _, _, rfl, s3.trans s5, upd_same, ?_, fun v hv => ?_, by simp; omega⟩
            · rw [List.map_append]; exact (rrs.app dos).same s5
            · rcases List.mem_append.mp hv with hv | hv
              · exact hvs v hv
              · exact hos2 v hv
        · rintro σ H3 ⟨ra, rs, vs, x4, x5, x6, rfl, s3, hra, rrs, hvs, hvl⟩
          have s23 := s2.trans s3
          have W3 := W.same s23
          have hct3 := s23 _ _ hct
          have hrl := W.rl
          refine ⟨_, rfl, ct, _, 0, _, rfl, rfl, SqT.of hct3, atI_nat (j := 0) rfl, rfl, _, rfl, iteD (fun h => ?_) fun _ => ?_⟩
          · -- lines: its ups and downs
            obtain ⟨ua, us', da, ds', tv, uo, dd, erest, hua, hda, duo, ddd, hul, hdl, hus, hds⟩ := W3.ln (V.str.inj h)
            have hnm := V.str.inj h
            subst erest
            refine ⟨_, rfl, _, rfl, ct, _, 2, _, rfl, rfl, SqT.of hct3, atI_nat (j := 2) rfl, ra, ua, rs, us', rfl, rfl, hra, hua, line1000 ?_, fun r1 nr1 => ?_⟩
            · have := rrs.lenB
              have := duo.lenB
              simp at hvl
              omega
            have s4 : Same H3 (upd H3 r1 (.lst (rs ++ us'))) := Same.new nr1
            refine ⟨_, rfl, ct, _, 3, _, rfl, rfl, SqT.of (s4 _ _ hct3), atI_nat (j := 3) rfl, r1, da, _, ds', rfl, rfl, upd_same, s4 _ _ hda, line1000 ?_, fun r2 nr2 => ?_⟩
            · have := rrs.lenB
              have := duo.lenB
              have := ddd.lenB
              simp at hvl ⊢
              omega
            have s5 := s4.trans (Same.new (o := .lst (rs ++ us' ++ ds')) nr2)
            refine ⟨_, rfl, ct, _, 0, _, rfl, rfl, SqT.of (s5 _ _ hct3), atI_nat (j := 0) rfl, rfl, _, rfl, iteD (fun h2 => absurd (hnm.symm.trans (V.str.inj h2)) (by decide)) fun _ => ?_⟩
            show tOp rCat (tVar 1) (tLc (iList K (tVar 3)) (gName 6) tYes (tOp (rIxT K) (tVar 6) (tC (.int 0))) [6]) _ _ _
            refine last r2 _ (vs ++ uo ++ dd) x4 x5 x6 _ (s23.trans s5) upd_same ?_ (fun v hv => ?_) (by simp at hvl ⊢; omega)
            · rw [List.map_append, List.map_append]; exact ((rrs.app duo).app ddd).same s5
            · rcases List.mem_append.mp hv with hv | hv
              · rcases List.mem_append.mp hv with hv | hv
                · exact hvs v hv
                · exact hus v hv
              · exact hds v hv
          · refine ⟨_, rfl, ct, _, 0, _, rfl, rfl, SqT.of hct3, atI_nat (j := 0) rfl, rfl, _, rfl, iteD (fun h => ?_) fun _ => ?_⟩
            · -- order: its two lines
              obtain ⟨xv, yv, x, y, erest, dx, dy, hx, hy⟩ := W3.od (V.str.inj h)
              subst erest
              refine ⟨_, rfl, _, rfl, ct, _, 2, _, rfl, rfl, SqT.of hct3, atI_nat (j := 2) rfl, _, rfl, ct, _, 3, _, rfl, rfl, SqT.of hct3, atI_nat (j := 3) rfl, (by show 2 ≤ sizeLine; decide), fun r1 nr1 => ?_⟩
              have s4 : Same H3 (upd H3 r1 (.lst [xv, yv])) := Same.new nr1
              refine ⟨ra, r1, rs, _, rfl, rfl, s4 _ _ hra, upd_same, line1000 ?_, fun r2 nr2 => ?_⟩
              · have := rrs.lenB
                simp at hvl ⊢
                omega
              have s5 := s4.trans (Same.new (o := .lst (rs ++ [xv, yv])) nr2)
              show tOp rCat (tVar 1) (tLc (iList K (tVar 3)) (gName 6) tYes (tOp (rIxT K) (tVar 6) (tC (.int 0))) [6]) _ _ _
              refine last r2 _ (vs ++ [x, y]) x4 x5 x6 _ (s23.trans s5) upd_same ?_ (fun v hv => ?_) (by simp at hvl ⊢; omega)
              · rw [List.map_append]; exact (rrs.app (.cons dx (.cons dy .nil))).same s5
              · rcases List.mem_append.mp hv with hv | hv
                · exact hvs v hv
                · simp only [List.mem_cons, List.not_mem_nil, or_false] at hv
                  rcases hv with rfl | rfl
                  · exact hx
                  · exact hy
            · show tOp rCat (tVar 1) (tLc (iList K (tVar 3)) (gName 6) tYes (tOp (rIxT K) (tVar 6) (tC (.int 0))) [6]) _ _ _
              exact last ra rs vs x4 x5 x6 _ s23 hra rrs hvs (by omega)
    · rintro σ H' ⟨f, us, is, x2, x3, x4, x5, x6, rfl, s1, zf, hf, nf, rus, his, hil⟩
      have hpa' := s1 _ _ hpa
      obtain ⟨zs, e1, e2, hz⟩ := rus.tail.zip
      subst e1
      have hzl : zs.length = is.length := by rw [← e2, List.length_map]
      refine ⟨_, rfl, f, rfl, ⟨_, SqL.of hf⟩, fun D hD => lcL (K := K) (γ := Id) (fun i : Id => if i = t.1 then none else some i) (RelD (D :: X) (encI l)) hD (SqL.of hf) (line1000 (by omega)) relD_st (fun j z hj => ?_) fun H4 acc s4 e4 pr4 => ?_⟩
      · intro H5 N M s5 _ hN hM
        have dz := hz z (List.mem_of_getElem? hj)
        refine ⟨rfl, _, rfl, _, rfl, pa, _, 1, _, rfl, rfl, SqT.of (s5 _ _ hpa'), atI_nat (j := 1) rfl, neD_of (eI l) (by decide) (dz.same s5) ((did.same s1).same s5) ⟨_, rfl, iteN (fun hm => ⟨_, rfl, hN _ _ _ (if_neg hm) (Same.refl _) ((dz.off hD).same s5)⟩) fun hm => hM _ (if_pos hm) (Same.refl _)⟩⟩
      · have ra4 := relD_all pr4
        rw [e2] at ra4
        have s14 := s1.trans s4
        refine sortD_of (eI l) (by decide) (alI l) (eIt' l) e4 ra4.tail fun q us' is' nq pm ru => ?_
        have sub : ∀ i ∈ is', i ∈ bf := fun i hi => by
          obtain ⟨j, hj, e⟩ := List.mem_filterMap.mp (pm.mem_iff.mp hi)
          by_cases hjt : j = t.1
          · rw [if_pos hjt] at e; cases e
          · rw [if_neg hjt] at e
            have e := Option.some.inj e
            subst e
            exact ((hSd j).mp (his j hj)).resolve_left hjt
        refine k _ is' _ sub ?_ (s14.trans (Same.new nq)) (.lst ((dom.same s14).fresh nq) upd_same (ru.keep (Keep.new nq)))
        have h1 := pm.length_eq
        have h2 := filterMap_len (f := fun i : Id => if i = t.1 then none else some i) is
        omega
end
end Qw
namespace Qw
open PySem L2
theorem nodup_le {β : Type} [DecidableEq β] : ∀ (s L : List β), s.Nodup → (∀ x ∈ s, x ∈ L) → s.length ≤ L.length
  | [], _, _, _ => Nat.zero_le _
  | x :: s, L, hn, hs => by
    rw [List.nodup_cons] at hn
    have hx := hs x List.mem_cons_self
    have ih := nodup_le s (L.erase x) hn.2 fun y hy => by
      refine (List.mem_erase_of_ne ?_).mpr (hs y (List.mem_cons_of_mem _ hy))
      intro z
      rw [z] at hy
      exact hn.1 hy
    rw [List.length_erase_of_mem hx] at ih
    have : 0 < L.length := List.length_pos_of_mem hx
    simp only [List.length_cons]
    omega
def allIds : List Id := (List.finRange 3).flatMap fun a => (List.finRange 8).map fun n => (a, n)
theorem mem_allIds (i : Id) : i ∈ allIds := by
  unfold allIds
  exact List.mem_flatMap.mpr ⟨i.1, List.mem_finRange _, List.mem_map.mpr ⟨i.2, List.mem_finRange _, rfl⟩⟩
theorem ids24 {is : List Id} (h : is.Nodup) : is.length ≤ 24 := by
  have := nodup_le is allIds h fun x _ => mem_allIds x
  have e : allIds.length = 24 := by decide +kernel
  omega
theorem add_nodup {is js : List Id} (hi : is.Nodup) (hj : js.Nodup) : (is ++ js.filter fun j => decide (j ∉ is)).Nodup := by
  rw [List.nodup_append]
  refine ⟨hi, hj.filter _, fun x hx y hy e => ?_⟩
  have := (List.mem_filter.mp hy).2
  subst e
  exact of_decide_eq_true this hx
/-! ### for each id, the ids at and below it -/
abbrev BE := Id × Addr × V × List Id
def beN (l : Lab) (e : BE) : NEnt := (nkI l e.1, e.2.1, e.2.2.1)
structure BlAt (P : Program) (w : World) (l : Lab) (X : List Addr) (H : Hp) (kd : Addr) (bes : List BE) : Prop where
  at_ : H kd = some (DN P w kd (bes.map (beN l)))
  key : ∀ e ∈ bes, Da X H (.ref e.2.1) (encI l e.1)
  val : ∀ e ∈ bes, Da X H e.2.2.1 (encC l e.2.2.2)
def putB (bes : List BE) (x : Id) (a : Addr) (v : V) (g : List Id) : List BE :=
  if bes.any (fun e => decide (e.1 = x)) then bes.map fun e => if e.1 = x then (e.1, e.2.1, v, g) else e else bes ++ [(x, a, v, g)]
theorem putB_beN (l : Lab) (bes : List BE) (x : Id) (a : Addr) (v : V) (g : List Id) : (putB bes x a v g).map (beN l) = putN (bes.map (beN l)) (nkI l x) a v := by
  have e1 : (bes.map (beN l)).any (fun e => decide (e.1 = nkI l x)) = bes.any fun e => decide (e.1 = x) := by
    rw [List.any_map]
    refine congrArg (List.any bes) (funext fun e => ?_)
    show decide (nkI l e.1 = nkI l x) = decide (e.1 = x)
    exact decide_eq_decide.mpr ⟨nkI_inj, fun h => by rw [h]⟩
  unfold putB putN
  rw [e1]
  split
  · rw [List.map_map, List.map_map]
    refine List.map_congr_left fun e _ => ?_
    show beN l (if e.1 = x then (e.1, e.2.1, v, g) else e) = if nkI l e.1 = nkI l x then (nkI l e.1, e.2.1, v) else beN l e
    by_cases h : e.1 = x
    · rw [if_pos h, if_pos (by rw [h])]; rfl
    · rw [if_neg h, if_neg fun z => h (nkI_inj z)]
  · rw [List.map_append]; rfl
theorem putB_mem {bes : List BE} {x : Id} {a : Addr} {v : V} {g : List Id} {e : BE} (h : e ∈ putB bes x a v g) : e ∈ bes ∨ (e.1 = x ∧ e.2.2.1 = v ∧ e.2.2.2 = g ∧ (e.2.1 = a ∨ ∃ f ∈ bes, f.1 = x ∧ f.2.1 = e.2.1)) := by
  unfold putB at h
  split at h
  · obtain ⟨f, hf, rfl⟩ := List.mem_map.mp h
    by_cases hk : f.1 = x
    · rw [if_pos hk]
      exact .inr ⟨hk, rfl, rfl, .inr ⟨f, hf, hk, rfl⟩⟩
    · rw [if_neg hk]; exact .inl hf
  · rcases List.mem_append.mp h with h | h
    · exact .inl h
    · rw [List.mem_singleton] at h
      subst h
      exact .inr ⟨rfl, rfl, rfl, .inl rfl⟩
theorem putB_len (bes : List BE) (x : Id) (a : Addr) (v : V) (g : List Id) : (putB bes x a v g).length ≤ bes.length + 1 := by
  unfold putB
  split <;> simp
theorem putB_has {bes : List BE} {x : Id} {a : Addr} {v : V} {g : List Id} {j : Id} (h : j = x ∨ j ∈ bes.map (·.1)) : j ∈ (putB bes x a v g).map (·.1) := by
  unfold putB
  split
  · rename_i hany
    obtain ⟨f, hf, hk⟩ := List.any_eq_true.mp hany
    have hk := of_decide_eq_true hk
    have key : (bes.map fun e => if e.1 = x then (e.1, e.2.1, v, g) else e).map (·.1) = bes.map (·.1) := by
      rw [List.map_map]
      refine List.map_congr_left fun e _ => ?_
      show (if e.1 = x then (e.1, e.2.1, v, g) else e).1 = e.1
      split <;> rfl
    rw [key]
    rcases h with rfl | h
    · rw [← hk]; exact List.mem_map.mpr ⟨f, hf, rfl⟩
    · exact h
  · rw [List.map_append, List.mem_append]
    rcases h with rfl | h
    · exact .inr (by simp)
    · exact .inl h
section
variable {P : Program} {w : World} {K : PySem.W.Frag} {mg : Str → Option Value} {base : Heap} {a : Nat → Addr} {d : Nat → FuncData} {C : Addr} {l : Lab} {X : List Addr} {H H' : Hp} {kd : Addr} {bes : List BE}
theorem BlAt.same (h : BlAt P w l X H kd bes) (k : Same H H') : BlAt P w l X H' kd bes :=
  ⟨k _ _ h.at_, fun e he => (h.key e he).same k, fun e he => (h.val e he).same k⟩
theorem BlAt.keep (h : BlAt P w l X H kd bes) (k : Keep X H H') (e : H' kd = H kd) : BlAt P w l X H' kd bes :=
  ⟨e.trans h.at_, fun e he => (h.key e he).keep k, fun e he => (h.val e he).keep k⟩
theorem BlAt.keys (h : BlAt P w l X H kd bes) : KeysOk K H (bes.map (beN l)) := fun e he => by
  obtain ⟨f, hf, rfl⟩ := List.mem_map.mp he
  refine ⟨?_, nkI_depth l f.1⟩
  show Dp K H (.ref f.2.1) (nkI l f.1).data
  rw [nkI_data]
  exact (h.key f hf).D
theorem BlAt.get {i : Id} (hi : i ∈ bes.map (·.1)) : ∃ g ∈ bes, g.1 = i ∧ atN (bes.map (beN l)) (nkI l i) = some g.2.2.1 := by
  obtain ⟨f, hf, rfl⟩ := List.mem_map.mp hi
  obtain ⟨v, a, e1, e2⟩ := atN_some (es := bes.map (beN l)) (k := nkI l f.1) (by
    rw [List.map_map]
    exact List.mem_map.mpr ⟨f, hf, rfl⟩)
  obtain ⟨g, hg, e3⟩ := List.mem_map.mp e2
  unfold beN at e3
  injection e3 with e4 e5
  injection e5 with e6 e7
  exact ⟨g, hg, nkI_inj e4, by rw [e1, e7]⟩
/-- found[i]: its list -/
theorem BlAt.read (h : BlAt P w l X H kd bes) {i : Id} {v : V} {Y : List Addr} (dv : Da Y H v (encI l i)) (hi : i ∈ bes.map (·.1)) (hn : ∀ e ∈ bes, e.2.2.2.Nodup) :
    ∃ ia ga gs g, v = .ref ia ∧ Dp K H (.ref ia) (nkI l i).data ∧ atN (bes.map (beN l)) (nkI l i) = some (.ref ga) ∧ H ga = some (.lst gs) ∧ DaAll X H gs (g.map (encI l)) ∧ g.Nodup ∧ ∃ b, (i, b, V.ref ga, g) ∈ bes := by
  obtain ⟨e, he, e1, e2⟩ := BlAt.get (l := l) hi
  obtain ⟨ia, lab, rfl, _, _⟩ := id_get dv
  obtain ⟨ga, gs, e3, _, h1, h2⟩ := (h.val e he).getL
  refine ⟨ia, ga, gs, e.2.2.2, rfl, by rw [nkI_data]; exact dv.D, by rw [e2, e3], h1, h2, hn e he, e.2.1, ?_⟩
  rw [← e1, ← e3]
  exact he
/-- found[i] = v -/
theorem BlAt.store (h : BlAt P w l X H kd bes) (ik : kd ∈ X) {x : Id} {b : Addr} {v : V} {g : List Id} (hk : Da X H (.ref b) (encI l x)) (hv : Da X H v (encC l g)) :
    BlAt P w l X (upd H kd (DN P w kd (putN (bes.map (beN l)) (nkI l x) b v))) kd (putB bes x b v g) := by
  have kk : ∀ {o : HO}, Keep X H (upd H kd o) := Keep.put ik
  refine ⟨by rw [upd_same, putB_beN], fun e he => ?_, fun e he => ?_⟩
  · rcases putB_mem he with he | ⟨e1, e2, e3, e4⟩
    · exact (h.key e he).keep kk
    · rw [e1]
      rcases e4 with e4 | ⟨f, hf, f1, f2⟩
      · rw [e4]; exact hk.keep kk
      · rw [← f2, ← f1]; exact (h.key f hf).keep kk
  · rcases putB_mem he with he | ⟨e1, e2, e3, e4⟩
    · exact (h.val e he).keep kk
    · rw [e2, e3]; exact hv.keep kk
/-- rows + [one for one in found[name] if one not in rows]: the list that adds what is not there -/
theorem addList {q D : Addr} {us acc : List V} {is g : List Id} {f' : Addr} (hus : DaAll X H us (is.map (encI l))) (hacc : DaAll X H acc ((g.filter fun j => decide (j ∉ is)).map (encI l))) : DaAll X H (us ++ acc) ((is ++ g.filter fun j => decide (j ∉ is)).map (encI l)) := by
  rw [List.map_append]; exact hus.app hacc
def spAbl (P : Program) (w : World) : Sp := fun vs H Q _ => ∃ (X : List Addr) (l : Lab) (row : List PT) (v : V), vs = [v] ∧ Dom X H ∧ Da X H v (.list (row.map (encPt l))) ∧ RowOk row ∧ row.length ≤ 8 ∧
  ∀ (kd : Addr) (bes : List BE) (H' : Hp), BlAt P w l (kd :: X) H' kd bes → (∀ i ∈ idsOf row, i ∈ bes.map (·.1)) → (∀ e ∈ bes, e.2.2.2.Nodup) → H kd = none → Same H H' → Q (.ref kd) H'
theorem ok_abl (T : Tx K mg a d C) : FnOk P w K mg base CX0 2 (a 17) (d 17) ["_law_row"] (spAbl P w) := by
  have G_nds : FnOk P w K mg base CX0 1 _ _ _ spNds := ok_nds T
  refine T.abl.F.ok sc_abl (fun vs H Q E h => ?_) (fun cdv A outer s H vs Q E hr h => ?_)
  · obtain ⟨X, l, row, v, rfl, _⟩ := h
    rfl
  · obtain ⟨X, l, row, v, rfl, dom, dv, rok, hl8, k⟩ := h
    have nd := sc_abl.nd
    have hu := hu_of hr
    have hr_nds : Room 1 _ := hr
    refine ⟨_, (pss_cons (ps_set (i := 1) nd rfl (by first | exact Or.inl rfl | exact Or.inr rfl) (pe_dnewNK P w rfl rfl))
      (pss_cons (ps_for PassesOwn.never rfl (pi_listK K rfl (pv 0)) (pg_name (i := 2) nd rfl (by first | exact Or.inl rfl | exact Or.inr rfl)) (pss_cons (ps_set (i := 3) nd rfl (by first | exact Or.inl rfl | exact Or.inr rfl) (pe_lst (pa_cons (pe_ix (ix_tupK K rfl) (pv 2) pe_int (fun _ _ => rfl)) pa_nil)))
      (pss_cons (ps_for PassesOwn.never rfl (pi_listK K rfl (pe_call G_nds hr_nds (by rfl) T.nds.m T.nds.F.kp T.nds.b .nil pass0 (pa_cons (pv 2) pa_nil))) (pg_name (i := 4) nd rfl (by first | exact Or.inl rfl | exact Or.inr rfl)) (pss_one (ps_set (i := 3) nd rfl (by first | exact Or.inl rfl | exact Or.inr rfl) (pe_op op_cat (pv 3) (pe_lc (own := [("_law_one", 5)]) (g := gName 5) (by rfl) nd (pi_listK K rfl (pe_ngetK P w K rfl rfl rfl hr.units (pv 1) (pv 4) (fun _ _ => rfl))) (blkOk_by (own := [("_law_one", 5)]) (N := N_abl) (sc := defScope s_abl) (by decide +kernel)) (fun _ _ _ _ _ => (pg_name (i := 5) nd rfl (by first | exact Or.inl rfl | exact Or.inr rfl))) (fun _ _ _ _ _ => (pts_one (pt_cmpR (op_notInDK K rfl hr.un65) (pv 5) (pv 3) (by rfl)))) (fun _ _ _ _ _ => (pv 5)))))))
      (pss_one (ps_nputK P w K rfl rfl rfl hr.units (pv 1) (pe_ix (ix_tupK K rfl) (pv 2) pe_int (fun _ _ => rfl)) (pv 3)  rfl)))))
      (pss_one (ps_ret (pv 1))))), ?_⟩
    obtain ⟨ra, us, rfl, nra, hra, rda⟩ := dv.getL
    refine fun kd nkd => ?_
    have rd0 := rda.new (o := DN P w kd []) nkd
    obtain ⟨zs, e1, e2, hz⟩ := rda.zip
    subst e1
    have hzl : zs.length = row.length := by rw [← e2, List.length_map]
    refine ⟨_, rfl, ra, rfl, ⟨_, SqL.of (upd_some hra nkd)⟩, for_list (K := K) (a := ra) (xs := zs.map (·.1)) (fun i σ H' => ∃ (x2 x3 x4 x5 : Option V) (bes : List BE), σ = [some (.ref ra), some (.ref kd), x2, x3, x4, x5] ∧ Same H H' ∧ BlAt P w l (kd :: X) H' kd bes ∧ (∀ j ∈ idsOf (row.take i), j ∈ bes.map (·.1)) ∧ (∀ e ∈ bes, e.2.2.2.Nodup) ∧ bes.length ≤ i)
      ⟨none, none, none, none, [], rfl, Same.new nkd, ⟨upd_same, by simp, by simp⟩, by simp [idsOf], by simp, Nat.le_refl _⟩ ?_ ?_ ?_⟩
    · rintro i σ H' _ ⟨x2, x3, x4, x5, bes, rfl, s1, _⟩
      exact SqL.of (s1 _ _ hra)
    · rintro i cv σ H' hi ⟨x2, x3, x4, x5, bes, rfl, s1, B, hk, hn, hbl⟩
      obtain ⟨z, hzi, rfl, hri⟩ := zip_at hi
      rw [e2] at hri
      have dz := ((hz z (List.mem_of_getElem? hzi)).off nkd).same s1
      have okp := rok i z.2 hri
      obtain ⟨pa, idv, chv, hpe, hpa, did, dch⟩ := pt_get dz
      have hi8 : i < 8 := by have := (List.getElem?_eq_some_iff.mp hri).1; omega
      have domk : Dom (kd :: X) H' := fun x hx => by
        rcases List.mem_cons.mp hx with rfl | hx
        · rw [B.at_]; simp
        · exact dom.same s1 x hx
      rw [hpe] at dz ⊢
      refine ⟨_, rfl, pa, _, 1, _, rfl, rfl, SqT.of hpa, atI_nat (j := 1) rfl, (by show 1 ≤ sizeLine; decide), fun r0 nr0 => ?_⟩
      have s2 : Same H' (upd H' r0 (.lst [idv])) := Same.new nr0
      refine ⟨_, rfl, kd :: X, l, idsOf (row.take i), z.2, .ref pa, rfl, domk.same s2, dz.same s2, okp, fun q is H2 hsub hisl s3 dq => ?_⟩
      obtain ⟨qa, qs, rfl, nqa, hqa, rq⟩ := dq.getL
      have s23 := s2.trans s3
      have hr0 : H2 r0 = some (.lst [idv]) := s3 _ _ upd_same
      have did2 := did.same s23
      obtain ⟨ys, f1, f2, hy⟩ := rq.zip
      subst f1
      refine ⟨qa, rfl, ⟨_, SqL.of hqa⟩, for_list (K := K) (a := qa) (xs := ys.map (·.1)) (fun j σ H3 => ∃ (r : Addr) (x4 x5 : Option V) (rs : List V) (js : List Id), σ = [some (.ref ra), some (.ref kd), some (.ref pa), some (.ref r), x4, x5] ∧ Same H2 H3 ∧ H3 r = some (.lst rs) ∧ r ∉ kd :: X ∧ DaAll (kd :: X) H3 rs (js.map (encI l)) ∧ js.Nodup)
        ⟨r0, _, _, [idv], [z.2.1], rfl, Same.refl _, hr0, domk.fresh nr0, DaAll.one did2, by simp⟩ ?_ ?_ ?_⟩
      · rintro j σ H3 _ ⟨r, x4, x5, rs, js, rfl, s4, _⟩
        exact SqL.of (s4 _ _ hqa)
      · rintro j y σ H3 hj ⟨r, x4, x5, rs, js, rfl, s4, hr3, nr, rjs, njs⟩
        obtain ⟨yz, hyj, rfl, hij⟩ := zip_at hj
        rw [f2] at hij
        have dy := (hy yz (List.mem_of_getElem? hyj)).same s4
        have B3 := B.same (s23.trans s4)
        obtain ⟨ia, ga, gs, g, hye, dk, hat, hga, rg, ng, _⟩ := B3.read (K := K) dy (hk _ (hsub _ (List.mem_of_getElem? hij))) hn
        rw [hye] at dy ⊢
        obtain ⟨gz, g1, g2, hgz⟩ := rg.zip
        subst g1
        have hgl : gz.length ≤ 1000 := by
          have := ids24 ng
          have : gz.length = g.length := by rw [← g2, List.length_map]
          omega
        have drs : Da (kd :: X) H3 (.ref r) (encL (encI l) js) := .lst nr hr3 rjs
        refine ⟨_, rfl, _, rfl, _, rfl, kd, ia, _, nkI l yz.2, _, rfl, rfl, B3.at_, B3.keys, dk, nkI_depth _ _, hat, ga, rfl, ⟨_, SqL.of hga⟩, fun D hD => lcL (K := K) (γ := Id) (fun i : Id => if decide (i ∉ js) = true then some i else none) (RelD (D :: kd :: X) (encI l)) hD (SqL.of hga) (line1000 hgl) relD_st (fun m gy hm => ?_) fun H4 acc s5 e5 pr5 => ?_⟩
        · intro H5 N M s6 _ hN hM
          have dgy := hgz gy (List.mem_of_getElem? hm)
          refine ⟨rfl, _, rfl, _, rfl, notInD_of (eI l) (by decide) (dgy.same s6) (drs.same s6) ⟨_, rfl, iteN (fun hm => ⟨_, rfl, hN _ _ _ (if_pos (by simpa using hm)) (Same.refl _) ((dgy.off hD).same s6)⟩) fun hm => hM _ (if_neg (by simpa using hm)) (Same.refl _)⟩⟩
        · have ra5 := relD_all pr5
          rw [g2, someIf_map (fun i : Id => decide (i ∉ js)) (fun i => i), List.map_id'] at ra5
          have nn := add_nodup njs ng
          have h24 := ids24 nn
          rw [List.length_append] at h24
          refine ⟨r, D, rs, acc, rfl, rfl, s5 _ _ hr3, e5, line1000 ?_, fun r' nr' => ?_⟩
          · have := rjs.lenB
            have := ra5.lenB
            omega
          have s6 := s5.trans (Same.new (o := .lst (rs ++ acc)) nr')
          refine ⟨r', _, _, _, _, rfl, s4.trans s6, upd_same, ((domk.same s23).same (s4.trans s5)).fresh nr', ?_, nn⟩
          rw [List.map_append]
          exact ((rjs.same s5).app ra5.tail).same (Same.new nr')
      · rintro σ H3 ⟨r, x4, x5, rs, js, rfl, s4, hr3, nr, rjs, njs⟩
        have s234 := s23.trans s4
        have B3 := B.same s234
        have did3 := did.same s234
        obtain ⟨ia, lab, rfl, hia, _⟩ := id_get did3
        refine ⟨_, rfl, _, rfl, _, rfl, pa, _, 1, _, rfl, rfl, SqT.of (s234 _ _ hpa), atI_nat (j := 1) rfl, kd, ia, _, nkI l z.2.1, rfl, rfl, B3.at_, B3.keys, by rw [nkI_data]; exact did3.D, nkI_depth _ _, small1000 (by rw [List.length_map]; omega), ?_⟩
        refine ⟨_, _, _, _, _, rfl, Same.over (s1.trans s234) nkd, B3.store List.mem_cons_self did3 (.lst nr hr3 rjs), fun j hj => ?_, fun e he => ?_, ?_⟩
        · refine putB_has ?_
          rw [take_succ_of hri] at hj
          unfold idsOf at hj
          rw [List.map_append] at hj
          rcases List.mem_append.mp hj with hj | hj
          · exact .inr (hk j hj)
          · exact .inl (by simpa using hj)
        · rcases putB_mem he with he | ⟨g1, g2, g3, g4⟩
          · exact hn e he
          · rw [g3]; exact njs
        · have := putB_len bes z.2.1 ia (.ref r) js
          omega
    · rintro σ H' ⟨x2, x3, x4, x5, bes, rfl, s1, B, hk, hn, hbl⟩
      refine ⟨_, rfl, k kd bes H' B (fun i hi => hk i ?_) hn nkd s1⟩
      rw [List.length_map, hzl, List.take_length]
      exact hi
end
end Qw
namespace Qw
open PySem L2
section
variable {P : Program} {w : World} {K : PySem.W.Frag} {mg : Str → Option Value} {base : Heap} {a : Nat → Addr} {d : Nat → FuncData} {C : Addr}
/-- what holds while good is gathered -/
structure BtI (P : Program) (w : World) (l : Lab) (p c : Addr) (X : List Addr) (H0 H : Hp) (kd : Addr) (bes : List BE) (ia : Addr) (zs : List (V × Id)) : Prop where
  st : Sta p c H
  kp : Keep [p, c] H0 H
  B : BlAt P w l (kd :: X) H kd bes
  hi : H ia = some (.lst (zs.map (·.1)))
  hz : ∀ z ∈ zs, Da X H z.1 (encI l z.2)
  sub : ∀ x ∈ [p, c], x ∈ X
  nk : kd ∉ [p, c]
  ni : ia ∉ [p, c]
theorem BtI.step {l : Lab} {p c : Addr} {X : List Addr} {H0 H H' : Hp} {kd : Addr} {bes : List BE} {ia : Addr} {zs : List (V × Id)} (h : BtI P w l p c X H0 H kd bes ia zs) (s : Sta p c H') (k : Keep [p, c] H H') : BtI P w l p c X H0 H' kd bes ia zs :=
  { h with st := s, kp := h.kp.trans k, B := h.B.keep (k.mono fun x hx => List.mem_cons_of_mem _ (h.sub x hx)) ((k _ _ h.nk h.B.at_).trans h.B.at_.symm), hi := k _ _ h.ni h.hi, hz := fun z hz => (h.hz z hz).keep (k.mono h.sub) }
theorem BtI.same {l : Lab} {p c : Addr} {X : List Addr} {H0 H H' : Hp} {kd : Addr} {bes : List BE} {ia : Addr} {zs : List (V × Id)} (h : BtI P w l p c X H0 H kd bes ia zs) (k : Same H H') : BtI P w l p c X H0 H' kd bes ia zs := h.step (h.st.same k) (Keep.of k)
def spBtw (P : Program) (w : World) : Sp := fun vs H Q _ => ∃ (p c : Addr) (X : List Addr) (l : Lab) (row : List PT) (v : V), vs = [.ref p, v, .int 5] ∧ SX p c X H ∧ Da X H v (.list (row.map (encPt l))) ∧ RowOk row ∧ row.length ≤ 8 ∧
  ∀ (q : V) (good fresh : List Id) (H' : Hp), good.length ≤ 24 → fresh.length ≤ 8 → (∀ i ∈ fresh, i ∈ idsOf row) → Sta p c H' → Keep [p, c] H H' → Da X H' q (.tuple [encC l good, encC l fresh]) → Q q H'
theorem ok_btw (T : Tx K mg a d C) : FnOk P w K mg base CX0 3 (a 18) (d 18) ["_law_state_here", "_law_row", "_law_most"] (spBtw P w) := by
  have G_drw : FnOk P w K mg base CX0 1 _ _ _ spDrw := ok_drw T
  have G_abl : FnOk P w K mg base CX0 2 _ _ _ (spAbl P w) := ok_abl T
  refine T.btw.F.ok sc_btw (fun vs H Q E h => ?_) (fun cdv A outer s H vs Q E hr h => ?_)
  · obtain ⟨p, c, X, l, row, v, rfl, _⟩ := h
    rfl
  · obtain ⟨p, c, X, l, row, v, rfl, sx, dv, rok, hl8, k⟩ := h
    have nd := sc_btw.nd
    have hu := hu_of hr
    have hr_drw : Room 1 _ := hr.mono (by decide)
    have hr_abl : Room 2 _ := hr
    refine ⟨_, (pss_cons (ps_set (i := 3) nd rfl (by first | exact Or.inl rfl | exact Or.inr rfl) (pe_call G_abl hr_abl (by rfl) T.abl.m T.abl.F.kp T.abl.b .nil pass0 (pa_cons (pv 1) pa_nil)))
      (pss_cons (ps_setLc (i := 4) (own := [("_law_patch", 7)]) (g := gName 7) (tt := tYes) (by rfl) nd rfl rfl (sw_true rfl rfl rfl (by decide +kernel)) (pi_listK K rfl (pv 1)) (blkOk_by (own := [("_law_patch", 7)]) (N := N_btw) (sc := defScope s_btw) (by decide +kernel)) (fun _ _ _ _ _ => (pg_name (i := 7) nd rfl (by first | exact Or.inl rfl | exact Or.inr rfl))) (fun _ _ _ _ _ => pts_nil) (fun _ _ _ _ _ => (pe_ix (ix_tupK K rfl) (pv 7) pe_int (fun _ _ => rfl))))
      (pss_cons (ps_set (i := 5) nd rfl (by first | exact Or.inl rfl | exact Or.inr rfl) (pe_lst pa_nil))
      (pss_cons (ps_for PassesOwn.never rfl (pi_listK K rfl (pv 4)) (pg_name (i := 6) nd rfl (by first | exact Or.inl rfl | exact Or.inr rfl)) (pss_one (ps_if (pt_cmpR op_eq (pe_call G_drw hr_drw (by rfl) T.drw.m T.drw.F.kp T.drw.b .nil pass0 (pa_cons (pv 0) (pa_cons pe_int pa_nil))) pe_int (nomark _)) (pss_one (ps_set (i := 5) nd rfl (by first | exact Or.inl rfl | exact Or.inr rfl) (pe_op op_cat (pv 5) (pe_lc (own := [("_law_one", 8)]) (g := gName 8) (by rfl) nd (pi_listK K rfl (pe_ngetK P w K rfl rfl rfl hr.units (pv 3) (pv 6) (fun _ _ => rfl))) (blkOk_by (own := [("_law_one", 8)]) (N := N_btw) (sc := defScope s_btw) (by decide +kernel)) (fun _ _ _ _ _ => (pg_name (i := 8) nd rfl (by first | exact Or.inl rfl | exact Or.inr rfl))) (fun _ _ _ _ _ => (pts_one (pt_cmpR (op_notInDK K rfl hr.un65) (pv 8) (pv 5) (by rfl)))) (fun _ _ _ _ _ => (pv 8)))))) pss_nil)))
      (pss_cons (ps_for PassesOwn.never rfl (pi_listK K rfl (pv 4)) (pg_name (i := 6) nd rfl (by first | exact Or.inl rfl | exact Or.inr rfl)) (pss_one (ps_if (pt_cmpR op_gt (pe_callB (call_lenK K rfl) (by rfl) T.len (by decide +kernel) (pa_cons (pe_lc (own := [("_law_one", 8)]) (g := gName 8) (by rfl) nd (pi_listK K rfl (pv 4)) (blkOk_by (own := [("_law_one", 8)]) (N := N_btw) (sc := defScope s_btw) (by decide +kernel)) (fun _ _ _ _ _ => (pg_name (i := 8) nd rfl (by first | exact Or.inl rfl | exact Or.inr rfl))) (fun _ _ _ _ _ => (pts_one (pt_cmpR (op_notInDK K rfl hr.un65) (pv 8) (pv 5) (by rfl)))) (fun _ _ _ _ _ => (pv 8))) pa_nil)) (pv 2) (nomark _)) (pss_one (ps_set (i := 5) nd rfl (by first | exact Or.inl rfl | exact Or.inr rfl) (pe_op op_cat (pv 5) (pe_lc (own := [("_law_one", 8)]) (g := gName 8) (by rfl) nd (pi_listK K rfl (pe_ngetK P w K rfl rfl rfl hr.units (pv 3) (pv 6) (fun _ _ => rfl))) (blkOk_by (own := [("_law_one", 8)]) (N := N_btw) (sc := defScope s_btw) (by decide +kernel)) (fun _ _ _ _ _ => (pg_name (i := 8) nd rfl (by first | exact Or.inl rfl | exact Or.inr rfl))) (fun _ _ _ _ _ => (pts_one (pt_cmpR (op_notInDK K rfl hr.un65) (pv 8) (pv 5) (by rfl)))) (fun _ _ _ _ _ => (pv 8)))))) pss_nil)))
      (pss_one (ps_ret (pe_tup (pa_cons (pv 5) (pa_cons (pe_callB (call_sortDK K rfl hr.units) (by rfl) T.sorted (by decide +kernel) (pa_cons (pe_lc (own := [("_law_name", 6)]) (g := gName 6) (by rfl) nd (pi_listK K rfl (pv 4)) (blkOk_by (own := [("_law_name", 6)]) (N := N_btw) (sc := defScope s_btw) (by decide +kernel)) (fun _ _ _ _ _ => (pg_name (i := 6) nd rfl (by first | exact Or.inl rfl | exact Or.inr rfl))) (fun _ _ _ _ _ => (pts_one (pt_cmpR (op_notInDK K rfl hr.un65) (pv 6) (pv 5) (by rfl)))) (fun _ _ _ _ _ => (pv 6))) pa_nil)) pa_nil)))))))))), ?_⟩
    refine ⟨_, rfl, X, l, row, v, rfl, sx.dom, dv, rok, hl8, fun kd bes H1 B hk hn zk s1 => ?_⟩
    obtain ⟨ra, us, rfl, nra, hra, rda⟩ := (dv.same s1).getL
    obtain ⟨ps, e1, e2, hp⟩ := rda.zip
    subst e1
    have hpl : ps.length = row.length := by rw [← e2, List.length_map]
    refine ⟨_, rfl, ra, rfl, ⟨_, SqL.of hra⟩, fun iA hiA => lcL (K := K) (γ := Id) (fun t : PT => some t.1) (RelD (iA :: X) (encI l)) hiA (SqL.of hra) (line1000 (by omega)) relD_st (fun j z hj => ?_) fun H2 ivs s2 e2' pr2 => ?_⟩
    · intro H' N M s hN0 hN hM
      obtain ⟨pa, idv, chv, hze, hpa, did, dch⟩ := pt_get (hp _ (List.mem_of_getElem? hj))
      obtain ⟨zv, zt⟩ := z
      subst hze
      exact ⟨rfl, _, rfl, pa, _, 1, _, rfl, rfl, SqT.of (s _ _ hpa), atI_nat (j := 1) rfl, hN _ _ _ rfl (Same.refl _) ((did.off hiA).same s)⟩
    have ri2 := relD_all pr2
    rw [all_map, e2] at ri2
    obtain ⟨zs, g1, g2, hz⟩ := ri2.tail.zip
    subst g1
    have hzl : zs.length = row.length := by rw [← List.length_map (f := (·.2)), g2, List.length_map]
    have s12 := s1.trans s2
    have sx2 := sx.same s12
    refine ⟨Nat.zero_le _, fun g0 ng0 => ?_⟩
    have I0 : BtI P w l p c X H (upd H2 g0 (.lst [])) kd bes iA zs := BtI.same ⟨sx2.sta, Keep.of s12, B.same s2, e2', hz, sx.sub, sx.off (sx.ne zk), fun z => sx2.sta.dom iA z (by
      cases q : H1 iA with
      | none => exact absurd (sx.same s1 |>.sta.dom iA z hiA) id
      | some u => rw [q] at hiA; cases hiA)⟩ (Same.new ng0)
    have zi : H iA = none := s1.free hiA
    -- what is below a name is added
    have add : ∀ (x7 x8 : Option V) (r : Addr) (good : List Id) (z : V × Id) (H3 : Hp) (Q : VK), BtI P w l p c X H H3 kd bes iA zs → Da X H3 (.ref r) (encC l good) → good.Nodup → z ∈ zs →
        (∀ (r' : Addr) (good' : List Id) (H4 : Hp), BtI P w l p c X H H4 kd bes iA zs → Da X H4 (.ref r') (encC l good') → good'.Nodup → Q (.ref r') H4) →
        tOp rCat (tVar 5) (tLc (iList K (tNGet P w K (tVar 3) (tVar 6))) (gName 8) (tTest (tOp (rNotInD K) (tVar 8) (tVar 5))) (tVar 8) [8]) [some (.ref p), some (.ref ra), some (.int 5), some (.ref kd), some (.ref iA), some (.ref r), some z.1, x7, x8] H3 Q := by
      intro x7 x8 r good z H3 Q I dg ng hz1 q
      have dy := (I.hz z hz1)
      have hzr : z.2 ∈ idsOf row := by
        show z.2 ∈ row.map (·.1)
        rw [← g2]; exact List.mem_map.mpr ⟨z, hz1, rfl⟩
      obtain ⟨xa, ga, gs, g, hye, dk, hat, hga, rg, ngg, _⟩ := I.B.read (K := K) dy (hk _ hzr) hn
      rw [hye]
      obtain ⟨gz, q1, q2, hgz⟩ := rg.tail.zip
      subst q1
      have hgl : gz.length ≤ 1000 := by
        have := ids24 ngg
        have : gz.length = g.length := by rw [← q2, List.length_map]
        omega
      obtain ⟨_, gus, rfl', _, hgr, rgs⟩ := id dg.getL
      injection rfl' with rfl'
      subst rfl'
      refine ⟨_, rfl, _, rfl, _, rfl, kd, xa, _, nkI l z.2, _, rfl, rfl, I.B.at_, I.B.keys, dk, nkI_depth _ _, hat, ga, rfl, ⟨_, SqL.of hga⟩, fun D hD => lcL (K := K) (γ := Id) (fun i : Id => if decide (i ∉ good) = true then some i else none) (RelD (D :: X) (encI l)) hD (SqL.of hga) (line1000 hgl) relD_st (fun m gy hm => ?_) fun H4 acc s5 e5 pr5 => ?_⟩
      · intro H5 N M s6 _ hN hM
        have dgy := hgz gy (List.mem_of_getElem? hm)
        refine ⟨rfl, _, rfl, _, rfl, notInD_of (eI l) (by decide) (dgy.same s6) (dg.same s6) ⟨_, rfl, iteN (fun hm => ⟨_, rfl, hN _ _ _ (if_pos (by simpa using hm)) (Same.refl _) ((dgy.off hD).same s6)⟩) fun hm => hM _ (if_neg (by simpa using hm)) (Same.refl _)⟩⟩
      · have ra5 := relD_all pr5
        rw [q2, someIf_map (fun i : Id => decide (i ∉ good)) (fun i => i), List.map_id'] at ra5
        have nn := add_nodup ng ngg
        have h24 := ids24 nn
        rw [List.length_append] at h24
        refine ⟨r, D, gus, acc, rfl, rfl, s5 _ _ hgr, e5, line1000 ?_, fun r' nr' => ?_⟩
        · have := rgs.lenB
          have := ra5.lenB
          omega
        have s6 := s5.trans (Same.new (o := .lst (gus ++ acc)) nr')
        have sx3 : SX p c X H3 := sx.step I.st I.kp
        refine q r' _ _ (I.same s6) (.lst ((sx3.same s5).ne nr') upd_same ?_) nn
        rw [List.map_append]
        exact ((rgs.same s5).app ra5.tail).same (Same.new nr')
    refine ⟨_, rfl, iA, rfl, ⟨_, SqL.of I0.hi⟩, for_list (K := K) (a := iA) (xs := zs.map (·.1)) (fun i σ H3 => ∃ (r : Addr) (x6 x7 x8 : Option V) (good : List Id), σ = [some (.ref p), some (.ref ra), some (.int 5), some (.ref kd), some (.ref iA), some (.ref r), x6, x7, x8] ∧ BtI P w l p c X H H3 kd bes iA zs ∧ Da X H3 (.ref r) (encC l good) ∧ good.Nodup)
      ⟨g0, _, _, _, [], rfl, I0, .lst (sx2.ne ng0) upd_same .nil, List.nodup_nil⟩ ?_ ?_ ?_⟩
    · rintro i σ H3 _ ⟨r, x6, x7, x8, good, rfl, I, _⟩
      exact SqL.of I.hi
    · rintro i v σ H3 hi ⟨r, x6, x7, x8, good, rfl, I, dg, ng⟩
      obtain ⟨z, hzi, rfl, hri⟩ := zip_at hi
      refine ⟨_, rfl, p, c, _, rfl, I.st, by decide, fun m H4 m0 m1 _ st4 kp4 => ?_⟩
      have I4 := I.step st4 kp4
      have dg4 := dg.keep (sx.k kp4)
      refine ⟨rfl, _, rfl, iteD (fun _ => ?_) fun _ => ?_⟩
      · exact add x7 x8 r good z H4 _ I4 dg4 ng (List.mem_of_getElem? hzi) fun r' good' H5 I5 dg5 ng5 => ⟨r', _, _, _, good', rfl, I5, dg5, ng5⟩
      · exact ⟨r, _, _, _, good, rfl, I4, dg4, ng⟩
    rintro σ H3 ⟨r, x6, x7, x8, good, rfl, I, dg, ng⟩
    refine ⟨_, rfl, iA, rfl, ⟨_, SqL.of I.hi⟩, for_list (K := K) (a := iA) (xs := zs.map (·.1)) (fun i σ H3 => ∃ (r : Addr) (x6 x7 x8 : Option V) (good : List Id), σ = [some (.ref p), some (.ref ra), some (.int 5), some (.ref kd), some (.ref iA), some (.ref r), x6, x7, x8] ∧ BtI P w l p c X H H3 kd bes iA zs ∧ Da X H3 (.ref r) (encC l good) ∧ good.Nodup)
      ⟨r, _, _, _, good, rfl, I, dg, ng⟩ ?_ ?_ ?_⟩
    · rintro i σ H3 _ ⟨r, x6, x7, x8, good, rfl, I, _⟩
      exact SqL.of I.hi
    · rintro i v σ H3 hi ⟨r, x6, x7, x8, good, rfl, I, dg, ng⟩
      obtain ⟨z, hzi, rfl, hri⟩ := zip_at hi
      refine ⟨_, rfl, iA, rfl, ⟨_, SqL.of I.hi⟩, fun D hD => lcL (K := K) (γ := Id) (fun i : Id => if decide (i ∉ good) = true then some i else none) (RelD (D :: X) (encI l)) hD (SqL.of I.hi) (line1000 (by omega)) relD_st (fun m gy hm => ?_) fun H4 acc s5 e5 pr5 => ?_⟩
      · intro H5 N M s6 _ hN hM
        have dgy := I.hz gy (List.mem_of_getElem? hm)
        refine ⟨rfl, _, rfl, _, rfl, notInD_of (eI l) (by decide) (dgy.same s6) (dg.same s6) ⟨_, rfl, iteN (fun hm => ⟨_, rfl, hN _ _ _ (if_pos (by simpa using hm)) (Same.refl _) ((dgy.off hD).same s6)⟩) fun hm => hM _ (if_neg (by simpa using hm)) (Same.refl _)⟩⟩
      · have I4 := I.same s5
        have dg4 := dg.same s5
        refine ⟨D, acc, rfl, .inl (SqL.of e5), _, rfl, _, _, rfl, rfl, _, rfl, iteD (fun _ => ?_) fun _ => ?_⟩
        · exact add x7 x8 r good z H4 _ I4 dg4 ng (List.mem_of_getElem? hzi) fun r' good' H5 I5 dg5 ng5 => ⟨r', _, _, _, good', rfl, I5, dg5, ng5⟩
        · exact ⟨r, _, _, _, good, rfl, I4, dg4, ng⟩
    rintro σ H3 ⟨r, x6, x7, x8, good, rfl, I, dg, ng⟩
    have sx3 : SX p c X H3 := sx.step I.st I.kp
    refine ⟨_, rfl, _, rfl, iA, rfl, ⟨_, SqL.of I.hi⟩, fun D hD => lcL (K := K) (γ := Id) (fun i : Id => if decide (i ∉ good) = true then some i else none) (RelD (D :: X) (encI l)) hD (SqL.of I.hi) (line1000 (by omega)) relD_st (fun m gy hm => ?_) fun H4 acc s5 e5 pr5 => ?_⟩
    · intro H5 N M s6 _ hN hM
      have dgy := I.hz gy (List.mem_of_getElem? hm)
      refine ⟨rfl, _, rfl, _, rfl, notInD_of (eI l) (by decide) (dgy.same s6) (dg.same s6) ⟨_, rfl, iteN (fun hm => ⟨_, rfl, hN _ _ _ (if_pos (by simpa using hm)) (Same.refl _) ((dgy.off hD).same s6)⟩) fun hm => hM _ (if_neg (by simpa using hm)) (Same.refl _)⟩⟩
    · have ra5 := relD_all pr5
      rw [g2, someIf_map (fun i : Id => decide (i ∉ good)) (fun i => i), List.map_id'] at ra5
      dsimp only [tNil]
      refine sortD_of (eI l) (by decide) (alI l) (eIt' l) e5 ra5.tail fun q us' is' nq pm ru => ?_
      refine ⟨(by show 2 ≤ sizeLine; decide), fun t nt => ?_⟩
      have sq : Same H4 (upd H4 q (.lst us')) := Same.new nq
      have st5 := sq.trans (Same.new (o := .tup [.ref r, .ref q]) nt)
      have s6 := s5.trans st5
      have sx4 := sx3.same s5
      refine k _ good is' _ (ids24 ng) ?_ (fun i hi => ?_) (I.st.same s6) (I.kp.trans (Keep.of s6)) (.tup ((sx4.same sq).ne nt) upd_same (.cons (dg.same s6) (.cons (Da.same (.lst (sx4.ne nq) upd_same (ru.keep (Keep.new nq))) (Same.new nt)) .nil)))
      · rw [pm.length_eq]
        refine Nat.le_trans (List.length_filter_le _ _) ?_
        rw [List.length_map]; exact hl8
      · have := pm.mem_iff.mp hi
        exact (List.mem_filter.mp this).1
end
end Qw
namespace Qw
open PySem L2
theorem cutV_mem {xs : List V} {lo hi : Option Int} {v : V} (h : v ∈ cutV xs lo hi) : v ∈ xs := List.mem_of_mem_drop (List.mem_of_mem_take h)
section
variable {P : Program} {w : World} {K : PySem.W.Frag} {mg : Str → Option Value} {base : Heap} {a : Nat → Addr} {d : Nat → FuncData} {C : Addr} {l : Lab} {X : List Addr} {H H' : Hp} {kd : Addr} {bes : List BE}
theorem BlAt.look (h : BlAt P w l X H kd bes) {i : Id} {v : V} {Y : List Addr} (dv : Da Y H v (encI l i)) (hi : i ∈ bes.map (·.1)) :
    ∃ ia gv g, v = .ref ia ∧ Dp K H (.ref ia) (nkI l i).data ∧ atN (bes.map (beN l)) (nkI l i) = some gv ∧ Da X H gv (encC l g) := by
  obtain ⟨e, he, e1, e2⟩ := BlAt.get (l := l) hi
  obtain ⟨ia, lab, rfl, _, _⟩ := id_get dv
  exact ⟨ia, _, _, rfl, by rw [nkI_data]; exact dv.D, e2, h.val e he⟩
def spCau : Sp := fun vs H Q _ => ∃ (X : List Addr) (l : Lab) (row : List PT) (fresh : List Id) (v u : V), vs = [v, u] ∧ Dom X H ∧ Da X H v (.list (row.map (encPt l))) ∧ RowOk row ∧ row.length ≤ 8 ∧ Da X H u (encC l fresh) ∧ fresh.length ≤ 8 ∧ (∀ i ∈ fresh, i ∈ idsOf row) ∧
  ∀ (q : V) (cs : List (List Id)) (H' : Hp), (∀ c ∈ cs, c.length ≤ 2) → cs.length ≤ 100 → Same H H' → Da X H' q (encG l cs) → Q q H'
theorem ok_cau (T : Tx K mg a d C) : FnOk P w K mg base CX0 3 (a 20) (d 20) ["_law_row", "_law_fresh"] spCau := by
  have G_abl : FnOk P w K mg base CX0 2 _ _ _ (spAbl P w) := ok_abl T
  refine T.cau.F.ok sc_cau (fun vs H Q E h => ?_) (fun cdv A outer s H vs Q E hr h => ?_)
  · obtain ⟨X, l, row, fresh, v, u, rfl, _⟩ := h
    rfl
  · obtain ⟨X, l, row, fresh, v, u, rfl, dom, dv, rok, hl8, du, hf8, hfr, k⟩ := h
    have nd := sc_cau.nd
    have hu := hu_of hr
    have hr_abl : Room 2 _ := hr
    refine ⟨_, (pss_cons (ps_set (i := 2) nd rfl (by first | exact Or.inl rfl | exact Or.inr rfl) (pe_call G_abl hr_abl (by rfl) T.abl.m T.abl.F.kp T.abl.b .nil pass0 (pa_cons (pv 0) pa_nil)))
      (pss_cons (ps_setLc (i := 3) (own := [("_law_name", 6)]) (g := gName 6) (tt := tYes) (by rfl) nd rfl rfl (sw_true rfl rfl rfl (by decide +kernel)) (pi_listK K rfl (pv 1)) (blkOk_by (own := [("_law_name", 6)]) (N := N_cau) (sc := defScope s_cau) (by decide +kernel)) (fun _ _ _ _ _ => (pg_name (i := 6) nd rfl (by first | exact Or.inl rfl | exact Or.inr rfl))) (fun _ _ _ _ _ => pts_nil) (fun _ _ _ _ _ => (pe_lst (pa_cons (pv 6) pa_nil))))
      (pss_cons (ps_for PassesOwn.never rfl (pi_range1 (by rfl) T.range (pa_cons (pe_callB (call_lenK K rfl) (by rfl) T.len (by decide +kernel) (pa_cons (pv 1) pa_nil)) pa_nil)) (pg_name (i := 4) nd rfl (by first | exact Or.inl rfl | exact Or.inr rfl)) (pss_one (ps_for PassesOwn.never rfl (pi_listK K rfl (pe_slice (sl_listK K rfl) (pv 1) (po_some (pe_op op_add (pv 4) pe_int)) po_none)) (pg_name (i := 5) nd rfl (by first | exact Or.inl rfl | exact Or.inr rfl)) (pss_one (ps_if (PW.pt (pw_and (pt_cmpR (op_notInDK K rfl hr.un65) (pe_ix (ix_listK K rfl) (pv 1) (pv 4) (fun _ _ => rfl)) (pe_ngetK P w K rfl rfl rfl hr.units (pv 2) (pv 5) (fun _ _ => rfl)) (by rfl)) (pw_and1 (pt_cmpR (op_notInDK K rfl hr.un65) (pv 5) (pe_ngetK P w K rfl rfl rfl hr.units (pv 2) (pe_ix (ix_listK K rfl) (pv 1) (pv 4) (fun _ _ => rfl)) (fun _ _ => rfl)) (by rfl))))) (pss_one (ps_expr (pe_bm PySem.F.plainAttrs_list PySem.F.slot_list_append PySem.F.type_list_append mt_append (pv 3) (pa_cons (pe_lst (pa_cons (pe_ix (ix_listK K rfl) (pv 1) (pv 4) (fun _ _ => rfl)) (pa_cons (pv 5) pa_nil))) pa_nil)))) pss_nil)))))
      (pss_one (ps_ret (pv 3)))))), ?_⟩
    refine ⟨_, rfl, X, l, row, v, rfl, dom, dv, rok, hl8, fun kd bes H1 B hk hn zk s1 => ?_⟩
    obtain ⟨fa, fs, rfl, nfa, hfa, rfa⟩ := (du.same s1).getL
    obtain ⟨zs, e1, e2, hz⟩ := rfa.zip
    subst e1
    have hzl : zs.length = fresh.length := by rw [← e2, List.length_map]
    have domX := dom.same s1
    refine ⟨_, rfl, fa, rfl, ⟨_, SqL.of hfa⟩, fun f0 hf0 => lcL (K := K) (γ := List Id) (fun i : Id => some [i]) (RelD (f0 :: X) (encC l)) hf0 (SqL.of hfa) (line1000 (by omega)) relD_st (fun j z hj => ?_) fun H2 ivs s2 e2' pr2 => ?_⟩
    · intro H' N M s hN0 hN hM
      refine ⟨rfl, _, rfl, (by show 1 ≤ sizeLine; decide), fun r nr => hN _ _ _ rfl (Same.new nr) (.lst ?_ upd_same (DaAll.one ((((hz _ (List.mem_of_getElem? hj)).off hf0).same s).same (Same.new nr))))⟩
      intro hm
      rcases List.mem_cons.mp hm with rfl | hm
      · exact hN0 nr
      · exact domX.same s _ hm nr
    have ri2 := relD_all pr2
    rw [all_map (fun i : Id => [i]), e2] at ri2
    have zf0 : H f0 = none := s1.free hf0
    have nf0 : f0 ∉ X := domX.fresh hf0
    have nfk : kd ≠ f0 := ne_of_none B.at_ hf0
    have dz : ∀ {H' : Hp} {z : V × Id}, Same H1 H' → z ∈ zs → Da X H' z.1 (encI l z.2) := fun s hm => (hz _ hm).same s
    have kin : ∀ {z : V × Id}, z ∈ zs → z.2 ∈ bes.map (·.1) := fun {z} hm => hk _ (hfr _ (by rw [← e2]; exact List.mem_map.mpr ⟨z, hm, rfl⟩))
    refine ⟨_, rfl, fa, _, rfl, .inl (SqL.of (s2 _ _ hfa)), _, rfl, by have := List.length_map (as := zs) (f := fun z : V × Id => z.1); omega, by have := List.length_map (as := zs) (f := fun z : V × Id => z.1); omega, for_range (lo := 0) (n := (((zs.map fun z : V × Id => z.1).length : Nat) : Int).toNat) (fun i σ H3 => ∃ (x4 x5 x6 : Option V) (us : List V) (cs : List (List Id)), σ = [some v, some (.ref fa), some (.ref kd), some (.ref f0), x4, x5, x6] ∧ Same H1 H3 ∧ H3 f0 = some (.lst us) ∧ DaAll (f0 :: X) H3 us (cs.map (encC l)) ∧ (∀ c ∈ cs, c.length ≤ 2) ∧ cs.length ≤ 8 + 8 * i)
      ⟨none, none, none, ivs, fresh.map fun i => [i], rfl, s2, e2', ri2, fun c hc => ?_, by rw [List.length_map]; omega⟩ ?_ ?_⟩
    · obtain ⟨i, _, rfl⟩ := List.mem_map.mp hc
      exact Nat.le_succ 1
    · rintro i σ H3 hi ⟨x4, x5, x6, us, cs, rfl, s3, hf3, rcs, hc2, hcl⟩
      rw [Int.zero_add]
      have hi : i < zs.length := by have := List.length_map (as := zs) (f := fun z : V × Id => z.1); omega
      obtain ⟨zi, hzi⟩ : ∃ z, zs[i]? = some z := ⟨zs[i], by simp [hi]⟩
      have mzi := List.mem_of_getElem? hzi
      have hvi : (zs.map (·.1))[i]? = some zi.1 := by rw [List.getElem?_map, hzi]; rfl
      refine ⟨_, rfl, _, rfl, _, _, rfl, rfl, _, rfl, fa, _, rfl, SqL.of (s3 _ _ hfa), fun sp nsp => ?_⟩
      have s34 : Same H3 (upd H3 sp (.lst (cutV (zs.map (·.1)) (some ((i : Int) + 1)) none))) := Same.new nsp
      have nfs : f0 ≠ sp := ne_of_none hf3 nsp
      have hcut := cutV_length (zs.map (·.1)) (some ((i : Int) + 1)) none
      rw [List.length_map] at hcut
      have hsp0 : (upd H3 sp (.lst (cutV (zs.map (·.1)) (some ((i : Int) + 1)) none))) sp = some (.lst (cutV (zs.map (·.1)) (some ((i : Int) + 1)) none)) := upd_same
      have hf30 := s34 _ _ hf3
      have rcs0 := rcs.same s34
      have s30 := s3.trans s34
      have hsub : ∀ y ∈ cutV (zs.map (·.1)) (some ((i : Int) + 1)) none, y ∈ zs.map (·.1) := fun y => cutV_mem
      generalize cutV (zs.map (·.1)) (some ((i : Int) + 1)) none = ys at hcut hsp0 s34 hf30 rcs0 s30 hsub ⊢
      generalize upd H3 sp (.lst ys) = H4 at hsp0 s34 hf30 rcs0 s30 ⊢
      refine ⟨sp, rfl, ⟨_, SqL.of hsp0⟩, for_list (K := K) (a := sp) (xs := ys) (fun j σ H5 => ∃ (x5 x6 : Option V) (us : List V) (cs : List (List Id)), σ = [some v, some (.ref fa), some (.ref kd), some (.ref f0), some (.int (i : Int)), x5, x6] ∧ Same H1 H5 ∧ H5 sp = some (.lst ys) ∧ H5 f0 = some (.lst us) ∧ DaAll (f0 :: X) H5 us (cs.map (encC l)) ∧ (∀ c ∈ cs, c.length ≤ 2) ∧ cs.length ≤ 8 + 8 * i + j)
        ⟨_, _, us, cs, rfl, s30, hsp0, hf30, rcs0, hc2, hcl⟩ ?_ ?_ ?_⟩
      · rintro j σ H5 _ ⟨x5, x6, us, cs, rfl, _, h, _⟩
        exact SqL.of h
      · rintro j y σ H5 hj ⟨x5, x6, us, cs, rfl, s5, hsp, hf5, rcs, hc2, hcl⟩
        have hj8 : j < 8 := by have := (List.getElem?_eq_some_iff.mp hj).1; omega
        have hi8 : i < 8 := by omega
        obtain ⟨zo, mzo, rfl⟩ := List.mem_map.mp (hsub y (List.mem_of_getElem? hj))
        have B5 := B.same s5
        have di := dz s5 mzi
        have dO := dz s5 mzo
        obtain ⟨ia, gv, g, hie, dk, hat, dgv⟩ := B5.look (K := K) di (kin mzi)
        obtain ⟨oa, ov, og, hoe, ok, oat, dov⟩ := B5.look (K := K) dO (kin mzo)
        have hfa5 := s5 _ _ hfa
        refine ifAnd (fun Q q => ⟨_, rfl, _, rfl, fa, _, _, _, rfl, rfl, SqL.of hfa5, atI_nat (j := i) hvi, _, rfl, _, rfl, kd, oa, _, nkI l zo.2, _, rfl, hoe ▸ rfl, B5.at_, B5.keys, ok, nkI_depth _ _, oat, notInD_of (eI l) (by decide) di dov ⟨_, rfl, q⟩⟩)
          (fun _ Q q => ⟨_, rfl, _, rfl, _, rfl, _, rfl, fa, _, _, _, rfl, rfl, SqL.of hfa5, atI_nat (j := i) hvi, kd, ia, _, nkI l zi.2, _, rfl, hie ▸ rfl, B5.at_, B5.keys, dk, nkI_depth _ _, hat, notInD_of (eI l) (by decide) dO dgv ⟨_, rfl, q⟩⟩) (fun _ _ => ?_) fun _ => ?_
        · refine ⟨_, rfl, .inl ⟨rfl, _, SqL.of hf5⟩, _, rfl, _, rfl, fa, _, _, _, rfl, rfl, SqL.of hfa5, atI_nat (j := i) hvi, _, rfl, (by show 2 ≤ sizeLine; decide), fun pr npr => ?_⟩
          have nfp : f0 ≠ pr := ne_of_none hf5 npr
          have hf6 : (upd H5 pr (.lst [zi.1, zo.1])) f0 = some (.lst us) := by rw [upd_ne nfp]; exact hf5
          refine ⟨f0, us, .ref pr, rfl, rfl, hf6, small1000 (by have := rcs.lenB; omega), ?_⟩
          have s6 : Same H5 (upd H5 pr (.lst [zi.1, zo.1])) := Same.new npr
          have dpr : Da (f0 :: X) (upd H5 pr (.lst [zi.1, zo.1])) (.ref pr) (encC l [zi.2, zo.2]) := by
            refine .lst ?_ upd_same (.cons ((((hz _ mzi).off hf0).same s5).same s6) (.cons ((((hz _ mzo).off hf0).same s5).same s6) .nil))
            intro hm
            rcases List.mem_cons.mp hm with rfl | hm
            · exact nfp rfl
            · exact domX.same s5 _ hm npr
          refine ⟨_, _, us ++ [.ref pr], cs ++ [[zi.2, zo.2]], rfl, Same.over (s5.trans s6) hf0, ?_, upd_same, ?_, fun c hc => ?_, by simp; omega⟩
          · have nsf : sp ≠ f0 := nfs.symm
            rw [upd_ne nsf]; exact s6 _ _ hsp
          · rw [List.map_append]; exact ((rcs.same s6).app (DaAll.one dpr)).put
          · rcases List.mem_append.mp hc with hc | hc
            · exact hc2 c hc
            · rw [List.mem_singleton] at hc; subst hc; exact Nat.le_refl 2
        · exact ⟨_, _, us, cs, rfl, s5, hsp, hf5, rcs, hc2, by omega⟩
      · rintro σ H5 ⟨x5, x6, us, cs, rfl, s5, hsp, hf5, rcs, hc2, hcl⟩
        exact ⟨_, _, _, us, cs, rfl, s5, hf5, rcs, hc2, by omega⟩
    · rintro σ H3 ⟨x4, x5, x6, us, cs, rfl, s3, hf3, rcs, hc2, hcl⟩
      have := List.length_map (as := zs) (f := fun z : V × Id => z.1)
      exact ⟨_, rfl, k _ cs H3 hc2 (by omega) (s1.trans s3) (.lst nf0 hf3 rcs.tail)⟩
end
end Qw
namespace Qw
open PySem L2
section
variable {β : Type} {K : PySem.W.Frag} {a D : Addr} {zs : List (V × β)} {enc : β → PyData} {X : List Addr} {J : Hp → Prop} {H1 : Hp} {Qd : Hp → Prop} {g : TG} {tt : TT} {te : TE} {vs : List Nat} {σ : St}
/-- some of a list's own items are kept: which, is not told -/
theorem lcJ (hl : ∀ H, J H → SqL K H a (zs.map (·.1))) (hz : zs.length ≤ sizeLine) (j0 : J (upd H1 D (.lst []))) (jp : ∀ H acc, J H → J (upd H D (.lst acc)))
    (t : ∀ (i : Nat) (z : V × β), zs[i]? = some z → ∀ (H : Hp) (acc : List V) (N : V → Hp → Prop) (M : Hp → Prop), J H → H D = some (.lst acc) →
      (∀ v H', J H' → H' D = some (.lst acc) → Keep (D :: X) H H' → Da (D :: X) H' v (enc z.2) → N v H') → (∀ H', J H' → H' D = some (.lst acc) → Keep (D :: X) H H' → M H') →
      g z.1 (wipe σ vs) H fun σ2 H2 => wipe σ2 vs = wipe σ vs ∧ tt σ2 H2 fun k H3 => if k = true then te σ2 H3 fun y H4 => N y H4 else M H3)
    (hd : ∀ H acc (cs : List β), J H → H D = some (.lst acc) → DaAll (D :: X) H acc (cs.map enc) → (∀ c ∈ cs, c ∈ zs.map (·.2)) → cs.length ≤ zs.length → Qd H) :
    ∃ W : Nat → Nat → Hp → Prop, (∃ m, W 0 m (upd H1 D (.lst []))) ∧ ∀ i m H, W i m H →
      ((Itl K a).stop i H ∧ Qd H) ∨ ((Itl K a).go i H ∧ ∃ Nx : Hp → Prop, (∀ H', Nx H' → ∃ m', m' < m ∧ W (i + 1) m' H') ∧ ∀ x H', (Itl K a).yld i H x H' → g x (wipe σ vs) H' fun σ2 H2 => wipe σ2 vs = wipe σ vs ∧ tt σ2 H2 fun b H3 =>
        if b = true then te σ2 H3 fun y H4 => ∃ acc, H4 D = some (.lst acc) ∧ acc.length < sizeLine ∧ Nx (upd H4 D (.lst (acc ++ [y]))) else Nx H3) := by
  refine lc_list (K := K) (a := a) (xs := zs.map (·.1)) (fun i H => J H ∧ ∃ acc, ∃ cs : List β, H D = some (.lst acc) ∧ DaAll (D :: X) H acc (cs.map enc) ∧ (∀ c ∈ cs, c ∈ zs.map (·.2)) ∧ cs.length ≤ i)
    ⟨j0, [], [], upd_same, .nil, by simp, Nat.le_refl _⟩ (fun i H _ p => hl H p.1) (fun i x H hx p => ?_) fun H p => ?_
  · obtain ⟨z, h1, rfl, h3⟩ := zip_at hx
    obtain ⟨j, acc, cs, e, r, hm, hc⟩ := p
    have hi : i < zs.length := (List.getElem?_eq_some_iff.mp h1).1
    refine t i z h1 H acc (fun y H4 => ∃ acc, H4 D = some (.lst acc) ∧ acc.length < sizeLine ∧ (J (upd H4 D (.lst (acc ++ [y]))) ∧ ∃ acc', ∃ cs : List β, (upd H4 D (.lst (acc ++ [y]))) D = some (.lst acc') ∧ DaAll (D :: X) (upd H4 D (.lst (acc ++ [y]))) acc' (cs.map enc) ∧ (∀ c ∈ cs, c ∈ zs.map (·.2)) ∧ cs.length ≤ i + 1)) _ j e (fun v H' j' e' k' dv => ?_) fun H' j' e' k' => ?_
    · refine ⟨acc, e', by have := r.lenB; omega, jp _ _ j', _, cs ++ [z.2], upd_same, ?_, fun c hc => ?_, by simp; omega⟩
      · rw [List.map_append]; exact ((r.keep k').app (DaAll.one dv)).put
      · rcases List.mem_append.mp hc with hc | hc
        · exact hm c hc
        · rw [List.mem_singleton] at hc; subst hc; exact List.mem_of_getElem? h3
    · exact ⟨j', acc, cs, e', r.keep k', hm, by omega⟩
  · obtain ⟨j, acc, cs, e, r, hm, hc⟩ := p
    rw [List.length_map] at hc
    exact hd H acc cs j e r hm hc
end
theorem eZ (l : Lab) : Enc (encZ l) 5 := by
  refine ⟨fun a b => ?_, fun a => ?_, fun a => ?_⟩
  · have h : PyData.eqv (encZ l a) (encZ l b) = ((a.1 == b.1) && PyData.eqv (encC l a.2) (encC l b.2)) := by
      unfold encZ
      simp only [PyData.eqv, PyData.eqvAll, Bool.and_true]
    rw [h, (eC l).eqv]
    obtain ⟨a1, a2⟩ := a
    obtain ⟨b1, b2⟩ := b
    by_cases h1 : a1 = b1 <;> by_cases h2 : a2 = b2 <;> simp [h1, h2]
  · have h := (eC l).lay a.2
    unfold encZ
    simp only [PyData.canLay0, PyData.canLayAll0, Bool.and_true, h]
  · have h := (eC l).dep a.2
    unfold encZ
    simp only [PyData.depth, PyData.depthAll]
    omega
theorem eZt (l : Lab) (b : Int × List Id) : ∃ x r, encZ l b = .tuple (x :: r) := ⟨_, _, rfl⟩
theorem zget {X : List Addr} {H : Hp} {v : V} {l : Lab} {z : Int × List Id} (h : Da X H v (encZ l z)) : ∃ pa pv, v = .ref pa ∧ H pa = some (.tup [.int z.1, pv]) ∧ Da X H pv (encC l z.2) := by
  obtain ⟨pa, xs, e, _, hp, r⟩ := h.getT
  obtain ⟨v1, r1, rfl, d1, s1⟩ := r.uncons
  obtain ⟨v2, r2, rfl, d2, s2⟩ := s1.uncons
  rw [s2.nil', d1.getI] at hp
  exact ⟨pa, v2, e, hp, d2⟩
section
variable {P : Program} {w : World} {K : PySem.W.Frag} {mg : Str → Option Value} {base : Heap} {a : Nat → Addr} {d : Nat → FuncData} {C : Addr}
def spPts : Sp := fun vs H Q _ => ∃ (X : List Addr) (l : Lab) (row : List PT) (good fresh : List Id) (v g u : V), vs = [v, g, u] ∧ Dom X H ∧ Da X H v (.list (row.map (encPt l))) ∧ RowOk row ∧ row.length ≤ 8 ∧ Da X H g (encC l good) ∧ Da X H u (encC l fresh) ∧ fresh.length ≤ 8 ∧ (∀ i ∈ fresh, i ∈ idsOf row) ∧
  ∀ (q : V) (ts : List (List Id)) (H' : Hp), (∀ t ∈ ts, t.length ≤ 8) → ts.length ≤ 256 → Same H H' → Da X H' q (encG l ts) → Q q H'
theorem ok_pts (T : Tx K mg a d C) : FnOk P w K mg base CX0 3 (a 19) (d 19) ["_law_row", "_law_good", "_law_fresh"] spPts := by
  have G_abl : FnOk P w K mg base CX0 2 _ _ _ (spAbl P w) := ok_abl T
  refine T.pts.F.ok sc_pts (fun vs H Q E h => ?_) (fun cdv A outer s H vs Q E hr h => ?_)
  · obtain ⟨X, l, row, good, fresh, v, g, u, rfl, _⟩ := h
    rfl
  · obtain ⟨X, l, row, good, fresh, v, g, u, rfl, dom, dv, rok, hl8, dg, du, hf8, hfr, k⟩ := h
    have nd := sc_pts.nd
    have hu := hu_of hr
    have hr_abl : Room 2 _ := hr
    refine ⟨_, (pss_cons (ps_set (i := 3) nd rfl (by first | exact Or.inl rfl | exact Or.inr rfl) (pe_call G_abl hr_abl (by rfl) T.abl.m T.abl.F.kp T.abl.b .nil pass0 (pa_cons (pv 0) pa_nil)))
      (pss_cons (ps_set (i := 4) nd rfl (by first | exact Or.inl rfl | exact Or.inr rfl) (pe_lst pa_nil))
      (pss_cons (ps_for PassesOwn.never rfl (pi_range1 (by rfl) T.range (pa_cons (pe_op op_shl pe_int (pe_callB (call_lenK K rfl) (by rfl) T.len (by decide +kernel) (pa_cons (pv 2) pa_nil))) pa_nil)) (pg_name (i := 5) nd rfl (by first | exact Or.inl rfl | exact Or.inr rfl)) (pss_cons (ps_set (i := 6) nd rfl (by first | exact Or.inl rfl | exact Or.inr rfl) (pe_lc (own := [("_law_k", 8)]) (g := gName 8) (by rfl) nd (pi_range1 (by rfl) T.range (pa_cons (pe_callB (call_lenK K rfl) (by rfl) T.len (by decide +kernel) (pa_cons (pv 2) pa_nil)) pa_nil)) (blkOk_by (own := [("_law_k", 8)]) (N := N_pts) (sc := defScope s_pts) (by decide +kernel)) (fun _ _ _ _ _ => (pg_name (i := 8) nd rfl (by first | exact Or.inl rfl | exact Or.inr rfl))) (fun _ _ _ _ _ => (pts_one (pt_cmpR op_eq (pe_op op_mod (pe_op op_fdiv (pv 5) (pe_op op_shl pe_int (pv 8))) pe_int) pe_int (nomark _)))) (fun _ _ _ _ _ => (pe_ix (ix_listK K rfl) (pv 2) (pv 8) (fun _ _ => rfl)))))
      (pss_cons (ps_setLc (i := 7) (own := [("_law_name", 9)]) (g := gName 9) (by rfl) nd rfl rfl (sw_true rfl rfl rfl (by decide +kernel)) (pi_listK K rfl (pv 6)) (blkOk_by (own := [("_law_name", 9)]) (N := N_pts) (sc := defScope s_pts) (by decide +kernel)) (fun _ _ _ _ _ => (pg_name (i := 9) nd rfl (by first | exact Or.inl rfl | exact Or.inr rfl))) (fun _ _ _ _ _ => (pts_one (pt_cmpR op_gt (pe_callB (call_lenK K rfl) (by rfl) T.len (by decide +kernel) (pa_cons (pe_lc (own := [("_law_one", 11)]) (g := gName 11) (by rfl) nd (pi_listK K rfl (pe_ngetK P w K rfl rfl rfl hr.units (pv 3) (pv 9) (fun _ _ => rfl))) (blkOk_by (own := [("_law_one", 11)]) (by kernel_rfl)) (fun _ _ _ _ _ => (pg_name (i := 11) nd rfl (by first | exact Or.inl rfl | exact Or.inr rfl))) (fun _ _ _ _ _ => (pts_one (PW.pt (pw_and (pt_cmpR (op_notInDK K rfl hr.un65) (pv 11) (pv 1) (by rfl)) (pw_and1 (pt_cmpR (op_notInDK K rfl hr.un65) (pv 11) (pv 6) (by rfl))))))) (fun _ _ _ _ _ => (pv 11))) pa_nil)) pe_int (nomark _)))) (fun _ _ _ _ _ => (pv 9)))
      (pss_one (ps_if (pt_cmpR op_eq (pe_callB (call_lenK K rfl) (by rfl) T.len (by decide +kernel) (pa_cons (pv 7) pa_nil)) pe_int (nomark _)) (pss_one (ps_expr (pe_bm PySem.F.plainAttrs_list PySem.F.slot_list_append PySem.F.type_list_append mt_append (pv 4) (pa_cons (pe_tup (pa_cons (pe_callB (call_lenK K rfl) (by rfl) T.len (by decide +kernel) (pa_cons (pv 6) pa_nil)) (pa_cons (pv 6) pa_nil))) pa_nil)))) pss_nil)))))
      (pss_one (ps_ret (pe_lc (own := [("_law_size", 10), ("_law_part", 6)]) (g := gTup K 2 (gCons (gName 10) (gCons (gName 6) gNil))) (tt := tYes) (by rfl) nd (pi_listK K rfl (pe_callB (call_sortDK K rfl hr.units) (by rfl) T.sorted (by decide +kernel) (pa_cons (pv 4) pa_nil))) (blkOk_by (own := [("_law_size", 10), ("_law_part", 6)]) (N := N_pts) (sc := defScope s_pts) (by decide +kernel)) (fun _ _ _ _ _ => (pg_tupK K rfl (by rfl) (pgs_cons (pg_name (i := 10) nd rfl (by first | exact Or.inl rfl | exact Or.inr rfl)) (pgs_cons (pg_name (i := 6) nd rfl (by first | exact Or.inl rfl | exact Or.inr rfl)) pgs_nil)))) (fun _ _ _ _ _ => pts_nil) (fun _ _ _ _ _ => (pv 6)))))))), ?_⟩
    refine ⟨_, rfl, X, l, row, v, rfl, dom, dv, rok, hl8, fun kd bes H1 B hk hn zk s1 => ?_⟩
    obtain ⟨fa, fs, rfl, nfa, hfa, rfa⟩ := (du.same s1).getL
    obtain ⟨zs, e1, e2, hz⟩ := rfa.zip
    subst e1
    have hzl : zs.length = fresh.length := by rw [← e2, List.length_map]
    have hml : (zs.map fun z : V × Id => z.1).length = fresh.length := by rw [List.length_map, hzl]
    have domX := dom.same s1
    have dg1 := dg.same s1
    refine ⟨Nat.zero_le _, fun f0 nf0 => ?_⟩
    have zf0 : H f0 = none := s1.free nf0
    have nfX : f0 ∉ X := domX.fresh nf0
    have hbits : ∀ k : Nat, k ≤ 8 → (1 : Int) * 2 ^ k ≤ 256 ∧ 0 < (1 : Int) * 2 ^ k := by decide +kernel
    have hb := hbits fresh.length hf8
    refine ⟨_, rfl, fa, _, rfl, .inl (SqL.of (upd_some hfa nf0)), _, _, rfl, rfl, ⟨by omega, by omega, by decide⟩, _, rfl, ?_⟩
    rw [hml, Int.toNat_natCast]
    refine ⟨by omega, by omega, for_range (lo := 0) (n := ((1 : Int) * 2 ^ fresh.length).toNat) (fun i σ H3 => ∃ (x5 x6 x7 x8 x9 x10 x11 : Option V) (us : List V) (ts : List (Int × List Id)), σ = [some v, some g, some (.ref fa), some (.ref kd), some (.ref f0), x5, x6, x7, x8, x9, x10, x11] ∧ Same H1 H3 ∧ H3 f0 = some (.lst us) ∧ DaAll (f0 :: X) H3 us (ts.map (encZ l)) ∧ (∀ t ∈ ts, t.2.length ≤ 8) ∧ ts.length ≤ i)
      ⟨none, none, none, none, none, none, none, [], [], rfl, Same.new nf0, upd_same, .nil, by simp, Nat.le_refl _⟩ ?_ ?_⟩
    · rintro i σ H3 hi ⟨x5, x6, x7, x8, x9, x10, x11, us, ts, rfl, s3, hf3, rts, ht8, htl⟩
      rw [Int.zero_add]
      have dom3 := domX.same s3
      -- the part
      refine ⟨_, rfl, fa, _, rfl, .inl (SqL.of (s3 _ _ hfa)), _, rfl, by omega, by omega, fun D hD => lcR (m := (((zs.map fun z : V × Id => z.1).length : Nat) : Int).toNat) (n := fresh.length) (by omega) (γ := Id) (fun k => if ((i : Int) / (1 * 2 ^ k)) % 2 = 1 then fresh[k]? else none) (RelD (D :: f0 :: X) (encI l)) hD (line1000 (by omega)) relD_st (fun j hj => ?_) fun H4 acc s4 e4 pr4 => ?_⟩
      · intro H' N M s hN0 hN hM
        obtain ⟨zj, hzj⟩ : ∃ z, zs[j]? = some z := ⟨zs[j], by simp [show j < zs.length by omega]⟩
        have hbj := hbits j (by omega)
        have hvj : (zs.map (·.1))[j]? = some zj.1 := by rw [List.getElem?_map, hzj]; rfl
        have hij : fresh[j]? = some zj.2 := by rw [← e2, List.getElem?_map, hzj]; rfl
        refine ⟨rfl, _, rfl, _, rfl, _, _, rfl, rfl, ⟨by omega, by omega, by decide⟩, _, _, rfl, rfl, ?_⟩
        rw [Int.toNat_natCast]
        refine ⟨⟨hbj.2, by omega⟩, _, _, rfl, rfl, (by show (0 : Int) < 2; decide), rfl, _, rfl, iteD (fun hm => ?_) fun hm => ?_⟩
        · refine ⟨_, rfl, _, rfl, fa, _, _, _, rfl, rfl, SqL.of (s _ _ (s3 _ _ hfa)), atI_nat (j := j) hvj, hN _ zj.2 _ ((if_pos (V.int.inj hm)).trans hij) (Same.refl _) ((((hz _ (List.mem_of_getElem? hzj)).off nf0).same s3).off hD |>.same s)⟩
        · exact hM _ (if_neg fun z => hm (congrArg V.int z)) (Same.refl _)
      have rp4 := relD_all pr4
      generalize hpt : (List.range fresh.length).filterMap (fun k => if ((i : Int) / (1 * 2 ^ k)) % 2 = 1 then fresh[k]? else none) = part at rp4
      have hpl : part.length ≤ 8 := by
        rw [← hpt]
        refine Nat.le_trans (filterMap_len _) ?_
        rw [List.length_range]; exact hf8
      have hpf : ∀ x ∈ part, x ∈ fresh := fun x hx => by
        rw [← hpt] at hx
        obtain ⟨k, _, e⟩ := List.mem_filterMap.mp hx
        split at e
        · exact List.mem_of_getElem? e
        · cases e
      have s34 := s3.trans s4
      have dom4 := domX.same s34
      have nD : D ∉ f0 :: X := fun hm => by
        rcases List.mem_cons.mp hm with rfl | hm
        · rw [hf3] at hD; cases hD
        · exact dom3.fresh hD hm
      have rp := rp4.tail
      have dpart : Da (f0 :: X) H4 (.ref D) (encC l part) := .lst nD e4 rp
      obtain ⟨pz, f1, f2, hpz⟩ := rp.zip
      subst f1
      have hpzl : pz.length = part.length := by rw [← f2, List.length_map]
      -- what it lacks
      refine ⟨_, rfl, D, rfl, ⟨_, SqL.of e4⟩, fun L hL => lcJ (K := K) (X := f0 :: X) (enc := encI l) (J := fun H' => Same H4 H') (fun H' j => SqL.of (j _ _ e4)) (line1000 (by omega)) (Same.new hL) (fun H' acc j => Same.over j hL) (fun j z hj => ?_) fun H5 lk ls s5 e5 _ _ _ => ?_⟩
      · intro H' acc N M s hDL hN hM
        have mz := List.mem_of_getElem? hj
        have dz := (hpz _ mz).same s
        have s04 := s34.trans s
        have B' := B.same s04
        obtain ⟨ia, gv, gg, hie, dk, hat, dgv⟩ := B'.look (K := K) dz (hk _ (hfr _ (hpf _ (by rw [← f2]; exact List.mem_map.mpr ⟨z, mz, rfl⟩))))
        obtain ⟨ga, gs, rfl, _, hga, rg⟩ := dgv.getL
        obtain ⟨gz, q1, q2, hgz⟩ := rg.zip
        subst q1
        obtain ⟨e', he', _, he2⟩ := BlAt.get (l := l) (hk _ (hfr _ (hpf _ (by rw [← f2]; exact List.mem_map.mpr ⟨z, mz, rfl⟩))))
        have hgl : gz.length ≤ 1000 := by
          have h1 := hn e' he'
          have h2 := ids24 h1
          have h3 := B'.val e' he'
          rw [hat] at he2
          rw [← Option.some.inj he2] at h3
          obtain ⟨_, us', e1', _, h4, h5⟩ := h3.getL
          cases e1'
          rw [hga] at h4
          cases h4
          have := h5.lenB
          rw [List.length_map] at this
          omega
        refine ⟨rfl, _, rfl, _, rfl, kd, ia, _, nkI l z.2, _, rfl, hie ▸ rfl, B'.at_, B'.keys, dk, nkI_depth _ _, hat, ga, rfl, ⟨_, SqL.of hga⟩, fun D2 hD2 => lcJ (K := K) (X := kd :: X) (enc := encI l) (J := fun H'' => Same H' H'') (fun H' j => SqL.of (j _ _ hga)) (line1000 hgl) (Same.new hD2) (fun H' acc j => Same.over j hD2) (fun m y hm => ?_) fun H6 lk2 ls2 s6 e6 _ _ _ => ?_⟩
        · intro H'' acc2 N2 M2 s'' hD2L hN2 hM2
          have dy0 := hgz _ (List.mem_of_getElem? hm)
          have dy := dy0.same s''
          have dpart' := dpart.same (s.trans s'')
          have dg' := (dg1.same s04).same s''
          refine ⟨rfl, ?_⟩
          refine ⟨_, rfl, _, rfl, notInD_of (eI l) (by decide) dy dg' ⟨_, rfl, iteN (fun h1 => ?_) fun h1 => ?_⟩⟩
          · exact ⟨_, rfl, _, rfl, notInD_of (eI l) (by decide) dy dpart' ⟨_, rfl, iteN (fun h2 => ⟨_, rfl, hN2 _ _ s'' hD2L Keep.refl ((dy0.off hD2).same s'')⟩) fun h2 => hM2 _ s'' hD2L Keep.refl⟩⟩
          · exact hM2 _ s'' hD2L Keep.refl
        · exact ⟨D2, lk2, rfl, .inl (SqL.of e6), _, _, rfl, rfl, _, rfl, iteD (fun h => ⟨_, rfl, hN _ H6 (s.trans s6) (s6 _ _ hDL) (Keep.of s6) (((hpz _ mz).off hL).same (s.trans s6))⟩) fun h => hM H6 (s.trans s6) (s6 _ _ hDL) (Keep.of s6)⟩
      · have s345 := s4.trans s5
        have s05 := s3.trans s345
        have hf5 := s345 _ _ hf3
        have rts5 := rts.same s345
        have dpart5 := dpart.same s5
        refine ⟨_, rfl, L, _, rfl, .inl (SqL.of e5), rfl, _, rfl, iteD (fun _ => ?_) fun _ => ?_⟩
        · refine ⟨_, rfl, .inl ⟨rfl, _, SqL.of hf5⟩, _, rfl, D, _, rfl, .inl (SqL.of (s5 _ _ e4)), _, rfl, (by show 2 ≤ sizeLine; decide), fun pr npr => ?_⟩
          have nfp : f0 ≠ pr := ne_of_none hf5 npr
          have s6 : Same H5 (upd H5 pr (.tup [.int (((pz.map fun z : V × Id => z.1).length : Nat) : Int), .ref D])) := Same.new npr
          refine ⟨f0, us, .ref pr, rfl, rfl, s6 _ _ hf5, small1000 (by have := rts5.lenB; omega), ?_⟩
          have dpr : Da (f0 :: X) (upd H5 pr (.tup [.int (((pz.map fun z : V × Id => z.1).length : Nat) : Int), .ref D])) (.ref pr) (encZ l ((((pz.map fun z : V × Id => z.1).length : Nat) : Int), part)) := by
            refine .tup ?_ upd_same (.cons (.int _) (.cons (dpart5.same s6) .nil))
            intro hm
            rcases List.mem_cons.mp hm with rfl | hm
            · exact nfp rfl
            · exact domX.same s05 _ hm npr
          refine ⟨_, _, _, _, _, _, _, us ++ [.ref pr], ts ++ [((((pz.map fun z : V × Id => z.1).length : Nat) : Int), part)], rfl, Same.over (s05.trans s6) nf0, upd_same, ?_, fun t ht => ?_, by simp; omega⟩
          · rw [List.map_append]; exact ((rts5.same s6).app (DaAll.one dpr)).put
          · rcases List.mem_append.mp ht with ht | ht
            · exact ht8 t ht
            · rw [List.mem_singleton] at ht; subst ht; exact hpl
        · exact ⟨_, _, _, _, _, _, _, us, ts, rfl, s05, hf5, rts5, ht8, by omega⟩
    · rintro σ H3 ⟨x5, x6, x7, x8, x9, x10, x11, us, ts, rfl, s3, hf3, rts, ht8, htl⟩
      refine ⟨_, rfl, ?_⟩
      dsimp only [tNil]
      refine sortD_of (eZ l) (by decide) (alZ l) (eZt l) hf3 rts.tail fun q us' ts' nq pm ru => ?_
      have sq : Same H3 (upd H3 q (.lst us')) := Same.new nq
      have hq : (upd H3 q (.lst us')) q = some (.lst us') := upd_same
      have ru := ru.same sq
      have dom3 := (domX.same s3).same sq
      have s03 := (s1.trans s3).trans sq
      generalize upd H3 q (.lst us') = H4 at sq hq ru dom3 s03 ⊢
      obtain ⟨zs', g1, g2, hz'⟩ := ru.zip
      subst g1
      have hzl' : zs'.length = ts.length := by rw [← pm.length_eq, ← g2, List.length_map]
      refine ⟨q, rfl, ⟨_, SqL.of hq⟩, fun D hD => lcL (K := K) (γ := List Id) (fun z : Int × List Id => some z.2) (RelD (D :: X) (encC l)) hD (SqL.of hq) (line1000 (by omega)) relD_st (fun j z hj => ?_) fun H5 acc s5 e5 pr5 => ?_⟩
      · intro H' N M s hN0 hN hM
        obtain ⟨pa, pv', hze, hpa, dpv⟩ := zget (hz' _ (List.mem_of_getElem? hj))
        obtain ⟨zv, zt⟩ := z
        subst hze
        exact ⟨pa, _, rfl, SqT.of (s _ _ hpa), rfl, _, _, rfl, _, _, rfl, rfl, rfl, _, rfl, hN _ _ _ rfl (Same.refl _) ((dpv.off hD).same s)⟩
      · have r5 := relD_all pr5
        rw [g2, all_map (fun z : Int × List Id => z.2)] at r5
        refine k _ (ts'.map (·.2)) H5 (fun t ht => ?_) ?_ (s03.trans s5) (.lst (dom3.fresh hD) e5 r5.tail)
        · obtain ⟨z, hz, rfl⟩ := List.mem_map.mp ht
          exact ht8 z (pm.mem_iff.mp hz)
        · rw [List.length_map, pm.length_eq]; omega
end
end Qw
namespace Qw
open PySem L2
theorem cut_to (xs : List V) (n : Nat) : cutV xs none (some (n : Int)) = xs.take n := by
  unfold cutV
  rw [HT.sIx_none, HT.sIx_nat]
  simp only [List.drop_zero, Nat.sub_zero]
  by_cases h : n ≤ xs.length
  · rw [Nat.min_eq_left h]
  · rw [Nat.min_eq_right (by omega), List.take_length, List.take_of_length_le (by omega)]
section
variable {P : Program} {w : World} {K : PySem.W.Frag} {mg : Str → Option Value} {base : Heap} {a : Nat → Addr} {d : Nat → FuncData} {C : Addr}
def spCas : Sp := fun vs H Q _ => ∃ (p c : Addr) (X : List Addr), vs = [.ref p] ∧ SX p c X H ∧
  ∀ (l : Lab) (cs ts : List (List Id)) (v : V) (H' : Hp), cs.length ≤ 7 → (∀ c ∈ cs, c.length ≤ 2) → ts.length ≤ 12 → (∀ t ∈ ts, t.length ≤ 8) → Sta p c H' → Keep [p, c] H H' → Da X H' v (.tuple [encG l cs, encG l ts]) → Q v H'
theorem ok_cas (T : Tx K mg a d C) : FnOk P w K mg base CX0 6 (a 22) (d 22) ["_law_state_here"] spCas := by
  have G_drw : FnOk P w K mg base CX0 1 _ _ _ spDrw := ok_drw T
  have G_pwk : FnOk P w K mg base CX0 5 _ _ _ spPwk := ok_pwk T
  have G_btw : FnOk P w K mg base CX0 3 _ _ _ (spBtw P w) := ok_btw T
  have G_cau : FnOk P w K mg base CX0 3 _ _ _ spCau := ok_cau T
  have G_pts : FnOk P w K mg base CX0 3 _ _ _ spPts := ok_pts T
  refine T.cas.F.ok sc_cas (fun vs H Q E h => ?_) (fun cdv A outer s H vs Q E hr h => ?_)
  · obtain ⟨p, c, X, rfl, _⟩ := h
    rfl
  · obtain ⟨p, c, X, rfl, sx, k⟩ := h
    have nd := sc_cas.nd
    have hu := hu_of hr
    have hr_drw : Room 1 _ := hr.mono (by decide)
    have hr_pwk : Room 5 _ := hr
    have hr_btw : Room 3 _ := hr.mono (by decide)
    have hr_cau : Room 3 _ := hr.mono (by decide)
    have hr_pts : Room 3 _ := hr.mono (by decide)
    refine ⟨_, (pss_cons (ps_asg (pe_call G_pwk hr_pwk (by rfl) T.pwk.m T.pwk.F.kp T.pwk.b .nil pass0 (pa_cons (pv 0) (pa_cons pe_int pa_nil))) (pg_tupK K rfl (by rfl) (pgs_cons (pg_name (i := 3) nd rfl (by first | exact Or.inl rfl | exact Or.inr rfl)) (pgs_cons (pg_name (i := 4) nd rfl (by first | exact Or.inl rfl | exact Or.inr rfl)) (pgs_cons (pg_name (i := 5) nd rfl (by first | exact Or.inl rfl | exact Or.inr rfl)) pgs_nil)))))
      (pss_cons (ps_asg (pe_call G_btw hr_btw (by rfl) T.btw.m T.btw.F.kp T.btw.b .nil pass0 (pa_cons (pv 0) (pa_cons (pv 4) (pa_cons pe_int pa_nil)))) (pg_tupK K rfl (by rfl) (pgs_cons (pg_name (i := 6) nd rfl (by first | exact Or.inl rfl | exact Or.inr rfl)) (pgs_cons (pg_name (i := 7) nd rfl (by first | exact Or.inl rfl | exact Or.inr rfl)) pgs_nil))))
      (pss_cons (ps_set (i := 1) nd rfl (by first | exact Or.inl rfl | exact Or.inr rfl) (pe_call G_cau hr_cau (by rfl) T.cau.m T.cau.F.kp T.cau.b .nil pass0 (pa_cons (pv 4) (pa_cons (pv 7) pa_nil))))
      (pss_cons (ps_set (i := 1) nd rfl (by first | exact Or.inl rfl | exact Or.inr rfl) (pe_slice (sl_listK K rfl) (pe_lc (own := [("_law_cause", 8)]) (g := gName 8) (by rfl) nd (pi_listK K rfl (pv 1)) (blkOk_by (own := [("_law_cause", 8)]) (N := N_cas) (sc := defScope s_cas) (by decide +kernel)) (fun _ _ _ _ _ => (pg_name (i := 8) nd rfl (by first | exact Or.inl rfl | exact Or.inr rfl))) (fun _ _ _ _ _ => (pts_one (pt_cmpR op_gt (pe_call G_drw hr_drw (by rfl) T.drw.m T.drw.F.kp T.drw.b .nil pass0 (pa_cons (pv 0) (pa_cons pe_int pa_nil))) pe_int (nomark _)))) (fun _ _ _ _ _ => (pv 8))) po_none (po_some pe_int)))
      (pss_cons (ps_set (i := 2) nd rfl (by first | exact Or.inl rfl | exact Or.inr rfl) (pe_slice (sl_listK K rfl) (pe_lc (own := [("_law_part", 9)]) (g := gName 9) (by rfl) nd (pi_listK K rfl (pe_call G_pts hr_pts (by rfl) T.pts.m T.pts.F.kp T.pts.b .nil pass0 (pa_cons (pv 4) (pa_cons (pv 6) (pa_cons (pv 7) pa_nil))))) (blkOk_by (own := [("_law_part", 9)]) (N := N_cas) (sc := defScope s_cas) (by decide +kernel)) (fun _ _ _ _ _ => (pg_name (i := 9) nd rfl (by first | exact Or.inl rfl | exact Or.inr rfl))) (fun _ _ _ _ _ => (pts_one (pt_cmpR op_gt (pe_call G_drw hr_drw (by rfl) T.drw.m T.drw.F.kp T.drw.b .nil pass0 (pa_cons (pv 0) (pa_cons pe_int pa_nil))) pe_int (nomark _)))) (fun _ _ _ _ _ => (pv 9))) po_none (po_some pe_int)))
      (pss_one (ps_ret (pe_tup (pa_cons (pv 1) (pa_cons (pv 2) pa_nil)))))))))), ?_⟩
    refine ⟨_, rfl, p, c, X, rfl, sx, fun l v row fs H1 rok hl8 st1 kp1 dv => ?_⟩
    obtain ⟨pa, xs, rfl, _, hpa, rt⟩ := dv.getT
    obtain ⟨v1, r1, rfl, d1, q1⟩ := rt.uncons
    obtain ⟨v2, r2, rfl, d2, q2⟩ := q1.uncons
    obtain ⟨v3, r3, rfl, d3, q3⟩ := q2.uncons
    have := q3.nil'
    subst this
    have sx1 := sx.step st1 kp1
    refine ⟨pa, _, rfl, SqT.of hpa, rfl, _, _, rfl, _, _, rfl, _, _, rfl, rfl, ?_⟩
    refine ⟨_, rfl, _, rfl, p, c, X, l, row, v2, rfl, sx1, d2, rok, hl8, fun bv good fresh H2 hg hf hfr st2 kp2 db => ?_⟩
    have sx2 := sx1.step st2 kp2
    have d22 := d2.keep (sx.k kp2)
    have kp02 := kp1.trans kp2
    obtain ⟨pb, ys, rfl, _, hpb, rb⟩ := db.getT
    obtain ⟨w1, t1, rfl, dg, p1⟩ := rb.uncons
    obtain ⟨w2, t2, rfl, df, p2⟩ := p1.uncons
    have := p2.nil'
    subst this
    refine ⟨pb, _, rfl, SqT.of hpb, rfl, _, _, rfl, _, _, rfl, rfl, ?_⟩
    refine ⟨_, rfl, _, rfl, X, l, row, fresh, v2, w2, rfl, sx2.dom, d22, rok, hl8, df, hf, hfr, fun cv cs H3 hc2 hcl s3 dc => ?_⟩
    have sx3 := sx2.same s3
    have kp03 := kp02.trans (Keep.of s3)
    obtain ⟨ca, cxs, rfl, nca, hca, rca⟩ := dc.getL
    obtain ⟨zs, e1, e2, hz⟩ := rca.zip
    subst e1
    have hzl : zs.length = cs.length := by rw [← e2, List.length_map]
    -- the causes that are kept
    refine ⟨_, rfl, ca, rfl, ⟨_, SqL.of hca⟩, fun D hD => lcJ (K := K) (X := X) (enc := encC l) (J := fun H' => Sta p c H' ∧ Keep [p, c] H3 H') (fun H' j => SqL.of (j.2 _ _ (sx.off nca) hca)) (line1000 (by omega)) ⟨sx3.sta.new hD, Keep.new hD⟩ (fun H' acc j => ⟨j.1.put (ne1 (sx3.sta.ne hD)) (ne2 (sx3.sta.ne hD)), j.2.over hD⟩) (fun j z hj => ?_) fun H4 acc cs' j4 e4 r4 m4 l4 => ?_⟩
    · intro H' acc N M j' hDL hN hM
      refine ⟨rfl, _, rfl, p, c, _, rfl, j'.1, by decide, fun n H'' n0 n1 _ st'' kp'' => ⟨_, _, rfl, rfl, _, rfl, iteD (fun hm => ⟨_, rfl, hN _ H'' ⟨st'', j'.2.trans kp''⟩ (kp'' _ _ (sx3.sta.ne hD) hDL) ?_ ?_⟩) fun hm => hM H'' ⟨st'', j'.2.trans kp''⟩ (kp'' _ _ (sx3.sta.ne hD) hDL) ?_⟩⟩
      · exact kp''.mono fun x hx => List.mem_cons_of_mem _ (sx.sub x hx)
      · exact ((hz z (List.mem_of_getElem? hj)).off hD).keep ((j'.2.trans kp'').mono fun x hx => List.mem_cons_of_mem _ (sx.sub x hx))
      · exact kp''.mono fun x hx => List.mem_cons_of_mem _ (sx.sub x hx)
    refine ⟨7, rfl, D, acc, rfl, SqL.of e4, fun ck nck => ?_⟩
    have hcut : cutV acc none (some 7) = acc.take 7 := cut_to acc 7
    rw [hcut]
    have sx4 := sx3.step j4.1 j4.2
    have dck : Da X (upd H4 ck (.lst (acc.take 7))) (.ref ck) (encG l (cs'.take 7)) := by
      refine .lst (sx4.ne nck) upd_same ?_
      rw [List.map_take]
      exact (r4.tail.take 7).same (Same.new nck)
    have st5 := sx4.sta.new (o := .lst (acc.take 7)) nck
    have kp35 : Keep [p, c] H3 (upd H4 ck (.lst (acc.take 7))) := j4.2.trans (Keep.new nck)
    generalize upd H4 ck (.lst (acc.take 7)) = H5 at dck st5 kp35 ⊢
    have sx5 := sx3.step st5 kp35
    have kp25 := (Keep.of s3).trans kp35
    have d25 := d22.keep (sx.k kp25)
    have dg5 := dg.keep (sx.k kp25)
    have df5 := df.keep (sx.k kp25)
    -- the tests that are kept
    refine ⟨_, rfl, _, rfl, _, rfl, X, l, row, good, fresh, v2, w1, w2, rfl, sx5.dom, d25, rok, hl8, dg5, df5, hf, hfr, fun tv ts H6 ht8 htl s6 dt => ?_⟩
    have sx6 := sx5.same s6
    obtain ⟨ta, txs, rfl, nta, hta, rta⟩ := dt.getL
    obtain ⟨zs', f1, f2, hz'⟩ := rta.zip
    subst f1
    have hzl' : zs'.length = ts.length := by rw [← f2, List.length_map]
    refine ⟨ta, rfl, ⟨_, SqL.of hta⟩, fun E' hE => lcJ (K := K) (X := X) (enc := encC l) (J := fun H' => Sta p c H' ∧ Keep [p, c] H6 H') (fun H' j => SqL.of (j.2 _ _ (sx.off nta) hta)) (line1000 (by omega)) ⟨sx6.sta.new hE, Keep.new hE⟩ (fun H' acc j => ⟨j.1.put (ne1 (sx6.sta.ne hE)) (ne2 (sx6.sta.ne hE)), j.2.over hE⟩) (fun j z hj => ?_) fun H7 acc' ts' j7 e7 r7 m7 l7 => ?_⟩
    · intro H' acc N M j' hDL hN hM
      refine ⟨rfl, _, rfl, p, c, _, rfl, j'.1, by decide, fun n H'' n0 n1 _ st'' kp'' => ⟨_, _, rfl, rfl, _, rfl, iteD (fun hm => ⟨_, rfl, hN _ H'' ⟨st'', j'.2.trans kp''⟩ (kp'' _ _ (sx6.sta.ne hE) hDL) ?_ ?_⟩) fun hm => hM H'' ⟨st'', j'.2.trans kp''⟩ (kp'' _ _ (sx6.sta.ne hE) hDL) ?_⟩⟩
      · exact kp''.mono fun x hx => List.mem_cons_of_mem _ (sx.sub x hx)
      · exact ((hz' z (List.mem_of_getElem? hj)).off hE).keep ((j'.2.trans kp'').mono fun x hx => List.mem_cons_of_mem _ (sx.sub x hx))
      · exact kp''.mono fun x hx => List.mem_cons_of_mem _ (sx.sub x hx)
    refine ⟨12, rfl, E', acc', rfl, SqL.of e7, fun tk ntk => ?_⟩
    have hcut : cutV acc' none (some 12) = acc'.take 12 := cut_to acc' 12
    rw [hcut]
    have sx7 := sx6.step j7.1 j7.2
    have dtk : Da X (upd H7 tk (.lst (acc'.take 12))) (.ref tk) (encG l (ts'.take 12)) := by
      refine .lst (sx7.ne ntk) upd_same ?_
      rw [List.map_take]
      exact (r7.tail.take 12).same (Same.new ntk)
    have st8 := sx7.sta.new (o := .lst (acc'.take 12)) ntk
    have kp68 : Keep [p, c] H6 (upd H7 tk (.lst (acc'.take 12))) := j7.2.trans (Keep.new ntk)
    generalize upd H7 tk (.lst (acc'.take 12)) = H8 at dtk st8 kp68 ⊢
    have sx8 := sx6.step st8 kp68
    have dck8 := dck.keep (sx.k ((Keep.of s6).trans kp68))
    refine ⟨_, rfl, _, rfl, (by show 2 ≤ sizeLine; decide), fun t nt => ?_⟩
    refine k l (cs'.take 7) (ts'.take 12) _ _ ?_ (fun x hx => ?_) ?_ (fun x hx => ?_) (st8.new nt) ((kp02.trans (kp25.trans ((Keep.of s6).trans kp68))).trans (Keep.new nt)) (.tup (sx8.ne nt) upd_same (.cons (dck8.same (Same.new nt)) (.cons (dtk.same (Same.new nt)) .nil)))
    · rw [List.length_take]; omega
    · have := m4 x (List.mem_of_mem_take hx)
      rw [e2] at this
      exact hc2 x this
    · rw [List.length_take]; omega
    · have := m7 x (List.mem_of_mem_take hx)
      rw [f2] at this
      exact ht8 x this
end
end Qw
namespace Qw
open PySem L2
/-! ### groups of causes, by number -/
def encN (g : List Nat) : List V := g.map fun k : Nat => V.int (k : Int)
def kN (g : List Nat) : List Key := g.map fun k : Nat => Sum.inl (k : Int)
theorem kN_kV (g : List Nat) : (kN g).map kV = encN g := by
  unfold kN encN
  rw [List.map_map]; rfl
theorem kN_inj {g h : List Nat} (e : kN g = kN h) : g = h := by
  unfold kN at e
  induction g generalizing h with
  | nil => cases h with
    | nil => rfl
    | cons _ _ => simp at e
  | cons x g ih => cases h with
    | nil => simp at e
    | cons y h =>
      rw [List.map_cons, List.map_cons] at e
      injection e with e1 e2
      rw [ih e2]
      injection e1 with e1
      rw [Int.ofNat.inj e1]
theorem inV_N (k : Nat) (g : List Nat) : inV (.int (k : Int)) (encN g) = decide (k ∈ g) := by
  unfold inV encN
  induction g with
  | nil => rfl
  | cons y ys ih =>
    rw [List.map_cons, List.any_cons, ih]
    by_cases h : y = k
    · subst h; simp [eqV]
    · have h2 : ¬ k = y := fun z => h z.symm
      have h3 : ¬ (y : Int) = (k : Int) := fun z => h (Int.ofNat.inj z)
      simp [h, h2, eqV, h3]
theorem flat_N (g : List Nat) : (encN g).all flatV = true := by
  unfold encN
  induction g with
  | nil => rfl
  | cons y ys ih => rw [List.map_cons, List.all_cons, ih]; rfl
/-- the tests, of causes by number -/
def qsOf (cs ts : List (List Id)) : List (Nat → Bool) := ts.map fun t k => bad t (cs.getD k [])
theorem range_getD {β : Type} (qs : List β) (d : β) : (List.range qs.length).map (fun i => qs.getD i d) = qs := by
  refine List.ext_getElem? fun j => ?_
  rw [List.getElem?_map]
  by_cases h : j < qs.length
  · rw [List.getElem?_range h]
    simp [h]
  · rw [List.getElem?_eq_none (by simpa using h), List.getElem?_eq_none (by omega)]; rfl
section
variable {P : Program} {w : World} {K : PySem.W.Frag} {mg : Str → Option Value} {base : Heap} {a : Nat → Addr} {d : Nat → FuncData} {C : Addr}
/-! ### marks -/
def spMrk : Sp := fun vs H Q _ => ∃ (X : List Addr) (l : Lab) (cs ts : List (List Id)) (x y : V) (i : Nat) (t : List Id), vs = [x, y, .int (i : Int)] ∧ Da X H x (encG l cs) ∧ Da X H y (encG l ts) ∧ cs.length ≤ 100 ∧ (∀ c ∈ cs, c.length ≤ 100) ∧ ts[i]? = some t ∧
  ∀ r H', H r = none → Same H H' → H' r = some (.lst (encN ((List.range cs.length).filter fun k => bad t (cs.getD k [])))) → Q (.ref r) H'
theorem ok_mrk (T : Tx K mg a d C) : FnOk P w K mg base CX0 2 (a 1) (d 1) ["causes", "tests", "index"] spMrk := by
  have G_isb : FnOk P w K mg base CX0 1 _ _ _ spIsb := ok_isb T
  refine T.mrk.F.ok sc_mrk (fun vs H Q E h => ?_) (fun cdv A outer s H vs Q E hr h => ?_)
  · obtain ⟨X, l, cs, ts, x, y, i, t, rfl, _⟩ := h
    rfl
  · obtain ⟨X, l, cs, ts, x, y, i, t, rfl, dx, dy, hc, hcl, hti, k⟩ := h
    have nd := sc_mrk.nd
    have hu := hu_of hr
    have hr_isb : Room 1 _ := hr
    refine ⟨_, (pss_one (ps_ret (pe_lc (own := [("k", 3)]) (g := gName 3) (by rfl) nd (pi_range1 (by rfl) T.range (pa_cons (pe_callB (call_lenK K rfl) (by rfl) T.len (by decide +kernel) (pa_cons (pv 0) pa_nil)) pa_nil)) (blkOk_by (own := [("k", 3)]) (N := N_mrk) (sc := defScope s_mrk) (by decide +kernel)) (fun _ _ _ _ _ => (pg_name (i := 3) nd rfl (by first | exact Or.inl rfl | exact Or.inr rfl))) (fun _ _ _ _ _ => (pts_one (pt_val (pe_call G_isb hr_isb (by rfl) T.isb.m T.isb.F.kp T.isb.b .nil pass0 (pa_cons (pe_ix (ix_listK K rfl) (pv 1) (pv 2) (fun _ _ => rfl)) (pa_cons (pe_ix (ix_listK K rfl) (pv 0) (pv 3) (fun _ _ => rfl)) pa_nil)))))) (fun _ _ _ _ _ => (pv 3))))), ?_⟩
    obtain ⟨ca, cvs, rfl, _, hca, rca⟩ := dx.getL
    obtain ⟨ta, tvs, rfl, _, hta, rta⟩ := dy.getL
    have hlc : cvs.length = cs.length := rca.lenB
    obtain ⟨tv, htv, dt⟩ := rta.get' (i := i) (d := encC l t) (by rw [List.getElem?_map, hti]; rfl)
    refine ⟨_, rfl, ca, _, rfl, .inl (SqL.of hca), _, rfl, by omega, by omega, fun D hD => lcR (m := ((cvs.length : Nat) : Int).toNat) (n := cs.length) (by omega) (γ := Nat) (fun k => if (fun k => bad t (cs.getD k [])) k = true then some k else none) (RelF fun k => V.int (k : Int)) hD (line1000 (by omega)) relF_st (fun j hj => ?_) fun H' acc s1 e pr => ?_⟩
    · intro H' N M s _ hN hM
      obtain ⟨c, hcj⟩ : ∃ c, cs[j]? = some c := ⟨cs[j], by simp [hj]⟩
      obtain ⟨cv, hcv, dc⟩ := rca.get' (i := j) (d := encC l c) (by rw [List.getElem?_map, hcj]; rfl)
      have hg : cs.getD j [] = c := by rw [List.getD_eq_getElem?_getD, hcj]; rfl
      refine ⟨rfl, _, rfl, _, rfl, ta, _, _, _, rfl, rfl, SqL.of (s _ _ hta), atI_nat (j := i) htv, _, rfl, _, rfl, ca, _, _, _, rfl, rfl, SqL.of (s _ _ hca), atI_nat (j := j) hcv, X, l, tv, cv, t, c, rfl, dt.same s, dc.same s, Nat.le_trans (hcl c (List.mem_of_getElem? hcj)) (by decide), fun H'' s'' => ?_⟩
      refine ⟨_, rfl, iteB (fun hb => ⟨_, rfl, hN _ j _ ?_ s'' rfl⟩) fun hb => hM _ ?_ s''⟩
      · show (if bad t (cs.getD j []) = true then some j else none) = some j
        rw [hg, if_pos hb]
      · show (if bad t (cs.getD j []) = true then some j else none) = none
        rw [hg, hb]; rfl
    · have ea := relF_map pr
      rw [someIf_map (fun k => bad t (cs.getD k [])) (fun k => k), List.map_id'] at ea
      subst ea
      exact k D H' hD s1 (by unfold encN; exact e)
end
end Qw
namespace Qw
open PySem L2
theorem paired_get {α β : Type} {R : α → β → Prop} {xs : List α} {ys : List β} (p : Paired R xs ys) {i : Nat} {q : β} (h : ys[i]? = some q) : ∃ v, xs[i]? = some v ∧ R v q := by
  induction p generalizing i with
  | nil => simp at h
  | cons h' _ ih =>
    cases i with
    | zero => simp at h; subst h; exact ⟨_, rfl, h'⟩
    | succ i => exact ih (by simpa using h)
/-- what a planner's memory holds: of groups, each once, the fewest tests -/
structure KnOk (n : Nat) (qs : List (Nat → Bool)) (H : Hp) (kvs : List (List Key × V)) : Prop where
  nd : (kvs.map (·.1)).Nodup
  ent : ∀ e ∈ kvs, ∃ g ∈ subs (List.range n), e.1 = kN g ∧ ∃ t b, e.2 = .ref t ∧ H t = some (.tup [.int (fw qs g : Nat), b])
structure PlAt (C s R D : Addr) (n : Nat) (qs : List (Nat → Bool)) (H : Hp) : Prop where
  at_ : ∃ dx, H s = some (.ins C dx [("rows", .ref R), ("known", .ref D)])
  rows : ∃ rvs, H R = some (.lst rvs) ∧ rvs.length = qs.length ∧ ∀ (i : Nat) (q : Nat → Bool), qs[i]? = some q → ∃ r, rvs[i]? = some (.ref r) ∧ H r = some (.lst (encN ((List.range n).filter q)))
  known : ∃ kvs, H D = some (.dT kvs) ∧ KnOk n qs H kvs
theorem KnOk.keep {n : Nat} {qs : List (Nat → Bool)} {H H' : Hp} {kvs : List (List Key × V)} (h : KnOk n qs H kvs) (k : ∀ b xs, H b = some (.tup xs) → H' b = some (.tup xs)) : KnOk n qs H' kvs :=
  ⟨h.nd, fun e he => let ⟨g, hg, e1, t, b, e2, e3⟩ := h.ent e he; ⟨g, hg, e1, t, b, e2, k _ _ e3⟩⟩
theorem PlAt.same {C s R D : Addr} {n : Nat} {qs : List (Nat → Bool)} {H H' : Hp} (h : PlAt C s R D n qs H) (k : Same H H') : PlAt C s R D n qs H' := by
  obtain ⟨⟨dx, h1⟩, ⟨rvs, h2, h3, h4⟩, ⟨kvs, h5, h6⟩⟩ := h
  exact ⟨⟨dx, k _ _ h1⟩, ⟨rvs, k _ _ h2, h3, fun i q e => let ⟨r, e1, e2⟩ := h4 i q e; ⟨r, e1, k _ _ e2⟩⟩, ⟨kvs, k _ _ h5, h6.keep fun b xs e => k _ _ e⟩⟩
section
variable {P : Program} {w : World} {K : PySem.W.Frag} {mg : Str → Option Value} {base : Heap} {a : Nat → Addr} {d : Nat → FuncData} {C : Addr}
def spPin (C : Addr) : Sp := fun vs H Q _ => ∃ (s dx : Addr) (X : List Addr) (l : Lab) (cs ts : List (List Id)) (x y : V), vs = [.ref s, x, y] ∧ H s = some (.ins C dx []) ∧ Da X H x (encG l cs) ∧ Da X H y (encG l ts) ∧ cs.length ≤ 100 ∧ (∀ c ∈ cs, c.length ≤ 100) ∧ ts.length ≤ 100 ∧
  ∀ R D H', PlAt C s R D cs.length (qsOf cs ts) H' → Keep [s] H H' → H D = none → Q .non H'
theorem ok_pin (T : Tx K mg a d C) : FnOk P w K mg base CX0 3 (a 2) (d 2) ["self", "causes", "tests"] (spPin C) := by
  have G_mrk : FnOk P w K mg base CX0 2 _ _ _ spMrk := ok_mrk T
  refine T.pin.F.ok sc_pin (fun vs H Q E h => ?_) (fun cdv A outer s H vs Q E hr h => ?_)
  · obtain ⟨s, dx, X, l, cs, ts, x, y, rfl, _⟩ := h
    rfl
  · obtain ⟨s, dx, X, l, cs, ts, x, y, rfl, hs, dcs, dts, hc, hcl, htl, k⟩ := h
    have nd := sc_pin.nd
    have hu := hu_of hr
    have hr_mrk : Room 2 _ := hr
    refine ⟨_, (pss_cons (ps_fld (pv 0) (pe_lc (own := [("index", 3)]) (g := gName 3) (tt := tYes) (by rfl) nd (pi_range1 (by rfl) T.range (pa_cons (pe_callB (call_lenK K rfl) (by rfl) T.len (by decide +kernel) (pa_cons (pv 2) pa_nil)) pa_nil)) (blkOk_by (own := [("index", 3)]) (N := N_pin) (sc := defScope s_pin) (by decide +kernel)) (fun _ _ _ _ _ => (pg_name (i := 3) nd rfl (by first | exact Or.inl rfl | exact Or.inr rfl))) (fun _ _ _ _ _ => pts_nil) (fun _ _ _ _ _ => (pe_call G_mrk hr_mrk (by rfl) T.mrk.m T.mrk.F.kp T.mrk.b .nil pass0 (pa_cons (pv 1) (pa_cons (pv 2) (pa_cons (pv 3) pa_nil)))))) rfl)
      (pss_one (ps_fld (pv 0) pe_dnewT rfl))), ?_⟩
    obtain ⟨ta, tvs, rfl, _, hta, rta⟩ := id dts.getL
    have hlt : tvs.length = ts.length := rta.lenB
    refine ⟨_, rfl, ta, _, rfl, .inl (SqL.of hta), _, rfl, by omega, by omega, fun R hR => lcR (m := ((tvs.length : Nat) : Int).toNat) (n := (qsOf cs ts).length) (by unfold qsOf; rw [List.length_map]; omega) (γ := Nat → Bool) (fun i => some ((qsOf cs ts).getD i fun _ => false)) (fun H' v q => ∃ r, v = V.ref r ∧ r ≠ R ∧ H' r = some (.lst (encN ((List.range cs.length).filter q)))) hR (line1000 (by unfold qsOf; rw [List.length_map]; omega))
      (fun H1 H2 v c kk ⟨r, e1, e2, e3⟩ => ⟨r, e1, e2, kk _ _ (by simpa using e2) e3⟩) (fun j hj => ?_) fun H1 acc s1 e1 pr => ?_⟩
    · intro H' N M s0 hR' hN hM
      have hj' : j < ts.length := by unfold qsOf at hj; rwa [List.length_map] at hj
      obtain ⟨t, htj⟩ : ∃ t, ts[j]? = some t := ⟨ts[j], by simp [hj']⟩
      refine ⟨rfl, _, rfl, _, rfl, _, rfl, X, l, cs, ts, x, _, j, t, rfl, dcs.same s0, dts.same s0, hc, hcl, htj, fun r H'' zr s'' hr' => hN _ _ _ rfl s'' ⟨r, rfl, fun z => hR' (by rw [← z]; exact zr), ?_⟩⟩
      have hq : ((qsOf cs ts).getD j fun _ => false) = fun k => bad t (cs.getD k []) := by
        unfold qsOf
        rw [List.getD_eq_getElem?_getD, List.getElem?_map, htj]; rfl
      rw [hq]; exact hr'
    · have nRs : s ≠ R := ne_of_none hs hR
      rw [all_map (fun i => (qsOf cs ts).getD i fun _ => false), range_getD] at pr
      refine ⟨_, rfl, s, C, dx, [], rfl, s1 _ _ hs, T.cl, T.nR, by simp, ?_⟩
      have e1' : (upd H1 s (.ins C dx (putF "rows" (.ref R) []))) R = some (.lst acc) := by rw [upd_ne nRs.symm]; exact e1
      refine fun D nD => ⟨_, rfl, s, C, dx, putF "rows" (.ref R) [], rfl, ?_, T.cl, T.nK, by simp [putF], ?_⟩
      · refine upd_some upd_same nD
      · have nDs : s ≠ D := fun z => by rw [← z, upd_same] at nD; cases nD
        have nD1 : H1 D = none := by rw [upd_ne nDs.symm] at nD; exact nD
        have pl : PlAt C s R D cs.length (qsOf cs ts) (upd (upd (upd H1 s (.ins C dx (putF "rows" (.ref R) []))) D (.dT [])) s (.ins C dx (putF "known" (.ref D) (putF "rows" (.ref R) [])))) := by
          have off : ∀ b o, H1 b = some o → b ≠ s → (upd (upd (upd H1 s (.ins C dx (putF "rows" (.ref R) []))) D (.dT [])) s (.ins C dx (putF "known" (.ref D) (putF "rows" (.ref R) [])))) b = some o := fun b o e n => by
            rw [upd_ne n, upd_ne (ne_of_none e nD1), upd_ne n]; exact e
          refine ⟨⟨dx, upd_same⟩, ⟨acc, off _ _ e1 nRs.symm, Paired.length pr, fun i q hq => ?_⟩, ⟨[], by rw [upd_ne nDs.symm, upd_same], by simp, by simp⟩⟩
          have : ∃ v, acc[i]? = some v ∧ ∃ r, v = V.ref r ∧ r ≠ R ∧ H1 r = some (.lst (encN ((List.range cs.length).filter q))) := by
            exact paired_get pr hq
          obtain ⟨v, hv, r, rfl, _, hr'⟩ := this
          refine ⟨r, hv, off _ _ hr' fun z => ?_⟩
          rw [z, s1 _ _ hs] at hr'
          cases hr'
        refine k R D _ pl (fun b o nb e => ?_) (s1.free nD1)
        have nbs : b ≠ s := by simpa using nb
        rw [upd_ne nbs, upd_ne (ne_of_none (s1 _ _ e) nD1), upd_ne nbs]
        exact s1 _ _ e
/-! ### the sides of a group -/
def spSid (C : Addr) : Sp := fun vs H Q _ => ∃ (s R D ga : Addr) (n : Nat) (qs : List (Nat → Bool)) (g : List Nat) (i : Nat) (q : Nat → Bool), vs = [.ref s, .ref ga, .int (i : Int)] ∧ PlAt C s R D n qs H ∧ H ga = some (.tup (encN g)) ∧ (∀ k ∈ g, k < n) ∧ g.length ≤ 100 ∧ qs[i]? = some q ∧
  ∀ t b gd H', Same H H' → H' t = some (.tup [.ref b, .ref gd]) → H' b = some (.tup (encN (g.filter q))) → H' gd = some (.tup (encN (g.filter fun k => !q k))) → Q (.ref t) H'
theorem ok_sid (T : Tx K mg a d C) : FnOk P w K mg base CX0 1 (a 3) (d 3) ["self", "group", "index"] (spSid C) := by
  refine T.sid.F.ok sc_sid (fun vs H Q E h => ?_) (fun cdv A outer s H vs Q E hr h => ?_)
  · obtain ⟨s, R, D, ga, n, qs, g, i, q, rfl, _⟩ := h
    rfl
  · obtain ⟨s, R, D, ga, n, qs, g, i, q, rfl, pl, hga, hgn, hgl, hq, k⟩ := h
    have nd := sc_sid.nd
    have hu := hu_of hr
    refine ⟨_, (pss_cons (ps_set (i := 3) nd rfl (by first | exact Or.inl rfl | exact Or.inr rfl) (pe_ix (ix_listK K rfl) (pe_fldK K rfl (pv 0) rfl) (pv 2) (fun _ _ => rfl)))
      (pss_one (ps_ret (pe_tup (pa_cons (pe_callTy (call_tupleK K rfl) (by rfl) T.tuple (by decide +kernel) (pa_cons (pe_lc (own := [("k", 4)]) (g := gName 4) (by rfl) nd (pi_tupK K rfl (pv 1)) (blkOk_by (own := [("k", 4)]) (N := N_sid) (sc := defScope s_sid) (by decide +kernel)) (fun _ _ _ _ _ => (pg_name (i := 4) nd rfl (by first | exact Or.inl rfl | exact Or.inr rfl))) (fun _ _ _ _ _ => (pts_one (pt_cmpR (op_inSK K rfl) (pv 4) (pv 3) (by rfl)))) (fun _ _ _ _ _ => (pv 4))) pa_nil)) (pa_cons (pe_callTy (call_tupleK K rfl) (by rfl) T.tuple (by decide +kernel) (pa_cons (pe_lc (own := [("k", 4)]) (g := gName 4) (by rfl) nd (pi_tupK K rfl (pv 1)) (blkOk_by (own := [("k", 4)]) (N := N_sid) (sc := defScope s_sid) (by decide +kernel)) (fun _ _ _ _ _ => (pg_name (i := 4) nd rfl (by first | exact Or.inl rfl | exact Or.inr rfl))) (fun _ _ _ _ _ => (pts_one (pt_cmpR (op_notInSK K rfl) (pv 4) (pv 3) (by rfl)))) (fun _ _ _ _ _ => (pv 4))) pa_nil)) pa_nil)))))), ?_⟩
    obtain ⟨dx, hs⟩ := pl.at_
    obtain ⟨rvs, hR, hrl, hrows⟩ := pl.rows
    obtain ⟨r, hri, hr1⟩ := hrows i q hq
    have hmem : ∀ k ∈ g, decide (k ∈ (List.range n).filter q) = q k := fun k hk => by
      have h1 : k ∈ List.range n := List.mem_range.mpr (hgn k hk)
      cases e : q k with
      | true => exact decide_eq_true (List.mem_filter.mpr ⟨h1, e⟩)
      | false => exact decide_eq_false fun z => by rw [(List.mem_filter.mp z).2] at e; cases e
    have hzs : ((g.map fun k : Nat => (V.int (k : Int), k)).map fun z => z.1) = encN g := by rw [List.map_map]; rfl
    have hzs2 : ((g.map fun k : Nat => (V.int (k : Int), k)).map fun z => z.2) = g := by rw [List.map_map]; exact List.map_id'' (fun _ => rfl) g
    refine ⟨_, rfl, s, C, dx, _, _, rfl, hs, T.cl, T.nR, rfl, _, rfl, R, rvs, _, _, rfl, rfl, SqL.of hR, atI_nat (j := i) hri, ?_⟩
    refine ⟨_, rfl, ga, rfl, ⟨_, SqT.of hga⟩, fun D1 hD1 => lcT (K := K) (zs := g.map fun k : Nat => (V.int (k : Int), k)) (γ := Nat) (fun k => if q k = true then some k else none) (RelF fun k : Nat => V.int (k : Int)) hD1 (by rw [hzs]; exact hga) (line1000 (by rw [List.length_map]; omega)) relF_st (fun j z hj => ?_) fun H1 acc s1 e1 pr => ?_⟩
    · intro H' N M s0 _ hN hM
      obtain ⟨kk, hkk, rfl⟩ : ∃ kk, g[j]? = some kk ∧ (V.int (kk : Int), kk) = z := by
        rw [List.getElem?_map] at hj
        exact Option.map_eq_some_iff.mp hj
      have hm := hmem kk (List.mem_of_getElem? hkk)
      refine ⟨rfl, _, rfl, _, rfl, r, _, rfl, .inl (SqL.of (s0 _ _ hr1)), rfl, flat_N _, _, rfl, iteB (fun hb => ⟨_, rfl, hN _ kk _ ?_ (Same.refl _) rfl⟩) fun hb => hM _ ?_ (Same.refl _)⟩
      · have hb2 : inV (.int (kk : Int)) (encN ((List.range n).filter q)) = true := hb
        rw [inV_N, hm] at hb2
        exact if_pos hb2
      · have hb2 : inV (.int (kk : Int)) (encN ((List.range n).filter q)) = false := hb
        rw [inV_N, hm] at hb2
        show (if q kk = true then some kk else none) = none
        rw [hb2]; rfl
    have ea := relF_map pr
    rw [hzs2, someIf_map q (fun k => k), List.map_id'] at ea
    subst ea
    refine ⟨D1, _, rfl, .inl ⟨SqL.of e1, fun b nb => ?_⟩⟩
    have s2 : Same H (upd H1 b (.tup ((g.filter q).map fun k : Nat => V.int (k : Int)))) := s1.trans (Same.new nb)
    have hb2 : (upd H1 b (.tup ((g.filter q).map fun k : Nat => V.int (k : Int)))) b = some (.tup (encN (g.filter q))) := upd_same
    generalize upd H1 b (.tup ((g.filter q).map fun k : Nat => V.int (k : Int))) = H2 at s2 hb2 ⊢
    refine ⟨_, rfl, ga, rfl, ⟨_, SqT.of (s2 _ _ hga)⟩, fun D2 hD2 => lcT (K := K) (zs := g.map fun k : Nat => (V.int (k : Int), k)) (γ := Nat) (fun k => if (fun k => !q k) k = true then some k else none) (RelF fun k : Nat => V.int (k : Int)) hD2 (by rw [hzs]; exact s2 _ _ hga) (line1000 (by rw [List.length_map]; omega)) relF_st (fun j z hj => ?_) fun H3 acc3 s3 e3 pr3 => ?_⟩
    · intro H' N M s0 _ hN hM
      obtain ⟨kk, hkk, rfl⟩ : ∃ kk, g[j]? = some kk ∧ (V.int (kk : Int), kk) = z := by
        rw [List.getElem?_map] at hj
        exact Option.map_eq_some_iff.mp hj
      have hm := hmem kk (List.mem_of_getElem? hkk)
      refine ⟨rfl, _, rfl, _, rfl, r, _, rfl, .inl (SqL.of (s0 _ _ (s2 _ _ hr1))), rfl, flat_N _, _, rfl, iteB (fun hb => ⟨_, rfl, hN _ kk _ ?_ (Same.refl _) rfl⟩) fun hb => hM _ ?_ (Same.refl _)⟩
      · have hb2 : (!inV (.int (kk : Int)) (encN ((List.range n).filter q))) = true := hb
        rw [inV_N, hm] at hb2
        exact if_pos hb2
      · have hb2 : (!inV (.int (kk : Int)) (encN ((List.range n).filter q))) = false := hb
        rw [inV_N, hm] at hb2
        show (if (!q kk) = true then some kk else none) = none
        rw [hb2]; rfl
    have ea := relF_map pr3
    rw [hzs2, someIf_map (fun k => !q k) (fun k => k), List.map_id'] at ea
    subst ea
    refine ⟨D2, _, rfl, .inl ⟨SqL.of e3, fun gd ngd => ⟨(by show 2 ≤ sizeLine; decide), fun t nt => ?_⟩⟩⟩
    refine k t b gd _ (((s2.trans s3).trans (Same.new ngd)).trans (Same.new nt)) upd_same (upd_some (upd_some (s3 _ _ hb2) ngd) nt) (upd_some upd_same nt)
end
end Qw
namespace Qw
open PySem L2
theorem encN_len (g : List Nat) : (encN g).length = g.length := by unfold encN; rw [List.length_map]
theorem sp_lenB (q : Nat → Bool) (g : List Nat) : (decide ((0 : Int) < ((encN (g.filter q)).length : Nat)) && decide ((0 : Int) < ((encN (g.filter fun k => !q k)).length : Nat))) = sp q g := by
  have h : ∀ l : List Nat, decide ((0 : Int) < ((encN l).length : Nat)) = !l.isEmpty := fun l => by
    rw [encN_len]
    cases l with
    | nil => rfl
    | cons x l =>
      show decide _ = true
      refine decide_eq_true ?_
      simp only [List.length_cons]
      omega
  rw [h, h]; rfl
theorem valV_mem {κ : Type} [DecidableEq κ] {kvs : List (κ × V)} {k : κ} {v : V} (h : valV kvs k = some v) : (k, v) ∈ kvs := by
  unfold valV at h
  obtain ⟨e, he, e2⟩ := Option.map_eq_some_iff.mp h
  have h1 := List.mem_of_find?_eq_some he
  have h2 := List.find?_some he
  have h2 : e.1 = k := by simpa using h2
  rw [← h2, ← e2]; exact h1
/-- one division: the test, its sides -/
def SpIs (H : Hp) (qs : List (Nat → Bool)) (g : List Nat) (z : V × Nat × (Nat → Bool)) : Prop :=
  qs[z.2.1]? = some z.2.2 ∧ ∃ t b gd, z.1 = .ref t ∧ H t = some (.tup [.int (z.2.1 : Int), .ref b, .ref gd]) ∧ H b = some (.tup (encN (g.filter z.2.2))) ∧ H gd = some (.tup (encN (g.filter fun k => !z.2.2 k)))
theorem SpIs.keep {H H' : Hp} {qs : List (Nat → Bool)} {g : List Nat} {z : V × Nat × (Nat → Bool)} (h : SpIs H qs g z) (k : ∀ b xs, H b = some (.tup xs) → H' b = some (.tup xs)) : SpIs H' qs g z :=
  let ⟨h1, t, b, gd, e, h2, h3, h4⟩ := h; ⟨h1, t, b, gd, e, k _ _ h2, k _ _ h3, k _ _ h4⟩
theorem PlAt.keepT {C s R D : Addr} {n : Nat} {qs : List (Nat → Bool)} {H H' : Hp} (h : PlAt C s R D n qs H) (k : Keep [D] H H') {b : Addr} {xs : List V} (e : H b = some (.tup xs)) : H' b = some (.tup xs) := by
  refine k b _ (fun z => ?_) e
  obtain ⟨kvs, h5, _⟩ := h.known
  have z : b = D := by simpa using z
  rw [z, h5] at e
  cases e
theorem PlAt.keepL {C s R D : Addr} {n : Nat} {qs : List (Nat → Bool)} {H H' : Hp} (h : PlAt C s R D n qs H) (k : Keep [D] H H') {b : Addr} {xs : List V} (e : H b = some (.lst xs)) : H' b = some (.lst xs) := by
  refine k b _ (fun z => ?_) e
  obtain ⟨kvs, h5, _⟩ := h.known
  have z : b = D := by simpa using z
  rw [z, h5] at e
  cases e
/-- the memory is written -/
theorem PlAt.put {C s R D : Addr} {n : Nat} {qs : List (Nat → Bool)} {H : Hp} {kvs : List (List Key × V)} (h : PlAt C s R D n qs H) (k : KnOk n qs H kvs) : PlAt C s R D n qs (upd H D (.dT kvs)) := by
  obtain ⟨kvs0, h5, _⟩ := h.known
  have kk : Keep [D] H (upd H D (.dT kvs)) := Keep.put (by simp)
  obtain ⟨⟨dx, h1⟩, ⟨rvs, h2, h3, h4⟩, _⟩ := id h
  refine ⟨⟨dx, ?_⟩, ⟨rvs, h.keepL kk h2, h3, fun i q e => let ⟨r, e1, e2⟩ := h4 i q e; ⟨r, e1, h.keepL kk e2⟩⟩, ⟨kvs, upd_same, k.keep fun b xs e => h.keepT kk e⟩⟩
  rw [upd_ne (fun z => by rw [z, h5] at h1; cases h1)]; exact h1
theorem KnOk.store {n : Nat} {qs : List (Nat → Bool)} {H : Hp} {kvs : List (List Key × V)} {g : List Nat} {t : Addr} {b : V} (h : KnOk n qs H kvs) (hg : g ∈ subs (List.range n)) (ht : H t = some (.tup [.int (fw qs g : Nat), b])) (hv : valV kvs (kN g) = none) : KnOk n qs H (putK kvs (kN g) (.ref t)) := by
  rw [putK_new _ hv]
  refine ⟨?_, fun e he => ?_⟩
  · rw [List.map_append, List.nodup_append]
    refine ⟨h.nd, by simp, fun x hx y hy e => ?_⟩
    have : y = kN g := by simpa using hy
    rw [e, this] at hx
    obtain ⟨e', he', e2⟩ := List.mem_map.mp hx
    have := valV_any (kN g) kvs
    rw [hv, List.any_eq_true.mpr ⟨e', he', decide_eq_true e2⟩] at this
    cases this
  · rcases List.mem_append.mp he with he | he
    · exact h.ent e he
    · rw [List.mem_singleton] at he
      subst he
      exact ⟨g, hg, rfl, t, b, rfl, ht⟩
theorem KnOk.len {n : Nat} {qs : List (Nat → Bool)} {H : Hp} {kvs : List (List Key × V)} (h : KnOk n qs H kvs) (hn : n ≤ 7) : kvs.length ≤ 128 := by
  have h1 := nodup_le (kvs.map (·.1)) ((subs (List.range n)).map kN) h.nd fun x hx => by
    obtain ⟨e, he, rfl⟩ := List.mem_map.mp hx
    obtain ⟨g, hg, e1, _⟩ := h.ent e he
    rw [e1]
    exact List.mem_map.mpr ⟨g, hg, rfl⟩
  rw [List.length_map, List.length_map, subs_len, List.length_range] at h1
  have : 2 ^ n ≤ 2 ^ 7 := Nat.pow_le_pow_right (by decide) hn
  have h7 : 2 ^ 7 = 128 := rfl
  omega
section
variable {P : Program} {w : World} {K : PySem.W.Frag} {mg : Str → Option Value} {base : Heap} {a : Nat → Addr} {d : Nat → FuncData} {C : Addr}
def spSpl (C : Addr) : Sp := fun vs H Q _ => ∃ (s R D ga : Addr) (n : Nat) (qs : List (Nat → Bool)) (g : List Nat), vs = [.ref s, .ref ga] ∧ PlAt C s R D n qs H ∧ H ga = some (.tup (encN g)) ∧ (∀ k ∈ g, k < n) ∧ g.length ≤ 100 ∧ qs.length ≤ 100 ∧
  ∀ F (zs : List (V × Nat × (Nat → Bool))) H', H F = none → Same H H' → zs.map (·.2.2) = qs.filter (fun q => sp q g) → (∀ z ∈ zs, SpIs H' qs g z) → H' F = some (.lst (zs.map (·.1))) → Q (.ref F) H'
theorem ok_spl (T : Tx K mg a d C) : FnOk P w K mg base CX0 2 (a 4) (d 4) ["self", "group"] (spSpl C) := by
  have G_sid : FnOk P w K mg base CX0 1 _ _ _ (spSid C) := ok_sid T
  refine T.spl.F.ok sc_spl (fun vs H Q E h => ?_) (fun cdv A outer s H vs Q E hr h => ?_)
  · obtain ⟨s, R, D, ga, n, qs, g, rfl, _⟩ := h
    rfl
  · obtain ⟨s, R, D, ga, n, qs, g, rfl, pl, hga, hgn, hgl, hql, k⟩ := h
    have nd := sc_spl.nd
    have hu := hu_of hr
    have hr_sid : Room 1 _ := hr
    refine ⟨_, (pss_cons (ps_set (i := 2) nd rfl (by first | exact Or.inl rfl | exact Or.inr rfl) (pe_lst pa_nil))
      (pss_cons (ps_for PassesOwn.never rfl (pi_range1 (by rfl) T.range (pa_cons (pe_callB (call_lenK K rfl) (by rfl) T.len (by decide +kernel) (pa_cons (pe_fldK K rfl (pv 0) rfl) pa_nil)) pa_nil)) (pg_name (i := 3) nd rfl (by first | exact Or.inl rfl | exact Or.inr rfl)) (pss_cons (ps_asg (pe_meth (pv 0) T.cl T.sid.mt G_sid hr_sid T.sid.b .nil pass0 (pa_cons (pv 1) (pa_cons (pv 3) pa_nil))) (pg_tupK K rfl (by rfl) (pgs_cons (pg_name (i := 4) nd rfl (by first | exact Or.inl rfl | exact Or.inr rfl)) (pgs_cons (pg_name (i := 5) nd rfl (by first | exact Or.inl rfl | exact Or.inr rfl)) pgs_nil))))
      (pss_one (ps_if (PW.pt (pw_and (pt_cmpR op_gt (pe_callB (call_lenK K rfl) (by rfl) T.len (by decide +kernel) (pa_cons (pv 4) pa_nil)) pe_int (nomark _)) (pw_and1 (pt_cmpR op_gt (pe_callB (call_lenK K rfl) (by rfl) T.len (by decide +kernel) (pa_cons (pv 5) pa_nil)) pe_int (nomark _))))) (pss_one (ps_expr (pe_bm PySem.F.plainAttrs_list PySem.F.slot_list_append PySem.F.type_list_append mt_append (pv 2) (pa_cons (pe_tup (pa_cons (pv 3) (pa_cons (pv 4) (pa_cons (pv 5) pa_nil)))) pa_nil)))) pss_nil))))
      (pss_one (ps_ret (pv 2))))), ?_⟩
    obtain ⟨dx, hs⟩ := pl.at_
    obtain ⟨rvs, hR, hrl, hrows⟩ := pl.rows
    refine ⟨Nat.zero_le _, fun F nF => ?_⟩
    refine ⟨_, rfl, s, C, dx, _, _, rfl, upd_some hs nF, T.cl, T.nR, rfl, R, rvs, rfl, .inl (SqL.of (upd_some hR nF)), _, rfl, by omega, by omega, for_range (lo := 0) (n := ((rvs.length : Nat) : Int).toNat) (fun i σ H' => ∃ (x3 x4 x5 : Option V) (zs : List (V × Nat × (Nat → Bool))), σ = [some (.ref s), some (.ref ga), some (.ref F), x3, x4, x5] ∧ Same H H' ∧ H' F = some (.lst (zs.map (·.1))) ∧ zs.map (·.2.2) = (qs.take i).filter (fun q => sp q g) ∧ ∀ z ∈ zs, SpIs H' qs g z)
      ⟨none, none, none, [], rfl, Same.new nF, upd_same, by simp, by simp⟩ ?_ ?_⟩
    · rintro i σ H1 hi ⟨x3, x4, x5, zs, rfl, s1, hF, hzq, hz⟩
      rw [Int.zero_add]
      have hiq : i < qs.length := by omega
      obtain ⟨q, hq⟩ : ∃ q, qs[i]? = some q := ⟨qs[i], by simp [hiq]⟩
      refine ⟨_, rfl, s, _, _, rfl, s1 _ _ hs, rfl, _, rfl, _, rfl, s, R, D, ga, n, qs, g, i, q, rfl, pl.same s1, s1 _ _ hga, hgn, hgl, hq, fun t b gd H2 s2 ht hb hgd => ?_⟩
      refine ⟨t, _, rfl, SqT.of ht, rfl, _, _, rfl, _, _, rfl, rfl, ?_⟩
      have hF2 := s2 _ _ hF
      have hz2 : ∀ z ∈ zs, SpIs H2 qs g z := fun z hz' => (hz z hz').keep fun _ _ e => s2 _ _ e
      have htk : qs.take (i + 1) = qs.take i ++ [q] := take_succ_of hq
      dsimp only
      refine ifAnd (fun _ q' => ⟨_, rfl, b, _, rfl, .inr (SqT.of hb), _, _, rfl, rfl, _, rfl, q'⟩) (fun _ _ q' => ⟨_, rfl, gd, _, rfl, .inr (SqT.of hgd), _, _, rfl, rfl, _, rfl, q'⟩) (fun h1 h2 => ?_) fun h12 => ?_
      · have hsp : sp q g = true := by rw [← sp_lenB, Bool.and_eq_true]; exact ⟨h1, h2⟩
        refine ⟨_, rfl, .inl ⟨rfl, _, SqL.of hF2⟩, _, rfl, _, rfl, _, rfl, (by show 3 ≤ sizeLine; decide), fun tt ntt => ?_⟩
        have hzl : zs.length ≤ 100 := by
          have e1 : zs.length = ((qs.take i).filter fun q => sp q g).length := by rw [← hzq, List.length_map]
          have e2 := List.length_filter_le (fun q => sp q g) (qs.take i)
          rw [List.length_take] at e2
          omega
        refine ⟨F, _, .ref tt, rfl, rfl, upd_some hF2 ntt, small1000 (by rw [List.length_map]; omega), ?_⟩
        have kT : ∀ {o : HO} b' xs, (upd H2 tt (.tup [.int (i : Int), .ref b, .ref gd])) b' = some (.tup xs) → (upd (upd H2 tt (.tup [.int (i : Int), .ref b, .ref gd])) F o) b' = some (.tup xs) := fun {o} b' xs e => by
          rw [upd_ne (fun z => ?_)]
          · exact e
          · rw [z, upd_some hF2 ntt] at e; cases e
        refine ⟨_, _, _, zs ++ [(.ref tt, i, q)], rfl, ?_, ?_, ?_, fun z hz' => ?_⟩
        · exact Same.over ((s1.trans s2).trans (Same.new ntt)) nF
        · rw [List.map_append]; exact upd_same
        · rw [htk, List.filter_append, List.map_append, hzq]
          simp [hsp]
        · rcases List.mem_append.mp hz' with hz' | hz'
          · exact (hz2 z hz').keep fun b' xs e => kT b' xs (upd_some e ntt)
          · rw [List.mem_singleton] at hz'
            subst hz'
            exact ⟨hq, tt, b, gd, rfl, kT _ _ upd_same, kT _ _ (upd_some hb ntt), kT _ _ (upd_some hgd ntt)⟩
      · have hsp : sp q g = false := by rw [← sp_lenB]; exact h12
        refine ⟨_, _, _, zs, rfl, s1.trans s2, hF2, ?_, hz2⟩
        rw [htk, List.filter_append, hzq]
        simp [hsp]
    · rintro σ H1 ⟨x3, x4, x5, zs, rfl, s1, hF, hzq, hz⟩
      refine ⟨_, rfl, k F zs H1 nF s1 ?_ hz hF⟩
      rw [hzq, List.take_of_length_le (by omega)]
/-! ### the best of a group -/
def spBes (C : Addr) (L : Nat) : Sp := fun vs H Q _ => ∃ (s R D ga : Addr) (n : Nat) (qs : List (Nat → Bool)) (g : List Nat), vs = [.ref s, .ref ga] ∧ PlAt C s R D n qs H ∧ H ga = some (.tup (encN g)) ∧ g ∈ subs (List.range n) ∧ n ≤ 7 ∧ qs.length ≤ 100 ∧ g.length < L ∧
  ∀ t b H', PlAt C s R D n qs H' → Keep [D] H H' → H' t = some (.tup [.int (fw qs g : Nat), b]) → Q (.ref t) H'
theorem ok_bes (T : Tx K mg a d C) : ∀ L, FnOk P w K mg base CX0 (2 + L) (a 5) (d 5) ["self", "group"] (spBes C L)
  | 0 => by
    refine (T.bes.F.ok sc_bes (sp := spBes C 0) (k := 1) (fun vs H Q E h => ?_) (fun cdv A outer s H vs Q E hr h => ?_))
    · obtain ⟨s, R, D, ga, n, qs, g, rfl, _⟩ := h
      rfl
    · obtain ⟨s, R, D, ga, n, qs, g, rfl, pl, hga, hg, hn, hql, hgl, k⟩ := h
      exact absurd hgl (Nat.not_lt_zero _)
  | L + 1 => by
    have G_bes : FnOk P w K mg base CX0 (2 + L) _ _ _ (spBes C L) := ok_bes T L
    have G_spl : FnOk P w K mg base CX0 2 _ _ _ (spSpl C) := ok_spl T
    refine T.bes.F.ok sc_bes (fun vs H Q E h => ?_) (fun cdv A outer s H vs Q E hr h => ?_)
    · obtain ⟨s, R, D, ga, n, qs, g, rfl, _⟩ := h
      rfl
    · obtain ⟨s, R, D, ga, n, qs, g, rfl, pl, hga, hg, hn, hql, hgl, k⟩ := h
      have nd := sc_bes.nd
      have hu := hu_of hr
      have hr_bes : Room (2 + L) _ := hr
      have hr_spl : Room 2 _ := hr.mono (Nat.le_add_right 2 L)
      refine ⟨_, (pss_cons (ps_if (pt_cmp (pc_dnotin hu (pv 1) (pe_fldK K rfl (pv 0) rfl))) (pss_cons (ps_set (i := 2) nd rfl (by first | exact Or.inl rfl | exact Or.inr rfl) (pe_tup (pa_cons pe_int (pa_cons pe_non pa_nil))))
      (pss_cons (ps_if (pt_cmpR op_gt (pe_callB (call_lenK K rfl) (by rfl) T.len (by decide +kernel) (pa_cons (pv 1) pa_nil)) pe_int (nomark _)) (pss_one (ps_for PassesOwn.never rfl (pi_listK K rfl (pe_meth (pv 0) T.cl T.spl.mt G_spl hr_spl T.spl.b .nil pass0 (pa_cons (pv 1) pa_nil))) (pg_tupK K rfl (by rfl) (pgs_cons (pg_name (i := 3) nd rfl (by first | exact Or.inl rfl | exact Or.inr rfl)) (pgs_cons (pg_name (i := 4) nd rfl (by first | exact Or.inl rfl | exact Or.inr rfl)) (pgs_cons (pg_name (i := 5) nd rfl (by first | exact Or.inl rfl | exact Or.inr rfl)) pgs_nil)))) (pss_cons (ps_set (i := 6) nd rfl (by first | exact Or.inl rfl | exact Or.inr rfl) (pe_op op_add pe_int (pe_callB (call_max2 rfl) (by rfl) T.max (by decide +kernel) (pa_cons (pe_ix (ix_tupK K rfl) (pe_meth (pv 0) T.cl T.bes.mt G_bes hr_bes T.bes.b .nil pass0 (pa_cons (pv 4) pa_nil)) pe_int (fun _ _ => rfl)) (pa_cons (pe_ix (ix_tupK K rfl) (pe_meth (pv 0) T.cl T.bes.mt G_bes hr_bes T.bes.b .nil pass0 (pa_cons (pv 5) pa_nil)) pe_int (fun _ _ => rfl)) pa_nil)))))
      (pss_one (ps_if (PW.pt (pw_or (pt_cmpR op_isN (pe_ix (ix_tupK K rfl) (pv 2) pe_int (fun _ _ => rfl)) pe_non (nomark _)) (pw_or1 (pt_cmpR op_lt (pv 6) (pe_ix (ix_tupK K rfl) (pv 2) pe_int (fun _ _ => rfl)) (nomark _))))) (pss_one (ps_set (i := 2) nd rfl (by first | exact Or.inl rfl | exact Or.inr rfl) (pe_tup (pa_cons (pv 6) (pa_cons (pv 3) pa_nil))))) pss_nil))))) pss_nil)
      (pss_one (ps_dput hu (pe_fldK K rfl (pv 0) rfl) (pv 1) (pv 2)  rfl)))) pss_nil)
      (pss_one (ps_ret (pe_dget hu (pe_fldK K rfl (pv 0) rfl) (pv 1) (fun _ _ => rfl))))), ?_⟩
      obtain ⟨dx, hs⟩ := pl.at_
      obtain ⟨kvs, hD, kn⟩ := pl.known
      have hgk : (kN g).map kV = encN g := kN_kV g
      -- what is told in the end
      have fin : ∀ (x2 x3 x4 x5 x6 : Option V) (H1 : Hp) (kvs1 : List (List Key × V)) (v : V), PlAt C s R D n qs H1 → Keep [D] H H1 → H1 D = some (.dT kvs1) → KnOk n qs H1 kvs1 → valV kvs1 (kN g) = some v →
          tRet (tDGet (tFld K (tVar 0) "known") (tVar 1)) { nx := fun x H' => Q V.non H', rt := Q } [some (.ref s), some (.ref ga), x2, x3, x4, x5, x6] H1 := by
        intro x2 x3 x4 x5 x6 H1 kvs1 v pl1 kp1 hD1 kn1 hv
        obtain ⟨dx1, hs1⟩ := pl1.at_
        obtain ⟨g', _, e1, t, b, e2, ht⟩ := kn1.ent _ (valV_mem hv)
        have e1 := kN_inj e1
        subst e1
        have e2 : v = .ref t := e2
        subst e2
        exact ⟨_, rfl, s, C, dx1, _, _, rfl, hs1, T.cl, T.nK, rfl, _, rfl, D, _, rfl, hv ▸ DGet.t hD1 (by rw [hgk]; exact pl.keepT kp1 hga), k t b H1 pl1 kp1 ht⟩
      refine ⟨_, rfl, _, rfl, s, C, dx, _, _, rfl, hs, T.cl, T.nK, rfl, D, _, rfl, DGet.t hD (by rw [hgk]; exact hga), ?_⟩
      cases hv : valV kvs (kN g) with
      | some v =>
        exact ⟨_, rfl, iteF (fin none none none none none H kvs v pl Keep.refl hD kn hv)⟩
      | none =>
        refine ⟨_, rfl, iteT ?_⟩
        refine ⟨(by show 2 ≤ sizeLine; decide), fun f0 nf0 => ?_⟩
        have hf0 : (upd H f0 (.tup [.int 0, .non])) f0 = some (.tup [.int ((none : Option Nat).getD 0 : Nat), .non]) := upd_same
        have s1 : Same H (upd H f0 (.tup [.int 0, .non])) := Same.new nf0
        have pl1 := pl.same s1
        generalize upd H f0 (.tup [.int 0, .non]) = H1 at hf0 s1 pl1 ⊢
        have hlen : ∀ k ∈ g, k < n := fun k hk => List.mem_range.mp (subs_mem hg k hk)
        have hgl7 : g.length ≤ 7 := by
          have := subs_le hg
          rw [List.length_range] at this
          omega
        -- what is stored
        have stored : ∀ (f : Addr) (x3 x4 x5 x6 : Option V) (H2 : Hp) (b : V), PlAt C s R D n qs H2 → Keep [D] H H2 → H2 f = some (.tup [.int (fw qs g : Nat), b]) →
            sDPut (tFld K (tVar 0) "known") (tVar 1) (tVar 2) { nx := tRet (tDGet (tFld K (tVar 0) "known") (tVar 1)) { nx := fun x H' => Q V.non H', rt := Q }, rt := Q } [some (.ref s), some (.ref ga), some (.ref f), x3, x4, x5, x6] H2 := by
          intro f x3 x4 x5 x6 H2 b pl2 kp2 hf
          obtain ⟨dx2, hs2⟩ := pl2.at_
          obtain ⟨kvs2, hD2, kn2⟩ := pl2.known
          have hga2 := pl.keepT kp2 hga
          refine ⟨_, rfl, _, rfl, s, C, dx2, _, _, rfl, hs2, T.cl, T.nK, rfl, _, rfl, D, _, rfl, DPut.t hD2 (by rw [hgk]; exact hga2) (small1000 (by have := kn2.len hn; omega)), ?_⟩
          cases hv2 : valV kvs2 (kN g) with
          | none =>
            have kn3 := kn2.store hg hf hv2
            exact fin _ _ _ _ _ _ _ (.ref f) (pl2.put kn3) (kp2.trans (Keep.put (by simp))) upd_same (kn3.keep fun b' xs e => pl2.keepT (Keep.put (by simp)) e) (by rw [valV_put, if_pos rfl])
          | some v2 =>
            have kn3 : KnOk n qs H2 (putK kvs2 (kN g) (.ref f)) := by
              have ha : (kvs2.any fun kv => decide (kv.1 = kN g)) = true := by rw [valV_any, hv2]; rfl
              unfold putK
              rw [if_pos ha]
              refine ⟨?_, fun e he => ?_⟩
              · have : (kvs2.map fun kv => if kv.1 = kN g then (kv.1, V.ref f) else kv).map (·.1) = kvs2.map (·.1) := by
                  rw [List.map_map]
                  refine List.map_congr_left fun e _ => ?_
                  show (if e.1 = kN g then (e.1, V.ref f) else e).1 = e.1
                  split <;> rfl
                rw [this]; exact kn2.nd
              · obtain ⟨e', he', rfl⟩ := List.mem_map.mp he
                by_cases hk : e'.1 = kN g
                · rw [if_pos hk]
                  exact ⟨g, hg, hk, f, b, rfl, hf⟩
                · rw [if_neg hk]; exact kn2.ent e' he'
            exact fin _ _ _ _ _ _ _ (.ref f) (pl2.put kn3) (kp2.trans (Keep.put (by simp))) upd_same (kn3.keep fun b' xs e => pl2.keepT (Keep.put (by simp)) e) (by rw [valV_put, if_pos rfl])
        refine ⟨_, rfl, ga, _, rfl, .inr (SqT.of (s1 _ _ hga)), _, _, rfl, rfl, _, rfl, iteD (fun hgt => ?_) fun hle => ?_⟩
        · -- over the divisions
          obtain ⟨dx1, hs1⟩ := pl1.at_
          refine ⟨_, rfl, s, _, _, rfl, hs1, rfl, _, rfl, s, R, D, ga, n, qs, g, rfl, pl1, s1 _ _ hga, hlen, by omega, hql, fun F zs H2 nF s2 hzq hz hF => ?_⟩
          have pl2 := pl1.same s2
          refine ⟨F, rfl, ⟨_, SqL.of hF⟩, for_list (K := K) (a := F) (xs := zs.map (·.1)) (fun i σ H' => ∃ (f : Addr) (x3 x4 x5 x6 : Option V) (b : V), σ = [some (.ref s), some (.ref ga), some (.ref f), x3, x4, x5, x6] ∧ PlAt C s R D n qs H' ∧ Keep [D] H2 H' ∧
              H' f = some (.tup [.int (((((zs.map (·.2.2)).take i).map fun p => 1 + max (fw qs (g.filter p)) (fw qs (g.filter fun x => !p x))).foldl lo none).getD 0 : Nat), b]) ∧ (b = .non ↔ ((((zs.map (·.2.2)).take i).map fun p => 1 + max (fw qs (g.filter p)) (fw qs (g.filter fun x => !p x))).foldl lo none) = none))
            ⟨f0, none, none, none, none, .non, rfl, pl2, Keep.refl, s2 _ _ hf0, by simp⟩ ?_ ?_ ?_⟩
          · rintro i σ H' _ ⟨f, x3, x4, x5, x6, b, rfl, pl', kp', hf, hb⟩
            exact SqL.of (pl2.keepL kp' hF)
          · rintro i v σ H3 hi ⟨f, x3, x4, x5, x6, b, rfl, pl3, kp3, hf, hb⟩
            obtain ⟨z, hzi, rfl, _⟩ := zip_at hi
            have mz := List.mem_of_getElem? hzi
            obtain ⟨hq, t, b1, gd, e1, ht, hb1, hgd⟩ := (hz z mz).keep fun b' xs e => pl2.keepT kp3 e
            rw [e1]
            have hsp : sp z.2.2 g = true := by
              have : z.2.2 ∈ zs.map (·.2.2) := List.mem_map.mpr ⟨z, mz, rfl⟩
              rw [hzq] at this
              exact (List.mem_filter.mp this).2
            have hls := sp_lens hsp
            have sub1 : g.filter z.2.2 ∈ subs (List.range n) := subs_filter hg
            have sub2 : (g.filter fun k => !z.2.2 k) ∈ subs (List.range n) := subs_filter hg
            have htk : (zs.map (·.2.2)).take (i + 1) = (zs.map (·.2.2)).take i ++ [z.2.2] := take_succ_of (by rw [List.getElem?_map, hzi]; rfl)
            rw [htk, List.map_append, List.foldl_append]
            generalize ((((zs.map (·.2.2)).take i).map fun p => 1 + max (fw qs (g.filter p)) (fw qs (g.filter fun x => !p x))).foldl lo none) = o at hf hb ⊢
            refine ⟨t, _, rfl, SqT.of ht, rfl, _, _, rfl, _, _, rfl, _, _, rfl, rfl, ?_⟩
            obtain ⟨dx3, hs3⟩ := pl3.at_
            refine ⟨_, rfl, s, _, _, rfl, hs3, rfl, _, rfl, s, R, D, b1, n, qs, _, rfl, pl3, hb1, sub1, hn, hql, by omega, fun t1 c1 H4 pl4 kp4 ht1 => ?_⟩
            obtain ⟨dx4, hs4⟩ := pl4.at_
            refine ⟨t1, _, 0, _, rfl, rfl, SqT.of ht1, atI_nat (j := 0) rfl, _, rfl, s, _, _, rfl, hs4, rfl, _, rfl, s, R, D, gd, n, qs, _, rfl, pl4, pl3.keepT kp4 hgd, sub2, hn, hql, by omega, fun t2 c2 H5 pl5 kp5 ht2 => ?_⟩
            refine ⟨t2, _, 0, _, rfl, rfl, SqT.of ht2, atI_nat (j := 0) rfl, _, _, rfl, _, _, rfl, rfl, ?_⟩
            have kp35 := kp4.trans kp5
            have hf5 := pl3.keepT kp35 hf
            have hcnt : (1 + (if ((fw qs (g.filter fun k => !z.2.2 k) : Nat) : Int) > ((fw qs (g.filter z.2.2) : Nat) : Int) then ((fw qs (g.filter fun k => !z.2.2 k) : Nat) : Int) else ((fw qs (g.filter z.2.2) : Nat) : Int))) = ((1 + max (fw qs (g.filter z.2.2)) (fw qs (g.filter fun k => !z.2.2 k)) : Nat) : Int) := by
              split <;> omega
            dsimp only [gName]
            rw [hcnt]
            simp only [List.map_cons, List.map_nil, List.foldl_cons, List.foldl_nil]
            generalize 1 + max (fw qs (g.filter z.2.2)) (fw qs (g.filter fun k => !z.2.2 k)) = cc
            refine ifOr (fun _ q => ⟨_, rfl, f, _, 1, _, rfl, rfl, SqT.of hf5, atI_nat (j := 1) rfl, rfl, _, rfl, q⟩) (fun _ _ q => ⟨_, rfl, _, rfl, f, _, 0, _, rfl, rfl, SqT.of hf5, atI_nat (j := 0) rfl, _, _, rfl, rfl, _, rfl, q⟩) (fun h12 => ?_) fun h1 h2 => ?_
            · have hlo : lo o cc = some cc := by
                cases o with
                | none => rfl
                | some m =>
                  have hbn : ¬ b = .non := fun z => by have := hb.mp z; cases this
                  rw [decide_eq_false hbn, Bool.false_or] at h12
                  have h3 : (cc : Int) < ((m : Nat) : Int) := of_decide_eq_true h12
                  show (if cc < m then some cc else some m) = some cc
                  rw [if_pos (by omega)]
              refine ⟨_, rfl, _, rfl, (by show 2 ≤ sizeLine; decide), fun f' nf' => ?_⟩
              have s6 : Same H5 (upd H5 f' (.tup [.int (cc : Int), .int (z.2.1 : Int)])) := Same.new nf'
              refine ⟨f', _, _, _, _, .int (z.2.1 : Int), rfl, pl5.same s6, (kp3.trans kp35).trans (Keep.of s6), ?_, ?_⟩
              · rw [hlo]; exact upd_same
              · rw [hlo]; simp
            · have hlo : lo o cc = o := by
                cases o with
                | none => exact absurd (hb.mpr rfl) (of_decide_eq_false h1)
                | some m =>
                  have h3 : ¬ (cc : Int) < ((m : Nat) : Int) := of_decide_eq_false h2
                  show (if cc < m then some cc else some m) = some m
                  rw [if_neg (by omega)]
              refine ⟨f, _, _, _, _, b, rfl, pl5, kp3.trans kp35, ?_, ?_⟩
              · rw [hlo]; exact hf5
              · rw [hlo]; exact hb
          · rintro σ H3 ⟨f, x3, x4, x5, x6, b, rfl, pl3, kp3, hf, hb⟩
            refine stored f _ _ _ _ H3 b pl3 ((Keep.of (s1.trans s2)).trans kp3) ?_
            rw [fw_eq]
            unfold cs
            rw [← hzq]
            rw [List.take_of_length_le (by rw [List.length_map, List.length_map]; exact Nat.le_refl _)] at hf
            exact hf
        · refine stored f0 _ _ _ _ H1 .non pl1 (Keep.of s1) ?_
          have : fw qs g = 0 := fw_small qs (by
            have h2 : ¬ ((1 : Int) < ((encN g).length : Nat)) := fun z => hle z
            rw [encN_len] at h2
            omega)
          rw [this]; exact hf0
end
end Qw
namespace Qw
open PySem L2
/-! ### the search of a shield, in plain words -/
section
variable {n : Nat} {qs : List (Nat → Bool)} {fs ws : List (List Nat)} {g : List Nat}
def Side (qs : List (Nat → Bool)) (G : List (List Nat)) (g : List Nat) (p : Nat → Bool) : Prop :=
  (fw qs (g.filter fun x => !p x) ≤ fw qs (g.filter p) ∧ (0 < fw qs (g.filter p) → g.filter p ∈ G)) ∨ (fw qs (g.filter p) < fw qs (g.filter fun x => !p x) ∧ (g.filter fun x => !p x) ∈ G)
/-- the harder side -/
def hard (qs : List (Nat → Bool)) (g : List Nat) (p : Nat → Bool) : List Nat := if fw qs (g.filter fun x => !p x) ≤ fw qs (g.filter p) then g.filter p else g.filter fun x => !p x
theorem Side.mono {G G' : List (List Nat)} {p : Nat → Bool} (h : Side qs G g p) (k : ∀ x ∈ G, 0 < fw qs x → x ∈ G') : Side qs G' g p := by
  rcases h with ⟨h1, h2⟩ | ⟨h1, h2⟩
  · exact .inl ⟨h1, fun z => k _ (h2 z) z⟩
  · exact .inr ⟨h1, k _ h2 (by omega)⟩
theorem Side.hard {G : List (List Nat)} {p : Nat → Bool} (h : hard qs g p ∈ G) : Side qs G g p := by
  unfold Qw.hard at h
  by_cases hc : fw qs (g.filter fun x => !p x) ≤ fw qs (g.filter p)
  · rw [if_pos hc] at h; exact .inl ⟨hc, fun _ => h⟩
  · rw [if_neg hc] at h; exact .inr ⟨by omega, h⟩
structure ShI (n : Nat) (qs : List (Nat → Bool)) (fs ws : List (List Nat)) : Prop where
  sf : ∀ g ∈ fs, g ∈ subs (List.range n)
  sw : ∀ g ∈ ws, g ∈ subs (List.range n)
  nd : fs.Nodup
  pos : ∀ g ∈ fs, 0 < fw qs g
  hb : ∀ g ∈ fs, ∀ p ∈ qs, sp p g = true → Side qs (fs ++ ws) g p
  hd : (fs = [] ∧ ws = [List.range n]) ∨ (fw qs (List.range n) = 0 ∧ fs = [] ∧ ws = []) ∨ (0 < fw qs (List.range n) ∧ fs.head? = some (List.range n))
  ms : 13 * left (subs (List.range n)) fs + ws.length ≤ 13 * (subs (List.range n)).length + 1
theorem ShI.start (qs : List (Nat → Bool)) (n : Nat) : ShI n qs [] [List.range n] :=
  ⟨by simp, fun g hg => by rw [List.mem_singleton] at hg; subst hg; exact subs_self _, List.nodup_nil, by simp, by simp, .inl ⟨rfl, rfl⟩, by
    have := left_le (subs (List.range n)) []
    simp only [List.length_cons, List.length_nil]
    omega⟩
theorem ShI.drop (h : ShI n qs fs (g :: ws)) (c : g ∈ fs ∨ fw qs g = 0) : ShI n qs fs ws := by
  refine ⟨h.sf, fun x hx => h.sw x (List.mem_cons_of_mem _ hx), h.nd, h.pos, fun x hx p hp hs => (h.hb x hx p hp hs).mono fun y hy hy0 => ?_, ?_, by have := h.ms; simp only [List.length_cons] at this; omega⟩
  · rcases List.mem_append.mp hy with hy | hy
    · exact List.mem_append.mpr (.inl hy)
    · rcases List.mem_cons.mp hy with rfl | hy
      · rcases c with c | c
        · exact List.mem_append.mpr (.inl c)
        · omega
      · exact List.mem_append.mpr (.inr hy)
  · rcases h.hd with ⟨h1, h2⟩ | ⟨_, _, h3⟩ | h1
    · injection h2 with h2 h3
      subst h1 h2 h3
      rcases c with c | c
      · simp at c
      · exact .inr (.inl ⟨c, rfl, rfl⟩)
    · cases h3
    · exact .inr (.inr h1)
theorem ShI.add (h : ShI n qs fs (g :: ws)) (hg : g ∉ fs) (h0 : 0 < fw qs g) (hq : qs.length ≤ 12) :
    ShI n qs (fs ++ [g]) (ws ++ (qs.filter fun p => sp p g).map (hard qs g)) ∧ 13 * left (subs (List.range n)) (fs ++ [g]) + (ws ++ (qs.filter fun p => sp p g).map (hard qs g)).length < 13 * left (subs (List.range n)) fs + (g :: ws).length := by
  have hgs := h.sw g List.mem_cons_self
  have hl := left_add hgs hg
  have hfl := List.length_filter_le (fun p => sp p g) qs
  have hm : 13 * left (subs (List.range n)) (fs ++ [g]) + (ws ++ (qs.filter fun p => sp p g).map (hard qs g)).length < 13 * left (subs (List.range n)) fs + (g :: ws).length := by
    simp only [List.length_append, List.length_map, List.length_cons]
    omega
  refine ⟨⟨fun x hx => ?_, fun x hx => ?_, ?_, fun x hx => ?_, fun x hx p hp hs => ?_, ?_, by have := h.ms; omega⟩, hm⟩
  · rcases List.mem_append.mp hx with hx | hx
    · exact h.sf x hx
    · rw [List.mem_singleton] at hx; subst hx; exact hgs
  · rcases List.mem_append.mp hx with hx | hx
    · exact h.sw x (List.mem_cons_of_mem _ hx)
    · obtain ⟨p, _, rfl⟩ := List.mem_map.mp hx
      unfold hard
      split <;> exact subs_filter hgs
  · rw [List.nodup_append]
    refine ⟨h.nd, by simp, fun x hx y hy e => ?_⟩
    rw [List.mem_singleton] at hy
    subst hy e
    exact hg hx
  · rcases List.mem_append.mp hx with hx | hx
    · exact h.pos x hx
    · rw [List.mem_singleton] at hx; subst hx; exact h0
  · rcases List.mem_append.mp hx with hx | hx
    · refine (h.hb x hx p hp hs).mono fun y hy _ => ?_
      rcases List.mem_append.mp hy with hy | hy
      · exact List.mem_append.mpr (.inl (List.mem_append.mpr (.inl hy)))
      · rcases List.mem_cons.mp hy with rfl | hy
        · exact List.mem_append.mpr (.inl (List.mem_append.mpr (.inr (by simp))))
        · exact List.mem_append.mpr (.inr (List.mem_append.mpr (.inl hy)))
    · rw [List.mem_singleton] at hx
      subst hx
      refine Side.hard (List.mem_append.mpr (.inr (List.mem_append.mpr (.inr ?_))))
      exact List.mem_map.mpr ⟨p, List.mem_filter.mpr ⟨hp, hs⟩, rfl⟩
  · rcases h.hd with ⟨h1, h2⟩ | ⟨_, _, h3⟩ | ⟨h1, h2⟩
    · injection h2 with h2 h3
      subst h1 h2 h3
      exact .inr (.inr ⟨h0, rfl⟩)
    · cases h3
    · refine .inr (.inr ⟨h1, ?_⟩)
      cases fs with
      | nil => cases h2
      | cons x fs => exact h2
/-- what the search ends with -/
structure ShEnd (n : Nat) (qs : List (Nat → Bool)) (fs : List (List Nat)) : Prop where
  sf : ∀ g ∈ fs, g ∈ subs (List.range n)
  nd : fs.Nodup
  pos : ∀ g ∈ fs, 0 < fw qs g
  hb : ∀ g ∈ fs, ∀ p ∈ qs, sp p g = true → Side qs fs g p
  hd : (fw qs (List.range n) = 0 ∧ fs = []) ∨ (0 < fw qs (List.range n) ∧ fs.head? = some (List.range n))
theorem ShI.done (h : ShI n qs fs []) : ShEnd n qs fs :=
  ⟨h.sf, h.nd, h.pos, fun g hg p hp hs => by have := h.hb g hg p hp hs; rwa [List.append_nil] at this, by
    rcases h.hd with ⟨_, h2⟩ | ⟨h1, h2, _⟩ | h1
    · cases h2
    · exact .inl ⟨h1, h2⟩
    · exact .inr h1⟩
theorem ShEnd.len (h : ShEnd n qs fs) (hn : n ≤ 7) : fs.length ≤ 128 := by
  have h1 := nodup_le fs (subs (List.range n)) h.nd h.sf
  rw [subs_len, List.length_range] at h1
  have : 2 ^ n ≤ 2 ^ 7 := Nat.pow_le_pow_right (by decide) hn
  have h7 : 2 ^ 7 = 128 := rfl
  omega
theorem ShI.len (h : ShI n qs fs ws) (hn : n ≤ 7) : fs.length ≤ 128 ∧ ws.length ≤ 1665 := by
  have h1 := nodup_le fs (subs (List.range n)) h.nd h.sf
  have h2 := h.ms
  rw [subs_len, List.length_range] at h1 h2
  have : 2 ^ n ≤ 2 ^ 7 := Nat.pow_le_pow_right (by decide) hn
  have h7 : 2 ^ 7 = 128 := rfl
  omega
end
/-- found: the groups, each with its fewest tests -/
def kvF (qs : List (Nat → Bool)) (fs : List (List Nat)) : List (List Key × V) := fs.map fun g => (kN g, V.int (fw qs g : Nat))
theorem kvF_none {qs : List (Nat → Bool)} {fs : List (List Nat)} {g : List Nat} : (valV (kvF qs fs) (kN g)).isSome = decide (g ∈ fs) := by
  rw [← valV_any]
  unfold kvF
  rw [List.any_map]
  by_cases h : g ∈ fs
  · rw [decide_eq_true h]
    exact List.any_eq_true.mpr ⟨g, h, decide_eq_true rfl⟩
  · rw [decide_eq_false h]
    rw [List.any_eq_false]
    intro x hx z
    have := kN_inj (of_decide_eq_true z)
    rw [this] at hx
    exact h hx
theorem kvF_some {qs : List (Nat → Bool)} {fs : List (List Nat)} {g : List Nat} (h : g ∈ fs) : valV (kvF qs fs) (kN g) = some (.int (fw qs g : Nat)) := by
  cases e : valV (kvF qs fs) (kN g) with
  | none =>
    have := kvF_none (qs := qs) (fs := fs) (g := g)
    rw [e, decide_eq_true h] at this
    cases this
  | some v =>
    have := valV_mem e
    unfold kvF at this
    obtain ⟨g', _, e2⟩ := List.mem_map.mp this
    injection e2 with e3 e4
    rw [← kN_inj e3, ← e4]
theorem kvF_snoc {qs : List (Nat → Bool)} {fs : List (List Nat)} {g : List Nat} (h : g ∉ fs) : putK (kvF qs fs) (kN g) (V.int (fw qs g : Nat)) = kvF qs (fs ++ [g]) := by
  rw [putK_new]
  · unfold kvF
    rw [List.map_append]; rfl
  · have := kvF_none (qs := qs) (fs := fs) (g := g)
    rw [decide_eq_false h] at this
    cases e : valV (kvF qs fs) (kN g) with
    | none => rfl
    | some v => rw [e] at this; cases this
/-! ### the heap while it searches -/
structure ShH (C s R D FD W : Addr) (n : Nat) (qs : List (Nat → Bool)) (H : Hp) (fs : List (List Nat)) (zw : List (Addr × List Nat)) : Prop where
  pl : PlAt C s R D n qs H
  off : ∃ rvs, H R = some (.lst rvs) ∧ R ≠ W ∧ ∀ r, V.ref r ∈ rvs → r ≠ W
  nFD : FD ≠ D
  hF : H FD = some (.dT (kvF qs fs))
  hW : H W = some (.lst (zw.map fun z => V.ref z.1))
  hz : ∀ z ∈ zw, H z.1 = some (.tup (encN z.2))
section
variable {C s R D FD W : Addr} {n : Nat} {qs : List (Nat → Bool)} {H H' : Hp} {fs : List (List Nat)} {zw : List (Addr × List Nat)}
theorem ShH.keep (h : ShH C s R D FD W n qs H fs zw) (k : Keep [D] H H') (p : PlAt C s R D n qs H') : ShH C s R D FD W n qs H' fs zw :=
  ⟨p, let ⟨rvs, h1, h2, h3⟩ := h.off; ⟨rvs, h.pl.keepL k h1, h2, h3⟩, h.nFD, k _ _ (by simpa using h.nFD) h.hF, h.pl.keepL k h.hW, fun z hz => h.pl.keepT k (h.hz z hz)⟩
theorem ShH.same (h : ShH C s R D FD W n qs H fs zw) (k : Same H H') : ShH C s R D FD W n qs H' fs zw := h.keep (Keep.of k) (h.pl.same k)
/-- waiting is changed -/
theorem ShH.updW (h : ShH C s R D FD W n qs H fs zw) (zw' : List (Addr × List Nat)) (hz : ∀ z ∈ zw', H z.1 = some (.tup (encN z.2))) : ShH C s R D FD W n qs (upd H W (.lst (zw'.map fun z => V.ref z.1))) fs zw' := by
  have kT : ∀ b xs, H b = some (.tup xs) → (upd H W (.lst (zw'.map fun z => V.ref z.1))) b = some (.tup xs) := fun b xs e => by
    rw [upd_ne (fun z => by rw [z, h.hW] at e; cases e)]; exact e
  obtain ⟨⟨dx, h1⟩, ⟨rvs, h2, h3, h4⟩, ⟨kvs, h5, h6⟩⟩ := h.pl
  obtain ⟨rvs', g1, g2, g3⟩ := h.off
  rw [h2] at g1
  cases g1
  refine ⟨⟨⟨dx, ?_⟩, ⟨rvs, ?_, h3, fun i q e => ?_⟩, ⟨kvs, ?_, h6.keep kT⟩⟩, ⟨rvs, ?_, g2, g3⟩, h.nFD, ?_, upd_same, fun z hz' => kT _ _ (hz z hz')⟩
  · rw [upd_ne (fun z => by rw [z, h.hW] at h1; cases h1)]; exact h1
  · rw [upd_ne g2]; exact h2
  · obtain ⟨r, e1, e2⟩ := h4 i q e
    refine ⟨r, e1, ?_⟩
    rw [upd_ne (g3 r (List.mem_of_getElem? e1))]; exact e2
  · rw [upd_ne (fun z => by rw [z, h.hW] at h5; cases h5)]; exact h5
  · rw [upd_ne g2]; exact h2
  · rw [upd_ne (fun z => by have e := h.hF; rw [z, h.hW] at e; cases e)]; exact h.hF
/-- found is written -/
theorem ShH.updF (h : ShH C s R D FD W n qs H fs zw) (fs' : List (List Nat)) : ShH C s R D FD W n qs (upd H FD (.dT (kvF qs fs'))) fs' zw := by
  have kT : ∀ b xs, H b = some (.tup xs) → (upd H FD (.dT (kvF qs fs'))) b = some (.tup xs) := fun b xs e => by
    rw [upd_ne (fun z => by rw [z, h.hF] at e; cases e)]; exact e
  have kL : ∀ b xs, H b = some (.lst xs) → (upd H FD (.dT (kvF qs fs'))) b = some (.lst xs) := fun b xs e => by
    rw [upd_ne (fun z => by rw [z, h.hF] at e; cases e)]; exact e
  obtain ⟨⟨dx, h1⟩, ⟨rvs, h2, h3, h4⟩, ⟨kvs, h5, h6⟩⟩ := h.pl
  obtain ⟨rvs', g1, g2, g3⟩ := h.off
  refine ⟨⟨⟨dx, ?_⟩, ⟨rvs, kL _ _ h2, h3, fun i q e => ?_⟩, ⟨kvs, ?_, h6.keep kT⟩⟩, ⟨rvs', kL _ _ g1, g2, g3⟩, h.nFD, upd_same, kL _ _ h.hW, fun z hz' => kT _ _ (h.hz z hz')⟩
  · rw [upd_ne (fun z => by rw [z, h.hF] at h1; cases h1)]; exact h1
  · obtain ⟨r, e1, e2⟩ := h4 i q e
    exact ⟨r, e1, kL _ _ e2⟩
  · rw [upd_ne h.nFD.symm]; exact h5
end
end Qw
namespace Qw
open PySem L2
/-- the rows of a shield, of groups by number -/
def rowsOf (cs : List (List Id)) (qs : List (Nat → Bool)) (fs : List (List Nat)) : List (List (List Id) × Int) := fs.map fun g => (g.map fun k => cs.getD k [], (fw qs g : Int))
theorem Same.thenKeep {H0 H H' : Hp} {D : Addr} (a : Same H0 H) (k : Keep [D] H H') (z : H0 D = none) : Same H0 H' := fun b o e => k b o (by simpa using ne_of_none e z) (a b o e)
section
variable {P : Program} {w : World} {K : PySem.W.Frag} {mg : Str → Option Value} {base : Heap} {a : Nat → Addr} {d : Nat → FuncData} {C : Addr}
def spShi : Sp := fun vs H Q _ => ∃ (X : List Addr) (l : Lab) (cs ts : List (List Id)) (x y : V), vs = [x, y] ∧ Dom X H ∧ Da X H x (encG l cs) ∧ Da X H y (encG l ts) ∧ cs.length ≤ 7 ∧ (∀ c ∈ cs, c.length ≤ 100) ∧ ts.length ≤ 12 ∧
  ∀ q fs H', ShEnd cs.length (qsOf cs ts) fs → Same H H' → Da X H' q (encRs l (rowsOf cs (qsOf cs ts) fs)) → Q q H'
theorem ok_shi (T : Tx K mg a d C) : FnOk P w K mg base CX0 11 (a 6) (d 6) ["causes", "tests"] spShi := by
  have G_pin : FnOk P w K mg base CX0 3 _ _ _ (spPin C) := ok_pin T
  have G_bes : FnOk P w K mg base CX0 10 _ _ _ (spBes C 8) := ok_bes T 8
  have G_spl : FnOk P w K mg base CX0 2 _ _ _ (spSpl C) := ok_spl T
  refine T.shi.F.ok sc_shi (fun vs H Q E h => ?_) (fun cdv A outer s H vs Q E hr h => ?_)
  · obtain ⟨X, l, cs, ts, x, y, rfl, _⟩ := h
    rfl
  · obtain ⟨X, l, cs, ts, x, y, rfl, dom, dcs, dts, hc7, hcl, ht12, k⟩ := h
    have nd := sc_shi.nd
    have hu := hu_of hr
    have hr_pin : Room 4 _ := hr.mono (by decide)
    have hr_bes : Room 10 _ := hr
    have hr_spl : Room 2 _ := hr.mono (by decide)
    refine ⟨_, (pss_cons (ps_set (i := 2) nd rfl (by first | exact Or.inl rfl | exact Or.inr rfl) (pe_make T.pin.mak G_pin hr_pin (by rfl) T.mgC T.pin.b .nil pass0 (pa_cons (pv 0) (pa_cons (pv 1) pa_nil))))
      (pss_cons (ps_set (i := 3) nd rfl (by first | exact Or.inl rfl | exact Or.inr rfl) (pe_tupRg rfl (by rfl) T.tuple (prg_1 (by rfl) T.range (pe_callB (call_lenK K rfl) (by rfl) T.len (by decide +kernel) (pa_cons (pv 0) pa_nil)))))
      (pss_cons (ps_set (i := 4) nd rfl (by first | exact Or.inl rfl | exact Or.inr rfl) pe_dnewT)
      (pss_cons (ps_set (i := 5) nd rfl (by first | exact Or.inl rfl | exact Or.inr rfl) (pe_lst (pa_cons (pv 3) pa_nil)))
      (pss_cons (ps_while PassesOwn.never (pt_cmpR op_gt (pe_callB (call_lenK K rfl) (by rfl) T.len (by decide +kernel) (pa_cons (pv 5) pa_nil)) pe_int (nomark _)) (pss_cons (ps_set (i := 6) nd rfl (by first | exact Or.inl rfl | exact Or.inr rfl) (pe_bm PySem.F.plainAttrs_list PySem.F.slot_list_pop PySem.F.type_list_pop mt_popAt (pv 5) (pa_cons pe_int pa_nil)))
      (pss_cons (ps_set (i := 7) nd rfl (by first | exact Or.inl rfl | exact Or.inr rfl) (pe_ix (ix_tupK K rfl) (pe_meth (pv 2) T.cl T.bes.mt G_bes hr_bes T.bes.b .nil pass0 (pa_cons (pv 6) pa_nil)) pe_int (fun _ _ => rfl)))
      (pss_one (ps_if (PW.pt (pw_and (pt_cmp (pc_dnotin hu (pv 6) (pv 4))) (pw_and1 (pt_cmpR op_gt (pv 7) pe_int (nomark _))))) (pss_cons (ps_dput hu (pv 4) (pv 6) (pv 7)  rfl)
      (pss_one (ps_for PassesOwn.never rfl (pi_listK K rfl (pe_meth (pv 2) T.cl T.spl.mt G_spl hr_spl T.spl.b .nil pass0 (pa_cons (pv 6) pa_nil))) (pg_tupK K rfl (by rfl) (pgs_cons (pg_name (i := 8) nd rfl (by first | exact Or.inl rfl | exact Or.inr rfl)) (pgs_cons (pg_name (i := 9) nd rfl (by first | exact Or.inl rfl | exact Or.inr rfl)) (pgs_cons (pg_name (i := 10) nd rfl (by first | exact Or.inl rfl | exact Or.inr rfl)) pgs_nil)))) (pss_one (ps_expr (pe_bm PySem.F.plainAttrs_list PySem.F.slot_list_append PySem.F.type_list_append mt_append (pv 5) (pa_cons (pe_ifExp (pt_cmpR op_ge (pe_ix (ix_tupK K rfl) (pe_meth (pv 2) T.cl T.bes.mt G_bes hr_bes T.bes.b .nil pass0 (pa_cons (pv 9) pa_nil)) pe_int (fun _ _ => rfl)) (pe_ix (ix_tupK K rfl) (pe_meth (pv 2) T.cl T.bes.mt G_bes hr_bes T.bes.b .nil pass0 (pa_cons (pv 10) pa_nil)) pe_int (fun _ _ => rfl)) (nomark _)) (pv 9) (pv 10)) pa_nil))))))) pss_nil)))))
      (pss_one (ps_ret (pe_lock (pe_lc (own := [("group", 6)]) (g := gName 6) (tt := tYes) (by rfl) nd (pi_keys (pv 4)) (blkOk_by (own := [("group", 6)]) (N := N_shi) (sc := defScope s_shi) (by decide +kernel)) (fun _ _ _ _ _ => (pg_name (i := 6) nd rfl (by first | exact Or.inl rfl | exact Or.inr rfl))) (fun _ _ _ _ _ => pts_nil) (fun _ _ _ _ _ => (pe_tup (pa_cons (pe_lc (own := [("k", 11)]) (g := gName 11) (tt := tYes) (by rfl) nd (pi_tupK K rfl (pv 6)) (blkOk_by (own := [("k", 11)]) (by kernel_rfl)) (fun _ _ _ _ _ => (pg_name (i := 11) nd rfl (by first | exact Or.inl rfl | exact Or.inr rfl))) (fun _ _ _ _ _ => pts_nil) (fun _ _ _ _ _ => (pe_ix (ix_listK K rfl) (pv 0) (pv 11) (fun _ _ => rfl)))) (pa_cons (pe_dget hu (pv 4) (pv 6) (fun _ _ => rfl)) pa_nil))))))))))))), ?_⟩
    obtain ⟨ca, cvs, rfl, nca, hca, rca⟩ := id dcs.getL
    have hlc : cvs.length = cs.length := rca.lenB
    -- the planner
    refine ⟨_, rfl, _, rfl, fun sa dx nsa ndx nsd => ?_⟩
    have sA : Same H (upd (upd H dx (.own sa)) sa (.ins C dx [])) := fun b o e => by rw [upd_ne (ne_of_none e nsa), upd_ne (ne_of_none e ndx)]; exact e
    refine ⟨sa, dx, X, l, cs, ts, _, y, rfl, upd_same, dcs.same sA, dts.same sA, by omega, hcl, by omega, fun R D H1 pl kpA zDA => ⟨rfl, ?_⟩⟩
    have zD : H D = none := sA.free zDA
    have s1 : Same H H1 := Same.thenKeep sA kpA nsa
    generalize hqs : qsOf cs ts = qs at pl k
    have hqsl : qs.length ≤ 12 := by rw [← hqs]; unfold qsOf; rw [List.length_map]; exact ht12
    -- the whole
    refine ⟨_, rfl, ca, _, rfl, .inl (SqL.of (s1 _ _ hca)), _, rfl, RgOk.of_le (by omega) (by omega) (by omega) (by omega), fun wh nwh => ?_⟩
    have hrg : rgV 0 ((cvs.length : Nat) : Int) = encN (List.range cs.length) := by
      unfold rgV encN
      have e : (((cvs.length : Nat) : Int) - 0).toNat = cs.length := by omega
      rw [e]
      exact List.map_congr_left fun i _ => by rw [Int.zero_add]
    rw [hrg]
    have s2 : Same H (upd H1 wh (.tup (encN (List.range cs.length)))) := s1.trans (Same.new nwh)
    have hwh : (upd H1 wh (.tup (encN (List.range cs.length)))) wh = some (.tup (encN (List.range cs.length))) := upd_same
    have pl2 := pl.same (Same.new (o := .tup (encN (List.range cs.length))) nwh)
    generalize upd H1 wh (.tup (encN (List.range cs.length))) = H2 at s2 hwh pl2 ⊢
    refine fun FD nFD => ⟨_, rfl, (by show 1 ≤ sizeLine; decide), fun W nW => ?_⟩
    have s3 : Same H2 (upd (upd H2 FD (.dT [])) W (.lst [.ref wh])) := (Same.new nFD).trans (Same.new nW)
    have nFW : FD ≠ W := fun z => by rw [← z, upd_same] at nW; cases nW
    have nW2 : H2 W = none := by rw [upd_ne nFW.symm] at nW; exact nW
    have zFD : H FD = none := s2.free nFD
    have zW : H W = none := s2.free nW2
    have I0 : ShH C sa R D FD W cs.length qs (upd (upd H2 FD (.dT [])) W (.lst [.ref wh])) [] [(wh, List.range cs.length)] := by
      obtain ⟨rvs, h1, h2, h3⟩ := pl2.rows
      obtain ⟨kvs, h5, _⟩ := pl2.known
      refine ⟨pl2.same s3, ⟨rvs, s3 _ _ h1, ne_of_none h1 nW2, fun r hr' => ?_⟩, (fun z => by rw [z, h5] at nFD; cases nFD), (by rw [upd_ne nFW, upd_same]; rfl), upd_same, fun z hz => ?_⟩
      · obtain ⟨j, hj, e⟩ := List.getElem_of_mem hr'
        obtain ⟨r', e1, e2⟩ := h3 j (qs[j]'(by omega)) (by simp)
        have e3 : rvs[j]? = some (.ref r) := by rw [List.getElem?_eq_getElem hj, e]
        rw [e3] at e1
        injection e1 with e1
        injection e1 with e1
        subst e1
        exact ne_of_none e2 nW2
      · rw [List.mem_singleton] at hz
        subst hz
        exact s3 _ _ hwh
    have dcs3 : Da (FD :: X) (upd (upd H2 FD (.dT [])) W (.lst [.ref wh])) (.ref ca) (encG l cs) := ((dcs.same s2).off nFD).same s3
    have s03 := s2.trans s3
    generalize upd (upd H2 FD (.dT [])) W (.lst [.ref wh]) = H3 at I0 dcs3 s03 ⊢
    clear s3
    -- the search
    refine ⟨fun m σ H' => ∃ (x6 x7 x8 x9 x10 x11 : Option V) (fs : List (List Nat)) (zw : List (Addr × List Nat)), m = 13 * left (subs (List.range cs.length)) fs + zw.length ∧ σ = [some (.ref ca), some y, some (.ref sa), some (.ref wh), some (.ref FD), some (.ref W), x6, x7, x8, x9, x10, x11] ∧
      ShI cs.length qs fs (zw.map fun z : Addr × List Nat => z.2) ∧ ShH C sa R D FD W cs.length qs H' fs zw ∧ Same H H', ⟨_, none, none, none, none, none, none, [], [(wh, List.range cs.length)], rfl, rfl, ShI.start qs cs.length, I0, s03⟩, ?_⟩
    rintro m σ H4 ⟨x6, x7, x8, x9, x10, x11, fs, zw, rfl, rfl, J, I, s4⟩
    have hJl := J.len hc7
    rw [List.length_map] at hJl
    refine ⟨_, rfl, W, _, rfl, .inl (SqL.of I.hW), _, _, rfl, rfl, _, rfl, iteD (fun hgt => ?_) fun hle => ?_⟩
    · obtain ⟨z, zr, rfl⟩ : ∃ z zr, zw = z :: zr := by
        cases zw with
        | nil => exact absurd hgt (by simp)
        | cons z zr => exact ⟨z, zr, rfl⟩
      obtain ⟨ga, g⟩ := z
      have hga : H4 ga = some (.tup (encN g)) := I.hz _ List.mem_cons_self
      have hgs : g ∈ subs (List.range cs.length) := J.sw g List.mem_cons_self
      have hgk : (kN g).map kV = encN g := kN_kV g
      have ngW : ga ≠ W := fun z => by rw [z, I.hW] at hga; cases hga
      refine ⟨fun σ' H' => ∃ m', m' < 13 * left (subs (List.range cs.length)) fs + ((ga, g) :: zr).length ∧ ∃ (x6 x7 x8 x9 x10 x11 : Option V) (fs : List (List Nat)) (zw : List (Addr × List Nat)), m' = 13 * left (subs (List.range cs.length)) fs + zw.length ∧ σ' = [some (.ref ca), some y, some (.ref sa), some (.ref wh), some (.ref FD), some (.ref W), x6, x7, x8, x9, x10, x11] ∧
        ShI cs.length qs fs (zw.map fun z : Addr × List Nat => z.2) ∧ ShH C sa R D FD W cs.length qs H' fs zw ∧ Same H H', fun σ' H' z => z, ?_⟩
      refine ⟨_, rfl, .inl ⟨rfl, _, SqL.of I.hW⟩, W, _, 0, 0, _, rfl, rfl, I.hW, by decide, by decide, ?_, rfl, ?_⟩
      · unfold seqIndex?
        simp
      have I5 := I.updW zr (fun z hz => I.hz z (List.mem_cons_of_mem _ hz))
      have s5 : Same H (upd H4 W (.lst (zr.map fun z => V.ref z.1))) := Same.over s4 zW
      have hga5 : (upd H4 W (.lst (zr.map fun z => V.ref z.1))) ga = some (.tup (encN g)) := by rw [upd_ne ngW]; exact hga
      dsimp only [gName]
      rw [show ((((ga, g) :: zr).map fun z : Addr × List Nat => V.ref z.1).eraseIdx 0) = zr.map fun z : Addr × List Nat => V.ref z.1 from rfl]
      generalize upd H4 W (.lst (zr.map fun z => V.ref z.1)) = H5 at I5 s5 hga5 ⊢
      obtain ⟨dx5, hs5⟩ := I5.pl.at_
      have hgl : g.length ≤ 7 := by
        have := subs_le hgs
        rw [List.length_range] at this
        omega
      refine ⟨_, rfl, sa, _, _, rfl, hs5, rfl, _, rfl, sa, R, D, ga, cs.length, qs, g, rfl, I5.pl, hga5, hgs, hc7, by omega, by omega, fun t b H6 pl6 kp6 ht6 => ?_⟩
      refine ⟨t, _, 0, _, rfl, rfl, SqT.of ht6, atI_nat (j := 0) rfl, ?_⟩
      have I6 := I5.keep kp6 pl6
      have s6 := Same.thenKeep s5 kp6 zD
      have hga6 := I5.pl.keepT kp6 hga5
      dsimp only [gName]
      refine ifAnd (fun _ q => ⟨_, rfl, _, rfl, FD, _, rfl, DGet.t I6.hF (by rw [hgk]; exact hga6), _, rfl, q⟩) (fun _ _ q => ⟨_, rfl, _, _, rfl, rfl, _, rfl, q⟩) (fun h1 h2 => ?_) fun h12 => ?_
      · have hnf : g ∉ fs := fun hm => by
          rw [kvF_none, decide_eq_true hm] at h1
          cases h1
        have h0 : 0 < fw qs g := by
          have : (0 : Int) < ((fw qs g : Nat) : Int) := of_decide_eq_true h2
          omega
        obtain ⟨J', hms⟩ := J.add hnf h0 hqsl
        refine ⟨_, rfl, _, rfl, _, rfl, FD, _, rfl, DPut.t I6.hF (by rw [hgk]; exact hga6) (small1000 (by unfold kvF; rw [List.length_map]; omega)), ?_⟩
        rw [kvF_snoc hnf]
        have I7 := I6.updF (fs ++ [g])
        have s7 : Same H (upd H6 FD (.dT (kvF qs (fs ++ [g])))) := Same.over s6 zFD
        have hga7 : (upd H6 FD (.dT (kvF qs (fs ++ [g])))) ga = some (.tup (encN g)) := by
          rw [upd_ne (fun z => by rw [z, I6.hF] at hga6; cases hga6)]; exact hga6
        generalize upd H6 FD (.dT (kvF qs (fs ++ [g]))) = H7 at I7 s7 hga7 ⊢
        obtain ⟨dx7, hs7⟩ := I7.pl.at_
        refine ⟨_, rfl, sa, _, _, rfl, hs7, rfl, _, rfl, sa, R, D, ga, cs.length, qs, g, rfl, I7.pl, hga7, fun k hk => List.mem_range.mp (subs_mem hgs k hk), by omega, by omega, fun F zs H8 nF s8 hzq hz hF => ?_⟩
        have nFW' : F ≠ W := fun z => by rw [z, I7.hW] at nF; cases nF
        have hzl : zs.length ≤ 12 := by
          have e1 : zs.length = (qs.filter fun q => sp q g).length := by rw [← hzq, List.length_map]
          have e2 := List.length_filter_le (fun q => sp q g) qs
          omega
        refine ⟨F, rfl, ⟨_, SqL.of hF⟩, for_list (K := K) (a := F) (xs := zs.map (·.1)) (fun i σ H' => ∃ (x8 x9 x10 x11 : Option V) (zw : List (Addr × List Nat)), σ = [some (.ref ca), some y, some (.ref sa), some (.ref wh), some (.ref FD), some (.ref W), some (.ref ga), some (.int (fw qs g : Nat)), x8, x9, x10, x11] ∧
            ShH C sa R D FD W cs.length qs H' (fs ++ [g]) zw ∧ zw.map (·.2) = zr.map (·.2) ++ ((zs.map (·.2.2)).take i).map (hard qs g) ∧ Same H H' ∧ H' F = some (.lst (zs.map (·.1))) ∧ ∀ z ∈ zs, SpIs H' qs g z)
          ⟨x8, x9, x10, x11, zr, rfl, I7.same s8, by simp, s7.trans s8, hF, hz⟩ ?_ ?_ ?_⟩
        · rintro i σ H' _ ⟨x8, x9, x10, x11, zw, rfl, _, _, _, hF', _⟩
          exact SqL.of hF'
        · rintro i v σ H9 hi ⟨x8, x9, x10, x11, zw, rfl, I9, hzw, s9, hF9, hz9⟩
          obtain ⟨z, hzi, rfl, _⟩ := zip_at hi
          have mz := List.mem_of_getElem? hzi
          have hil : i < zs.length := (List.getElem?_eq_some_iff.mp hzi).1
          obtain ⟨hq, t1, b1, gd, e1, ht1, hb1, hgd⟩ := hz9 z mz
          rw [e1]
          have hsp : sp z.2.2 g = true := by
            have : z.2.2 ∈ zs.map (·.2.2) := List.mem_map.mpr ⟨z, mz, rfl⟩
            rw [hzq] at this
            exact (List.mem_filter.mp this).2
          have hls := sp_lens hsp
          have sub1 : g.filter z.2.2 ∈ subs (List.range cs.length) := subs_filter hgs
          have sub2 : (g.filter fun k => !z.2.2 k) ∈ subs (List.range cs.length) := subs_filter hgs
          have htk : (zs.map (·.2.2)).take (i + 1) = (zs.map (·.2.2)).take i ++ [z.2.2] := take_succ_of (by rw [List.getElem?_map, hzi]; rfl)
          have hzwl : zw.length < sizeLine := by
            have e1 : zw.length = zr.length + i := by
              have := congrArg List.length hzw
              rw [List.length_append, List.length_map, List.length_map, List.length_map, List.length_take, List.length_map] at this
              omega
            rw [sizeLine_eq]
            simp only [List.length_cons] at hJl
            omega
          refine ⟨t1, _, rfl, SqT.of ht1, rfl, _, _, rfl, _, _, rfl, _, _, rfl, rfl, ?_⟩
          obtain ⟨dx9, hs9⟩ := I9.pl.at_
          refine ⟨_, rfl, .inl ⟨rfl, _, SqL.of I9.hW⟩, _, rfl, sa, _, _, rfl, hs9, rfl, _, rfl, sa, R, D, b1, cs.length, qs, _, rfl, I9.pl, hb1, sub1, hc7, by omega, by omega, fun t2 c2 H10 pl10 kp10 ht2 => ?_⟩
          obtain ⟨dx10, hs10⟩ := pl10.at_
          refine ⟨t2, _, 0, _, rfl, rfl, SqT.of ht2, atI_nat (j := 0) rfl, _, rfl, sa, _, _, rfl, hs10, rfl, _, rfl, sa, R, D, gd, cs.length, qs, _, rfl, pl10, I9.pl.keepT kp10 hgd, sub2, hc7, by omega, by omega, fun t3 c3 H11 pl11 kp11 ht3 => ?_⟩
          have kp := kp10.trans kp11
          have I11 := I9.keep kp pl11
          have s11 := Same.thenKeep s9 kp zD
          have hb11 := I9.pl.keepT kp hb1
          have hgd11 := I9.pl.keepT kp hgd
          have hF11 := I9.pl.keepL kp hF9
          have hz11 : ∀ z ∈ zs, SpIs H11 qs g z := fun z hz' => (hz9 z hz').keep fun b' xs e => I9.pl.keepT kp e
          have next : ∀ (v : Addr) (x8 x9 x10 x11 : Option V), H11 v = some (.tup (encN (hard qs g z.2.2))) → ∃ (y8 y9 y10 y11 : Option V) (zw' : List (Addr × List Nat)), [some (.ref ca), some y, some (.ref sa), some (.ref wh), some (.ref FD), some (.ref W), some (.ref ga), some (.int (fw qs g : Nat)), x8, x9, x10, x11] = [some (.ref ca), some y, some (.ref sa), some (.ref wh), some (.ref FD), some (.ref W), some (.ref ga), some (.int (fw qs g : Nat)), y8, y9, y10, y11] ∧
              ShH C sa R D FD W cs.length qs (upd H11 W (.lst ((zw.map fun z => V.ref z.1) ++ [.ref v]))) (fs ++ [g]) zw' ∧ zw'.map (·.2) = zr.map (·.2) ++ ((zs.map (·.2.2)).take (i + 1)).map (hard qs g) ∧ Same H (upd H11 W (.lst ((zw.map fun z => V.ref z.1) ++ [.ref v]))) ∧
              (upd H11 W (.lst ((zw.map fun z => V.ref z.1) ++ [.ref v]))) F = some (.lst (zs.map (·.1))) ∧ ∀ z ∈ zs, SpIs (upd H11 W (.lst ((zw.map fun z => V.ref z.1) ++ [.ref v]))) qs g z := by
            intro v x8 x9 x10 x11 hv
            have I12 := I11.updW (zw ++ [(v, hard qs g z.2.2)]) (fun z' hz' => by
              rcases List.mem_append.mp hz' with hz' | hz'
              · exact I11.hz z' hz'
              · rw [List.mem_singleton] at hz'; subst hz'; exact hv)
            rw [List.map_append] at I12
            refine ⟨_, _, _, _, _, rfl, I12, ?_, Same.over s11 zW, by rw [upd_ne nFW']; exact hF11, fun z hz' => (hz11 z hz').keep fun b' xs e => by rw [upd_ne (fun z => by rw [z, I11.hW] at e; cases e)]; exact e⟩
            rw [htk, List.map_append, List.map_append, hzw, List.append_assoc]; rfl
          refine ⟨t3, _, 0, _, rfl, rfl, SqT.of ht3, atI_nat (j := 0) rfl, _, _, rfl, rfl, _, rfl, iteD (fun hge => ?_) fun hge => ?_⟩
          · refine ⟨_, rfl, W, _, .ref b1, rfl, rfl, I11.hW, by rw [List.length_map]; exact hzwl, next b1 _ _ _ _ ?_⟩
            have hge' : ((fw qs (g.filter fun k => !z.2.2 k) : Nat) : Int) ≤ ((fw qs (g.filter z.2.2) : Nat) : Int) := hge
            have hh : hard qs g z.2.2 = g.filter z.2.2 := if_pos (by omega)
            rw [hh]; exact hb11
          · refine ⟨_, rfl, W, _, .ref gd, rfl, rfl, I11.hW, by rw [List.length_map]; exact hzwl, next gd _ _ _ _ ?_⟩
            have hge' : ¬ ((fw qs (g.filter fun k => !z.2.2 k) : Nat) : Int) ≤ ((fw qs (g.filter z.2.2) : Nat) : Int) := hge
            have hh : hard qs g z.2.2 = g.filter fun k => !z.2.2 k := if_neg (by omega)
            rw [hh]; exact hgd11
        · rintro σ H9 ⟨x8, x9, x10, x11, zw, rfl, I9, hzw, s9, hF9, hz9⟩
          rw [List.take_of_length_le (by rw [List.length_map, List.length_map]; exact Nat.le_refl _), hzq] at hzw
          refine ⟨_, ?_, _, _, _, _, _, _, fs ++ [g], zw, rfl, rfl, by rw [hzw]; exact J', I9, s9⟩
          have e1 := congrArg List.length hzw
          rw [List.length_map] at e1
          rw [e1]
          simpa using hms
      · refine ⟨_, ?_, _, _, _, _, _, _, fs, zr, rfl, rfl, J.drop ?_, I6, s6⟩
        · simp only [List.length_cons]; omega
        · rw [kvF_none] at h12
          by_cases hm : g ∈ fs
          · exact .inl hm
          · right
            rw [decide_eq_false hm, Bool.not_false, Bool.true_and] at h12
            have : ¬ (0 : Int) < ((fw qs g : Nat) : Int) := of_decide_eq_false h12
            show fw qs g = 0
            omega
    · obtain rfl : zw = [] := by
        cases zw with
        | nil => rfl
        | cons z zr => exact absurd (by simp : (0 : Int) < (((((z :: zr).map fun z => V.ref z.1)).length : Nat) : Int)) hle
      have E := J.done
      have dcs4 : Da (FD :: X) H4 (.ref ca) (encG l cs) := (dcs.off zFD).same s4
      obtain ⟨_, cvs', e0, _, hca4, rca4⟩ := id dcs4.getL
      injection e0 with e0
      subst e0
      have nFDX : FD ∉ X := dom.fresh zFD
      have dom4 := dom.same s4
      refine ⟨FD, _, I.hF, trivial, fun od => ⟨_, rfl, FD, od, rfl, .inr ⟨_, upd_same, fun RW nRW => lc_it walk_keysT (fun i H' => H' FD = some (.frz od (.dT (kvF qs fs))) ∧ Keep [FD] H4 H' ∧ ∃ acc, H' RW = some (.lst acc) ∧ DaAll (RW :: FD :: X) H' acc (((rowsOf cs qs fs).take i).map (encRow l)) ∧ acc.length ≤ i) ?_ ?_ ?_ ?_⟩⟩⟩
      · have nRF : RW ≠ FD := fun z => by rw [z, upd_same] at nRW; cases nRW
        have nR4 : H4 RW = none := by rw [upd_ne nRF] at nRW; exact nRW
        refine ⟨by rw [upd_ne nRF.symm, upd_same], fun b o nb e => ?_, [], upd_same, by simpa using DaAll.nil, Nat.le_refl _⟩
        have nb : b ≠ FD := by simpa using nb
        rw [upd_ne (ne_of_none e nR4), upd_ne nb]; exact e
      · rintro i H' _ ⟨h, _⟩
        exact h
      · rintro i x H5 H6 hi ⟨hF5, kp5, acc, hR5, racc, hal⟩ ⟨rfl, kk, v, q, hkv, rfl, hq⟩
        have nRF : RW ≠ FD := fun z => by rw [z, upd_same] at nRW; cases nRW
        have nR4 : H4 RW = none := by rw [upd_ne nRF] at nRW; exact nRW
        have hil : i < fs.length := by unfold kvF at hi; rwa [List.length_map] at hi
        obtain ⟨g, hg⟩ : ∃ g, fs[i]? = some g := ⟨fs[i], by simp [hil]⟩
        have ekv : (kk, v) = (kN g, V.int (fw qs g : Nat)) := by
          unfold kvF at hkv
          rw [List.getElem?_map, hg] at hkv
          exact (Option.some.inj hkv).symm
        injection ekv with ek ev
        subst ek ev
        have mg' := List.mem_of_getElem? hg
        have hgs := E.sf g mg'
        have hgl : g.length ≤ 7 := by
          have := subs_le hgs
          rw [List.length_range] at this
          omega
        rw [kN_kV] at hq
        have hzs : ((g.map fun k : Nat => (V.int (k : Int), k)).map fun z => z.1) = encN g := by rw [List.map_map]; rfl
        have hzs2 : ((g.map fun k : Nat => (V.int (k : Int), k)).map fun z => z.2) = g := by rw [List.map_map]; exact List.map_id'' (fun _ => rfl) g
        have nR5 : ∀ b o, H6 b = some o → b ∈ X → b ≠ RW := fun b o e hm z => by
          subst z
          exact dom4 _ hm nR4
        have cvd : ∀ {cv : V} {c : List Id}, Da (FD :: X) H4 cv (encC l c) → Da (RW :: FD :: X) H6 cv (encC l c) := fun h => (h.off nR4).keep (kp5.mono fun x hx => by simp at hx; simp [hx])
        refine ⟨rfl, ?_⟩
        refine ⟨_, rfl, q, rfl, ⟨_, SqT.of hq⟩, fun D3 hD3 => lcT (K := K) (zs := g.map fun k : Nat => (V.int (k : Int), k)) (γ := List Id) (fun k => some (cs.getD k [])) (RelD (D3 :: RW :: FD :: X) (encC l)) hD3 (by rw [hzs]; exact hq) (line1000 (by rw [List.length_map]; omega)) relD_st (fun j z hj => ?_) fun H7 acc7 s7 e7 pr7 => ?_⟩
        · intro H' N M s0 _ hN hM
          obtain ⟨k', hk', rfl⟩ : ∃ kk, g[j]? = some kk ∧ (V.int (kk : Int), kk) = z := by
            rw [List.getElem?_map] at hj
            exact Option.map_eq_some_iff.mp hj
          have hkn : k' < cs.length := List.mem_range.mp (subs_mem hgs k' (List.mem_of_getElem? hk'))
          obtain ⟨c, hck⟩ : ∃ c, cs[k']? = some c := ⟨cs[k'], by simp [hkn]⟩
          obtain ⟨cv, hcv, dc⟩ := rca4.get' (i := k') (d := encC l c) (by rw [List.getElem?_map, hck]; rfl)
          have hgd : cs.getD k' [] = c := by rw [List.getD_eq_getElem?_getD, hck]; rfl
          have hca6 : H6 ca = some (.lst cvs') := kp5 _ _ (by
            intro hm
            have hm : ca = FD := by simpa using hm
            rw [hm, I.hF] at hca4; cases hca4) hca4
          refine ⟨rfl, _, rfl, _, rfl, ca, _, _, _, rfl, rfl, SqL.of (s0 _ _ hca6), atI_nat (j := k') hcv, hN _ c _ (congrArg some hgd) (Same.refl _) (((cvd dc).off hD3).same s0)⟩
        · have r7 := relD_all pr7
          rw [hzs2, all_map (fun k => cs.getD k [])] at r7
          have hF7 := s7 _ _ hF5
          have dget : DGet H7 FD (.ref q) (some (.int (fw qs g : Nat))) := by
            rw [← kvF_some mg']
            exact .inr ⟨kvF qs fs, kN g, q, .inr ⟨od, hF7⟩, rfl, by rw [kN_kV]; exact s7 _ _ hq, rfl⟩
          refine ⟨_, rfl, _, rfl, FD, _, rfl, dget, (by show 2 ≤ sizeLine; decide), fun tt ntt => ?_⟩
          have nRt : RW ≠ tt := ne_of_none (s7 _ _ hR5) ntt
          have hRt : (upd H7 tt (.tup [.ref D3, .int (fw qs g : Nat)])) RW = some (.lst acc) := upd_some (s7 _ _ hR5) ntt
          have offs : ∀ b : Addr, H7 b = none → b ∉ RW :: FD :: X := fun b zb hm => by
            simp only [List.mem_cons] at hm
            rcases hm with rfl | rfl | hm
            · rw [s7 _ _ hR5] at zb; cases zb
            · rw [hF7] at zb; cases zb
            · have h1 := dom4 b hm
              cases q' : H4 b with
              | none => exact h1 q'
              | some u =>
                have nbF : b ≠ FD := fun z => nFDX (by rw [← z]; exact hm)
                rw [s7 _ _ (kp5 b u (by simpa using nbF) q')] at zb
                cases zb
          have offD3 : D3 ∉ RW :: FD :: X := fun hm => by
            simp only [List.mem_cons] at hm
            rcases hm with rfl | rfl | hm
            · rw [hR5] at hD3; cases hD3
            · rw [hF5] at hD3; cases hD3
            · have h1 := dom4 D3 hm
              cases q' : H4 D3 with
              | none => exact h1 q'
              | some u =>
                have nbF : D3 ≠ FD := fun z => nFDX (by rw [← z]; exact hm)
                rw [kp5 D3 u (by simpa using nbF) q'] at hD3
                cases hD3
          have s8 : Same H7 (upd H7 tt (.tup [.ref D3, .int (fw qs g : Nat)])) := Same.new ntt
          have drow : Da (RW :: FD :: X) (upd H7 tt (.tup [.ref D3, .int (fw qs g : Nat)])) (.ref tt) (encRow l (g.map fun k => cs.getD k [], (fw qs g : Int))) :=
            .tup (offs tt ntt) upd_same (.cons (Da.same (.lst offD3 e7 r7.tail) s8) (.cons (.int _) .nil))
          refine ⟨acc, hRt, small1000 (by have := E.len hc7; omega), ?_, fun b o nb e => ?_, acc ++ [.ref tt], upd_same, ?_, by simp; omega⟩
          · rw [upd_ne nRF.symm]; exact s8 _ _ hF7
          · rw [upd_ne (ne_of_none e nR4)]; exact s8 _ _ (s7 _ _ (kp5 b o nb e))
          · have htk : (rowsOf cs qs fs).take (i + 1) = (rowsOf cs qs fs).take i ++ [(g.map fun k => cs.getD k [], (fw qs g : Int))] := take_succ_of (by unfold rowsOf; rw [List.getElem?_map, hg]; rfl)
            rw [htk, List.map_append]
            exact (((racc.same s7).same s8).app (DaAll.one drow)).put
      · rintro H5 ⟨hF5, kp5, acc, hR5, racc, hal⟩
        refine ⟨hF5, ?_⟩
        have hRX : RW ∉ X := fun hm => by
          have nRF : RW ≠ FD := fun z => by rw [z, upd_same] at nRW; cases nRW
          rw [upd_ne nRF] at nRW
          exact dom4 RW hm nRW
        have nRF : RW ≠ FD := fun z => by rw [z, hF5] at hR5; cases hR5
        refine k (.ref RW) fs _ E (Same.over (Same.thenKeep s4 kp5 zFD) zFD) (.lst hRX (by rw [upd_ne nRF]; exact hR5) ?_)
        rw [List.take_of_length_le (by unfold rowsOf kvF; rw [List.length_map, List.length_map]; exact Nat.le_refl _)] at racc
        exact ((racc.tail).put).tail
end
end Qw
namespace Qw
open PySem L2
/-- what of a row is not there -/
def lackF (g : List (List Id)) (c : List Id) : Option Unit := if c ∈ g then none else some ()
theorem lack_len : ∀ row g : List (List Id), decide ((row.filterMap (lackF g)).length = 0) = within row g := by
  intro row g
  unfold within
  induction row with
  | nil => rfl
  | cons c row ih =>
    rw [List.filterMap_cons, List.all_cons]
    unfold lackF at ih ⊢
    by_cases h : c ∈ g
    · simp only [h, if_true, decide_true, Bool.true_and]
      exact ih
    · simp [h]
theorem lack_eq {row g : List (List Id)} {n : Nat} (h : n = (row.filterMap (lackF g)).length) : decide ((V.int ((n : Nat) : Int)) = .int 0) = within row g := by
  rw [← lack_len, ← h]
  refine decide_eq_decide.mpr ⟨fun z => ?_, fun z => by rw [z]; rfl⟩
  have := V.int.inj z
  omega
theorem lack_gt {row g : List (List Id)} {n : Nat} (h : n = (row.filterMap (lackF g)).length) : decide ((0 : Int) < ((n : Nat) : Int)) = !within row g := by
  rw [← lack_len, ← h]
  by_cases z : n = 0
  · subst z; rfl
  · rw [decide_eq_true (show (0 : Int) < ((n : Nat) : Int) by omega), decide_eq_false z]; rfl
theorem rget {X : List Addr} {H : Hp} {v : V} {l : Lab} {r : List (List Id) × Int} (h : Da X H v (encRow l r)) : ∃ pa rv, v = .ref pa ∧ H pa = some (.tup [rv, .int r.2]) ∧ Da X H rv (encG l r.1) := by
  obtain ⟨pa, xs, e, _, hp, q⟩ := h.getT
  obtain ⟨v1, r1, rfl, d1, s1⟩ := q.uncons
  obtain ⟨v2, r2, rfl, d2, s2⟩ := s1.uncons
  rw [s2.nil', d2.getI] at hp
  exact ⟨pa, v1, e, hp, d1⟩
structure RsOk (rs : List (List (List Id) × Int)) : Prop where
  n : rs.length ≤ 1000
  r : ∀ r ∈ rs, r.1.length ≤ 1000
  c : ∀ r ∈ rs, ∀ c ∈ r.1, c.length ≤ 1000
section
variable {P : Program} {w : World} {K : PySem.W.Frag} {mg : Str → Option Value} {base : Heap} {a : Nat → Addr} {d : Nat → FuncData} {C : Addr}
def spHol : Sp := fun vs H Q _ => ∃ (X : List Addr) (l : Lab) (g : List (List Id)) (rs : List (List (List Id) × Int)) (x y : V) (n : Int), vs = [x, y, .int n] ∧ Da X H x (encG l g) ∧ Da X H y (encRs l rs) ∧ RsOk rs ∧ ∀ H', Same H H' → Q (.bl (holds rs g n)) H'
theorem ok_hol (T : Tx K mg a d C) : FnOk P w K mg base CX0 1 (a 7) (d 7) ["causes", "rows", "count"] spHol := by
  refine T.hol.F.ok sc_hol (fun vs H Q E h => ?_) (fun cdv A outer s H vs Q E hr h => ?_)
  · obtain ⟨X, l, g, rs, x, y, n, rfl, _⟩ := h
    rfl
  · obtain ⟨X, l, g, rs, x, y, n, rfl, dg, drs, ok, k⟩ := h
    have nd := sc_hol.nd
    have hu := hu_of hr
    refine ⟨_, (pss_cons (ps_if (pt_cmpR op_le (pv 2) pe_int (nomark _)) (pss_one (ps_ret pe_bl)) pss_nil)
      (pss_one (ps_ret (pe_callB (cr_anyK K rfl rfl) (by rfl) T.any (by decide +kernel) (pa_cons (pe_lc (own := [("row", 3), ("number", 4)]) (g := gTup K 2 (gCons (gName 3) (gCons (gName 4) gNil))) (tt := tYes) (by rfl) nd (pi_listK K rfl (pv 1)) (blkOk_by (own := [("row", 3), ("number", 4)]) (N := N_hol) (sc := defScope s_hol) (by decide +kernel)) (fun _ _ _ _ _ => (pg_tupK K rfl (by rfl) (pgs_cons (pg_name (i := 3) nd rfl (by first | exact Or.inl rfl | exact Or.inr rfl)) (pgs_cons (pg_name (i := 4) nd rfl (by first | exact Or.inl rfl | exact Or.inr rfl)) pgs_nil)))) (fun _ _ _ _ _ => pts_nil) (fun _ _ _ _ _ => (pe_and (pe_cmpR op_ge (pv 4) (pv 2) (nomark _)) (pe_one (pe_cmpR op_eq (pe_callB (call_lenK K rfl) (by rfl) T.len (by decide +kernel) (pa_cons (pe_lc (own := [("one", 5)]) (g := gName 5) (by rfl) nd (pi_listK K rfl (pv 3)) (blkOk_by (own := [("one", 5)]) (by kernel_rfl)) (fun _ _ _ _ _ => (pg_name (i := 5) nd rfl (by first | exact Or.inl rfl | exact Or.inr rfl))) (fun _ _ _ _ _ => (pts_one (pt_cmpR (op_notInDK K rfl hr.un65) (pv 5) (pv 0) (by rfl)))) (fun _ _ _ _ _ => (pv 5))) pa_nil)) pe_int (nomark _)))))) pa_nil))))), ?_⟩
    refine ⟨_, rfl, _, _, rfl, rfl, _, rfl, iteD (fun h0 => ?_) fun h0 => ?_⟩
    · have : holds rs g n = true := by unfold holds; rw [decide_eq_true h0]; rfl
      rw [← this]
      exact k H (Same.refl _)
    · obtain ⟨ra, us, rfl, _, hra, rr⟩ := drs.getL
      obtain ⟨zs, e1, e2, hz⟩ := rr.zip
      subst e1
      have hzl : zs.length = rs.length := by rw [← e2, List.length_map]
      refine ⟨_, rfl, ra, rfl, ⟨_, SqL.of hra⟩, fun D hD => lcL (K := K) (γ := Bool) (fun r => some (decide (n ≤ r.2) && within r.1 g)) (RelF V.bl) hD (SqL.of hra) (line1000 (by have := ok.n; omega)) relF_st (fun j z hj => ?_) fun H' acc s1 e pr => ?_⟩
      · intro H' N M s _ hN hM
        have mz := List.mem_of_getElem? hj
        have mr : z.2 ∈ rs := by rw [← e2]; exact List.mem_map.mpr ⟨z, mz, rfl⟩
        obtain ⟨pa, rv, hze, hpa, drv⟩ := rget ((hz z mz).same s)
        rw [hze]
        refine ⟨pa, _, rfl, SqT.of hpa, rfl, _, _, rfl, _, _, rfl, rfl, rfl, _, rfl, _, rfl, _, _, rfl, rfl, _, rfl, iteD (fun h1 => ?_) fun h1 => ?_⟩
        · obtain ⟨va, vs, rfl, _, hva, rv'⟩ := drv.getL
          obtain ⟨ys, f1, f2, hy⟩ := rv'.zip
          subst f1
          have hyl : ys.length = z.2.1.length := by rw [← f2, List.length_map]
          refine ⟨_, rfl, va, rfl, ⟨_, SqL.of hva⟩, fun D2 hD2 => lcL (K := K) (γ := Unit) (lackF g) (fun _ _ _ => True) hD2 (SqL.of hva) (line1000 (by have := ok.r _ mr; omega)) (fun _ _ _ _ _ _ => True.intro) (fun m yz hm => ?_) fun H2 acc2 s2 e2' pr2 => ?_⟩
          · intro H3 N2 M2 s3 _ hN2 hM2
            refine ⟨rfl, _, rfl, _, rfl, notInD_of (eC l) (by decide) ((hy yz (List.mem_of_getElem? hm)).same s3) (dg.same (s.trans s3)) ⟨_, rfl, iteN (fun hm => ⟨_, rfl, hN2 _ () _ (if_neg hm) (Same.refl _) True.intro⟩) fun hm => hM2 _ (if_pos hm) (Same.refl _)⟩⟩
          · have hl : acc2.length = (z.2.1.filterMap (lackF g)).length := by rw [← f2]; exact Paired.length pr2
            refine ⟨D2, acc2, rfl, .inl (SqL.of e2'), rfl, hN _ (within z.2.1 g) _ ?_ s2 (congrArg V.bl (lack_eq hl))⟩
            show some (decide (n ≤ z.2.2) && within z.2.1 g) = _
            rw [decide_eq_true h1]; rfl
        · refine hN _ false _ ?_ (Same.refl _) rfl
          show some (decide (n ≤ z.2.2) && within z.2.1 g) = _
          rw [decide_eq_false h1]; rfl
      · have ea := relF_map pr
        rw [e2, all_map (fun r : List (List Id) × Int => decide (n ≤ r.2) && within r.1 g)] at ea
        refine ⟨D, rs.map (fun r => decide (n ≤ r.2) && within r.1 g), rfl, SqL.of (by rw [← ea]; exact e), ?_⟩
        have : holds rs g n = (rs.map fun r => decide (n ≤ r.2) && within r.1 g).any id := by
          unfold holds
          rw [decide_eq_false h0, Bool.false_or, List.any_map]; rfl
        rw [← this]
        exact k H' s1
def spStd : Sp := fun vs H Q _ => ∃ (X : List Addr) (l : Lab) (g : List (List Id)) (rs : List (List (List Id) × Int)) (x y : V) (n : Int), vs = [y, x, .int n] ∧ Da X H x (encG l g) ∧ Da X H y (encRs l rs) ∧ RsOk rs ∧ ∀ H', Same H H' → Q (.bl (holds rs g n)) H'
theorem ok_std (T : Tx K mg a d C) : FnOk P w K mg base CX0 1 (a 24) (d 24) ["_law_rows", "_law_causes_here", "_law_count"] spStd := by
  refine T.std.F.ok sc_std (fun vs H Q E h => ?_) (fun cdv A outer s H vs Q E hr h => ?_)
  · obtain ⟨X, l, g, rs, x, y, n, rfl, _⟩ := h
    rfl
  · obtain ⟨X, l, g, rs, x, y, n, rfl, dg, drs, ok, k⟩ := h
    have nd := sc_std.nd
    have hu := hu_of hr
    refine ⟨_, (pss_cons (ps_if (pt_cmpR op_lt (pv 2) pe_int (nomark _)) (pss_one (ps_ret pe_bl)) pss_nil)
      (pss_cons (ps_for PassesOwn.never rfl (pi_listK K rfl (pv 0)) (pg_tupK K rfl (by rfl) (pgs_cons (pg_name (i := 3) nd rfl (by first | exact Or.inl rfl | exact Or.inr rfl)) (pgs_cons (pg_name (i := 4) nd rfl (by first | exact Or.inl rfl | exact Or.inr rfl)) pgs_nil))) (pss_one (ps_if (PW.pt (pw_and (pt_cmpR op_ge (pv 4) (pv 2) (nomark _)) (pw_and1 (pt_cmpR op_eq (pe_callB (call_lenK K rfl) (by rfl) T.len (by decide +kernel) (pa_cons (pe_lc (own := [("_law_one", 5)]) (g := gName 5) (by rfl) nd (pi_listK K rfl (pv 3)) (blkOk_by (own := [("_law_one", 5)]) (N := N_std) (sc := defScope s_std) (by decide +kernel)) (fun _ _ _ _ _ => (pg_name (i := 5) nd rfl (by first | exact Or.inl rfl | exact Or.inr rfl))) (fun _ _ _ _ _ => (pts_one (pt_cmpR (op_notInDK K rfl hr.un65) (pv 5) (pv 1) (by rfl)))) (fun _ _ _ _ _ => (pv 5))) pa_nil)) pe_int (nomark _))))) (pss_one (ps_ret pe_bl)) pss_nil)))
      (pss_one (ps_ret pe_bl)))), ?_⟩
    refine ⟨_, rfl, _, _, rfl, rfl, _, rfl, iteD (fun h0 => ?_) fun h0 => ?_⟩
    · have : holds rs g n = true := by unfold holds; rw [decide_eq_true (show n ≤ 0 by omega)]; rfl
      rw [← this]
      exact k H (Same.refl _)
    · obtain ⟨ra, us, rfl, _, hra, rr⟩ := drs.getL
      obtain ⟨zs, e1, e2, hz⟩ := rr.zip
      subst e1
      have hzl : zs.length = rs.length := by rw [← e2, List.length_map]
      refine ⟨_, rfl, ra, rfl, ⟨_, SqL.of hra⟩, for_list (K := K) (a := ra) (xs := zs.map (·.1)) (fun i σ H' => ∃ (x3 x4 x5 : Option V), σ = [some (.ref ra), some x, some (.int n), x3, x4, x5] ∧ Same H H' ∧ ((rs.take i).any fun r => decide (n ≤ r.2) && within r.1 g) = false)
        ⟨none, none, none, rfl, Same.refl _, rfl⟩ ?_ ?_ ?_⟩
      · rintro i σ H' _ ⟨x3, x4, x5, rfl, s1, _⟩
        exact SqL.of (s1 _ _ hra)
      · rintro i v σ H' hi ⟨x3, x4, x5, rfl, s1, hany⟩
        obtain ⟨z, hzi, rfl, hri⟩ := zip_at hi
        rw [e2] at hri
        have mz := List.mem_of_getElem? hzi
        have mr := List.mem_of_getElem? hri
        obtain ⟨pa, rv, hze, hpa, drv⟩ := rget ((hz z mz).same s1)
        rw [hze]
        have htk : rs.take (i + 1) = rs.take i ++ [z.2] := take_succ_of hri
        refine ⟨pa, _, rfl, SqT.of hpa, rfl, _, _, rfl, _, _, rfl, rfl, ?_⟩
        refine ⟨_, rfl, _, rfl, _, _, rfl, rfl, _, rfl, iteD (fun h1 => ?_) fun h1 => ?_⟩
        · obtain ⟨va, vs, rfl, _, hva, rv'⟩ := drv.getL
          obtain ⟨ys, f1, f2, hy⟩ := rv'.zip
          subst f1
          have hyl : ys.length = z.2.1.length := by rw [← f2, List.length_map]
          refine ⟨_, rfl, va, rfl, ⟨_, SqL.of hva⟩, fun D2 hD2 => lcL (K := K) (γ := Unit) (lackF g) (fun _ _ _ => True) hD2 (SqL.of hva) (line1000 (by have := ok.r _ mr; omega)) (fun _ _ _ _ _ _ => True.intro) (fun m yz hm => ?_) fun H2 acc2 s2 e2' pr2 => ?_⟩
          · intro H3 N2 M2 s3 _ hN2 hM2
            refine ⟨rfl, _, rfl, _, rfl, notInD_of (eC l) (by decide) ((hy yz (List.mem_of_getElem? hm)).same s3) (dg.same (s1.trans s3)) ⟨_, rfl, iteN (fun hm => ⟨_, rfl, hN2 _ () _ (if_neg hm) (Same.refl _) True.intro⟩) fun hm => hM2 _ (if_pos hm) (Same.refl _)⟩⟩
          · have hl : acc2.length = (z.2.1.filterMap (lackF g)).length := by rw [← f2]; exact Paired.length pr2
            have hw := lack_eq hl
            refine ⟨D2, acc2, rfl, .inl (SqL.of e2'), rfl, _, rfl, iteD (fun h2 => ?_) fun h2 => ?_⟩
            · rw [decide_eq_true h2] at hw
              have : holds rs g n = true := by
                unfold holds
                rw [Bool.or_eq_true]
                exact .inr (List.any_eq_true.mpr ⟨z.2, mr, by rw [decide_eq_true (show n ≤ z.2.2 from h1), ← hw]; rfl⟩)
              rw [← this]
              exact k _ (s1.trans s2)
            · rw [decide_eq_false h2] at hw
              refine ⟨_, _, _, rfl, s1.trans s2, ?_⟩
              rw [htk, List.any_append, hany]
              simp [← hw]
        · refine iteF ⟨_, _, _, rfl, s1, ?_⟩
          rw [htk, List.any_append, hany]
          have : decide (n ≤ z.2.2) = false := decide_eq_false h1
          simp [this]
      · rintro σ H' ⟨x3, x4, x5, rfl, s1, hany⟩
        rw [List.length_map, hzl, List.take_length] at hany
        have : holds rs g n = false := by
          unfold holds
          rw [hany, decide_eq_false (show ¬ n ≤ 0 by omega)]; rfl
        rw [← this]
        exact k H' s1
end
end Qw
namespace Qw
open PySem L2
theorem sp_lenC {α : Type} {p : α → Bool} {g : List α} {m n : Nat} (hm : m = (g.filter p).length) (hn : n = (g.filter fun x => !p x).length) : (decide ((0 : Int) < ((m : Nat) : Int)) && decide ((0 : Int) < ((n : Nat) : Int))) = sp p g := by
  have h : ∀ (l : List α) (k : Nat), k = l.length → decide ((0 : Int) < ((k : Nat) : Int)) = !l.isEmpty := fun l k e => by
    subst e
    cases l with
    | nil => rfl
    | cons x l =>
      show decide _ = true
      refine decide_eq_true ?_
      simp only [List.length_cons]
      omega
  rw [h _ _ hm, h _ _ hn]; rfl
/-- what one test asks of a row -/
def chk (rs : List (List (List Id) × Int)) (r : List (List Id) × Int) (t : List Id) : Bool := !sp (bad t) r.1 || (holds rs (r.1.filter (bad t)) (r.2 - 1) || holds rs (r.1.filter fun x => !bad t x) (r.2 - 1))
theorem rowOk_eq (ts cs : List (List Id)) (rs : List (List (List Id) × Int)) (r : List (List Id) × Int) : rowOk (ts.map bad) rs cs r = (!(decide (r.2 < 1)) && within r.1 cs && (ts.any fun t => sp (bad t) r.1) && ts.all (chk rs r)) := by
  unfold rowOk
  rw [List.any_map, List.all_map]
  rfl
theorem notOk {ts cs : List (List Id)} {rs : List (List (List Id) × Int)} {r : List (List Id) × Int} (hr : r ∈ rs) (h : rowOk (ts.map bad) rs cs r = false) : shieldOk (ts.map bad) cs rs = false := by
  unfold shieldOk
  rw [List.all_eq_false]
  exact ⟨r, hr, by rw [h]; simp⟩
section
variable {P : Program} {w : World} {K : PySem.W.Frag} {mg : Str → Option Value} {base : Heap} {a : Nat → Addr} {d : Nat → FuncData} {C : Addr}
def spShr : Sp := fun vs H Q _ => ∃ (X : List Addr) (l : Lab) (cs ts : List (List Id)) (rs : List (List (List Id) × Int)) (x y z : V), vs = [x, y, z] ∧ Da X H x (encG l cs) ∧ Da X H y (encG l ts) ∧ Da X H z (encRs l rs) ∧ ts.length ≤ 1000 ∧ RsOk rs ∧ ∀ H', Same H H' → Q (.bl (shieldOk (ts.map bad) cs rs)) H'
theorem ok_shr (T : Tx K mg a d C) : FnOk P w K mg base CX0 2 (a 8) (d 8) ["causes", "tests", "rows"] spShr := by
  have G_isb : FnOk P w K mg base CX0 1 _ _ _ spIsb := ok_isb T
  have G_hol : FnOk P w K mg base CX0 1 _ _ _ spHol := ok_hol T
  refine T.shr.F.ok sc_shr (fun vs H Q E h => ?_) (fun cdv A outer s H vs Q E hr h => ?_)
  · obtain ⟨X, l, cs, ts, rs, x, y, z, rfl, _⟩ := h
    rfl
  · obtain ⟨X, l, cs, ts, rs, x, y, z, rfl, dcs, dts, drs, htl, ok, k⟩ := h
    have nd := sc_shr.nd
    have hu := hu_of hr
    have hr_isb : Room 1 _ := hr
    have hr_hol : Room 1 _ := hr
    refine ⟨_, (pss_cons (ps_for PassesOwn.never rfl (pi_listK K rfl (pv 2)) (pg_tupK K rfl (by rfl) (pgs_cons (pg_name (i := 3) nd rfl (by first | exact Or.inl rfl | exact Or.inr rfl)) (pgs_cons (pg_name (i := 4) nd rfl (by first | exact Or.inl rfl | exact Or.inr rfl)) pgs_nil))) (pss_cons (ps_if (PW.pt (pw_or (pt_cmpR op_lt (pv 4) pe_int (nomark _)) (pw_or1 (pt_cmpR op_gt (pe_callB (call_lenK K rfl) (by rfl) T.len (by decide +kernel) (pa_cons (pe_lc (own := [("one", 10)]) (g := gName 10) (by rfl) nd (pi_listK K rfl (pv 3)) (blkOk_by (own := [("one", 10)]) (N := N_shr) (sc := defScope s_shr) (by decide +kernel)) (fun _ _ _ _ _ => (pg_name (i := 10) nd rfl (by first | exact Or.inl rfl | exact Or.inr rfl))) (fun _ _ _ _ _ => (pts_one (pt_cmpR (op_notInDK K rfl hr.un65) (pv 10) (pv 0) (by rfl)))) (fun _ _ _ _ _ => (pv 10))) pa_nil)) pe_int (nomark _))))) (pss_one (ps_ret pe_bl)) pss_nil)
      (pss_cons (ps_set (i := 5) nd rfl (by first | exact Or.inl rfl | exact Or.inr rfl) pe_bl)
      (pss_cons (ps_for PassesOwn.never rfl (pi_listK K rfl (pv 1)) (pg_name (i := 6) nd rfl (by first | exact Or.inl rfl | exact Or.inr rfl)) (pss_cons (ps_setLc (i := 7) (own := [("cause", 9)]) (g := gName 9) (by rfl) nd rfl rfl (sw_true rfl rfl rfl (by decide +kernel)) (pi_listK K rfl (pv 3)) (blkOk_by (own := [("cause", 9)]) (N := N_shr) (sc := defScope s_shr) (by decide +kernel)) (fun _ _ _ _ _ => (pg_name (i := 9) nd rfl (by first | exact Or.inl rfl | exact Or.inr rfl))) (fun _ _ _ _ _ => (pts_one (pt_val (pe_call G_isb hr_isb (by rfl) T.isb.m T.isb.F.kp T.isb.b .nil pass0 (pa_cons (pv 6) (pa_cons (pv 9) pa_nil)))))) (fun _ _ _ _ _ => (pv 9)))
      (pss_cons (ps_setLc (i := 8) (own := [("cause", 9)]) (g := gName 9) (by rfl) nd rfl rfl (sw_true rfl rfl rfl (by decide +kernel)) (pi_listK K rfl (pv 3)) (blkOk_by (own := [("cause", 9)]) (N := N_shr) (sc := defScope s_shr) (by decide +kernel)) (fun _ _ _ _ _ => (pg_name (i := 9) nd rfl (by first | exact Or.inl rfl | exact Or.inr rfl))) (fun _ _ _ _ _ => (pts_one (pt_not (pt_val (pe_call G_isb hr_isb (by rfl) T.isb.m T.isb.F.kp T.isb.b .nil pass0 (pa_cons (pv 6) (pa_cons (pv 9) pa_nil))))))) (fun _ _ _ _ _ => (pv 9)))
      (pss_one (ps_if (PW.pt (pw_and (pt_cmpR op_gt (pe_callB (call_lenK K rfl) (by rfl) T.len (by decide +kernel) (pa_cons (pv 7) pa_nil)) pe_int (nomark _)) (pw_and1 (pt_cmpR op_gt (pe_callB (call_lenK K rfl) (by rfl) T.len (by decide +kernel) (pa_cons (pv 8) pa_nil)) pe_int (nomark _))))) (pss_cons (ps_set (i := 5) nd rfl (by first | exact Or.inl rfl | exact Or.inr rfl) pe_bl)
      (pss_one (ps_if (PW.pt (pw_and (pt_not (pt_val (pe_call G_hol hr_hol (by rfl) T.hol.m T.hol.F.kp T.hol.b .nil pass0 (pa_cons (pv 7) (pa_cons (pv 2) (pa_cons (pe_op op_sub (pv 4) pe_int) pa_nil)))))) (pw_and1 (pt_not (pt_val (pe_call G_hol hr_hol (by rfl) T.hol.m T.hol.F.kp T.hol.b .nil pass0 (pa_cons (pv 8) (pa_cons (pv 2) (pa_cons (pe_op op_sub (pv 4) pe_int) pa_nil))))))))) (pss_one (ps_ret pe_bl)) pss_nil))) pss_nil)))))
      (pss_one (ps_if (pt_not (pt_val (pv 5))) (pss_one (ps_ret pe_bl)) pss_nil))))))
      (pss_one (ps_ret pe_bl))), ?_⟩
    obtain ⟨ra, us, rfl, _, hra, rr⟩ := id drs.getL
    obtain ⟨zs, e1, e2, hz⟩ := rr.zip
    subst e1
    have hzl : zs.length = rs.length := by rw [← e2, List.length_map]
    obtain ⟨ta, tus, rfl, _, hta, rt⟩ := id dts.getL
    obtain ⟨tz, f1, f2, htz⟩ := rt.zip
    subst f1
    have htzl : tz.length = ts.length := by rw [← f2, List.length_map]
    refine ⟨_, rfl, ra, rfl, ⟨_, SqL.of hra⟩, for_list (K := K) (a := ra) (xs := zs.map (·.1)) (fun i σ H' => ∃ (x3 x4 x5 x6 x7 x8 x9 x10 : Option V), σ = [some x, some (.ref ta), some (.ref ra), x3, x4, x5, x6, x7, x8, x9, x10] ∧ Same H H' ∧ (rs.take i).all (rowOk (ts.map bad) rs cs) = true)
      ⟨none, none, none, none, none, none, none, none, rfl, Same.refl _, rfl⟩ ?_ ?_ ?_⟩
    · rintro i σ H' _ ⟨x3, x4, x5, x6, x7, x8, x9, x10, rfl, s1, _⟩
      exact SqL.of (s1 _ _ hra)
    · rintro i v σ H' hi ⟨x3, x4, x5, x6, x7, x8, x9, x10, rfl, s1, hall⟩
      obtain ⟨zz, hzi, rfl, hri⟩ := zip_at hi
      rw [e2] at hri
      have mz := List.mem_of_getElem? hzi
      have mr := List.mem_of_getElem? hri
      obtain ⟨pa, rv, hze, hpa, drv⟩ := rget ((hz zz mz).same s1)
      rw [hze]
      obtain ⟨zv, r⟩ := zz
      have htk : rs.take (i + 1) = rs.take i ++ [r] := take_succ_of hri
      have fail : rowOk (ts.map bad) rs cs r = false → ∀ H2, Same H' H2 → Q (.bl false) H2 := fun h H2 s2 => by
        rw [← notOk mr h]; exact k _ (s1.trans s2)
      refine ⟨pa, _, rfl, SqT.of hpa, rfl, _, _, rfl, _, _, rfl, rfl, ?_⟩
      refine ⟨_, rfl, _, _, rfl, rfl, _, rfl, iteD (fun h1 => iteT (fail ?_ _ (Same.refl _))) fun h1 => ?_⟩
      · rw [rowOk_eq, decide_eq_true (show r.2 < 1 from h1)]; rfl
      obtain ⟨va, vs, rfl, _, hva, rv'⟩ := id drv.getL
      obtain ⟨ys, g1, g2, hy⟩ := rv'.zip
      subst g1
      have hyl : ys.length = r.1.length := by rw [← g2, List.length_map]
      have hrl : r.1.length ≤ 1000 := ok.r _ mr
      refine ⟨_, rfl, va, rfl, ⟨_, SqL.of hva⟩, fun D2 hD2 => lcL (K := K) (γ := Unit) (lackF cs) (fun _ _ _ => True) hD2 (SqL.of hva) (line1000 (by omega)) (fun _ _ _ _ _ _ => True.intro) (fun m yz hm => ?_) fun H2 acc2 s2 e2' pr2 => ?_⟩
      · intro H3 N2 M2 s3 _ hN2 hM2
        refine ⟨rfl, _, rfl, _, rfl, notInD_of (eC l) (by decide) ((hy yz (List.mem_of_getElem? hm)).same s3) (dcs.same (s1.trans s3)) ⟨_, rfl, iteN (fun hm => ⟨_, rfl, hN2 _ () _ (if_neg hm) (Same.refl _) True.intro⟩) fun hm => hM2 _ (if_pos hm) (Same.refl _)⟩⟩
      have hlk : acc2.length = (r.1.filterMap (lackF cs)).length := by rw [← g2]; exact Paired.length pr2
      have hw := lack_gt hlk
      refine ⟨D2, acc2, rfl, .inl (SqL.of e2'), _, _, rfl, rfl, _, rfl, iteD (fun h2 => fail ?_ _ s2) fun h2 => ?_⟩
      · rw [decide_eq_true h2] at hw
        have hw2 : within r.1 cs = false := by cases q : within r.1 cs with
          | false => rfl
          | true => rw [q] at hw; cases hw
        rw [rowOk_eq, hw2]; simp
      have hw2 : within r.1 cs = true := by
        rw [decide_eq_false h2] at hw
        cases q : within r.1 cs with
          | true => rfl
          | false => rw [q] at hw; cases hw
      have hn1 : (!(decide (r.2 < 1))) = true := by rw [decide_eq_false (show ¬ r.2 < 1 from h1)]; rfl
      have s12 := s1.trans s2
      refine ⟨_, rfl, ta, rfl, ⟨_, SqL.of (s12 _ _ hta)⟩, for_list (K := K) (a := ta) (xs := tz.map (·.1)) (fun j σ H3 => ∃ (x6 x7 x8 x9 x10 : Option V) (v5 : V), σ = [some x, some (.ref ta), some (.ref ra), some (.ref va), some (.int r.2), some v5, x6, x7, x8, x9, x10] ∧ Same H2 H3 ∧ v5 = .bl ((ts.take j).any fun t => sp (bad t) r.1) ∧ (ts.take j).all (chk rs r) = true)
        ⟨_, _, _, _, _, _, rfl, Same.refl _, rfl, rfl⟩ ?_ ?_ ?_⟩
      · rintro j σ H3 _ ⟨x6, x7, x8, x9, x10, v5, rfl, s3, _⟩
        exact SqL.of (s3 _ _ (s12 _ _ hta))
      · rintro j pv' σ H3 hj ⟨x6, x7, x8, x9, x10, v5, rfl, s3, hdiv, hchk⟩
        obtain ⟨zt, hzj, rfl, htj⟩ := zip_at hj
        rw [f2] at htj
        have s23 := s2.trans s3
        have s123 := s1.trans s23
        have dt := (htz zt (List.mem_of_getElem? hzj)).same s123
        obtain ⟨tv, t⟩ := zt
        have htkj : ts.take (j + 1) = ts.take j ++ [t] := take_succ_of htj
        have mt : t ∈ ts := List.mem_of_getElem? htj
        have hva3 := s23 _ _ hva
        -- the one side
        refine ⟨_, rfl, va, rfl, ⟨_, SqL.of hva3⟩, fun D3 hD3 => lcL (K := K) (γ := List Id) (fun c => if bad t c = true then some c else none) (RelD (D3 :: X) (encC l)) hD3 (SqL.of hva3) (line1000 (by omega)) relD_st (fun m yz hm => ?_) fun H4 acc4 s4 e4 pr4 => ?_⟩
        · intro H' N2 M2 s _ hN2 hM2
          have my := List.mem_of_getElem? hm
          have dy := (hy yz my).same s23
          have mc : yz.2 ∈ r.1 := by rw [← g2]; exact List.mem_map.mpr ⟨yz, my, rfl⟩
          refine ⟨rfl, _, rfl, _, rfl, X, l, tv, yz.1, t, yz.2, rfl, dt.same s, dy.same s, ok.c _ mr _ mc, fun H'' s'' => ⟨_, rfl, iteB (fun hb => ⟨_, rfl, hN2 _ yz.2 _ (if_pos hb) s'' ((dy.off hD3).same (s.trans s''))⟩) fun hb => hM2 _ (if_neg (by rw [hb]; simp)) s''⟩⟩
        have r4 := relD_all pr4
        rw [g2, someIf_map (bad t) (fun c => c), List.map_id'] at r4
        -- the other
        refine ⟨_, rfl, va, rfl, ⟨_, SqL.of (s4 _ _ hva3)⟩, fun D5 hD5 => lcL (K := K) (γ := List Id) (fun c => if (fun c => !bad t c) c = true then some c else none) (RelD (D5 :: X) (encC l)) hD5 (SqL.of (s4 _ _ hva3)) (line1000 (by omega)) relD_st (fun m yz hm => ?_) fun H5 acc5 s5 e5 pr5 => ?_⟩
        · intro H' N2 M2 s _ hN2 hM2
          have my := List.mem_of_getElem? hm
          have dy := (hy yz my).same (s23.trans s4)
          have mc : yz.2 ∈ r.1 := by rw [← g2]; exact List.mem_map.mpr ⟨yz, my, rfl⟩
          refine ⟨rfl, _, rfl, _, rfl, X, l, tv, yz.1, t, yz.2, rfl, dt.same (s4.trans s), dy.same s, ok.c _ mr _ mc, fun H'' s'' => ⟨_, rfl, iteNB (fun hb => ⟨_, rfl, hN2 _ yz.2 _ (if_pos (by simp [hb])) s'' ((dy.off hD5).same (s.trans s''))⟩) fun hb => hM2 _ (if_neg (by simp [hb])) s''⟩⟩
        have r5 := relD_all pr5
        rw [g2, someIf_map (fun c => !bad t c) (fun c => c), List.map_id'] at r5
        have s45 := s4.trans s5
        have e4' := s5 _ _ e4
        have hsp := sp_lenC (p := bad t) (g := r.1) (m := acc4.length) (n := acc5.length) (by rw [r4.lenB]) (by rw [r5.lenB])
        have hnX : ∀ D, H2 D = none → D ∉ [D] → False := fun _ _ h => h (by simp)
        dsimp only
        refine ifAnd (fun _ q => ⟨_, rfl, D3, _, rfl, .inl (SqL.of e4'), _, _, rfl, rfl, _, rfl, q⟩) (fun _ _ q => ⟨_, rfl, D5, _, rfl, .inl (SqL.of e5), _, _, rfl, rfl, _, rfl, q⟩) (fun h3 h4 => ?_) fun h34 => ?_
        · have hs : sp (bad t) r.1 = true := by rw [← hsp, Bool.and_eq_true]; exact ⟨h3, h4⟩
          have d4 : Da [] H5 (.ref D3) (encG l (r.1.filter (bad t))) := .lst (by simp) e4' ((r4.less (by simp)).same s5)
          have d5 : Da [] H5 (.ref D5) (encG l (r.1.filter fun c => !bad t c)) := .lst (by simp) e5 (r5.less (by simp))
          have drs5 : Da [] H5 (.ref ra) (encRs l rs) := ((drs.less (by simp)).same s123).same s45
          have hnext : ∀ H6, Same H5 H6 → chk rs r t = true → ∃ (y6 y7 y8 y9 y10 : Option V) (u5 : V), [some x, some (.ref ta), some (.ref ra), some (.ref va), some (.int r.2), some (.bl true), some tv, some (.ref D3), some (.ref D5), x9, x10] = [some x, some (.ref ta), some (.ref ra), some (.ref va), some (.int r.2), some u5, y6, y7, y8, y9, y10] ∧ Same H2 H6 ∧ u5 = .bl ((ts.take (j + 1)).any fun t => sp (bad t) r.1) ∧ (ts.take (j + 1)).all (chk rs r) = true := by
            intro H6 s6 hc
            refine ⟨_, _, _, _, _, _, rfl, s3.trans (s45.trans s6), ?_, ?_⟩
            · rw [htkj, List.any_append]
              simp [hs]
            · rw [htkj, List.all_append, hchk]
              simp [hc]
          refine ?_
          refine ⟨_, rfl, _, rfl, _, rfl, _, _, rfl, rfl, [], l, _, rs, _, _, _, rfl, d4, drs5, ok, fun H6 s6 => ⟨_, rfl, iteNB (fun hh1 => ?_) fun hh1 => iteF (hnext H6 s6 ?_)⟩⟩
          · refine ⟨_, rfl, _, rfl, _, rfl, _, _, rfl, rfl, [], l, _, rs, _, _, _, rfl, d5.same s6, drs5.same s6, ok, fun H7 s7 => ⟨_, rfl, iteNB (fun hh2 => fail ?_ _ ((s23.trans s45).trans (s6.trans s7))) fun hh2 => hnext H7 (s6.trans s7) ?_⟩⟩
            · have hc : chk rs r t = false := by unfold chk; rw [hs, hh1, hh2]; rfl
              have : ts.all (chk rs r) = false := by rw [List.all_eq_false]; exact ⟨t, mt, by rw [hc]; simp⟩
              rw [rowOk_eq, this]; simp
            · unfold chk; rw [hs, hh2]; simp
          · unfold chk; rw [hs, hh1]; rfl
        · have hs : sp (bad t) r.1 = false := by rw [← hsp]; exact h34
          have hc : chk rs r t = true := by unfold chk; rw [hs]; rfl
          refine ⟨_, _, _, _, _, _, rfl, s3.trans s45, ?_, ?_⟩
          · rw [htkj, List.any_append]
            simpa [hs] using hdiv
          · rw [htkj, List.all_append, hchk]
            simp [hc]
      · rintro σ H3 ⟨x6, x7, x8, x9, x10, v5, rfl, s3, hdiv, hchk⟩
        rw [List.take_of_length_le (by rw [List.length_map]; omega)] at hdiv hchk
        subst hdiv
        refine ⟨_, rfl, _, rfl, iteNB (fun hany => ?_) fun hany => ?_⟩
        · have : rowOk (ts.map bad) rs cs r = false := by rw [rowOk_eq, hany]; simp
          exact fail this _ (s2.trans s3)
        · have : rowOk (ts.map bad) rs cs r = true := by rw [rowOk_eq, hn1, hw2, hany, hchk]; rfl
          refine ⟨_, _, _, _, _, _, _, _, rfl, s12.trans s3, ?_⟩
          rw [htk, List.all_append, hall]
          simp [this]
    · rintro σ H' ⟨x3, x4, x5, x6, x7, x8, x9, x10, rfl, s1, hall⟩
      rw [List.take_of_length_le (by rw [List.length_map]; omega)] at hall
      have : shieldOk (ts.map bad) cs rs = true := hall
      rw [← this]
      exact k _ s1
theorem ok_rgt (T : Tx K mg a d C) : FnOk P w K mg base CX0 2 (a 25) (d 25) ["_law_causes_here", "_law_tests", "_law_rows"] spShr := by
  have G_bad : FnOk P w K mg base CX0 1 _ _ _ spIsb := ok_bad T
  have G_std : FnOk P w K mg base CX0 1 _ _ _ spStd := ok_std T
  refine T.rgt.F.ok sc_rgt (fun vs H Q E h => ?_) (fun cdv A outer s H vs Q E hr h => ?_)
  · obtain ⟨X, l, cs, ts, rs, x, y, z, rfl, _⟩ := h
    rfl
  · obtain ⟨X, l, cs, ts, rs, x, y, z, rfl, dcs, dts, drs, htl, ok, k⟩ := h
    have nd := sc_rgt.nd
    have hu := hu_of hr
    have hr_bad : Room 1 _ := hr
    have hr_std : Room 1 _ := hr
    refine ⟨_, (pss_cons (ps_for PassesOwn.never rfl (pi_listK K rfl (pv 2)) (pg_tupK K rfl (by rfl) (pgs_cons (pg_name (i := 3) nd rfl (by first | exact Or.inl rfl | exact Or.inr rfl)) (pgs_cons (pg_name (i := 4) nd rfl (by first | exact Or.inl rfl | exact Or.inr rfl)) pgs_nil))) (pss_cons (ps_if (PW.pt (pw_or (pt_cmpR op_lt (pv 4) pe_int (nomark _)) (pw_or1 (pt_cmpR op_gt (pe_callB (call_lenK K rfl) (by rfl) T.len (by decide +kernel) (pa_cons (pe_lc (own := [("_law_one", 9)]) (g := gName 9) (by rfl) nd (pi_listK K rfl (pv 3)) (blkOk_by (own := [("_law_one", 9)]) (N := N_rgt) (sc := defScope s_rgt) (by decide +kernel)) (fun _ _ _ _ _ => (pg_name (i := 9) nd rfl (by first | exact Or.inl rfl | exact Or.inr rfl))) (fun _ _ _ _ _ => (pts_one (pt_cmpR (op_notInDK K rfl hr.un65) (pv 9) (pv 0) (by rfl)))) (fun _ _ _ _ _ => (pv 9))) pa_nil)) pe_int (nomark _))))) (pss_one (ps_ret pe_bl)) pss_nil)
      (pss_cons (ps_set (i := 5) nd rfl (by first | exact Or.inl rfl | exact Or.inr rfl) pe_int)
      (pss_cons (ps_for PassesOwn.never rfl (pi_listK K rfl (pv 1)) (pg_name (i := 6) nd rfl (by first | exact Or.inl rfl | exact Or.inr rfl)) (pss_cons (ps_setLc (i := 7) (own := [("_law_one", 9)]) (g := gName 9) (by rfl) nd rfl rfl (sw_true rfl rfl rfl (by decide +kernel)) (pi_listK K rfl (pv 3)) (blkOk_by (own := [("_law_one", 9)]) (N := N_rgt) (sc := defScope s_rgt) (by decide +kernel)) (fun _ _ _ _ _ => (pg_name (i := 9) nd rfl (by first | exact Or.inl rfl | exact Or.inr rfl))) (fun _ _ _ _ _ => (pts_one (pt_val (pe_call G_bad hr_bad (by rfl) T.bad.m T.bad.F.kp T.bad.b .nil pass0 (pa_cons (pv 6) (pa_cons (pv 9) pa_nil)))))) (fun _ _ _ _ _ => (pv 9)))
      (pss_cons (ps_setLc (i := 8) (own := [("_law_one", 9)]) (g := gName 9) (by rfl) nd rfl rfl (sw_true rfl rfl rfl (by decide +kernel)) (pi_listK K rfl (pv 3)) (blkOk_by (own := [("_law_one", 9)]) (N := N_rgt) (sc := defScope s_rgt) (by decide +kernel)) (fun _ _ _ _ _ => (pg_name (i := 9) nd rfl (by first | exact Or.inl rfl | exact Or.inr rfl))) (fun _ _ _ _ _ => (pts_one (pt_not (pt_val (pe_call G_bad hr_bad (by rfl) T.bad.m T.bad.F.kp T.bad.b .nil pass0 (pa_cons (pv 6) (pa_cons (pv 9) pa_nil))))))) (fun _ _ _ _ _ => (pv 9)))
      (pss_one (ps_if (PW.pt (pw_and (pt_cmpR op_gt (pe_callB (call_lenK K rfl) (by rfl) T.len (by decide +kernel) (pa_cons (pv 7) pa_nil)) pe_int (nomark _)) (pw_and1 (pt_cmpR op_gt (pe_callB (call_lenK K rfl) (by rfl) T.len (by decide +kernel) (pa_cons (pv 8) pa_nil)) pe_int (nomark _))))) (pss_cons (ps_set (i := 5) nd rfl (by first | exact Or.inl rfl | exact Or.inr rfl) (pe_op op_add (pv 5) pe_int))
      (pss_one (ps_if (PW.pt (pw_and (pt_not (pt_val (pe_call G_std hr_std (by rfl) T.std.m T.std.F.kp T.std.b .nil pass0 (pa_cons (pv 2) (pa_cons (pv 7) (pa_cons (pe_op op_sub (pv 4) pe_int) pa_nil)))))) (pw_and1 (pt_not (pt_val (pe_call G_std hr_std (by rfl) T.std.m T.std.F.kp T.std.b .nil pass0 (pa_cons (pv 2) (pa_cons (pv 8) (pa_cons (pe_op op_sub (pv 4) pe_int) pa_nil))))))))) (pss_one (ps_ret pe_bl)) pss_nil))) pss_nil)))))
      (pss_one (ps_if (pt_cmpR op_eq (pv 5) pe_int (nomark _)) (pss_one (ps_ret pe_bl)) pss_nil))))))
      (pss_one (ps_ret pe_bl))), ?_⟩
    obtain ⟨ra, us, rfl, _, hra, rr⟩ := id drs.getL
    obtain ⟨zs, e1, e2, hz⟩ := rr.zip
    subst e1
    have hzl : zs.length = rs.length := by rw [← e2, List.length_map]
    obtain ⟨ta, tus, rfl, _, hta, rt⟩ := id dts.getL
    obtain ⟨tz, f1, f2, htz⟩ := rt.zip
    subst f1
    have htzl : tz.length = ts.length := by rw [← f2, List.length_map]
    refine ⟨_, rfl, ra, rfl, ⟨_, SqL.of hra⟩, for_list (K := K) (a := ra) (xs := zs.map (·.1)) (fun i σ H' => ∃ (x3 x4 x5 x6 x7 x8 x9 : Option V), σ = [some x, some (.ref ta), some (.ref ra), x3, x4, x5, x6, x7, x8, x9] ∧ Same H H' ∧ (rs.take i).all (rowOk (ts.map bad) rs cs) = true)
      ⟨none, none, none, none, none, none, none, rfl, Same.refl _, rfl⟩ ?_ ?_ ?_⟩
    · rintro i σ H' _ ⟨x3, x4, x5, x6, x7, x8, x9, rfl, s1, _⟩
      exact SqL.of (s1 _ _ hra)
    · rintro i v σ H' hi ⟨x3, x4, x5, x6, x7, x8, x9, rfl, s1, hall⟩
      obtain ⟨zz, hzi, rfl, hri⟩ := zip_at hi
      rw [e2] at hri
      have mz := List.mem_of_getElem? hzi
      have mr := List.mem_of_getElem? hri
      obtain ⟨pa, rv, hze, hpa, drv⟩ := rget ((hz zz mz).same s1)
      rw [hze]
      obtain ⟨zv, r⟩ := zz
      have htk : rs.take (i + 1) = rs.take i ++ [r] := take_succ_of hri
      have fail : rowOk (ts.map bad) rs cs r = false → ∀ H2, Same H' H2 → Q (.bl false) H2 := fun h H2 s2 => by
        rw [← notOk mr h]; exact k _ (s1.trans s2)
      refine ⟨pa, _, rfl, SqT.of hpa, rfl, _, _, rfl, _, _, rfl, rfl, ?_⟩
      refine ⟨_, rfl, _, _, rfl, rfl, _, rfl, iteD (fun h1 => iteT (fail ?_ _ (Same.refl _))) fun h1 => ?_⟩
      · rw [rowOk_eq, decide_eq_true (show r.2 < 1 from h1)]; rfl
      obtain ⟨va, vs, rfl, _, hva, rv'⟩ := id drv.getL
      obtain ⟨ys, g1, g2, hy⟩ := rv'.zip
      subst g1
      have hyl : ys.length = r.1.length := by rw [← g2, List.length_map]
      have hrl : r.1.length ≤ 1000 := ok.r _ mr
      refine ⟨_, rfl, va, rfl, ⟨_, SqL.of hva⟩, fun D2 hD2 => lcL (K := K) (γ := Unit) (lackF cs) (fun _ _ _ => True) hD2 (SqL.of hva) (line1000 (by omega)) (fun _ _ _ _ _ _ => True.intro) (fun m yz hm => ?_) fun H2 acc2 s2 e2' pr2 => ?_⟩
      · intro H3 N2 M2 s3 _ hN2 hM2
        refine ⟨rfl, _, rfl, _, rfl, notInD_of (eC l) (by decide) ((hy yz (List.mem_of_getElem? hm)).same s3) (dcs.same (s1.trans s3)) ⟨_, rfl, iteN (fun hm => ⟨_, rfl, hN2 _ () _ (if_neg hm) (Same.refl _) True.intro⟩) fun hm => hM2 _ (if_pos hm) (Same.refl _)⟩⟩
      have hlk : acc2.length = (r.1.filterMap (lackF cs)).length := by rw [← g2]; exact Paired.length pr2
      have hw := lack_gt hlk
      refine ⟨D2, acc2, rfl, .inl (SqL.of e2'), _, _, rfl, rfl, _, rfl, iteD (fun h2 => fail ?_ _ s2) fun h2 => ?_⟩
      · rw [decide_eq_true h2] at hw
        have hw2 : within r.1 cs = false := by cases q : within r.1 cs with
          | false => rfl
          | true => rw [q] at hw; cases hw
        rw [rowOk_eq, hw2]; simp
      have hw2 : within r.1 cs = true := by
        rw [decide_eq_false h2] at hw
        cases q : within r.1 cs with
          | true => rfl
          | false => rw [q] at hw; cases hw
      have hn1 : (!(decide (r.2 < 1))) = true := by rw [decide_eq_false (show ¬ r.2 < 1 from h1)]; rfl
      have s12 := s1.trans s2
      refine ⟨_, rfl, ta, rfl, ⟨_, SqL.of (s12 _ _ hta)⟩, for_list (K := K) (a := ta) (xs := tz.map (·.1)) (fun j σ H3 => ∃ (x6 x7 x8 x9 : Option V) (v5 : V), σ = [some x, some (.ref ta), some (.ref ra), some (.ref va), some (.int r.2), some v5, x6, x7, x8, x9] ∧ Same H2 H3 ∧ (∃ n : Nat, v5 = .int (n : Int) ∧ decide (0 < n) = ((ts.take j).any fun t => sp (bad t) r.1)) ∧ (ts.take j).all (chk rs r) = true)
        ⟨_, _, _, _, _, rfl, Same.refl _, ⟨0, rfl, rfl⟩, rfl⟩ ?_ ?_ ?_⟩
      · rintro j σ H3 _ ⟨x6, x7, x8, x9, v5, rfl, s3, _⟩
        exact SqL.of (s3 _ _ (s12 _ _ hta))
      · rintro j pv' σ H3 hj ⟨x6, x7, x8, x9, v5, rfl, s3, hdiv, hchk⟩
        obtain ⟨zt, hzj, rfl, htj⟩ := zip_at hj
        rw [f2] at htj
        have s23 := s2.trans s3
        have s123 := s1.trans s23
        have dt := (htz zt (List.mem_of_getElem? hzj)).same s123
        obtain ⟨tv, t⟩ := zt
        have htkj : ts.take (j + 1) = ts.take j ++ [t] := take_succ_of htj
        have mt : t ∈ ts := List.mem_of_getElem? htj
        have hva3 := s23 _ _ hva
        -- the one side
        refine ⟨_, rfl, va, rfl, ⟨_, SqL.of hva3⟩, fun D3 hD3 => lcL (K := K) (γ := List Id) (fun c => if bad t c = true then some c else none) (RelD (D3 :: X) (encC l)) hD3 (SqL.of hva3) (line1000 (by omega)) relD_st (fun m yz hm => ?_) fun H4 acc4 s4 e4 pr4 => ?_⟩
        · intro H' N2 M2 s _ hN2 hM2
          have my := List.mem_of_getElem? hm
          have dy := (hy yz my).same s23
          have mc : yz.2 ∈ r.1 := by rw [← g2]; exact List.mem_map.mpr ⟨yz, my, rfl⟩
          refine ⟨rfl, _, rfl, _, rfl, X, l, tv, yz.1, t, yz.2, rfl, dt.same s, dy.same s, ok.c _ mr _ mc, fun H'' s'' => ⟨_, rfl, iteB (fun hb => ⟨_, rfl, hN2 _ yz.2 _ (if_pos hb) s'' ((dy.off hD3).same (s.trans s''))⟩) fun hb => hM2 _ (if_neg (by rw [hb]; simp)) s''⟩⟩
        have r4 := relD_all pr4
        rw [g2, someIf_map (bad t) (fun c => c), List.map_id'] at r4
        -- the other
        refine ⟨_, rfl, va, rfl, ⟨_, SqL.of (s4 _ _ hva3)⟩, fun D5 hD5 => lcL (K := K) (γ := List Id) (fun c => if (fun c => !bad t c) c = true then some c else none) (RelD (D5 :: X) (encC l)) hD5 (SqL.of (s4 _ _ hva3)) (line1000 (by omega)) relD_st (fun m yz hm => ?_) fun H5 acc5 s5 e5 pr5 => ?_⟩
        · intro H' N2 M2 s _ hN2 hM2
          have my := List.mem_of_getElem? hm
          have dy := (hy yz my).same (s23.trans s4)
          have mc : yz.2 ∈ r.1 := by rw [← g2]; exact List.mem_map.mpr ⟨yz, my, rfl⟩
          refine ⟨rfl, _, rfl, _, rfl, X, l, tv, yz.1, t, yz.2, rfl, dt.same (s4.trans s), dy.same s, ok.c _ mr _ mc, fun H'' s'' => ⟨_, rfl, iteNB (fun hb => ⟨_, rfl, hN2 _ yz.2 _ (if_pos (by simp [hb])) s'' ((dy.off hD5).same (s.trans s''))⟩) fun hb => hM2 _ (if_neg (by simp [hb])) s''⟩⟩
        have r5 := relD_all pr5
        rw [g2, someIf_map (fun c => !bad t c) (fun c => c), List.map_id'] at r5
        have s45 := s4.trans s5
        have e4' := s5 _ _ e4
        have hsp := sp_lenC (p := bad t) (g := r.1) (m := acc4.length) (n := acc5.length) (by rw [r4.lenB]) (by rw [r5.lenB])
        have hnX : ∀ D, H2 D = none → D ∉ [D] → False := fun _ _ h => h (by simp)
        dsimp only
        refine ifAnd (fun _ q => ⟨_, rfl, D3, _, rfl, .inl (SqL.of e4'), _, _, rfl, rfl, _, rfl, q⟩) (fun _ _ q => ⟨_, rfl, D5, _, rfl, .inl (SqL.of e5), _, _, rfl, rfl, _, rfl, q⟩) (fun h3 h4 => ?_) fun h34 => ?_
        · have hs : sp (bad t) r.1 = true := by rw [← hsp, Bool.and_eq_true]; exact ⟨h3, h4⟩
          obtain ⟨nn, rfl, hnn⟩ := hdiv
          have d4 : Da [] H5 (.ref D3) (encG l (r.1.filter (bad t))) := .lst (by simp) e4' ((r4.less (by simp)).same s5)
          have d5 : Da [] H5 (.ref D5) (encG l (r.1.filter fun c => !bad t c)) := .lst (by simp) e5 (r5.less (by simp))
          have drs5 : Da [] H5 (.ref ra) (encRs l rs) := ((drs.less (by simp)).same s123).same s45
          have hnext : ∀ H6, Same H5 H6 → chk rs r t = true → ∃ (y6 y7 y8 y9 : Option V) (u5 : V), [some x, some (.ref ta), some (.ref ra), some (.ref va), some (.int r.2), some (.int ((nn : Nat) + 1 : Int)), some tv, some (.ref D3), some (.ref D5), x9] = [some x, some (.ref ta), some (.ref ra), some (.ref va), some (.int r.2), some u5, y6, y7, y8, y9] ∧ Same H2 H6 ∧ (∃ n : Nat, u5 = .int (n : Int) ∧ decide (0 < n) = ((ts.take (j + 1)).any fun t => sp (bad t) r.1)) ∧ (ts.take (j + 1)).all (chk rs r) = true := by
            intro H6 s6 hc
            refine ⟨_, _, _, _, _, rfl, s3.trans (s45.trans s6), ?_, ?_⟩
            · rw [htkj, List.any_append]
              exact ⟨nn + 1, by simp, by simp [hs]⟩
            · rw [htkj, List.all_append, hchk]
              simp [hc]
          refine ⟨_, rfl, _, _, rfl, rfl, ?_⟩
          refine ⟨_, rfl, _, rfl, _, rfl, _, _, rfl, rfl, [], l, _, rs, _, _, _, rfl, d4, drs5, ok, fun H6 s6 => ⟨_, rfl, iteNB (fun hh1 => ?_) fun hh1 => iteF (hnext H6 s6 ?_)⟩⟩
          · refine ⟨_, rfl, _, rfl, _, rfl, _, _, rfl, rfl, [], l, _, rs, _, _, _, rfl, d5.same s6, drs5.same s6, ok, fun H7 s7 => ⟨_, rfl, iteNB (fun hh2 => fail ?_ _ ((s23.trans s45).trans (s6.trans s7))) fun hh2 => hnext H7 (s6.trans s7) ?_⟩⟩
            · have hc : chk rs r t = false := by unfold chk; rw [hs, hh1, hh2]; rfl
              have : ts.all (chk rs r) = false := by rw [List.all_eq_false]; exact ⟨t, mt, by rw [hc]; simp⟩
              rw [rowOk_eq, this]; simp
            · unfold chk; rw [hs, hh2]; simp
          · unfold chk; rw [hs, hh1]; rfl
        · have hs : sp (bad t) r.1 = false := by rw [← hsp]; exact h34
          have hc : chk rs r t = true := by unfold chk; rw [hs]; rfl
          refine ⟨_, _, _, _, _, rfl, s3.trans s45, ?_, ?_⟩
          · rw [htkj, List.any_append]
            simpa [hs] using hdiv
          · rw [htkj, List.all_append, hchk]
            simp [hc]
      · rintro σ H3 ⟨x6, x7, x8, x9, v5, rfl, s3, hdiv, hchk⟩
        rw [List.take_of_length_le (by rw [List.length_map]; omega)] at hdiv hchk
        obtain ⟨nn, rfl, hnn⟩ := hdiv
        refine ⟨_, rfl, rfl, _, rfl, iteD (fun h0 => ?_) fun h0 => ?_⟩
        · have hany : (ts.any fun t => sp (bad t) r.1) = false := by rw [← hnn]; have := V.int.inj h0; exact decide_eq_false (by omega)
          have : rowOk (ts.map bad) rs cs r = false := by rw [rowOk_eq, hany]; simp
          exact fail this _ (s2.trans s3)
        · have hany : (ts.any fun t => sp (bad t) r.1) = true := by rw [← hnn]; exact decide_eq_true (by cases nn with | zero => exact absurd rfl h0 | succ m => omega)
          have : rowOk (ts.map bad) rs cs r = true := by rw [rowOk_eq, hn1, hw2, hany, hchk]; rfl
          refine ⟨_, _, _, _, _, _, _, rfl, s12.trans s3, ?_⟩
          rw [htk, List.all_append, hall]
          simp [this]
    · rintro σ H' ⟨x3, x4, x5, x6, x7, x8, x9, rfl, s1, hall⟩
      rw [List.take_of_length_le (by rw [List.length_map]; omega)] at hall
      have : shieldOk (ts.map bad) cs rs = true := hall
      rw [← this]
      exact k _ s1
end
end Qw
namespace Qw
open PySem L2
theorem cut_from (xs : List V) (n : Nat) (h : n ≤ xs.length) : cutV xs (some (n : Int)) none = xs.drop n := by
  unfold cutV
  rw [HT.sIx_none, HT.sIx_nat, Nat.min_eq_left h]
  rw [List.take_of_length_le (by rw [List.length_drop]; exact Nat.le_refl _)]
theorem seqIx_nat {i n : Nat} (h : i < n) : seqIndex? (i : Int) n = some i := by
  unfold seqIndex?
  have h1 : ¬ ((i : Int) < 0) := by omega
  have h2 : (i : Int) < (n : Int) := by omega
  simp [h1, h2]
theorem ixN_nat {i n : Nat} (h : i < n) : ixN n (i : Int) = some i := by
  unfold ixN
  have h1 : (0 : Int) ≤ (i : Int) := by omega
  have h2 : (i : Int) < (n : Int) := by omega
  simp [h1, h2]
theorem mapErase {α β : Type} (g : α → β) : ∀ (l : List α) (j : Nat), (l.map g).eraseIdx j = (l.eraseIdx j).map g
  | [], _ => rfl
  | _ :: _, 0 => rfl
  | x :: l, j + 1 => by rw [List.map_cons, List.eraseIdx_cons_succ, List.eraseIdx_cons_succ, List.map_cons, mapErase g l j]
theorem DaAll.erase {X : List Addr} {H : Hp} : ∀ {ds : List PyData} {vs : List V}, DaAll X H vs ds → ∀ j : Nat, DaAll X H (vs.eraseIdx j) (ds.eraseIdx j)
  | [], _, h, _ => by cases h; exact .nil
  | d :: ds, _, h, j => by
    cases h with
    | cons a b =>
      cases j with
      | zero => exact b
      | succ j => exact .cons a (DaAll.erase b j)
/-- rows while they are turned: the tuple, the row's own list -/
structure Te where
  t : Addr
  a : Addr
  vs : List V
  row : List (List Id)
  n : Int
structure Ent (l : Lab) (X : List Addr) (H0 H : Hp) (e : Te) : Prop where
  zt : H0 e.t = none
  za : H0 e.a = none
  ht : H e.t = some (.tup [.ref e.a, .int e.n])
  ha : H e.a = some (.lst e.vs)
  da : DaAll X H0 e.vs (e.row.map (encC l))
  bd : e.row.length ≤ 100 ∧ ∀ c ∈ e.row, c.length ≤ 100
structure RsB (rs : List (List (List Id) × Int)) : Prop where
  n : rs.length ≤ 200
  r : ∀ r ∈ rs, r.1.length ≤ 100 ∧ ∀ c ∈ r.1, c.length ≤ 100
theorem RsB.ok {rs : List (List (List Id) × Int)} (h : RsB rs) : RsOk rs :=
  ⟨by have := h.n; omega, fun r hr => by have := (h.r r hr).1; omega, fun r hr c hc => by have := (h.r r hr).2 c hc; omega⟩
structure TrI (l : Lab) (p c : Addr) (X : List Addr) (H0 H : Hp) (f : Addr) (es : List Te) : Prop where
  sta : Sta p c H
  kp : Keep [p, c] H0 H
  f0 : H0 f = none
  hf : H f = some (.lst (es.map fun e => V.ref e.t))
  ent : ∀ e ∈ es, Ent l X H0 H e
  nd : (f :: es.map (·.a)).Nodup
  len : es.length ≤ 200
section
variable {l : Lab} {p c : Addr} {X : List Addr} {H0 H H' : Hp} {f : Addr} {es : List Te}
theorem TrI.step (h : TrI l p c X H0 H f es) (sx : SX p c X H0) (s : Sta p c H') (k : Keep [p, c] H H') : TrI l p c X H0 H' f es :=
  ⟨s, h.kp.trans k, h.f0, k _ _ (sx.sta.ne h.f0) h.hf, fun e he => let E := h.ent e he; ⟨E.zt, E.za, k _ _ (sx.sta.ne E.zt) E.ht, k _ _ (sx.sta.ne E.za) E.ha, E.da, E.bd⟩, h.nd, h.len⟩
theorem TrI.new {q : Addr} {o : HO} (h : TrI l p c X H0 H f es) (sx : SX p c X H0) (n : H q = none) : TrI l p c X H0 (upd H q o) f es := h.step sx (h.sta.new n) (Keep.new n)
/-- the list is written: some of the entries, or others of the same kind -/
theorem TrI.put (h : TrI l p c X H0 H f es) (sx : SX p c X H0) {es' : List Te} (hE : ∀ e ∈ es', Ent l X H0 H e) (nd : (f :: es'.map (·.a)).Nodup) (hl : es'.length ≤ 200) : TrI l p c X H0 (upd H f (.lst (es'.map fun e => V.ref e.t))) f es' := by
  have nf := sx.sta.ne h.f0
  refine ⟨h.sta.put (ne1 nf) (ne2 nf), h.kp.over h.f0, h.f0, upd_same, fun e he => ?_, nd, hl⟩
  have E := hE e he
  refine ⟨E.zt, E.za, ?_, ?_, E.da, E.bd⟩
  · rw [upd_ne (fun z => by have := E.ht; rw [z, h.hf] at this; cases this)]; exact E.ht
  · rw [upd_ne (fun z => ?_)]
    · exact E.ha
    · rw [List.nodup_cons] at nd
      exact nd.1 (by rw [← z]; exact List.mem_map.mpr ⟨e, he, rfl⟩)
/-- a new list of the entries -/
theorem TrI.renew (h : TrI l p c X H0 H f es) (sx : SX p c X H0) {q : Addr} (n : H q = none) {es' : List Te} (hE : ∀ e ∈ es', e ∈ es) (nd : (es'.map (·.a)).Nodup) (hl : es'.length ≤ 200) : TrI l p c X H0 (upd H q (.lst (es'.map fun e => V.ref e.t))) q es' := by
  have I := h.new (o := .lst (es'.map fun e => V.ref e.t)) sx n
  refine ⟨I.sta, I.kp, h.kp.free h.sta.dom n, upd_same, fun e he => I.ent e (hE e he), ?_, hl⟩
  rw [List.nodup_cons]
  refine ⟨fun hm => ?_, nd⟩
  obtain ⟨e, he, z⟩ := List.mem_map.mp hm
  have := (h.ent e (hE e he)).ha
  rw [z, n] at this
  cases this
/-- one row's own list is written -/
theorem TrI.inner (h : TrI l p c X H0 H f es) (sx : SX p c X H0) {i : Nat} {e : Te} (hi : es[i]? = some e) {vs' : List V} {row' : List (List Id)} (da : DaAll X H0 vs' (row'.map (encC l))) (bd : row'.length ≤ 100 ∧ ∀ c ∈ row', c.length ≤ 100) :
    TrI l p c X H0 (upd H e.a (.lst vs')) f (es.set i { e with vs := vs', row := row' }) := by
  have he := List.mem_of_getElem? hi
  have E := h.ent e he
  have na := sx.sta.ne E.za
  have hil : i < es.length := (List.getElem?_eq_some_iff.mp hi).1
  have hie : es[i] = e := (List.getElem?_eq_some_iff.mp hi).2
  have ea : (es.set i { e with vs := vs', row := row' }).map (·.a) = es.map (·.a) := by
    refine List.ext_getElem? fun j => ?_
    rw [List.getElem?_map, List.getElem?_map, List.getElem?_set]
    by_cases hj : i = j
    · subst hj; simp [hil, hie]
    · simp [hj]
  have et : (es.set i { e with vs := vs', row := row' }).map (fun e => V.ref e.t) = es.map fun e => V.ref e.t := by
    refine List.ext_getElem? fun j => ?_
    rw [List.getElem?_map, List.getElem?_map, List.getElem?_set]
    by_cases hj : i = j
    · subst hj; simp [hil, hie]
    · simp [hj]
  have nd := h.nd
  have nd2 := nd
  rw [List.nodup_cons] at nd2
  have nfa : f ≠ e.a := fun z => nd2.1 (by rw [z]; exact List.mem_map.mpr ⟨e, he, rfl⟩)
  refine ⟨h.sta.put (ne1 na) (ne2 na), h.kp.over E.za, h.f0, by rw [upd_ne nfa, et]; exact h.hf, fun u hu => ?_, by rw [ea]; exact nd, by rw [List.length_set]; exact h.len⟩
  obtain ⟨j, hj, rfl⟩ := List.getElem_of_mem hu
  rw [List.length_set] at hj
  rw [List.getElem_set]
  by_cases hij : i = j
  · rw [if_pos hij]
    exact ⟨E.zt, E.za, by show (upd H e.a (.lst vs')) e.t = _; rw [upd_ne (fun z => by have := E.ht; rw [z, E.ha] at this; cases this)]; exact E.ht, upd_same, da, bd⟩
  · rw [if_neg hij]
    have U := h.ent es[j] (List.getElem_mem hj)
    refine ⟨U.zt, U.za, ?_, ?_, U.da, U.bd⟩
    · rw [upd_ne (fun z => by have := U.ht; rw [z, E.ha] at this; cases this)]; exact U.ht
    · rw [upd_ne (fun z => ?_)]
      · exact U.ha
      · refine hij ?_
        have hl1 : i < (es.map (·.a)).length := by rw [List.length_map]; exact hil
        have hl2 : j < (es.map (·.a)).length := by rw [List.length_map]; exact hj
        refine (List.getElem_inj (h₀ := hl1) (h₁ := hl2) nd2.2).mp ?_
        rw [List.getElem_map, List.getElem_map, hie]; exact z.symm
theorem TrI.data (h : TrI l p c X H0 H f es) (sx : SX p c X H0) : Da X H (.ref f) (encRs l (es.map fun e => (e.row, e.n))) ∧ RsB (es.map fun e => (e.row, e.n)) := by
  refine ⟨.lst (sx.ne h.f0) h.hf ?_, ⟨by rw [List.length_map]; exact h.len, fun r hr => ?_⟩⟩
  · have ent := h.ent
    have kp := h.kp
    clear h
    induction es with
    | nil => exact .nil
    | cons e es ih =>
      have E := ent e List.mem_cons_self
      exact .cons (.tup (sx.ne E.zt) E.ht (.cons (.lst (sx.ne E.za) E.ha (E.da.keep (sx.k kp))) (.cons (.int _) .nil))) (ih fun u hu => ent u (List.mem_cons_of_mem _ hu))
  · obtain ⟨e, he, rfl⟩ := List.mem_map.mp hr
    exact (h.ent e he).bd
end
section
variable {P : Program} {w : World} {K : PySem.W.Frag} {mg : Str → Option Value} {base : Heap} {a : Nat → Addr} {d : Nat → FuncData} {C : Addr}
def spTrn : Sp := fun vs H Q _ => ∃ (p c : Addr) (X : List Addr) (l : Lab) (rs : List (List (List Id) × Int)) (v : V), vs = [.ref p, v] ∧ SX p c X H ∧ Da X H v (encRs l rs) ∧ RsB rs ∧
  ∀ q rs' H', RsB rs' → Sta p c H' → Keep [p, c] H H' → Da X H' q (encRs l rs') → Q q H'
theorem ok_trn (T : Tx K mg a d C) : FnOk P w K mg base CX0 3 (a 26) (d 26) ["_law_state_here", "_law_rows"] spTrn := by
  have G_drw : FnOk P w K mg base CX0 1 _ _ _ spDrw := ok_drw T
  have G_pck : FnOk P w K mg base CX0 2 _ _ _ spPck := ok_pck T
  refine T.trn.F.ok sc_trn (fun vs H Q E h => ?_) (fun cdv A outer s H vs Q E hr h => ?_)
  · obtain ⟨p, c, X, l, rs, v, rfl, _⟩ := h
    rfl
  · obtain ⟨p, c, X, l, rs, v, rfl, sx, drs, ok, k⟩ := h
    have nd := sc_trn.nd
    have hu := hu_of hr
    have hr_drw : Room 1 _ := hr.mono (by decide)
    have hr_pck : Room 2 _ := hr
    refine ⟨_, (pss_cons (ps_setLc (i := 2) (own := [("_law_row", 6), ("_law_number", 7)]) (g := gTup K 2 (gCons (gName 6) (gCons (gName 7) gNil))) (tt := tYes) (by rfl) nd rfl rfl (sw_true rfl rfl rfl (by decide +kernel)) (pi_listK K rfl (pv 1)) (blkOk_by (own := [("_law_row", 6), ("_law_number", 7)]) (N := N_trn) (sc := defScope s_trn) (by decide +kernel)) (fun _ _ _ _ _ => (pg_tupK K rfl (by rfl) (pgs_cons (pg_name (i := 6) nd rfl (by first | exact Or.inl rfl | exact Or.inr rfl)) (pgs_cons (pg_name (i := 7) nd rfl (by first | exact Or.inl rfl | exact Or.inr rfl)) pgs_nil)))) (fun _ _ _ _ _ => pts_nil) (fun _ _ _ _ _ => (pe_tup (pa_cons (pe_callTy (call_listK K rfl) (by rfl) T.list (by decide +kernel) (pa_cons (pv 6) pa_nil)) (pa_cons (pv 7) pa_nil)))))
      (pss_cons (ps_for PassesOwn.never rfl (pi_range1 (by rfl) T.range (pa_cons (pe_op op_add pe_int (pe_call G_drw hr_drw (by rfl) T.drw.m T.drw.F.kp T.drw.b .nil pass0 (pa_cons (pv 0) (pa_cons pe_int pa_nil)))) pa_nil)) (pg_name (i := 3) nd rfl (by first | exact Or.inl rfl | exact Or.inr rfl)) (pss_cons (ps_set (i := 4) nd rfl (by first | exact Or.inl rfl | exact Or.inr rfl) (pe_call G_drw hr_drw (by rfl) T.drw.m T.drw.F.kp T.drw.b .nil pass0 (pa_cons (pv 0) (pa_cons (pe_callB (call_lenK K rfl) (by rfl) T.len (by decide +kernel) (pa_cons (pv 2) pa_nil)) pa_nil))))
      (pss_cons (ps_set (i := 5) nd rfl (by first | exact Or.inl rfl | exact Or.inr rfl) (pe_call G_drw hr_drw (by rfl) T.drw.m T.drw.F.kp T.drw.b .nil pass0 (pa_cons (pv 0) (pa_cons pe_int pa_nil))))
      (pss_cons (ps_if (pt_cmpR op_eq (pe_callB (call_lenK K rfl) (by rfl) T.len (by decide +kernel) (pa_cons (pv 2) pa_nil)) pe_int (nomark _)) (pss_one (ps_ret (pe_lst (pa_cons (pe_tup (pa_cons (pe_lst pa_nil) (pa_cons pe_int pa_nil))) pa_nil)))) pss_nil)
      (pss_cons (ps_asg (pe_ix (ix_listK K rfl) (pv 2) (pv 4) (fun _ _ => rfl)) (pg_tupK K rfl (by rfl) (pgs_cons (pg_name (i := 6) nd rfl (by first | exact Or.inl rfl | exact Or.inr rfl)) (pgs_cons (pg_name (i := 7) nd rfl (by first | exact Or.inl rfl | exact Or.inr rfl)) pgs_nil))))
      (pss_one (ps_if (pt_cmpR op_eq (pv 5) pe_int (nomark _)) (pss_one (ps_expr (pe_bm PySem.F.plainAttrs_list PySem.F.slot_list_pop PySem.F.type_list_pop mt_popAt (pv 2) (pa_cons (pv 4) pa_nil)))) (pss_one (ps_if (pt_cmpR op_eq (pv 5) pe_int (nomark _)) (pss_one (ps_asg (pe_tup (pa_cons (pv 6) (pa_cons (pe_op op_add (pv 7) (pe_call G_pck hr_pck (by rfl) T.pck.m T.pck.F.kp T.pck.b .nil pass0 (pa_cons (pv 0) (pa_cons (pe_lst (pa_cons pe_int (pa_cons (pe_un un_neg pe_int) pa_nil))) pa_nil)))) pa_nil))) (pg_sub (pv 2) (pv 4) set_list))) (pss_one (ps_if (PW.pt (pw_and (pt_cmpR op_eq (pv 5) pe_int (nomark _)) (pw_and1 (pt_cmpR op_gt (pe_callB (call_lenK K rfl) (by rfl) T.len (by decide +kernel) (pa_cons (pv 6) pa_nil)) pe_int (nomark _))))) (pss_one (ps_expr (pe_bm PySem.F.plainAttrs_list PySem.F.slot_list_pop PySem.F.type_list_pop mt_popAt (pv 6) (pa_cons (pe_call G_drw hr_drw (by rfl) T.drw.m T.drw.F.kp T.drw.b .nil pass0 (pa_cons (pv 0) (pa_cons (pe_callB (call_lenK K rfl) (by rfl) T.len (by decide +kernel) (pa_cons (pv 6) pa_nil)) pa_nil))) pa_nil)))) (pss_one (ps_set (i := 2) nd rfl (by first | exact Or.inl rfl | exact Or.inr rfl) (pe_op op_cat (pe_slice (sl_listK K rfl) (pv 2) (po_some (pv 4)) po_none) (pe_slice (sl_listK K rfl) (pv 2) po_none (po_some (pv 4)))))))))))))))))
      (pss_one (ps_ret (pv 2))))), ?_⟩
    obtain ⟨ra, us, rfl, nra, hra, rr⟩ := drs.getL
    obtain ⟨zs, e1, e2, hz⟩ := rr.zip
    subst e1
    have hzl : zs.length = rs.length := by rw [← e2, List.length_map]
    have hn := ok.n
    refine ⟨_, rfl, ra, rfl, ⟨_, SqL.of hra⟩, fun F hF => lc_list (K := K) (a := ra) (xs := zs.map (·.1)) (fun i H' => ∃ es : List Te, Same H H' ∧ H' F = some (.lst (es.map fun e => V.ref e.t)) ∧ (∀ e ∈ es, Ent l X H H' e) ∧ (F :: es.map (·.a)).Nodup ∧ es.length ≤ i)
      ⟨[], Same.new hF, upd_same, by simp, by simp, Nat.le_refl _⟩ ?_ ?_ ?_⟩
    · rintro i H' _ ⟨es, s1, _⟩
      exact SqL.of (s1 _ _ hra)
    · rintro i v H' hi ⟨es, s1, hF1, hE, hnd, hel⟩
      obtain ⟨z, hzi, rfl, hri⟩ := zip_at hi
      rw [e2] at hri
      have hil : i < zs.length := (List.getElem?_eq_some_iff.mp hzi).1
      obtain ⟨pa, rv, hze, hpa, drv⟩ := rget (hz z (List.mem_of_getElem? hzi))
      rw [hze]
      obtain ⟨va, vs, rfl, nva, hva, rvs⟩ := drv.getL
      refine ⟨pa, _, rfl, SqT.of (s1 _ _ hpa), rfl, _, _, rfl, _, _, rfl, rfl, rfl, ?_⟩
      refine ⟨_, rfl, va, _, rfl, .inl (SqL.of (s1 _ _ hva)), fun q nq => ⟨_, rfl, (by show 2 ≤ sizeLine; decide), fun t nt => ?_⟩⟩
      have nqt : q ≠ t := fun z => by rw [z, upd_same] at nt; cases nt
      have nt1 : H' t = none := by rw [upd_ne nqt.symm] at nt; exact nt
      have nFq : F ≠ q := ne_of_none hF1 nq
      have nFt : F ≠ t := ne_of_none hF1 nt1
      have keepE : ∀ {o1 o2 o3 : HO} b o, H' b = some o → b ≠ F → (upd (upd (upd H' q o1) t o2) F o3) b = some o := fun b o e n => by
        rw [upd_ne n, upd_ne (ne_of_none e nt1), upd_ne (ne_of_none e nq)]; exact e
      refine ⟨es.map fun e => V.ref e.t, ?_, ?_, es ++ [⟨t, q, vs, z.2.1, z.2.2⟩], ?_, ?_, ?_, ?_, by simp; omega⟩
      · rw [upd_ne nFt, upd_ne nFq]; exact hF1
      · rw [List.length_map]; exact small1000 (by omega)
      · exact Same.over ((s1.trans (Same.new nq)).trans (Same.new nt)) hF
      · rw [List.map_append]; exact upd_same
      · intro e he
        rcases List.mem_append.mp he with he | he
        · have U := hE e he
          refine ⟨U.zt, U.za, keepE _ _ U.ht (fun z => by have := U.ht; rw [z, hF1] at this; cases this), keepE _ _ U.ha (fun z => ?_), U.da, U.bd⟩
          rw [List.nodup_cons] at hnd
          exact hnd.1 (by rw [← z]; exact List.mem_map.mpr ⟨e, he, rfl⟩)
        · rw [List.mem_singleton] at he
          subst he
          refine ⟨s1.free nt1, s1.free nq, ?_, ?_, rvs, ok.r _ (List.mem_of_getElem? hri)⟩
          · show (upd (upd (upd H' q _) t _) F _) t = _
            rw [upd_ne nFt.symm, upd_same]
          · show (upd (upd (upd H' q _) t _) F _) q = _
            rw [upd_ne nFq.symm, upd_ne nqt, upd_same]
      · rw [List.map_append]
        have := hnd
        rw [List.nodup_cons] at this
        rw [← List.cons_append, List.nodup_append]
        refine ⟨hnd, by simp, fun x hx y hy e => ?_⟩
        have : y = q := by simpa using hy
        subst this e
        rcases List.mem_cons.mp hx with rfl | hx
        · exact nFq rfl
        · obtain ⟨e', he', z⟩ := List.mem_map.mp hx
          have U := (hE e' he').ha
          rw [z, nq] at U
          cases U
    · rintro H1 ⟨es, s1, hF1, hE, hnd, hel⟩
      have I0 : TrI l p c X H H1 F es := ⟨sx.sta.same s1, Keep.of s1, hF, hF1, hE, hnd, by rw [List.length_map] at hel; omega⟩
      refine ⟨_, rfl, p, c, _, rfl, I0.sta, by decide, fun m H2 m0 m1 _ st2 kp2 => ?_⟩
      have m2 := m1 (by decide)
      refine ⟨1, m, rfl, rfl, 1 + m, rfl, by omega, by omega, for_range (lo := 0) (n := (1 + m).toNat) (fun i σ H' => ∃ (f : Addr) (x3 x4 x5 x6 x7 : Option V) (es : List Te), σ = [some (.ref p), some (.ref ra), some (.ref f), x3, x4, x5, x6, x7] ∧ TrI l p c X H H' f es)
        ⟨F, none, none, none, none, none, es, rfl, I0.step sx st2 kp2⟩ ?_ ?_⟩
      · rintro _ σ H2 _ ⟨f, x3, x4, x5, x6, x7, es, rfl, I⟩
        have hln : (es.map fun e => V.ref e.t).length = es.length := List.length_map _
        have hl2 := I.len
        refine ⟨_, rfl, _, rfl, f, _, rfl, .inl (SqL.of I.hf), p, c, _, rfl, I.sta, by omega, fun ix H3 a0 a1 a2 st3 kp3 => ?_⟩
        have I3 := I.step sx st3 kp3
        refine ⟨_, rfl, p, c, _, rfl, I3.sta, by decide, fun kd H4 k0 k1 _ st4 kp4 => ?_⟩
        have I4 := I3.step sx st4 kp4
        clear I I3
        refine ⟨_, rfl, f, _, rfl, .inl (SqL.of I4.hf), rfl, _, rfl, iteD (fun h0 => ?_) fun h0 => ?_⟩
        · -- nothing is left: a row of its own
          refine ⟨Nat.zero_le _, fun q1 n1 => ⟨(by show 2 ≤ sizeLine; decide), fun q2 n2 => ⟨(by show 1 ≤ sizeLine; decide), fun q3 n3 => ?_⟩⟩⟩
          have J1 := I4.new (o := .lst []) sx n1
          have J2 := J1.new (o := .tup [.ref q1, .int 1]) sx n2
          have J3 := J2.new (o := .lst [.ref q2]) sx n3
          have sx1 := sx.step J1.sta J1.kp
          have sx2 := sx.step J2.sta J2.kp
          have sx0 := sx.step I4.sta I4.kp
          refine k _ [([], 1)] _ ⟨by decide, fun r hr => by rw [List.mem_singleton] at hr; subst hr; exact ⟨by decide, by simp⟩⟩ J3.sta J3.kp (.lst (sx2.ne n3) upd_same (DaAll.one (.tup (sx1.ne n2) (upd_some upd_same n3) (.cons (.lst (sx0.ne n1) (upd_some (upd_some upd_same n2) n3) .nil) (.cons (.int 1) .nil)))))
        have hne : 0 < es.length := by
          rcases Nat.eq_zero_or_pos es.length with z | z
          · exact absurd (by rw [hln, z]; rfl) h0
          · exact z
        have hlt : ix < (es.length : Int) := by rw [hln] at a1; exact a1 (by omega)
        obtain ⟨i, rfl⟩ : ∃ i : Nat, ix = (i : Int) := ⟨ix.toNat, by omega⟩
        have hil : i < es.length := by omega
        obtain ⟨e, hie⟩ : ∃ e, es[i]? = some e := ⟨es[i], by simp [hil]⟩
        have he := List.mem_of_getElem? hie
        have E := I4.ent e he
        have hvi : (es.map fun e => V.ref e.t)[i]? = some (.ref e.t) := by rw [List.getElem?_map, hie]; rfl
        refine ⟨_, rfl, _, rfl, f, _, _, _, rfl, rfl, SqL.of I4.hf, atI_nat (j := i) hvi, e.t, _, rfl, SqT.of E.ht, rfl, _, _, rfl, _, _, rfl, rfl, ?_⟩
        have nd4 := I4.nd
        rw [List.nodup_cons] at nd4
        have hset : ∀ (e' : Te), e'.a = e.a → (es.set i e').map (·.a) = es.map (·.a) := fun e' ha => by
          refine List.ext_getElem? fun j => ?_
          rw [List.getElem?_map, List.getElem?_map, List.getElem?_set]
          have hie2 : es[i] = e := (List.getElem?_eq_some_iff.mp hie).2
          by_cases hj : i = j
          · subst hj; simp [hil, hie2, ha]
          · simp [hj]
        refine ⟨_, rfl, rfl, _, rfl, iteD (fun h1 => ?_) fun h1 => ?_⟩
        · -- it is thrown away
          refine ⟨_, rfl, .inl ⟨rfl, _, SqL.of I4.hf⟩, _, rfl, f, _, (i : Int), i, _, rfl, rfl, I4.hf, by omega, by omega, seqIx_nat (by omega), hvi, ?_⟩
          rw [mapErase]
          refine ⟨f, _, _, _, _, _, es.eraseIdx i, rfl, I4.put sx (fun u hu => I4.ent u (List.mem_of_mem_eraseIdx hu)) ?_ ?_⟩
          · rw [List.nodup_cons, ← mapErase]
            exact ⟨fun hm => nd4.1 (List.mem_of_mem_eraseIdx hm), nd4.2.sublist (List.eraseIdx_sublist _ _)⟩
          · have := (List.eraseIdx_sublist es i).length_le
            omega
        refine ⟨_, rfl, rfl, _, rfl, iteD (fun h2 => ?_) fun h2 => ?_⟩
        · -- its number is changed
          refine ⟨_, rfl, _, rfl, _, rfl, _, rfl, (by show 2 ≤ sizeLine; decide), fun r nr => ?_⟩
          have J1 := I4.new (o := .lst [.int 1, .int (-1)]) sx nr
          refine ⟨p, c, r, _, rfl, J1.sta, I4.sta.ne nr, upd_same, by simp, by simp, fun v H5 hv st5 kp5 => ?_⟩
          obtain ⟨dv, rfl⟩ : ∃ dv : Int, v = .int dv := by
            simp only [List.mem_cons, List.not_mem_nil, or_false] at hv
            rcases hv with rfl | rfl
            · exact ⟨1, rfl⟩
            · exact ⟨-1, rfl⟩
          have J5 := J1.step sx st5 kp5
          refine ⟨_, _, rfl, rfl, (by show 2 ≤ sizeLine; decide), fun t' nt' => ?_⟩
          have J6 := J5.new (o := .tup [.ref e.a, .int (e.n + dv)]) sx nt'
          have E6 := J6.ent e he
          have E' : Ent l X H (upd H5 t' (.tup [.ref e.a, .int (e.n + dv)])) { e with t := t', n := e.n + dv } := ⟨J5.kp.free J5.sta.dom nt', E6.za, upd_same, E6.ha, E6.da, E6.bd⟩
          generalize upd H5 t' (.tup [.ref e.a, .int (e.n + dv)]) = H6 at J6 E' ⊢
          refine ⟨_, rfl, _, rfl, f, _, (i : Int), i, rfl, rfl, J6.hf, ixN_nat (by omega), ?_⟩
          have em : (es.map fun e => V.ref e.t).set i (.ref t') = (es.set i { e with t := t', n := e.n + dv }).map fun e => V.ref e.t := by
            rw [List.map_set]
          rw [em]
          refine ⟨f, _, _, _, _, _, es.set i { e with t := t', n := e.n + dv }, rfl, J6.put sx (fun u hu => ?_) ?_ (by rw [List.length_set]; exact hl2)⟩
          · rcases List.mem_or_eq_of_mem_set hu with hu | hu
            · exact J6.ent u hu
            · rw [hu]; exact E'
          · rw [hset { e with t := t', n := e.n + dv } rfl]; exact J6.nd
        dsimp only
        refine ifAnd (fun _ q => ⟨_, rfl, rfl, _, rfl, q⟩) (fun _ _ q => ⟨_, rfl, e.a, _, rfl, .inl (SqL.of E.ha), _, _, rfl, rfl, _, rfl, q⟩) (fun _ h4 => ?_) fun _ => ?_
        · -- one cause is left out
          have hvl : e.vs.length = e.row.length := E.da.lenB
          have hv0 : (0 : Int) < ((e.vs.length : Nat) : Int) := of_decide_eq_true h4
          have hrb := E.bd
          refine ⟨_, rfl, .inl ⟨rfl, _, SqL.of E.ha⟩, _, rfl, _, rfl, e.a, _, rfl, .inl (SqL.of E.ha), p, c, _, rfl, I4.sta, by omega, fun jx H5 j0 j1 _ st5 kp5 => ?_⟩
          have J5 := I4.step sx st5 kp5
          have E5 := J5.ent e he
          have hj := j1 (by omega)
          obtain ⟨j, rfl⟩ : ∃ j : Nat, jx = (j : Int) := ⟨jx.toNat, by omega⟩
          have hjl : j < e.vs.length := by omega
          refine ⟨e.a, _, (j : Int), j, e.vs[j], rfl, rfl, E5.ha, by omega, by omega, seqIx_nat hjl, by simp, ?_⟩
          refine ⟨f, _, _, _, _, _, es.set i { e with vs := e.vs.eraseIdx j, row := e.row.eraseIdx j }, rfl, J5.inner sx hie ?_ ?_⟩
          · rw [← mapErase]; exact E5.da.erase j
          · refine ⟨?_, fun c' hc' => hrb.2 c' (List.mem_of_mem_eraseIdx hc')⟩
            have := (List.eraseIdx_sublist e.row j).length_le
            omega
        · -- they are turned round
          refine ⟨_, rfl, _, rfl, _, rfl, f, _, rfl, SqL.of I4.hf, fun q1 n1 => ?_⟩
          have J1 := I4.new (o := .lst (cutV (es.map fun e => V.ref e.t) (some (i : Int)) none)) sx n1
          have hq1 : (upd H4 q1 (.lst (cutV (es.map fun e => V.ref e.t) (some (i : Int)) none))) q1 = some (.lst (cutV (es.map fun e => V.ref e.t) (some (i : Int)) none)) := upd_same
          generalize upd H4 q1 (.lst (cutV (es.map fun e => V.ref e.t) (some (i : Int)) none)) = H5 at J1 hq1 ⊢
          refine ⟨_, rfl, _, rfl, _, rfl, f, _, rfl, SqL.of J1.hf, fun q2 n2 => ?_⟩
          have J2 := J1.new (o := .lst (cutV (es.map fun e => V.ref e.t) none (some (i : Int)))) sx n2
          have hq12 : (upd H5 q2 (.lst (cutV (es.map fun e => V.ref e.t) none (some (i : Int))))) q1 = some (.lst (cutV (es.map fun e => V.ref e.t) (some (i : Int)) none)) := upd_some hq1 n2
          rw [cut_from _ _ (by omega)] at hq12
          refine ⟨q1, q2, _, _, rfl, rfl, hq12, upd_same, ?_, fun q3 n3 => ?_⟩
          · rw [cut_to, List.length_drop, List.length_take]; exact line1000 (by omega)
          · rw [cut_to, ← List.map_take] at J2 n3
            rw [cut_to, ← List.map_drop, ← List.map_take, ← List.map_append]
            refine ⟨q3, _, _, _, _, _, es.drop i ++ es.take i, rfl, J2.renew sx n3 (fun u hu => ?_) ?_ ?_⟩
            · rcases List.mem_append.mp hu with hu | hu
              · exact List.mem_of_mem_drop hu
              · exact List.mem_of_mem_take hu
            · have pm : (es.drop i ++ es.take i).Perm es := by
                have := List.perm_append_comm (l₁ := es.drop i) (l₂ := es.take i)
                rw [List.take_append_drop] at this
                exact this
              exact (pm.map (·.a)).nodup_iff.mpr nd4.2
            · rw [List.length_append, List.length_drop, List.length_take]; omega
      · rintro σ H2 ⟨f, x3, x4, x5, x6, x7, es, rfl, I⟩
        obtain ⟨dd, bb⟩ := I.data sx
        exact ⟨_, rfl, k _ _ H2 bb I.sta I.kp dd⟩
end
end Qw
namespace Qw
open PySem L2 PySem.Spec PyProof.Rows
/-! ### a def that is run where no repr is under way -/
structure FnG (P : Program) (w : World) (K : PySem.W.Frag) (mg : Str → Option Value) (base : Heap) (n : Nat) (a : Addr) (dat : FuncData) (ns : List Str) (sp : Sp) : Prop where
  len : ∀ xs H Q E, sp xs H Q E → xs.length = ns.length
  go : ∀ (B : Around) (out : List Env) (z : Shared) (H : Hp) (bound : Args) (us : List Value) (xs : List V) (Q : VK) (E : XK), B.guards = some [] → Room n B → Env0 P w K mg base B out z H → BindsTo z dat bound (ns.zip us) → Vals xs us →
    sp xs H Q E → codeAny (model P w) B (.call (.ref a) bound) (CR CX0 out P w H z Q E) z
section
variable {P : Program} {w : World} {K : PySem.W.Frag} {mg : Str → Option Value} {base : Heap}
/-- its body walked -/
theorem fnG_of {name qual : Str} {st : Stmt} {a : Addr} {dat : FuncData} {N ns : List Str} {n : Nat} {sp : Sp} (F : Fun K name qual st a dat) (sc : FnScope N ns (defScope st)) (len : ∀ xs H Q E, sp xs H Q E → xs.length = ns.length)
    (walk : ∀ (cd : Value) (B : Around) (out : List Env) (z : Shared) (H : Hp) (xs : List V) (Q : VK) (E : XK), B.guards = some [] → Room n (B.deeper (envOfC qual (defScope st) z.heap.objs.size a cd)) → sp xs H Q E →
      ∃ t, PSs (cxOf CX0 P w K mg base N qual (defScope st) a cd B out z H E).nox (defBody st) t ∧ t { nx := fun _ H' => Q .non H', rt := Q } (start N xs) H) : FnG P w K mg base (n + 1) a dat ns sp := by
  obtain ⟨o1, o2, v1, v2, v3, o3, cd, v4, o4, rfl, found, code⟩ := F.ex
  constructor
  · exact len
  intro B out z H bound us xs Q E hG room e0 binds vals hsp
  have hlen := len _ _ _ _ hsp
  have keep : ∀ (b : Addr) (o : Obj), base.get? b = some o → z.heap.get? b = some o := fun b o e => (e0.bs b o e).1
  have inK : K.In z.heap := e0.mod.kin.keeps keep
  have par : ∀ y ∈ ns.zip us, (defScope st).names.lookup y.1 = some .local ∨ ((defScope st).names.lookup y.1 = some .cell ∧ ((cellsFrom (z.heap.objs.size + 1) (defScope st).names []).lookup y.1).isSome = true) := by
    rintro ⟨y, u⟩ hy
    rcases sc.par y (List.of_mem_zip hy).1 with h | h
    · left; exact h
    · right; exact ⟨h, PySem.W.cellsFrom_some _ _ _ (Or.inl h)⟩
  refine codeAny_call_function room.depth (inK _ _ found) rfl sc.co sc.gen rfl (PySem.W.codeRec_of inK code) (binds _ _ _ _ (wpAny_newFunctionEnv_cells sc.kind par fun env henv z1 laid => ?_))
  subst henv
  refine ⟨(e0.mod.nolimit.keeps keep).keeps laid.toInCall.keep, codeAny_func ?_⟩
  obtain ⟨t, body, reads⟩ := walk cd B out z H xs Q E hG (room.deeper _) hsp
  have inv : Inv (cxOf CX0 P w K mg base N qual (defScope st) a cd B out z H E) [] (start N xs) H z1 := inv_start sc room.hd e0 hlen vals laid
  refine wpAny_mono (body.nox.run [] z1 (start N xs) H _ inv reads) (fun end_ z2 h => ?_) fun _ _ h => h
  cases end_ with
  | next =>
    obtain ⟨σ2, H2, J, q⟩ := h
    exact ⟨V.non, H2, J.os, J.bare, J.base, J.hok, rfl, q⟩
  | ret u =>
    obtain ⟨x, σ2, H2, J, rel, q⟩ := h
    exact ⟨x, H2, J.os, J.bare, J.base, J.hok, rel, q⟩
  | brk =>
    obtain ⟨_, _, _, q⟩ := h
    exact q.elim
  | cont =>
    obtain ⟨_, _, _, q⟩ := h
    exact q.elim
theorem FnG.up {n m : Nat} {a : Addr} {dat : FuncData} {ns : List Str} {sp : Sp} (F : FnG P w K mg base n a dat ns sp) (h : n ≤ m) : FnG P w K mg base m a dat ns sp :=
  ⟨F.len, fun B out z H bound us xs Q E hG room => F.go B out z H bound us xs Q E hG (room.mono h)⟩
end
section
variable {Y : Cx} {n : Nat} {a : Addr} {dat : FuncData} {ns : List Str} {sp : Sp} {f : Str} {arg : Expr} {args : List Expr} {p0 p1 : Pos} {tas : TA}
/-- its call -/
theorem pe_callG (F : FnG Y.prog Y.w Y.K Y.mg Y.base n a dat ns sp) (hG : Y.A.guards = some []) (room : Room n Y.A) (gl : Gl Y f) (at_ : Y.mg f = some (.ref a)) (kept : PySem.W.keepIn Y.K (.ref a) = true) (binds : Binds Y.K dat ns []) (ta : PA Y (arg :: args) tas)
    (nodebug : (f == ("__debug__" : Str)) = false := by decide) (h1 : starEach (arg :: args) Y.env = (false, eval arg Y.env) :: starEach args Y.env := by rfl) (h2 : (backTo p1 (starEach args Y.env)).any (·.1) = false := by rfl) :
    PE Y (.Call (.Name f p0) (arg :: args) [] p1) (tCall sp [] E0 tas) := by
  constructor
  intro pins z σ H Q inv reads
  have step := ta.run p1 pins z σ H _ inv reads
  refine wpAny_Call_Name_kw (ld_glob inv gl at_ (PySem.W.callWith_K (h₀ := Y.base) inv.ok.mod.kin kept (thn step fun us z1 ⟨xs, H1, inv1, vals, q⟩ => ⟨inv1.kIn, wpAny_call ?_⟩) h1 h2) nodebug)
  have q : sp (xs ++ []) H1 Q E0 := q
  rw [List.append_nil] at q
  have hl : us.length = ns.length := vals.length.symm.trans (F.len _ _ _ _ q)
  have bd := binds z1 us inv1.kIn (by rw [List.append_nil]; exact hl)
  rw [List.append_nil] at bd
  refine codeAny_mono (F.go Y.A Y.stack z1 H1 ⟨us, []⟩ us xs Q E0 hG room inv1.env0 bd vals q) fun out z2 h => ?_
  cases out with
  | error _ => exact h.elim
  | ok fl =>
    cases fl with
    | ret u => exact inv1.after h
    | next => exact h.elim
    | brk => exact h.elim
    | cont => exact h.elim
end
end Qw
namespace Qw
open PySem L2 PyProof.Rows
/-! ### the texts that tell groups apart -/
def cp (d : PyData) : List Nat := d.shown.cps.toList
/-- no text is a beginning of another's -/
def Pf {β : Type} (T : β → List Nat) : Prop := ∀ x y r s, T x ++ r = T y ++ s → x = y ∧ r = s
/-- behind the first of a list -/
def more {β : Type} (T : β → List Nat) : List β → List Nat
  | [] => [93]
  | x :: xs => 44 :: 32 :: (T x ++ more T xs)
def lstT {β : Type} (T : β → List Nat) : List β → List Nat
  | [] => [91, 93]
  | x :: xs => 91 :: (T x ++ more T xs)
theorem more_pf {β : Type} {T : β → List Nat} (h : Pf T) : Pf (more T) := by
  intro xs
  induction xs with
  | nil =>
    intro ys r s e
    cases ys with
    | nil => exact ⟨rfl, by simpa [more] using e⟩
    | cons y ys => simp [more] at e
  | cons x xs ih =>
    intro ys r s e
    cases ys with
    | nil => simp [more] at e
    | cons y ys =>
      simp only [more, List.cons_append, List.cons.injEq, true_and, List.append_assoc] at e
      obtain ⟨rfl, e2⟩ := h _ _ _ _ e
      obtain ⟨rfl, e3⟩ := ih _ _ _ e2
      exact ⟨rfl, e3⟩
theorem lstT_pf {β : Type} {T : β → List Nat} (h : Pf T) (hd : ∀ x, ∃ c r, T x = c :: r ∧ c ≠ 93) : Pf (lstT T) := by
  intro xs ys r s e
  cases xs with
  | nil =>
    cases ys with
    | nil => exact ⟨rfl, by simpa [lstT] using e⟩
    | cons y ys =>
      obtain ⟨c, t, e1, n⟩ := hd y
      simp only [lstT, e1, List.cons_append, List.cons.injEq, true_and] at e
      exact absurd e.1.symm n
  | cons x xs =>
    cases ys with
    | nil =>
      obtain ⟨c, t, e1, n⟩ := hd x
      simp only [lstT, e1, List.cons_append, List.cons.injEq, true_and] at e
      exact absurd e.1 n
    | cons y ys =>
      simp only [lstT, List.cons_append, List.cons.injEq, true_and, List.append_assoc] at e
      obtain ⟨rfl, e2⟩ := h _ _ _ _ e
      obtain ⟨rfl, e3⟩ := more_pf h _ _ _ _ e2
      exact ⟨rfl, e3⟩
theorem cps_str (s : String) : (Str.ofString s).cps.toList = s.toList.map Char.toNat := signs_ofString s
theorem join_more {β : Type} (enc : β → PyData) : ∀ (x : β) (xs : List β), (Str.join ", " (PyData.shownAll ((x :: xs).map enc))).cps.toList ++ [93] = cp (enc x) ++ more (fun b => cp (enc b)) xs
  | x, [] => rfl
  | x, y :: ys => by
    have ih := join_more enc y ys
    show (Str.join ", " ((enc x).shown :: (enc y).shown :: PyData.shownAll (ys.map enc))).cps.toList ++ [93] = _
    rw [join_cons_cons, cps_toList_append, cps_toList_append]
    have e2 : ((", " : Str)).cps.toList = [44, 32] := by decide +kernel
    rw [e2, List.append_assoc]
    have ih' : (Str.join ", " ((enc y).shown :: PyData.shownAll (ys.map enc))).cps.toList ++ [93] = cp (enc y) ++ more (fun b => cp (enc b)) ys := ih
    rw [ih']
    show ((enc x).shown.cps.toList ++ [44, 32]) ++ _ = _
    rw [List.append_assoc]
    rfl
theorem cp_list {β : Type} (enc : β → PyData) (xs : List β) : cp (encL enc xs) = lstT (fun b => cp (enc b)) xs := by
  unfold cp encL
  have e0 : (PyData.list (xs.map enc)).shown = listText (PyData.shownAll (xs.map enc)) := by simp only [PyData.shown]
  rw [e0, listText_eq_join, cps_toList_append, cps_toList_append]
  have e1 : ((("[" : Str))).cps.toList = [91] := by decide +kernel
  have e2 : ((("]" : Str))).cps.toList = [93] := by decide +kernel
  rw [e1, e2]
  cases xs with
  | nil =>
    show [91] ++ (Str.join ", " []).cps.toList ++ [93] = [91, 93]
    decide +kernel
  | cons x xs =>
    rw [List.append_assoc, join_more]
    rfl
/-! ### ids -/
def idU (i : Id) : List Nat := cp (.str (authOf i.1)) ++ ([44, 32] ++ (cp (.int ((i.2.val : Int) + 1)) ++ [41]))
theorem cp_id (l : Lab) (i : Id) : cp (encI l i) = (40 :: (cp (encLab l) ++ [44, 32])) ++ idU i := by
  unfold idU cp encI
  have e0 : ∀ a b c : PyData, (PyData.tuple [a, b, c]).shown = ("(" : Str) ++ (a.shown ++ ", " ++ (b.shown ++ ", " ++ c.shown)) ++ (")" : Str) := fun a b c => by
    simp only [PyData.shown, PyData.shownAll]
    rfl
  rw [e0]
  simp only [cps_toList_append]
  have e1 : ((("(" : Str))).cps.toList = [40] := by decide +kernel
  have e2 : (((")" : Str))).cps.toList = [41] := by decide +kernel
  have e3 : ((", " : Str)).cps.toList = [44, 32] := by decide +kernel
  rw [e1, e2, e3]
  simp
theorem idU_pre : ∀ (a b : Fin 3) (m n : Fin 8), (idU (a, m)).isPrefixOf (idU (b, n)) = true → a = b ∧ m = n := by decide +kernel
theorem idU_pf : Pf idU := by
  intro x y r s e
  have key : ∀ {u v : Id} {p q : List Nat}, idU u ++ p = idU v ++ q → (idU u).length ≤ (idU v).length → u = v := by
    intro u v p q e hl
    have h1 : idU u <+: idU v ++ q := ⟨p, e⟩
    have h2 : idU v <+: idU v ++ q := ⟨q, rfl⟩
    have h3 := List.prefix_of_prefix_length_le h1 h2 hl
    obtain ⟨h4, h5⟩ := idU_pre u.1 v.1 u.2 v.2 (List.isPrefixOf_iff_prefix.mpr h3)
    exact Prod.ext h4 h5
  have : x = y := by
    rcases Nat.le_total (idU x).length (idU y).length with h | h
    · exact key e h
    · exact (key e.symm h).symm
  subst this
  exact ⟨rfl, List.append_cancel_left e⟩
theorem id_pf (l : Lab) : Pf fun i => cp (encI l i) := by
  intro x y r s e
  simp only [cp_id, List.append_assoc] at e
  exact idU_pf _ _ _ _ (List.append_cancel_left e)
theorem c_pf (l : Lab) : Pf fun c => cp (encC l c) := by
  have e : (fun c => cp (encC l c)) = lstT fun i => cp (encI l i) := funext fun c => cp_list (encI l) c
  rw [e]
  refine lstT_pf (id_pf l) fun i => ⟨40, (cp (encLab l) ++ [44, 32]) ++ idU i, ?_, by decide⟩
  rw [cp_id]; rfl
theorem g_pf (l : Lab) : Pf fun g => cp (encG l g) := by
  have e : (fun g => cp (encG l g)) = lstT fun c => cp (encC l c) := funext fun g => cp_list (encC l) g
  rw [e]
  refine lstT_pf (c_pf l) fun c => ?_
  rw [cp_list]
  cases c with
  | nil => exact ⟨91, _, rfl, by decide⟩
  | cons i c => exact ⟨91, _, rfl, by decide⟩
/-- two groups with one text are one -/
theorem shown_inj (l : Lab) {g h : List (List Id)} (e : (encG l g).shown = (encG l h).shown) : g = h := by
  refine (g_pf l g h [] [] ?_).1
  show cp (encG l g) ++ [] = cp (encG l h) ++ []
  unfold cp
  rw [e]
/-! ### sizes -/
theorem lab_len : ∀ (a : Fin 8) (m : Fin 3), (encLab (a, m)).shown.length ≤ 40 := by decide +kernel
theorem idU_len : ∀ (a : Fin 3) (m : Fin 8), (idU (a, m)).length ≤ 40 := by decide +kernel
theorem cp_len (d : PyData) : d.shown.length = (cp d).length := by
  unfold cp
  rw [Array.length_toList]; rfl
theorem id_len (l : Lab) (i : Id) : (encI l i).shown.length ≤ 100 := by
  rw [cp_len, cp_id]
  have h1 := idU_len i.1 i.2
  have h2 := lab_len l.1 l.2
  rw [cp_len] at h2
  simp only [List.length_append, List.length_cons, List.length_nil]
  have h1' : (idU i).length ≤ 40 := h1
  have h2' : (cp (encLab l)).length ≤ 40 := h2
  omega
theorem shownAll_sum {β : Type} (enc : β → PyData) (B : Nat) : ∀ xs : List β, (∀ x ∈ xs, (enc x).shown.length ≤ B) → ((PyData.shownAll (xs.map enc)).map (·.length)).sum ≤ B * xs.length ∧ (PyData.shownAll (xs.map enc)).length = xs.length
  | [], _ => by simp [PyData.shownAll]
  | x :: xs, h => by
    obtain ⟨h1, h2⟩ := shownAll_sum enc B xs fun y hy => h y (List.mem_cons_of_mem _ hy)
    have h3 := h x List.mem_cons_self
    have e : PyData.shownAll ((x :: xs).map enc) = (enc x).shown :: PyData.shownAll (xs.map enc) := rfl
    rw [e]
    simp only [List.map_cons, List.sum_cons, List.length_cons, h2]
    refine ⟨?_, trivial⟩
    rw [Nat.mul_add]
    omega
theorem list_len {β : Type} (enc : β → PyData) (B : Nat) (xs : List β) (h : ∀ x ∈ xs, (enc x).shown.length ≤ B) : (encL enc xs).shown.length ≤ (B + 2) * xs.length + 3 := by
  unfold encL
  have e0 : (PyData.list (xs.map enc)).shown = listText (PyData.shownAll (xs.map enc)) := by simp only [PyData.shown]
  rw [e0]
  have h1 := listText_len_le (PyData.shownAll (xs.map enc))
  obtain ⟨h2, h3⟩ := shownAll_sum enc B xs h
  rw [h3] at h1
  rw [Nat.add_mul]
  omega
theorem g_len (l : Lab) (g : List (List Id)) (hg : g.length ≤ 100) (hc : ∀ c ∈ g, c.length ≤ 100) : (encG l g).shown.length ≤ 1100000 := by
  have h1 : ∀ c ∈ g, (encC l c).shown.length ≤ 10300 := fun c h => by
    have h1 := list_len (encI l) 100 c fun i _ => id_len l i
    have h2 := hc c h
    have : (100 + 2) * c.length ≤ 102 * 100 := Nat.mul_le_mul_left _ h2
    show (encL (encI l) c).shown.length ≤ 10300
    omega
  have h2 := list_len (encC l) 10300 g h1
  have : (10300 + 2) * g.length ≤ 10302 * 100 := Nat.mul_le_mul_left _ hg
  show (encL (encC l) g).shown.length ≤ 1100000
  omega
/-! ### they can be shown -/
theorem id_show : ∀ (a : Fin 8) (m : Fin 3) (b : Fin 3) (n : Fin 8), (encI (a, m) (b, n)).showable = true := by decide +kernel
theorem all_show {β : Type} (enc : β → PyData) (h : ∀ x, (enc x).showable = true) : ∀ xs : List β, PyData.showableAll (xs.map enc) = true
  | [] => rfl
  | x :: xs => by
    rw [List.map_cons, PyData.showableAll, h x, all_show enc h xs]; rfl
theorem list_show {β : Type} (enc : β → PyData) (h : ∀ x, (enc x).showable = true) (xs : List β) : (encL enc xs).showable = true := by
  unfold encL
  rw [PyData.showable]
  exact all_show enc h xs
theorem g_show (l : Lab) (g : List (List Id)) : (encG l g).showable = true := list_show _ (fun c => list_show _ (fun i => id_show l.1 l.2 i.1 i.2) c) g
end Qw
namespace Qw
open PySem L2
/-- the key of a group -/
def kG (l : Lab) (g : List (List Id)) : Key := Sum.inr (encG l g).shown
theorem kG_inj {l : Lab} {g h : List (List Id)} (e : kG l g = kG l h) : g = h := shown_inj l (Sum.inr.inj e)
structure KfOk (l : Lab) (ps : List (List Id → Bool)) (cs : List (List Id)) (H : Hp) (kvs : List (Key × V)) : Prop where
  nd : (kvs.map (·.1)).Nodup
  ent : ∀ e ∈ kvs, ∃ g ∈ subs cs, e.1 = kG l g ∧ ∃ t b, e.2 = .ref t ∧ H t = some (.tup [.int (fw ps g : Nat), b])
theorem KfOk.keep {l : Lab} {ps : List (List Id → Bool)} {cs : List (List Id)} {H H' : Hp} {kvs : List (Key × V)} (h : KfOk l ps cs H kvs) (k : ∀ b xs, H b = some (.tup xs) → H' b = some (.tup xs)) : KfOk l ps cs H' kvs :=
  ⟨h.nd, fun e he => let ⟨g, hg, e1, t, b, e2, e3⟩ := h.ent e he; ⟨g, hg, e1, t, b, e2, k _ _ e3⟩⟩
theorem KfOk.store {l : Lab} {ps : List (List Id → Bool)} {cs : List (List Id)} {H : Hp} {kvs : List (Key × V)} {g : List (List Id)} {t : Addr} {b : V} (h : KfOk l ps cs H kvs) (hg : g ∈ subs cs) (ht : H t = some (.tup [.int (fw ps g : Nat), b])) : KfOk l ps cs H (putK kvs (kG l g) (.ref t)) := by
  unfold putK
  split
  · refine ⟨?_, fun e he => ?_⟩
    · have : (kvs.map fun kv => if kv.1 = kG l g then (kv.1, V.ref t) else kv).map (·.1) = kvs.map (·.1) := by
        rw [List.map_map]
        refine List.map_congr_left fun e _ => ?_
        show (if e.1 = kG l g then (e.1, V.ref t) else e).1 = e.1
        split <;> rfl
      rw [this]; exact h.nd
    · obtain ⟨e', he', rfl⟩ := List.mem_map.mp he
      by_cases hk : e'.1 = kG l g
      · rw [if_pos hk]; exact ⟨g, hg, hk, t, b, rfl, ht⟩
      · rw [if_neg hk]; exact h.ent e' he'
  · rename_i hany
    refine ⟨?_, fun e he => ?_⟩
    · rw [List.map_append, List.nodup_append]
      refine ⟨h.nd, by simp, fun x hx y hy e => ?_⟩
      have : y = kG l g := by simpa using hy
      rw [e, this] at hx
      obtain ⟨e', he', e2⟩ := List.mem_map.mp hx
      exact hany (List.any_eq_true.mpr ⟨e', he', decide_eq_true e2⟩)
    · rcases List.mem_append.mp he with he | he
      · exact h.ent e he
      · rw [List.mem_singleton] at he
        subst he
        exact ⟨g, hg, rfl, t, b, rfl, ht⟩
theorem KfOk.len {l : Lab} {ps : List (List Id → Bool)} {cs : List (List Id)} {H : Hp} {kvs : List (Key × V)} (h : KfOk l ps cs H kvs) (hn : cs.length ≤ 7) : kvs.length ≤ 128 := by
  have h1 := nodup_le (kvs.map (·.1)) ((subs cs).map (kG l)) h.nd fun x hx => by
    obtain ⟨e, he, rfl⟩ := List.mem_map.mp hx
    obtain ⟨g, hg, e1, _⟩ := h.ent e he
    rw [e1]
    exact List.mem_map.mpr ⟨g, hg, rfl⟩
  rw [List.length_map, List.length_map, subs_len] at h1
  have : 2 ^ cs.length ≤ 2 ^ 7 := Nat.pow_le_pow_right (by decide) hn
  have h7 : 2 ^ 7 = 128 := rfl
  omega
/-- over a heap where D alone may differ, D a dict -/
theorem keepDT {H H' : Hp} {D : Addr} {kvs : List (Key × V)} (hD : H D = some (.dK kvs)) (k : Keep [D] H H') {b : Addr} {xs : List V} (e : H b = some (.tup xs)) : H' b = some (.tup xs) := by
  refine k b _ (fun z => ?_) e
  have z : b = D := by simpa using z
  rw [z, hD] at e
  cases e
theorem keepDL {H H' : Hp} {D : Addr} {kvs : List (Key × V)} (hD : H D = some (.dK kvs)) (k : Keep [D] H H') {b : Addr} {xs : List V} (e : H b = some (.lst xs)) : H' b = some (.lst xs) := by
  refine k b _ (fun z => ?_) e
  have z : b = D := by simpa using z
  rw [z, hD] at e
  cases e
section
variable {P : Program} {w : World} {K : PySem.W.Frag} {mg : Str → Option Value} {base : Heap} {a : Nat → Addr} {d : Nat → FuncData} {C : Addr}
def spFew (L : Nat) : Sp := fun vs H Q _ => ∃ (X : List Addr) (l : Lab) (cs ts g : List (List Id)) (D : Addr) (x y : V) (kvs : List (Key × V)), vs = [y, x, .ref D] ∧ Dom X H ∧ D ∈ X ∧ Da X H x (encG l g) ∧ Da X H y (encG l ts) ∧ g ∈ subs cs ∧ g.length < L ∧ cs.length ≤ 7 ∧ ts.length ≤ 100 ∧ (∀ c ∈ cs, c.length ≤ 100) ∧
  H D = some (.dK kvs) ∧ KfOk l (ts.map bad) cs H kvs ∧
  ∀ t b H' kvs', H' D = some (.dK kvs') → KfOk l (ts.map bad) cs H' kvs' → Keep [D] H H' → H' t = some (.tup [.int (fw (ts.map bad) g : Nat), b]) → Q (.ref t) H'
theorem ok_few (T : Tx K mg a d C) : ∀ L, FnG P w K mg base (1 + L) (a 23) (d 23) ["_law_tests", "_law_group", "_law_known"] (spFew L)
  | 0 => by
    refine fnG_of (n := 0) T.few.F sc_few (fun vs H Q E h => ?_) (fun cdv A outer s H vs Q E hG hr h => ?_)
    · obtain ⟨X, l, cs, ts, g, D, x, y, kvs, rfl, _⟩ := h
      rfl
    · obtain ⟨X, l, cs, ts, g, D, x, y, kvs, rfl, _, _, _, _, _, hgl, _⟩ := h
      exact absurd hgl (Nat.not_lt_zero _)
  | L + 1 => by
    have G_few : FnG P w K mg base (1 + L) _ _ _ (spFew L) := ok_few T L
    have G_bad : FnOk P w K mg base CX0 1 _ _ _ spIsb := ok_bad T
    refine fnG_of T.few.F sc_few (fun vs H Q E h => ?_) (fun cdv A outer s H vs Q E hG hr h => ?_)
    · obtain ⟨X, l, cs, ts, g, D, x, y, kvs, rfl, _⟩ := h
      rfl
    · obtain ⟨X, l, cs, ts, g, D, x, y, kvs, rfl, dom, inD, dx, dy, hg, hgl, hc7, htl, hcl, hD, kn, k⟩ := h
      have nd := sc_few.nd
      have hu := hu_of hr
      have hr_few : Room (1 + L) _ := hr
      have hr_bad : Room 1 _ := hr.mono (Nat.le_add_right 1 L)
      refine ⟨_, (pss_cons (ps_set (i := 3) nd rfl (by first | exact Or.inl rfl | exact Or.inr rfl) (pe_callB (call_reprK K rfl hG hr.units) (by rfl) T.repr (by decide +kernel) (pa_cons (pv 1) pa_nil)))
      (pss_cons (ps_if (pt_cmp (pc_dnotin hu (pv 3) (pv 2))) (pss_cons (ps_set (i := 4) nd rfl (by first | exact Or.inl rfl | exact Or.inr rfl) (pe_tup (pa_cons pe_int (pa_cons pe_non pa_nil))))
      (pss_cons (ps_for PassesOwn.never rfl (pi_range1 (by rfl) T.range (pa_cons (pe_callB (call_lenK K rfl) (by rfl) T.len (by decide +kernel) (pa_cons (pv 0) pa_nil)) pa_nil)) (pg_name (i := 5) nd rfl (by first | exact Or.inl rfl | exact Or.inr rfl)) (pss_cons (ps_setLc (i := 6) (own := [("_law_cause", 9)]) (g := gName 9) (by rfl) nd rfl rfl (sw_true rfl rfl rfl (by decide +kernel)) (pi_listK K rfl (pv 1)) (blkOk_by (own := [("_law_cause", 9)]) (N := N_few) (sc := defScope s_few) (by decide +kernel)) (fun _ _ _ _ _ => (pg_name (i := 9) nd rfl (by first | exact Or.inl rfl | exact Or.inr rfl))) (fun _ _ _ _ _ => (pts_one (pt_val (pe_call G_bad hr_bad (by rfl) T.bad.m T.bad.F.kp T.bad.b .nil pass0 (pa_cons (pe_ix (ix_listK K rfl) (pv 0) (pv 5) (fun _ _ => rfl)) (pa_cons (pv 9) pa_nil)))))) (fun _ _ _ _ _ => (pv 9)))
      (pss_cons (ps_setLc (i := 7) (own := [("_law_cause", 9)]) (g := gName 9) (by rfl) nd rfl rfl (sw_true rfl rfl rfl (by decide +kernel)) (pi_listK K rfl (pv 1)) (blkOk_by (own := [("_law_cause", 9)]) (N := N_few) (sc := defScope s_few) (by decide +kernel)) (fun _ _ _ _ _ => (pg_name (i := 9) nd rfl (by first | exact Or.inl rfl | exact Or.inr rfl))) (fun _ _ _ _ _ => (pts_one (pt_not (pt_val (pe_call G_bad hr_bad (by rfl) T.bad.m T.bad.F.kp T.bad.b .nil pass0 (pa_cons (pe_ix (ix_listK K rfl) (pv 0) (pv 5) (fun _ _ => rfl)) (pa_cons (pv 9) pa_nil))))))) (fun _ _ _ _ _ => (pv 9)))
      (pss_one (ps_if (PW.pt (pw_and (pt_cmpR op_gt (pe_callB (call_lenK K rfl) (by rfl) T.len (by decide +kernel) (pa_cons (pv 6) pa_nil)) pe_int (nomark _)) (pw_and1 (pt_cmpR op_gt (pe_callB (call_lenK K rfl) (by rfl) T.len (by decide +kernel) (pa_cons (pv 7) pa_nil)) pe_int (nomark _))))) (pss_cons (ps_set (i := 8) nd rfl (by first | exact Or.inl rfl | exact Or.inr rfl) (pe_op op_add pe_int (pe_callB (call_max2 rfl) (by rfl) T.max (by decide +kernel) (pa_cons (pe_ix (ix_tupK K rfl) (pe_callG G_few hG hr_few (by rfl) T.few.m T.few.F.kp T.few.b (pa_cons (pv 0) (pa_cons (pv 6) (pa_cons (pv 2) pa_nil)))) pe_int (fun _ _ => rfl)) (pa_cons (pe_ix (ix_tupK K rfl) (pe_callG G_few hG hr_few (by rfl) T.few.m T.few.F.kp T.few.b (pa_cons (pv 0) (pa_cons (pv 7) (pa_cons (pv 2) pa_nil)))) pe_int (fun _ _ => rfl)) pa_nil)))))
      (pss_one (ps_if (PW.pt (pw_or (pt_cmpR op_isN (pe_ix (ix_tupK K rfl) (pv 4) pe_int (fun _ _ => rfl)) pe_non (nomark _)) (pw_or1 (pt_cmpR op_lt (pv 8) (pe_ix (ix_tupK K rfl) (pv 4) pe_int (fun _ _ => rfl)) (nomark _))))) (pss_one (ps_set (i := 4) nd rfl (by first | exact Or.inl rfl | exact Or.inr rfl) (pe_tup (pa_cons (pv 8) (pa_cons (pv 5) pa_nil))))) pss_nil))) pss_nil)))))
      (pss_one (ps_dput hu (pv 2) (pv 3) (pv 4)  rfl)))) pss_nil)
      (pss_one (ps_ret (pe_dget hu (pv 2) (pv 3) (fun _ _ => rfl)))))), ?_⟩
      obtain ⟨xa, xs, rfl, nxa, hxa, rxa⟩ := id dx.getL
      obtain ⟨zs, e1, e2, hz⟩ := rxa.zip
      subst e1
      have hzl : zs.length = g.length := by rw [← e2, List.length_map]
      obtain ⟨ya, ys, rfl, nya, hya, rya⟩ := id dy.getL
      have hyl : ys.length = ts.length := rya.lenB
      have hg7 : g.length ≤ 7 := Nat.le_trans (subs_le hg) hc7
      have hgc : ∀ c ∈ g, c.length ≤ 100 := fun c hc => hcl c (subs_mem hg c hc)
      have kX : ∀ {H1 H2 : Hp}, Keep [D] H1 H2 → Keep X H1 H2 := fun k => k.mono fun x hx => by
        have : x = D := by simpa using hx
        rw [this]; exact inD
      refine ⟨_, rfl, xa, encG l g, rfl, dx.D, g_show l g, PyData.hasDict_of_canLay _ ((eG l).lay g), Nat.le_trans ((eG l).dep g) (by decide), ?_, ?_⟩
      · have h1 := g_len l g (by omega) hgc
        have h2 := sizeLine_eq
        omega
      -- what is told in the end
      have fin : ∀ (x4 x5 x6 x7 x8 x9 : Option V) (H1 : Hp) (kvs1 : List (Key × V)) (v : V), H1 D = some (.dK kvs1) → KfOk l (ts.map bad) cs H1 kvs1 → Keep [D] H H1 → valV kvs1 (kG l g) = some v →
          tRet (tDGet (tVar 2) (tVar 3)) { nx := fun x H' => Q V.non H', rt := Q } [some (.ref ya), some (.ref xa), some (.ref D), some (.str (encG l g).shown), x4, x5, x6, x7, x8, x9] H1 := by
        intro x4 x5 x6 x7 x8 x9 H1 kvs1 v hD1 kn1 kp1 hv
        obtain ⟨g', _, e1, t, b, e2, ht⟩ := kn1.ent _ (valV_mem hv)
        have e1 := kG_inj e1
        subst e1
        have e2 : v = .ref t := e2
        subst e2
        have dg : DGet H1 D (.str (encG l g).shown) (some (.ref t)) := by rw [← hv]; exact DGet.k (k := kG l g) hD1
        exact ⟨_, rfl, _, rfl, D, _, rfl, dg, k t b H1 kvs1 hD1 kn1 kp1 ht⟩
      have dg0 : DGet H D (.str (encG l g).shown) (valV kvs (kG l g)) := DGet.k (k := kG l g) hD
      refine ⟨_, rfl, _, rfl, D, _, rfl, dg0, ?_⟩
      cases hv : valV kvs (kG l g) with
      | some v => exact ⟨_, rfl, iteF (fin none none none none none none H kvs v hD kn Keep.refl hv)⟩
      | none =>
        refine ⟨_, rfl, iteT ?_⟩
        refine ⟨(by show 2 ≤ sizeLine; decide), fun f0 nf0 => ?_⟩
        have hf0 : (upd H f0 (.tup [.int 0, .non])) f0 = some (.tup [.int ((none : Option Nat).getD 0 : Nat), .non]) := upd_same
        have s1 : Same H (upd H f0 (.tup [.int 0, .non])) := Same.new nf0
        generalize upd H f0 (.tup [.int 0, .non]) = H1 at hf0 s1 ⊢
        refine ⟨_, rfl, ya, _, rfl, .inl (SqL.of (s1 _ _ hya)), _, rfl, by omega, by omega, for_range (lo := 0) (n := ((ys.length : Nat) : Int).toNat) (fun i σ H' => ∃ (f : Addr) (x5 x6 x7 x8 x9 : Option V) (b : V) (kvs : List (Key × V)), σ = [some (.ref ya), some (.ref xa), some (.ref D), some (.str (encG l g).shown), some (.ref f), x5, x6, x7, x8, x9] ∧
            H' D = some (.dK kvs) ∧ KfOk l (ts.map bad) cs H' kvs ∧ Keep [D] H H' ∧
            H' f = some (.tup [.int ((((((ts.map bad).take i).filter fun p => sp p g).map fun p => 1 + max (fw (ts.map bad) (g.filter p)) (fw (ts.map bad) (g.filter fun x => !p x))).foldl lo none).getD 0 : Nat), b]) ∧
            (b = .non ↔ (((((ts.map bad).take i).filter fun p => sp p g).map fun p => 1 + max (fw (ts.map bad) (g.filter p)) (fw (ts.map bad) (g.filter fun x => !p x))).foldl lo none) = none))
          ⟨f0, none, none, none, none, none, .non, kvs, rfl, s1 _ _ hD, kn.keep fun b xs e => s1 _ _ e, Keep.of s1, hf0, by simp⟩ ?_ ?_⟩
        · rintro i σ H2 hi ⟨f, x5, x6, x7, x8, x9, b, kvs2, rfl, hD2, kn2, kp2, hf, hb⟩
          rw [Int.zero_add]
          have hit : i < ts.length := by omega
          obtain ⟨t, hti⟩ : ∃ t, ts[i]? = some t := ⟨ts[i], by simp [hit]⟩
          obtain ⟨tv, htv, dt⟩ := rya.get' (i := i) (d := encC l t) (by rw [List.getElem?_map, hti]; rfl)
          have htk : (ts.map bad).take (i + 1) = (ts.map bad).take i ++ [bad t] := take_succ_of (by rw [List.getElem?_map, hti]; rfl)
          rw [htk, List.filter_append, List.map_append, List.foldl_append]
          generalize (((((ts.map bad).take i).filter fun p => sp p g).map fun p => 1 + max (fw (ts.map bad) (g.filter p)) (fw (ts.map bad) (g.filter fun x => !p x))).foldl lo none) = o at hf hb ⊢
          have hya2 := keepDL hD kp2 hya
          have hxa2 := keepDL hD kp2 hxa
          have dt2 := dt.keep (kX kp2)
          have dom2 : Dom X H2 := fun x hx => by
            by_cases hxD : x = D
            · rw [hxD, hD2]; simp
            · intro z
              cases q : H x with
              | none => exact dom x hx q
              | some u => rw [kp2 x u (by simpa using hxD) q] at z; cases z
          -- the one side
          refine ⟨_, rfl, xa, rfl, ⟨_, SqL.of hxa2⟩, fun D3 hD3 => lcL (K := K) (γ := List Id) (fun c => if bad t c = true then some c else none) (RelD (D3 :: X) (encC l)) hD3 (SqL.of hxa2) (line1000 (by omega)) relD_st (fun m yz hm => ?_) fun H4 acc4 s4 e4 pr4 => ?_⟩
          · intro H' N2 M2 s _ hN2 hM2
            have my := List.mem_of_getElem? hm
            have dy := (hz yz my).keep (kX kp2)
            have mc : yz.2 ∈ g := by rw [← e2]; exact List.mem_map.mpr ⟨yz, my, rfl⟩
            refine ⟨rfl, _, rfl, _, rfl, ya, _, _, _, rfl, rfl, SqL.of (s _ _ hya2), atI_nat (j := i) htv, _, rfl, X, l, tv, yz.1, t, yz.2, rfl, dt2.same s, dy.same s, Nat.le_trans (hgc _ mc) (by decide), fun H'' s'' => ⟨_, rfl, iteB (fun hb => ⟨_, rfl, hN2 _ yz.2 _ (if_pos hb) s'' ((dy.off hD3).same (s.trans s''))⟩) fun hb => hM2 _ (if_neg (by rw [hb]; simp)) s''⟩⟩
          have r4 := relD_all pr4
          rw [e2, someIf_map (bad t) (fun c => c), List.map_id'] at r4
          -- the other
          refine ⟨_, rfl, xa, rfl, ⟨_, SqL.of (s4 _ _ hxa2)⟩, fun D5 hD5 => lcL (K := K) (γ := List Id) (fun c => if (fun c => !bad t c) c = true then some c else none) (RelD (D5 :: X) (encC l)) hD5 (SqL.of (s4 _ _ hxa2)) (line1000 (by omega)) relD_st (fun m yz hm => ?_) fun H5 acc5 s5 e5 pr5 => ?_⟩
          · intro H' N2 M2 s _ hN2 hM2
            have my := List.mem_of_getElem? hm
            have dy := ((hz yz my).keep (kX kp2)).same s4
            have mc : yz.2 ∈ g := by rw [← e2]; exact List.mem_map.mpr ⟨yz, my, rfl⟩
            refine ⟨rfl, _, rfl, _, rfl, ya, _, _, _, rfl, rfl, SqL.of (s _ _ (s4 _ _ hya2)), atI_nat (j := i) htv, _, rfl, X, l, tv, yz.1, t, yz.2, rfl, dt2.same (s4.trans s), dy.same s, Nat.le_trans (hgc _ mc) (by decide), fun H'' s'' => ⟨_, rfl, iteNB (fun hb => ⟨_, rfl, hN2 _ yz.2 _ (if_pos (by simp [hb])) s'' ((dy.off hD5).same (s.trans s''))⟩) fun hb => hM2 _ (if_neg (by simp [hb])) s''⟩⟩
          have r5 := relD_all pr5
          rw [e2, someIf_map (fun c => !bad t c) (fun c => c), List.map_id'] at r5
          have s45 := s4.trans s5
          have e4' := s5 _ _ e4
          have hsp := sp_lenC (p := bad t) (g := g) (m := acc4.length) (n := acc5.length) (by rw [r4.lenB]) (by rw [r5.lenB])
          have kp5 := kp2.trans (Keep.of s45)
          have hD5' := s45 _ _ hD2
          have kn5 : KfOk l (ts.map bad) cs H5 kvs2 := kn2.keep fun b xs e => s45 _ _ e
          have hf5 := s45 _ _ hf
          dsimp only
          refine ifAnd (fun _ q => ⟨_, rfl, D3, _, rfl, .inl (SqL.of e4'), _, _, rfl, rfl, _, rfl, q⟩) (fun _ _ q => ⟨_, rfl, D5, _, rfl, .inl (SqL.of e5), _, _, rfl, rfl, _, rfl, q⟩) (fun h3 h4 => ?_) fun h34 => ?_
          · have hs : sp (bad t) g = true := by rw [← hsp, Bool.and_eq_true]; exact ⟨h3, h4⟩
            have hls := sp_lens hs
            have sub1 : g.filter (bad t) ∈ subs cs := subs_filter hg
            have sub2 : (g.filter fun c => !bad t c) ∈ subs cs := subs_filter hg
            have d4 : Da X H5 (.ref D3) (encG l (g.filter (bad t))) := .lst (dom2.fresh hD3) e4' ((r4.tail).same s5)
            have d5 : Da X H5 (.ref D5) (encG l (g.filter fun c => !bad t c)) := .lst ((dom2.same s4).fresh hD5) e5 r5.tail
            have dy5 := (dy.keep (kX kp5))
            have dom5 := dom2.same s45
            refine ⟨_, rfl, _, rfl, _, rfl, X, l, cs, ts, _, D, _, _, kvs2, rfl, dom5, inD, d4, dy5, sub1, by omega, hc7, htl, hcl, hD5', kn5, fun t1 c1 H6 kvs6 hD6 kn6 kp6 ht1 => ?_⟩
            have dom6 : Dom X H6 := fun x hx => by
              by_cases hxD : x = D
              · rw [hxD, hD6]; simp
              · intro z
                cases q : H5 x with
                | none => exact dom5 x hx q
                | some u => rw [kp6 x u (by simpa using hxD) q] at z; cases z
            refine ⟨t1, _, 0, _, rfl, rfl, SqT.of ht1, atI_nat (j := 0) rfl, _, rfl, _, rfl, _, rfl, X, l, cs, ts, _, D, _, _, kvs6, rfl, dom6, inD, d5.keep (kX kp6), dy5.keep (kX kp6), sub2, by omega, hc7, htl, hcl, hD6, kn6, fun t2 c2 H7 kvs7 hD7 kn7 kp7 ht2 => ?_⟩
            refine ⟨t2, _, 0, _, rfl, rfl, SqT.of ht2, atI_nat (j := 0) rfl, _, _, rfl, _, _, rfl, rfl, ?_⟩
            have kp57 := kp6.trans kp7
            have hf7 := keepDT hD5' kp57 hf5
            have kp07 := kp5.trans kp57
            have hcnt : (1 + (if ((fw (ts.map bad) (g.filter fun k => !bad t k) : Nat) : Int) > ((fw (ts.map bad) (g.filter (bad t)) : Nat) : Int) then ((fw (ts.map bad) (g.filter fun k => !bad t k) : Nat) : Int) else ((fw (ts.map bad) (g.filter (bad t)) : Nat) : Int))) = ((1 + max (fw (ts.map bad) (g.filter (bad t))) (fw (ts.map bad) (g.filter fun k => !bad t k)) : Nat) : Int) := by
              split <;> omega
            dsimp only [gName]
            rw [hcnt]
            simp only [List.filter_cons, hs, if_true, List.filter_nil, List.map_cons, List.map_nil, List.foldl_cons, List.foldl_nil]
            generalize 1 + max (fw (ts.map bad) (g.filter (bad t))) (fw (ts.map bad) (g.filter fun k => !bad t k)) = cc
            refine ifOr (fun _ q => ⟨_, rfl, f, _, 1, _, rfl, rfl, SqT.of hf7, atI_nat (j := 1) rfl, rfl, _, rfl, q⟩) (fun _ _ q => ⟨_, rfl, _, rfl, f, _, 0, _, rfl, rfl, SqT.of hf7, atI_nat (j := 0) rfl, _, _, rfl, rfl, _, rfl, q⟩) (fun h12 => ?_) fun h1 h2 => ?_
            · have hlo : lo o cc = some cc := by
                cases o with
                | none => rfl
                | some m =>
                  have hbn : ¬ b = .non := fun z => by have := hb.mp z; cases this
                  rw [decide_eq_false hbn, Bool.false_or] at h12
                  have h3 : (cc : Int) < ((m : Nat) : Int) := of_decide_eq_true h12
                  show (if cc < m then some cc else some m) = some cc
                  rw [if_pos (by omega)]
              refine ⟨_, rfl, _, rfl, (by show 2 ≤ sizeLine; decide), fun f' nf' => ?_⟩
              have s8 : Same H7 (upd H7 f' (.tup [.int (cc : Int), .int (i : Int)])) := Same.new nf'
              refine ⟨f', _, _, _, _, _, .int (i : Int), kvs7, rfl, s8 _ _ hD7, kn7.keep fun b xs e => s8 _ _ e, kp07.trans (Keep.of s8), ?_, ?_⟩
              · rw [hlo]; exact upd_same
              · rw [hlo]; simp
            · have hlo : lo o cc = o := by
                cases o with
                | none => exact absurd (hb.mpr rfl) (of_decide_eq_false h1)
                | some m =>
                  have h3 : ¬ (cc : Int) < ((m : Nat) : Int) := of_decide_eq_false h2
                  show (if cc < m then some cc else some m) = some m
                  rw [if_neg (by omega)]
              refine ⟨f, _, _, _, _, _, b, kvs7, rfl, hD7, kn7, kp07, ?_, ?_⟩
              · rw [hlo]; exact hf7
              · rw [hlo]; exact hb
          · have hs : sp (bad t) g = false := by rw [← hsp]; exact h34
            simp only [List.filter_cons, hs, Bool.false_eq_true, if_false, List.filter_nil, List.map_nil, List.foldl_nil]
            exact ⟨f, _, _, _, _, _, b, kvs2, rfl, hD5', kn5, kp5, hf5, hb⟩
        · rintro σ H2 ⟨f, x5, x6, x7, x8, x9, b, kvs2, rfl, hD2, kn2, kp2, hf, hb⟩
          rw [List.take_of_length_le (by rw [List.length_map]; omega)] at hf
          have hf' : H2 f = some (.tup [.int (fw (ts.map bad) g : Nat), b]) := by rw [fw_eq]; exact hf
          refine ⟨_, rfl, _, rfl, _, rfl, D, _, rfl, DPut.k (k := kG l g) hD2 (small1000 (by have := kn2.len hc7; omega)), ?_⟩
          have kn3 := kn2.store hg hf'
          exact fin _ _ _ _ _ _ _ _ (.ref f) upd_same (kn3.keep fun b' xs e => keepDT hD2 (Keep.put (by simp)) e) (kp2.trans (Keep.put (by simp))) (by rw [valV_put, if_pos rfl])
end
end Qw
namespace Qw
open PySem L2
/-- x is not y, of two bools -/
def rNotBl : R2 := fun x y H Q => ∃ i j : Bool, x = .bl i ∧ y = .bl j ∧ Q (.bl (!decide (i = j))) H
theorem op_notBl {Z : Cx} : OpR Z (compareOp .IsNot) rNotBl := by
  intro pins s σ H x y v u Q I rx ry h
  obtain ⟨i, j, rfl, rfl, q⟩ := h
  obtain rfl : v = Value.bool i := rx
  obtain rfl : u = Value.bool j := ry
  refine wpAny_isNot_plain rfl (fin_bl I q ?_)
  cases i <;> cases j <;> rfl
/-- a test that is one of two, as a third tells -/
def tIfT (tc ta tb : TT) : TT := fun σ H Q => tc σ H fun c H1 => if c = true then ta σ H1 Q else tb σ H1 Q
theorem pt_ifE {Z : Cx} {c e1 e2 : Expr} {pos : Pos} {tc ta tb : TT} (hc : L2.PT Z c tc) (h1 : L2.PT Z e1 ta) (h2 : L2.PT Z e2 tb) : L2.PT Z (.IfExp c e1 e2 pos) (tIfT tc ta tb) := by
  constructor
  intro pins z σ H Q inv reads
  refine PyProof.Rows.isTrue_IfExp (wpAny_mono (hc.run pins z σ H _ inv reads) (fun c z1 h => ?_) fun _ _ h => h)
  obtain ⟨H1, inv1, q⟩ := h
  cases c with
  | true =>
    rw [if_pos rfl] at q
    exact h1.run pins z1 σ H1 _ inv1 q
  | false =>
    rw [if_neg Bool.false_ne_true] at q
    exact h2.run pins z1 σ H1 _ inv1 q
/-- an if whose test fails -/
theorem seqNo {t : TT} {A R : TS} {D : Ends} {σ : St} {H : Hp} (h : ∀ Q : Bool → Hp → Prop, (∀ H', Same H H' → Q false H') → t σ H Q) (hr : ∀ H', Same H H' → R D σ H') : tSeq (tIfS t A tNext) R D σ H :=
  h _ fun H' s => iteF (hr H' s)
/-! ### the shield that is made is right -/
theorem named (cs : List (List Id)) : (List.range cs.length).map (fun k => cs.getD k []) = cs := range_getD cs []
theorem fw_named (cs ts : List (List Id)) (g : List Nat) : fw (ts.map bad) (g.map fun k => cs.getD k []) = fw (qsOf cs ts) g := by
  refine fw_map (by unfold qsOf; rw [List.length_map, List.length_map]) fun i p q hp hq x _ => ?_
  unfold qsOf at hq
  rw [List.getElem?_map] at hp hq
  cases e : ts[i]? with
  | none => rw [e] at hp; cases hp
  | some t =>
    rw [e] at hp hq
    rw [← Option.some.inj hp, ← Option.some.inj hq]
theorem filter_named (cs : List (List Id)) (t : List Id) (g : List Nat) : (g.map fun k => cs.getD k []).filter (bad t) = (g.filter fun k => bad t (cs.getD k [])).map fun k => cs.getD k [] := filter_map_of fun _ _ => rfl
theorem filter_named' (cs : List (List Id)) (t : List Id) (g : List Nat) : ((g.map fun k => cs.getD k []).filter fun c => !bad t c) = (g.filter fun k => !bad t (cs.getD k [])).map fun k => cs.getD k [] := filter_map_of (p := fun c => !bad t c) fun _ _ => rfl
theorem sp_named (cs : List (List Id)) (t : List Id) (g : List Nat) : sp (bad t) (g.map fun k => cs.getD k []) = sp (fun k => bad t (cs.getD k [])) g := by
  unfold sp
  rw [filter_named, filter_named']
  simp
theorem rows_ok {cs ts : List (List Id)} {fs : List (List Nat)} (h : ShEnd cs.length (qsOf cs ts) fs) : shieldOk (ts.map bad) cs (rowsOf cs (qsOf cs ts) fs) = true := by
  have e : rowsOf cs (qsOf cs ts) fs = (fs.map fun g => g.map fun k => cs.getD k []).map fun g => (g, (fw (ts.map bad) g : Int)) := by
    unfold rowsOf
    rw [List.map_map]
    refine List.map_congr_left fun g _ => ?_
    show (g.map _, ((fw (qsOf cs ts) g : Nat) : Int)) = (g.map _, ((fw (ts.map bad) (g.map fun k => cs.getD k []) : Nat) : Int))
    rw [fw_named]
  rw [e]
  refine shield_made (fun g' hg' x hx => ?_) (fun g' hg' => ?_) fun g' hg' p hp hs => ?_
  · obtain ⟨g, hg, rfl⟩ := List.mem_map.mp hg'
    obtain ⟨k, hk, rfl⟩ := List.mem_map.mp hx
    have hkn : k < cs.length := List.mem_range.mp (subs_mem (h.sf g hg) k hk)
    rw [List.getD_eq_getElem?_getD, List.getElem?_eq_getElem hkn]
    exact List.getElem_mem hkn
  · obtain ⟨g, hg, rfl⟩ := List.mem_map.mp hg'
    rw [fw_named]; exact h.pos g hg
  · obtain ⟨g, hg, rfl⟩ := List.mem_map.mp hg'
    obtain ⟨t, ht, rfl⟩ := List.mem_map.mp hp
    rw [sp_named] at hs
    have hq : (fun k => bad t (cs.getD k [])) ∈ qsOf cs ts := List.mem_map.mpr ⟨t, ht, rfl⟩
    rw [filter_named, filter_named', fw_named, fw_named]
    rcases h.hb g hg _ hq hs with ⟨h1, h2⟩ | ⟨h1, h2⟩
    · exact .inl ⟨h1, fun z => List.mem_map.mpr ⟨_, h2 z, rfl⟩⟩
    · exact .inr ⟨h1, List.mem_map.mpr ⟨_, h2, rfl⟩⟩
/-- its first row is the whole -/
theorem rows_head {cs ts : List (List Id)} {fs : List (List Nat)} (h : ShEnd cs.length (qsOf cs ts) fs) :
    (0 < fw (ts.map bad) cs → (rowsOf cs (qsOf cs ts) fs).take 1 = [(cs, (fw (ts.map bad) cs : Int))]) ∧ (fw (ts.map bad) cs = 0 → rowsOf cs (qsOf cs ts) fs = []) := by
  have e : fw (ts.map bad) cs = fw (qsOf cs ts) (List.range cs.length) := by
    have := fw_named cs ts (List.range cs.length)
    rw [named] at this
    exact this
  rw [e]
  rcases h.hd with ⟨h1, h2⟩ | ⟨h1, h2⟩
  · refine ⟨fun z => by omega, fun _ => by rw [h2]; rfl⟩
  · refine ⟨fun _ => ?_, fun z => by omega⟩
    cases fs with
    | nil => cases h2
    | cons g fs =>
      have hg : g = List.range cs.length := Option.some.inj h2
      subst hg
      show [(_, _)] = _
      rw [named]
theorem rows_bd {cs ts : List (List Id)} {fs : List (List Nat)} (h : ShEnd cs.length (qsOf cs ts) fs) (hc : cs.length ≤ 7) (hl : ∀ c ∈ cs, c.length ≤ 2) : RsB (rowsOf cs (qsOf cs ts) fs) := by
  refine ⟨by unfold rowsOf; rw [List.length_map]; have := h.len hc; omega, fun r hr => ?_⟩
  obtain ⟨g, hg, rfl⟩ := List.mem_map.mp hr
  have h1 := subs_le (h.sf g hg)
  rw [List.length_range] at h1
  refine ⟨by show (g.map _).length ≤ 100; rw [List.length_map]; omega, fun c hc' => ?_⟩
  obtain ⟨k, hk, rfl⟩ := List.mem_map.mp hc'
  have hkn : k < cs.length := List.mem_range.mp (subs_mem (h.sf g hg) k hk)
  rw [List.getD_eq_getElem?_getD, List.getElem?_eq_getElem hkn]
  exact Nat.le_trans (hl _ (List.getElem_mem hkn)) (by decide)
/-- the causes and the tests as one -/
def encCT (l : Lab) (cs ts : List (List Id)) : PyData := .tuple [encG l cs, encG l ts]
theorem ct_show (l : Lab) (cs ts : List (List Id)) (hc : cs.length ≤ 100) (hl : ∀ c ∈ cs, c.length ≤ 100) (ht : ts.length ≤ 100) (htl : ∀ t ∈ ts, t.length ≤ 100) :
    (encCT l cs ts).showable = true ∧ (encCT l cs ts).hasDict = false ∧ (encCT l cs ts).depth ≤ 40 ∧ (encCT l cs ts).shown.length ≤ sizeLine := by
  have e0 : (encCT l cs ts).shown = tupleText [(encG l cs).shown, (encG l ts).shown] := by
    unfold encCT
    simp only [PyData.shown, PyData.shownAll]
  refine ⟨?_, ?_, ?_, ?_⟩
  · unfold encCT
    simp only [PyData.showable, PyData.showableAll, Bool.and_true]
    rw [g_show, g_show]; rfl
  · unfold encCT
    simp only [PyData.hasDict, PyData.hasDictAll, Bool.or_false]
    rw [PyData.hasDict_of_canLay _ ((eG l).lay cs), PyData.hasDict_of_canLay _ ((eG l).lay ts)]; rfl
  · unfold encCT
    have h1 := (eG l).dep cs
    have h2 := (eG l).dep ts
    simp only [PyData.depth, PyData.depthAll]
    omega
  · rw [e0]
    have h1 := tupleText_len_le [(encG l cs).shown, (encG l ts).shown]
    have h2 := g_len l cs hc hl
    have h3 := g_len l ts ht htl
    have h4 := sizeLine_eq
    simp only [List.map_cons, List.map_nil, List.sum_cons, List.sum_nil, List.length_cons, List.length_nil] at h1
    omega
section
variable {P : Program} {w : World} {K : PySem.W.Frag} {mg : Str → Option Value} {base : Heap} {a : Nat → Addr} {d : Nat → FuncData} {C : Addr}
/-- what stands through the turns -/
structure LwI (l : Lab) (cs ts : List (List Id)) (rs : List (List (List Id) × Int)) (p c D : Addr) (w1 w2 rv : V) (H : Hp) : Prop where
  sx : SX p c [D, p, c] H
  ne : D ∉ [p, c]
  kn : ∃ kvs, H D = some (.dK kvs) ∧ KfOk l (ts.map bad) cs H kvs
  d1 : Da [D, p, c] H w1 (encG l cs)
  d2 : Da [D, p, c] H w2 (encG l ts)
  dr : Da [D, p, c] H rv (encRs l rs)
theorem LwI.step {l : Lab} {cs ts : List (List Id)} {rs : List (List (List Id) × Int)} {p c D : Addr} {w1 w2 rv : V} {H H' : Hp} (h : LwI l cs ts rs p c D w1 w2 rv H) (s : Sta p c H') (k : Keep [p, c] H H') : LwI l cs ts rs p c D w1 w2 rv H' := by
  refine ⟨h.sx.step s k, h.ne, ?_, h.d1.keep (h.sx.k k), h.d2.keep (h.sx.k k), h.dr.keep (h.sx.k k)⟩
  obtain ⟨kvs, h1, h2⟩ := h.kn
  refine ⟨kvs, k _ _ h.ne h1, h2.keep fun b xs e => k _ _ (fun hm => ?_) e⟩
  obtain ⟨_, ns, s0, q1, q2, _⟩ := h.sx.sta
  simp only [List.mem_cons, List.not_mem_nil, or_false] at hm
  rcases hm with rfl | rfl
  · rw [q1] at e; cases e
  · rw [q2] at e; cases e
theorem LwI.same {l : Lab} {cs ts : List (List Id)} {rs : List (List (List Id) × Int)} {p c D : Addr} {w1 w2 rv : V} {H H' : Hp} (h : LwI l cs ts rs p c D w1 w2 rv H) (k : Same H H') : LwI l cs ts rs p c D w1 w2 rv H' := h.step (h.sx.sta.same k) (Keep.of k)
theorem LwI.memo {l : Lab} {cs ts : List (List Id)} {rs : List (List (List Id) × Int)} {p c D : Addr} {w1 w2 rv : V} {H H' : Hp} {kvs : List (Key × V)} (h : LwI l cs ts rs p c D w1 w2 rv H) (k : Keep [D] H H') (hD : H' D = some (.dK kvs)) (kn : KfOk l (ts.map bad) cs H' kvs) : LwI l cs ts rs p c D w1 w2 rv H' := by
  have kX : Keep [D, p, c] H H' := k.mono fun x hx => by simp at hx; simp [hx]
  have s := h.sx.sta.off k (fun z => h.ne (by simp [z])) (fun z => h.ne (by simp [z]))
  refine ⟨⟨s, fun x hx z => ?_, h.sx.sub⟩, h.ne, ⟨kvs, hD, kn⟩, h.d1.keep kX, h.d2.keep kX, h.dr.keep kX⟩
  rcases List.mem_cons.mp hx with rfl | hx
  · rw [hD] at z; cases z
  · exact s.dom x hx z
def spLaw (K : PySem.W.Frag) : Sp := fun vs H Q _ => ∃ (q : Addr) (ns : List Int), vs = [.ref q] ∧ SqL K H q (ns.map V.int) ∧ ns.length ≤ 63 ∧ ∀ H', Q (.bl true) H'
theorem ok_law (T : Tx K mg a d C) : FnG P w K mg base 12 (a 27) (d 27) ["_law_script"] (spLaw K) := by
  have G_sta : FnOk P w K mg base CX0 1 _ _ _ (spSta K) := ok_sta T
  have G_cas : FnOk P w K mg base CX0 6 _ _ _ spCas := ok_cas T
  have G_few : FnG P w K mg base 9 _ _ _ (spFew 8) := ok_few T 8
  have G_shi : FnOk P w K mg base CX0 11 _ _ _ spShi := ok_shi T
  have G_shr : FnOk P w K mg base CX0 2 _ _ _ spShr := ok_shr T
  have G_rgt : FnOk P w K mg base CX0 2 _ _ _ spShr := ok_rgt T
  have G_trn : FnOk P w K mg base CX0 3 _ _ _ spTrn := ok_trn T
  refine fnG_of T.law.F sc_law (fun vs H Q E h => ?_) (fun cdv A outer s H vs Q E hG hr h => ?_)
  · obtain ⟨q, ns, rfl, _⟩ := h
    rfl
  · obtain ⟨q, ns, rfl, hq, hl, k⟩ := h
    have nd := sc_law.nd
    have hu := hu_of hr
    have hr_sta : Room 1 _ := hr.mono (by decide)
    have hr_cas : Room 6 _ := hr.mono (by decide)
    have hr_few : Room 9 _ := hr.mono (by decide)
    have hr_shi : Room 11 _ := hr
    have hr_shr : Room 2 _ := hr.mono (by decide)
    have hr_rgt : Room 2 _ := hr.mono (by decide)
    have hr_trn : Room 3 _ := hr.mono (by decide)
    refine ⟨_, (pss_cons (ps_set (i := 1) nd rfl (by first | exact Or.inl rfl | exact Or.inr rfl) (pe_call G_sta hr_sta (by rfl) T.sta.m T.sta.F.kp T.sta.b .nil pass0 (pa_cons (pv 0) pa_nil)))
      (pss_cons (ps_asg (pe_call G_cas hr_cas (by rfl) T.cas.m T.cas.F.kp T.cas.b .nil pass0 (pa_cons (pv 1) pa_nil)) (pg_tupK K rfl (by rfl) (pgs_cons (pg_name (i := 7) nd rfl (by first | exact Or.inl rfl | exact Or.inr rfl)) (pgs_cons (pg_name (i := 8) nd rfl (by first | exact Or.inl rfl | exact Or.inr rfl)) pgs_nil))))
      (pss_cons (ps_set (i := 2) nd rfl (by first | exact Or.inl rfl | exact Or.inr rfl) (pe_callB (call_reprK K rfl hG hr.units) (by rfl) T.repr (by decide +kernel) (pa_cons (pe_tup (pa_cons (pv 7) (pa_cons (pv 8) pa_nil))) pa_nil)))
      (pss_cons (ps_set (i := 3) nd rfl (by first | exact Or.inl rfl | exact Or.inr rfl) pe_dnewK)
      (pss_cons (ps_set (i := 4) nd rfl (by first | exact Or.inl rfl | exact Or.inr rfl) (pe_ix (ix_tupK K rfl) (pe_callG G_few hG hr_few (by rfl) T.few.m T.few.F.kp T.few.b (pa_cons (pv 8) (pa_cons (pv 7) (pa_cons (pv 3) pa_nil)))) pe_int (fun _ _ => rfl)))
      (pss_cons (ps_set (i := 5) nd rfl (by first | exact Or.inl rfl | exact Or.inr rfl) (pe_call G_shi hr_shi (by rfl) T.shi.m T.shi.F.kp T.shi.b .nil pass0 (pa_cons (pv 7) (pa_cons (pv 8) pa_nil))))
      (pss_cons (ps_if (pt_ifE (pt_cmpR op_gt (pv 4) pe_int (nomark _)) (pt_cmpR (op_neDK K rfl hr.units) (pe_slice (sl_listK K rfl) (pv 5) po_none (po_some pe_int)) (pe_lst (pa_cons (pe_tup (pa_cons (pv 7) (pa_cons (pv 4) pa_nil))) pa_nil)) (nomark _)) (pt_cmpR (op_neDK K rfl hr.units) (pv 5) (pe_lst pa_nil) (nomark _))) (pss_one (ps_ret pe_bl)) pss_nil)
      (pss_cons (ps_if (PW.pt (pw_or (pt_cmpR op_notBl (pe_call G_shr hr_shr (by rfl) T.shr.m T.shr.F.kp T.shr.b .nil pass0 (pa_cons (pv 7) (pa_cons (pv 8) (pa_cons (pv 5) pa_nil)))) pe_bl (nomark _)) (pw_or1 (pt_not (pt_val (pe_call G_rgt hr_rgt (by rfl) T.rgt.m T.rgt.F.kp T.rgt.b .nil pass0 (pa_cons (pv 7) (pa_cons (pv 8) (pa_cons (pv 5) pa_nil))))))))) (pss_one (ps_ret pe_bl)) pss_nil)
      (pss_cons (ps_for PassesOwn.never rfl (pi_range1 (by rfl) T.range (pa_cons pe_int pa_nil)) (pg_name (i := 6) nd rfl (by first | exact Or.inl rfl | exact Or.inr rfl)) (pss_cons (ps_set (i := 9) nd rfl (by first | exact Or.inl rfl | exact Or.inr rfl) (pe_call G_trn hr_trn (by rfl) T.trn.m T.trn.F.kp T.trn.b .nil pass0 (pa_cons (pv 1) (pa_cons (pv 5) pa_nil))))
      (pss_cons (ps_set (i := 10) nd rfl (by first | exact Or.inl rfl | exact Or.inr rfl) (pe_call G_shr hr_shr (by rfl) T.shr.m T.shr.F.kp T.shr.b .nil pass0 (pa_cons (pv 7) (pa_cons (pv 8) (pa_cons (pv 9) pa_nil)))))
      (pss_cons (ps_if (PW.pt (pw_or (pt_not (pt_val (pe_callB (call_isiK2 K rfl) (by rfl) T.isinstance (by decide +kernel) (pa_cons (pv 10) (pa_cons (pe_bltn (v := .ty "bool") (u := .type "bool") (by rfl) T.bool (by decide +kernel) rfl) pa_nil))))) (pw_or1 (pt_cmpR op_ne (pv 10) (pe_call G_rgt hr_rgt (by rfl) T.rgt.m T.rgt.F.kp T.rgt.b .nil pass0 (pa_cons (pv 7) (pa_cons (pv 8) (pa_cons (pv 9) pa_nil)))) (nomark _))))) (pss_one (ps_ret pe_bl)) pss_nil)
      (pss_one (ps_if (pt_val (pv 10)) (pss_one (ps_for PassesOwn.never rfl (pi_listK K rfl (pv 9)) (pg_tupK K rfl (by rfl) (pgs_cons (pg_name (i := 11) nd rfl (by first | exact Or.inl rfl | exact Or.inr rfl)) (pgs_cons (pg_name (i := 12) nd rfl (by first | exact Or.inl rfl | exact Or.inr rfl)) pgs_nil))) (pss_cons (ps_setLc (i := 13) (own := [("_law_cause", 14)]) (g := gName 14) (by rfl) nd rfl rfl (sw_true rfl rfl rfl (by decide +kernel)) (pi_listK K rfl (pv 7)) (blkOk_by (own := [("_law_cause", 14)]) (N := N_law) (sc := defScope s_law) (by decide +kernel)) (fun _ _ _ _ _ => (pg_name (i := 14) nd rfl (by first | exact Or.inl rfl | exact Or.inr rfl))) (fun _ _ _ _ _ => (pts_one (pt_cmpR (op_inDK K rfl hr.un65) (pv 14) (pv 11) (by rfl)))) (fun _ _ _ _ _ => (pv 14)))
      (pss_one (ps_if (pt_cmpR op_lt (pe_ix (ix_tupK K rfl) (pe_callG G_few hG hr_few (by rfl) T.few.m T.few.F.kp T.few.b (pa_cons (pv 8) (pa_cons (pv 13) (pa_cons (pv 3) pa_nil)))) pe_int (fun _ _ => rfl)) (pv 12) (nomark _)) (pss_one (ps_ret pe_bl)) pss_nil))))) pss_nil))))))
      (pss_one (ps_ret (pe_cmpR op_eq (pe_callB (call_reprK K rfl hG hr.units) (by rfl) T.repr (by decide +kernel) (pa_cons (pe_tup (pa_cons (pv 7) (pa_cons (pv 8) pa_nil))) pa_nil)) (pv 2) (nomark _))))))))))))), ?_⟩
    -- the state, the case
    refine ⟨_, rfl, q, ns, rfl, hq, hl, fun p c H1 zp zc st1 s1 => ?_⟩
    have sx1 : SX p c [p, c] H1 := ⟨st1, st1.dom, fun x hx => hx⟩
    refine ⟨_, rfl, p, c, [p, c], rfl, sx1, fun l cs ts v H2 hc7 hc2 ht12 ht8 st2 kp2 dv => ?_⟩
    have sx2 := sx1.step st2 kp2
    obtain ⟨pa, xs, rfl, _, hpa, rt⟩ := id dv.getT
    obtain ⟨w1, r1, rfl, d1, q1⟩ := rt.uncons
    obtain ⟨w2, r2, rfl, d2, q2⟩ := q1.uncons
    have := q2.nil'
    subst this
    have hcl : ∀ x ∈ cs, x.length ≤ 100 := fun x hx => Nat.le_trans (hc2 x hx) (by decide)
    have htl : ∀ x ∈ ts, x.length ≤ 100 := fun x hx => Nat.le_trans (ht8 x hx) (by decide)
    obtain ⟨sh1, sh2, sh3, sh4⟩ := ct_show l cs ts (by omega) hcl (by omega) htl
    refine ⟨pa, _, rfl, SqT.of hpa, rfl, _, _, rfl, _, _, rfl, rfl, ?_⟩
    -- how they look
    refine ⟨_, rfl, _, rfl, (by show 2 ≤ sizeLine; decide), fun t nt => ?_⟩
    have sT : Same H2 (upd H2 t (.tup [w1, w2])) := Same.new nt
    have dT : Da [p, c] (upd H2 t (.tup [w1, w2])) (.ref t) (encCT l cs ts) := .tup (sx2.ne nt) upd_same (.cons (d1.same sT) (.cons (d2.same sT) .nil))
    refine ⟨t, encCT l cs ts, rfl, dT.D, sh1, sh2, sh3, sh4, ?_⟩
    have sx3 := sx2.same sT
    have d13 := d1.same sT
    have d23 := d2.same sT
    generalize upd H2 t (.tup [w1, w2]) = H3 at sx3 d13 d23 ⊢
    -- the fewest
    refine fun D nD => ?_
    have nDp : D ∉ [p, c] := sx3.sta.ne nD
    have hD4 : (upd H3 D (.dK [])) D = some (.dK []) := upd_same
    have d14 : Da [D, p, c] (upd H3 D (.dK [])) w1 (encG l cs) := d13.new nD
    have d24 : Da [D, p, c] (upd H3 D (.dK [])) w2 (encG l ts) := d23.new nD
    have sx4 : SX p c [D, p, c] (upd H3 D (.dK [])) := (sx3.new nD).cons (by rw [upd_same]; simp)
    generalize upd H3 D (.dK []) = H4 at hD4 d14 d24 sx4 ⊢
    refine ⟨_, rfl, _, rfl, _, rfl, [D, p, c], l, cs, ts, cs, D, w1, w2, [], rfl, sx4.dom, by simp, d14, d24, subs_self cs, by omega, hc7, by omega, hcl, hD4, ⟨by simp, by simp⟩, fun t1 b1 H5 kvs5 hD5 kn5 kp5 ht1 => ?_⟩
    refine ⟨t1, _, 0, _, rfl, rfl, SqT.of ht1, atI_nat (j := 0) rfl, ?_⟩
    have kX5 : Keep [D, p, c] H4 H5 := kp5.mono fun x hx => by simp at hx; simp [hx]
    have st5 := sx4.sta.off kp5 (fun z => nDp (by simp [z])) (fun z => nDp (by simp [z]))
    have sx5 : SX p c [D, p, c] H5 := ⟨st5, fun x hx z => by
      rcases List.mem_cons.mp hx with rfl | hx
      · rw [hD5] at z; cases z
      · exact st5.dom x hx z, sx4.sub⟩
    have d15 := d14.keep kX5
    have d25 := d24.keep kX5
    -- the shield
    refine ⟨_, rfl, _, rfl, [D, p, c], l, cs, ts, w1, w2, rfl, sx5.dom, d15, d25, hc7, hcl, ht12, fun rv fs H6 E s6 dr => ?_⟩
    obtain ⟨hh1, hh2⟩ := rows_head E
    have hok := rows_ok E
    have hbd := rows_bd E hc7 hc2
    generalize rowsOf cs (qsOf cs ts) fs = rs at dr hh1 hh2 hok hbd
    have I6 : LwI l cs ts rs p c D w1 w2 rv H6 := ⟨sx5.same s6, nDp, ⟨kvs5, s6 _ _ hD5, kn5.keep fun b xs e => s6 _ _ e⟩, d15.same s6, d25.same s6, dr⟩
    clear dr s6 d15 d25 sx5 st5 kX5 kn5 hD5
    obtain ⟨ra, rus, rfl, nra, hra, rra⟩ := id I6.dr.getL
    obtain ⟨ca, cvs, rfl, nca, hca, rca⟩ := id I6.d1.getL
    -- the check of its head
    dsimp only [gName]
    refine seqNo (fun Q q => ⟨_, rfl, _, _, rfl, rfl, _, rfl, iteD (fun h => ?_) fun h => ?_⟩) fun H7 s7 => ?_
    · have h : (0 : Int) < ((fw (ts.map bad) cs : Nat) : Int) := h
      refine ⟨_, rfl, 1, rfl, ra, _, rfl, SqL.of hra, fun q1 n1 => ⟨_, rfl, _, rfl, (by show 2 ≤ sizeLine; decide), fun t nt => ⟨(by show 1 ≤ sizeLine; decide), fun l1 nl => ?_⟩⟩⟩
      have hcut : cutV rus none (some 1) = rus.take 1 := cut_to rus 1
      rw [hcut] at nt nl ⊢
      have sA : Same H6 (upd H6 q1 (.lst (rus.take 1))) := Same.new n1
      have sB : Same (upd H6 q1 (.lst (rus.take 1))) (upd (upd H6 q1 (.lst (rus.take 1))) t (.tup [.ref ca, .int ((fw (ts.map bad) cs : Nat) : Int)])) := Same.new nt
      have sC : Same (upd (upd H6 q1 (.lst (rus.take 1))) t (.tup [.ref ca, .int ((fw (ts.map bad) cs : Nat) : Int)])) (upd (upd (upd H6 q1 (.lst (rus.take 1))) t (.tup [.ref ca, .int ((fw (ts.map bad) cs : Nat) : Int)])) l1 (.lst [.ref t])) := Same.new nl
      have dU : Da [] (upd H6 q1 (.lst (rus.take 1))) (.ref q1) (encRs l (rs.take 1)) := by
        refine .lst (by simp) upd_same ?_
        rw [List.map_take]
        exact ((rra.take 1).less (by simp)).same sA
      have dV : Da [] (upd (upd (upd H6 q1 (.lst (rus.take 1))) t (.tup [.ref ca, .int ((fw (ts.map bad) cs : Nat) : Int)])) l1 (.lst [.ref t])) (.ref l1) (encRs l [(cs, ((fw (ts.map bad) cs : Nat) : Int))]) :=
        .lst (by simp) upd_same (DaAll.one (.tup (by simp) (upd_some upd_same nl) (.cons (((I6.d1.less (by simp)).same sA).same (sB.trans sC)) (.cons (.int _) .nil))))
      refine neD_of (eRs l) (by decide) (dU.same (sB.trans sC)) dV ⟨_, rfl, ?_⟩
      rw [decide_eq_true (hh1 (by omega))]
      exact q _ (sA.trans (sB.trans sC))
    · have h : ¬ (0 : Int) < ((fw (ts.map bad) cs : Nat) : Int) := h
      refine ⟨_, rfl, Nat.zero_le _, fun l1 nl => ?_⟩
      have sA : Same H6 (upd H6 l1 (.lst [])) := Same.new nl
      have dV : Da [] (upd H6 l1 (.lst [])) (.ref l1) (encRs l []) := .lst (by simp) upd_same .nil
      refine neD_of (eRs l) (by decide) (u := rs) (v := []) (I6.dr.same sA) dV ⟨_, rfl, ?_⟩
      rw [decide_eq_true (hh2 (by omega))]
      exact q _ sA
    have I7 := I6.same s7
    clear I6 hra rra hca rca
    -- both say that it is right
    refine seqNo (fun Q q => ⟨_, rfl, _, rfl, _, rfl, [D, p, c], l, cs, ts, rs, _, _, _, rfl, I7.d1, I7.d2, I7.dr, by omega, hbd.ok, fun H8 s8 => ⟨_, _, rfl, rfl, _, rfl, iteN (fun h => absurd hok h) fun _ => ?_⟩⟩) fun H8 s8 => ?_
    · refine ⟨_, rfl, _, rfl, _, rfl, [D, p, c], l, cs, ts, rs, _, _, _, rfl, I7.d1.same s8, I7.d2.same s8, I7.dr.same s8, by omega, hbd.ok, fun H9 s9 => ⟨_, rfl, ?_⟩⟩
      rw [hok]
      exact q _ (s8.trans s9)
    have I8 := I7.same s8
    clear I7
    -- the turns
    refine ⟨4, rfl, by decide, by decide, for_range (lo := 0) (n := 4) (fun _ σ H' => ∃ (x6 x9 x10 x11 x12 x13 x14 : Option V), σ = [some (.ref q), some (.ref p), some (.str (encCT l cs ts).shown), some (.ref D), some (.int (fw (ts.map bad) cs : Nat)), some (.ref ra), x6, some (.ref ca), some w2, x9, x10, x11, x12, x13, x14] ∧ LwI l cs ts rs p c D (.ref ca) w2 (.ref ra) H')
      ⟨none, none, none, none, none, none, none, rfl, I8⟩ ?_ ?_⟩
    · rintro _ σ H9 _ ⟨x6, x9, x10, x11, x12, x13, x14, rfl, I⟩
      refine ⟨_, rfl, _, rfl, p, c, [D, p, c], l, rs, _, rfl, I.sx, I.dr, hbd, fun ov rs' H10 bd' st' kp' dO => ?_⟩
      have I10 := I.step st' kp'
      refine ⟨_, rfl, _, rfl, _, rfl, [D, p, c], l, cs, ts, rs', _, _, ov, rfl, I10.d1, I10.d2, dO, by omega, bd'.ok, fun H11 s11 => ?_⟩
      have I11 := I10.same s11
      have dO11 := dO.same s11
      dsimp only [gName]
      refine seqNo (fun Q q => ⟨_, rfl, .bl _, .ty "bool", _, _, true, rfl, .ty _, .base (.bl _), kit_ty (by decide +kernel), _, rfl, iteF ⟨_, rfl, _, rfl, _, rfl, _, rfl, [D, p, c], l, cs, ts, rs', _, _, ov, rfl, I11.d1, I11.d2, dO11, by omega, bd'.ok, fun H12 s12 => ⟨rfl, _, rfl, ?_⟩⟩⟩) fun H12 s12 => ?_
      · rw [decide_eq_true rfl]
        exact q _ s12
      have I12 := I11.same s12
      have dO12 := dO11.same s12
      clear I I10 I11 dO dO11
      refine ⟨_, rfl, _, rfl, iteB (fun hb => ?_) fun _ => ⟨_, _, _, _, _, _, _, rfl, I12⟩⟩
      -- each row tells what is so
      obtain ⟨oa, ous, rfl, noa, hoa, roa⟩ := id dO12.getL
      obtain ⟨oz, e1, e2, hoz⟩ := roa.zip
      subst e1
      refine ⟨_, rfl, oa, rfl, ⟨_, SqL.of hoa⟩, for_list (K := K) (a := oa) (xs := oz.map (·.1)) (fun _ σ H' => ∃ (x11 x12 x13 x14 : Option V), σ = [some (.ref q), some (.ref p), some (.str (encCT l cs ts).shown), some (.ref D), some (.int (fw (ts.map bad) cs : Nat)), some (.ref ra), some (.int _), some (.ref ca), some w2, some (.ref oa), some (.bl (shieldOk (ts.map bad) cs rs')), x11, x12, x13, x14] ∧
          LwI l cs ts rs p c D (.ref ca) w2 (.ref ra) H' ∧ Keep [D] H12 H')
        ⟨_, _, _, _, rfl, I12, Keep.refl⟩ ?_ ?_ ?_⟩
      · rintro j σ H' _ ⟨x11, x12, x13, x14, rfl, _, kp⟩
        exact SqL.of (kp _ _ (fun z => noa (by simp at z; simp [z])) hoa)
      · rintro j ev σ H13 hj ⟨x11, x12, x13, x14, rfl, I13, kp13⟩
        obtain ⟨z, hzj, rfl, hrj⟩ := zip_at hj
        rw [e2] at hrj
        have mr := List.mem_of_getElem? hrj
        have kX : Keep [D, p, c] H12 H13 := kp13.mono fun x hx => by simp at hx; simp [hx]
        obtain ⟨pr, rv, hze, hpr, drv⟩ := rget ((hoz z (List.mem_of_getElem? hzj)).keep kX)
        rw [hze]
        obtain ⟨zv, r⟩ := z
        refine ⟨pr, _, rfl, SqT.of hpr, rfl, _, _, rfl, _, _, rfl, rfl, ?_⟩
        obtain ⟨_, cvs', ec, _, hca13, rca13⟩ := id I13.d1.getL
        cases ec
        obtain ⟨cz, g1, g2, hcz⟩ := rca13.zip
        subst g1
        have hczl : cz.length = cs.length := by rw [← g2, List.length_map]
        refine ⟨_, rfl, ca, rfl, ⟨_, SqL.of hca13⟩, fun D3 hD3 => lcL (K := K) (γ := List Id) (fun x => if decide (x ∈ r.1) = true then some x else none) (RelD (D3 :: [D, p, c]) (encC l)) hD3 (SqL.of hca13) (line1000 (by omega)) relD_st (fun m yz hm => ?_) fun H14 acc s14 e14 pr14 => ?_⟩
        · intro H' N M s0 _ hN hM
          have dy := hcz yz (List.mem_of_getElem? hm)
          refine ⟨rfl, _, rfl, _, rfl, inD_of (eC l) (by decide) (dy.same s0) (drv.same s0) ⟨_, rfl, iteD (fun hm => ⟨_, rfl, hN _ _ _ (if_pos (decide_eq_true hm)) (Same.refl _) ((dy.off hD3).same s0)⟩) fun hm => hM _ (if_neg (by simpa using hm)) (Same.refl _)⟩⟩
        · have r14 := relD_all pr14
          rw [g2, someIf_map (fun x => decide (x ∈ r.1)) (fun x => x), List.map_id'] at r14
          have I14 := I13.same s14
          obtain ⟨kvs, hD14, kn14⟩ := I14.kn
          have dg : Da [D, p, c] H14 (.ref D3) (encG l (cs.filter fun x => decide (x ∈ r.1))) := .lst (I13.sx.ne hD3) e14 r14.tail
          have hgl := List.length_filter_le (fun x => decide (x ∈ r.1)) cs
          refine ⟨_, rfl, _, rfl, _, rfl, [D, p, c], l, cs, ts, _, D, _, _, kvs, rfl, I14.sx.dom, by simp, dg, I14.d2, subs_filter (subs_self cs), by omega, hc7, by omega, hcl, hD14, kn14, fun t b H15 kvs15 hD15 kn15 kp15 ht15 => ?_⟩
          refine ⟨t, _, 0, _, rfl, rfl, SqT.of ht15, atI_nat (j := 0) rfl, _, rfl, _, _, rfl, rfl, _, rfl, iteD (fun hlt => absurd hlt ?_) fun _ => ?_⟩
          · have hsnd := shield_sound hb _ (cs.filter fun x => decide (x ∈ r.1)) (Nat.le_refl _) r mr fun x hx => by
              have hrow := List.all_eq_true.mp hb r mr
              unfold rowOk at hrow
              simp only [Bool.and_eq_true] at hrow
              exact List.mem_filter.mpr ⟨within_iff.mp hrow.1.1.2 x hx, decide_eq_true hx⟩
            show ¬ ((fw (ts.map bad) (cs.filter fun x => decide (x ∈ r.1)) : Nat) : Int) < r.2
            omega
          · exact ⟨_, _, _, _, rfl, I14.memo kp15 hD15 kn15, (kp13.trans (Keep.of s14)).trans kp15⟩
      · rintro σ H13 ⟨x11, x12, x13, x14, rfl, I13, kp13⟩
        exact ⟨_, _, _, _, _, _, _, rfl, I13⟩
    · rintro σ H9 ⟨x6, x9, x10, x11, x12, x13, x14, rfl, I⟩
      refine ⟨_, rfl, _, rfl, (by show 2 ≤ sizeLine; decide), fun t nt => ?_⟩
      have sT : Same H9 (upd H9 t (.tup [.ref ca, w2])) := Same.new nt
      have dT : Da [] (upd H9 t (.tup [.ref ca, w2])) (.ref t) (encCT l cs ts) := .tup (by simp) upd_same (.cons ((I.d1.less (by simp)).same sT) (.cons ((I.d2.less (by simp)).same sT) .nil))
      refine ⟨t, encCT l cs ts, rfl, dT.D, sh1, sh2, sh3, sh4, _, rfl, rfl, ?_⟩
      rw [decide_eq_true rfl]
      exact k _
end
end Qw
namespace Qw
open PySem L2 PySem.Spec PyProof.Rows
/-! ### from the law's promise, no repr under way, to the statement -/
section
variable {P : Program} {w : World} {K : PySem.W.Frag} {mg mb : Str → Option Value} {n : Nat} {fa q : Addr} {dat : FuncData} {x : Str} {sp : Sp} {z : Shared} {us : List Value} {ks : List Int}
/-- the script as an object -/
def scriptObj (us : List Value) : Obj := { cls := .type "list", data := .seq us.toArray }
/-- the tracked heap: the script, locked, unless the module has written it -/
def scriptHp (K : PySem.W.Frag) (q : Addr) (us : List Value) (ks : List Int) : Hp := fun b => if b = q then (match K.lookup q with | none => some (.frz (scriptObj us) (.lst (ks.map V.int))) | some _ => none) else none
theorem script_cases (K : PySem.W.Frag) (q : Addr) (us : List Value) (ks : List Int) (b : Addr) : scriptHp K q us ks b = none ∨ (b = q ∧ K.lookup q = none ∧ scriptHp K q us ks b = some (.frz (scriptObj us) (.lst (ks.map V.int)))) := by
  unfold scriptHp
  by_cases h : b = q
  · cases e : K.lookup q with
    | some o => left; rw [if_pos h]
    | none => right; exact ⟨h, rfl, by rw [if_pos h]⟩
  · left; rw [if_neg h]
theorem runG (inK : K.In z.heap) (gl : z.heap.Ns mainGlobals mg) (bl : z.heap.Ns builtinsNs mb) (blt : ∀ y : Str, y ≠ "__name__" → mb y = bootBuiltins y) (nolim : z.heap.NoLimit) (nogen : z.gens = #[])
    (at_ : z.heap.get? q = some (scriptObj us)) (allInts : IntsAre us ks) (small : ks.length ≤ sizeLine) (room : Room n callerA) (F : ∀ base : Heap, K.In base → base.Ns mainGlobals mg → FnG P w K mg base n fa dat [x] sp)
    (bind : ∀ (s : Shared) (u : Value), BindsTo s dat ⟨[u], []⟩ [(x, u)]) (pre : ∀ H : Hp, SqL K H q (ks.map V.int) → sp [.ref q] H (fun v _ => v = .bl true) E0) :
    codeAny (model P w) callerA (.call (.ref fa) ⟨[.ref q], []⟩) (fun r t => r = .ok (.ret (.bool true)) ∧ OldK z.heap t.heap ∧ t.os = z.os ∧ AllBare t.gens) z := by
  have vals := vals_ints allInts
  have hlen := allInts.length
  generalize hH : scriptHp K q us ks = H
  have hc : ∀ b, H b = none ∨ (b = q ∧ K.lookup q = none ∧ H b = some (.frz (scriptObj us) (.lst (ks.map V.int)))) := fun b => by rw [← hH]; exact script_cases K q us ks b
  have seq : SqL K H q (ks.map V.int) := by
    cases e : K.lookup q with
    | some o =>
      have e2 := inK q o e
      rw [at_] at e2
      cases e2
      exact .inr ⟨_, us.toArray, _, e, rfl, rfl, rfl, by rw [List.size_toArray, hlen]; exact small, by simpa using vals⟩
    | none =>
      refine .inl (.inr ⟨scriptObj us, ?_⟩)
      rw [← hH]
      unfold scriptHp
      rw [if_pos rfl, e]
  have hok : HOk P w H z.heap := fun b o e => by
    rcases hc b with h | ⟨rfl, _, h⟩
    · rw [h] at e; cases e
    · rw [h] at e
      cases e
      exact ⟨at_, by rw [List.length_map]; exact small, us, _, vals, at_⟩
  have back : ∀ {b : Addr} {o : Obj}, z.heap.get? b = some o → H b = none → (hidT z.heap H).get? b = some o := hidT_get
  have dicts : ∀ {b : Addr} {o : Obj} {es : Array DictEntry} {ep : Nat}, z.heap.get? b = some o → o.data = .dict es ep → H b = none := by
    intro b o es ep e d
    rcases hc b with h | ⟨rfl, _, _⟩
    · exact h
    · rw [at_] at e
      cases e
      cases (show Data.seq us.toArray _ = Data.dict es ep from d)
  have names : ∀ {b : Addr} {m : Str → Option Value}, z.heap.Ns b m → (hidT z.heap H).Ns b m := by
    rintro b m ⟨o, es, ep, e, d, r⟩
    exact ⟨o, es, ep, back e (dicts e d), d, r⟩
  have inB : K.In (hidT z.heap H) := by
    intro b o e
    refine back (inK b o e) ?_
    rcases hc b with h | ⟨rfl, h, _⟩
    · exact h
    · rw [h] at e; cases e
  obtain ⟨ml, l1, l2⟩ := nolim
  have mod : Mod K mg (hidT z.heap H) := ⟨inB, names gl, ⟨mb, names bl, blt⟩, ml, names l1, l2⟩
  have env : Env0 P w K mg (hidT z.heap H) callerA [] z H := { frames := rfl, mod := mod, bs := fun _ _ e => of_hidT e, bsz := Nat.le_of_eq (hidT_size _ _), funs := trivial, frf := by simp [frs], hok := hok, bare := .of_eq nogen }
  refine codeAny_mono ((F _ inB (names gl)).go callerA [] z H ⟨[.ref q], []⟩ [.ref q] [.ref q] _ _ rfl room env (bind z (.ref q)) (.cons rfl .nil) (pre H seq)) fun r t h => ?_
  rcases r with e | fl
  · exact h.elim
  cases fl with
  | next => exact h.elim
  | brk => exact h.elim
  | cont => exact h.elim
  | ret u =>
    obtain ⟨v, H', os, bare, un, ok', rel, qv⟩ := h
    obtain rfl : v = .bl true := qv
    obtain rfl : u = Value.bool true := rel
    refine ⟨rfl, OldK.of_keep fun b o e => ?_, os, bare⟩
    rcases hc b with h | ⟨rfl, _, h⟩
    · exact un.keep b o e h (by simp [frs]) (by simp)
    · obtain ⟨g1, _⟩ := hok b _ h
      obtain ⟨g2, _⟩ := ok' b _ (un.frzs b _ _ h)
      rw [e] at g1
      cases g1
      exact g2
end
/-- the statement's own walk, from the promise of the law -/
theorem walkG {l : PySem.W.OpenLaw} {m n : Nat} {q : Program} {loose : List Str} {XP : (Str → Option Value) → Heap → Prop} {YP : World → Heap → Prop} {d : DefRec} {K : Params → PySem.W.Frag} {sp : PySem.W.Frag → Sp} {x : Str}
    (most : l.most = some m) (small : m ≤ sizeLine) (nodef : d.params.defaults = []) (room : Room n callerA) (inK : ∀ (w : World) (h : Heap), YP w h → (K w.params).In h)
    (F : ∀ (w : World) (mg : Str → Option Value) (fa : Addr) (h : Heap), (K w.params).In h → h.Ns mainGlobals mg → mg d.name = some (.ref fa) →
      ∃ dat : FuncData, (∀ (s : Shared) (u : Value), BindsTo s dat ⟨[u], []⟩ [(x, u)]) ∧ ∀ base : Heap, (K w.params).In base → base.Ns mainGlobals mg → FnG l.prog w (K w.params) mg base n fa dat [x] (sp (K w.params)))
    (pre : ∀ (K : PySem.W.Frag) (H : Hp) (a : Addr) (ks : List Int), ks.length ≤ m → SqL K H a (ks.map V.int) → sp K [.ref a] H (fun v _ => v = .bl true) E0) :
    PySem.W.WalkO q loose XP YP l.row.toRowW d [] (fun f vs => PySem.call f vs) := by
  refine Att.attach_call most nodef ?_
  intro w s0 z mg mb fa o pm cd doc a us ks G Y ho hd hcd named obj allInts few nogen
  obtain ⟨dat, bind, prom⟩ := F w mg fa _ (inK w _ Y) G.T.g named
  exact runG (inK w _ Y) G.T.g G.T.b G.T.builtins G.T.nolimit nogen obj allInts (Nat.le_trans few small) room prom bind fun H seq => pre _ H a ks few seq
/-! ### what the top has written -/
section
variable {K : PySem.W.Frag} {h : Heap} {mg : Str → Option Value} {x qual : Str} {st : Stmt} {ps : List Str} {f C : Addr} {o1 o2 : Option Addr} {sl : Array (Option Value)} {oc kV dc pm cd ct : Value}
/-- how the arguments of a def bind -/
def BindOk (x qual : Str) (st : Stmt) (ps : List Str) : Prop := ∀ (kV doc pm : Value) (an : Option Addr) (cdv ct : Value) (us : List Value), us.length = ps.length → bindArgs (PySem.W.fnOf x qual (defArgs st) (defBody st) (defScope st) .none kV doc pm an cdv ct) ⟨us, []⟩ = pure (ps.zip us)
theorem fnAt_mk (X : K.In h) (G : h.Ns mainGlobals mg) (hb : BindOk x x st ps) (ax : PySem.W.nsIn K mainGlobals x = some (some (.ref f))) (lx : K.lookup f = some ⟨oc, o1, .func (PySem.W.fnOf x x (defArgs st) (defBody st) (defScope st) .none kV dc pm o2 cd ct), sl⟩)
    (cx : PySem.W.codeIn K cd x = true) (kx : PySem.W.keepIn K (.ref f) = true) : FnAt K mg x st ps f (PySem.W.fnOf x x (defArgs st) (defBody st) (defScope st) .none kV dc pm o2 cd ct) :=
  ⟨fun_mk lx cx kx, (fun_mk lx cx kx).binds hb, PySem.W.mg_of X G ax⟩
theorem meAt_mk (hb : BindOk x qual st ps) (ax : PySem.W.findIn K (.ref C) x = some (some (.ref f))) (ix : PySem.W.isFn K (.ref f) = true) (lx : K.lookup f = some ⟨oc, o1, .func (PySem.W.fnOf x qual (defArgs st) (defBody st) (defScope st) .none kV dc pm o2 cd ct), sl⟩)
    (cx : PySem.W.codeIn K cd qual = true) (kx : PySem.W.keepIn K (.ref f) = true) : MeAt K C x qual st ps f (PySem.W.fnOf x qual (defArgs st) (defBody st) (defScope st) .none kV dc pm o2 cd ct) :=
  ⟨fun_mk lx cx kx, (fun_mk lx cx kx).binds hb, ⟨ax, ix, kx⟩⟩
theorem inAt_mk (hb : BindOk "__init__" qual st ps) (mk : PySem.W.makesIn K C = true) (kc : PySem.W.keepIn K (.ref C) = true) (ax : PySem.W.findIn K (.ref C) "__init__" = some (some (.ref f))) (ix : PySem.W.isFn K (.ref f) = true)
    (lx : K.lookup f = some ⟨oc, o1, .func (PySem.W.fnOf "__init__" qual (defArgs st) (defBody st) (defScope st) .none kV dc pm o2 cd ct), sl⟩)
    (cx : PySem.W.codeIn K cd qual = true) (kx : PySem.W.keepIn K (.ref f) = true) : InAt K C qual st ps f (PySem.W.fnOf "__init__" qual (defArgs st) (defBody st) (defScope st) .none kV dc pm o2 cd ct) :=
  ⟨fun_mk lx cx kx, (fun_mk lx cx kx).binds hb, ⟨mk, ax, ix, kc⟩⟩
end
end Qw
namespace Qw
open PySem L2 PySem.Spec PyProof.Rows
theorem all_mk {l : PySem.W.OpenLaw} {w : World} {K : PySem.W.Frag} {h : Heap} {mg : Str → Option Value} {fa C : Addr} (X : K.In h) (G : h.Ns mainGlobals mg) (hfa : mg "law" = some (.ref fa))
    {f0 f1 f2 f3 f4 f5 f6 f7 f8 f9 f10 f11 f12 f13 f14 f15 f16 f17 f18 f19 f20 f21 f22 f23 f24 f25 f26 f27 : Addr}
    {od0 an0 od1 an1 od2 an2 od3 an3 od4 an4 od5 an5 od6 an6 od7 an7 od8 an8 od9 an9 od10 an10 od11 an11 od12 an12 od13 an13 od14 an14 od15 an15 od16 an16 od17 an17 od18 an18 od19 an19 od20 an20 od21 an21 od22 an22 od23 an23 od24 an24 od25 an25 od26 an26 od27 an27 : Option Addr}
    {sl0 sl1 sl2 sl3 sl4 sl5 sl6 sl7 sl8 sl9 sl10 sl11 sl12 sl13 sl14 sl15 sl16 sl17 sl18 sl19 sl20 sl21 sl22 sl23 sl24 sl25 sl26 sl27 : Array (Option Value)}
    {oc0 kV0 dc0 pm0 cd0 ct0 oc1 kV1 dc1 pm1 cd1 ct1 oc2 kV2 dc2 pm2 cd2 ct2 oc3 kV3 dc3 pm3 cd3 ct3 oc4 kV4 dc4 pm4 cd4 ct4 oc5 kV5 dc5 pm5 cd5 ct5 oc6 kV6 dc6 pm6 cd6 ct6 oc7 kV7 dc7 pm7 cd7 ct7 oc8 kV8 dc8 pm8 cd8 ct8 oc9 kV9 dc9 pm9 cd9 ct9 oc10 kV10 dc10 pm10 cd10 ct10 oc11 kV11 dc11 pm11 cd11 ct11 oc12 kV12 dc12 pm12 cd12 ct12 oc13 kV13 dc13 pm13 cd13 ct13 oc14 kV14 dc14 pm14 cd14 ct14 oc15 kV15 dc15 pm15 cd15 ct15 oc16 kV16 dc16 pm16 cd16 ct16 oc17 kV17 dc17 pm17 cd17 ct17 oc18 kV18 dc18 pm18 cd18 ct18 oc19 kV19 dc19 pm19 cd19 ct19 oc20 kV20 dc20 pm20 cd20 ct20 oc21 kV21 dc21 pm21 cd21 ct21 oc22 kV22 dc22 pm22 cd22 ct22 oc23 kV23 dc23 pm23 cd23 ct23 oc24 kV24 dc24 pm24 cd24 ct24 oc25 kV25 dc25 pm25 cd25 ct25 oc26 kV26 dc26 pm26 cd26 ct26 oc27 kV27 dc27 pm27 cd27 ct27 : Value}
    (aC : PySem.W.nsIn K mainGlobals "Planner" = some (some (.ref C)))
    (a0 : PySem.W.nsIn K mainGlobals "is_bad" = some (some (.ref f0)))
    (l0 : K.lookup f0 = some ⟨oc0, od0, .func (PySem.W.fnOf "is_bad" "is_bad" (defArgs s_isb) (defBody s_isb) (defScope s_isb) .none kV0 dc0 pm0 an0 cd0 ct0), sl0⟩) (c0 : PySem.W.codeIn K cd0 "is_bad" = true) (k0 : PySem.W.keepIn K (.ref f0) = true)
    (a1 : PySem.W.nsIn K mainGlobals "marks" = some (some (.ref f1)))
    (l1 : K.lookup f1 = some ⟨oc1, od1, .func (PySem.W.fnOf "marks" "marks" (defArgs s_mrk) (defBody s_mrk) (defScope s_mrk) .none kV1 dc1 pm1 an1 cd1 ct1), sl1⟩) (c1 : PySem.W.codeIn K cd1 "marks" = true) (k1 : PySem.W.keepIn K (.ref f1) = true)
    (a2 : PySem.W.findIn K (.ref C) "__init__" = some (some (.ref f2))) (i2 : PySem.W.isFn K (.ref f2) = true)
    (l2 : K.lookup f2 = some ⟨oc2, od2, .func (PySem.W.fnOf "__init__" "Planner.__init__" (defArgs s_pin) (defBody s_pin) (defScope s_pin) .none kV2 dc2 pm2 an2 cd2 ct2), sl2⟩) (c2 : PySem.W.codeIn K cd2 "Planner.__init__" = true) (k2 : PySem.W.keepIn K (.ref f2) = true)
    (a3 : PySem.W.findIn K (.ref C) "sides" = some (some (.ref f3))) (i3 : PySem.W.isFn K (.ref f3) = true)
    (l3 : K.lookup f3 = some ⟨oc3, od3, .func (PySem.W.fnOf "sides" "Planner.sides" (defArgs s_sid) (defBody s_sid) (defScope s_sid) .none kV3 dc3 pm3 an3 cd3 ct3), sl3⟩) (c3 : PySem.W.codeIn K cd3 "Planner.sides" = true) (k3 : PySem.W.keepIn K (.ref f3) = true)
    (a4 : PySem.W.findIn K (.ref C) "splits" = some (some (.ref f4))) (i4 : PySem.W.isFn K (.ref f4) = true)
    (l4 : K.lookup f4 = some ⟨oc4, od4, .func (PySem.W.fnOf "splits" "Planner.splits" (defArgs s_spl) (defBody s_spl) (defScope s_spl) .none kV4 dc4 pm4 an4 cd4 ct4), sl4⟩) (c4 : PySem.W.codeIn K cd4 "Planner.splits" = true) (k4 : PySem.W.keepIn K (.ref f4) = true)
    (a5 : PySem.W.findIn K (.ref C) "best" = some (some (.ref f5))) (i5 : PySem.W.isFn K (.ref f5) = true)
    (l5 : K.lookup f5 = some ⟨oc5, od5, .func (PySem.W.fnOf "best" "Planner.best" (defArgs s_bes) (defBody s_bes) (defScope s_bes) .none kV5 dc5 pm5 an5 cd5 ct5), sl5⟩) (c5 : PySem.W.codeIn K cd5 "Planner.best" = true) (k5 : PySem.W.keepIn K (.ref f5) = true)
    (a6 : PySem.W.nsIn K mainGlobals "shield" = some (some (.ref f6)))
    (l6 : K.lookup f6 = some ⟨oc6, od6, .func (PySem.W.fnOf "shield" "shield" (defArgs s_shi) (defBody s_shi) (defScope s_shi) .none kV6 dc6 pm6 an6 cd6 ct6), sl6⟩) (c6 : PySem.W.codeIn K cd6 "shield" = true) (k6 : PySem.W.keepIn K (.ref f6) = true)
    (a7 : PySem.W.nsIn K mainGlobals "holds_row" = some (some (.ref f7)))
    (l7 : K.lookup f7 = some ⟨oc7, od7, .func (PySem.W.fnOf "holds_row" "holds_row" (defArgs s_hol) (defBody s_hol) (defScope s_hol) .none kV7 dc7 pm7 an7 cd7 ct7), sl7⟩) (c7 : PySem.W.codeIn K cd7 "holds_row" = true) (k7 : PySem.W.keepIn K (.ref f7) = true)
    (a8 : PySem.W.nsIn K mainGlobals "shield_right" = some (some (.ref f8)))
    (l8 : K.lookup f8 = some ⟨oc8, od8, .func (PySem.W.fnOf "shield_right" "shield_right" (defArgs s_shr) (defBody s_shr) (defScope s_shr) .none kV8 dc8 pm8 an8 cd8 ct8), sl8⟩) (c8 : PySem.W.codeIn K cd8 "shield_right" = true) (k8 : PySem.W.keepIn K (.ref f8) = true)
    (a9 : PySem.W.nsIn K mainGlobals "_law_state" = some (some (.ref f9)))
    (l9 : K.lookup f9 = some ⟨oc9, od9, .func (PySem.W.fnOf "_law_state" "_law_state" (defArgs s_sta) (defBody s_sta) (defScope s_sta) .none kV9 dc9 pm9 an9 cd9 ct9), sl9⟩) (c9 : PySem.W.codeIn K cd9 "_law_state" = true) (k9 : PySem.W.keepIn K (.ref f9) = true)
    (a10 : PySem.W.nsIn K mainGlobals "_law_draw" = some (some (.ref f10)))
    (l10 : K.lookup f10 = some ⟨oc10, od10, .func (PySem.W.fnOf "_law_draw" "_law_draw" (defArgs s_drw) (defBody s_drw) (defScope s_drw) .none kV10 dc10 pm10 an10 cd10 ct10), sl10⟩) (c10 : PySem.W.codeIn K cd10 "_law_draw" = true) (k10 : PySem.W.keepIn K (.ref f10) = true)
    (a11 : PySem.W.nsIn K mainGlobals "_law_pick" = some (some (.ref f11)))
    (l11 : K.lookup f11 = some ⟨oc11, od11, .func (PySem.W.fnOf "_law_pick" "_law_pick" (defArgs s_pck) (defBody s_pck) (defScope s_pck) .none kV11 dc11 pm11 an11 cd11 ct11), sl11⟩) (c11 : PySem.W.codeIn K cd11 "_law_pick" = true) (k11 : PySem.W.keepIn K (.ref f11) = true)
    (a12 : PySem.W.nsIn K mainGlobals "_law_some" = some (some (.ref f12)))
    (l12 : K.lookup f12 = some ⟨oc12, od12, .func (PySem.W.fnOf "_law_some" "_law_some" (defArgs s_som) (defBody s_som) (defScope s_som) .none kV12 dc12 pm12 an12 cd12 ct12), sl12⟩) (c12 : PySem.W.codeIn K cd12 "_law_some" = true) (k12 : PySem.W.keepIn K (.ref f12) = true)
    (a13 : PySem.W.nsIn K mainGlobals "_law_path" = some (some (.ref f13)))
    (l13 : K.lookup f13 = some ⟨oc13, od13, .func (PySem.W.fnOf "_law_path" "_law_path" (defArgs s_pth) (defBody s_pth) (defScope s_pth) .none kV13 dc13 pm13 an13 cd13 ct13), sl13⟩) (c13 : PySem.W.codeIn K cd13 "_law_path" = true) (k13 : PySem.W.keepIn K (.ref f13) = true)
    (a14 : PySem.W.nsIn K mainGlobals "_law_change" = some (some (.ref f14)))
    (l14 : K.lookup f14 = some ⟨oc14, od14, .func (PySem.W.fnOf "_law_change" "_law_change" (defArgs s_chg) (defBody s_chg) (defScope s_chg) .none kV14 dc14 pm14 an14 cd14 ct14), sl14⟩) (c14 : PySem.W.codeIn K cd14 "_law_change" = true) (k14 : PySem.W.keepIn K (.ref f14) = true)
    (a15 : PySem.W.nsIn K mainGlobals "_law_patchwork" = some (some (.ref f15)))
    (l15 : K.lookup f15 = some ⟨oc15, od15, .func (PySem.W.fnOf "_law_patchwork" "_law_patchwork" (defArgs s_pwk) (defBody s_pwk) (defScope s_pwk) .none kV15 dc15 pm15 an15 cd15 ct15), sl15⟩) (c15 : PySem.W.codeIn K cd15 "_law_patchwork" = true) (k15 : PySem.W.keepIn K (.ref f15) = true)
    (a16 : PySem.W.nsIn K mainGlobals "_law_needs" = some (some (.ref f16)))
    (l16 : K.lookup f16 = some ⟨oc16, od16, .func (PySem.W.fnOf "_law_needs" "_law_needs" (defArgs s_nds) (defBody s_nds) (defScope s_nds) .none kV16 dc16 pm16 an16 cd16 ct16), sl16⟩) (c16 : PySem.W.codeIn K cd16 "_law_needs" = true) (k16 : PySem.W.keepIn K (.ref f16) = true)
    (a17 : PySem.W.nsIn K mainGlobals "_law_all_below" = some (some (.ref f17)))
    (l17 : K.lookup f17 = some ⟨oc17, od17, .func (PySem.W.fnOf "_law_all_below" "_law_all_below" (defArgs s_abl) (defBody s_abl) (defScope s_abl) .none kV17 dc17 pm17 an17 cd17 ct17), sl17⟩) (c17 : PySem.W.codeIn K cd17 "_law_all_below" = true) (k17 : PySem.W.keepIn K (.ref f17) = true)
    (a18 : PySem.W.nsIn K mainGlobals "_law_between" = some (some (.ref f18)))
    (l18 : K.lookup f18 = some ⟨oc18, od18, .func (PySem.W.fnOf "_law_between" "_law_between" (defArgs s_btw) (defBody s_btw) (defScope s_btw) .none kV18 dc18 pm18 an18 cd18 ct18), sl18⟩) (c18 : PySem.W.codeIn K cd18 "_law_between" = true) (k18 : PySem.W.keepIn K (.ref f18) = true)
    (a19 : PySem.W.nsIn K mainGlobals "_law_parts" = some (some (.ref f19)))
    (l19 : K.lookup f19 = some ⟨oc19, od19, .func (PySem.W.fnOf "_law_parts" "_law_parts" (defArgs s_pts) (defBody s_pts) (defScope s_pts) .none kV19 dc19 pm19 an19 cd19 ct19), sl19⟩) (c19 : PySem.W.codeIn K cd19 "_law_parts" = true) (k19 : PySem.W.keepIn K (.ref f19) = true)
    (a20 : PySem.W.nsIn K mainGlobals "_law_causes" = some (some (.ref f20)))
    (l20 : K.lookup f20 = some ⟨oc20, od20, .func (PySem.W.fnOf "_law_causes" "_law_causes" (defArgs s_cau) (defBody s_cau) (defScope s_cau) .none kV20 dc20 pm20 an20 cd20 ct20), sl20⟩) (c20 : PySem.W.codeIn K cd20 "_law_causes" = true) (k20 : PySem.W.keepIn K (.ref f20) = true)
    (a21 : PySem.W.nsIn K mainGlobals "_law_bad" = some (some (.ref f21)))
    (l21 : K.lookup f21 = some ⟨oc21, od21, .func (PySem.W.fnOf "_law_bad" "_law_bad" (defArgs s_bad) (defBody s_bad) (defScope s_bad) .none kV21 dc21 pm21 an21 cd21 ct21), sl21⟩) (c21 : PySem.W.codeIn K cd21 "_law_bad" = true) (k21 : PySem.W.keepIn K (.ref f21) = true)
    (a22 : PySem.W.nsIn K mainGlobals "_law_case" = some (some (.ref f22)))
    (l22 : K.lookup f22 = some ⟨oc22, od22, .func (PySem.W.fnOf "_law_case" "_law_case" (defArgs s_cas) (defBody s_cas) (defScope s_cas) .none kV22 dc22 pm22 an22 cd22 ct22), sl22⟩) (c22 : PySem.W.codeIn K cd22 "_law_case" = true) (k22 : PySem.W.keepIn K (.ref f22) = true)
    (a23 : PySem.W.nsIn K mainGlobals "_law_fewest" = some (some (.ref f23)))
    (l23 : K.lookup f23 = some ⟨oc23, od23, .func (PySem.W.fnOf "_law_fewest" "_law_fewest" (defArgs s_few) (defBody s_few) (defScope s_few) .none kV23 dc23 pm23 an23 cd23 ct23), sl23⟩) (c23 : PySem.W.codeIn K cd23 "_law_fewest" = true) (k23 : PySem.W.keepIn K (.ref f23) = true)
    (a24 : PySem.W.nsIn K mainGlobals "_law_stands" = some (some (.ref f24)))
    (l24 : K.lookup f24 = some ⟨oc24, od24, .func (PySem.W.fnOf "_law_stands" "_law_stands" (defArgs s_std) (defBody s_std) (defScope s_std) .none kV24 dc24 pm24 an24 cd24 ct24), sl24⟩) (c24 : PySem.W.codeIn K cd24 "_law_stands" = true) (k24 : PySem.W.keepIn K (.ref f24) = true)
    (a25 : PySem.W.nsIn K mainGlobals "_law_right" = some (some (.ref f25)))
    (l25 : K.lookup f25 = some ⟨oc25, od25, .func (PySem.W.fnOf "_law_right" "_law_right" (defArgs s_rgt) (defBody s_rgt) (defScope s_rgt) .none kV25 dc25 pm25 an25 cd25 ct25), sl25⟩) (c25 : PySem.W.codeIn K cd25 "_law_right" = true) (k25 : PySem.W.keepIn K (.ref f25) = true)
    (a26 : PySem.W.nsIn K mainGlobals "_law_turned" = some (some (.ref f26)))
    (l26 : K.lookup f26 = some ⟨oc26, od26, .func (PySem.W.fnOf "_law_turned" "_law_turned" (defArgs s_trn) (defBody s_trn) (defScope s_trn) .none kV26 dc26 pm26 an26 cd26 ct26), sl26⟩) (c26 : PySem.W.codeIn K cd26 "_law_turned" = true) (k26 : PySem.W.keepIn K (.ref f26) = true)
    (a27 : PySem.W.nsIn K mainGlobals "law" = some (some (.ref f27)))
    (l27 : K.lookup f27 = some ⟨oc27, od27, .func (PySem.W.fnOf "law" "law" (defArgs s_law) (defBody s_law) (defScope s_law) .none kV27 dc27 pm27 an27 cd27 ct27), sl27⟩) (c27 : PySem.W.codeIn K cd27 "law" = true) (k27 : PySem.W.keepIn K (.ref f27) = true)
    (pg : PySem.W.plainGet K C Str.empty = true) (hd : PySem.W.hasDictIn K C = true) (po : PySem.W.plainOver K C = true) (sa : PySem.W.findIn K (.ref C) "__setattr__" = some (some (.builtin "object.__setattr__")))
    (mk : PySem.W.makesIn K C = true) (kc : PySem.W.keepIn K (.ref C) = true) (nR : PySem.W.findIn K (.ref C) "rows" = some none) (nK : PySem.W.findIn K (.ref C) "known" = some none)
    (z_len : PySem.W.nsIn K mainGlobals "len" = some none)
    (z_int : PySem.W.nsIn K mainGlobals "int" = some none)
    (z_abs : PySem.W.nsIn K mainGlobals "abs" = some none)
    (z_range : PySem.W.nsIn K mainGlobals "range" = some none)
    (z_sorted : PySem.W.nsIn K mainGlobals "sorted" = some none)
    (z_isinstance : PySem.W.nsIn K mainGlobals "isinstance" = some none)
    (z_tuple : PySem.W.nsIn K mainGlobals "tuple" = some none)
    (z_list : PySem.W.nsIn K mainGlobals "list" = some none)
    (z_repr : PySem.W.nsIn K mainGlobals "repr" = some none)
    (z_max : PySem.W.nsIn K mainGlobals "max" = some none)
    (z_any : PySem.W.nsIn K mainGlobals "any" = some none)
    (z_bool : PySem.W.nsIn K mainGlobals "bool" = some none) :
    ∃ dat : FuncData, (∀ (s : Shared) (v : Value), BindsTo s dat ⟨[v], []⟩ [("_law_script", v)]) ∧ ∀ base : Heap, K.In base → base.Ns mainGlobals mg → FnG l.prog w K mg base 12 fa dat ["_law_script"] (spLaw K) := by
  have e := hfa.symm.trans (PySem.W.mg_of X G a27)
  cases e
  have T : Tx K mg (fun i => ([f0, f1, f2, f3, f4, f5, f6, f7, f8, f9, f10, f11, f12, f13, f14, f15, f16, f17, f18, f19, f20, f21, f22, f23, f24, f25, f26, fa] : List Addr).getD i 0) (fun i => ([
      PySem.W.fnOf "is_bad" "is_bad" (defArgs s_isb) (defBody s_isb) (defScope s_isb) .none kV0 dc0 pm0 an0 cd0 ct0,
      PySem.W.fnOf "marks" "marks" (defArgs s_mrk) (defBody s_mrk) (defScope s_mrk) .none kV1 dc1 pm1 an1 cd1 ct1,
      PySem.W.fnOf "__init__" "Planner.__init__" (defArgs s_pin) (defBody s_pin) (defScope s_pin) .none kV2 dc2 pm2 an2 cd2 ct2,
      PySem.W.fnOf "sides" "Planner.sides" (defArgs s_sid) (defBody s_sid) (defScope s_sid) .none kV3 dc3 pm3 an3 cd3 ct3,
      PySem.W.fnOf "splits" "Planner.splits" (defArgs s_spl) (defBody s_spl) (defScope s_spl) .none kV4 dc4 pm4 an4 cd4 ct4,
      PySem.W.fnOf "best" "Planner.best" (defArgs s_bes) (defBody s_bes) (defScope s_bes) .none kV5 dc5 pm5 an5 cd5 ct5,
      PySem.W.fnOf "shield" "shield" (defArgs s_shi) (defBody s_shi) (defScope s_shi) .none kV6 dc6 pm6 an6 cd6 ct6,
      PySem.W.fnOf "holds_row" "holds_row" (defArgs s_hol) (defBody s_hol) (defScope s_hol) .none kV7 dc7 pm7 an7 cd7 ct7,
      PySem.W.fnOf "shield_right" "shield_right" (defArgs s_shr) (defBody s_shr) (defScope s_shr) .none kV8 dc8 pm8 an8 cd8 ct8,
      PySem.W.fnOf "_law_state" "_law_state" (defArgs s_sta) (defBody s_sta) (defScope s_sta) .none kV9 dc9 pm9 an9 cd9 ct9,
      PySem.W.fnOf "_law_draw" "_law_draw" (defArgs s_drw) (defBody s_drw) (defScope s_drw) .none kV10 dc10 pm10 an10 cd10 ct10,
      PySem.W.fnOf "_law_pick" "_law_pick" (defArgs s_pck) (defBody s_pck) (defScope s_pck) .none kV11 dc11 pm11 an11 cd11 ct11,
      PySem.W.fnOf "_law_some" "_law_some" (defArgs s_som) (defBody s_som) (defScope s_som) .none kV12 dc12 pm12 an12 cd12 ct12,
      PySem.W.fnOf "_law_path" "_law_path" (defArgs s_pth) (defBody s_pth) (defScope s_pth) .none kV13 dc13 pm13 an13 cd13 ct13,
      PySem.W.fnOf "_law_change" "_law_change" (defArgs s_chg) (defBody s_chg) (defScope s_chg) .none kV14 dc14 pm14 an14 cd14 ct14,
      PySem.W.fnOf "_law_patchwork" "_law_patchwork" (defArgs s_pwk) (defBody s_pwk) (defScope s_pwk) .none kV15 dc15 pm15 an15 cd15 ct15,
      PySem.W.fnOf "_law_needs" "_law_needs" (defArgs s_nds) (defBody s_nds) (defScope s_nds) .none kV16 dc16 pm16 an16 cd16 ct16,
      PySem.W.fnOf "_law_all_below" "_law_all_below" (defArgs s_abl) (defBody s_abl) (defScope s_abl) .none kV17 dc17 pm17 an17 cd17 ct17,
      PySem.W.fnOf "_law_between" "_law_between" (defArgs s_btw) (defBody s_btw) (defScope s_btw) .none kV18 dc18 pm18 an18 cd18 ct18,
      PySem.W.fnOf "_law_parts" "_law_parts" (defArgs s_pts) (defBody s_pts) (defScope s_pts) .none kV19 dc19 pm19 an19 cd19 ct19,
      PySem.W.fnOf "_law_causes" "_law_causes" (defArgs s_cau) (defBody s_cau) (defScope s_cau) .none kV20 dc20 pm20 an20 cd20 ct20,
      PySem.W.fnOf "_law_bad" "_law_bad" (defArgs s_bad) (defBody s_bad) (defScope s_bad) .none kV21 dc21 pm21 an21 cd21 ct21,
      PySem.W.fnOf "_law_case" "_law_case" (defArgs s_cas) (defBody s_cas) (defScope s_cas) .none kV22 dc22 pm22 an22 cd22 ct22,
      PySem.W.fnOf "_law_fewest" "_law_fewest" (defArgs s_few) (defBody s_few) (defScope s_few) .none kV23 dc23 pm23 an23 cd23 ct23,
      PySem.W.fnOf "_law_stands" "_law_stands" (defArgs s_std) (defBody s_std) (defScope s_std) .none kV24 dc24 pm24 an24 cd24 ct24,
      PySem.W.fnOf "_law_right" "_law_right" (defArgs s_rgt) (defBody s_rgt) (defScope s_rgt) .none kV25 dc25 pm25 an25 cd25 ct25,
      PySem.W.fnOf "_law_turned" "_law_turned" (defArgs s_trn) (defBody s_trn) (defScope s_trn) .none kV26 dc26 pm26 an26 cd26 ct26,
      PySem.W.fnOf "law" "law" (defArgs s_law) (defBody s_law) (defScope s_law) .none kV27 dc27 pm27 an27 cd27 ct27
      ] : List FuncData).getD i (PySem.W.fnOf "law" "law" (defArgs s_law) (defBody s_law) (defScope s_law) .none kV27 dc27 pm27 an27 cd27 ct27)) C := {
    isb := fnAt_mk X G (fun _ _ _ _ _ _ us hl => match us, hl with | [_, _], _ => rfl) a0 l0 c0 k0
    mrk := fnAt_mk X G (fun _ _ _ _ _ _ us hl => match us, hl with | [_, _, _], _ => rfl) a1 l1 c1 k1
    pin := inAt_mk (fun _ _ _ _ _ _ us hl => match us, hl with | [_, _, _], _ => rfl) mk kc a2 i2 l2 c2 k2
    sid := meAt_mk (fun _ _ _ _ _ _ us hl => match us, hl with | [_, _, _], _ => rfl) a3 i3 l3 c3 k3
    spl := meAt_mk (fun _ _ _ _ _ _ us hl => match us, hl with | [_, _], _ => rfl) a4 i4 l4 c4 k4
    bes := meAt_mk (fun _ _ _ _ _ _ us hl => match us, hl with | [_, _], _ => rfl) a5 i5 l5 c5 k5
    shi := fnAt_mk X G (fun _ _ _ _ _ _ us hl => match us, hl with | [_, _], _ => rfl) a6 l6 c6 k6
    hol := fnAt_mk X G (fun _ _ _ _ _ _ us hl => match us, hl with | [_, _, _], _ => rfl) a7 l7 c7 k7
    shr := fnAt_mk X G (fun _ _ _ _ _ _ us hl => match us, hl with | [_, _, _], _ => rfl) a8 l8 c8 k8
    sta := fnAt_mk X G (fun _ _ _ _ _ _ us hl => match us, hl with | [_], _ => rfl) a9 l9 c9 k9
    drw := fnAt_mk X G (fun _ _ _ _ _ _ us hl => match us, hl with | [_, _], _ => rfl) a10 l10 c10 k10
    pck := fnAt_mk X G (fun _ _ _ _ _ _ us hl => match us, hl with | [_, _], _ => rfl) a11 l11 c11 k11
    som := fnAt_mk X G (fun _ _ _ _ _ _ us hl => match us, hl with | [_, _, _], _ => rfl) a12 l12 c12 k12
    pth := fnAt_mk X G (fun _ _ _ _ _ _ us hl => match us, hl with | [_], _ => rfl) a13 l13 c13 k13
    chg := fnAt_mk X G (fun _ _ _ _ _ _ us hl => match us, hl with | [_, _, _], _ => rfl) a14 l14 c14 k14
    pwk := fnAt_mk X G (fun _ _ _ _ _ _ us hl => match us, hl with | [_, _], _ => rfl) a15 l15 c15 k15
    nds := fnAt_mk X G (fun _ _ _ _ _ _ us hl => match us, hl with | [_], _ => rfl) a16 l16 c16 k16
    abl := fnAt_mk X G (fun _ _ _ _ _ _ us hl => match us, hl with | [_], _ => rfl) a17 l17 c17 k17
    btw := fnAt_mk X G (fun _ _ _ _ _ _ us hl => match us, hl with | [_, _, _], _ => rfl) a18 l18 c18 k18
    pts := fnAt_mk X G (fun _ _ _ _ _ _ us hl => match us, hl with | [_, _, _], _ => rfl) a19 l19 c19 k19
    cau := fnAt_mk X G (fun _ _ _ _ _ _ us hl => match us, hl with | [_, _], _ => rfl) a20 l20 c20 k20
    bad := fnAt_mk X G (fun _ _ _ _ _ _ us hl => match us, hl with | [_, _], _ => rfl) a21 l21 c21 k21
    cas := fnAt_mk X G (fun _ _ _ _ _ _ us hl => match us, hl with | [_], _ => rfl) a22 l22 c22 k22
    few := fnAt_mk X G (fun _ _ _ _ _ _ us hl => match us, hl with | [_, _, _], _ => rfl) a23 l23 c23 k23
    std := fnAt_mk X G (fun _ _ _ _ _ _ us hl => match us, hl with | [_, _, _], _ => rfl) a24 l24 c24 k24
    rgt := fnAt_mk X G (fun _ _ _ _ _ _ us hl => match us, hl with | [_, _, _], _ => rfl) a25 l25 c25 k25
    trn := fnAt_mk X G (fun _ _ _ _ _ _ us hl => match us, hl with | [_, _], _ => rfl) a26 l26 c26 k26
    law := fnAt_mk X G (fun _ _ _ _ _ _ us hl => match us, hl with | [_], _ => rfl) a27 l27 c27 k27
    cl := ⟨pg, hd, po, sa⟩, nR := nR, nK := nK, mgC := PySem.W.mg_of X G aC
    len := PySem.W.mg_none_of X G z_len
    int := PySem.W.mg_none_of X G z_int
    abs := PySem.W.mg_none_of X G z_abs
    range := PySem.W.mg_none_of X G z_range
    sorted := PySem.W.mg_none_of X G z_sorted
    isinstance := PySem.W.mg_none_of X G z_isinstance
    tuple := PySem.W.mg_none_of X G z_tuple
    list := PySem.W.mg_none_of X G z_list
    repr := PySem.W.mg_none_of X G z_repr
    max := PySem.W.mg_none_of X G z_max
    any := PySem.W.mg_none_of X G z_any
    bool := PySem.W.mg_none_of X G z_bool }
  exact ⟨_, fun s v => .of_eq rfl, fun base _ _ => ok_law T⟩
end Qw
open PySem PySem.W PyProof.Rows
set_option maxRecDepth 100000 in
set_option maxHeartbeats 0 in
theorem PySem.Challenge.cw_quiltward_k96_whole_shields_show_that_fe_holds : PySem.Challenge.rw_quiltward_k96_whole_shields_show_that_fe.Holds := by
  w_on; o_law; k_head; (case hw => w_witness2)
  k_fill
  refine Qw.walkG (l := PySem.Challenge.rw_quiltward_k96_whole_shields_show_that_fe) (m := 63) (n := 12) (x := "_law_script") (sp := Qw.spLaw) rfl (by decide) rfl ⟨rfl, by decide, by decide⟩ (fun w h Y => PySem.W.kIn_of Y) ?F (fun K H a ks few seq => ⟨a, ks, rfl, seq, few, fun _ => rfl⟩)
  case F =>
    intro w mg fa h KX G named
    refine' Qw.all_mk KX G named ?aC ?a0 ?l0 ?c0 ?k0 ?a1 ?l1 ?c1 ?k1 ?a2 ?i2 ?l2 ?c2 ?k2 ?a3 ?i3 ?l3 ?c3 ?k3 ?a4 ?i4 ?l4 ?c4 ?k4 ?a5 ?i5 ?l5 ?c5 ?k5 ?a6 ?l6 ?c6 ?k6 ?a7 ?l7 ?c7 ?k7 ?a8 ?l8 ?c8 ?k8 ?a9 ?l9 ?c9 ?k9 ?a10 ?l10 ?c10 ?k10 ?a11 ?l11 ?c11 ?k11 ?a12 ?l12 ?c12 ?k12 ?a13 ?l13 ?c13 ?k13 ?a14 ?l14 ?c14 ?k14 ?a15 ?l15 ?c15 ?k15 ?a16 ?l16 ?c16 ?k16 ?a17 ?l17 ?c17 ?k17 ?a18 ?l18 ?c18 ?k18 ?a19 ?l19 ?c19 ?k19 ?a20 ?l20 ?c20 ?k20 ?a21 ?l21 ?c21 ?k21 ?a22 ?l22 ?c22 ?k22 ?a23 ?l23 ?c23 ?k23 ?a24 ?l24 ?c24 ?k24 ?a25 ?l25 ?c25 ?k25 ?a26 ?l26 ?c26 ?k26 ?a27 ?l27 ?c27 ?k27 ?pg ?hd ?po ?sa ?mk ?kc ?nR ?nK ?z_len ?z_int ?z_abs ?z_range ?z_sorted ?z_isinstance ?z_tuple ?z_list ?z_repr ?z_max ?z_any ?z_bool
    (case aC => k_is); (case a0 => k_is); (case l0 => k_is); (case c0 => k_is); (case k0 => k_is); (case a1 => k_is)
    (case l1 => k_is); (case c1 => k_is); (case k1 => k_is); (case a2 => k_is); (case i2 => k_is); (case l2 => k_is)
    (case c2 => k_is); (case k2 => k_is); (case a3 => k_is); (case i3 => k_is); (case l3 => k_is); (case c3 => k_is)
    (case k3 => k_is); (case a4 => k_is); (case i4 => k_is); (case l4 => k_is); (case c4 => k_is); (case k4 => k_is)
    (case a5 => k_is); (case i5 => k_is); (case l5 => k_is); (case c5 => k_is); (case k5 => k_is); (case a6 => k_is)
    (case l6 => k_is); (case c6 => k_is); (case k6 => k_is); (case a7 => k_is); (case l7 => k_is); (case c7 => k_is)
    (case k7 => k_is); (case a8 => k_is); (case l8 => k_is); (case c8 => k_is); (case k8 => k_is); (case a9 => k_is)
    (case l9 => k_is); (case c9 => k_is); (case k9 => k_is); (case a10 => k_is); (case l10 => k_is); (case c10 => k_is)
    (case k10 => k_is); (case a11 => k_is); (case l11 => k_is); (case c11 => k_is); (case k11 => k_is); (case a12 => k_is)
    (case l12 => k_is); (case c12 => k_is); (case k12 => k_is); (case a13 => k_is); (case l13 => k_is); (case c13 => k_is)
    (case k13 => k_is); (case a14 => k_is); (case l14 => k_is); (case c14 => k_is); (case k14 => k_is); (case a15 => k_is)
    (case l15 => k_is); (case c15 => k_is); (case k15 => k_is); (case a16 => k_is); (case l16 => k_is); (case c16 => k_is)
    (case k16 => k_is); (case a17 => k_is); (case l17 => k_is); (case c17 => k_is); (case k17 => k_is); (case a18 => k_is)
    (case l18 => k_is); (case c18 => k_is); (case k18 => k_is); (case a19 => k_is); (case l19 => k_is); (case c19 => k_is)
    (case k19 => k_is); (case a20 => k_is); (case l20 => k_is); (case c20 => k_is); (case k20 => k_is); (case a21 => k_is)
    (case l21 => k_is); (case c21 => k_is); (case k21 => k_is); (case a22 => k_is); (case l22 => k_is); (case c22 => k_is)
    (case k22 => k_is); (case a23 => k_is); (case l23 => k_is); (case c23 => k_is); (case k23 => k_is); (case a24 => k_is)
    (case l24 => k_is); (case c24 => k_is); (case k24 => k_is); (case a25 => k_is); (case l25 => k_is); (case c25 => k_is)
    (case k25 => k_is); (case a26 => k_is); (case l26 => k_is); (case c26 => k_is); (case k26 => k_is); (case a27 => k_is)
    (case l27 => k_is); (case c27 => k_is); (case k27 => k_is); (case pg => k_is); (case hd => k_is); (case po => k_is)
    (case sa => k_is); (case mk => k_is); (case kc => k_is); (case nR => k_is); (case nK => k_is); (case z_len => k_is)
    (case z_int => k_is); (case z_abs => k_is); (case z_range => k_is); (case z_sorted => k_is); (case z_isinstance => k_is); (case z_tuple => k_is)
    (case z_list => k_is); (case z_repr => k_is); (case z_max => k_is); (case z_any => k_is); (case z_bool => k_is)
