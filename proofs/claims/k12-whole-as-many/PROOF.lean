import PyProof.Rows.All
import Wide.All
import OpenK.AllK
import Wide.FinOn
import KE.KStateDown
import KE.Datum
import Lean
import HandS.ForMost
import HandS.Defaults
import HandS.WordsExc
import HandS.ForExc
import HandS.ExcIs
import HandS.ExcCtx
import HandS.HotCalls
import HandS.TryOnly
import HandS.Conv
import HandS.Style
import HandS.RevRange
import HandS.Wide
import HandS.Iter
import HandS.IsInst
import HandS.TupLe
import HandS.Evl
import HandS.Head0
import HandS.Head1
import HandS.Head2
import HandS.HeadEnd
import HandS.HeadHook1
import HandS.HeadHook2
import KE.SortCalls
import HandS.Deep
import PySem.Challenge.RW_toppleyard_k12_whole_as_many
set_option Elab.async false
set_option linter.all false
set_option maxRecDepth 100000
set_option maxHeartbeats 4000000
/-! Nets, heaps, topples: the plain mathematics (no program in sight). -/
namespace Sd

abbrev Road := Nat × Nat
/-- the sum over all roads, each in both directions -/
def ds : List Road → (Nat → Nat → Int) → Int
  | [], _ => 0
  | r :: rs, F => ds rs F + (F r.1 r.2 + F r.2 r.1)

theorem ds_append (a b : List Road) (F : Nat → Nat → Int) : ds (a ++ b) F = ds a F + ds b F := by
  induction a with
  | nil => simp [ds]
  | cons r a ih => simp only [List.cons_append, ds, ih]; omega
theorem ds_add (rs : List Road) (F G : Nat → Nat → Int) : ds rs (fun a b => F a b + G a b) = ds rs F + ds rs G := by
  induction rs with
  | nil => rfl
  | cons r rs ih => simp only [ds, ih]; omega
theorem ds_sub (rs : List Road) (F G : Nat → Nat → Int) : ds rs (fun a b => F a b - G a b) = ds rs F - ds rs G := by
  induction rs with
  | nil => rfl
  | cons r rs ih => simp only [ds, ih]; omega
theorem ds_mul (rs : List Road) (c : Int) (F : Nat → Nat → Int) : ds rs (fun a b => c * F a b) = c * ds rs F := by
  induction rs with
  | nil => simp [ds]
  | cons r rs ih => simp only [ds, ih, Int.mul_add]
theorem ds_zero (rs : List Road) : ds rs (fun _ _ => 0) = 0 := by
  induction rs with
  | nil => rfl
  | cons r rs ih => simp only [ds, ih]; rfl
theorem ds_le {rs : List Road} {F G : Nat → Nat → Int} (h : ∀ r ∈ rs, F r.1 r.2 ≤ G r.1 r.2 ∧ F r.2 r.1 ≤ G r.2 r.1) : ds rs F ≤ ds rs G := by
  induction rs with
  | nil => exact Int.le_refl _
  | cons r rs ih =>
    have h1 := h r (List.mem_cons_self)
    have h2 := ih fun x hx => h x (List.mem_cons_of_mem _ hx)
    simp only [ds]; omega
theorem ds_congr {rs : List Road} {F G : Nat → Nat → Int} (h : ∀ r ∈ rs, F r.1 r.2 = G r.1 r.2 ∧ F r.2 r.1 = G r.2 r.1) : ds rs F = ds rs G := by
  induction rs with
  | nil => rfl
  | cons r rs ih =>
    have h1 := h r (List.mem_cons_self)
    have h2 := ih fun x hx => h x (List.mem_cons_of_mem _ hx)
    simp only [ds, h1.1, h1.2, h2]
/-- one road makes a difference of at least d -/
theorem ds_gap {rs : List Road} {F G : Nat → Nat → Int} {d : Int} (h : ∀ r ∈ rs, F r.1 r.2 ≤ G r.1 r.2 ∧ F r.2 r.1 ≤ G r.2 r.1) {r : Road} (hr : r ∈ rs) (g : F r.1 r.2 + d ≤ G r.1 r.2 ∨ F r.2 r.1 + d ≤ G r.2 r.1) : ds rs F + d ≤ ds rs G := by
  induction rs with
  | nil => cases hr
  | cons x rs ih =>
    have h1 := h x (List.mem_cons_self)
    rcases List.mem_cons.mp hr with e | hr
    · subst e
      have h2 := ds_le (rs := rs) fun x hx => h x (List.mem_cons_of_mem _ hx)
      simp only [ds]; omega
    · have h2 := ih (fun x hx => h x (List.mem_cons_of_mem _ hx)) hr
      simp only [ds]; omega
/-- a sum of what is nowhere below nought, and is nought: each is -/
theorem ds_zero_of {rs : List Road} {F : Nat → Nat → Int} (h : ∀ r ∈ rs, 0 ≤ F r.1 r.2 ∧ 0 ≤ F r.2 r.1) (z : ds rs F ≤ 0) : ∀ r ∈ rs, F r.1 r.2 = 0 ∧ F r.2 r.1 = 0 := by
  intro r hr
  have a : ∀ x ∈ rs, (fun _ _ => (0 : Int)) x.1 x.2 ≤ F x.1 x.2 ∧ (fun _ _ => (0 : Int)) x.2 x.1 ≤ F x.2 x.1 := h
  have h1 := h r hr
  constructor
  · have := ds_gap (F := fun _ _ => (0 : Int)) (d := F r.1 r.2) a hr (Or.inl (by simp))
    rw [ds_zero] at this; omega
  · have := ds_gap (F := fun _ _ => (0 : Int)) (d := F r.2 r.1) a hr (Or.inr (by simp))
    rw [ds_zero] at this; omega

/-- how many roads are at k -/
def deg (rs : List Road) (k : Nat) : Int := ds rs fun a _ => if a = k then 1 else 0
/-- how many roads lead from k into A -/
def degA (rs : List Road) (A : Nat → Bool) (k : Nat) : Int := ds rs fun a b => if a = k ∧ A b = true then 1 else 0
/-- what a topple of each place, u times, takes from k; u is 0 at the pit -/
def lap (rs : List Road) (u : Nat → Int) (k : Nat) : Int := ds rs fun a b => if a = k then u a - u b else 0
/-- nought from n on -/
def zr (n : Nat) (u : Nat → Int) : Nat → Int := fun k => if k < n then u k else 0
def mv (n : Nat) (rs : List Road) (h u : Nat → Int) : Nat → Int := fun k => h k - lap rs (zr n u) k
/-- at rest -/
def Low (n : Nat) (rs : List Road) (h : Nat → Int) : Prop := ∀ k, k < n → h k < deg rs k
structure Net (n : Nat) (rs : List Road) : Prop where
  ok : ∀ r ∈ rs, r.1 ≤ n ∧ r.2 ≤ n ∧ r.1 ≠ r.2
  conn : ∀ S : Nat → Prop, S n → (∀ r ∈ rs, S r.1 ↔ S r.2) → ∀ k, k < n → S k

theorem deg_nn (rs : List Road) (k : Nat) : 0 ≤ deg rs k := by
  unfold deg
  have := ds_le (rs := rs) (F := fun _ _ => 0) (G := fun a _ => if a = k then 1 else 0) fun r _ => by constructor <;> ((try dsimp only); split <;> omega)
  rw [ds_zero] at this; exact this
theorem degA_nn (rs : List Road) (A : Nat → Bool) (k : Nat) : 0 ≤ degA rs A k := by
  unfold degA
  have := ds_le (rs := rs) (F := fun _ _ => 0) (G := fun a b => if a = k ∧ A b = true then 1 else 0) fun r _ => by constructor <;> ((try dsimp only); split <;> omega)
  rw [ds_zero] at this; exact this
theorem lap_congr {n : Nat} {rs : List Road} {u v : Nat → Int} (h : ∀ r ∈ rs, r.1 ≤ n ∧ r.2 ≤ n ∧ r.1 ≠ r.2) (e : ∀ k, k ≤ n → u k = v k) (k : Nat) : lap rs u k = lap rs v k := by
  unfold lap
  refine ds_congr fun r hr => ?_
  have := h r hr
  rw [e r.1 this.1, e r.2 this.2.1]; exact ⟨rfl, rfl⟩
theorem lap_add (rs : List Road) (u v : Nat → Int) (k : Nat) : lap rs (fun j => u j + v j) k = lap rs u k + lap rs v k := by
  unfold lap
  rw [← ds_add]
  refine ds_congr fun r _ => ?_
  constructor <;> ((try dsimp only); split <;> omega)
theorem lap_sub (rs : List Road) (u v : Nat → Int) (k : Nat) : lap rs (fun j => u j - v j) k = lap rs u k - lap rs v k := by
  unfold lap
  rw [← ds_sub]
  refine ds_congr fun r _ => ?_
  constructor <;> ((try dsimp only); split <;> omega)
theorem lap_smul (rs : List Road) (c : Int) (u : Nat → Int) (k : Nat) : lap rs (fun j => c * u j) k = c * lap rs u k := by
  unfold lap
  rw [← ds_mul]
  refine ds_congr fun r _ => ?_
  constructor <;> ((try dsimp only); split <;> simp [Int.mul_sub])
theorem lap_zero (rs : List Road) (k : Nat) : lap rs (fun _ => 0) k = 0 := by
  unfold lap
  refine Eq.trans (ds_congr (G := fun _ _ => 0) fun r _ => ?_) (ds_zero rs)
  constructor <;> ((try dsimp only); split <;> rfl)
theorem zr_lt {n : Nat} {u : Nat → Int} {k : Nat} (h : k < n) : zr n u k = u k := if_pos h
theorem zr_ge {n : Nat} {u : Nat → Int} {k : Nat} (h : ¬ k < n) : zr n u k = 0 := if_neg h
theorem zr_add (n : Nat) (u v : Nat → Int) : zr n (fun j => u j + v j) = fun j => zr n u j + zr n v j := by
  funext j; unfold zr; (try dsimp only); split <;> omega
theorem zr_sub (n : Nat) (u v : Nat → Int) : zr n (fun j => u j - v j) = fun j => zr n u j - zr n v j := by
  funext j; unfold zr; (try dsimp only); split <;> omega
theorem zr_neg (n : Nat) (u : Nat → Int) : zr n (fun j => - u j) = fun j => - zr n u j := by
  funext j; unfold zr; (try dsimp only); split <;> omega
theorem zr_smul (n : Nat) (c : Int) (u : Nat → Int) : zr n (fun j => c * u j) = fun j => c * zr n u j := by
  funext j; unfold zr; (try dsimp only); split <;> simp
theorem zr_zero (n : Nat) : zr n (fun _ => 0) = fun _ => 0 := by
  funext j; unfold zr; split <;> rfl
theorem zr_congr {n : Nat} {u v : Nat → Int} (e : ∀ k, k < n → u k = v k) : zr n u = zr n v := by
  funext j; unfold zr; split
  · exact e j (by assumption)
  · rfl
theorem mv_congr {n : Nat} {rs : List Road} {h h' u u' : Nat → Int} (e : ∀ k, k < n → u k = u' k) (k : Nat) (eh : h k = h' k) : mv n rs h u k = mv n rs h' u' k := by
  unfold mv; rw [zr_congr e, eh]
theorem mv_add (n : Nat) (rs : List Road) (h u v : Nat → Int) (k : Nat) : mv n rs h (fun j => u j + v j) k = mv n rs (mv n rs h u) v k := by
  unfold mv; rw [zr_add, lap_add]; omega
theorem mv_zero (n : Nat) (rs : List Road) (h : Nat → Int) (k : Nat) : mv n rs h (fun _ => 0) k = h k := by
  unfold mv; rw [zr_zero, lap_zero]; omega
theorem mv_heap (n : Nat) (rs : List Road) (h g u : Nat → Int) (k : Nat) : mv n rs (fun j => h j + g j) u k = mv n rs h u k + g k := by
  unfold mv; (try dsimp only); omega

/-! ### the greatest value -/
theorem exists_max (n : Nat) (u : Nat → Int) : ∃ m, m ≤ n ∧ ∀ k, k ≤ n → u k ≤ u m := by
  induction n with
  | zero => exact ⟨0, Nat.le_refl _, fun k hk => by have : k = 0 := by omega
                                                    subst this; exact Int.le_refl _⟩
  | succ n ih =>
    obtain ⟨m, hm, h⟩ := ih
    by_cases c : u m ≤ u (n + 1)
    · refine ⟨n + 1, Nat.le_refl _, fun k hk => ?_⟩
      by_cases e : k = n + 1
      · subst e; exact Int.le_refl _
      · have := h k (by omega); omega
    · refine ⟨m, by omega, fun k hk => ?_⟩
      by_cases e : k = n + 1
      · subst e; omega
      · exact h k (by omega)

variable {n : Nat} {rs : List Road}
/-- (A) where no place loses, no times are above nought -/
theorem Net.max (N : Net n rs) {u : Nat → Int} (z : u n ≤ 0) (hl : ∀ k, k < n → lap rs u k ≤ 0) : ∀ k, k ≤ n → u k ≤ 0 := by
  obtain ⟨m, hm, mx⟩ := exists_max n u
  suffices u m ≤ 0 from fun k hk => Int.le_trans (mx k hk) this
  refine Decidable.byContradiction fun pos => ?_
  have T : ∀ a, a < n → u a = u m → ∀ r ∈ rs, (r.1 = a → u r.2 = u m) ∧ (r.2 = a → u r.1 = u m) := by
    intro a ha ea r hr
    have nn : ∀ r ∈ rs, 0 ≤ (fun x y => if x = a then u x - u y else 0) r.1 r.2 ∧ 0 ≤ (fun x y => if x = a then u x - u y else 0) r.2 r.1 := by
      intro r hr
      have h := N.ok r hr
      have h1 := mx r.1 h.1
      have h2 := mx r.2 h.2.1
      (try dsimp only)
      constructor
      · split
        · rename_i e; rw [e, ea]; rw [e] at h1; omega
        · exact Int.le_refl _
      · split
        · rename_i e; rw [e, ea]; omega
        · exact Int.le_refl _
    have q := ds_zero_of nn (hl a ha) r hr
    (try dsimp only at q)
    constructor
    · intro e
      have := q.1; rw [if_pos e, e] at this; omega
    · intro e
      have := q.2; rw [if_pos e, e] at this; omega
  have hmn : m < n := by
    refine Decidable.byContradiction fun c => ?_
    have : m = n := by omega
    rw [this] at pos; omega
  have key := N.conn (fun k => u k ≠ u m) (by intro e; omega) (fun r hr => by
    have h := N.ok r hr
    constructor
    · intro h1 h2
      by_cases c : r.2 < n
      · exact h1 ((T r.2 c h2 r hr).2 rfl)
      · have : r.2 = n := by omega
        rw [this] at h2; omega
    · intro h1 h2
      by_cases c : r.1 < n
      · exact h1 ((T r.1 c h2 r hr).1 rfl)
      · have : r.1 = n := by omega
        rw [this] at h2; omega) m hmn
  exact key rfl
theorem Net.inj0 (N : Net n rs) {u : Nat → Int} (hl : ∀ k, k < n → lap rs (zr n u) k = 0) : ∀ k, k < n → u k = 0 := by
  intro k hk
  have h1 := N.max (u := zr n u) (by rw [zr_ge (by omega)]; omega) (fun k hk => by rw [hl k hk]; omega) k (by omega)
  have h2 := N.max (u := zr n fun j => - u j) (by rw [zr_ge (by omega)]; omega) (fun k hk => by
    rw [zr_neg]
    have e : lap rs (fun j => -zr n u j) k = lap rs (fun j => (-1) * zr n u j) k := by
      congr 1; funext j; omega
    rw [e, lap_smul, hl k hk]; omega) k (by omega)
  rw [zr_lt hk] at h1 h2; omega
/-- the times are the only ones -/
theorem Net.inj (N : Net n rs) {h u v : Nat → Int} (e : ∀ k, k < n → mv n rs h u k = mv n rs h v k) : ∀ k, k < n → u k = v k := by
  intro k hk
  have := N.inj0 (u := fun j => u j - v j) (fun k hk => by
    have := e k hk
    unfold mv at this
    rw [zr_sub, lap_sub]; omega) k hk
  omega

/-! ### ranks, a potential, and that a heap can be brought to rest -/
def lev (n : Nat) (rs : List Road) : Nat → Nat → Prop
  | 0, k => k = n
  | i + 1, k => lev n rs i k ∨ ∃ r ∈ rs, (r.1 = k ∧ lev n rs i r.2) ∨ (r.2 = k ∧ lev n rs i r.1)
theorem exists_least {P : Nat → Prop} : ∀ i, P i → ∃ j, P j ∧ ∀ k, k < j → ¬ P k := by
  intro i
  induction i using Nat.strongRecOn with
  | _ i ih =>
    intro h
    by_cases c : ∃ k, k < i ∧ P k
    · obtain ⟨k, h1, h2⟩ := c
      exact ih k h1 h2
    · exact ⟨i, h, fun k hk hp => c ⟨k, hk, hp⟩⟩
theorem Net.levs (N : Net n rs) : ∀ k, k ≤ n → ∃ i, lev n rs i k := by
  have key := N.conn (fun k => ∃ i, lev n rs i k) ⟨0, rfl⟩ (fun r hr => by
    constructor
    · rintro ⟨i, h⟩
      exact ⟨i + 1, Or.inr ⟨r, hr, Or.inr ⟨rfl, h⟩⟩⟩
    · rintro ⟨i, h⟩
      exact ⟨i + 1, Or.inr ⟨r, hr, Or.inl ⟨rfl, h⟩⟩⟩)
  intro k hk
  by_cases c : k < n
  · exact key k c
  · have : k = n := by omega
    exact ⟨0, this⟩
/-- each place has a road to where the rank is less -/
theorem Net.rank (N : Net n rs) : ∃ rk : Nat → Nat, rk n = 0 ∧ ∀ k, k < n → ∃ r ∈ rs, (r.1 = k ∧ rk r.2 < rk k) ∨ (r.2 = k ∧ rk r.1 < rk k) := by
  have h0 : ∀ k, ∃ j, k ≤ n → lev n rs j k ∧ ∀ i, i < j → ¬ lev n rs i k := by
    intro k
    by_cases c : k ≤ n
    · obtain ⟨i, h⟩ := N.levs k c
      obtain ⟨j, h1, h2⟩ := exists_least (P := fun i => lev n rs i k) i h
      exact ⟨j, fun _ => ⟨h1, h2⟩⟩
    · exact ⟨0, fun h => absurd h c⟩
  refine ⟨fun k => Classical.choose (h0 k), ?_, ?_⟩
  · have := (Classical.choose_spec (h0 n)) (Nat.le_refl _)
    show Classical.choose (h0 n) = 0
    refine Decidable.byContradiction fun c => ?_
    exact this.2 0 (by omega) rfl
  · intro k hk
    have sp := (Classical.choose_spec (h0 k)) (by omega)
    show ∃ r ∈ rs, (r.1 = k ∧ Classical.choose (h0 r.2) < Classical.choose (h0 k)) ∨ (r.2 = k ∧ Classical.choose (h0 r.1) < Classical.choose (h0 k))
    generalize Classical.choose (h0 k) = j at sp
    cases j with
    | zero => have : k = n := sp.1
              omega
    | succ j =>
      rcases sp.1 with h | ⟨r, hr, h⟩
      · exact absurd h (sp.2 j (by omega))
      · refine ⟨r, hr, ?_⟩
        have o := N.ok r hr
        rcases h with ⟨e, h⟩ | ⟨e, h⟩
        · refine Or.inl ⟨e, ?_⟩
          have s2 := (Classical.choose_spec (h0 r.2)) o.2.1
          refine Decidable.byContradiction fun c => ?_
          exact s2.2 j (by omega) h
        · refine Or.inr ⟨e, ?_⟩
          have s2 := (Classical.choose_spec (h0 r.1)) o.1
          refine Decidable.byContradiction fun c => ?_
          exact s2.2 j (by omega) h
theorem Net.deg_pos (N : Net n rs) {k : Nat} (hk : k < n) : 1 ≤ deg rs k := by
  obtain ⟨rk, _, h⟩ := N.rank
  obtain ⟨r, hr, h⟩ := h k hk
  have := ds_gap (rs := rs) (F := fun _ _ => 0) (G := fun a _ => if a = k then 1 else 0) (d := 1) (fun r _ => by constructor <;> ((try dsimp only); split <;> omega)) hr (by
    rcases h with ⟨e, _⟩ | ⟨e, _⟩
    · left; (try dsimp only); rw [if_pos e]; omega
    · right; (try dsimp only); rw [if_pos e]; omega)
  rw [ds_zero] at this
  unfold deg; omega
theorem exists_bound (n : Nat) (f : Nat → Nat) : ∃ B, ∀ k, k ≤ n → f k ≤ B := by
  induction n with
  | zero => exact ⟨f 0, fun k hk => by have : k = 0 := by omega
                                       subst this; exact Nat.le_refl _⟩
  | succ n ih =>
    obtain ⟨B, h⟩ := ih
    refine ⟨B + f (n + 1), fun k hk => ?_⟩
    by_cases e : k = n + 1
    · subst e; omega
    · have := h k (by omega); omega
theorem exists_boundI (n : Nat) (f : Nat → Int) : ∃ B : Int, 0 ≤ B ∧ ∀ k, k ≤ n → f k ≤ B := by
  obtain ⟨B, h⟩ := exists_bound n fun k => (f k).toNat
  exact ⟨B, by omega, fun k hk => by have := h k hk; (try dsimp only at this); omega⟩
def pot (C : Int) : Nat → Int
  | 0 => 0
  | e + 1 => C * pot C e + 1
theorem pot_nn {C : Int} (h : 1 ≤ C) : ∀ e, 0 ≤ pot C e
  | 0 => Int.le_refl _
  | e + 1 => by
    have := Int.mul_nonneg (show 0 ≤ C by omega) (pot_nn h e)
    simp only [pot]; omega
theorem pot_step {C : Int} (h : 1 ≤ C) (e : Nat) : pot C e + ((C - 1) * pot C e + 1) = pot C (e + 1) := by
  simp only [pot]; rw [Int.sub_mul]; omega
theorem pot_mono {C : Int} (h : 1 ≤ C) {e f : Nat} (hf : e ≤ f) : pot C e ≤ pot C f := by
  induction f with
  | zero => have : e = 0 := by omega
            subst this; exact Int.le_refl _
  | succ f ih =>
    by_cases c : e = f + 1
    · subst c; exact Int.le_refl _
    · have h1 := ih (by omega)
      have h2 := pot_step h f
      have h3 := Int.mul_nonneg (show 0 ≤ C - 1 by omega) (pot_nn h f)
      omega
theorem deg_le (rs : List Road) (k : Nat) : deg rs k ≤ 2 * rs.length := by
  induction rs with
  | nil => simp [deg, ds]
  | cons r rs ih =>
    unfold deg at ih ⊢
    simp only [ds, List.length_cons]
    split <;> split <;> omega
theorem Net.potential (N : Net n rs) : ∃ w : Nat → Int, w n = 0 ∧ (∀ k, 0 ≤ w k) ∧ ∀ k, k < n → 1 ≤ lap rs w k := by
  obtain ⟨rk, r0, hrk⟩ := N.rank
  obtain ⟨B, hB⟩ := exists_bound n rk
  let C : Int := 2 * rs.length + 1
  have hC : 1 ≤ C := by show 1 ≤ 2 * (rs.length : Int) + 1; omega
  refine ⟨fun k => pot C B - pot C (B - rk k), ?_, ?_, ?_⟩
  · (try dsimp only); rw [r0, Nat.sub_zero]; omega
  · intro k; dsimp only
    have := pot_mono hC (show B - rk k ≤ B by omega); omega
  · intro k hk
    obtain ⟨r, hr, hd⟩ := hrk k hk
    have hBk := hB k (by omega)
    -- against the constant -pot(e) at each road of k
    have key := ds_gap (rs := rs) (F := fun a _ => (-(pot C (B - rk k))) * (if a = k then 1 else 0)) (G := fun a b => if a = k then (pot C B - pot C (B - rk a)) - (pot C B - pot C (B - rk b)) else 0)
      (d := pot C (B - rk k) + ((C - 1) * pot C (B - rk k) + 1)) (fun r _ => by
        constructor
        · (try dsimp only); split
          · rename_i e; rw [e]
            have := pot_nn hC (B - rk r.2); omega
          · omega
        · (try dsimp only); split
          · rename_i e; rw [e]
            have := pot_nn hC (B - rk r.1); omega
          · omega) hr (by
      rw [pot_step hC]
      rcases hd with ⟨e, h⟩ | ⟨e, h⟩
      · left; (try dsimp only); rw [if_pos e, if_pos e, e]
        have := pot_mono hC (show B - rk k + 1 ≤ B - rk r.2 by omega); omega
      · right; (try dsimp only); rw [if_pos e, if_pos e, e]
        have := pot_mono hC (show B - rk k + 1 ≤ B - rk r.1 by omega); omega)
    rw [ds_mul] at key
    have hdg := deg_le rs k
    have e1 : ds rs (fun a _ => if a = k then (1:Int) else 0) = deg rs k := rfl
    rw [e1] at key
    have hp := pot_nn hC (B - rk k)
    have h3 : deg rs k * pot C (B - rk k) ≤ (C - 1) * pot C (B - rk k) := Int.mul_le_mul_of_nonneg_right (by show deg rs k ≤ 2 * (rs.length : Int) + 1 - 1; omega) hp
    have h4 : -pot C (B - rk k) * deg rs k = -(deg rs k * pot C (B - rk k)) := by rw [Int.neg_mul, Int.mul_comm]
    unfold lap; (try dsimp only); rw [h4] at key; omega
/-- (C) there are times, none below nought, behind which all is at rest -/
theorem Net.restful (N : Net n rs) (h : Nat → Int) : ∃ u : Nat → Int, (∀ k, 0 ≤ u k) ∧ Low n rs (mv n rs h u) := by
  obtain ⟨w, w0, wn, wl⟩ := N.potential
  obtain ⟨B, hB0, hB⟩ := exists_boundI n h
  refine ⟨fun k => B * w k, fun k => Int.mul_nonneg hB0 (wn k), fun k hk => ?_⟩
  have hz : zr n (fun j => B * w j) = fun j => B * zr n w j := zr_smul n B w
  have e : lap rs (zr n w) k = lap rs w k := lap_congr N.ok (fun j hj => by
    by_cases c : j < n
    · exact zr_lt c
    · have : j = n := by omega
      rw [zr_ge c, this, w0]) k
  unfold mv
  rw [hz, lap_smul, e]
  have h1 := wl k hk
  have h2 : B * 1 ≤ B * lap rs w k := Int.mul_le_mul_of_nonneg_left h1 hB0
  have h3 := hB k (by omega)
  have h4 := N.deg_pos hk
  omega
end Sd
namespace Sd
/-! ### a search along the roads -/
theorem nd_len : ∀ (m : Nat) (l : List Nat), l.Nodup → (∀ x ∈ l, x < m) → l.length ≤ m
  | 0, l, _, h => by
    cases l with
    | nil => exact Nat.le_refl _
    | cons a r => exact absurd (h a List.mem_cons_self) (by omega)
  | m + 1, l, nd, h => by
    have h1 := nd_len m (l.erase m) (nd.erase m) fun x hx => by
      have h2 := (List.Nodup.mem_erase_iff nd).mp hx
      have h3 := h x h2.2
      have h4 := h2.1
      omega
    have h2 : l.length ≤ (l.erase m).length + 1 := by
      rw [List.length_erase]
      split <;> omega
    omega
theorem nd_snoc {l : List Nat} {k : Nat} (h : l.Nodup) (hk : k ∉ l) : (l ++ [k]).Nodup := by
  rw [List.nodup_append]
  refine ⟨h, by simp, ?_⟩
  intro a ha b hb
  have : b = k := by simpa using hb
  subst this
  intro e
  exact hk (e ▸ ha)
/-- closed under the roads -/
def Cl (rs : List Road) (S : Nat → Prop) : Prop := ∀ r ∈ rs, S r.1 ↔ S r.2
structure Reach (n : Nat) (rs : List Road) (ks : List Nat) : Prop where
  nd : ks.Nodup
  le : ∀ k ∈ ks, k ≤ n
  pit : n ∈ ks
  cl : Cl rs (· ∈ ks)
  least : ∀ S : Nat → Prop, S n → Cl rs S → ∀ k ∈ ks, S k
structure RI (n : Nat) (rs : List Road) (ks ws : List Nat) : Prop where
  nd : ks.Nodup
  le : ∀ k ∈ ks, k ≤ n
  pit : n ∈ ks
  sub : ∀ k ∈ ws, k ∈ ks
  least : ∀ S : Nat → Prop, S n → Cl rs S → ∀ k ∈ ks, S k
  cl : ∀ k ∈ ks, k ∉ ws → ∀ r ∈ rs, (r.1 = k → r.2 ∈ ks) ∧ (r.2 = k → r.1 ∈ ks)
structure RJ (n : Nat) (rs : List Road) (here : Nat) (pre : List Road) (ks ws : List Nat) : Prop where
  nd : ks.Nodup
  le : ∀ k ∈ ks, k ≤ n
  pit : n ∈ ks
  sub : ∀ k ∈ ws, k ∈ ks
  hh : here ∈ ks
  least : ∀ S : Nat → Prop, S n → Cl rs S → ∀ k ∈ ks, S k
  cl : ∀ k ∈ ks, k ∉ ws → k ≠ here → ∀ r ∈ rs, (r.1 = k → r.2 ∈ ks) ∧ (r.2 = k → r.1 ∈ ks)
  pr : ∀ r ∈ pre, (r.1 = here → r.2 ∈ ks) ∧ (r.2 = here → r.1 ∈ ks)
section
variable {n : Nat} {rs pre : List Road} {ks ws : List Nat} {here : Nat} {r : Road}
theorem RI.start (n : Nat) (rs : List Road) : RI n rs [n] [n] where
  nd := by simp
  le k hk := by have : k = n := by simpa using hk
                omega
  pit := by simp
  sub k hk := hk
  least S h _ k hk := by
    have : k = n := by simpa using hk
    subst this; exact h
  cl k hk hn := absurd hk hn
theorem RI.pop (I : RI n rs ks (ws ++ [here])) : RJ n rs here [] ks ws where
  nd := I.nd
  le := I.le
  pit := I.pit
  sub k hk := I.sub k (List.mem_append_left _ hk)
  hh := I.sub here (by simp)
  least := I.least
  cl k hk hn hh := I.cl k hk (by
    intro h
    rcases List.mem_append.mp h with h | h
    · exact hn h
    · exact hh (by simpa using h))
  pr r hr := by cases hr
theorem RI.pop0 (I : RI n rs ks (here :: ws)) : RJ n rs here [] ks ws where
  nd := I.nd
  le := I.le
  pit := I.pit
  sub k hk := I.sub k (List.mem_cons_of_mem _ hk)
  hh := I.sub here (by simp)
  least := I.least
  cl k hk hn hh := I.cl k hk (by
    intro h
    rcases List.mem_cons.mp h with h | h
    · exact hh h
    · exact hn h)
  pr r hr := by cases hr
theorem RJ.skip (J : RJ n rs here pre ks ws) (h : (r.1 = here → r.2 ∈ ks) ∧ (r.2 = here → r.1 ∈ ks)) : RJ n rs here (pre ++ [r]) ks ws :=
  ⟨J.nd, J.le, J.pit, J.sub, J.hh, J.least, J.cl, fun x hx => by
    rcases List.mem_append.mp hx with hx | hx
    · exact J.pr x hx
    · have : x = r := by simpa using hx
      subst this
      exact h⟩
theorem RJ.add (J : RJ n rs here pre ks ws) {o : Nat} (hr : r ∈ rs) (ho : o ≤ n) (hn : o ∉ ks) (h : (r.1 = here ∧ r.2 = o) ∨ (r.2 = here ∧ r.1 = o)) : RJ n rs here (pre ++ [r]) (ks ++ [o]) (ws ++ [o]) where
  nd := nd_snoc J.nd hn
  le k hk := by
    rcases List.mem_append.mp hk with hk | hk
    · exact J.le k hk
    · have : k = o := by simpa using hk
      omega
  pit := List.mem_append_left _ J.pit
  sub k hk := by
    rcases List.mem_append.mp hk with hk | hk
    · exact List.mem_append_left _ (J.sub k hk)
    · exact List.mem_append_right _ hk
  hh := List.mem_append_left _ J.hh
  least S h1 h2 k hk := by
    rcases List.mem_append.mp hk with hk | hk
    · exact J.least S h1 h2 k hk
    · have e : k = o := by simpa using hk
      subst e
      have hh := J.least S h1 h2 here J.hh
      rcases h with ⟨e1, e2⟩ | ⟨e1, e2⟩
      · rw [← e2]; exact (h2 r hr).mp (by rw [e1]; exact hh)
      · rw [← e2]; exact (h2 r hr).mpr (by rw [e1]; exact hh)
  cl k hk hw hh x hx := by
    have hw1 : k ∉ ws := fun z => hw (List.mem_append_left _ z)
    have hw2 : k ≠ o := fun z => hw (List.mem_append_right _ (by simp [z]))
    rcases List.mem_append.mp hk with hk | hk
    · have := J.cl k hk hw1 hh x hx
      exact ⟨fun z => List.mem_append_left _ (this.1 z), fun z => List.mem_append_left _ (this.2 z)⟩
    · exact absurd (by simpa using hk) hw2
  pr x hx := by
    rcases List.mem_append.mp hx with hx | hx
    · have := J.pr x hx
      exact ⟨fun z => List.mem_append_left _ (this.1 z), fun z => List.mem_append_left _ (this.2 z)⟩
    · have : x = r := by simpa using hx
      subst this
      rcases h with ⟨e1, e2⟩ | ⟨e1, e2⟩
      · refine ⟨fun _ => List.mem_append_right _ (by simp [e2]), fun z => ?_⟩
        rw [e1]; exact List.mem_append_left _ J.hh
      · refine ⟨fun z => ?_, fun _ => List.mem_append_right _ (by simp [e2])⟩
        rw [e1]; exact List.mem_append_left _ J.hh
theorem RJ.done (J : RJ n rs here rs ks ws) : RI n rs ks ws where
  nd := J.nd
  le := J.le
  pit := J.pit
  sub := J.sub
  least := J.least
  cl k hk hn r hr := by
    by_cases c : k = here
    · subst c; exact J.pr r hr
    · exact J.cl k hk hn c r hr
theorem RI.fin (I : RI n rs ks []) : Reach n rs ks where
  nd := I.nd
  le := I.le
  pit := I.pit
  least := I.least
  cl r hr := ⟨fun h => (I.cl _ h (by simp) r hr).1 rfl, fun h => (I.cl _ h (by simp) r hr).2 rfl⟩
theorem RI.len (I : RI n rs ks ws) : ks.length ≤ n + 1 := nd_len (n + 1) ks I.nd fun x hx => by have := I.le x hx; omega
theorem RJ.len (I : RJ n rs here pre ks ws) : ks.length ≤ n + 1 := nd_len (n + 1) ks I.nd fun x hx => by have := I.le x hx; omega
theorem Reach.len (I : Reach n rs ks) : ks.length ≤ n + 1 := nd_len (n + 1) ks I.nd fun x hx => by have := I.le x hx; omega
/-- all is reached just where each place comes to the pit -/
theorem full_len : ∀ (m : Nat) (l : List Nat), (∀ k, k < m → k ∈ l) → m ≤ l.length
  | 0, _, _ => Nat.zero_le _
  | m + 1, l, h => by
    have h1 := full_len m (l.erase m) fun k hk => (List.mem_erase_of_ne (by omega)).mpr (h k (by omega))
    have h2 := List.length_erase_of_mem (h m (by omega))
    have h3 := List.length_pos_of_mem (h m (by omega))
    omega
theorem Reach.all (I : Reach n rs ks) (N : Net n rs) : ks.length = n + 1 := by
  have h : ∀ k, k < n + 1 → k ∈ ks := fun k hk => by
    by_cases c : k < n
    · exact N.conn (· ∈ ks) I.pit I.cl k c
    · have : k = n := by omega
      rw [this]; exact I.pit
  have := full_len (n + 1) ks h
  have := I.len
  omega
theorem Reach.conn (I : Reach n rs ks) (h : n < ks.length) : ∀ S : Nat → Prop, S n → Cl rs S → ∀ k, k < n → S k := by
  intro S h1 h2 k hk
  refine I.least S h1 h2 k ?_
  refine Decidable.byContradiction fun c => ?_
  have := nd_len n (ks.map fun x => if x = n then k else x) (by
    rw [List.nodup_iff_pairwise_ne, List.pairwise_map]
    refine List.Pairwise.imp_of_mem ?_ (List.nodup_iff_pairwise_ne.mp I.nd)
    intro a b ha hb ne
    by_cases ca : a = n
    · by_cases cb : b = n
      · exact absurd (ca.trans cb.symm) ne
      · rw [if_pos ca, if_neg cb]; intro e; subst e; exact c hb
    · by_cases cb : b = n
      · rw [if_neg ca, if_pos cb]; intro e; subst e; exact c ha
      · rw [if_neg ca, if_neg cb]; exact ne) (by
    intro x hx
    obtain ⟨y, hy, rfl⟩ := List.mem_map.mp hx
    have := I.le y hy
    split <;> omega)
  rw [List.length_map] at this
  omega
end
/-! ### how the law's nets are made -/
section
variable {n : Nat} {rs rs' : List Road}
theorem Net.base (ok : ∀ r ∈ rs, r.1 ≤ n ∧ r.2 ≤ n ∧ r.1 ≠ r.2) (par : ∀ k, k < n → ∃ r ∈ rs, r.1 = k ∧ (r.2 = n ∨ r.2 < k)) : Net n rs := by
  refine ⟨ok, fun S h1 h2 k => ?_⟩
  induction k using Nat.strongRecOn with
  | _ k ih =>
    intro hk
    obtain ⟨r, hr, e, h⟩ := par k hk
    have h3 : S r.2 := by
      rcases h with h | h
      · rw [h]; exact h1
      · exact ih r.2 h (by omega)
    have := (h2 r hr).mpr h3
    rw [e] at this; exact this
theorem Net.image (N : Net n rs) (p : Nat → Nat) (le : ∀ x, x ≤ n → p x ≤ n) (inj : ∀ x y, x ≤ n → y ≤ n → p x = p y → x = y) (pit : p n = n) (sur : ∀ j, j < n → ∃ x, x < n ∧ p x = j)
    (h1 : ∀ q ∈ rs', ∃ r ∈ rs, q = (p r.1, p r.2) ∨ q = (p r.2, p r.1)) (h2 : ∀ r ∈ rs, (p r.1, p r.2) ∈ rs' ∨ (p r.2, p r.1) ∈ rs') : Net n rs' := by
  refine ⟨fun q hq => ?_, fun S s1 s2 k hk => ?_⟩
  · obtain ⟨r, hr, e⟩ := h1 q hq
    obtain ⟨a, b, c⟩ := N.ok r hr
    rcases e with e | e
    · subst e
      exact ⟨le _ a, le _ b, fun z => c (inj _ _ a b z)⟩
    · subst e
      exact ⟨le _ b, le _ a, fun z => c (inj _ _ b a z).symm⟩
  · obtain ⟨x, hx, e⟩ := sur k hk
    rw [← e]
    refine N.conn (fun y => S (p y)) (by show S (p n); rw [pit]; exact s1) (fun r hr => ?_) x hx
    rcases h2 r hr with h | h
    · exact s2 _ h
    · exact (s2 _ h).symm
def turn (n s x : Nat) : Nat := if x = n then n else if s / 16 % 2 = 1 then n - 1 - (x + s) % n else (x + s) % n
theorem turn_pit (n s : Nat) : turn n s n = n := if_pos rfl
theorem turn_lt {n s x : Nat} (h : x < n) : turn n s x < n := by
  unfold turn
  rw [if_neg (by omega)]
  have := Nat.mod_lt (x + s) (show 0 < n by omega)
  split <;> omega
theorem turn_le {n s x : Nat} (h : x ≤ n) : turn n s x ≤ n := by
  by_cases c : x < n
  · exact Nat.le_of_lt (turn_lt c)
  · have : x = n := by omega
    rw [this, turn_pit]; exact Nat.le_refl _
theorem shift_back {n s j : Nat} (h : j < n) : ∃ x, x < n ∧ (x + s) % n = j := by
  refine ⟨(j + (n - s % n)) % n, Nat.mod_lt _ (by omega), ?_⟩
  have h1 := Nat.mod_lt s (show 0 < n by omega)
  have h2 := Nat.div_add_mod s n
  rw [Nat.mod_add_mod]
  have e : j + (n - s % n) + s = j + n * (s / n + 1) := by rw [Nat.mul_add]; omega
  rw [e, Nat.add_mul_mod_self_left, Nat.mod_eq_of_lt h]
theorem turn_sur {n s j : Nat} (h : j < n) : ∃ x, x < n ∧ turn n s x = j := by
  by_cases c : s / 16 % 2 = 1
  · obtain ⟨x, hx, e⟩ := shift_back (n := n) (s := s) (j := n - 1 - j) (by omega)
    refine ⟨x, hx, ?_⟩
    unfold turn
    rw [if_neg (by omega), if_pos c, e]; omega
  · obtain ⟨x, hx, e⟩ := shift_back (n := n) (s := s) (j := j) h
    refine ⟨x, hx, ?_⟩
    unfold turn
    rw [if_neg (by omega), if_neg c, e]
theorem shift_inj {n s x y : Nat} (hx : x < n) (hy : y < n) (e : (x + s) % n = (y + s) % n) : x = y := by
  have h2 := Nat.div_add_mod (x + s) n
  have h3 := Nat.div_add_mod (y + s) n
  have key : ∀ a b x y : Nat, x < n → y < n → n * a + (y + s) % n = x + s → n * b + (y + s) % n = y + s → x ≤ y → x = y := by
    intro a b x y hx hy e1 e2 le
    have ab : a ≤ b := by
      refine Decidable.byContradiction fun c => ?_
      have : n * (b + 1) ≤ n * a := Nat.mul_le_mul_left n (by omega)
      rw [Nat.mul_add] at this; omega
    have ba : b ≤ a := by
      refine Decidable.byContradiction fun c => ?_
      have : n * (a + 1) ≤ n * b := Nat.mul_le_mul_left n (by omega)
      rw [Nat.mul_add] at this; omega
    have : a = b := by omega
    subst this; omega
  by_cases le : x ≤ y
  · exact key _ _ x y hx hy (by rw [← e]; exact h2) h3 le
  · have key2 : ∀ a b x y : Nat, x < n → y < n → n * a + (x + s) % n = x + s → n * b + (x + s) % n = y + s → y ≤ x → x = y := by
      intro a b x y hx hy e1 e2 le
      have ab : b ≤ a := by
        refine Decidable.byContradiction fun c => ?_
        have : n * (a + 1) ≤ n * b := Nat.mul_le_mul_left n (by omega)
        rw [Nat.mul_add] at this; omega
      have ba : a ≤ b := by
        refine Decidable.byContradiction fun c => ?_
        have : n * (b + 1) ≤ n * a := Nat.mul_le_mul_left n (by omega)
        rw [Nat.mul_add] at this; omega
      have : a = b := by omega
      subst this; omega
    exact key2 _ _ x y hx hy h2 (by rw [e]; exact h3) (by omega)
theorem turn_inj {n s x y : Nat} (hx : x ≤ n) (hy : y ≤ n) (e : turn n s x = turn n s y) : x = y := by
  by_cases cx : x = n
  · by_cases cy : y = n
    · omega
    · have := turn_lt (s := s) (show y < n by omega)
      rw [cx, turn_pit] at e; omega
  · by_cases cy : y = n
    · have := turn_lt (s := s) (show x < n by omega)
      rw [cy, turn_pit] at e; omega
    · have m1 := Nat.mod_lt (x + s) (show 0 < n by omega)
      have m2 := Nat.mod_lt (y + s) (show 0 < n by omega)
      refine shift_inj (n := n) (s := s) (by omega) (by omega) ?_
      unfold turn at e
      rw [if_neg cx, if_neg cy] at e
      split at e <;> omega
/-- the law's nets, turned about -/
theorem Net.turned (N : Net n rs) (s : Nat) (h1 : ∀ q ∈ rs', ∃ r ∈ rs, q = (turn n s r.1, turn n s r.2) ∨ q = (turn n s r.2, turn n s r.1)) (h2 : ∀ r ∈ rs, (turn n s r.1, turn n s r.2) ∈ rs' ∨ (turn n s r.2, turn n s r.1) ∈ rs') : Net n rs' :=
  N.image (turn n s) (fun _ h => turn_le h) (fun _ _ hx hy e => turn_inj hx hy e) (turn_pit n s) (fun _ h => turn_sur h) h1 h2
theorem other_end {n x d : Nat} (hx : x ≤ n) (h1 : 1 ≤ d) (h2 : d ≤ n) : (x + d) % (n + 1) ≤ n ∧ (x + d) % (n + 1) ≠ x := by
  refine ⟨by have := Nat.mod_lt (x + d) (show 0 < n + 1 by omega); omega, ?_⟩
  by_cases c : x + d < n + 1
  · rw [Nat.mod_eq_of_lt c]; omega
  · rw [Nat.mod_eq_sub_mod (by omega), Nat.mod_eq_of_lt (by omega)]; omega
end
end Sd
namespace Sd
/-! ### least action: topples that are due come in any such row of topples -/
section
variable {n : Nat} {rs : List Road} {h u v t : Nat → Int}
/-- t more topples at each place (behind v) are due: only where there are enough grains -/
def Due (n : Nat) (rs : List Road) (h v t : Nat → Int) : Prop := ∀ k, k < n → 0 ≤ t k ∧ (t k = 0 ∨ t k * deg rs k ≤ mv n rs h v k)
theorem Due.le (N : Net n rs) (hv : ∀ k, k < n → v k ≤ u k) (D : Due n rs h v t) (L : Low n rs (mv n rs h u)) : ∀ k, k < n → v k + t k ≤ u k := by
  intro k hk
  obtain ⟨d1, d2⟩ := D k hk
  refine Decidable.byContradiction fun c => ?_
  have hv1 := hv k hk
  have d3 : t k * deg rs k ≤ mv n rs h v k := by
    rcases d2 with e | e
    · rw [e] at c; omega
    · exact e
  have key := ds_le (rs := rs) (F := fun a b => if a = k then zr n u a - zr n u b else 0) (G := fun a b => (if a = k then zr n v a - zr n v b else 0) + (t k - 1) * (if a = k then 1 else 0)) (fun r hr => by
    have g : ∀ j, zr n v j ≤ zr n u j := fun j => by
      unfold zr; split
      · exact hv j (by assumption)
      · exact Int.le_refl _
    have e1 : zr n u k = u k := zr_lt hk
    have e2 : zr n v k = v k := zr_lt hk
    constructor
    · have := g r.2
      by_cases e : r.1 = k
      · simp only [e, if_true]; omega
      · simp only [e, if_false]; omega
    · have := g r.1
      by_cases e : r.2 = k
      · simp only [e, if_true]; omega
      · simp only [e, if_false]; omega)
  rw [ds_add, ds_mul] at key
  have l := L k hk
  have e0 : ds rs (fun a _ => if a = k then (1 : Int) else 0) = deg rs k := rfl
  rw [e0] at key
  have e3 : lap rs (zr n u) k ≤ lap rs (zr n v) k + (t k - 1) * deg rs k := key
  have e4 : (t k - 1) * deg rs k = t k * deg rs k - deg rs k := by rw [Int.sub_mul]; omega
  unfold mv at l d3
  omega
/-- the topples of a heap till it rests: at rest behind them, and none oftener than in any row that brings it to rest -/
structure Odo (n : Nat) (rs : List Road) (h v : Nat → Int) : Prop where
  nn : ∀ k, k < n → 0 ≤ v k
  low : Low n rs (mv n rs h v)
  least : ∀ u : Nat → Int, (∀ k, k < n → 0 ≤ u k) → Low n rs (mv n rs h u) → ∀ k, k < n → v k ≤ u k
theorem Odo.uniq (O : Odo n rs h v) (O' : Odo n rs h u) : ∀ k, k < n → v k = u k := fun k hk => by
  have := O.least u O'.nn O'.low k hk
  have := O'.least v O.nn O.low k hk
  omega
theorem Odo.end_eq (O : Odo n rs h v) (O' : Odo n rs h u) : ∀ k, k < n → mv n rs h v k = mv n rs h u k := fun k hk => mv_congr (O.uniq O') k rfl
/-- what is known on the way -/
structure Way (n : Nat) (rs : List Road) (h v : Nat → Int) : Prop where
  nn : ∀ k, k < n → 0 ≤ v k
  least : ∀ u : Nat → Int, (∀ k, k < n → 0 ≤ u k) → Low n rs (mv n rs h u) → ∀ k, k < n → v k ≤ u k
theorem Way.start (n : Nat) (rs : List Road) (h : Nat → Int) : Way n rs h (fun _ => 0) := ⟨fun _ _ => Int.le_refl _, fun _ hu _ => hu⟩
theorem Way.step (N : Net n rs) (W : Way n rs h v) (D : Due n rs h v t) : Way n rs h (fun k => v k + t k) :=
  ⟨fun k hk => by have := W.nn k hk; have := (D k hk).1; show 0 ≤ v k + t k; omega, fun u hu L => D.le N (W.least u hu L) L⟩
theorem Way.fin (W : Way n rs h v) (L : Low n rs (mv n rs h v)) : Odo n rs h v := ⟨W.nn, L, W.least⟩
theorem Odo.way (O : Odo n rs h v) : Way n rs h v := ⟨O.nn, O.least⟩
theorem Way.congr {v' : Nat → Int} (W : Way n rs h v) (e : ∀ k, k < n → v k = v' k) : Way n rs h v' :=
  ⟨fun k hk => by rw [← e k hk]; exact W.nn k hk, fun u hu L k hk => by rw [← e k hk]; exact W.least u hu L k hk⟩
theorem Low.congr {g g' : Nat → Int} (L : Low n rs g) (e : ∀ k, k < n → g k = g' k) : Low n rs g' := fun k hk => by rw [← e k hk]; exact L k hk
theorem Odo.congr {v' h' : Nat → Int} (O : Odo n rs h v) (e : ∀ k, k < n → v k = v' k) (eh : ∀ k, k < n → h k = h' k) : Odo n rs h' v' :=
  ⟨(O.way.congr e).nn, O.low.congr fun k hk => mv_congr e k (eh k hk), fun u hu L k hk => (O.way.congr e).least u hu (L.congr fun k hk => mv_congr (fun _ _ => rfl) k (eh k hk).symm) k hk⟩
/-- the sum of a table -/
def sm : Nat → (Nat → Int) → Int
  | 0, _ => 0
  | n + 1, f => sm n f + f n
theorem sm_le : ∀ (n : Nat) (f g : Nat → Int), (∀ k, k < n → f k ≤ g k) → sm n f ≤ sm n g
  | 0, _, _, _ => Int.le_refl _
  | n + 1, f, g, h => by
    have h1 := sm_le n f g fun k hk => h k (by omega)
    have h2 := h n (by omega)
    simp only [sm]; omega
theorem sm_lt : ∀ (n : Nat) (f g : Nat → Int), (∀ k, k < n → f k ≤ g k) → (∃ k, k < n ∧ f k < g k) → sm n f < sm n g
  | 0, _, _, _, h => by obtain ⟨k, hk, _⟩ := h; omega
  | n + 1, f, g, h, hx => by
    have h2 := h n (by omega)
    obtain ⟨k, hk, hl⟩ := hx
    simp only [sm]
    by_cases c : k = n
    · subst c
      have h1 := sm_le k f g fun j hj => h j (by omega)
      omega
    · have h1 := sm_lt n f g (fun j hj => h j (by omega)) ⟨k, by omega, hl⟩
      omega
theorem sm_nn (n : Nat) (f : Nat → Int) (h : ∀ k, k < n → 0 ≤ f k) : 0 ≤ sm n f := by
  have z : ∀ n, sm n (fun _ => 0) = 0 := fun n => by
    induction n with
    | zero => rfl
    | succ n ih => simp only [sm, ih]; rfl
  have := sm_le n (fun _ => 0) f h
  rw [z] at this; exact this
theorem sm_pos_iff {n : Nat} {f : Nat → Int} (h : ∀ k, k < n → 0 ≤ f k) : ¬ 0 < sm n f ↔ ∀ k, k < n → f k = 0 := by
  constructor
  · intro c k hk
    refine Decidable.byContradiction fun c2 => c ?_
    have := sm_lt n (fun _ => 0) f h ⟨k, hk, by have := h k hk; show 0 < f k; omega⟩
    have := sm_nn n (fun _ => 0) (fun _ _ => Int.le_refl _)
    omega
  · intro e c
    have := sm_le n f (fun _ => 0) fun k hk => by rw [e k hk]; exact Int.le_refl _
    have z : ∀ n, sm n (fun _ => 0) = 0 := fun n => by
      induction n with
      | zero => rfl
      | succ n ih => simp only [sm, ih]; rfl
    rw [z] at this; omega
/-- each settling loop: the measure that falls -/
def gap (n : Nat) (u v : Nat → Int) : Nat := (sm n fun k => u k - v k).toNat
theorem gap_lt {v' : Nat → Int} (h1 : ∀ k, k < n → v' k ≤ u k) (h2 : ∀ k, k < n → v k ≤ v' k) (h3 : ∃ k, k < n ∧ v k < v' k) : gap n u v' < gap n u v := by
  unfold gap
  have a := sm_lt n (fun k => u k - v' k) (fun k => u k - v k) (fun k hk => by have := h2 k hk; show u k - v' k ≤ u k - v k; omega) (by
    obtain ⟨k, hk, h⟩ := h3
    exact ⟨k, hk, by show u k - v' k < u k - v k; omega⟩)
  have b := sm_nn n (fun k => u k - v' k) fun k hk => by have := h1 k hk; show 0 ≤ u k - v' k; omega
  omega
theorem gap_le {v' : Nat → Int} (h1 : ∀ k, k < n → v' k ≤ u k) (h2 : ∀ k, k < n → v k ≤ v' k) : gap n u v' ≤ gap n u v := by
  unfold gap
  have a := sm_le n (fun k => u k - v' k) (fun k => u k - v k) fun k hk => by have := h2 k hk; show u k - v' k ≤ u k - v k; omega
  omega
/-- t topples of one place -/
def at1 (k : Nat) (t : Int) : Nat → Int := fun j => if j = k then t else 0
theorem due_at1 {k : Nat} {t : Int} (ht : 0 ≤ t) (hd : t * deg rs k ≤ mv n rs h v k) : Due n rs h v (at1 k t) := fun j hj => by
  unfold at1
  split
  · rename_i e; subst e; exact ⟨ht, .inr hd⟩
  · exact ⟨Int.le_refl _, .inl rfl⟩
/-- all that topple at once -/
theorem due_all (N : Net n rs) (ht : ∀ k, k < n → t k = max 0 (mv n rs h v k / deg rs k)) : Due n rs h v t := fun k hk => by
  have hd := N.deg_pos hk
  rw [ht k hk]
  by_cases c : 0 ≤ mv n rs h v k / deg rs k
  · rw [Int.max_eq_right c]
    exact ⟨c, .inr (Int.ediv_mul_le _ (by omega))⟩
  · rw [Int.max_eq_left (by omega)]
    exact ⟨Int.le_refl _, .inl rfl⟩
theorem low_of_div (N : Net n rs) (h : ∀ k, k < n → ¬ 0 < v k / deg rs k) : Low n rs v := fun k hk => by
  have hd := N.deg_pos hk
  have h1 := h k hk
  refine Decidable.byContradiction fun c => h1 ?_
  have := Int.le_ediv_of_mul_le (a := 1) (b := v k) (c := deg rs k) (by omega) (by rw [Int.one_mul]; omega)
  omega
theorem div_of_low (N : Net n rs) (L : Low n rs v) {k : Nat} (hk : k < n) : ¬ 0 < v k / deg rs k := by
  have hd := N.deg_pos hk
  have := L k hk
  intro c
  have h1 : (v k / deg rs k) * deg rs k ≤ v k := Int.ediv_mul_le _ (by omega)
  have h2 : 1 * deg rs k ≤ (v k / deg rs k) * deg rs k := Int.mul_le_mul_of_nonneg_right (by omega) (by omega)
  rw [Int.one_mul] at h2
  omega
theorem mv_snoc (pre : List Road) (r : Road) (h u : Nat → Int) (k : Nat) : mv n (pre ++ [r]) h u k = mv n pre h u k - ((if r.1 = k then zr n u r.1 - zr n u r.2 else 0) + (if r.2 = k then zr n u r.2 - zr n u r.1 else 0)) := by
  unfold mv lap
  rw [ds_append]
  simp only [ds]; omega
theorem mv_nil (h u : Nat → Int) (k : Nat) : mv n [] h u k = h k := by unfold mv lap; simp only [ds]; omega
/-- one road's share in the topples of one place -/
theorem mv_none {pre : List Road} {r : Road} {p : Nat} {t : Int} (h1 : r.1 ≠ p) (h2 : r.2 ≠ p) (k : Nat) : mv n (pre ++ [r]) h (at1 p t) k = mv n pre h (at1 p t) k := by
  rw [mv_snoc]
  have e1 : zr n (at1 p t) r.1 = 0 := by unfold zr at1; rw [if_neg h1]; split <;> rfl
  have e2 : zr n (at1 p t) r.2 = 0 := by unfold zr at1; rw [if_neg h2]; split <;> rfl
  rw [e1, e2]; split <;> split <;> omega
theorem mv_road {pre : List Road} {r : Road} {p o : Nat} {t : Int} (hp : p < n) (hn : r.1 ≠ r.2) (ho : (r.1 = p ∧ r.2 = o) ∨ (r.2 = p ∧ r.1 = o)) (k : Nat) :
    mv n (pre ++ [r]) h (at1 p t) k = mv n pre h (at1 p t) k + (if p = k then - t else 0) + (if o = k then t else 0) := by
  rw [mv_snoc]
  have e1 : zr n (at1 p t) p = t := by rw [zr_lt hp]; exact if_pos rfl
  rcases ho with ⟨a, b⟩ | ⟨a, b⟩
  · have e2 : zr n (at1 p t) o = 0 := by unfold zr at1; rw [if_neg (show ¬ o = p by omega)]; split <;> rfl
    rw [a, b, e1, e2]
    by_cases c1 : p = k <;> by_cases c2 : o = k <;> simp [c1, c2] <;> omega
  · have e2 : zr n (at1 p t) o = 0 := by unfold zr at1; rw [if_neg (show ¬ o = p by omega)]; split <;> rfl
    rw [a, b, e1, e2]
    by_cases c1 : p = k <;> by_cases c2 : o = k <;> simp [c1, c2] <;> omega
/-- what the topples of x bring to k over the way from x to y -/
def con (n : Nat) (t : Nat → Int) (x y k : Nat) : Int := (if x = k then - zr n t x else 0) + (if y = k then zr n t x else 0)
def dcon (n : Nat) (t : Nat → Int) : List Road → Nat → Int
  | [], _ => 0
  | r :: l, k => con n t r.1 r.2 k + dcon n t l k
theorem dcon_snoc (t : Nat → Int) (l : List Road) (r : Road) (k : Nat) : dcon n t (l ++ [r]) k = dcon n t l k + con n t r.1 r.2 k := by
  induction l with
  | nil => simp [dcon]
  | cons x l ih => simp only [List.cons_append, dcon, ih]; omega
theorem mv_dcon (pre : List Road) (r : Road) (h t : Nat → Int) (k : Nat) : mv n (pre ++ [r]) h t k = mv n pre h t k + dcon n t [(r.1, r.2), (r.2, r.1)] k := by
  rw [mv_snoc]
  simp only [dcon, con]
  by_cases c1 : r.1 = k <;> by_cases c2 : r.2 = k <;> simp [c1, c2] <;> omega
theorem lap_at1 {k p : Nat} (hk : k < n) (hp : p < n) (ok : ∀ r ∈ rs, r.1 ≤ n ∧ r.2 ≤ n ∧ r.1 ≠ r.2) : lap rs (zr n (at1 p 1)) k = (if k = p then deg rs k else - ds rs fun a b => if a = k ∧ b = p then 1 else 0) := by
  have z : ∀ j, zr n (at1 p 1) j = if j = p then 1 else 0 := fun j => by
    unfold zr at1
    by_cases c : j = p
    · subst c; rw [if_pos hp]
    · rw [if_neg c]; split <;> rfl
  by_cases c : k = p
  · subst c
    rw [if_pos rfl]
    unfold lap deg
    refine ds_congr fun r hr => ?_
    have := (ok r hr).2.2
    constructor
    · by_cases e : r.1 = k
      · simp only [e, if_true, z]; rw [if_neg (show ¬ r.2 = k by omega)]; rfl
      · simp only [e, if_false]
    · by_cases e : r.2 = k
      · simp only [e, if_true, z]; rw [if_neg (show ¬ r.1 = k by omega)]; rfl
      · simp only [e, if_false]
  · rw [if_neg c]
    have e1 : - ds rs (fun a b => if a = k ∧ b = p then (1 : Int) else 0) = ds rs (fun a b => (-1) * (if a = k ∧ b = p then 1 else 0)) := by rw [ds_mul]; omega
    rw [e1]
    unfold lap
    refine ds_congr fun r hr => ?_
    constructor
    · by_cases e : r.1 = k
      · simp only [e, if_true, z, true_and]; rw [if_neg c]; split <;> omega
      · simp only [e, if_false, false_and]; omega
    · by_cases e : r.2 = k
      · simp only [e, if_true, z, true_and]; rw [if_neg c]; split <;> omega
      · simp only [e, if_false, false_and]; omega
/-- no place has fewer grains than none behind the settling -/
theorem Odo.nonneg (N : Net n rs) (O : Odo n rs h v) (hh : ∀ k, k < n → 0 ≤ h k) : ∀ k, k < n → 0 ≤ mv n rs h v k := by
  intro k hk
  refine Decidable.byContradiction fun c => ?_
  by_cases vk : v k = 0
  · -- no topple of k: it only got grains
    have : lap rs (zr n v) k ≤ 0 := by
      unfold lap
      have := ds_le (rs := rs) (F := fun a b => if a = k then zr n v a - zr n v b else 0) (G := fun _ _ => 0) fun r _ => by
        have g : ∀ j, 0 ≤ zr n v j := fun j => by
          unfold zr; split
          · exact O.nn j (by assumption)
          · exact Int.le_refl _
        have e0 : zr n v k = 0 := by rw [zr_lt hk, vk]
        constructor
        · by_cases e : r.1 = k
          · have := g r.2; simp only [e, if_true, e0]; omega
          · simp only [e, if_false]; exact Int.le_refl _
        · by_cases e : r.2 = k
          · have := g r.1; simp only [e, if_true, e0]; omega
          · simp only [e, if_false]; exact Int.le_refl _
      rw [ds_zero] at this; exact this
    have := hh k hk
    unfold mv at c; omega
  · have nnk := O.nn k hk
    have key : ∀ j, j < n → mv n rs h (fun i => v i - at1 k 1 i) j = mv n rs h v j + lap rs (zr n (at1 k 1)) j := fun j _ => by
      unfold mv; rw [zr_sub, lap_sub]; omega
    have := O.least (fun i => v i - at1 k 1 i) (fun j hj => by
      have := O.nn j hj
      show 0 ≤ v j - at1 k 1 j
      unfold at1; split
      · rename_i e; subst e; omega
      · omega) (fun j hj => by
      rw [key j hj, lap_at1 hj hk N.ok]
      by_cases e : j = k
      · subst e; rw [if_pos rfl]; omega
      · rw [if_neg e]
        have l := O.low j hj
        have := ds_le (rs := rs) (F := fun _ _ => 0) (G := fun a b => if a = j ∧ b = k then 1 else 0) fun r _ => by constructor <;> (try dsimp only) <;> split <;> omega
        rw [ds_zero] at this
        omega) k hk
    unfold at1 at this
    simp only [if_true] at this
    omega
theorem sum_tab (n : Nat) (f : Nat → Int) : ((List.range n).map f).sum = sm n f := by
  induction n with
  | zero => rfl
  | succ n ih => rw [List.range_succ, List.map_append, List.sum_append, ih]; simp [sm]
/-- a due topple leaves no place fewer than none -/
theorem mv_at1_nonneg {p : Nat} {t : Int} (ok : ∀ r ∈ rs, r.1 ≤ n ∧ r.2 ≤ n ∧ r.1 ≠ r.2) (hp : p < n) (ht : 0 ≤ t) (hd : t * deg rs p ≤ mv n rs h v p) (nn : ∀ k, k < n → 0 ≤ mv n rs h v k) : ∀ k, k < n → 0 ≤ mv n rs h (fun j => v j + at1 p t j) k := by
  intro k hk
  rw [mv_add]
  have e : zr n (at1 p t) = fun j => t * zr n (at1 p 1) j := by
    funext j; unfold zr at1
    split
    · split <;> simp
    · simp
  have e2 : mv n rs (mv n rs h v) (at1 p t) k = mv n rs h v k - t * lap rs (zr n (at1 p 1)) k := by
    show mv n rs h v k - lap rs (zr n (at1 p t)) k = _
    rw [e, lap_smul]
  rw [e2, lap_at1 hk hp ok]
  have := nn k hk
  by_cases c : k = p
  · subst c; rw [if_pos rfl]; omega
  · rw [if_neg c]
    have g := ds_le (rs := rs) (F := fun _ _ => 0) (G := fun a b => if a = k ∧ b = p then 1 else 0) fun r _ => by constructor <;> (try dsimp only) <;> split <;> omega
    rw [ds_zero] at g
    have := Int.mul_nonneg ht g
    rw [Int.mul_neg]
    omega
/-- what is left of the topples behind some that were due -/
theorem Odo.rest {w : Nat → Int} (O : Odo n rs h v) (hw0 : ∀ k, k < n → 0 ≤ w k) (hw : ∀ k, k < n → w k ≤ v k) : Odo n rs (mv n rs h w) (fun k => v k - w k) := by
  have key : ∀ u : Nat → Int, ∀ k, mv n rs (mv n rs h w) u k = mv n rs h (fun j => w j + u j) k := fun u k => (mv_add n rs h w u k).symm
  refine ⟨fun k hk => by have := hw k hk; show 0 ≤ v k - w k; omega, fun k hk => ?_, fun u hu L k hk => ?_⟩
  · rw [key, mv_congr (u' := v) (fun j _ => by show w j + (v j - w j) = v j; omega) k rfl]
    exact O.low k hk
  · have := O.least (fun j => w j + u j) (fun j hj => by have := hw0 j hj; have := hu j hj; show 0 ≤ w j + u j; omega) (L.congr fun j _ => key u j) k hk
    show v k - w k ≤ u k
    omega
end
end Sd
namespace Sd
/-! ### heaps that come again: no set of places each with fewer grains than roads within it -/
section
variable {n : Nat} {rs : List Road} {h h' u v s : Nat → Int} {A : Nat → Bool}
def NF (n : Nat) (rs : List Road) (h : Nat → Int) : Prop := ∀ A : Nat → Bool, (∀ k, A k = true → k < n) → (∃ k, A k = true) → ∃ k, A k = true ∧ degA rs A k ≤ h k
theorem NF.mono (F : NF n rs h) (le : ∀ k, k < n → h k ≤ h' k) : NF n rs h' := fun A ha hx => by
  obtain ⟨k, h1, h2⟩ := F A ha hx
  exact ⟨k, h1, Int.le_trans h2 (le k (ha k h1))⟩
theorem NF.congr (F : NF n rs h) (e : ∀ k, k < n → h k = h' k) : NF n rs h' := F.mono fun k hk => by rw [e k hk]; exact Int.le_refl _
theorem degA_le (rs : List Road) (A : Nat → Bool) (k : Nat) : degA rs A k ≤ deg rs k := by
  unfold degA deg
  refine ds_le fun r _ => ?_
  constructor <;> (try dsimp only)
  · by_cases c : r.1 = k
    · by_cases d : A r.2 = true <;> simp [c, d]
    · simp [c]
  · by_cases c : r.2 = k
    · by_cases d : A r.1 = true <;> simp [c, d]
    · simp [c]
/-- a place all of whose roads lead into A -/
theorem all_in {k : Nat} (h : ¬ degA rs A k ≤ deg rs k - 1) : ∀ r ∈ rs, (r.1 = k → A r.2 = true) ∧ (r.2 = k → A r.1 = true) := by
  have z := ds_zero_of (rs := rs) (F := fun a b => (if a = k then (1 : Int) else 0) - (if a = k ∧ A b = true then 1 else 0)) (fun r _ => by
    constructor <;> (try dsimp only)
    · by_cases c : r.1 = k
      · by_cases d : A r.2 = true <;> simp [c, d]
      · simp [c]
    · by_cases c : r.2 = k
      · by_cases d : A r.1 = true <;> simp [c, d]
      · simp [c]) (by
    rw [ds_sub]
    show deg rs k - degA rs A k ≤ 0
    omega)
  intro r hr
  have q := z r hr
  (try dsimp only at q)
  constructor
  · intro e
    refine Decidable.byContradiction fun d => ?_
    have := q.1
    rw [if_pos e, if_neg (fun z => d z.2)] at this
    omega
  · intro e
    refine Decidable.byContradiction fun d => ?_
    have := q.2
    rw [if_pos e, if_neg (fun z => d z.2)] at this
    omega
/-- the greatest heap at rest comes again -/
theorem Net.full (N : Net n rs) : NF n rs fun k => deg rs k - 1 := by
  intro A ha hx
  refine Classical.byContradiction fun c => ?_
  have all : ∀ k, A k = true → ∀ r ∈ rs, (r.1 = k → A r.2 = true) ∧ (r.2 = k → A r.1 = true) := fun k hk => all_in fun z => c ⟨k, hk, z⟩
  obtain ⟨k, hk⟩ := hx
  have := N.conn (fun j => ¬ A j = true) (fun z => by have := ha n z; omega) (fun r hr => by
    constructor
    · intro h1 h2; exact h1 ((all r.2 h2 r hr).2 rfl)
    · intro h1 h2; exact h1 ((all r.1 h2 r hr).1 rfl)) k (ha k hk)
  exact this hk
def indA (A : Nat → Bool) : Nat → Int := fun j => if A j = true then 1 else 0
theorem lap_ind (k : Nat) : lap rs (indA A) k = (if A k = true then deg rs k else 0) - degA rs A k := by
  have e1 : lap rs (indA A) k = ds rs (fun a b => (if a = k then (if A k = true then (1 : Int) else 0) else 0) - (if a = k ∧ A b = true then 1 else 0)) := by
    unfold lap
    refine ds_congr fun r _ => ?_
    unfold indA
    constructor
    · by_cases c : r.1 = k
      · by_cases d : A r.2 = true <;> simp [c, d]
      · simp [c]
    · by_cases c : r.2 = k
      · by_cases d : A r.1 = true <;> simp [c, d]
      · simp [c]
  rw [e1, ds_sub]
  show _ - degA rs A k = _
  by_cases d : A k = true
  · simp only [d, if_true]; rfl
  · have e2 : ds rs (fun a _ => if a = k then (if A k = true then (1 : Int) else 0) else 0) = 0 := by
      refine Eq.trans (ds_congr (G := fun _ _ => 0) fun r _ => ?_) (ds_zero rs)
      rw [if_neg d]
      constructor <;> split <;> rfl
    rw [e2, if_neg d]
theorem zr_ind (ha : ∀ k, A k = true → k < n) : zr n (indA A) = indA A := by
  funext j
  unfold zr indA
  by_cases c : j < n
  · rw [if_pos c]
  · rw [if_neg c, if_neg fun z => c (ha j z)]
/-- where each place of A toppled, A is not lacking behind the settling -/
theorem Odo.slick (O : Odo n rs s v) (ha : ∀ k, A k = true → k < n) (hx : ∃ k, A k = true) (hv : ∀ k, A k = true → 1 ≤ v k) : ∃ k, A k = true ∧ degA rs A k ≤ mv n rs s v k := by
  refine Classical.byContradiction fun c => ?_
  have c' : ∀ k, A k = true → mv n rs s v k < degA rs A k := fun k hk => by
    refine Decidable.byContradiction fun z => c ⟨k, hk, by omega⟩
  obtain ⟨k0, hk0⟩ := hx
  have key : ∀ k, mv n rs s (fun j => v j - indA A j) k = mv n rs s v k + ((if A k = true then deg rs k else 0) - degA rs A k) := fun k => by
    unfold mv
    rw [zr_sub, lap_sub, zr_ind ha, lap_ind]; omega
  have := O.least (fun j => v j - indA A j) (fun k hk => by
    have := O.nn k hk
    show 0 ≤ v k - indA A k
    unfold indA
    by_cases d : A k = true
    · have := hv k d; rw [if_pos d]; omega
    · rw [if_neg d]; omega) (fun k hk => by
    rw [key]
    by_cases d : A k = true
    · have := c' k d; rw [if_pos d]; omega
    · have := O.low k hk
      have := degA_nn rs A k
      rw [if_neg d]; omega) k0 (ha k0 hk0)
  have e : indA A k0 = 1 := if_pos hk0
  rw [e] at this; omega
theorem degA_sub (A B : Nat → Bool) (hB : ∀ k, B k = true → A k = true) (k : Nat) : degA rs A k = degA rs B k + ds rs fun a b => if a = k ∧ A b = true ∧ ¬ B b = true then 1 else 0 := by
  unfold degA
  rw [← ds_add]
  refine ds_congr fun r _ => ?_
  constructor
  · by_cases c : r.1 = k
    · by_cases d : A r.2 = true
      · by_cases e : B r.2 = true <;> simp [c, d, e]
      · have e : ¬ B r.2 = true := fun z => d (hB _ z)
        simp [c, d, e]
    · simp [c]
  · by_cases c : r.2 = k
    · by_cases d : A r.1 = true
      · by_cases e : B r.1 = true <;> simp [c, d, e]
      · have e : ¬ B r.1 = true := fun z => d (hB _ z)
        simp [c, d, e]
    · simp [c]
/-- a heap that lacks nowhere settles to one that does not -/
theorem NF.settle (F : NF n rs s) (O : Odo n rs s v) : NF n rs (mv n rs s v) := by
  intro A ha hx
  by_cases hE : ∃ k, A k = true ∧ v k = 0
  · obtain ⟨k, hk, h1⟩ := F (fun j => A j && decide (v j = 0)) (fun j hj => ha j (by simp at hj; exact hj.1)) (by
      obtain ⟨k, h1, h2⟩ := hE
      exact ⟨k, by simp [h1, h2]⟩)
    have hk' : A k = true ∧ v k = 0 := by simpa using hk
    refine ⟨k, hk'.1, ?_⟩
    rw [degA_sub A (fun j => A j && decide (v j = 0)) (fun j hj => by simp at hj; exact hj.1) k]
    have hkn := ha k hk'.1
    have l : lap rs (zr n v) k ≤ - ds rs fun a b => if a = k ∧ A b = true ∧ ¬ (A b && decide (v b = 0)) = true then 1 else 0 := by
      have e1 : - ds rs (fun a b => if a = k ∧ A b = true ∧ ¬ (A b && decide (v b = 0)) = true then (1 : Int) else 0) = ds rs fun a b => (-1) * (if a = k ∧ A b = true ∧ ¬ (A b && decide (v b = 0)) = true then (1 : Int) else 0) := by rw [ds_mul]; omega
      rw [e1]
      unfold lap
      have e0 : zr n v k = 0 := by rw [zr_lt hkn, hk'.2]
      have g : ∀ j, (if A j = true ∧ ¬ (A j && decide (v j = 0)) = true then (1 : Int) else 0) ≤ zr n v j := fun j => by
        split
        · rename_i z
          have hj := ha j z.1
          rw [zr_lt hj]
          have := O.nn j hj
          have z2 : v j ≠ 0 := by intro e; apply z.2; simp [z.1, e]
          omega
        · unfold zr; split
          · exact O.nn j (by assumption)
          · exact Int.le_refl _
      refine ds_le fun r _ => ?_
      constructor
      · by_cases c : r.1 = k
        · have := g r.2
          simp only [c, if_true, true_and, e0]; omega
        · simp only [c, if_false, false_and]; omega
      · by_cases c : r.2 = k
        · have := g r.1
          simp only [c, if_true, true_and, e0]; omega
        · simp only [c, if_false, false_and]; omega
    show _ ≤ s k - lap rs (zr n v) k
    omega
  · refine O.slick ha hx fun k hk => ?_
    have := O.nn k (ha k hk)
    have : v k ≠ 0 := fun e => hE ⟨k, hk, e⟩
    omega
/-- of two heaps at rest, one got from the other by times, where the second lacks nowhere no times are above nought -/
theorem NF.times_le (F : NF n rs (mv n rs h u)) (L : Low n rs h) : ∀ k, k < n → u k ≤ 0 := by
  obtain ⟨m, hm, mx⟩ := exists_max n (zr n u)
  suffices zr n u m ≤ 0 from fun k hk => by
    have := mx k (by omega)
    rw [zr_lt hk] at this; omega
  refine Decidable.byContradiction fun pos => ?_
  have hmn : m < n := by
    refine Decidable.byContradiction fun c => ?_
    rw [zr_ge c] at pos; omega
  obtain ⟨k, hk, h1⟩ := F (fun j => decide (j < n) && decide (zr n u j = zr n u m)) (fun j hj => by simp at hj; exact hj.1) ⟨m, by simp [hmn]⟩
  have hk' : k < n ∧ zr n u k = zr n u m := by simpa using hk
  have key := ds_le (rs := rs) (F := fun a b => (if a = k then (1 : Int) else 0) - (if a = k ∧ (decide (b < n) && decide (zr n u b = zr n u m)) = true then 1 else 0)) (G := fun a b => if a = k then zr n u a - zr n u b else 0) (fun r _ => by
    have g : ∀ j, (1 : Int) - (if (decide (j < n) && decide (zr n u j = zr n u m)) = true then 1 else 0) ≤ zr n u k - zr n u j := fun j => by
      by_cases cn : j < n
      · have := mx j (by omega)
        by_cases ce : zr n u j = zr n u m
        · simp [cn, ce]; omega
        · simp [cn, ce]; omega
      · have e0 : zr n u j = 0 := zr_ge cn
        simp [cn]; omega
    constructor
    · by_cases c : r.1 = k
      · have := g r.2; simp only [c, if_true, true_and]; exact this
      · simp [c]
    · by_cases c : r.2 = k
      · have := g r.1; simp only [c, if_true, true_and]; exact this
      · simp [c])
  rw [ds_sub] at key
  have key : deg rs k - degA rs (fun j => decide (j < n) && decide (zr n u j = zr n u m)) k ≤ lap rs (zr n u) k := key
  have l := L k hk'.1
  have h1 : degA rs (fun j => decide (j < n) && decide (zr n u j = zr n u m)) k ≤ h k - lap rs (zr n u) k := h1
  omega
theorem mv_back (n : Nat) (rs : List Road) (h u : Nat → Int) (k : Nat) : mv n rs (mv n rs h u) (fun j => - u j) k = h k := by
  rw [← mv_add]
  have : (fun j => u j + - u j) = fun _ => (0 : Int) := by funext j; omega
  rw [this, mv_zero]
/-- two such that are alike are one, by no times -/
theorem NF.uniq (F : NF n rs h) (L : Low n rs h) (F' : NF n rs (mv n rs h u)) (L' : Low n rs (mv n rs h u)) : ∀ k, k < n → u k = 0 := by
  intro k hk
  have h1 := F'.times_le L k hk
  have h2 := NF.times_le (h := mv n rs h u) (u := fun j => - u j) (F.congr fun k _ => (mv_back n rs h u k).symm) L' k hk
  have h2 : - u k ≤ 0 := h2
  omega
theorem mv_eq0 (e : ∀ k, k < n → u k = 0) (k : Nat) : mv n rs h u k = h k := by
  rw [mv_congr (u' := fun _ => 0) e k rfl, mv_zero]
theorem NF.uniq_eq (F : NF n rs h) (L : Low n rs h) (F' : NF n rs h') (L' : Low n rs h') (e : ∀ k, k < n → h' k = mv n rs h u k) : (∀ k, k < n → u k = 0) ∧ ∀ k, k < n → h' k = h k := by
  have h1 := NF.uniq (u := u) F L (F'.congr e) (L'.congr e)
  exact ⟨h1, fun k hk => by rw [e k hk, mv_eq0 h1]⟩
/-- none below nought -/
theorem NF.nn (F : NF n rs h) (ok : ∀ r ∈ rs, r.1 ≤ n ∧ r.2 ≤ n ∧ r.1 ≠ r.2) : ∀ k, k < n → 0 ≤ h k := by
  intro k hk
  have hA : ∀ j, decide (j = k) = true → j < n := fun j hj => by
    have e : j = k := by simpa using hj
    omega
  obtain ⟨j, h1, h2⟩ := F (fun j => decide (j = k)) hA ⟨k, by simp⟩
  have : j = k := by simpa using h1
  subst this
  have := degA_nn rs (fun i => decide (i = j)) j
  omega
/-! ### the fire from the pit -/
/-- how many roads lead from k to the pit -/
def bp (n : Nat) (rs : List Road) (k : Nat) : Int := ds rs fun a b => if a = k ∧ b = n then 1 else 0
theorem lap_ones (ok : ∀ r ∈ rs, r.1 ≤ n ∧ r.2 ≤ n ∧ r.1 ≠ r.2) {k : Nat} (hk : k < n) : lap rs (zr n fun _ => 1) k = bp n rs k := by
  unfold lap bp
  refine ds_congr fun r hr => ?_
  obtain ⟨a, b, c⟩ := ok r hr
  unfold zr
  constructor
  · by_cases e : r.1 = k
    · by_cases d : r.2 = n
      · simp [e, d, hk]
      · have : r.2 < n := by omega
        simp [e, d, hk, this]
    · simp [e]
  · by_cases e : r.2 = k
    · by_cases d : r.1 = n
      · simp [e, d, hk]
      · have : r.1 < n := by omega
        simp [e, d, hk, this]
    · simp [e]
theorem bp_nn (n : Nat) (rs : List Road) (k : Nat) : 0 ≤ bp n rs k := by
  have := ds_le (rs := rs) (F := fun _ _ => 0) (G := fun a b => if a = k ∧ b = n then 1 else 0) fun r _ => by constructor <;> (try dsimp only) <;> split <;> omega
  rw [ds_zero] at this; exact this
theorem mv_burn (N : Net n rs) {k : Nat} (hk : k < n) : mv n rs (fun j => h j + bp n rs j) (fun _ => 1) k = h k := by
  show h k + bp n rs k - lap rs (zr n fun _ => 1) k = h k
  rw [lap_ones N.ok hk]; omega
/-- a heap that comes again, by [5] -/
def Again (n : Nat) (rs : List Road) (h : Nat → Int) : Prop := Low n rs h ∧ ∃ v, Odo n rs (fun k => h k + bp n rs k) v ∧ ∀ k, k < n → mv n rs (fun k => h k + bp n rs k) v k = h k
theorem burn_once (N : Net n rs) (e : ∀ k, k < n → mv n rs (fun k => h k + bp n rs k) v k = h k) : ∀ k, k < n → v k = 1 :=
  N.inj (u := v) (v := fun _ => 1) (h := fun k => h k + bp n rs k) fun k hk => by rw [e k hk, mv_burn N hk]
theorem Again.nf (N : Net n rs) (G : Again n rs h) : NF n rs h := by
  obtain ⟨L, v, O, e⟩ := G
  have v1 := burn_once N e
  intro A ha hx
  obtain ⟨k, h1, h2⟩ := O.slick ha hx fun k hk => by rw [v1 k (ha k hk)]; exact Int.le_refl _
  rw [e k (ha k h1)] at h2
  exact ⟨k, h1, h2⟩
theorem again_of (N : Net n rs) (L : Low n rs h) (F : NF n rs h) (O : Odo n rs (fun k => h k + bp n rs k) v) : ∀ k, k < n → mv n rs (fun k => h k + bp n rs k) v k = h k := by
  have F2 : NF n rs (fun k => h k + bp n rs k) := F.mono fun k _ => by have := bp_nn n rs k; show h k ≤ h k + bp n rs k; omega
  have F3 := F2.settle O
  -- the end is the heap by v - 1 more topples
  have key : ∀ k, k < n → mv n rs (fun k => h k + bp n rs k) v k = mv n rs h (fun j => v j - 1) k := fun k hk => by
    rw [← mv_congr (h := mv n rs (fun j => h j + bp n rs j) fun _ => 1) (u := fun j => v j - 1) (fun _ _ => rfl) k (mv_burn N hk), ← mv_add]
    exact mv_congr (fun j _ => by show v j = 1 + (v j - 1); omega) k rfl
  exact (NF.uniq_eq F L F3 O.low key).2
theorem again_iff (N : Net n rs) : Again n rs h ↔ Low n rs h ∧ NF n rs h := by
  constructor
  · intro G; exact ⟨G.1, G.nf N⟩
  · rintro ⟨L, F⟩
    obtain ⟨v, O⟩ : ∃ v, Odo n rs (fun k => h k + bp n rs k) v := by
      refine ⟨fun _ => 1, ?_⟩
      -- the burning topples are due, one after the other: NF
      refine ⟨fun _ _ => by omega, L.congr fun k hk => (mv_burn N hk).symm, fun u hu Lu => ?_⟩
      refine Decidable.byContradiction fun c => ?_
      -- the places where u is 0
      have hx : ∃ k, k < n ∧ u k < 1 := by
        refine Decidable.byContradiction fun z => c fun k hk => ?_
        refine Decidable.byContradiction fun y => z ⟨k, hk, by omega⟩
      obtain ⟨k0, hk0, hu0⟩ := hx
      obtain ⟨k, h1, h2⟩ := F (fun j => decide (j < n) && decide (u j = 0)) (fun j hj => by simp at hj; exact hj.1) ⟨k0, by have := hu k0 hk0; simp [hk0]; omega⟩
      have hk : k < n ∧ u k = 0 := by simpa using h1
      have l := Lu k hk.1
      -- roads of k outside the set lead to the pit or to where u is at least 1
      have key := ds_le (rs := rs) (F := fun a b => if a = k then zr n u a - zr n u b else 0) (G := fun a b => (if a = k ∧ (decide (b < n) && decide (u b = 0)) = true then (1 : Int) else 0) - (if a = k then 1 else 0) + (if a = k ∧ b = n then 1 else 0)) (fun r hr => by
        obtain ⟨o1, o2, o3⟩ := N.ok r hr
        have e0 : zr n u k = 0 := by rw [zr_lt hk.1, hk.2]
        have g : ∀ j, j ≤ n → - zr n u j ≤ (if (decide (j < n) && decide (u j = 0)) = true then (1 : Int) else 0) - 1 + (if j = n then 1 else 0) := fun j hj => by
          by_cases cn : j < n
          · have := hu j cn
            rw [zr_lt cn]
            by_cases ce : u j = 0
            · simp [cn, ce]; omega
            · simp [cn, ce]; omega
          · have : j = n := by omega
            subst this
            rw [zr_ge cn]; simp
        constructor
        · by_cases e : r.1 = k
          · have := g r.2 o2
            simp only [e, if_true, true_and, e0]; omega
          · simp [e]
        · by_cases e : r.2 = k
          · have := g r.1 o1
            simp only [e, if_true, true_and, e0]; omega
          · simp [e])
      rw [ds_add, ds_sub] at key
      have key : lap rs (zr n u) k ≤ degA rs (fun j => decide (j < n) && decide (u j = 0)) k - deg rs k + bp n rs k := key
      have l : h k + bp n rs k - lap rs (zr n u) k < deg rs k := l
      omega
    exact ⟨L, v, O, again_of N L F O⟩
theorem again_odo (O : Odo n rs (fun k => h k + bp n rs k) v) : Again n rs h ↔ Low n rs h ∧ ∀ k, k < n → mv n rs (fun k => h k + bp n rs k) v k = h k := by
  constructor
  · rintro ⟨L, v', O', e⟩
    exact ⟨L, fun k hk => by rw [O.end_eq O' k hk, e k hk]⟩
  · rintro ⟨L, e⟩; exact ⟨L, v, O, e⟩
theorem bp_snoc (pre : List Road) (r : Road) (k : Nat) : bp n (pre ++ [r]) k = bp n pre k + ((if r.1 = k ∧ r.2 = n then 1 else 0) + (if r.2 = k ∧ r.1 = n then 1 else 0)) := by
  unfold bp
  rw [ds_append]
  simp only [ds]; omega
theorem bp_nil (k : Nat) : bp n [] k = 0 := rfl
end
end Sd
namespace Sd
/-! ### the fire that goes from the pit, by burnt places -/
section
variable {n : Nat} {rs : List Road} {h h' u v s : Nat → Int} {A B : Nat → Bool} {ks : List Nat} {k : Nat}
def inB (ks : List Nat) : Nat → Bool := fun b => decide (b ∈ ks)
theorem degA_disj (d : ∀ b, A b = true → B b = true → False) (k : Nat) : degA rs A k + degA rs B k ≤ deg rs k := by
  unfold degA deg
  rw [← ds_add]
  refine ds_le fun r _ => ?_
  constructor <;> (try dsimp only)
  · by_cases c : r.1 = k
    · by_cases a : A r.2 = true
      · by_cases b : B r.2 = true
        · exact (d _ a b).elim
        · simp [c, a, b]
      · by_cases b : B r.2 = true <;> simp [c, a, b]
    · simp [c]
  · by_cases c : r.2 = k
    · by_cases a : A r.1 = true
      · by_cases b : B r.1 = true
        · exact (d _ a b).elim
        · simp [c, a, b]
      · by_cases b : B r.1 = true <;> simp [c, a, b]
    · simp [c]
theorem degA_cover (d : ∀ r ∈ rs, (A r.1 = true ∨ B r.1 = true) ∧ (A r.2 = true ∨ B r.2 = true)) (k : Nat) : deg rs k ≤ degA rs A k + degA rs B k := by
  unfold degA deg
  rw [← ds_add]
  refine ds_le fun r hr => ?_
  obtain ⟨d1, d2⟩ := d r hr
  constructor <;> (try dsimp only)
  · by_cases c : r.1 = k
    · rcases d2 with a | a
      · by_cases b : B r.2 = true <;> simp [c, a, b]
      · by_cases b : A r.2 = true <;> simp [c, a, b]
    · simp [c]
  · by_cases c : r.2 = k
    · rcases d1 with a | a
      · by_cases b : B r.1 = true <;> simp [c, a, b]
      · by_cases b : A r.1 = true <;> simp [c, a, b]
    · simp [c]
theorem degA_mono (d : ∀ b, A b = true → B b = true) (k : Nat) : degA rs A k ≤ degA rs B k := by
  unfold degA
  refine ds_le fun r _ => ?_
  constructor <;> (try dsimp only)
  · by_cases c : r.1 = k
    · by_cases a : A r.2 = true
      · simp [c, a, d _ a]
      · by_cases b : B r.2 = true <;> simp [c, a, b]
    · simp [c]
  · by_cases c : r.2 = k
    · by_cases a : A r.1 = true
      · simp [c, a, d _ a]
      · by_cases b : B r.1 = true <;> simp [c, a, b]
    · simp [c]
structure Bu (n : Nat) (rs : List Road) (h : Nat → Int) (ks : List Nat) : Prop where
  nd : ks.Nodup
  le : ∀ k ∈ ks, k ≤ n
  pit : n ∈ ks
  w : ∀ B : Nat → Bool, (∀ k, B k = true → k < n) → (∃ k, k ∈ ks ∧ B k = true) → ∃ k, k ∈ ks ∧ B k = true ∧ degA rs B k ≤ h k
theorem Bu.start (n : Nat) (rs : List Road) (h : Nat → Int) : Bu n rs h [n] where
  nd := by simp
  le k hk := by have : k = n := by simpa using hk
                omega
  pit := by simp
  w B hB hx := by
    obtain ⟨k, h1, h2⟩ := hx
    have e : k = n := by simpa using h1
    have := hB k h2
    omega
theorem Bu.add (S : Bu n rs h ks) (hk : k < n) (hn : k ∉ ks) (g : deg rs k ≤ h k + degA rs (inB ks) k) : Bu n rs h (ks ++ [k]) where
  nd := nd_snoc S.nd hn
  le j hj := by
    rcases List.mem_append.mp hj with hj | hj
    · exact S.le j hj
    · have : j = k := by simpa using hj
      omega
  pit := List.mem_append_left _ S.pit
  w B hB hx := by
    by_cases c : ∃ j, j ∈ ks ∧ B j = true
    · obtain ⟨j, h1, h2, h3⟩ := S.w B hB c
      exact ⟨j, List.mem_append_left _ h1, h2, h3⟩
    · obtain ⟨j, h1, h2⟩ := hx
      rcases List.mem_append.mp h1 with h1 | h1
      · exact absurd ⟨j, h1, h2⟩ c
      · have e : j = k := by simpa using h1
        subst e
        refine ⟨j, List.mem_append_right _ (by simp), h2, ?_⟩
        have := degA_disj (rs := rs) (A := B) (B := inB ks) (fun b z1 z2 => c ⟨b, by simpa [inB] using z2, z1⟩) j
        omega
theorem Bu.len (S : Bu n rs h ks) : ks.length ≤ n + 1 := nd_len (n + 1) ks S.nd fun x hx => by have := S.le x hx; omega
theorem Bu.all (S : Bu n rs h ks) (l : ks.length = n + 1) : ∀ k, k ≤ n → k ∈ ks := by
  intro k hk
  refine Decidable.byContradiction fun c => ?_
  have := nd_len (n + 1) (ks ++ [k]) (nd_snoc S.nd c) fun x hx => by
    rcases List.mem_append.mp hx with hx | hx
    · have := S.le x hx; omega
    · have : x = k := by simpa using hx
      omega
  rw [List.length_append, List.length_singleton] at this
  omega
theorem Bu.full (S : Bu n rs h ks) (l : ks.length = n + 1) : NF n rs h := by
  intro A ha hx
  obtain ⟨k, hk⟩ := hx
  obtain ⟨j, _, h2, h3⟩ := S.w A ha ⟨k, S.all l k (Nat.le_of_lt (ha k hk)), hk⟩
  exact ⟨j, h2, h3⟩
/-- where the fire goes no further, and no set lacks, all is burnt -/
theorem Bu.closed (S : Bu n rs h ks) (ok : ∀ r ∈ rs, r.1 ≤ n ∧ r.2 ≤ n ∧ r.1 ≠ r.2) (F : NF n rs h) (c : ∀ j, j < n → j ∉ ks → h j + degA rs (inB ks) j < deg rs j) : n + 1 ≤ ks.length := by
  refine full_len (n + 1) ks fun k hk => ?_
  by_cases e : k = n
  · subst e; exact S.pit
  refine Decidable.byContradiction fun z => ?_
  obtain ⟨j, h1, h2⟩ := F (fun j => decide (j < n) && decide (j ∉ ks)) (fun j hj => by simp at hj; exact hj.1) ⟨k, by simp [z]; omega⟩
  have h1' : j < n ∧ j ∉ ks := by simpa using h1
  have := c j h1'.1 h1'.2
  have := degA_cover (rs := rs) (A := fun j => decide (j < n) && decide (j ∉ ks)) (B := inB ks) (fun r hr => by
    obtain ⟨o1, o2, _⟩ := ok r hr
    have g : ∀ x, x ≤ n → (decide (x < n) && decide (x ∉ ks)) = true ∨ inB ks x = true := fun x hx => by
      by_cases m : x ∈ ks
      · right; simp [inB, m]
      · left
        have : x ≠ n := fun z => m (z ▸ S.pit)
        simp [m]; omega
    exact ⟨g _ o1, g _ o2⟩) j
  omega
/-- the roads from k to where it burns, counted -/
def fireP (ks : List Nat) (k : Nat) (r : Road) : Bool := (decide (r.1 = k) || decide (r.2 = k)) && (inB ks r.1 || inB ks r.2)
theorem fire_len (ok : ∀ r ∈ rs, r.1 ≤ n ∧ r.2 ≤ n ∧ r.1 ≠ r.2) (hk : k ∉ ks) : ((rs.filter (fireP ks k)).length : Int) = degA rs (inB ks) k := by
  induction rs with
  | nil => rfl
  | cons r rs ih =>
    have ih := ih fun x hx => ok x (List.mem_cons_of_mem _ hx)
    obtain ⟨_, _, o⟩ := ok r List.mem_cons_self
    have hB : inB ks k = false := by simp [inB, hk]
    have e : degA (r :: rs) (inB ks) k = degA rs (inB ks) k + ((if r.1 = k ∧ inB ks r.2 = true then 1 else 0) + (if r.2 = k ∧ inB ks r.1 = true then 1 else 0)) := rfl
    rw [e, List.filter_cons]
    by_cases c1 : r.1 = k
    · have c2 : ¬ r.2 = k := fun z => o (by omega)
      by_cases b : inB ks r.2 = true
      · have : fireP ks k r = true := by simp [fireP, c1, b]
        rw [if_pos this, if_pos (show r.1 = k ∧ inB ks r.2 = true from ⟨c1, b⟩), if_neg (show ¬ (r.2 = k ∧ inB ks r.1 = true) from fun z => c2 z.1), List.length_cons]; omega
      · have : ¬ fireP ks k r = true := by simp [fireP, c1, b, hB]
        rw [if_neg this, if_neg (show ¬ (r.1 = k ∧ inB ks r.2 = true) from fun z => b z.2), if_neg (show ¬ (r.2 = k ∧ inB ks r.1 = true) from fun z => c2 z.1)]; omega
    · by_cases c2 : r.2 = k
      · by_cases b : inB ks r.1 = true
        · have : fireP ks k r = true := by simp [fireP, c2, b]
          rw [if_pos this, if_pos (show r.2 = k ∧ inB ks r.1 = true from ⟨c2, b⟩), if_neg (show ¬ (r.1 = k ∧ inB ks r.2 = true) from fun z => c1 z.1), List.length_cons]; omega
        · have : ¬ fireP ks k r = true := by simp [fireP, c2, b, hB]
          rw [if_neg this, if_neg (show ¬ (r.2 = k ∧ inB ks r.1 = true) from fun z => b z.2), if_neg (show ¬ (r.1 = k ∧ inB ks r.2 = true) from fun z => c1 z.1)]; omega
      · have : ¬ fireP ks k r = true := by simp [fireP, c1, c2]
        rw [if_neg this, if_neg (show ¬ (r.1 = k ∧ inB ks r.2 = true) from fun z => c1 z.1), if_neg (show ¬ (r.2 = k ∧ inB ks r.1 = true) from fun z => c2 z.1)]; omega
theorem mv_zero_of (e : ∀ k, k < n → u k = 0) : ∀ k, mv n rs h u k = h k := fun k => mv_eq0 e k
end
end Sd
namespace Sd
/-! ### the burning road by road: what tree_of and heap_of do, as plain functions -/
def fup (f : Nat → Int) (k : Nat) (z : Int) : Nat → Int := fun j => if j = k then z else f j
section
variable {n : Nat} {rs : List Road} {h : Nat → Int} {pp : List Nat} {here i k o : Nat} {D D' : Nat → Nat → Int → Bool}
structure Bst where
  left : Nat → Int
  met : List Nat
  wait : List Nat
  tree : List Nat
  act : List Nat
def far (r : Road) (h : Nat) : Option Nat := if r.1 = h then some r.2 else if r.2 = h then some r.1 else none
theorem far_some {r : Road} (e : far r here = some o) : (r.1 = here ∧ r.2 = o) ∨ (r.2 = here ∧ r.1 = o) := by
  unfold far at e
  split at e
  · rename_i c
    exact .inl ⟨c, Option.some.inj e⟩
  · split at e
    · rename_i c
      exact .inr ⟨c, Option.some.inj e⟩
    · cases e
theorem far_none {r : Road} (e : far r here = none) : r.1 ≠ here ∧ r.2 ≠ here := by
  unfold far at e
  split at e
  · cases e
  · rename_i c
    split at e
    · cases e
    · rename_i d
      exact ⟨c, d⟩
/-- a road that may burn: the one at o, from a burnt place, as number i -/
def hit (D : Nat → Nat → Int → Bool) (i o : Nat) (s : Bst) : Bst :=
  if D i o (s.left o - 1) = true then ⟨fup s.left o (s.left o - 1), s.met ++ [o], s.wait ++ [o], s.tree ++ [i], s.act ++ [i]⟩
  else ⟨fup s.left o (s.left o - 1), s.met, s.wait, s.tree, s.act ++ [i]⟩
def stp (rs : List Road) (D : Nat → Nat → Int → Bool) (here i : Nat) (s : Bst) : Bst :=
  match (rs[i]?).bind fun r => far r here with
  | none => s
  | some o => if o ∈ s.met then s else hit D i o s
def rnd (rs : List Road) (D : Nat → Nat → Int → Bool) (here : Nat) : Nat → Bst → Bst
  | 0, s => s
  | i + 1, s => stp rs D here i (rnd rs D here i s)
def run (rs : List Road) (D : Nat → Nat → Int → Bool) : Nat → Bst → Bst
  | 0, s => s
  | f + 1, s => match s.wait with
    | [] => s
    | here :: ws => run rs D f (rnd rs D here rs.length { s with wait := ws })
def st0 (n : Nat) (rs : List Road) : Bst := ⟨deg rs, [n], [n], [], []⟩
theorem degA_take {A : Nat → Bool} {r : Road} (e : rs[i]? = some r) (k : Nat) : degA (rs.take (i + 1)) A k = degA (rs.take i) A k + ((if r.1 = k ∧ A r.2 = true then 1 else 0) + (if r.2 = k ∧ A r.1 = true then 1 else 0)) := by
  rw [List.take_succ, e]
  unfold degA
  rw [ds_append]
  show _ + ds [r] _ = _
  simp only [ds]; omega
theorem degA_prefix (A : Nat → Bool) (i k : Nat) : degA (rs.take i) A k ≤ degA rs A k := by
  have e : degA rs A k = degA (rs.take i) A k + degA (rs.drop i) A k := by
    unfold degA
    rw [← ds_append, List.take_append_drop]
  have := degA_nn (rs.drop i) A k
  omega
theorem degA_sub2 {A B C : Nat → Bool} (d : ∀ b, A b = true → B b = true → False) (hA : ∀ b, A b = true → C b = true) (hB : ∀ b, B b = true → C b = true) (k : Nat) : degA rs A k + degA rs B k ≤ degA rs C k := by
  unfold degA
  rw [← ds_add]
  have g : ∀ x, (if A x = true then (1 : Int) else 0) + (if B x = true then 1 else 0) ≤ if C x = true then 1 else 0 := fun x => by
    by_cases a : A x = true
    · have b : ¬ B x = true := fun z => d x a z
      rw [if_pos a, if_neg b, if_pos (hA x a)]; omega
    · by_cases b : B x = true
      · rw [if_neg a, if_pos b, if_pos (hB x b)]; omega
      · rw [if_neg a, if_neg b]; split <;> omega
  refine ds_le fun r _ => ?_
  constructor <;> (try dsimp only)
  · by_cases c : r.1 = k
    · have := g r.2
      simpa only [c, true_and] using this
    · simp [c]
  · by_cases c : r.2 = k
    · have := g r.1
      simpa only [c, true_and] using this
    · simp [c]
theorem degA_snoc (hn : here ∉ pp) (k : Nat) : degA rs (inB (pp ++ [here])) k = degA rs (inB pp) k + degA rs (inB [here]) k := by
  unfold degA
  rw [← ds_add]
  have g : ∀ x, (if inB (pp ++ [here]) x = true then (1 : Int) else 0) = (if inB pp x = true then 1 else 0) + (if inB [here] x = true then 1 else 0) := fun x => by
    by_cases a : x ∈ pp
    · have b : x ≠ here := fun z => hn (z ▸ a)
      simp [inB, a, b]
    · by_cases b : x = here
      · subst b; simp [inB, hn]
      · simp [inB, a, b]
  refine ds_congr fun r _ => ?_
  constructor <;> (try dsimp only)
  · by_cases c : r.1 = k
    · have := g r.2
      simpa only [c, true_and] using this
    · simp [c]
  · by_cases c : r.2 = k
    · have := g r.1
      simpa only [c, true_and] using this
    · simp [c]
theorem Bu.congr {h h' : Nat → Int} {ks : List Nat} (S : Bu n rs h ks) (e : ∀ k, k ∈ ks → h k = h' k) : Bu n rs h' ks :=
  ⟨S.nd, S.le, S.pit, fun B hB hx => by
    obtain ⟨k, h1, h2, h3⟩ := S.w B hB hx
    exact ⟨k, h1, h2, by rw [← e k h1]; exact h3⟩⟩
theorem fup_at (f : Nat → Int) (k : Nat) (z : Int) : fup f k z k = z := if_pos rfl
theorem fup_ne {f : Nat → Int} {k j : Nat} {z : Int} (n : j ≠ k) : fup f k z j = f j := if_neg n
/-- between two rounds; pp: the places that were here -/
structure Out (n : Nat) (rs : List Road) (pp : List Nat) (s : Bst) : Prop where
  bu : Bu n rs s.left s.met
  mem : ∀ k, k ∈ s.met ↔ k ∈ pp ∨ k ∈ s.wait
  nd : (pp ++ s.wait).Nodup
  left : ∀ k, k < n → k ∉ s.met → s.left k = deg rs k - degA rs (inB pp) k
  low : ∀ k, k < n → k ∈ s.met → s.left k < deg rs k
  act : ∀ j ∈ s.act, ∃ r, rs[j]? = some r ∧ (r.1 ∈ pp ∨ r.2 ∈ pp)
  actnd : s.act.Nodup
  ta : ∀ j ∈ s.tree, j ∈ s.act
  tnd : s.tree.Nodup
  len : s.tree.length + 1 = s.met.length
  conn : ∀ S : Nat → Prop, S n → (∀ j ∈ s.tree, ∀ r, rs[j]? = some r → (S r.1 ↔ S r.2)) → ∀ k ∈ s.met, S k
/-- within a round, i roads looked at -/
structure Inn (n : Nat) (rs : List Road) (pp : List Nat) (here i : Nat) (s : Bst) : Prop where
  bu : Bu n rs s.left s.met
  mem : ∀ k, k ∈ s.met ↔ k ∈ pp ∨ k = here ∨ k ∈ s.wait
  nd : (pp ++ here :: s.wait).Nodup
  left : ∀ k, k < n → k ∉ s.met → s.left k = deg rs k - degA rs (inB pp) k - degA (rs.take i) (inB [here]) k
  low : ∀ k, k < n → k ∈ s.met → s.left k < deg rs k
  act : ∀ j ∈ s.act, ∃ r, rs[j]? = some r ∧ ((r.1 ∈ pp ∨ r.2 ∈ pp) ∨ ((r.1 = here ∨ r.2 = here) ∧ j < i))
  actnd : s.act.Nodup
  ta : ∀ j ∈ s.tree, j ∈ s.act
  tnd : s.tree.Nodup
  len : s.tree.length + 1 = s.met.length
  conn : ∀ S : Nat → Prop, S n → (∀ j ∈ s.tree, ∀ r, rs[j]? = some r → (S r.1 ↔ S r.2)) → ∀ k ∈ s.met, S k
theorem Out.start (n : Nat) (rs : List Road) : Out n rs [] (st0 n rs) where
  bu := Bu.start n rs _
  mem k := by show k ∈ [n] ↔ k ∈ [] ∨ k ∈ [n]; simp
  nd := by show ([] ++ [n] : List Nat).Nodup; simp
  left k hk _ := by
    show deg rs k = deg rs k - degA rs (inB []) k
    have : degA rs (inB []) k = 0 := by
      unfold degA
      refine Eq.trans (ds_congr (G := fun _ _ => 0) fun r _ => ?_) (ds_zero rs)
      constructor <;> simp [inB]
    omega
  low k hk hm := by
    have : k = n := by
      have hm : k ∈ [n] := hm
      simpa using hm
    omega
  act j hj := by cases hj
  actnd := List.Pairwise.nil
  ta j hj := by cases hj
  tnd := List.Pairwise.nil
  len := rfl
  conn S h1 _ k hk := by
    have hk : k ∈ [n] := hk
    have : k = n := by simpa using hk
    rw [this]; exact h1
theorem Out.pop {s : Bst} {ws : List Nat} (I : Out n rs pp s) (e : s.wait = here :: ws) : Inn n rs pp here 0 { s with wait := ws } where
  bu := I.bu
  mem k := by rw [I.mem, e, List.mem_cons]
  nd := by rw [← e]; exact I.nd
  left k hk hm := by
    have z : degA (rs.take 0) (inB [here]) k = 0 := rfl
    rw [z, Int.sub_zero]
    exact I.left k hk hm
  low := I.low
  act j hj := by
    obtain ⟨r, h1, h2⟩ := I.act j hj
    exact ⟨r, h1, .inl h2⟩
  actnd := I.actnd
  ta := I.ta
  tnd := I.tnd
  len := I.len
  conn := I.conn
theorem Inn.done {s : Bst} (I : Inn n rs pp here rs.length s) : Out n rs (pp ++ [here]) s where
  bu := I.bu
  mem k := by rw [I.mem, List.mem_append, List.mem_singleton, or_assoc]
  nd := by rw [List.append_assoc]; exact I.nd
  left k hk hm := by
    have hn : here ∉ pp := fun z => by
      have := (List.nodup_append.mp I.nd).2.2 here z here List.mem_cons_self
      exact this rfl
    rw [I.left k hk hm, List.take_length, degA_snoc hn]; omega
  low := I.low
  act j hj := by
    obtain ⟨r, h1, h2⟩ := I.act j hj
    refine ⟨r, h1, ?_⟩
    rw [List.mem_append, List.mem_append, List.mem_singleton, List.mem_singleton]
    rcases h2 with (h2 | h2) | ⟨h2 | h2, _⟩
    · exact .inl (.inl h2)
    · exact .inr (.inl h2)
    · exact .inl (.inr h2)
    · exact .inr (.inr h2)
  actnd := I.actnd
  ta := I.ta
  tnd := I.tnd
  len := I.len
  conn := I.conn
theorem Inn.skip {s : Bst} {r : Road} (I : Inn n rs pp here i s) (e : rs[i]? = some r) (c : ∀ k, k ∉ s.met → ¬ (r.1 = k ∧ r.2 = here) ∧ ¬ (r.2 = k ∧ r.1 = here)) : Inn n rs pp here (i + 1) s where
  bu := I.bu
  mem := I.mem
  nd := I.nd
  left k hk hm := by
    obtain ⟨c1, c2⟩ := c k hm
    rw [I.left k hk hm, degA_take e, if_neg (fun z => c1 ⟨z.1, by simpa [inB] using z.2⟩), if_neg (fun z => c2 ⟨z.1, by simpa [inB] using z.2⟩)]; omega
  low := I.low
  act j hj := by
    obtain ⟨r, h1, h2⟩ := I.act j hj
    exact ⟨r, h1, h2.imp id fun z => ⟨z.1, by omega⟩⟩
  actnd := I.actnd
  ta := I.ta
  tnd := I.tnd
  len := I.len
  conn := I.conn
theorem Inn.pphere {s : Bst} (I : Inn n rs pp here i s) : here ∉ pp := fun z => (List.nodup_append.mp I.nd).2.2 here z here List.mem_cons_self rfl
/-- a road that is looked at while its other end does not burn was not looked at so before -/
theorem Inn.newact {s : Bst} {r : Road} (I : Inn n rs pp here i s) (e : rs[i]? = some r) (ok : r.1 ≠ r.2) (hr : (r.1 = here ∧ r.2 = o) ∨ (r.2 = here ∧ r.1 = o)) (ho : o ∉ s.met) : i ∉ s.act := by
  intro hi
  obtain ⟨r', h1, h2⟩ := I.act i hi
  rw [e] at h1
  cases h1
  rcases h2 with h2 | ⟨_, h2⟩
  · have hp : here ∉ pp := I.pphere
    have op : o ∉ pp := fun z => ho ((I.mem o).mpr (.inl z))
    rcases hr with ⟨a, b⟩ | ⟨a, b⟩
    · rw [a, b] at h2
      exact h2.elim hp op
    · rw [a, b] at h2
      exact h2.elim op hp
  · omega
theorem Inn.left1 {s : Bst} {r : Road} (I : Inn n rs pp here i s) (e : rs[i]? = some r) (ok : r.1 ≠ r.2) (hr : (r.1 = here ∧ r.2 = o) ∨ (r.2 = here ∧ r.1 = o)) (ho : o ∉ s.met) (hon : o < n) : s.left o - 1 = deg rs o - degA rs (inB pp) o - degA (rs.take (i + 1)) (inB [here]) o := by
  rw [I.left o hon ho, degA_take e]
  rcases hr with ⟨a, b⟩ | ⟨a, b⟩
  · rw [if_neg (show ¬ (r.1 = o ∧ inB [here] r.2 = true) from fun z => ok (by rw [b]; exact z.1)), if_pos (show r.2 = o ∧ inB [here] r.1 = true from ⟨b, by simp [inB, a]⟩)]; omega
  · rw [if_pos (show r.1 = o ∧ inB [here] r.2 = true from ⟨b, by simp [inB, a]⟩), if_neg (show ¬ (r.2 = o ∧ inB [here] r.1 = true) from fun z => ok (by rw [b]; exact z.1.symm))]; omega
theorem Inn.left2 {s : Bst} {r : Road} (I : Inn n rs pp here i s) (e : rs[i]? = some r) (hr : (r.1 = here ∧ r.2 = o) ∨ (r.2 = here ∧ r.1 = o)) (hk : k < n) (hm : k ∉ s.met) (ne : k ≠ o) : s.left k = deg rs k - degA rs (inB pp) k - degA (rs.take (i + 1)) (inB [here]) k := by
  have hh : k ≠ here := fun z => hm ((I.mem k).mpr (.inr (.inl z)))
  rw [I.left k hk hm, degA_take e]
  rcases hr with ⟨a, b⟩ | ⟨a, b⟩
  · rw [if_neg (show ¬ (r.1 = k ∧ inB [here] r.2 = true) from fun z => hh (by rw [← z.1, a])), if_neg (show ¬ (r.2 = k ∧ inB [here] r.1 = true) from fun z => ne (by rw [← z.1, b]))]; omega
  · rw [if_neg (show ¬ (r.1 = k ∧ inB [here] r.2 = true) from fun z => ne (by rw [← z.1, b])), if_neg (show ¬ (r.2 = k ∧ inB [here] r.1 = true) from fun z => hh (by rw [← z.1, a]))]; omega
theorem nd_tail {l : List Nat} (h : (pp ++ here :: l).Nodup) (ho : o ∉ pp ++ here :: l) : (pp ++ here :: (l ++ [o])).Nodup := by
  have := nd_snoc h ho
  rw [List.append_assoc] at this
  exact this
theorem Inn.hit {s : Bst} {r : Road} (I : Inn n rs pp here i s) (ok : ∀ r ∈ rs, r.1 ≤ n ∧ r.2 ≤ n ∧ r.1 ≠ r.2) (e : rs[i]? = some r) (hr : (r.1 = here ∧ r.2 = o) ∨ (r.2 = here ∧ r.1 = o)) (ho : o ∉ s.met) : Inn n rs pp here (i + 1) (hit D i o s) := by
  obtain ⟨k1, k2, k3⟩ := ok r (List.mem_of_getElem? e)
  have hon : o < n := by
    have : o ≤ n := by rcases hr with ⟨_, b⟩ | ⟨_, b⟩ <;> omega
    have : o ≠ n := fun z => ho (z ▸ I.bu.pit)
    omega
  have na := I.newact e k3 hr ho
  have l1 := I.left1 e k3 hr ho hon
  have hact : ∀ j ∈ s.act ++ [i], ∃ r, rs[j]? = some r ∧ ((r.1 ∈ pp ∨ r.2 ∈ pp) ∨ ((r.1 = here ∨ r.2 = here) ∧ j < i + 1)) := fun j hj => by
    rcases List.mem_append.mp hj with hj | hj
    · obtain ⟨r, h1, h2⟩ := I.act j hj
      exact ⟨r, h1, h2.imp id fun z => ⟨z.1, by omega⟩⟩
    · have : j = i := by simpa using hj
      subst this
      refine ⟨r, e, .inr ⟨?_, by omega⟩⟩
      rcases hr with ⟨a, _⟩ | ⟨a, _⟩
      · exact .inl a
      · exact .inr a
  have bu' : Bu n rs (fup s.left o (s.left o - 1)) s.met := I.bu.congr fun k hk => (fup_ne fun z : k = o => ho (by rw [← z]; exact hk)).symm
  have lowo : s.left o - 1 < deg rs o := by
    have a1 := degA_nn rs (inB pp) o
    have a2 := degA_nn (rs.take i) (inB [here]) o
    have := I.left o hon ho
    omega
  unfold Sd.hit
  split
  · refine ⟨bu'.add hon ho ?_, fun k => ?_, ?_, fun k hk hm => ?_, fun k hk hm => ?_, hact, nd_snoc I.actnd na, fun j hj => ?_, nd_snoc I.tnd fun z => na (I.ta _ z), ?_, fun S h1 h2 k hk => ?_⟩
    · rw [fup_at, l1]
      have a1 := degA_sub2 (rs := rs) (A := inB pp) (B := inB [here]) (C := inB s.met) (fun b z1 z2 => by
        have z2 : b = here := by simpa [inB] using z2
        have z1 : b ∈ pp := by simpa [inB] using z1
        exact I.pphere (z2 ▸ z1)) (fun b z => by
        have z : b ∈ pp := by simpa [inB] using z
        simpa [inB] using (I.mem b).mpr (.inl z)) (fun b z => by
        have z : b = here := by simpa [inB] using z
        simpa [inB] using (I.mem b).mpr (.inr (.inl z))) o
      have a2 := degA_prefix (rs := rs) (inB [here]) (i + 1) o
      omega
    · show k ∈ s.met ++ [o] ↔ k ∈ pp ∨ k = here ∨ k ∈ s.wait ++ [o]
      rw [List.mem_append, List.mem_append, I.mem]
      constructor
      · rintro ((z | z | z) | z)
        · exact .inl z
        · exact .inr (.inl z)
        · exact .inr (.inr (.inl z))
        · exact .inr (.inr (.inr z))
      · rintro (z | z | z | z)
        · exact .inl (.inl z)
        · exact .inl (.inr (.inl z))
        · exact .inl (.inr (.inr z))
        · exact .inr z
    · refine nd_tail I.nd fun z => ho ?_
      rw [I.mem]
      rcases List.mem_append.mp z with z | z
      · exact .inl z
      · exact .inr (List.mem_cons.mp z)
    · have hm : k ∉ s.met ++ [o] := hm
      rw [List.mem_append, List.mem_singleton] at hm
      have n1 : k ∉ s.met := fun z => hm (.inl z)
      have n2 : k ≠ o := fun z => hm (.inr z)
      show fup s.left o (s.left o - 1) k = _
      rw [fup_ne n2]
      exact I.left2 e hr hk n1 n2
    · have hm : k ∈ s.met ++ [o] := hm
      show fup s.left o (s.left o - 1) k < _
      by_cases c : k = o
      · subst c; rw [fup_at]; exact lowo
      · rw [fup_ne c]
        rcases List.mem_append.mp hm with z | z
        · exact I.low k hk z
        · exact absurd (by simpa using z) c
    · have hj : j ∈ s.tree ++ [i] := hj
      rcases List.mem_append.mp hj with z | z
      · exact List.mem_append_left _ (I.ta _ z)
      · exact List.mem_append_right _ z
    · show (s.tree ++ [i]).length + 1 = (s.met ++ [o]).length
      rw [List.length_append, List.length_append, List.length_singleton, List.length_singleton]
      have := I.len
      omega
    · have h2 : ∀ j ∈ s.tree ++ [i], ∀ r, rs[j]? = some r → (S r.1 ↔ S r.2) := h2
      have hk : k ∈ s.met ++ [o] := hk
      have old := I.conn S h1 fun j hj => h2 j (List.mem_append_left _ hj)
      rcases List.mem_append.mp hk with z | z
      · exact old k z
      · have z : k = o := by simpa using z
        subst z
        have hh := old here ((I.mem here).mpr (.inr (.inl rfl)))
        have hi := h2 i (by simp) r e
        rcases hr with ⟨a, b⟩ | ⟨a, b⟩
        · rw [← b]; exact hi.mp (by rw [a]; exact hh)
        · rw [← b]; exact hi.mpr (by rw [a]; exact hh)
  · refine ⟨bu', I.mem, I.nd, fun k hk hm => ?_, fun k hk hm => ?_, hact, nd_snoc I.actnd na, fun j hj => List.mem_append_left _ (I.ta _ hj), I.tnd, I.len, I.conn⟩
    · show fup s.left o (s.left o - 1) k = _
      by_cases c : k = o
      · subst c; rw [fup_at]; exact l1
      · rw [fup_ne c]; exact I.left2 e hr hk hm c
    · show fup s.left o (s.left o - 1) k < _
      rw [fup_ne fun z => ho (by rw [← z]; exact hm)]
      exact I.low k hk hm
theorem stp_at {s : Bst} {r : Road} (e : rs[i]? = some r) : stp rs D here i s = match far r here with
    | none => s
    | some o => if o ∈ s.met then s else hit D i o s := by
  unfold stp; rw [e]; rfl
theorem Inn.stp {s : Bst} (I : Inn n rs pp here i s) (ok : ∀ r ∈ rs, r.1 ≤ n ∧ r.2 ≤ n ∧ r.1 ≠ r.2) (hi : i < rs.length) : Inn n rs pp here (i + 1) (stp rs D here i s) := by
  have e : rs[i]? = some rs[i] := List.getElem?_eq_getElem hi
  rw [stp_at e]
  cases f : far rs[i] here with
  | none =>
    obtain ⟨a, b⟩ := far_none f
    exact I.skip e fun k _ => ⟨fun z => b z.2, fun z => a z.2⟩
  | some o =>
    have hr := far_some f
    dsimp only
    split
    · rename_i ho
      refine I.skip e fun k hk => ?_
      obtain ⟨_, _, k3⟩ := ok _ (List.mem_of_getElem? e)
      rcases hr with ⟨a, b⟩ | ⟨a, b⟩
      · exact ⟨fun z => k3 (by rw [a, z.2]), fun z => hk (by rw [← z.1, b]; exact ho)⟩
      · exact ⟨fun z => hk (by rw [← z.1, b]; exact ho), fun z => k3 (by rw [a, z.2])⟩
    · rename_i ho
      exact I.hit ok e hr ho
theorem Inn.rnd {s : Bst} (I : Inn n rs pp here 0 s) (ok : ∀ r ∈ rs, r.1 ≤ n ∧ r.2 ≤ n ∧ r.1 ≠ r.2) : ∀ i, i ≤ rs.length → Inn n rs pp here i (rnd rs D here i s)
  | 0, _ => I
  | i + 1, hi => (Inn.rnd I ok i (by omega)).stp ok (by omega)
end
end Sd
namespace Sd
section
variable {n : Nat} {rs : List Road} {h : Nat → Int} {pp : List Nat} {here i k o f : Nat} {D D' : Nat → Nat → Int → Bool} {s t F : Bst} {r : Road}
/-- F is later than s -/
structure Gr (s F : Bst) : Prop where
  act : ∃ x y, F.act = s.act ++ x ∧ F.tree = s.tree ++ y ∧ ∀ e ∈ y, e ∈ x
  met : ∀ k ∈ s.met, k ∈ F.met
  left : ∀ k ∈ s.met, F.left k = s.left k
  le : ∀ k, F.left k ≤ s.left k
  lt : ∀ k, k ∉ s.met → k ∈ F.met → F.left k < s.left k
theorem Gr.refl (s : Bst) : Gr s s := ⟨⟨[], [], by simp, by simp, fun _ h => h⟩, fun _ h => h, fun _ _ => rfl, fun _ => Int.le_refl _, fun _ h h' => absurd h' h⟩
theorem Gr.trans (a : Gr s t) (b : Gr t F) : Gr s F := by
  obtain ⟨x, y, h1, h2, h3⟩ := a.act
  obtain ⟨x', y', h1', h2', h3'⟩ := b.act
  refine ⟨⟨x ++ x', y ++ y', by rw [h1', h1, List.append_assoc], by rw [h2', h2, List.append_assoc], fun e he => ?_⟩, fun k hk => b.met k (a.met k hk), fun k hk => (b.left k (a.met k hk)).trans (a.left k hk), fun k => Int.le_trans (b.le k) (a.le k), fun k hk hF => ?_⟩
  · rcases List.mem_append.mp he with z | z
    · exact List.mem_append_left _ (h3 e z)
    · exact List.mem_append_right _ (h3' e z)
  · by_cases c : k ∈ t.met
    · rw [b.left k c]; exact a.lt k hk c
    · have := b.lt k c hF
      have := a.le k
      omega
theorem Gr.hit (ho : o ∉ s.met) : Gr s (hit D i o s) := by
  unfold Sd.hit
  split
  · refine ⟨⟨[i], [i], rfl, rfl, fun _ h => h⟩, fun k hk => List.mem_append_left _ hk, fun k hk => fup_ne fun z : k = o => ho (by rw [← z]; exact hk), fun k => ?_, fun k hk hF => ?_⟩
    · show fup _ _ _ k ≤ _
      unfold fup; split
      · rename_i z; subst z; omega
      · exact Int.le_refl _
    · have hF : k ∈ s.met ++ [o] := hF
      rcases List.mem_append.mp hF with z | z
      · exact absurd z hk
      · have z : k = o := by simpa using z
        subst z
        show fup _ _ _ k < _
        rw [fup_at]; omega
  · refine ⟨⟨[i], [], rfl, by simp, fun _ h => (by cases h)⟩, fun k hk => hk, fun k hk => fup_ne fun z : k = o => ho (by rw [← z]; exact hk), fun k => ?_, fun k hk hF => absurd hF hk⟩
    show fup _ _ _ k ≤ _
    unfold fup; split
    · rename_i z; subst z; omega
    · exact Int.le_refl _
theorem Gr.stp : Gr s (stp rs D here i s) := by
  unfold Sd.stp
  split
  · exact Gr.refl s
  · split
    · exact Gr.refl s
    · rename_i ho; exact Gr.hit ho
theorem Gr.rnd : ∀ i, Gr s (rnd rs D here i s)
  | 0 => Gr.refl s
  | i + 1 => (Gr.rnd i).trans Gr.stp
theorem Gr.rnd_le {j : Nat} : ∀ i, j ≤ i → Gr (Sd.rnd rs D here j s) (Sd.rnd rs D here i s)
  | 0, h => by
    have : j = 0 := by omega
    subst this; exact Gr.refl _
  | i + 1, h => by
    by_cases c : j = i + 1
    · subst c; exact Gr.refl _
    · exact (Gr.rnd_le i (by omega)).trans Gr.stp
theorem Gr.wait {ws : List Nat} : Gr s { s with wait := ws } := ⟨⟨[], [], by simp, by simp, fun _ h => h⟩, fun _ h => h, fun _ _ => rfl, fun _ => Int.le_refl _, fun _ h h' => absurd h' h⟩
theorem Gr.run : ∀ f (s : Bst), Gr s (run rs D f s)
  | 0, s => Gr.refl s
  | f + 1, s => by
    unfold Sd.run
    split
    · exact Gr.refl s
    · exact (Gr.wait.trans (Gr.rnd _)).trans (Gr.run f _)
/-! each road that is met adds one to wait -/
theorem stp_wait : (stp rs D here i s).wait.length + s.met.length = s.wait.length + (stp rs D here i s).met.length := by
  unfold Sd.stp
  split
  · rfl
  · split
    · rfl
    · unfold Sd.hit
      split
      · simp only [List.length_append, List.length_singleton]; omega
      · rfl
theorem rnd_wait : ∀ i, (rnd rs D here i s).wait.length + s.met.length = s.wait.length + (rnd rs D here i s).met.length
  | 0 => rfl
  | i + 1 => by
    have := rnd_wait i
    have := stp_wait (rs := rs) (D := D) (here := here) (i := i) (s := rnd rs D here i s)
    show (stp rs D here i (rnd rs D here i s)).wait.length + _ = _ + (stp rs D here i (rnd rs D here i s)).met.length
    omega
theorem run_nil (e : s.wait = []) : ∀ f, run rs D f s = s
  | 0 => rfl
  | f + 1 => by unfold run; rw [e]
theorem run_cons {ws : List Nat} (e : s.wait = here :: ws) (f : Nat) : run rs D (f + 1) s = run rs D f (rnd rs D here rs.length { s with wait := ws }) := by
  conv => lhs; unfold run
  rw [e]
theorem Out.run (ok : ∀ r ∈ rs, r.1 ≤ n ∧ r.2 ≤ n ∧ r.1 ≠ r.2) : ∀ f pp (s : Bst), Out n rs pp s → s.wait.length + (n + 1 - s.met.length) ≤ f → ∃ pp', Out n rs pp' (run rs D f s) ∧ (run rs D f s).wait = []
  | 0, pp, s, I, h => ⟨pp, I, by
    have : s.wait.length = 0 := by omega
    exact List.length_eq_zero_iff.mp this⟩
  | f + 1, pp, s, I, h => by
    cases e : s.wait with
    | nil => rw [run_nil e]; exact ⟨pp, I, e⟩
    | cons here ws =>
      rw [run_cons e]
      have J := (Inn.rnd (D := D) (I.pop e) ok rs.length (Nat.le_refl _)).done
      refine Out.run ok f _ _ J ?_
      have w := rnd_wait (rs := rs) (D := D) (here := here) (s := { s with wait := ws }) rs.length
      have l := J.bu.len
      have l0 := I.bu.len
      have w : (rnd rs D here rs.length { s with wait := ws }).wait.length + s.met.length = ws.length + (rnd rs D here rs.length { s with wait := ws }).met.length := w
      rw [e, List.length_cons] at h
      omega
/-- two runs whose decisions agree are one -/
theorem stp_eq (hD : ∀ r o, rs[i]? = some r → ((r.1 = here ∧ r.2 = o) ∨ (r.2 = here ∧ r.1 = o)) → o ∉ s.met → Gr (hit D i o s) F → D' i o (s.left o - 1) = D i o (s.left o - 1)) (g : Gr (stp rs D here i s) F) : stp rs D' here i s = stp rs D here i s := by
  unfold stp at g ⊢
  cases e : rs[i]? with
  | none => rfl
  | some r =>
    rw [e] at g
    dsimp only [Option.bind_some] at g ⊢
    cases e2 : far r here with
    | none => rfl
    | some o =>
      rw [e2] at g
      dsimp only at g ⊢
      by_cases ho : o ∈ s.met
      · rw [if_pos ho, if_pos ho]
      · rw [if_neg ho] at g
        rw [if_neg ho, if_neg ho]
        have := hD r o e (far_some e2) ho g
        unfold hit
        rw [this]
theorem run_eq (ok : ∀ r ∈ rs, r.1 ≤ n ∧ r.2 ≤ n ∧ r.1 ≠ r.2)
    (hD : ∀ pp here i (s : Bst) r o, Inn n rs pp here i s → rs[i]? = some r → ((r.1 = here ∧ r.2 = o) ∨ (r.2 = here ∧ r.1 = o)) → o ∉ s.met → Gr (hit D i o s) F → D' i o (s.left o - 1) = D i o (s.left o - 1)) :
    ∀ f pp (s : Bst), Out n rs pp s → run rs D f s = F → run rs D' f s = F
  | 0, _, _, _, e => e
  | f + 1, pp, s, I, e => by
    cases ew : s.wait with
    | nil =>
      rw [run_nil ew] at e
      rw [run_nil ew]; exact e
    | cons here ws =>
      rw [run_cons ew] at e
      rw [run_cons ew]
      have J := I.pop ew
      have g : Gr (rnd rs D here rs.length { s with wait := ws }) F := e ▸ Gr.run f _
      have key : ∀ i, i ≤ rs.length → rnd rs D' here i { s with wait := ws } = rnd rs D here i { s with wait := ws } := by
        intro i
        induction i with
        | zero => intro _; rfl
        | succ i ih =>
          intro hi
          show stp rs D' here i (rnd rs D' here i _) = stp rs D here i (rnd rs D here i _)
          rw [ih (by omega)]
          refine stp_eq (F := F) (fun r o h1 h2 h3 h4 => hD pp here i _ r o (Inn.rnd J ok i (by omega)) h1 h2 h3 h4) ?_
          exact (Gr.rnd_le (rs := rs) (D := D) (here := here) (s := { s with wait := ws }) (j := i + 1) rs.length hi).trans g
      rw [key rs.length (Nat.le_refl _)]
      exact run_eq ok hD f _ _ ((Inn.rnd J ok rs.length (Nat.le_refl _)).done) e
/-! ### from heaps to trees -/
def dH (h : Nat → Int) : Nat → Nat → Int → Bool := fun _ o l => decide (l ≤ h o)
def dT (T : List Nat) : Nat → Nat → Int → Bool := fun i _ _ => decide (i ∈ T)
def treeRun (n : Nat) (rs : List Road) (h : Nat → Int) : Bst := run rs (dH h) (n + 1) (st0 n rs)
def heapRun (n : Nat) (rs : List Road) (T : List Nat) : Bst := run rs (dT T) (n + 1) (st0 n rs)
theorem st0_fuel (n : Nat) (rs : List Road) : (st0 n rs).wait.length + (n + 1 - (st0 n rs).met.length) ≤ n + 1 := by
  show 1 + (n + 1 - 1) ≤ n + 1
  omega
def PA (n : Nat) (h : Nat → Int) (s : Bst) : Prop := (∀ k, k < n → k ∉ s.met → h k < s.left k) ∧ ∀ k, k < n → k ∈ s.met → s.left k = h k
theorem PA.hit (P : PA n h s) (ho : o ∉ s.met) : PA n h (hit (dH h) i o s) := by
  unfold Sd.hit dH
  split
  · rename_i c
    have c : s.left o - 1 ≤ h o := of_decide_eq_true c
    refine ⟨fun k hk hm => ?_, fun k hk hm => ?_⟩
    · have hm : k ∉ s.met ++ [o] := hm
      show h k < fup _ _ _ k
      rw [fup_ne fun z => hm (by rw [z]; simp)]
      exact P.1 k hk fun z => hm (List.mem_append_left _ z)
    · have hm : k ∈ s.met ++ [o] := hm
      show fup _ _ _ k = h k
      by_cases z : k = o
      · subst z
        rw [fup_at]
        have := P.1 k hk ho
        omega
      · rw [fup_ne z]
        rcases List.mem_append.mp hm with y | y
        · exact P.2 k hk y
        · exact absurd (by simpa using y) z
  · rename_i c
    have c : ¬ s.left o - 1 ≤ h o := by simpa using c
    refine ⟨fun k hk hm => ?_, fun k hk hm => ?_⟩
    · show h k < fup _ _ _ k
      by_cases z : k = o
      · subst z; rw [fup_at]; omega
      · rw [fup_ne z]; exact P.1 k hk hm
    · show fup _ _ _ k = h k
      rw [fup_ne fun z : k = o => ho (by rw [← z]; exact hm)]
      exact P.2 k hk hm
theorem PA.stp (P : PA n h s) : PA n h (stp rs (dH h) here i s) := by
  unfold Sd.stp
  split
  · exact P
  · split
    · exact P
    · rename_i ho; exact P.hit ho
theorem PA.rnd (P : PA n h s) : ∀ i, PA n h (rnd rs (dH h) here i s)
  | 0 => P
  | i + 1 => (PA.rnd P i).stp
theorem PA.run : ∀ f (s : Bst), PA n h s → PA n h (run rs (dH h) f s)
  | 0, _, P => P
  | f + 1, s, P => by
    unfold Sd.run
    split
    · exact P
    · rename_i ws _
      exact PA.run f _ (PA.rnd (s := { s with wait := ws }) (show PA n h { s with wait := ws } from P) _)
/-- numbers of roads by which one comes to the pit from everywhere -/
structure IsTree (n : Nat) (rs : List Road) (T : List Nat) : Prop where
  nd : T.Nodup
  len : T.length = n
  lt : ∀ j ∈ T, j < rs.length
  conn : ∀ S : Nat → Prop, S n → (∀ j ∈ T, ∀ r, rs[j]? = some r → (S r.1 ↔ S r.2)) → ∀ k, k ≤ n → S k
theorem act_lt {T : List Nat} (h : ∀ j ∈ T, ∃ r, rs[j]? = some r ∧ (r.1 ∈ pp ∨ r.2 ∈ pp)) : ∀ j ∈ T, j < rs.length := fun j hj => by
  obtain ⟨r, h1, _⟩ := h j hj
  exact (List.getElem?_eq_some_iff.mp h1).1
/-- what tree_of finds of a heap that comes again -/
theorem tree_law (N : Net n rs) (L : Low n rs h) (NFh : NF n rs h) : IsTree n rs (treeRun n rs h).tree ∧ (∀ k, k < n → (treeRun n rs h).left k = h k) ∧ ∀ T : List Nat, (∀ j, j ∈ T ↔ j ∈ (treeRun n rs h).tree) → heapRun n rs T = treeRun n rs h := by
  obtain ⟨pp', O, hw⟩ := Out.run (D := dH h) N.ok (n + 1) [] (st0 n rs) (Out.start n rs) (st0_fuel n rs)
  have O : Out n rs pp' (treeRun n rs h) := O
  have hw : (treeRun n rs h).wait = [] := hw
  have P : PA n h (treeRun n rs h) := PA.run (n + 1) (st0 n rs) ⟨fun k hk _ => L k hk, fun k hk hm => by
    have hm : k ∈ [n] := hm
    have : k = n := by simpa using hm
    omega⟩
  have B : Bu n rs h (treeRun n rs h).met := by
    refine ⟨O.bu.nd, O.bu.le, O.bu.pit, fun A hA hx => ?_⟩
    obtain ⟨k, h1, h2, h3⟩ := O.bu.w A hA hx
    exact ⟨k, h1, h2, by rw [← P.2 k (hA k h2) h1]; exact h3⟩
  have mp : ∀ k, k ∈ (treeRun n rs h).met ↔ k ∈ pp' := fun k => by
    rw [O.mem, hw]; simp
  have full := B.closed N.ok NFh fun j hj hm => by
    have h1 := P.1 j hj hm
    have h2 := O.left j hj hm
    have e : inB (treeRun n rs h).met = inB pp' := by
      funext b
      unfold inB
      rw [decide_eq_decide]
      exact mp b
    rw [e]; omega
  have hl : (treeRun n rs h).met.length = n + 1 := by have := B.len; omega
  have all := B.all hl
  refine ⟨⟨O.tnd, by have := O.len; omega, fun j hj => act_lt O.act j (O.ta j hj), fun S h1 h2 k hk => O.conn S h1 h2 k (all k hk)⟩, fun k hk => P.2 k hk (all k (Nat.le_of_lt hk)), fun T hT => ?_⟩
  refine run_eq (D := dH h) (D' := dT T) N.ok (fun pp here i s r o I e hr ho g => ?_) (n + 1) [] (st0 n rs) (Out.start n rs) rfl
  obtain ⟨x, y, g1, g2, g3⟩ := g.act
  unfold dT
  have nd : (treeRun n rs h).act.Nodup := O.actnd
  have na : i ∉ s.act := I.newact e (N.ok r (List.mem_of_getElem? e)).2.2 hr ho
  unfold Sd.hit at g1 g2
  split at g1
  · rename_i c
    rw [if_pos c] at g2
    rw [c, decide_eq_true_eq, hT]
    have g2 : (treeRun n rs h).tree = s.tree ++ [i] ++ y := g2
    rw [g2]; simp
  · rename_i c
    rw [if_neg c] at g2
    have c : dH h i o (s.left o - 1) = false := by simpa using c
    have g1 : (treeRun n rs h).act = s.act ++ [i] ++ x := g1
    have g2 : (treeRun n rs h).tree = s.tree ++ y := g2
    rw [c, decide_eq_false_iff_not, hT, g2]
    intro z
    rcases List.mem_append.mp z with z | z
    · exact na (I.ta _ z)
    · have z := g3 i z
      rw [g1] at nd
      exact (List.nodup_append.mp nd).2.2 i (by simp) i z rfl
/-! ### from trees to heaps -/
def PB (rs : List Road) (T pp : List Nat) (s : Bst) : Prop := (∀ j ∈ T, ∀ r, rs[j]? = some r → (r.1 ∈ pp → r.2 ∈ s.met) ∧ (r.2 ∈ pp → r.1 ∈ s.met)) ∧ ∀ j ∈ s.tree, j ∈ T
def PBi (rs : List Road) (T pp : List Nat) (here i : Nat) (s : Bst) : Prop := (∀ j ∈ T, ∀ r, rs[j]? = some r → (r.1 ∈ pp ∨ (r.1 = here ∧ j < i) → r.2 ∈ s.met) ∧ (r.2 ∈ pp ∨ (r.2 = here ∧ j < i) → r.1 ∈ s.met)) ∧ ∀ j ∈ s.tree, j ∈ T
theorem PBi.stp {T : List Nat} (P : PBi rs T pp here i s) (I : Inn n rs pp here i s) (hi : i < rs.length) : PBi rs T pp here (i + 1) (stp rs (dT T) here i s) := by
  have e : rs[i]? = some rs[i] := List.getElem?_eq_getElem hi
  have hm : here ∈ s.met := (I.mem here).mpr (.inr (.inl rfl))
  have g : Gr s (Sd.stp rs (dT T) here i s) := Gr.stp
  -- what is to be shown of road i itself
  have one : i ∈ T → ((rs[i].1 = here → rs[i].2 ∈ (Sd.stp rs (dT T) here i s).met) ∧ (rs[i].2 = here → rs[i].1 ∈ (Sd.stp rs (dT T) here i s).met)) ∧ True := fun hT => by
    rw [stp_at e]
    cases f : far rs[i] here with
    | none =>
      obtain ⟨a, b⟩ := far_none f
      exact ⟨⟨fun z => absurd z a, fun z => absurd z b⟩, trivial⟩
    | some o =>
      dsimp only
      have mo : o ∈ (if o ∈ s.met then s else hit (dT T) i o s).met := by
        split
        · assumption
        · unfold hit dT
          rw [if_pos (by rw [decide_eq_true_eq]; exact hT)]
          simp
      have mh : here ∈ (if o ∈ s.met then s else hit (dT T) i o s).met := by
        split
        · exact hm
        · rename_i ho; exact (Gr.hit ho).met _ hm
      rcases far_some f with ⟨a, b⟩ | ⟨a, b⟩
      · exact ⟨⟨fun _ => by rw [b]; exact mo, fun _ => by rw [a]; exact mh⟩, trivial⟩
      · exact ⟨⟨fun _ => by rw [a]; exact mh, fun _ => by rw [b]; exact mo⟩, trivial⟩
  refine ⟨fun j hj r hr => ⟨fun z => ?_, fun z => ?_⟩, fun j hj => ?_⟩
  · by_cases c : j = i ∧ r.1 = here
    · obtain ⟨c, c2⟩ := c
      subst c
      rw [e] at hr
      cases hr
      exact (one hj).1.1 c2
    · refine g.met _ ((P.1 j hj r hr).1 ?_)
      rcases z with z | z
      · exact .inl z
      · exact .inr ⟨z.1, by have : j ≠ i := fun y => c ⟨y, z.1⟩
                            omega⟩
  · by_cases c : j = i ∧ r.2 = here
    · obtain ⟨c, c2⟩ := c
      subst c
      rw [e] at hr
      cases hr
      exact (one hj).1.2 c2
    · refine g.met _ ((P.1 j hj r hr).2 ?_)
      rcases z with z | z
      · exact .inl z
      · exact .inr ⟨z.1, by have : j ≠ i := fun y => c ⟨y, z.1⟩
                            omega⟩
  · unfold Sd.stp at hj
    split at hj
    · exact P.2 j hj
    · split at hj
      · exact P.2 j hj
      · unfold hit at hj
        split at hj
        · rename_i c
          have hj : j ∈ s.tree ++ [i] := hj
          rcases List.mem_append.mp hj with z | z
          · exact P.2 j z
          · have : j = i := by simpa using z
            subst this
            exact of_decide_eq_true c
        · exact P.2 j hj
theorem PBi.rnd {T : List Nat} (ok : ∀ r ∈ rs, r.1 ≤ n ∧ r.2 ≤ n ∧ r.1 ≠ r.2) (P : PBi rs T pp here 0 s) (I : Inn n rs pp here 0 s) : ∀ i, i ≤ rs.length → PBi rs T pp here i (rnd rs (dT T) here i s)
  | 0, _ => P
  | i + 1, hi => (PBi.rnd ok P I i (by omega)).stp (Inn.rnd I ok i (by omega)) (by omega)
theorem PB.run {T : List Nat} (ok : ∀ r ∈ rs, r.1 ≤ n ∧ r.2 ≤ n ∧ r.1 ≠ r.2) : ∀ f pp (s : Bst), Out n rs pp s → s.wait.length + (n + 1 - s.met.length) ≤ f → PB rs T pp s → ∃ pp', Out n rs pp' (run rs (dT T) f s) ∧ (run rs (dT T) f s).wait = [] ∧ PB rs T pp' (run rs (dT T) f s)
  | 0, pp, s, I, h, P => ⟨pp, I, by
    have : s.wait.length = 0 := by omega
    exact List.length_eq_zero_iff.mp this, P⟩
  | f + 1, pp, s, I, h, P => by
    cases e : s.wait with
    | nil => rw [run_nil e]; exact ⟨pp, I, e, P⟩
    | cons here ws =>
      rw [run_cons e]
      have P0 : PBi rs T pp here 0 { s with wait := ws } := ⟨fun j hj r hr => ⟨fun z => (P.1 j hj r hr).1 (z.elim id fun y => absurd y.2 (Nat.not_lt_zero _)), fun z => (P.1 j hj r hr).2 (z.elim id fun y => absurd y.2 (Nat.not_lt_zero _))⟩, P.2⟩
      have J := (Inn.rnd (D := dT T) (I.pop e) ok rs.length (Nat.le_refl _)).done
      have Q := PBi.rnd ok P0 (I.pop e) rs.length (Nat.le_refl _)
      refine PB.run ok f _ _ J ?_ ⟨fun j hj r hr => ?_, Q.2⟩
      · have w := rnd_wait (rs := rs) (D := dT T) (here := here) (s := { s with wait := ws }) rs.length
        have l := J.bu.len
        have l0 := I.bu.len
        have w : (rnd rs (dT T) here rs.length { s with wait := ws }).wait.length + s.met.length = ws.length + (rnd rs (dT T) here rs.length { s with wait := ws }).met.length := w
        rw [e, List.length_cons] at h
        omega
      · have hjl := (List.getElem?_eq_some_iff.mp hr).1
        have q := Q.1 j hj r hr
        constructor
        · intro z
          refine q.1 ?_
          rcases List.mem_append.mp z with z | z
          · exact .inl z
          · exact .inr ⟨by simpa using z, hjl⟩
        · intro z
          refine q.2 ?_
          rcases List.mem_append.mp z with z | z
          · exact .inl z
          · exact .inr ⟨by simpa using z, hjl⟩
/-- the heap of a tree comes again, and its tree is that tree -/
theorem heap_law {T : List Nat} (ok : ∀ r ∈ rs, r.1 ≤ n ∧ r.2 ≤ n ∧ r.1 ≠ r.2) (hT : IsTree n rs T) : Low n rs (heapRun n rs T).left ∧ NF n rs (heapRun n rs T).left ∧ (heapRun n rs T).tree.Nodup ∧ (∀ j, j ∈ (heapRun n rs T).tree ↔ j ∈ T) ∧ ∀ h, (∀ k, k < n → h k = (heapRun n rs T).left k) → treeRun n rs h = heapRun n rs T := by
  obtain ⟨pp', O, hw, P⟩ := PB.run (T := T) ok (n + 1) [] (st0 n rs) (Out.start n rs) (st0_fuel n rs) ⟨fun j _ r _ => ⟨fun z => (by cases z), fun z => (by cases z)⟩, fun j hj => (by cases hj)⟩
  have O : Out n rs pp' (heapRun n rs T) := O
  have hw : (heapRun n rs T).wait = [] := hw
  have P : PB rs T pp' (heapRun n rs T) := P
  have mp : ∀ k, k ∈ (heapRun n rs T).met ↔ k ∈ pp' := fun k => by
    rw [O.mem, hw]; simp
  have all : ∀ k, k ≤ n → k ∈ (heapRun n rs T).met := hT.conn (fun k => k ∈ (heapRun n rs T).met) O.bu.pit fun j hj r hr => by
    have p := P.1 j hj r hr
    exact ⟨fun z => p.1 ((mp _).mp z), fun z => p.2 ((mp _).mp z)⟩
  have hl : (heapRun n rs T).met.length = n + 1 := by
    have := O.bu.len
    have := full_len (n + 1) _ fun k hk => all k (by omega)
    omega
  have tl : (heapRun n rs T).tree.length = n := by have := O.len; omega
  have same : ∀ j, j ∈ (heapRun n rs T).tree ↔ j ∈ T := fun j => ⟨P.2 j, fun hj => by
    refine Decidable.byContradiction fun c => ?_
    have := List.Nodup.length_le_of_subset (l₁ := (heapRun n rs T).tree ++ [j]) (l₂ := T) (nd_snoc O.tnd c) fun x hx => by
      rcases List.mem_append.mp hx with z | z
      · exact P.2 x z
      · have : x = j := by simpa using z
        rw [this]; exact hj
    rw [List.length_append, List.length_singleton, tl, hT.len] at this
    omega⟩
  refine ⟨fun k hk => O.low k hk (all k (Nat.le_of_lt hk)), O.bu.full hl, O.tnd, same, fun h hh => ?_⟩
  refine run_eq (D := dT T) (D' := dH h) ok (fun pp here i s r o I e hr ho g => ?_) (n + 1) [] (st0 n rs) (Out.start n rs) rfl
  have hon : o < n := by
    obtain ⟨k1, k2, _⟩ := ok r (List.mem_of_getElem? e)
    have : o ≤ n := by rcases hr with ⟨_, b⟩ | ⟨_, b⟩ <;> omega
    have : o ≠ n := fun z => ho (z ▸ I.bu.pit)
    omega
  show decide (s.left o - 1 ≤ h o) = dT T i o (s.left o - 1)
  rw [hh o hon]
  by_cases c : dT T i o (s.left o - 1) = true
  · have gl := g.left o (by unfold Sd.hit; rw [if_pos c]; simp)
    have e2 : (hit (dT T) i o s).left o = s.left o - 1 := by
      unfold Sd.hit
      rw [if_pos c]
      exact fup_at _ _ _
    rw [c, decide_eq_true_eq]
    have gl : (heapRun n rs T).left o = (hit (dT T) i o s).left o := gl
    omega
  · have gl := g.lt o (by unfold Sd.hit; rw [if_neg c]; exact ho) (all o (Nat.le_of_lt hon))
    have e2 : (hit (dT T) i o s).left o = s.left o - 1 := by
      unfold Sd.hit
      rw [if_neg c]
      exact fup_at _ _ _
    have gl : (heapRun n rs T).left o < (hit (dT T) i o s).left o := gl
    have c : dT T i o (s.left o - 1) = false := by simpa using c
    rw [c, decide_eq_false_iff_not]
    omega
end
end Sd
namespace Sd
/-! ### what a set of roads joins to the pit, by rounds -/
section
variable {n : Nat} {rs : List Road} {T ks : List Nat} {k j : Nat} {r : Road}
def Cl8 (rs : List Road) (T : List Nat) (S : Nat → Prop) : Prop := ∀ j ∈ T, ∀ r, rs[j]? = some r → (S r.1 ↔ S r.2)
def Cn (n : Nat) (rs : List Road) (T : List Nat) : Prop := ∀ S : Nat → Prop, S n → Cl8 rs T S → ∀ k, k ≤ n → S k
def addk (ks : List Nat) (k : Nat) : List Nat := if k ∈ ks then ks else ks ++ [k]
theorem addk_mem {x : Nat} : x ∈ addk ks k ↔ x ∈ ks ∨ x = k := by
  unfold addk
  split
  · rename_i h
    exact ⟨.inl, fun z => z.elim id fun e => e ▸ h⟩
  · rw [List.mem_append, List.mem_singleton]
theorem addk_len : ks.length ≤ (addk ks k).length ∧ (k ∉ ks → ks.length + 1 = (addk ks k).length) := by
  unfold addk
  split
  · exact ⟨Nat.le_refl _, fun z => absurd (by assumption) z⟩
  · rw [List.length_append, List.length_singleton]
    exact ⟨by omega, fun _ => rfl⟩
theorem addk_nd (h : ks.Nodup) : (addk ks k).Nodup := by
  unfold addk
  split
  · exact h
  · exact nd_snoc h (by assumption)
structure Mt (n : Nat) (rs : List Road) (T ks : List Nat) : Prop where
  nd : ks.Nodup
  le : ∀ k ∈ ks, k ≤ n
  pit : n ∈ ks
  least : ∀ S : Nat → Prop, S n → Cl8 rs T S → ∀ k ∈ ks, S k
theorem Mt.start (n : Nat) (rs : List Road) (T : List Nat) : Mt n rs T [n] where
  nd := by simp
  le k hk := by have : k = n := by simpa using hk
                omega
  pit := by simp
  least S h1 _ k hk := by
    have : k = n := by simpa using hk
    rw [this]; exact h1
theorem Mt.add (M : Mt n rs T ks) (ok : ∀ r ∈ rs, r.1 ≤ n ∧ r.2 ≤ n ∧ r.1 ≠ r.2) (hj : j ∈ T) (e : rs[j]? = some r) (h : r.1 ∈ ks ∨ r.2 ∈ ks) : Mt n rs T (addk (addk ks r.1) r.2) where
  nd := addk_nd (addk_nd M.nd)
  le k hk := by
    obtain ⟨a, b, _⟩ := ok r (List.mem_of_getElem? e)
    rw [addk_mem, addk_mem] at hk
    rcases hk with (z | z) | z
    · exact M.le k z
    · omega
    · omega
  pit := by rw [addk_mem, addk_mem]; exact .inl (.inl M.pit)
  least S h1 h2 k hk := by
    have l := M.least S h1 h2
    have c := h2 j hj r e
    have both : S r.1 ∧ S r.2 := by
      rcases h with z | z
      · exact ⟨l _ z, c.mp (l _ z)⟩
      · exact ⟨c.mpr (l _ z), l _ z⟩
    rw [addk_mem, addk_mem] at hk
    rcases hk with (z | z) | z
    · exact l k z
    · rw [z]; exact both.1
    · rw [z]; exact both.2
theorem Mt.len (M : Mt n rs T ks) : ks.length ≤ n + 1 := nd_len (n + 1) ks M.nd fun x hx => by have := M.le x hx; omega
theorem Mt.full (M : Mt n rs T ks) (c : Cl8 rs T fun k => k ∈ ks) (h : Cn n rs T) : n + 1 ≤ ks.length :=
  full_len (n + 1) ks fun k hk => h (fun k => k ∈ ks) M.pit c k (by omega)
theorem Mt.conn (M : Mt n rs T ks) (l : ks.length = n + 1) : Cn n rs T := fun S h1 h2 k hk => by
  refine M.least S h1 h2 k ?_
  refine Decidable.byContradiction fun c => ?_
  have := nd_len (n + 1) (ks ++ [k]) (nd_snoc M.nd c) fun x hx => by
    rcases List.mem_append.mp hx with hx | hx
    · have := M.le x hx; omega
    · have : x = k := by simpa using hx
      omega
  rw [List.length_append, List.length_singleton] at this
  omega
theorem IsTree.cn (I : IsTree n rs T) : Cn n rs T := I.conn
/-- the round i, so far: one more is met, or what was looked at is closed -/
def Rd (rs : List Road) (pre ks : List Nat) (i : Nat) : Prop := i + 1 ≤ ks.length ∧ (i + 2 ≤ ks.length ∨ Cl8 rs pre fun k => k ∈ ks)
theorem Rd.step {pre : List Nat} {i : Nat} (h : Rd rs pre ks i) (e : rs[j]? = some r) : Rd rs (pre ++ [j]) (if r.1 ∈ ks ∨ r.2 ∈ ks then addk (addk ks r.1) r.2 else ks) i := by
  split
  · have l1 := addk_len (ks := ks) (k := r.1)
    have l2 := addk_len (ks := addk ks r.1) (k := r.2)
    refine ⟨by have := h.1; omega, ?_⟩
    by_cases c : r.1 ∈ ks ∧ r.2 ∈ ks
    · rcases h.2 with z | z
      · left; omega
      · right
        intro j' hj' r' e'
        have ee : addk (addk ks r.1) r.2 = ks := by
          have e1 : addk ks r.1 = ks := by unfold addk; rw [if_pos c.1]
          rw [e1]; unfold addk; rw [if_pos c.2]
        rw [ee]
        rcases List.mem_append.mp hj' with y | y
        · exact z j' y r' e'
        · have : j' = j := by simpa using y
          subst this
          rw [e] at e'
          cases e'
          exact ⟨fun _ => c.2, fun _ => c.1⟩
    · left
      have := h.1
      by_cases c1 : r.1 ∈ ks
      · have c2 : r.2 ∉ addk ks r.1 := by
          rw [addk_mem]
          intro z
          rcases z with z | z
          · exact c ⟨c1, z⟩
          · exact c ⟨c1, z ▸ c1⟩
        have := l2.2 c2
        omega
      · have := l1.2 c1
        omega
  · rename_i c
    refine ⟨h.1, h.2.imp id fun z j' hj' r' e' => ?_⟩
    rcases List.mem_append.mp hj' with y | y
    · exact z j' y r' e'
    · have : j' = j := by simpa using y
      subst this
      rw [e] at e'
      cases e'
      exact ⟨fun y => absurd (.inl y) c, fun y => absurd (.inr y) c⟩
end
end Sd
namespace Sd
/-! ### determinants, by expanding the last column; elimination in whole numbers -/
section
variable {n k m : Nat} {A B : Nat → Nat → Int}
theorem sm_ext {f g : Nat → Int} : ∀ n, (∀ i, i < n → f i = g i) → sm n f = sm n g
  | 0, _ => rfl
  | n + 1, h => by
    show sm n f + f n = sm n g + g n
    rw [sm_ext n fun i hi => h i (by omega), h n (by omega)]
theorem sm_z : ∀ n, sm n (fun _ => 0) = 0
  | 0 => rfl
  | n + 1 => by show sm n _ + 0 = 0; rw [sm_z n]; rfl
theorem sm_zero {f : Nat → Int} (n : Nat) (h : ∀ i, i < n → f i = 0) : sm n f = 0 := (sm_ext n h).trans (sm_z n)
theorem sm_plus (f g : Nat → Int) : ∀ n, sm n (fun i => f i + g i) = sm n f + sm n g
  | 0 => rfl
  | n + 1 => by
    show sm n _ + (f n + g n) = (sm n f + f n) + (sm n g + g n)
    rw [sm_plus f g n]; omega
theorem sm_scale (c : Int) (f : Nat → Int) : ∀ n, sm n (fun i => c * f i) = c * sm n f
  | 0 => by simp [sm]
  | n + 1 => by
    show sm n _ + c * f n = c * (sm n f + f n)
    rw [sm_scale c f n, Int.mul_add]
theorem sm_neg (f : Nat → Int) (n : Nat) : sm n (fun i => - f i) = - sm n f := by
  have := sm_scale (-1) f n
  rw [show (fun i => - f i) = fun i => (-1) * f i from funext fun i => by omega, this]; omega
theorem sm_comm (g : Nat → Nat → Int) (m : Nat) : ∀ n, sm n (fun a => sm m fun b => g a b) = sm m fun b => sm n fun a => g a b
  | 0 => (sm_z m).symm
  | n + 1 => by
    show sm n _ + sm m _ = sm m fun b => sm n (fun a => g a b) + g n b
    rw [sm_plus, sm_comm g m n]
def skp (l r : Nat) : Nat := if r < l then r else r + 1
def pos (a b : Nat) : Nat := if b < a then b else b - 1
def sgn (k : Nat) : Int := if k % 2 = 0 then 1 else -1
theorem pos_skp (a m : Nat) : pos a (skp a m) = m := by
  unfold pos skp
  by_cases h : m < a
  · rw [if_pos h, if_pos h]
  · rw [if_neg h, if_neg (by omega)]; omega
theorem sm_skp (g : Nat → Int) (a : Nat) : ∀ n, a ≤ n → sm n (fun m => g (skp a m)) = sm (n + 1) fun b => if b = a then 0 else g b
  | 0, h => by
    have : a = 0 := by omega
    subst this; rfl
  | n + 1, h => by
    by_cases c : a = n + 1
    · subst c
      show _ = sm (n + 1) _ + (if n + 1 = n + 1 then 0 else _)
      rw [if_pos rfl, Int.add_zero]
      refine sm_ext _ fun i hi => ?_
      rw [if_neg (by omega)]
      unfold skp; rw [if_pos hi]
    · show sm n _ + g (skp a n) = sm (n + 1) _ + (if n + 1 = a then 0 else g (n + 1))
      rw [sm_skp g a n (by omega), if_neg (fun z => c z.symm)]
      have : skp a n = n + 1 := by unfold skp; rw [if_neg (by omega)]
      rw [this]
def det : Nat → (Nat → Nat → Int) → Int
  | 0, _ => 1
  | k + 1, A => sm (k + 1) fun l => sgn (l + k) * A l k * det k fun r c => A (skp l r) c
theorem skp_lt {l r k : Nat} (h : r < k) : skp l r < k + 1 := by unfold skp; split <;> omega
theorem det_congr : ∀ (k : Nat) {A B : Nat → Nat → Int}, (∀ r c, r < k → c < k → A r c = B r c) → det k A = det k B
  | 0, _, _, _ => rfl
  | k + 1, A, B, h => by
    show sm (k + 1) _ = sm (k + 1) _
    refine sm_ext _ fun l hl => ?_
    rw [h l k hl (by omega), det_congr k fun r c hr hc => h (skp l r) c (skp_lt hr) (by omega)]
def rem2 (a b r : Nat) : Nat := if r < min a b then r else if r + 1 < max a b then r + 1 else r + 2
theorem rem2_comm (a b r : Nat) : rem2 a b r = rem2 b a r := by unfold rem2; rw [Nat.min_comm, Nat.max_comm]
theorem skp_skp (a m r : Nat) : skp a (skp m r) = rem2 a (skp a m) r := by
  unfold rem2 skp
  by_cases h : m < a
  · simp only [h, if_true]
    rw [Nat.min_eq_right (by omega), Nat.max_eq_left (by omega)]
    by_cases h1 : r < m
    · simp only [h1, if_true]; rw [if_pos (by omega)]
    · simp only [h1, if_false]
  · simp only [h, if_false]
    rw [Nat.min_eq_left (by omega), Nat.max_eq_right (by omega)]
    by_cases h1 : r < m
    · simp only [h1, if_true]
      by_cases h2 : r < a
      · simp only [h2, if_true]
      · simp only [h2, if_false]; rw [if_pos (by omega)]
    · simp only [h1, if_false]
      rw [if_neg (by omega), if_neg (by omega), if_neg (by omega)]
def sg2 (k a b : Nat) : Int := sgn (a + (k + 1)) * sgn (pos a b + k)
theorem sg2_anti {a b : Nat} (k : Nat) (h : a ≠ b) : sg2 k a b = - sg2 k b a := by
  unfold sg2 pos sgn
  by_cases c : b < a
  · rw [if_pos c, if_neg (show ¬ a < b by omega)]
    have e : a = (a - 1) + 1 := by omega
    rcases Nat.mod_two_eq_zero_or_one (a + (k + 1)) with h1 | h1 <;> rcases Nat.mod_two_eq_zero_or_one (b + k) with h2 | h2
    · rw [if_pos h1, if_pos h2, if_neg (by omega), if_pos (by omega)]; decide
    · rw [if_pos h1, if_neg (by omega), if_pos (by omega), if_pos (by omega)]; decide
    · rw [if_neg (by omega), if_pos h2, if_neg (by omega), if_neg (by omega)]; decide
    · rw [if_neg (by omega), if_neg (by omega), if_pos (by omega), if_neg (by omega)]; decide
  · rw [if_neg c, if_pos (show a < b by omega)]
    rcases Nat.mod_two_eq_zero_or_one (a + k) with h1 | h1 <;> rcases Nat.mod_two_eq_zero_or_one (b + (k + 1)) with h2 | h2
    · rw [if_neg (by omega), if_pos (by omega), if_pos h2, if_pos h1]; decide
    · rw [if_neg (by omega), if_neg (by omega), if_neg (by omega), if_pos h1]; decide
    · rw [if_pos (by omega), if_pos (by omega), if_pos h2, if_neg (by omega)]; decide
    · rw [if_pos (by omega), if_neg (by omega), if_neg (by omega), if_neg (by omega)]; decide
/-- expanding the last two columns -/
theorem det_two (k : Nat) (A : Nat → Nat → Int) : det (k + 2) A = sm (k + 2) fun a => sm (k + 2) fun b => if b = a then 0 else sg2 k a b * A a (k + 1) * A b k * det k fun r c => A (rem2 a b r) c := by
  show sm (k + 2) _ = _
  refine sm_ext _ fun a ha => ?_
  have e1 : det (k + 1) (fun r c => A (skp a r) c) = sm (k + 1) fun m => (fun b => sgn (pos a b + k) * A b k * det k fun r c => A (rem2 a b r) c) (skp a m) := by
    show sm (k + 1) _ = _
    refine sm_ext _ fun m hm => ?_
    dsimp only
    rw [pos_skp]
    congr 1
    refine det_congr k fun r c _ _ => ?_
    rw [skp_skp]
  have e2 := e1.trans (sm_skp (fun b => sgn (pos a b + k) * A b k * det k fun r c => A (rem2 a b r) c) a (k + 1) (by omega))
  rw [e2, ← sm_scale]
  refine sm_ext _ fun b hb => ?_
  split
  · simp
  · unfold sg2
    simp only [Int.mul_assoc, Int.mul_left_comm, Int.mul_comm]
def swp (k : Nat) (A : Nat → Nat → Int) : Nat → Nat → Int := fun r c => if c = k then A r (k + 1) else if c = k + 1 then A r k else A r c
theorem det_swap (k : Nat) (A : Nat → Nat → Int) : det (k + 2) (swp k A) = - det (k + 2) A := by
  rw [det_two, det_two, sm_comm, ← sm_neg]
  refine sm_ext _ fun a ha => ?_
  rw [← sm_neg]
  refine sm_ext _ fun b hb => ?_
  by_cases c : a = b
  · subst c; simp
  · rw [if_neg c, if_neg fun z => c z.symm]
    have e1 : swp k A b (k + 1) = A b k := by unfold swp; rw [if_neg (by omega), if_pos rfl]
    have e2 : swp k A a k = A a (k + 1) := by unfold swp; rw [if_pos rfl]
    have e3 : det k (fun r c => swp k A (rem2 b a r) c) = det k fun r c => A (rem2 a b r) c := det_congr k fun r c _ hc => by
      unfold swp
      rw [if_neg (by omega), if_neg (by omega), rem2_comm]
    rw [e1, e2, e3, sg2_anti k fun z => c z.symm]
    simp only [Int.neg_mul, Int.mul_neg, Int.mul_assoc, Int.mul_left_comm, Int.mul_comm]
/-- two like columns -/
theorem det_like : ∀ (k : Nat) (A : Nat → Nat → Int) (j : Nat), j < k → (∀ r, r < k + 1 → A r j = A r k) → det (k + 1) A = 0
  | 0, _, _, h, _ => by omega
  | k + 1, A, j, hj, h => by
    have sw := det_swap k A
    by_cases c : j = k
    · subst c
      have e : det (j + 2) (swp j A) = det (j + 2) A := det_congr _ fun r c hr hc => by
        unfold swp
        split
        · rename_i z; subst z; exact (h r hr).symm
        · split
          · rename_i z; subst z; exact h r hr
          · rfl
      show det (j + 2) A = 0
      omega
    · have e : det (k + 2) (swp k A) = 0 := by
        show sm (k + 2) _ = 0
        refine sm_zero _ fun l hl => ?_
        rw [det_like k (fun r c => swp k A (skp l r) c) j (by omega) fun r hr => ?_]
        · rw [Int.mul_zero]
        · show swp k A (skp l r) j = swp k A (skp l r) k
          unfold swp
          rw [if_neg (by omega), if_neg (by omega), if_pos rfl]
          exact h _ (skp_lt hr)
      show det (k + 2) A = 0
      omega
/-! Bareiss -/
def qq (A : Nat → Nat → Int) (k i j : Nat) : Int := det (k + 1) fun r c => A (if r = k then i else r) (if c = k then j else c)
def cc (A : Nat → Nat → Int) (k i l : Nat) : Int := sgn (l + k) * det k fun r c => A (if skp l r = k then i else skp l r) c
theorem sgn_two (k : Nat) : sgn (k + k) = 1 := by unfold sgn; rw [if_pos (by omega)]
theorem qq_row (A : Nat → Nat → Int) (k i j : Nat) : qq A k i j = sm k (fun l => cc A k i l * A l j) + det k A * A i j := by
  show sm k _ + _ = _
  congr 1
  · refine sm_ext _ fun l hl => ?_
    try dsimp only
    rw [if_neg (by omega), if_pos rfl]
    unfold cc
    rw [det_congr k (A := fun r c => A (if skp l r = k then i else skp l r) (if c = k then j else c)) (B := fun r c => A (if skp l r = k then i else skp l r) c) fun r c _ hc => by
      (try dsimp only); rw [if_neg (show ¬ c = k by omega)]]
    rw [Int.mul_right_comm]
  · try dsimp only
    rw [if_pos rfl, if_pos rfl, sgn_two, Int.one_mul, Int.mul_comm]
    congr 1
    refine det_congr k fun r c hr hc => ?_
    try dsimp only
    have e : skp k r = r := by unfold skp; rw [if_pos hr]
    rw [e, if_neg (by omega), if_neg (by omega)]
theorem qq_zero (A : Nat → Nat → Int) {k i j : Nat} (h : j < k) : qq A k i j = 0 := by
  refine det_like k _ j h fun r _ => ?_
  try dsimp only
  rw [if_neg (show ¬ j = k by omega), if_pos (rfl : k = k)]
theorem qq_diag (A : Nat → Nat → Int) (k : Nat) : qq A k k k = det (k + 1) A := by
  refine det_congr _ fun r c _ _ => ?_
  try dsimp only
  congr 1
  · split
    · rename_i z; exact z.symm
    · rfl
  · split
    · rename_i z; exact z.symm
    · rfl
theorem qq_start (A : Nat → Nat → Int) (i j : Nat) : qq A 0 i j = A i j := by
  rw [qq_row]
  show 0 + 1 * A i j = A i j
  omega
/-- the leading blocks have rows of which none is made by the others -/
def Lead (n : Nat) (A : Nat → Nat → Int) : Prop := ∀ k, k ≤ n → ∀ x : Nat → Int, (∀ j, j < k → sm k (fun l => x l * A l j) = 0) → ∀ l, l < k → x l = 0
theorem Lead.det_ne (L : Lead n A) : ∀ k, k ≤ n → det k A ≠ 0
  | 0, _ => by show (1 : Int) ≠ 0; decide
  | k + 1, hk => fun e => by
    refine L.det_ne k (by omega) ?_
    have := L (k + 1) hk (fun l => if l = k then det k A else cc A k k l) (fun j hj => ?_) k (by omega)
    · try dsimp only at this
      rw [if_pos rfl] at this
      exact this
    · have q : qq A k k j = 0 := by
        by_cases c : j = k
        · subst c; rw [qq_diag]; exact e
        · exact qq_zero A (by omega)
      rw [qq_row] at q
      show sm k _ + _ = 0
      try dsimp only
      rw [if_pos rfl, ← q]
      congr 1
      refine sm_ext _ fun l hl => ?_
      rw [if_neg (by omega)]
theorem Lead.step (L : Lead n A) {k i j : Nat} (hk : k < n) : det (k + 1) A * qq A k i j - qq A k k j * qq A k i k = det k A * qq A (k + 1) i j := by
  have key : ∀ j, det (k + 1) A * qq A k i j - qq A k k j * qq A k i k - det k A * qq A (k + 1) i j = sm (k + 1) fun l => (if l = k then - (qq A k i k * det k A) - det k A * cc A (k + 1) i l else det (k + 1) A * cc A k i l - qq A k i k * cc A k k l - det k A * cc A (k + 1) i l) * A l j := fun j => by
    have e : sm (k + 1) (fun l => (if l = k then - (qq A k i k * det k A) - det k A * cc A (k + 1) i l else det (k + 1) A * cc A k i l - qq A k i k * cc A k k l - det k A * cc A (k + 1) i l) * A l j)
        = det (k + 1) A * sm k (fun l => cc A k i l * A l j) - qq A k i k * sm k (fun l => cc A k k l * A l j) - det k A * sm k (fun l => cc A (k + 1) i l * A l j) + (- (qq A k i k * det k A) - det k A * cc A (k + 1) i k) * A k j := by
      show sm k _ + _ = _
      try dsimp only
      rw [if_pos rfl]
      congr 1
      rw [← sm_scale, ← sm_scale, ← sm_scale, Int.sub_eq_add_neg, Int.sub_eq_add_neg, ← sm_neg, ← sm_neg, ← sm_plus, ← sm_plus]
      refine sm_ext _ fun l hl => ?_
      rw [if_neg (by omega), Int.sub_mul, Int.sub_mul, Int.mul_assoc, Int.mul_assoc, Int.mul_assoc]
      omega
    rw [e, qq_row A k i j, qq_row A k k j, qq_row A (k + 1) i j]
    show _ - _ - det k A * (sm k _ + cc A (k + 1) i k * A k j + _) = _
    generalize sm k (fun l => cc A k i l * A l j) = s1
    generalize sm k (fun l => cc A k k l * A l j) = s2
    generalize sm k (fun l => cc A (k + 1) i l * A l j) = s3
    generalize qq A k i k = q
    generalize det (k + 1) A = d1
    generalize det k A = d
    generalize cc A (k + 1) i k = c
    simp only [Int.mul_add, Int.add_mul, Int.sub_mul, Int.neg_mul, Int.mul_assoc]
    have e1 : d * (d1 * A i j) = d1 * (d * A i j) := Int.mul_left_comm _ _ _
    have e2 : s2 * q = q * s2 := Int.mul_comm _ _
    have e3 : d * (A k j * q) = q * (d * A k j) := by rw [Int.mul_comm (A k j) q, Int.mul_left_comm]
    omega
  have z := L (k + 1) hk _ (fun j hj => ((key j).symm.trans (?_ : _ = (0 : Int))))
  · have := key j
    rw [sm_zero (k + 1) fun l hl => by rw [z l hl, Int.zero_mul]] at this
    omega
  · rw [qq_zero A (k := k + 1) hj, Int.mul_zero, Int.sub_zero]
    by_cases c : j = k
    · subst c
      rw [qq_diag]; omega
    · rw [qq_zero A (k := k) (by omega), qq_zero A (k := k) (by omega)]; simp
end
end Sd
namespace Sd
/-! ### the table of a net: its leading blocks -/
section
variable {n K : Nat} {rs : List Road}
theorem ds_swap (rs : List Road) (F : Nat → Nat → Int) : ds rs (fun a b => F b a) = ds rs F := by
  induction rs with
  | nil => rfl
  | cons r rs ih => simp only [ds, ih]; omega
/-- as Net.max, on the first K places -/
theorem Net.maxB (N : Net n rs) (hK : K ≤ n) {u : Nat → Int} (z : ∀ k, k ≤ n → ¬ k < K → u k ≤ 0) (hl : ∀ k, k < K → lap rs u k ≤ 0) : ∀ k, k ≤ n → u k ≤ 0 := by
  obtain ⟨m, hm, mx⟩ := exists_max n u
  suffices u m ≤ 0 from fun k hk => Int.le_trans (mx k hk) this
  refine Decidable.byContradiction fun posi => ?_
  have T : ∀ a, a < K → u a = u m → ∀ r ∈ rs, (r.1 = a → u r.2 = u m) ∧ (r.2 = a → u r.1 = u m) := by
    intro a ha ea r hr
    have nn : ∀ r ∈ rs, 0 ≤ (fun x y => if x = a then u x - u y else 0) r.1 r.2 ∧ 0 ≤ (fun x y => if x = a then u x - u y else 0) r.2 r.1 := by
      intro r hr
      have h := N.ok r hr
      have h1 := mx r.1 h.1
      have h2 := mx r.2 h.2.1
      (try dsimp only)
      constructor
      · split
        · rename_i e; rw [e, ea]; rw [e] at h1; omega
        · exact Int.le_refl _
      · split
        · rename_i e; rw [e, ea]; omega
        · exact Int.le_refl _
    have q := ds_zero_of nn (hl a ha) r hr
    (try dsimp only at q)
    constructor
    · intro e
      have := q.1; rw [if_pos e, e] at this; omega
    · intro e
      have := q.2; rw [if_pos e, e] at this; omega
  have inK : ∀ k, k ≤ n → u k = u m → k < K := fun k hk e => by
    refine Decidable.byContradiction fun c => ?_
    have := z k hk c
    omega
  have hmK := inK m hm rfl
  have key := N.conn (fun k => u k ≠ u m) (fun e => by have := inK n (Nat.le_refl _) e; omega) (fun r hr => by
    have h := N.ok r hr
    constructor
    · intro h1 h2
      exact h1 ((T r.2 (inK _ h.2.1 h2) h2 r hr).2 rfl)
    · intro h1 h2
      exact h1 ((T r.1 (inK _ h.1 h2) h2 r hr).1 rfl)) m (by omega)
  exact key rfl
/-- row k, column j: what a topple of j takes from k -/
def LA (n : Nat) (rs : List Road) (k j : Nat) : Int := lap rs (zr n (at1 j 1)) k
theorem LA_symm (N : Net n rs) {k j : Nat} (hk : k < n) (hj : j < n) : LA n rs k j = LA n rs j k := by
  unfold LA
  rw [lap_at1 hk hj N.ok, lap_at1 hj hk N.ok]
  by_cases c : k = j
  · subst c; rfl
  · rw [if_neg c, if_neg fun z => c z.symm]
    have := ds_swap rs fun a b => if a = k ∧ b = j then (1 : Int) else 0
    rw [← this]
    refine congrArg Neg.neg (ds_congr fun r _ => ?_)
    constructor <;> (try dsimp only) <;> simp only [and_comm]
theorem lap_sum (x : Nat → Int) (j : Nat) : ∀ K, K ≤ n → lap rs (fun i => if i < K then x i else 0) j = sm K fun l => x l * LA n rs j l
  | 0, _ => by
    show lap rs (fun i => if i < 0 then x i else 0) j = 0
    rw [show (fun i => if i < 0 then x i else 0) = fun _ => (0 : Int) from funext fun i => if_neg (Nat.not_lt_zero i), lap_zero]
  | K + 1, h => by
    have e : (fun i => if i < K + 1 then x i else 0) = fun i => (if i < K then x i else 0) + x K * zr n (at1 K 1) i := by
      funext i
      unfold zr at1
      by_cases c : i < K
      · rw [if_pos c, if_pos (by omega), if_pos (by omega), if_neg (by omega)]; omega
      · by_cases d : i = K
        · subst d; rw [if_pos (by omega), if_neg c, if_pos (by omega), if_pos rfl]; omega
        · rw [if_neg (by omega), if_neg c, if_neg d]
          split <;> omega
    rw [e, lap_add, lap_smul, lap_sum x j K (by omega)]
    rfl
theorem sum_lap (N : Net n rs) (x : Nat → Int) {j : Nat} (hj : j < n) (hK : K ≤ n) : sm K (fun l => x l * LA n rs l j) = lap rs (fun i => if i < K then x i else 0) j := by
  rw [lap_sum x j K hK]
  refine sm_ext K fun l hl => ?_
  rw [LA_symm N (by omega) hj]
theorem Net.lead (N : Net n rs) : Lead n (LA n rs) := by
  intro k hk x hx
  have h1 : ∀ j, j < k → lap rs (fun i => if i < k then x i else 0) j = 0 := fun j hj => by
    rw [← sum_lap N x (by omega) hk]; exact hx j hj
  have a := N.maxB hk (u := fun i => if i < k then x i else 0) (fun i _ hi => by (try dsimp only); rw [if_neg hi]; exact Int.le_refl _) fun j hj => by rw [h1 j hj]; exact Int.le_refl _
  have b := N.maxB hk (u := fun i => (-1) * if i < k then x i else 0) (fun i _ hi => by (try dsimp only); rw [if_neg hi]; decide) fun j hj => by rw [lap_smul, h1 j hj]; decide
  intro l hl
  have a := a l (by omega)
  have b := b l (by omega)
  (try dsimp only at a b)
  rw [if_pos hl] at a b
  omega
/-- the pivots are above nought -/
theorem Net.det_pos (N : Net n rs) : ∀ k, k ≤ n → 0 < det k (LA n rs)
  | 0, _ => by show (0 : Int) < 1; decide
  | k + 1, hk => by
    have ih := N.det_pos k (by omega)
    refine Decidable.byContradiction fun c => ?_
    have row : ∀ j, j ≤ k → lap rs (fun i => if i < k + 1 then (if i = k then det k (LA n rs) else cc (LA n rs) k k i) else 0) j = qq (LA n rs) k k j := fun j hj => by
      rw [← sum_lap N (fun i => if i = k then det k (LA n rs) else cc (LA n rs) k k i) (by omega) hk, qq_row]
      show sm k _ + _ = _
      dsimp only
      rw [if_pos rfl]
      congr 1
      refine sm_ext k fun l hl => ?_
      rw [if_neg (by omega)]
    have := N.maxB hk (u := fun i => if i < k + 1 then (if i = k then det k (LA n rs) else cc (LA n rs) k k i) else 0) (fun i _ hi => by (try dsimp only); rw [if_neg hi]; exact Int.le_refl _) (fun j hj => by
      rw [row j (by omega)]
      by_cases d : j = k
      · subst d; rw [qq_diag]; omega
      · rw [qq_zero _ (by omega)]; exact Int.le_refl _) k (by omega)
    (try dsimp only at this)
    rw [if_pos (by omega), if_pos rfl] at this
    omega
/-! the rows with what is to be come to: column n -/
def LB (n : Nat) (rs : List Road) (b : Nat → Int) (k j : Nat) : Int := if j = n then b k else LA n rs k j
theorem det_LB (b : Nat → Int) {k : Nat} (hk : k ≤ n) : det k (LB n rs b) = det k (LA n rs) := det_congr k fun r c _ hc => by
  unfold LB; rw [if_neg (by omega)]
theorem Net.leadB (N : Net n rs) (b : Nat → Int) : Lead n (LB n rs b) := fun k hk x hx => N.lead k hk x fun j hj => by
  rw [← hx j hj]
  refine sm_ext k fun l _ => ?_
  unfold LB; rw [if_neg (by omega)]
theorem Net.det_posB (N : Net n rs) (b : Nat → Int) {k : Nat} (hk : k ≤ n) : 0 < det k (LB n rs b) := by rw [det_LB b hk]; exact N.det_pos k hk
/-- one step of the elimination is exact -/
theorem Net.exact (N : Net n rs) (b : Nat → Int) {k i j : Nat} (hk : k < n) : (qq (LB n rs b) k i j * qq (LB n rs b) k k k - qq (LB n rs b) k k j * qq (LB n rs b) k i k) / det k (LB n rs b) = qq (LB n rs b) (k + 1) i j := by
  have := (N.leadB b).step (k := k) (i := i) (j := j) hk
  rw [qq_diag, Int.mul_comm (qq _ k i j), this]
  have := N.det_posB b (k := k) (by omega)
  exact Int.mul_ediv_cancel_left _ (by omega)
/-- the triangle's rows say the same as the rows, of times that are a solution -/
theorem tri_of (b u : Nat → Int) (h : ∀ i, i < n → sm n (fun j => LB n rs b i j * u j) = b i) {k i : Nat} (hk : k ≤ n) (hi : i < n) : sm n (fun j => qq (LB n rs b) k i j * u j) = qq (LB n rs b) k i n := by
  have e : sm n (fun j => qq (LB n rs b) k i j * u j) = sm k (fun l => cc (LB n rs b) k i l * sm n fun j => LB n rs b l j * u j) + det k (LB n rs b) * sm n fun j => LB n rs b i j * u j := by
    have : ∀ j, qq (LB n rs b) k i j * u j = sm k (fun l => cc (LB n rs b) k i l * (LB n rs b l j * u j)) + det k (LB n rs b) * (LB n rs b i j * u j) := fun j => by
      rw [qq_row, Int.add_mul, Int.mul_assoc, Int.mul_comm, ← sm_scale]
      congr 1
      refine sm_ext k fun l _ => ?_
      rw [Int.mul_comm, Int.mul_assoc]
    rw [sm_ext n fun j _ => this j, sm_plus, sm_scale, sm_comm]
    congr 1
    refine sm_ext k fun l _ => ?_
    rw [sm_scale]
  rw [e, qq_row, h i hi]
  have e2 : LB n rs b i n = b i := if_pos rfl
  rw [e2]
  congr 1
  refine sm_ext k fun l hl => ?_
  rw [h l (by omega)]
  have e3 : LB n rs b l n = b l := if_pos rfl
  rw [e3]
/-- what solves the triangle solves the rows -/
theorem of_tri (N : Net n rs) (b u : Nat → Int) (h : ∀ k, k < n → sm n (fun j => qq (LB n rs b) k k j * u j) = qq (LB n rs b) k k n) : ∀ i, i < n → sm n (fun j => LB n rs b i j * u j) = b i := by
  intro i
  induction i using Nat.strongRecOn with
  | _ i ih =>
    intro hi
    have e : sm n (fun j => qq (LB n rs b) i i j * u j) = sm i (fun l => cc (LB n rs b) i i l * sm n fun j => LB n rs b l j * u j) + det i (LB n rs b) * sm n fun j => LB n rs b i j * u j := by
      have : ∀ j, qq (LB n rs b) i i j * u j = sm i (fun l => cc (LB n rs b) i i l * (LB n rs b l j * u j)) + det i (LB n rs b) * (LB n rs b i j * u j) := fun j => by
        rw [qq_row, Int.add_mul, Int.mul_assoc, Int.mul_comm, ← sm_scale]
        congr 1
        refine sm_ext i fun l _ => ?_
        rw [Int.mul_comm, Int.mul_assoc]
      rw [sm_ext n fun j _ => this j, sm_plus, sm_scale, sm_comm]
      congr 1
      refine sm_ext i fun l _ => ?_
      rw [sm_scale]
    have t := h i hi
    rw [e, qq_row] at t
    have e2 : LB n rs b i n = b i := if_pos rfl
    have e4 : sm i (fun l => cc (LB n rs b) i i l * sm n fun j => LB n rs b l j * u j) = sm i fun l => cc (LB n rs b) i i l * LB n rs b l n := sm_ext i fun l hl => by
      rw [ih l hl (by omega)]
      have e3 : LB n rs b l n = b l := if_pos rfl
      rw [e3]
    rw [e4, e2] at t
    have t : det i (LB n rs b) * (sm n fun j => LB n rs b i j * u j) = det i (LB n rs b) * b i := by omega
    have := N.det_posB b (k := i) (by omega)
    exact Int.eq_of_mul_eq_mul_left (by omega) t
end
end Sd
namespace Sd
section
variable {n : Nat} {rs : List Road}
theorem natAbs_sm (f : Nat → Int) (C : Nat) : ∀ n, (∀ i, i < n → (f i).natAbs ≤ C) → (sm n f).natAbs ≤ n * C
  | 0, _ => Nat.zero_le _
  | n + 1, h => by
    have h1 := natAbs_sm f C n fun i hi => h i (by omega)
    have h2 := h n (by omega)
    have h3 := Int.natAbs_add_le (sm n f) (f n)
    show (sm n f + f n).natAbs ≤ _
    rw [Nat.add_mul, Nat.one_mul]
    omega
def bnd : Nat → Nat
  | 0 => 1
  | k + 1 => (k + 1) * (80 * bnd k)
theorem bnd_lt : ∀ k, k ≤ 7 → bnd k < 2 ^ 62
  | 0, _ => by decide
  | 1, _ => by decide
  | 2, _ => by decide
  | 3, _ => by decide
  | 4, _ => by decide
  | 5, _ => by decide
  | 6, _ => by decide
  | 7, _ => by decide
  | k + 8, h => by omega
theorem det_bound : ∀ (k : Nat) (A : Nat → Nat → Int), (∀ r c, r < k → c < k → (A r c).natAbs ≤ 80) → (det k A).natAbs ≤ bnd k
  | 0, _, _ => Nat.le_refl _
  | k + 1, A, h => by
    show (sm (k + 1) _).natAbs ≤ _
    refine natAbs_sm _ (80 * bnd k) (k + 1) fun l hl => ?_
    rw [Int.natAbs_mul, Int.natAbs_mul]
    have h1 : (sgn (l + k)).natAbs = 1 := by unfold sgn; split <;> rfl
    rw [h1, Nat.one_mul]
    exact Nat.mul_le_mul (h l k hl (by omega)) (det_bound k _ fun r c hr hc => h _ _ (skp_lt hr) (by omega))
theorem LA_bound (N : Net n rs) (hl : rs.length ≤ 40) {k j : Nat} (hk : k < n) (hj : j < n) : (LA n rs k j).natAbs ≤ 80 := by
  have d := deg_le rs k
  have d0 := deg_nn rs k
  unfold LA
  rw [lap_at1 hk hj N.ok]
  split
  · omega
  · have h1 := ds_le (rs := rs) (F := fun _ _ => 0) (G := fun a b => if a = k ∧ b = j then 1 else 0) fun r _ => by constructor <;> (try dsimp only) <;> split <;> omega
    rw [ds_zero] at h1
    have h2 : ds rs (fun a b => if a = k ∧ b = j then (1 : Int) else 0) ≤ deg rs k := ds_le fun r _ => by
      constructor <;> (try dsimp only)
      · by_cases c : r.1 = k <;> by_cases d : r.2 = j <;> simp [c, d]
      · by_cases c : r.2 = k <;> by_cases d : r.1 = j <;> simp [c, d]
    omega
theorem qq_bound (N : Net n rs) (hl : rs.length ≤ 40) (b : Nat → Int) {k i j : Nat} (hk : k < n) (hi : i < n) (hj : j < n) : (qq (LB n rs b) k i j).natAbs ≤ bnd (k + 1) := by
  refine det_bound (k + 1) _ fun r c hr hc => ?_
  have hr' : (if r = k then i else r) < n := by split <;> omega
  have hc' : (if c = k then j else c) < n := by split <;> omega
  show (LB n rs b (if r = k then i else r) (if c = k then j else c)).natAbs ≤ 80
  unfold LB
  rw [if_neg (by omega)]
  exact LA_bound N hl hr' hc'
theorem qq_small (N : Net n rs) (hl : rs.length ≤ 40) (hn : n ≤ 7) (b : Nat → Int) {k i j : Nat} (hk : k < n) (hi : i < n) (hj : j < n) : -(2 ^ 64) < qq (LB n rs b) k i j ∧ qq (LB n rs b) k i j < 2 ^ 64 := by
  have h1 := qq_bound N hl b hk hi hj
  have h2 := bnd_lt (k + 1) (by omega)
  omega
/-- the rows behind k steps of the elimination -/
def RR (n : Nat) (rs : List Road) (b : Nat → Int) (k i j : Nat) : Int := qq (LB n rs b) (min i k) i j
theorem sum_from (f : Nat → Int) (lo : Nat) : ∀ m, ((List.range m).map fun i => f (lo + i)).sum = sm (lo + m) f - sm lo f
  | 0 => by simp
  | m + 1 => by
    rw [List.range_succ, List.map_append, List.sum_append, sum_from f lo m]
    show _ + ([f (lo + m)] : List Int).sum = (sm (lo + m) f + f (lo + m)) - _
    simp
    omega
/-- in the triangle's row k nought stands ahead of column k -/
theorem tri_sum (b u : Nat → Int) {k : Nat} (hk : k < n) : sm n (fun j => qq (LB n rs b) k k j * u j) = qq (LB n rs b) k k k * u k + ((List.range (n - (k + 1))).map fun i => qq (LB n rs b) k k (k + 1 + i) * u (k + 1 + i)).sum := by
  have h := sum_from (fun j => qq (LB n rs b) k k j * u j) (k + 1) (n - (k + 1))
  have e : k + 1 + (n - (k + 1)) = n := by omega
  rw [e] at h
  rw [h]
  have z : sm k (fun j => qq (LB n rs b) k k j * u j) = 0 := sm_zero k fun j hj => by rw [qq_zero _ hj, Int.zero_mul]
  show _ = _ + (sm n _ - (sm k _ + qq (LB n rs b) k k k * u k))
  rw [z]; omega
/-- a solution of the rows is what was asked -/
theorem sol_iff (N : Net n rs) (h g u : Nat → Int) : (∀ k, k < n → g k = mv n rs h u k) ↔ ∀ i, i < n → sm n (fun j => LB n rs (fun k => h k - g k) i j * u j) = h i - g i := by
  have key : ∀ i, i < n → sm n (fun j => LB n rs (fun k => h k - g k) i j * u j) = lap rs (zr n u) i := fun i hi => by
    have e := lap_sum (n := n) (rs := rs) u i n (Nat.le_refl _)
    have e2 : (fun i => if i < n then u i else 0) = zr n u := rfl
    rw [e2] at e
    rw [e]
    refine sm_ext n fun j hj => ?_
    unfold LB
    rw [if_neg (by omega), LA_symm N hi hj, Int.mul_comm]
  constructor
  · intro z i hi
    have := z i hi
    unfold mv at this
    rw [key i hi]; omega
  · intro z i hi
    have := z i hi
    rw [key i hi] at this
    unfold mv; omega
end
end Sd
namespace Sd
/-! ### elimination in place: what stands where; how great it is -/
section
variable {n : Nat} {rs : List Road}
def sN : Nat → (Nat → Nat) → Nat
  | 0, _ => 0
  | k + 1, f => sN k f + f k
def pN : Nat → (Nat → Nat) → Nat
  | 0, _ => 1
  | k + 1, f => pN k f * f k
theorem sN_le {f g : Nat → Nat} : ∀ n, (∀ i, i < n → f i ≤ g i) → sN n f ≤ sN n g
  | 0, _ => Nat.le_refl _
  | n + 1, h => Nat.add_le_add (sN_le n fun i hi => h i (by omega)) (h n (by omega))
theorem sN_mul (f : Nat → Nat) (c : Nat) : ∀ n, sN n (fun i => f i * c) = sN n f * c
  | 0 => by simp [sN]
  | n + 1 => by
    show sN n _ + f n * c = (sN n f + f n) * c
    rw [sN_mul f c n, Nat.add_mul]
theorem sN_up {f : Nat → Nat} {k n : Nat} (h : k ≤ n) : sN k f ≤ sN n f := by
  induction n with
  | zero => rw [show k = 0 by omega]; exact Nat.le_refl _
  | succ n ih =>
    by_cases c : k = n + 1
    · subst c; exact Nat.le_refl _
    · exact Nat.le_trans (ih (by omega)) (Nat.le_add_right _ _)
theorem sN_skp (f : Nat → Nat) (l : Nat) : ∀ k, l ≤ k → sN k (fun r => f (skp l r)) ≤ sN (k + 1) f
  | 0, _ => Nat.zero_le _
  | k + 1, h => by
    by_cases c : l = k + 1
    · subst c
      refine Nat.le_trans (sN_le (g := f) (k + 1) fun i hi => ?_) (sN_up (by omega))
      unfold skp; rw [if_pos hi]; exact Nat.le_refl _
    · have ih := sN_skp f l k (by omega)
      show sN k _ + f (skp l k) ≤ sN (k + 1) f + f (k + 1)
      have : skp l k = k + 1 := by unfold skp; rw [if_neg (by omega)]
      rw [this]; omega
theorem sN_pick (f : Nat → Nat) {k i : Nat} (h : k ≤ i) : ∀ n, i < n → sN k f + f i ≤ sN n f
  | 0, hi => by omega
  | n + 1, hi => by
    by_cases c : i = n
    · subst c
      exact Nat.add_le_add_right (sN_up h) _
    · exact Nat.le_trans (sN_pick f h n (by omega)) (Nat.le_add_right _ _)
theorem natAbs_sN (f : Nat → Int) : ∀ n, (sm n f).natAbs ≤ sN n fun i => (f i).natAbs
  | 0 => Nat.le_refl _
  | n + 1 => by
    have h1 := natAbs_sN f n
    have h3 := Int.natAbs_add_le (sm n f) (f n)
    show (sm n f + f n).natAbs ≤ sN n (fun i => (f i).natAbs) + (f n).natAbs
    omega
/-- no determinant is greater than the columns' sums put to one another -/
theorem det_cols : ∀ (k : Nat) (A : Nat → Nat → Int) (C : Nat → Nat), (∀ c, c < k → sN k (fun r => (A r c).natAbs) ≤ C c) → (det k A).natAbs ≤ pN k C
  | 0, _, _, _ => Nat.le_refl _
  | k + 1, A, C, h => by
    have step : (det (k + 1) A).natAbs ≤ sN (k + 1) fun l => (A l k).natAbs * pN k C := by
      refine Nat.le_trans (natAbs_sN _ (k + 1)) (sN_le (k + 1) fun l hl => ?_)
      rw [Int.natAbs_mul, Int.natAbs_mul]
      have h1 : (sgn (l + k)).natAbs = 1 := by unfold sgn; split <;> rfl
      rw [h1, Nat.one_mul]
      refine Nat.mul_le_mul_left _ (det_cols k _ C fun c hc => ?_)
      exact Nat.le_trans (sN_skp (fun r => (A r c).natAbs) l k (by omega)) (h c (by omega))
    rw [sN_mul] at step
    refine Nat.le_trans step ?_
    show _ ≤ pN k C * C k
    rw [Nat.mul_comm]
    exact Nat.mul_le_mul_left _ (h k (by omega))
theorem pow_tab : ∀ x : Nat, x < 161 → x ^ 11 ≤ 2 ^ (x + 30) := by decide +kernel
theorem pN_pow (f : Nat → Nat) : ∀ n, (∀ i, i < n → f i ≤ 160) → pN n f ^ 11 ≤ 2 ^ (sN n f + 30 * n)
  | 0, _ => by
    show 1 ^ 11 ≤ 2 ^ (0 + 30 * 0)
    decide
  | n + 1, h => by
    have h1 := pN_pow f n fun i hi => h i (by omega)
    have h2 := pow_tab (f n) (by have := h n (by omega); omega)
    show (pN n f * f n) ^ 11 ≤ 2 ^ (sN n f + f n + 30 * (n + 1))
    rw [Nat.mul_pow, show sN n f + f n + 30 * (n + 1) = (sN n f + 30 * n) + (f n + 30) by omega, Nat.pow_add]
    exact Nat.mul_le_mul h1 h2
theorem pN_small (f : Nat → Nat) {n : Nat} (hn : n ≤ 10) (hs : sN n f ≤ 160) (h : ∀ i, i < n → f i ≤ 160) : pN n f < 2 ^ 42 := by
  have h1 := pN_pow f n h
  obtain ⟨e, he⟩ : ∃ e : Nat, e = 460 := ⟨_, rfl⟩
  have h2 : pN n f ^ 11 ≤ 2 ^ e := Nat.le_trans h1 (Nat.pow_le_pow_right (by decide) (by omega))
  refine Decidable.byContradiction fun c => ?_
  have h3 : (2 ^ 42) ^ 11 ≤ pN n f ^ 11 := Nat.pow_le_pow_left (Nat.le_of_not_lt c) 11
  obtain ⟨e', he'⟩ : ∃ e : Nat, e = 42 * 11 := ⟨_, rfl⟩
  rw [← Nat.pow_mul, ← he'] at h3
  have h4 : (2 : Nat) ^ e < 2 ^ e' := Nat.pow_lt_pow_right (by decide) (by omega)
  exact absurd (Nat.lt_of_lt_of_le h4 h3) (Nat.not_lt.mpr h2)
theorem sN_int (f : Nat → Nat) : ∀ n, ((sN n f : Nat) : Int) = sm n fun i => (f i : Int)
  | 0 => rfl
  | n + 1 => by
    show ((sN n f + f n : Nat) : Int) = sm n _ + _
    rw [Int.natCast_add, sN_int f n]
theorem sm_leI {f g : Nat → Int} : ∀ n, (∀ i, i < n → f i ≤ g i) → sm n f ≤ sm n g
  | 0, _ => Int.le_refl _
  | n + 1, h => by
    have h1 := sm_leI n fun i hi => h i (show i < n + 1 by omega)
    have h2 := h n (by omega)
    show sm n f + f n ≤ sm n g + g n
    omega
theorem sm_ds (F : Nat → Nat → Nat → Int) : ∀ (rs : List Road) n, sm n (fun k => ds rs (F k)) = ds rs fun a b => sm n fun k => F k a b
  | [], n => sm_z n
  | r :: rs, n => by
    have ih := sm_ds F rs n
    show sm n (fun k => ds rs (F k) + (F k r.1 r.2 + F k r.2 r.1)) = ds rs _ + _
    rw [sm_plus, sm_plus, ih]
theorem sm_pick {p : Nat → Prop} [DecidablePred p] (c : Int) (hc : 0 ≤ c) (u : ∀ i j, p i → p j → i = j) : ∀ n, sm n (fun i => if p i then c else 0) ≤ c ∧ (0 < sm n (fun i => if p i then c else 0) → ∃ i, i < n ∧ p i)
  | 0 => ⟨hc, fun z => absurd z (by show ¬ (0 : Int) < 0; omega)⟩
  | n + 1 => by
    obtain ⟨h1, h2⟩ := sm_pick c hc u n
    show sm n _ + (if p n then c else 0) ≤ c ∧ (0 < sm n _ + (if p n then c else 0) → _)
    by_cases z : p n
    · rw [if_pos z]
      refine ⟨?_, fun _ => ⟨n, by omega, z⟩⟩
      refine Decidable.byContradiction fun y => ?_
      obtain ⟨i, hi, hp⟩ := h2 (by omega)
      have := u i n hp z
      omega
    · rw [if_neg z]
      refine ⟨by omega, fun y => ?_⟩
      obtain ⟨i, hi, hp⟩ := h2 (by omega)
      exact ⟨i, by omega, hp⟩
/-- a column of the table -/
theorem LA_col (N : Net n rs) {c : Nat} (hc : c < n) : ((sN n (fun r => (LA n rs r c).natAbs) : Nat) : Int) ≤ 2 * deg rs c := by
  rw [sN_int]
  have d0 := deg_nn rs c
  have key : ∀ r, r < n → (((LA n rs r c).natAbs : Nat) : Int) ≤ (if r = c then deg rs c else 0) + ds rs fun a b => if a = r ∧ b = c then 1 else 0 := fun r hr => by
    have h0 := ds_le (rs := rs) (F := fun _ _ => 0) (G := fun a b => if a = r ∧ b = c then 1 else 0) fun r _ => by constructor <;> (try dsimp only) <;> split <;> omega
    rw [ds_zero] at h0
    unfold LA
    rw [lap_at1 hr hc N.ok]
    split
    · rename_i e; subst e; omega
    · omega
  refine Int.le_trans (sm_leI n key) ?_
  rw [sm_plus, sm_ds]
  have h1 := (sm_pick (p := fun r => r = c) (deg rs c) d0 (fun i j a b => a.trans b.symm) n).1
  have h2 : ds rs (fun a b => sm n fun k => if a = k ∧ b = c then (1 : Int) else 0) ≤ deg rs c := by
    have e : deg rs c = ds rs fun a b => if b = c then (1 : Int) else 0 := by
      unfold deg
      rw [← ds_swap rs fun a b => if b = c then (1 : Int) else 0]
    rw [e]
    refine ds_le fun r _ => ?_
    have one : ∀ a b : Nat, sm n (fun k => if a = k ∧ b = c then (1 : Int) else 0) ≤ if b = c then 1 else 0 := fun a b => by
      by_cases z : b = c
      · rw [if_pos z]
        exact (sm_pick (p := fun k => a = k ∧ b = c) 1 (by decide) (fun i j x y => x.1.symm.trans y.1) n).1
      · rw [if_neg z, sm_zero n fun i _ => if_neg fun y => z y.2]
        exact Int.le_refl _
    exact ⟨one _ _, one _ _⟩
  omega
theorem deg_sum (rs : List Road) (n : Nat) : sm n (deg rs) ≤ 2 * rs.length := by
  have e : sm n (deg rs) = ds rs fun a b => sm n fun k => if a = k then 1 else 0 := sm_ds (fun k a _ => if a = k then 1 else 0) rs n
  rw [e]
  have h : ds rs (fun a b => sm n fun k => if a = k then (1 : Int) else 0) ≤ ds rs fun _ _ => 1 := ds_le fun r _ => by
    have one : ∀ a : Nat, sm n (fun k => if a = k then (1 : Int) else 0) ≤ 1 := fun a => (sm_pick (p := fun k => a = k) 1 (by decide) (fun i j x y => x.symm.trans y) n).1
    exact ⟨one _, one _⟩
  have e2 : ds rs (fun _ _ => (1 : Int)) = 2 * rs.length := by
    clear h e
    induction rs with
    | nil => rfl
    | cons r rs ih => simp only [ds, ih, List.length_cons]; omega
  omega
theorem qq_less (N : Net n rs) (hl : rs.length ≤ 40) (hn : n ≤ 10) {k i j : Nat} (hi : i < n) (hj : j < n) (ki : k ≤ i) (kj : k ≤ j) : (qq (LA n rs) k i j).natAbs < 2 ^ 42 := by
  have C : ∀ c, c < n → sN n (fun r => (LA n rs r c).natAbs) ≤ (2 * deg rs c).toNat := fun c hc => by
    have := LA_col N hc
    omega
  have b := det_cols (k + 1) (fun r c => LA n rs (if r = k then i else r) (if c = k then j else c)) (fun c => (2 * deg rs (if c = k then j else c)).toNat) fun c hc => by
    have hc' : (if c = k then j else c) < n := by split <;> omega
    refine Nat.le_trans ?_ (C _ hc')
    have p := sN_pick (fun r => (LA n rs r (if c = k then j else c)).natAbs) ki n hi
    refine Nat.le_trans (Nat.le_of_eq ?_) p
    show sN k _ + _ = _
    congr 1
    · refine Nat.le_antisymm (sN_le k fun r hr => ?_) (sN_le k fun r hr => ?_) <;> ((try dsimp only); rw [if_neg (show ¬ r = k by omega)]; exact Nat.le_refl _)
    · (try dsimp only); rw [if_pos rfl]
  have ds := deg_sum rs n
  have sB : sN n (fun c => (2 * deg rs c).toNat) ≤ 160 := by
    have e := sN_int (fun c => (2 * deg rs c).toNat) n
    have e2 : sm n (fun i => (((2 * deg rs i).toNat : Nat) : Int)) = 2 * sm n (deg rs) := by
      rw [← sm_scale]
      refine sm_ext n fun i _ => ?_
      have := deg_nn rs i
      omega
    rw [e2] at e
    omega
  have sC : sN (k + 1) (fun c => (2 * deg rs (if c = k then j else c)).toNat) ≤ 160 := by
    have p := sN_pick (fun c => (2 * deg rs c).toNat) kj n hj
    refine Nat.le_trans (Nat.le_of_eq ?_) (Nat.le_trans p sB)
    show sN k _ + _ = _
    congr 1
    · refine Nat.le_antisymm (sN_le k fun r hr => ?_) (sN_le k fun r hr => ?_) <;> ((try dsimp only); rw [if_neg (show ¬ r = k by omega)]; exact Nat.le_refl _)
    · (try dsimp only); rw [if_pos rfl]
  refine Nat.lt_of_le_of_lt b (pN_small _ (by omega) sC fun c hc => ?_)
  have h1 := sN_pick (fun c => (2 * deg rs (if c = k then j else c)).toNat) (k := 0) (i := c) (Nat.zero_le _) (k + 1) hc
  have h0 : sN 0 (fun c => (2 * deg rs (if c = k then j else c)).toNat) = 0 := rfl
  omega
theorem Net.exactA (N : Net n rs) {k i j : Nat} (hk : k < n) : (qq (LA n rs) k i j * qq (LA n rs) k k k - qq (LA n rs) k i k * qq (LA n rs) k k j) / det k (LA n rs) = qq (LA n rs) (k + 1) i j := by
  have := N.lead.step (k := k) (i := i) (j := j) hk
  rw [qq_diag, Int.mul_comm (qq _ k i j), Int.mul_comm (qq _ k i k), this]
  have := N.det_pos k (by omega)
  exact Int.mul_ediv_cancel_left _ (by omega)
/-- what stands at i, j behind k steps in place -/
def R3 (n : Nat) (rs : List Road) (k i j : Nat) : Int := qq (LA n rs) (min (min i j) k) i j
/-- places that come to one another alone: no net -/
theorem cut_off {S : Nat → Prop} (hn : ¬ S n) {l : Nat} (hl : l < n) (hS : S l) (h : ∀ r ∈ rs, S r.1 ↔ S r.2) : ¬ Net n rs := fun N =>
  N.conn (fun k => ¬ S k) hn (fun r hr => not_congr (h r hr)) l hl hS
end
/-! a tree found by rounds over all roads -/
section
variable {n : Nat} {rs : List Road} {T T' ks : List Nat} {j : Nat} {r : Road}
theorem Mt.mono (M : Mt n rs T ks) (h : ∀ j ∈ T, j ∈ T') : Mt n rs T' ks := ⟨M.nd, M.le, M.pit, fun S h1 h2 => M.least S h1 fun j hj => h2 j (h j hj)⟩
structure Tk (n : Nat) (rs : List Road) (T ks : List Nat) : Prop where
  m : Mt n rs T ks
  nd : T.Nodup
  len : T.length + 1 = ks.length
  inn : ∀ j ∈ T, ∃ r, rs[j]? = some r ∧ r.1 ∈ ks ∧ r.2 ∈ ks
theorem Tk.start (n : Nat) (rs : List Road) : Tk n rs [] [n] := ⟨Mt.start n rs [], List.nodup_nil, rfl, fun j hj => by cases hj⟩
theorem Tk.lt (K : Tk n rs T ks) : ∀ j ∈ T, j < rs.length := fun j hj => by
  obtain ⟨r, h, _⟩ := K.inn j hj
  exact (List.getElem?_eq_some_iff.mp h).1
theorem Tk.step (K : Tk n rs T ks) (ok : ∀ r ∈ rs, r.1 ≤ n ∧ r.2 ≤ n ∧ r.1 ≠ r.2) (e : rs[j]? = some r) (h : (r.1 ∈ ks ∧ r.2 ∉ ks) ∨ (r.1 ∉ ks ∧ r.2 ∈ ks)) : Tk n rs (T ++ [j]) (addk (addk ks r.1) r.2) where
  m := (K.m.mono fun j hj => List.mem_append_left _ hj).add ok (List.mem_append_right _ (List.mem_singleton.mpr rfl)) e (h.imp (fun z => z.1) fun z => z.2)
  nd := nd_snoc K.nd fun z => by
    obtain ⟨r', h1, h2, h3⟩ := K.inn j z
    rw [e] at h1
    cases h1
    rcases h with y | y
    · exact y.2 h3
    · exact y.1 h2
  len := by
    rw [List.length_append, List.length_singleton, K.len]
    rcases h with y | y
    · have e1 : addk ks r.1 = ks := by unfold addk; rw [if_pos y.1]
      rw [e1]
      exact (addk_len (ks := ks) (k := r.2)).2 y.2
    · have e1 : addk (addk ks r.1) r.2 = addk ks r.1 := by
        have : r.2 ∈ addk ks r.1 := addk_mem.mpr (.inl y.2)
        unfold addk at this ⊢
        rw [if_pos this]
      rw [e1]
      exact (addk_len (ks := ks) (k := r.1)).2 y.1
  inn i hi := by
    have up : ∀ x, x ∈ ks → x ∈ addk (addk ks r.1) r.2 := fun x hx => addk_mem.mpr (.inl (addk_mem.mpr (.inl hx)))
    rcases List.mem_append.mp hi with z | z
    · obtain ⟨r', h1, h2, h3⟩ := K.inn i z
      exact ⟨r', h1, up _ h2, up _ h3⟩
    · have : i = j := by simpa using z
      subst this
      exact ⟨r, e, addk_mem.mpr (.inl (addk_mem.mpr (.inr rfl))), addk_mem.mpr (.inr rfl)⟩
theorem Tk.all (K : Tk n rs T ks) : Mt n rs (List.range rs.length) ks := K.m.mono fun j hj => List.mem_range.mpr (K.lt j hj)
theorem Net.cnA (N : Net n rs) : Cn n rs (List.range rs.length) := fun S h1 h2 k hk => by
  by_cases c : k = n
  · rw [c]; exact h1
  · refine N.conn S h1 (fun r hr => ?_) k (by omega)
    obtain ⟨j, hj⟩ := List.getElem?_of_mem hr
    exact h2 j (List.mem_range.mpr (List.getElem?_eq_some_iff.mp hj).1) r hj
theorem Tk.tree (K : Tk n rs T ks) (h : n + 1 ≤ ks.length) : IsTree n rs T := by
  have l := K.m.len
  have := K.len
  exact ⟨K.nd, by omega, K.lt, K.m.conn (by omega)⟩
end
end Sd
namespace Sd
/-! ### expanding by the first row; what it is behind steps of the elimination -/
def ex : Nat → (Nat → Nat → Int) → Int
  | 0, _ => 1
  | m + 1, B => sm (m + 1) fun k => sgn k * B 0 k * ex m fun r c => B (r + 1) (skp k c)
section
variable {B : Nat → Nat → Int}
theorem ex_one : ex 1 B = B 0 0 := by
  simp [ex, sm, sgn]
theorem ex_two : ex 2 B = B 0 0 * B 1 1 - B 0 1 * B 1 0 := by
  simp [ex, sm, sgn, skp]
  grind
theorem ex_three : ex 3 B = B 0 0 * (B 1 1 * B 2 2 - B 1 2 * B 2 1) - B 0 1 * (B 1 0 * B 2 2 - B 1 2 * B 2 0) + B 0 2 * (B 1 0 * B 2 1 - B 1 1 * B 2 0) := by
  simp [ex, sm, sgn, skp]
  grind
theorem ex_four : ex 4 B = B 0 0 * (B 1 1 * (B 2 2 * B 3 3 - B 2 3 * B 3 2) - B 1 2 * (B 2 1 * B 3 3 - B 2 3 * B 3 1) + B 1 3 * (B 2 1 * B 3 2 - B 2 2 * B 3 1))
    - B 0 1 * (B 1 0 * (B 2 2 * B 3 3 - B 2 3 * B 3 2) - B 1 2 * (B 2 0 * B 3 3 - B 2 3 * B 3 0) + B 1 3 * (B 2 0 * B 3 2 - B 2 2 * B 3 0))
    + B 0 2 * (B 1 0 * (B 2 1 * B 3 3 - B 2 3 * B 3 1) - B 1 1 * (B 2 0 * B 3 3 - B 2 3 * B 3 0) + B 1 3 * (B 2 0 * B 3 1 - B 2 1 * B 3 0))
    - B 0 3 * (B 1 0 * (B 2 1 * B 3 2 - B 2 2 * B 3 1) - B 1 1 * (B 2 0 * B 3 2 - B 2 2 * B 3 0) + B 1 2 * (B 2 0 * B 3 1 - B 2 1 * B 3 0)) := by
  simp [ex, sm, sgn, skp]
  grind
theorem ex_congr : ∀ (m : Nat) {A B : Nat → Nat → Int}, (∀ i j, i < m → j < m → A i j = B i j) → ex m A = ex m B
  | 0, _, _, _ => rfl
  | m + 1, A, B, h => by
    show sm (m + 1) _ = sm (m + 1) _
    refine sm_ext _ fun k hk => ?_
    rw [h 0 k (by omega) hk, ex_congr m fun r c hr hc => h (r + 1) (skp k c) (by omega) (skp_lt hc)]
end
section
variable {n k m : Nat} {A : Nat → Nat → Int}
theorem syl_one (A : Nat → Nat → Int) (k : Nat) : ex 1 (fun i j => qq A k (k + i) (k + j)) = det (k + 1) A := by
  rw [ex_one]
  exact qq_diag A k
theorem Lead.syl_two (L : Lead n A) (h : k + 2 ≤ n) : ex 2 (fun i j => qq A k (k + i) (k + j)) = det k A * det (k + 2) A := by
  rw [ex_two]
  have := L.step (k := k) (i := k + 1) (j := k + 1) (by omega)
  rw [← qq_diag A k, qq_diag A (k + 1)] at this
  rw [← this]
  rfl
theorem Lead.syl_three (L : Lead n A) (h : k + 3 ≤ n) : ex 3 (fun i j => qq A k (k + i) (k + j)) = det k A ^ 2 * det (k + 3) A := by
  have s2 := L.syl_two (k := k + 1) (by omega)
  rw [ex_two] at s2
  rw [ex_three]
  have st : ∀ i j, det (k + 1) A * qq A k i j - qq A k k j * qq A k i k = det k A * qq A (k + 1) i j := fun i j => L.step (by omega)
  have h11 := st (k + 1) (k + 1)
  have h12 := st (k + 1) (k + 2)
  have h21 := st (k + 2) (k + 1)
  have h22 := st (k + 2) (k + 2)
  have h0 : qq A k k k = det (k + 1) A := qq_diag A k
  have nz := L.det_ne (k + 1) (by omega)
  simp only [Nat.add_zero, Nat.add_assoc, Nat.reduceAdd] at s2 ⊢
  rw [h0]
  generalize qq A k (k + 1) (k + 1) = a11 at *
  generalize qq A k (k + 1) (k + 2) = a12 at *
  generalize qq A k (k + 2) (k + 1) = a21 at *
  generalize qq A k (k + 2) (k + 2) = a22 at *
  generalize qq A k k (k + 1) = a01 at *
  generalize qq A k k (k + 2) = a02 at *
  generalize qq A k (k + 1) k = a10 at *
  generalize qq A k (k + 2) k = a20 at *
  generalize qq A (k + 1) (k + 1) (k + 1) = c11 at *
  generalize qq A (k + 1) (k + 1) (k + 2) = c12 at *
  generalize qq A (k + 1) (k + 2) (k + 1) = c21 at *
  generalize qq A (k + 1) (k + 2) (k + 2) = c22 at *
  generalize det (k + 1) A = d1 at *
  generalize det k A = d at *
  generalize det (k + 3) A = d3 at *
  refine Int.eq_of_mul_eq_mul_left nz ?_
  have P : d1 * (d1 * (a11 * a22 - a12 * a21) - a01 * (a10 * a22 - a12 * a20) + a02 * (a10 * a21 - a11 * a20)) = (d1 * a11 - a01 * a10) * (d1 * a22 - a02 * a20) - (d1 * a12 - a02 * a10) * (d1 * a21 - a01 * a20) := by grind
  rw [P, h11, h12, h21, h22]
  have : d * c11 * (d * c22) - d * c12 * (d * c21) = d ^ 2 * (c11 * c22 - c12 * c21) := by grind
  rw [this, s2]
  grind
theorem Lead.syl_four (L : Lead n A) (h : k + 4 ≤ n) : ex 4 (fun i j => qq A k (k + i) (k + j)) = det k A ^ 3 * det (k + 4) A := by
  have s3 := L.syl_three (k := k + 1) (by omega)
  rw [ex_three] at s3
  rw [ex_four]
  have st : ∀ i j, det (k + 1) A * qq A k i j - qq A k k j * qq A k i k = det k A * qq A (k + 1) i j := fun i j => L.step (by omega)
  have h11 := st (k + 1) (k + 1)
  have h12 := st (k + 1) (k + 2)
  have h13 := st (k + 1) (k + 3)
  have h21 := st (k + 2) (k + 1)
  have h22 := st (k + 2) (k + 2)
  have h23 := st (k + 2) (k + 3)
  have h31 := st (k + 3) (k + 1)
  have h32 := st (k + 3) (k + 2)
  have h33 := st (k + 3) (k + 3)
  have h0 : qq A k k k = det (k + 1) A := qq_diag A k
  have nz := L.det_ne (k + 1) (by omega)
  simp only [Nat.add_zero, Nat.add_assoc, Nat.reduceAdd] at s3 ⊢
  rw [h0]
  generalize qq A k (k + 1) (k + 1) = a11 at *
  generalize qq A k (k + 1) (k + 2) = a12 at *
  generalize qq A k (k + 1) (k + 3) = a13 at *
  generalize qq A k (k + 2) (k + 1) = a21 at *
  generalize qq A k (k + 2) (k + 2) = a22 at *
  generalize qq A k (k + 2) (k + 3) = a23 at *
  generalize qq A k (k + 3) (k + 1) = a31 at *
  generalize qq A k (k + 3) (k + 2) = a32 at *
  generalize qq A k (k + 3) (k + 3) = a33 at *
  generalize qq A k k (k + 1) = a01 at *
  generalize qq A k k (k + 2) = a02 at *
  generalize qq A k k (k + 3) = a03 at *
  generalize qq A k (k + 1) k = a10 at *
  generalize qq A k (k + 2) k = a20 at *
  generalize qq A k (k + 3) k = a30 at *
  generalize qq A (k + 1) (k + 1) (k + 1) = c11 at *
  generalize qq A (k + 1) (k + 1) (k + 2) = c12 at *
  generalize qq A (k + 1) (k + 1) (k + 3) = c13 at *
  generalize qq A (k + 1) (k + 2) (k + 1) = c21 at *
  generalize qq A (k + 1) (k + 2) (k + 2) = c22 at *
  generalize qq A (k + 1) (k + 2) (k + 3) = c23 at *
  generalize qq A (k + 1) (k + 3) (k + 1) = c31 at *
  generalize qq A (k + 1) (k + 3) (k + 2) = c32 at *
  generalize qq A (k + 1) (k + 3) (k + 3) = c33 at *
  generalize det (k + 1) A = d1 at *
  generalize det k A = d at *
  generalize det (k + 4) A = d4 at *
  refine Int.eq_of_mul_eq_mul_left nz (Int.eq_of_mul_eq_mul_left nz ?_)
  have P : d1 * (d1 * (d1 * (a11 * (a22 * a33 - a23 * a32) - a12 * (a21 * a33 - a23 * a31) + a13 * (a21 * a32 - a22 * a31)) - a01 * (a10 * (a22 * a33 - a23 * a32) - a12 * (a20 * a33 - a23 * a30) + a13 * (a20 * a32 - a22 * a30))
      + a02 * (a10 * (a21 * a33 - a23 * a31) - a11 * (a20 * a33 - a23 * a30) + a13 * (a20 * a31 - a21 * a30)) - a03 * (a10 * (a21 * a32 - a22 * a31) - a11 * (a20 * a32 - a22 * a30) + a12 * (a20 * a31 - a21 * a30))))
      = (d1 * a11 - a01 * a10) * ((d1 * a22 - a02 * a20) * (d1 * a33 - a03 * a30) - (d1 * a23 - a03 * a20) * (d1 * a32 - a02 * a30)) - (d1 * a12 - a02 * a10) * ((d1 * a21 - a01 * a20) * (d1 * a33 - a03 * a30) - (d1 * a23 - a03 * a20) * (d1 * a31 - a01 * a30))
        + (d1 * a13 - a03 * a10) * ((d1 * a21 - a01 * a20) * (d1 * a32 - a02 * a30) - (d1 * a22 - a02 * a20) * (d1 * a31 - a01 * a30)) := by grind
  rw [P, h11, h12, h13, h21, h22, h23, h31, h32, h33]
  have : d * c11 * (d * c22 * (d * c33) - d * c23 * (d * c32)) - d * c12 * (d * c21 * (d * c33) - d * c23 * (d * c31)) + d * c13 * (d * c21 * (d * c32) - d * c22 * (d * c31))
      = d ^ 3 * (c11 * (c22 * c33 - c23 * c32) - c12 * (c21 * c33 - c23 * c31) + c13 * (c21 * c32 - c22 * c31)) := by grind
  rw [this, s3]
  grind
end
end Sd
namespace Sd
/-! ### rising lists of numbers, gone through; how many of them are trees, up to three places -/
def setsF (many : Nat) : Nat → List (List Nat)
  | 0 => [[]]
  | m + 1 => setsF many m ++ ((setsF many m).filter fun T => decide (T.length < many)).map fun T => T ++ [m]
theorem setsF_mem {many : Nat} : ∀ {m : Nat} {T : List Nat}, T ∈ setsF many m ↔ T.Pairwise (· < ·) ∧ (∀ j ∈ T, j < m) ∧ T.length ≤ many
  | 0, T => by
    show T ∈ [[]] ↔ _
    rw [List.mem_singleton]
    constructor
    · rintro rfl
      exact ⟨List.Pairwise.nil, fun j hj => (by cases hj), Nat.zero_le _⟩
    · rintro ⟨_, h, _⟩
      cases T with
      | nil => rfl
      | cons a T => exact absurd (h a List.mem_cons_self) (Nat.not_lt_zero _)
  | m + 1, T => by
    show T ∈ setsF many m ++ _ ↔ _
    rw [List.mem_append, List.mem_map]
    constructor
    · rintro (h | ⟨T', h, rfl⟩)
      · obtain ⟨h1, h2, h3⟩ := setsF_mem.mp h
        exact ⟨h1, fun j hj => by have := h2 j hj; omega, h3⟩
      · obtain ⟨h, hl⟩ := List.mem_filter.mp h
        have hl := of_decide_eq_true hl
        obtain ⟨h1, h2, h3⟩ := setsF_mem.mp h
        refine ⟨List.pairwise_append.mpr ⟨h1, List.pairwise_singleton _ _, fun a ha b hb => by rw [List.mem_singleton.mp hb]; exact h2 a ha⟩, fun j hj => ?_, by rw [List.length_append]; exact hl⟩
        rcases List.mem_append.mp hj with z | z
        · have := h2 j z; omega
        · rw [List.mem_singleton.mp z]; omega
    · rintro ⟨h1, h2, h3⟩
      rcases List.eq_nil_or_concat T with rfl | ⟨L, b, rfl⟩
      · exact .inl (setsF_mem.mpr ⟨List.Pairwise.nil, fun j hj => (by cases hj), h3⟩)
      · rw [List.concat_eq_append] at *
        obtain ⟨p1, _, p3⟩ := List.pairwise_append.mp h1
        have hb := h2 b (by simp)
        have hlt : ∀ j ∈ L, j < b := fun j hj => p3 j hj b (by simp)
        rw [List.length_append, List.length_singleton] at h3
        by_cases c : b = m
        · subst c
          exact .inr ⟨L, List.mem_filter.mpr ⟨setsF_mem.mpr ⟨p1, hlt, by omega⟩, decide_eq_true (by omega)⟩, rfl⟩
        · refine .inl (setsF_mem.mpr ⟨h1, fun j hj => ?_, by rw [List.length_append, List.length_singleton]; exact h3⟩)
          rcases List.mem_append.mp hj with z | z
          · have := hlt j z; omega
          · rw [List.mem_singleton.mp z]; omega
theorem nd_map {α β : Type} {f : α → β} (hf : ∀ a b, f a = f b → a = b) {l : List α} (h : l.Nodup) : (l.map f).Nodup := List.pairwise_map.mpr (h.imp fun z y => z (hf _ _ y))
theorem nd_filter {α : Type} (p : α → Bool) {l : List α} (h : l.Nodup) : (l.filter p).Nodup := List.Pairwise.filter p h
theorem setsF_nd (many : Nat) : ∀ m, (setsF many m).Nodup
  | 0 => by simp [setsF]
  | m + 1 => by
    have ih := setsF_nd many m
    refine List.nodup_append.mpr ⟨ih, nd_map (fun a b e => List.append_cancel_right e) (nd_filter _ ih), fun a ha b hb e => ?_⟩
    obtain ⟨T', _, rfl⟩ := List.mem_map.mp hb
    subst e
    have := (setsF_mem.mp ha).2.1 m (by simp)
    omega
def cnt (many : Nat) (P : List Nat → Bool) (m : Nat) : Nat := ((setsF many m).filter P).length
def lenP (l : Nat) (tr : List Nat → Bool) : List Nat → Bool := fun T => decide (T.length = l) && tr T
theorem cnt_congr {many m : Nat} {P Q : List Nat → Bool} (h : ∀ T ∈ setsF many m, P T = Q T) : cnt many P m = cnt many Q m := by
  unfold cnt
  rw [List.filter_congr h]
theorem cnt_succ (many : Nat) (P : List Nat → Bool) (m : Nat) : cnt many P (m + 1) = cnt many P m + cnt many (fun T => decide (T.length < many) && P (T ++ [m])) m := by
  unfold cnt
  show ((setsF many m ++ _).filter P).length = _
  rw [List.filter_append, List.length_append, List.filter_map, List.length_map, List.filter_filter]
  congr 2
  refine List.filter_congr fun T _ => ?_
  exact Bool.and_comm _ _
theorem cnt_zero (many : Nat) (tr : List Nat → Bool) : ∀ m, cnt many (lenP 0 tr) m = if tr [] = true then 1 else 0
  | 0 => by
    unfold cnt lenP setsF
    cases h : tr [] <;> simp [h]
  | m + 1 => by
    rw [cnt_succ, cnt_zero many tr m]
    have : cnt many (fun T => decide (T.length < many) && lenP 0 tr (T ++ [m])) m = 0 := by
      unfold cnt
      rw [List.filter_eq_nil_iff.mpr]
      · rfl
      · intro T _
        unfold lenP
        rw [List.length_append, List.length_singleton]
        simp
    omega
theorem cnt_base (many l : Nat) (tr : List Nat → Bool) : cnt many (lenP (l + 1) tr) 0 = 0 := by
  unfold cnt lenP setsF
  simp
theorem cnt_step {many l : Nat} (h : l + 1 ≤ many) (tr : List Nat → Bool) (m : Nat) : cnt many (lenP (l + 1) tr) (m + 1) = cnt many (lenP (l + 1) tr) m + cnt many (lenP l fun T => tr (T ++ [m])) m := by
  rw [cnt_succ]
  congr 1
  refine cnt_congr fun T _ => ?_
  unfold lenP
  rw [List.length_append, List.length_singleton]
  by_cases c : T.length = l
  · rw [decide_eq_true (show T.length < many by omega), decide_eq_true (show T.length + 1 = l + 1 by omega), decide_eq_true c]; rfl
  · rw [decide_eq_false (show ¬ T.length + 1 = l + 1 by omega), decide_eq_false c, Bool.false_and, Bool.and_false]
theorem cnt_len {many m l : Nat} {tr tr' : List Nat → Bool} (h : ∀ T ∈ setsF many m, T.length = l → tr T = tr' T) : cnt many (lenP l tr) m = cnt many (lenP l tr') m := by
  refine cnt_congr fun T hT => ?_
  unfold lenP
  by_cases c : T.length = l
  · rw [h T hT c]
  · rw [decide_eq_false c, Bool.false_and, Bool.false_and]
/-- how often u is the kind of a number -/
def mu (κ : Nat → Nat) : Nat → Nat → Nat
  | 0, _ => 0
  | m + 1, u => mu κ m u + if κ m = u then 1 else 0
/-! three places -/
def bn (b : Bool) : Nat := if b = true then 1 else 0
def tri (u v w : Nat) : Bool := decide (u ≠ v ∧ v ≠ w ∧ u ≠ w) && !([11, 21, 38, 56].contains (2 ^ u + 2 ^ v + 2 ^ w))
def U1 (s t : Nat) (x : Nat → Nat) : Nat := bn (tri 0 s t) * x 0 + bn (tri 1 s t) * x 1 + bn (tri 2 s t) * x 2 + bn (tri 3 s t) * x 3 + bn (tri 4 s t) * x 4 + bn (tri 5 s t) * x 5
def U2 (s : Nat) (x : Nat → Nat) : Nat := bn (tri 0 1 s) * (x 0 * x 1) + bn (tri 0 2 s) * (x 0 * x 2) + bn (tri 0 3 s) * (x 0 * x 3) + bn (tri 0 4 s) * (x 0 * x 4) + bn (tri 0 5 s) * (x 0 * x 5)
  + bn (tri 1 2 s) * (x 1 * x 2) + bn (tri 1 3 s) * (x 1 * x 3) + bn (tri 1 4 s) * (x 1 * x 4) + bn (tri 1 5 s) * (x 1 * x 5)
  + bn (tri 2 3 s) * (x 2 * x 3) + bn (tri 2 4 s) * (x 2 * x 4) + bn (tri 2 5 s) * (x 2 * x 5)
  + bn (tri 3 4 s) * (x 3 * x 4) + bn (tri 3 5 s) * (x 3 * x 5) + bn (tri 4 5 s) * (x 4 * x 5)
def U3 (x : Nat → Nat) : Nat := x 0 * x 1 * x 2 + x 0 * x 1 * x 4 + x 0 * x 1 * x 5 + x 0 * x 2 * x 3 + x 0 * x 2 * x 5 + x 0 * x 3 * x 4 + x 0 * x 3 * x 5 + x 0 * x 4 * x 5
  + x 1 * x 2 * x 3 + x 1 * x 2 * x 4 + x 1 * x 3 * x 4 + x 1 * x 3 * x 5 + x 1 * x 4 * x 5 + x 2 * x 3 * x 4 + x 2 * x 3 * x 5 + x 2 * x 4 * x 5
def inc (x : Nat → Nat) (k : Nat) : Nat → Nat := fun u => x u + if k = u then 1 else 0
theorem U1_inc (x : Nat → Nat) (s t : Nat) : ∀ k, k < 6 → U1 s t (inc x k) = U1 s t x + bn (tri k s t) := fun k hk => by
  match k, hk with
  | 0, _ => simp [U1, inc]; grind
  | 1, _ => simp [U1, inc]; grind
  | 2, _ => simp [U1, inc]; grind
  | 3, _ => simp [U1, inc]; grind
  | 4, _ => simp [U1, inc]; grind
  | 5, _ => simp [U1, inc]; grind
theorem U2_inc (x : Nat → Nat) : ∀ k, k < 6 → ∀ s, s < 6 → U2 s (inc x k) = U2 s x + U1 k s x := fun k hk s hs => by
  have f : ∀ u v w : Nat, tri u v w = tri u v w := fun _ _ _ => rfl
  match k, hk with
  | 0, _ => match s, hs with
    | 0, _ | 1, _ | 2, _ | 3, _ | 4, _ | 5, _ => simp [U1, U2, inc, tri, bn] <;> grind
  | 1, _ => match s, hs with
    | 0, _ | 1, _ | 2, _ | 3, _ | 4, _ | 5, _ => simp [U1, U2, inc, tri, bn] <;> grind
  | 2, _ => match s, hs with
    | 0, _ | 1, _ | 2, _ | 3, _ | 4, _ | 5, _ => simp [U1, U2, inc, tri, bn] <;> grind
  | 3, _ => match s, hs with
    | 0, _ | 1, _ | 2, _ | 3, _ | 4, _ | 5, _ => simp [U1, U2, inc, tri, bn] <;> grind
  | 4, _ => match s, hs with
    | 0, _ | 1, _ | 2, _ | 3, _ | 4, _ | 5, _ => simp [U1, U2, inc, tri, bn] <;> grind
  | 5, _ => match s, hs with
    | 0, _ | 1, _ | 2, _ | 3, _ | 4, _ | 5, _ => simp [U1, U2, inc, tri, bn] <;> grind
theorem U3_inc (x : Nat → Nat) : ∀ k, k < 6 → U3 (inc x k) = U3 x + U2 k x := fun k hk => by
  match k, hk with
  | 0, _ | 1, _ | 2, _ | 3, _ | 4, _ | 5, _ => simp [U3, U2, inc, tri, bn] <;> grind
section
variable {κ : Nat → Nat} {many : Nat}
theorem mu_inc (κ : Nat → Nat) (m : Nat) : mu κ (m + 1) = inc (mu κ m) (κ m) := rfl
def A1 (κ : Nat → Nat) (s t : Nat) : List Nat → Bool
  | [i] => tri (κ i) s t
  | _ => false
def A2 (κ : Nat → Nat) (s : Nat) : List Nat → Bool
  | [i, j] => tri (κ i) (κ j) s
  | _ => false
def A3 (κ : Nat → Nat) : List Nat → Bool
  | [i, j, k] => tri (κ i) (κ j) (κ k)
  | _ => false
theorem cnt_A1 (hm : 1 ≤ many) (s t : Nat) : ∀ m, (∀ j, j < m → κ j < 6) → cnt many (lenP 1 (A1 κ s t)) m = U1 s t (mu κ m)
  | 0, _ => by rw [cnt_base]; simp [U1, mu]
  | m + 1, h => by
    rw [cnt_step hm, cnt_A1 hm s t m fun j hj => h j (by omega), mu_inc, U1_inc _ _ _ _ (h m (by omega)), cnt_zero]
    rfl
theorem cnt_A2 (hm : 2 ≤ many) (s : Nat) (hs : s < 6) : ∀ m, (∀ j, j < m → κ j < 6) → cnt many (lenP 2 (A2 κ s)) m = U2 s (mu κ m)
  | 0, _ => by rw [cnt_base]; simp [U2, mu]
  | m + 1, h => by
    rw [cnt_step hm, cnt_A2 hm s hs m fun j hj => h j (by omega), mu_inc, U2_inc _ _ (h m (by omega)) s hs, ← cnt_A1 (many := many) (by omega) (κ m) s m fun j hj => h j (by omega)]
    congr 1
    refine cnt_len fun T _ hT => ?_
    match T, hT with
    | [i], _ => rfl
theorem cnt_A3 (hm : 3 ≤ many) : ∀ m, (∀ j, j < m → κ j < 6) → cnt many (lenP 3 (A3 κ)) m = U3 (mu κ m)
  | 0, _ => by rw [cnt_base]; simp [U3, mu]
  | m + 1, h => by
    rw [cnt_step hm, cnt_A3 hm m fun j hj => h j (by omega), mu_inc, U3_inc _ _ (h m (by omega)), ← cnt_A2 (many := many) (by omega) (κ m) (h m (by omega)) m fun j hj => h j (by omega)]
    congr 1
    refine cnt_len fun T _ hT => ?_
    match T, hT with
    | [i, j], _ => rfl
/-! two places -/
def V1 (s : Nat) (x : Nat → Nat) : Nat := bn (decide (0 ≠ s)) * x 0 + bn (decide (1 ≠ s)) * x 1 + bn (decide (2 ≠ s)) * x 2
def V2 (x : Nat → Nat) : Nat := x 0 * x 1 + x 0 * x 2 + x 1 * x 2
def B1 (κ : Nat → Nat) (s : Nat) : List Nat → Bool
  | [i] => decide (κ i ≠ s)
  | _ => false
def B2 (κ : Nat → Nat) : List Nat → Bool
  | [i, j] => decide (κ i ≠ κ j)
  | _ => false
theorem V1_inc (x : Nat → Nat) (s : Nat) : ∀ k, k < 3 → V1 s (inc x k) = V1 s x + bn (decide (k ≠ s)) := fun k hk => by
  match k, hk with
  | 0, _ | 1, _ | 2, _ => simp [V1, inc] <;> grind
theorem V2_inc (x : Nat → Nat) : ∀ k, k < 3 → V2 (inc x k) = V2 x + V1 k x := fun k hk => by
  match k, hk with
  | 0, _ | 1, _ | 2, _ => simp [V1, V2, inc, bn] <;> grind
theorem cnt_B1 (hm : 1 ≤ many) (s : Nat) : ∀ m, (∀ j, j < m → κ j < 3) → cnt many (lenP 1 (B1 κ s)) m = V1 s (mu κ m)
  | 0, _ => by rw [cnt_base]; simp [V1, mu]
  | m + 1, h => by
    rw [cnt_step hm, cnt_B1 hm s m fun j hj => h j (by omega), mu_inc, V1_inc _ _ _ (h m (by omega)), cnt_zero]
    rfl
theorem cnt_B2 (hm : 2 ≤ many) : ∀ m, (∀ j, j < m → κ j < 3) → cnt many (lenP 2 (B2 κ)) m = V2 (mu κ m)
  | 0, _ => by rw [cnt_base]; simp [V2, mu]
  | m + 1, h => by
    rw [cnt_step hm, cnt_B2 hm m fun j hj => h j (by omega), mu_inc, V2_inc _ _ (h m (by omega)), ← cnt_B1 (many := many) (by omega) (κ m) m fun j hj => h j (by omega)]
    congr 1
    refine cnt_len fun T _ hT => ?_
    match T, hT with
    | [i], _ => rfl
/-! one place -/
theorem cnt_C1 (hm : 1 ≤ many) : ∀ m, cnt many (lenP 1 fun _ => true) m = m
  | 0 => cnt_base _ _ _
  | m + 1 => by rw [cnt_step hm, cnt_C1 hm m, cnt_zero]; rfl
end
/-! which sets of roads join all -/
def ty3 (r : Road) : Nat := match 2 ^ r.1 + 2 ^ r.2 with
  | 3 => 0
  | 5 => 1
  | 9 => 2
  | 6 => 3
  | 10 => 4
  | _ => 5
def ty2 (r : Road) : Nat := match 2 ^ r.1 + 2 ^ r.2 with
  | 3 => 0
  | 5 => 1
  | _ => 2
def sel3 (b0 b1 b2 : Bool) : Nat → Bool
  | 0 => b0
  | 1 => b1
  | 2 => b2
  | _ => true
def sel2 (b0 b1 : Bool) : Nat → Bool
  | 0 => b0
  | 1 => b1
  | _ => true
def cj3 (L : List Road) : Bool := [false, true].all fun b0 => [false, true].all fun b1 => [false, true].all fun b2 => !(L.all fun r => sel3 b0 b1 b2 r.1 == sel3 b0 b1 b2 r.2) || (b0 && b1 && b2)
def cj2 (L : List Road) : Bool := [false, true].all fun b0 => [false, true].all fun b1 => !(L.all fun r => sel2 b0 b1 r.1 == sel2 b0 b1 r.2) || (b0 && b1)
def rds3 : List Road := [(0, 1), (1, 0), (0, 2), (2, 0), (0, 3), (3, 0), (1, 2), (2, 1), (1, 3), (3, 1), (2, 3), (3, 2)]
def rds2 : List Road := [(0, 1), (1, 0), (0, 2), (2, 0), (1, 2), (2, 1)]
theorem rds3_mem {r : Road} (h : r.1 ≤ 3 ∧ r.2 ≤ 3 ∧ r.1 ≠ r.2) : r ∈ rds3 := by
  obtain ⟨a, b⟩ := r
  obtain ⟨h1, h2, h3⟩ := h
  have h1 : a ≤ 3 := h1
  have h2 : b ≤ 3 := h2
  have h3 : a ≠ b := h3
  match a, b, h1, h2, h3 with
  | 0, 1, _, _, _ | 0, 2, _, _, _ | 0, 3, _, _, _ | 1, 0, _, _, _ | 1, 2, _, _, _ | 1, 3, _, _, _ | 2, 0, _, _, _ | 2, 1, _, _, _ | 2, 3, _, _, _ | 3, 0, _, _, _ | 3, 1, _, _, _ | 3, 2, _, _, _ => simp [rds3]
  | 0, 0, _, _, h | 1, 1, _, _, h | 2, 2, _, _, h | 3, 3, _, _, h => exact absurd rfl h
theorem rds2_mem {r : Road} (h : r.1 ≤ 2 ∧ r.2 ≤ 2 ∧ r.1 ≠ r.2) : r ∈ rds2 := by
  obtain ⟨a, b⟩ := r
  obtain ⟨h1, h2, h3⟩ := h
  have h1 : a ≤ 2 := h1
  have h2 : b ≤ 2 := h2
  have h3 : a ≠ b := h3
  match a, b, h1, h2, h3 with
  | 0, 1, _, _, _ | 0, 2, _, _, _ | 1, 0, _, _, _ | 1, 2, _, _, _ | 2, 0, _, _, _ | 2, 1, _, _, _ => simp [rds2]
  | 0, 0, _, _, h | 1, 1, _, _, h | 2, 2, _, _, h => exact absurd rfl h
theorem cj3_tab : ∀ r ∈ rds3, ∀ s ∈ rds3, ∀ t ∈ rds3, cj3 [r, s, t] = tri (ty3 r) (ty3 s) (ty3 t) := by decide +kernel
theorem cj2_tab : ∀ r ∈ rds2, ∀ s ∈ rds2, cj2 [r, s] = decide (ty2 r ≠ ty2 s) := by decide +kernel
theorem ty3_lt : ∀ r ∈ rds3, ty3 r < 6 := by decide
theorem ty2_lt : ∀ r ∈ rds2, ty2 r < 3 := by decide
theorem cj3_iff (L : List Road) : cj3 L = true ↔ ∀ b0 b1 b2 : Bool, (∀ r ∈ L, sel3 b0 b1 b2 r.1 = sel3 b0 b1 b2 r.2) → b0 = true ∧ b1 = true ∧ b2 = true := by
  unfold cj3
  rw [List.all_eq_true]
  constructor
  · intro h b0 b1 b2 hr
    have h := List.all_eq_true.mp (List.all_eq_true.mp (h b0 (by cases b0 <;> simp)) b1 (by cases b1 <;> simp)) b2 (by cases b2 <;> simp)
    rw [List.all_eq_true.mpr fun r hr' => by rw [hr r hr']; exact beq_self_eq_true _] at h
    simpa [and_assoc] using h
  · intro h b0 _
    refine List.all_eq_true.mpr fun b1 _ => List.all_eq_true.mpr fun b2 _ => ?_
    by_cases c : (L.all fun r => sel3 b0 b1 b2 r.1 == sel3 b0 b1 b2 r.2) = true
    · obtain ⟨rfl, rfl, rfl⟩ := h b0 b1 b2 fun r hr => eq_of_beq (List.all_eq_true.mp c r hr)
      simp
    · rw [Bool.eq_false_iff.mpr c]; rfl
theorem cj2_iff (L : List Road) : cj2 L = true ↔ ∀ b0 b1 : Bool, (∀ r ∈ L, sel2 b0 b1 r.1 = sel2 b0 b1 r.2) → b0 = true ∧ b1 = true := by
  unfold cj2
  rw [List.all_eq_true]
  constructor
  · intro h b0 b1 hr
    have h := List.all_eq_true.mp (h b0 (by cases b0 <;> simp)) b1 (by cases b1 <;> simp)
    rw [List.all_eq_true.mpr fun r hr' => by rw [hr r hr']; exact beq_self_eq_true _] at h
    simpa using h
  · intro h b0 _
    refine List.all_eq_true.mpr fun b1 _ => ?_
    by_cases c : (L.all fun r => sel2 b0 b1 r.1 == sel2 b0 b1 r.2) = true
    · obtain ⟨rfl, rfl⟩ := h b0 b1 fun r hr => eq_of_beq (List.all_eq_true.mp c r hr)
      simp
    · rw [Bool.eq_false_iff.mpr c]; rfl
section
variable {n : Nat} {rs : List Road} {T : List Nat}
/-- the roads of a set -/
def rdT (rs : List Road) (T : List Nat) : List Road := T.map fun j => rs.getD j (0, 0)
theorem rdT_at {j : Nat} (h : j < rs.length) : rs[j]? = some (rs.getD j (0, 0)) := by
  rw [List.getD_eq_getElem?_getD, List.getElem?_eq_getElem h]; rfl
open Classical in
theorem cn_three (ok : ∀ r ∈ rs, r.1 ≤ 3 ∧ r.2 ≤ 3 ∧ r.1 ≠ r.2) (lt : ∀ j ∈ T, j < rs.length) : Cn 3 rs T ↔ cj3 (rdT rs T) = true := by
  rw [cj3_iff]
  constructor
  · intro h b0 b1 b2 hr
    have := h (fun k => sel3 b0 b1 b2 k = true) rfl fun j hj r e => by
      have := hr r (List.mem_map.mpr ⟨j, hj, by rw [rdT_at (lt j hj)] at e; exact Option.some.inj e⟩)
      (try dsimp only)
      rw [this]
    exact ⟨this 0 (by omega), this 1 (by omega), this 2 (by omega)⟩
  · intro h S h3 hS k hk
    have selS : ∀ k, k ≤ 3 → (sel3 (decide (S 0)) (decide (S 1)) (decide (S 2)) k = true ↔ S k) := fun k hk => by
      match k, hk with
      | 0, _ => exact decide_eq_true_iff
      | 1, _ => exact decide_eq_true_iff
      | 2, _ => exact decide_eq_true_iff
      | 3, _ => exact ⟨fun _ => h3, fun _ => rfl⟩
    have := h (decide (S 0)) (decide (S 1)) (decide (S 2)) fun r hr => by
      obtain ⟨j, hj, rfl⟩ := List.mem_map.mp hr
      have e := rdT_at (lt j hj)
      obtain ⟨h1, h2, _⟩ := ok _ (List.mem_of_getElem? e)
      rw [Bool.eq_iff_iff, selS _ h1, selS _ h2]
      exact hS j hj _ e
    match k, hk with
    | 0, _ => exact of_decide_eq_true this.1
    | 1, _ => exact of_decide_eq_true this.2.1
    | 2, _ => exact of_decide_eq_true this.2.2
    | 3, _ => exact h3
open Classical in
theorem cn_two (ok : ∀ r ∈ rs, r.1 ≤ 2 ∧ r.2 ≤ 2 ∧ r.1 ≠ r.2) (lt : ∀ j ∈ T, j < rs.length) : Cn 2 rs T ↔ cj2 (rdT rs T) = true := by
  rw [cj2_iff]
  constructor
  · intro h b0 b1 hr
    have := h (fun k => sel2 b0 b1 k = true) rfl fun j hj r e => by
      have := hr r (List.mem_map.mpr ⟨j, hj, by rw [rdT_at (lt j hj)] at e; exact Option.some.inj e⟩)
      (try dsimp only)
      rw [this]
    exact ⟨this 0 (by omega), this 1 (by omega)⟩
  · intro h S h3 hS k hk
    have selS : ∀ k, k ≤ 2 → (sel2 (decide (S 0)) (decide (S 1)) k = true ↔ S k) := fun k hk => by
      match k, hk with
      | 0, _ => exact decide_eq_true_iff
      | 1, _ => exact decide_eq_true_iff
      | 2, _ => exact ⟨fun _ => h3, fun _ => rfl⟩
    have := h (decide (S 0)) (decide (S 1)) fun r hr => by
      obtain ⟨j, hj, rfl⟩ := List.mem_map.mp hr
      have e := rdT_at (lt j hj)
      obtain ⟨h1, h2, _⟩ := ok _ (List.mem_of_getElem? e)
      rw [Bool.eq_iff_iff, selS _ h1, selS _ h2]
      exact hS j hj _ e
    match k, hk with
    | 0, _ => exact of_decide_eq_true this.1
    | 1, _ => exact of_decide_eq_true this.2
    | 2, _ => exact h3
theorem cn_one (ok : ∀ r ∈ rs, r.1 ≤ 1 ∧ r.2 ≤ 1 ∧ r.1 ≠ r.2) {j : Nat} (lt : j < rs.length) : Cn 1 rs [j] := fun S h1 hS k hk => by
  have e := rdT_at lt
  obtain ⟨o1, o2, o3⟩ := ok _ (List.mem_of_getElem? e)
  have := hS j (by simp) _ e
  generalize rs.getD j (0, 0) = r at o1 o2 o3 this
  match k, hk with
  | 1, _ => exact h1
  | 0, _ =>
    by_cases c : r.1 = 0
    · rw [c, show r.2 = 1 by omega] at this
      exact this.mpr h1
    · rw [show r.1 = 1 by omega, show r.2 = 0 by omega] at this
      exact this.mp h1
end
end Sd
/-! ### Z: short words over HandS: data with a Lean type, calls by name, steps of a reading -/
namespace Z
open PySem PySem.Spec PyProof.Rows L2
open Evl (Ex ex_l ex_t sq_of st_of)
open PySem.W (Datum)

/-! #### data -/
theorem ex_dp {K : PySem.W.Frag} {H H' : Hp} (e : Ex H H') : ∀ (d : PyData) (v : V), Dp K H v d → Dp K H' v d := by
  intro d
  refine PyData.rec (motive_1 := fun d => ∀ v, Dp K H v d → Dp K H' v d) (motive_2 := fun ds => ∀ vs, DpAll K H vs ds → DpAll K H' vs ds) (motive_3 := fun _ => True) (motive_4 := fun _ => True) ?_ ?_ ?_ ?_ ?_ ?_ ?_ ?_ ?_ ?_ ?_ ?_ d
  · intro v h; cases h; exact .non
  · intro b v h; cases h; exact .bl b
  · intro b v h; cases h; exact .int b
  · intro b v h; cases h; exact .str b
  · intro ds ih v h
    cases h with
    | lst hs ha => exact .lst (ex_l e hs) (ih _ ha)
  · intro ds ih v h
    cases h with
    | tup hs ha => exact .tup (ex_t e hs) (ih _ ha)
  · intro _ _ v h; cases h
  · intro vs h; cases h; exact .nil
  · intro d ds h1 h2 vs h
    cases h with
    | cons a b => exact .cons (h1 _ a) (h2 _ b)
  · trivial
  · intros; trivial
  · intros; trivial
theorem ex_dpAll {K : PySem.W.Frag} {H H' : Hp} (e : Ex H H') : ∀ (ds : List PyData) (vs : List V), DpAll K H vs ds → DpAll K H' vs ds
  | [], _, .nil => .nil
  | _ :: ds, _, .cons a b => .cons (ex_dp e _ _ a) (ex_dpAll e ds _ b)
/-- data without texts -/
class DL (α : Type) [DecidableEq α] [Datum α] : Prop where
  can : ∀ a : α, (Datum.toD a).canLay0 = true
instance : Datum Nat where
  toD n := .int n
  plain _ := rfl
  eqv a b := by
    simp only [PyData.eqv]
    rw [Bool.eq_iff_iff, beq_iff_eq, decide_eq_true_eq]
    omega
  depth := 0
  depth_le _ := Nat.le_refl _
instance : DL Nat := ⟨fun _ => rfl⟩
instance : DL Int := ⟨fun _ => rfl⟩
instance : DL Bool := ⟨fun _ => rfl⟩
instance : DL Unit := ⟨fun _ => rfl⟩
section
variable {α β : Type} [DecidableEq α] [Datum α] [DecidableEq β] [Datum β] [DL α] [DL β]
theorem canLayAll : ∀ xs : List α, PyData.canLayAll0 (xs.map Datum.toD) = true
  | [] => rfl
  | x :: xs => by
    rw [List.map_cons, PyData.canLayAll0, DL.can x, canLayAll xs]
    rfl
instance : DL (List α) := ⟨fun xs => by
  show PyData.canLay0 (.list (xs.map Datum.toD)) = true
  rw [PyData.canLay0]
  exact canLayAll xs⟩
instance : DL (α × β) := ⟨fun p => by
  show PyData.canLay0 (.tuple [Datum.toD p.1, Datum.toD p.2]) = true
  rw [PyData.canLay0, PyData.canLayAll0, PyData.canLayAll0, PyData.canLayAll0, DL.can, DL.can]
  rfl⟩
theorem shapedD (a : α) (h : Datum.depth α ≤ 64) : SeqAt.shaped (Datum.toD a) = true := by
  unfold SeqAt.shaped
  rw [DL.can a, Bool.true_and]
  exact decide_eq_true (Nat.le_trans (Datum.depth_le a) h)
end
section
variable {α β : Type} [DecidableEq α] [Datum α] [DecidableEq β] [Datum β] {K : PySem.W.Frag} {H H' : Hp}
/-- v holds x -/
def Dt (K : PySem.W.Frag) (H : Hp) (v : V) (x : α) : Prop := Dp K H v (Datum.toD x)
def DtAll (K : PySem.W.Frag) (H : Hp) (vs : List V) (xs : List α) : Prop := DpAll K H vs (xs.map Datum.toD)
theorem Dt.ex {v : V} {x : α} (e : Ex H H') (h : Dt K H v x) : Dt K H' v x := ex_dp e _ _ h
theorem DtAll.ex {vs : List V} {xs : List α} (e : Ex H H') (h : DtAll K H vs xs) : DtAll K H' vs xs := ex_dpAll e _ _ h
theorem dt_int (i : Int) : Dt K H (.int i) i := .int i
theorem dt_bl (i : Bool) : Dt K H (.bl i) i := .bl i
theorem dt_non : Dt K H .non () := .non
theorem dt_lst {a : Addr} {vs : List V} {xs : List α} (h : SqL K H a vs) (ha : DtAll K H vs xs) : Dt K H (.ref a) xs := .lst h ha
theorem dt_pair {a : Addr} {u v : V} {x : α} {y : β} (h : SqT K H a [u, v]) (hu : Dt K H u x) (hv : Dt K H v y) : Dt K H (.ref a) (x, y) := .tup h (.cons hu (.cons hv .nil))
theorem da_nil : DtAll K H [] ([] : List α) := .nil
theorem da_cons {v : V} {vs : List V} {x : α} {xs : List α} (h : Dt K H v x) (ha : DtAll K H vs xs) : DtAll K H (v :: vs) (x :: xs) := .cons h ha
theorem Dt.int {v : V} {i : Int} (h : Dt K H v i) : v = .int i := by cases h; rfl
theorem Dt.bl {v : V} {i : Bool} (h : Dt K H v i) : v = .bl i := by cases h; rfl
theorem Dt.list {v : V} {xs : List α} (h : Dt K H v xs) : ∃ a vs, v = .ref a ∧ SqL K H a vs ∧ DtAll K H vs xs := by
  have h' : Dp K H v (.list (xs.map Datum.toD)) := h
  cases h' with
  | lst hs ha => exact ⟨_, _, rfl, hs, ha⟩
theorem Dt.pair {v : V} {x : α} {y : β} (h : Dt K H v (x, y)) : ∃ a u w, v = .ref a ∧ SqT K H a [u, w] ∧ Dt K H u x ∧ Dt K H w y := by
  have h' : Dp K H v (.tuple [Datum.toD x, Datum.toD y]) := h
  cases h' with
  | tup hs ha =>
    cases ha with
    | cons h1 h2 =>
      cases h2 with
      | cons h2 h3 =>
        cases h3
        exact ⟨_, _, _, rfl, hs, h1, h2⟩
theorem DtAll.length : ∀ {vs : List V} {xs : List α}, DtAll K H vs xs → vs.length = xs.length
  | [], [], _ => rfl
  | [], _ :: _, h => by cases h
  | _ :: _, [], h => by cases h
  | _ :: vs, _ :: xs, h => by
    cases h with
    | cons _ h => rw [List.length_cons, List.length_cons, DtAll.length (vs := vs) (xs := xs) h]
theorem DtAll.get : ∀ {vs : List V} {xs : List α} {i : Nat} {v : V}, DtAll K H vs xs → vs[i]? = some v → ∃ x, xs[i]? = some x ∧ Dt K H v x
  | [], _, _, _, _, e => by simp at e
  | _ :: _, [], _, _, h, _ => by cases h
  | u :: vs, x :: xs, 0, v, h, e => by
    cases h with
    | cons h _ =>
      simp at e
      subst e
      exact ⟨x, rfl, h⟩
  | u :: vs, x :: xs, i + 1, v, h, e => by
    cases h with
    | cons _ h => simpa using DtAll.get (vs := vs) (xs := xs) (i := i) h (by simpa using e)
theorem DtAll.get' : ∀ {vs : List V} {xs : List α} {i : Nat} {x : α}, DtAll K H vs xs → xs[i]? = some x → ∃ v, vs[i]? = some v ∧ Dt K H v x := by
  intro vs xs i x h e
  have hl := h.length
  have hi : i < vs.length := by rw [hl]; exact (List.getElem?_eq_some_iff.mp e).1
  obtain ⟨y, h1, h2⟩ := h.get (List.getElem?_eq_getElem hi)
  rw [e] at h1
  cases h1
  exact ⟨_, List.getElem?_eq_getElem hi, h2⟩
theorem DtAll.append : ∀ {vs ws : List V} {xs ys : List α}, DtAll K H vs xs → DtAll K H ws ys → DtAll K H (vs ++ ws) (xs ++ ys)
  | [], _, [], _, _, h => h
  | [], _, _ :: _, _, h, _ => by cases h
  | _ :: _, _, [], _, h, _ => by cases h
  | _ :: vs, ws, _ :: xs, ys, h, g => by
    cases h with
    | cons a h => exact .cons a (DtAll.append (vs := vs) (xs := xs) h g)
theorem DtAll.drop : ∀ {vs : List V} {xs : List α} (n : Nat), DtAll K H vs xs → DtAll K H (vs.drop n) (xs.drop n)
  | _, _, 0, h => h
  | [], [], _ + 1, h => h
  | [], _ :: _, _ + 1, h => by cases h
  | _ :: _, [], _ + 1, h => by cases h
  | _ :: vs, _ :: xs, n + 1, h => by
    cases h with
    | cons _ h => exact DtAll.drop (vs := vs) (xs := xs) n h
theorem DtAll.take : ∀ {vs : List V} {xs : List α} (n : Nat), DtAll K H vs xs → DtAll K H (vs.take n) (xs.take n)
  | [], [], 0, _ => .nil
  | [], _ :: _, 0, _ => .nil
  | _ :: _, [], 0, _ => .nil
  | _ :: _, _ :: _, 0, _ => .nil
  | [], [], _ + 1, h => h
  | [], _ :: _, _ + 1, h => by cases h
  | _ :: _, [], _ + 1, h => by cases h
  | _ :: vs, _ :: xs, n + 1, h => by
    cases h with
    | cons a h => exact .cons a (DtAll.take (vs := vs) (xs := xs) n h)
/-- a list of whole numbers -/
theorem da_ints : ∀ ns : List Int, DtAll K H (ns.map V.int) ns
  | [] => .nil
  | n :: ns => .cons (.int n) (da_ints ns)
theorem DtAll.ints : ∀ {vs : List V} {ns : List Int}, DtAll K H vs ns → vs = ns.map V.int
  | [], [], _ => rfl
  | [], _ :: _, h => by cases h
  | _ :: _, [], h => by cases h
  | _ :: vs, _ :: ns, h => by
    cases h with
    | cons a h => rw [List.map_cons, DtAll.ints (vs := vs) (ns := ns) h, show _ = V.int _ from Dt.int a]
theorem Dt.ints {v : V} {ns : List Int} (h : Dt K H v ns) : ∃ a, v = .ref a ∧ SqL K H a (ns.map V.int) := by
  obtain ⟨a, vs, rfl, h1, h2⟩ := h.list
  rw [h2.ints] at h1
  exact ⟨a, rfl, h1⟩
theorem dt_ints {a : Addr} {ns : List Int} (h : SqL K H a (ns.map V.int)) : Dt K H (.ref a) ns := dt_lst h (da_ints ns)
theorem dt_intsH {a : Addr} {ns : List Int} (h : H a = some (.lst (ns.map V.int))) : Dt K H (.ref a) ns := dt_ints (sq_of h)
theorem Dt.nat {v : V} {i : Nat} (h : Dt K H v i) : v = .int i := by
  have h' : Dp K H v (.int (i : Int)) := h
  cases h'; rfl
theorem dt_nat (i : Nat) : Dt K H (.int i) i := Dp.int (i : Int)
theorem Dt.road {v : V} {r : Nat × Nat} (h : Dt K H v r) : ∃ a, v = .ref a ∧ SqT K H a [.int r.1, .int r.2] := by
  obtain ⟨a, u, w, rfl, h1, h2, h3⟩ := Dt.pair (x := r.1) (y := r.2) h
  rw [h2.nat, h3.nat] at h1
  exact ⟨a, rfl, h1⟩
theorem dt_road {a : Addr} {x y : Nat} (h : SqT K H a [.int x, .int y]) : Dt K H (.ref a) (x, y) := dt_pair h (dt_nat x) (dt_nat y)
/-- a list of one's own (it may be changed) that holds xs -/
def Lt (K : PySem.W.Frag) (H : Hp) (a : Addr) (xs : List α) : Prop := ∃ vs, H a = some (.lst vs) ∧ DtAll K H vs xs
theorem Lt.dt {a : Addr} {xs : List α} (h : Lt K H a xs) : Dt K H (.ref a) xs := by
  obtain ⟨vs, h1, h2⟩ := h
  exact dt_lst (sq_of h1) h2
theorem Lt.ex {a : Addr} {xs : List α} (e : Ex H H') (h : Lt K H a xs) : Lt K H' a xs := by
  obtain ⟨vs, h1, h2⟩ := h
  exact ⟨vs, e _ _ h1, h2.ex e⟩
/-- == and != of data -/
theorem z_eqD [DL α] {x y : V} {a b : α} {Q : VK} (hd : Datum.depth α ≤ 64) (hx : Dt K H x a) (hy : Dt K H y b) (q : Q (.bl (decide (a = b))) H) : rEqD K x y H Q :=
  ⟨_, _, hx, hy, shapedD a hd, shapedD b hd, by rw [Datum.eqv]; exact q⟩
theorem z_neD [DL α] {x y : V} {a b : α} {Q : VK} (hd : Datum.depth α ≤ 64) (hx : Dt K H x a) (hy : Dt K H y b) (q : Q (.bl (!decide (a = b))) H) : rNeD K x y H Q :=
  ⟨_, _, hx, hy, shapedD a hd, shapedD b hd, by rw [Datum.eqv]; exact q⟩
end

/-- two that hold the same datum -/
theorem z_eqSame {K : PySem.W.Frag} {H : Hp} {x y : V} {d : PyData} {Q : VK} (hd : SeqAt.shaped d = true) (hx : Dp K H x d) (hy : Dp K H y d) (q : Q (.bl true) H) : rEqD K x y H Q :=
  ⟨d, d, hx, hy, hd, hd, by rw [SeqAt.eqv_refl d (SeqAt.canLay_of_shaped hd)]; exact q⟩
theorem z_neSame {K : PySem.W.Frag} {H : Hp} {x y : V} {d : PyData} {Q : VK} (hd : SeqAt.shaped d = true) (hx : Dp K H x d) (hy : Dp K H y d) (q : Q (.bl false) H) : rNeD K x y H Q :=
  ⟨d, d, hx, hy, hd, hd, by rw [SeqAt.eqv_refl d (SeqAt.canLay_of_shaped hd)]; exact q⟩
section
variable {α β γ δ : Type} [DecidableEq α] [Datum α] [DL α] [DecidableEq β] [Datum β] [DL β] [DecidableEq γ] [Datum γ] [DL γ] [DecidableEq δ] [Datum δ] [DL δ]
def depM : List PyData → Nat
  | [] => 0
  | d :: ds => max d.depth (depM ds)
theorem shaped2 (a : α) (b : β) (h : max (Datum.depth α) (Datum.depth β) + 1 ≤ 64) : SeqAt.shaped (.list [Datum.toD a, Datum.toD b]) = true := by
  unfold SeqAt.shaped
  rw [PyData.canLay0, PyData.canLayAll0, PyData.canLayAll0, PyData.canLayAll0, DL.can, DL.can]
  refine decide_eq_true ?_
  simp only [PyData.depth, PyData.depthAll]
  have h1 := Datum.depth_le a
  have h2 := Datum.depth_le b
  omega
theorem shaped3 (a : α) (b : β) (c : γ) (h : max (Datum.depth α) (max (Datum.depth β) (Datum.depth γ)) + 1 ≤ 64) : SeqAt.shaped (.list [Datum.toD a, Datum.toD b, Datum.toD c]) = true := by
  unfold SeqAt.shaped
  rw [PyData.canLay0, PyData.canLayAll0, PyData.canLayAll0, PyData.canLayAll0, PyData.canLayAll0, DL.can, DL.can, DL.can]
  refine decide_eq_true ?_
  simp only [PyData.depth, PyData.depthAll]
  have h1 := Datum.depth_le a
  have h2 := Datum.depth_le b
  have h3 := Datum.depth_le c
  omega
theorem shaped4 (a : α) (b : β) (c : γ) (d : δ) (h : max (Datum.depth α) (max (Datum.depth β) (max (Datum.depth γ) (Datum.depth δ))) + 1 ≤ 64) : SeqAt.shaped (.list [Datum.toD a, Datum.toD b, Datum.toD c, Datum.toD d]) = true := by
  unfold SeqAt.shaped
  rw [PyData.canLay0, PyData.canLayAll0, PyData.canLayAll0, PyData.canLayAll0, PyData.canLayAll0, PyData.canLayAll0, DL.can, DL.can, DL.can, DL.can]
  refine decide_eq_true ?_
  simp only [PyData.depth, PyData.depthAll]
  have h1 := Datum.depth_le a
  have h2 := Datum.depth_le b
  have h3 := Datum.depth_le c
  have h4 := Datum.depth_le d
  omega
theorem dp_list2 {K : PySem.W.Frag} {H : Hp} {p : Addr} {x y : V} {a : α} {b : β} (h : H p = some (.lst [x, y])) (hx : Dt K H x a) (hy : Dt K H y b) : Dp K H (.ref p) (.list [Datum.toD a, Datum.toD b]) := .lst (sq_of h) (.cons hx (.cons hy .nil))
theorem dp_list3 {K : PySem.W.Frag} {H : Hp} {p : Addr} {x y z : V} {a : α} {b : β} {c : γ} (h : H p = some (.lst [x, y, z])) (hx : Dt K H x a) (hy : Dt K H y b) (hz : Dt K H z c) : Dp K H (.ref p) (.list [Datum.toD a, Datum.toD b, Datum.toD c]) := .lst (sq_of h) (.cons hx (.cons hy (.cons hz .nil)))
theorem dp_list4 {K : PySem.W.Frag} {H : Hp} {p : Addr} {x y z w : V} {a : α} {b : β} {c : γ} {d : δ} (h : H p = some (.lst [x, y, z, w])) (hx : Dt K H x a) (hy : Dt K H y b) (hz : Dt K H z c) (hw : Dt K H w d) : Dp K H (.ref p) (.list [Datum.toD a, Datum.toD b, Datum.toD c, Datum.toD d]) := .lst (sq_of h) (.cons hx (.cons hy (.cons hz (.cons hw .nil))))
end

/-! #### a list's item read for an operation in place -/
def rGetL (K : PySem.W.Frag) : V → V → Hp → VK → Prop := fun o i H Q => ∃ p xs k v, o = .ref p ∧ i = .int k ∧ 0 ≤ k ∧ SqL K H p xs ∧ xs[k.toNat]? = some v ∧ Q v H
theorem get_list {X : Cx} : PGet X (rGetL X.K) := by
  intro pins s σ H o i ov iv Q I ro ri h
  obtain ⟨p, xs, k, v, rfl, rfl, h0, hq, hv, q⟩ := h
  cases ro
  obtain ⟨t, rfl⟩ := ri
  obtain ⟨its, r, pl, hz⟩ := I.list hq
  obtain ⟨w, ew, rw'⟩ := r.get hv
  have hl := r.length
  have hn := line63
  have hj := (List.getElem?_eq_some_iff.mp hv).1
  have fin : EP X pins σ Q w s := ⟨v, H, I, rw', q⟩
  exact PySem.wpAny_getItem_list pl.isList h0 (by omega) (by simpa using ew) fin

/-! #### a def that stands under its name -/
structure Cal (P : Program) (w : World) (K : PySem.W.Frag) (mg : Str → Option Value) (base : Heap) (CX : CXT) (k : Nat) (x : Str) (ps : List Str) (sp : Sp) : Prop where
  ex : ∃ f fd, FnOk P w K mg base CX k f fd ps sp ∧ mg x = some (.ref f) ∧ PySem.W.keepIn K (.ref f) = true ∧ Binds K fd ps []
/-- the text of a def that stands under its name -/
structure Fn (K : PySem.W.Frag) (mg : Str → Option Value) (x : Str) (st : Stmt) (f : Addr) (fd : FuncData) (ps : List Str) : Prop where
  F : FunD K x x (defArgs st) (defBody st) (defScope st) [] [] f fd
  g : mg x = some (.ref f)
  b : Binds K fd ps []
section
variable {P : Program} {w : World} {K : PySem.W.Frag} {mg : Str → Option Value} {base : Heap} {CX : CXT} {k : Nat} {x : Str} {ps : List Str} {sp : Sp} {st : Stmt} {f : Addr} {fd : FuncData} {N : List Str}
theorem Fn.cal (T : Fn K mg x st f fd ps) (h : FnOk P w K mg base CX k f fd ps sp) : Cal P w K mg base CX k x ps sp := ⟨f, fd, h, T.g, T.F.kp, T.b⟩
theorem Cal.imp {sp' : Sp} (C : Cal P w K mg base CX k x ps sp) (h : ∀ vs H Q E, sp' vs H Q E → sp vs H Q E) : Cal P w K mg base CX k x ps sp' := by
  obtain ⟨f, fd, F, r⟩ := C.ex
  exact ⟨f, fd, F.imp h, r⟩
theorem Fn.okF (T : Fn K mg x st f fd ps) (S : FnScope N ps (defScope st)) (len : ∀ vs H Q E, sp vs H Q E → vs.length = ps.length)
    (hbody : ∀ (cdv : Value) (A : Around) (outer : List Env) (s : Shared) (H : Hp) (vs : List V) (Q : VK) (E : XK), Room k (A.deeper (envOfC x (defScope st) s.heap.objs.size f cdv)) → sp vs H Q E →
      ∃ t, PSs (cxOf CX0 P w K mg base N x (defScope st) f cdv A outer s H E).nox (defBody st) t ∧ t { nx := fun _ H' => Q .non H', rt := Q } (start N vs) H) : FnOk P w K mg base CX0 (k + 1) f fd ps sp := by
  refine T.F.ok S len fun cdv A outer s H vs Q E hr h => ?_
  obtain ⟨t, a, b⟩ := hbody cdv A outer s H vs Q E hr h
  exact ⟨t, a.nox, b⟩
/-- THE RULE for a def that lets no exception out -/
theorem Fn.ok (T : Fn K mg x st f fd ps) (S : FnScope N ps (defScope st)) (len : ∀ vs H Q E, sp vs H Q E → vs.length = ps.length)
    (hbody : ∀ (cdv : Value) (A : Around) (outer : List Env) (s : Shared) (H : Hp) (vs : List V) (Q : VK) (E : XK), Room k (A.deeper (envOfC x (defScope st) s.heap.objs.size f cdv)) → sp vs H Q E →
      ∃ t, PSs (cxOf CX0 P w K mg base N x (defScope st) f cdv A outer s H E).nox (defBody st) t ∧ t { nx := fun _ H' => Q .non H', rt := Q } (start N vs) H) : Cal P w K mg base CX0 (k + 1) x ps sp := by
  refine T.cal (T.F.ok S len fun cdv A outer s H vs Q E hr h => ?_)
  obtain ⟨t, a, b⟩ := hbody cdv A outer s H vs Q E hr h
  exact ⟨t, a.nox, b⟩
end
section
variable {X : Cx} {k : Nat} {x : Str} {ps : List Str} {sp : Sp} {e : Expr} {es : List Expr} {t : TA} {p pos : Pos}
theorem pe_cal (C : Cal X.prog X.w X.K X.mg X.base CX0 k x ps sp) (hr : Room k X.A) (hg : Gl X x) (ha : PA X (e :: es) t) (hdb : (x == ("__debug__" : Str)) = false := by decide)
    (he : starEach (e :: es) X.env = (false, eval e X.env) :: starEach es X.env := by rfl) (hpl : (backTo pos (starEach es X.env)).any (·.1) = false := by rfl) :
    PE X (.Call (.Name x p) (e :: es) [] pos) (tCall sp [] E0 t) := by
  obtain ⟨f, fd, F, hm, hk, hb⟩ := C.ex
  exact pe_call F hr hg hm hk hb .nil pass0 ha hdb he hpl
end
section
variable {X : Cx} {x : Str} {pos : Pos} {i : Int}
theorem pe_globI (hg : Gl X x) (hm : ∃ t, X.mg x = some (.int i t)) (hd : (x == ("__debug__" : Str)) = false := by decide) : PE X (.Name x pos) (tC (.int i)) := by
  obtain ⟨t, h⟩ := hm
  exact pe_glob hg h ⟨t, rfl⟩ hd
end
/-- things of which one may ask whether they are whole numbers, lists, tuples -/
inductive Thing (H : Hp) : V → Prop
  | int (i : Int) : Thing H (.int i)
  | bl (b : Bool) : Thing H (.bl b)
  | non : Thing H .non
  | str (x : Str) : Thing H (.str x)
  | lst {a : Addr} {xs : List V} (h : H a = some (.lst xs)) : Thing H (.ref a)
  | tup {a : Addr} {xs : List V} (h : H a = some (.tup xs)) : Thing H (.ref a)
  | dK {a : Addr} {xs : List (Key × V)} (h : H a = some (.dK xs)) : Thing H (.ref a)
def isI : V → Bool
  | .int _ => true
  | _ => false
/-- the built-in names are free -/
structure Bf (mg : Str → Option Value) : Prop where
  len : mg "len" = none
  range : mg "range" = none
  isinstance : mg "isinstance" = none
  list : mg "list" = none
  int : mg "int" = none
  bool : mg "bool" = none
  tuple : mg "tuple" = none
  max : mg "max" = none
  min : mg "min" = none
  sum : mg "sum" = none
  sorted : mg "sorted" = none
  reversed : mg "reversed" = none
  ValueError : mg "ValueError" = none
end Z
namespace Z
open PySem PySem.Spec PyProof.Rows L2
open Evl (Ex ex_l ex_t sq_of st_of)
open PySem.W (Datum)
section
variable {K : PySem.W.Frag} {σ : L2.St} {H : Hp} {ta tb tc te : TE} {c : TT} {t u : TS} {D : Ends} {Q : VK} {QB : Bool → Hp → Prop} {x y v : V} {i j : Int} {r r' : R2}
/-! #### steps of a reading: expressions -/
theorem z_var {i : Nat} (h : σ[i]? = some (some v)) (q : Q v H) : tVar i σ H Q := ⟨v, h, q⟩
theorem z_c (q : Q v H) : tC v σ H Q := q
theorem z_op (q : ta σ H fun x H1 => tb σ H1 fun y H2 => r x y H2 Q) : tOp r ta tb σ H Q := q
theorem z_un {r : V → Hp → VK → Prop} (q : ta σ H fun x H1 => r x H1 Q) : tUn r ta σ H Q := q
theorem z_I0 {g : Int → Int → V} (q : Q (g i j) H) : rI0 g (.int i) (.int j) H Q := ⟨i, j, rfl, rfl, q⟩
theorem z_I {C : Int → Int → Prop} {g : Int → Int → V} (hc : C i j) (q : Q (g i j) H) : rI C g (.int i) (.int j) H Q := ⟨i, j, rfl, rfl, hc, q⟩
theorem z_U {g : Int → V} (q : Q (g i) H) : rU g (.int i) H Q := ⟨i, rfl, q⟩
theorem z_eq (h : scal x y = true) (q : Q (.bl (decide (x = y))) H) : rEq x y H Q := ⟨h, q⟩
theorem z_ne (h : scal x y = true) (q : Q (.bl (!decide (x = y))) H) : rNe x y H Q := ⟨h, q⟩
theorem dec_ii {i j : Int} : decide (V.int i = V.int j) = decide (i = j) := by
  by_cases h : i = j
  · subst h; simp
  · rw [decide_eq_false h, decide_eq_false fun e => h (by injection e)]
theorem z_eqI (q : Q (.bl (decide (i = j))) H) : rEq (.int i) (.int j) H Q := ⟨rfl, by rw [dec_ii]; exact q⟩
theorem z_neI (q : Q (.bl (!decide (i = j))) H) : rNe (.int i) (.int j) H Q := ⟨rfl, by rw [dec_ii]; exact q⟩
theorem z_chain (q : ta σ H fun x H1 => tb σ H1 fun y H2 => r x y H2 fun z H3 => ∃ k, z = .bl k ∧ (if k = true then tc σ H3 fun w' H4 => r' y w' H4 Q else Q (.bl false) H3)) : tChain r r' ta tb tc σ H Q := q
theorem z_bl {b : Bool} {P : Bool → Prop} (q : P b) : ∃ k, V.bl b = .bl k ∧ P k := ⟨b, rfl, q⟩
theorem z_test (q : te σ H fun x H' => ∃ k, x = .bl k ∧ QB k H') : tTest te σ H QB := q
theorem z_B (q : te σ H fun x H' => ∃ k, x = .bl k ∧ QB k H') : tB te σ H QB := q
theorem z_and {t u : TT} (q : t σ H fun c H1 => if c = true then u σ H1 QB else QB false H1) : tAnd t u σ H QB := q
theorem z_or {t u : TT} (q : t σ H fun c H1 => if c = true then QB true H1 else u σ H1 QB) : tOr t u σ H QB := q
theorem z_not {t : TT} (q : t σ H fun c H1 => QB (!c) H1) : tNot t σ H QB := q
theorem z_andV (q : ta σ H fun x H1 => ∃ c, x = .bl c ∧ if c = true then tb σ H1 Q else Q (.bl false) H1) : tAndV ta tb σ H Q := q
theorem z_orV (q : ta σ H fun x H1 => ∃ c, x = .bl c ∧ if c = true then Q (.bl true) H1 else tb σ H1 Q) : tOrV ta tb σ H Q := q
theorem z_notV (q : ta σ H fun x H1 => ∃ c, x = .bl c ∧ Q (.bl (!c)) H1) : tNotV ta σ H Q := q
theorem z_nil {Q : List V → Hp → Prop} (q : Q [] H) : tNil σ H Q := q
theorem z_cons {tr : TA} {Q : List V → Hp → Prop} (q : ta σ H fun x H1 => tr σ H1 fun xs H2 => Q (x :: xs) H2) : tCons ta tr σ H Q := q
theorem z_CB {r : List V → Hp → VK → Prop} {t : TA} (q : t σ H fun vs H1 => r vs H1 Q) : tCB r t σ H Q := q
theorem z_call {sp : Sp} {dvs : List V} {E : XK} {t : TA} (q : t σ H fun vs H1 => sp (vs ++ dvs) H1 Q E) : tCall sp dvs E t σ H Q := q
theorem z_tup {t : TA} (q : t σ H fun xs H1 => xs.length ≤ sizeLine ∧ ∀ p, H1 p = none → Q (.ref p) (upd H1 p (.tup xs))) : tTup t σ H Q := q
theorem z_lst {t : TA} (q : t σ H fun xs H1 => xs.length ≤ sizeLine ∧ ∀ p, H1 p = none → Q (.ref p) (upd H1 p (.lst xs))) : tLst t σ H Q := q
theorem z_ixL {a : Addr} {xs : List V} {i : Int} (h : SqL K H a xs) (e : atI xs i = some v) (q : Q v H) : rIxL K (.ref a) (.int i) H Q := ⟨a, xs, i, v, rfl, rfl, h, e, q⟩
theorem z_ixT {a : Addr} {xs : List V} {i : Int} (h : SqT K H a xs) (e : atI xs i = some v) (q : Q v H) : rIxT K (.ref a) (.int i) H Q := ⟨a, xs, i, v, rfl, rfl, h, e, q⟩
theorem z_getL {a : Addr} {xs : List V} {k : Nat} (h : SqL K H a xs) (e : xs[k]? = some v) (q : Q v H) : rGetL K (.ref a) (.int k) H Q := ⟨a, xs, k, v, rfl, rfl, by omega, h, by simpa using e, q⟩
/-! statements -/
theorem at_slots (h : t D σ H) : t D σ H := h
theorem z_seq (q : t { D with nx := u D } σ H) : tSeq t u D σ H := q
theorem z_next (q : D.nx σ H) : tNext D σ H := q
theorem z_if {t u : TS} (q : c σ H fun b H1 => if b = true then t D σ H1 else u D σ H1) : tIfS c t u D σ H := q
theorem z_ret (q : te σ H D.rt) : tRet te D σ H := q
theorem z_retN (q : D.rt .non H) : tRetN D σ H := q
theorem z_drop (q : te σ H fun _ H1 => D.nx σ H1) : tDrop te D σ H := q
theorem z_asg {g : TG} (q : te σ H fun x H1 => g x σ H1 D.nx) : tAsg te g D σ H := q
theorem z_name {i : Nat} {N : L2.St → Hp → Prop} (q : N (σ.set i (some v)) H) : gName i v σ H N := q
theorem z_sub {s : TSet} {N : L2.St → Hp → Prop} (q : ta σ H fun o H1 => tb σ H1 fun i H2 => s o i v H2 fun H3 => N σ H3) : gSub ta tb s v σ H N := q
theorem z_setL {l : Addr} {xs : List V} {k : Nat} {N : Hp → Prop} (h : H l = some (.lst xs)) (hk : k < xs.length) (q : N (upd H l (.lst (xs.set k v)))) : rSetL (.ref l) (.int k) v H N :=
  ⟨l, xs, k, k, rfl, rfl, h, Evl.ixN_nat hk, q⟩
theorem z_gtup2 {a : Addr} {x y : V} {t u : TG} {N : L2.St → Hp → Prop} (h : SqT K H a [x, y]) (q : t x σ H fun σ' H' => u y σ' H' N) : gTup K 2 (gCons t (gCons u gNil)) (.ref a) σ H N :=
  ⟨a, [x, y], rfl, h, rfl, x, [y], rfl, (by
    have e : (fun σ' H' => u y σ' H' N) = fun σ' H' => gCons u gNil [y] σ' H' N := by
      funext σ' H'
      refine propext ⟨fun z => ⟨y, [], rfl, ?_⟩, fun ⟨v, r, e, z⟩ => ?_⟩
      · have e2 : (fun σ'' H'' => gNil [] σ'' H'' N) = N := by
          funext σ'' H''
          exact propext ⟨fun z => z.2, fun z => ⟨rfl, z⟩⟩
        rw [e2]; exact z
      · cases e
        have e2 : (fun σ'' H'' => gNil [] σ'' H'' N) = N := by
          funext σ'' H''
          exact propext ⟨fun z => z.2, fun z => ⟨rfl, z⟩⟩
        rw [e2] at z; exact z
    rw [e] at q
    exact q)⟩
theorem gnil_eq (N : L2.St → Hp → Prop) : (fun σ' H' => gNil [] σ' H' N) = N := by
  funext σ' H'
  exact propext ⟨fun z => z.2, fun z => ⟨rfl, z⟩⟩
theorem gcons_eq (t : TG) (u : TGs) (x : V) (r : List V) (N : L2.St → Hp → Prop) : (fun σ' H' => gCons t u (x :: r) σ' H' N) = fun σ' H' => t x σ' H' fun σ2 H2 => u r σ2 H2 N := by
  funext σ' H'
  exact propext ⟨fun ⟨v, r', e, z⟩ => by cases e; exact z, fun z => ⟨x, r, rfl, z⟩⟩
theorem z_gtup3 {a : Addr} {x y w : V} {t u s : TG} {N : L2.St → Hp → Prop} (h : SqT K H a [x, y, w]) (q : t x σ H fun σ' H' => u y σ' H' fun σ2 H2 => s w σ2 H2 N) : gTup K 3 (gCons t (gCons u (gCons s gNil))) (.ref a) σ H N :=
  ⟨a, [x, y, w], rfl, h, rfl, x, [y, w], rfl, (by
    rw [gcons_eq u]
    have e : (fun σ' H' => gCons s gNil [w] σ' H' N) = fun σ' H' => s w σ' H' N := by
      rw [gcons_eq s]
      funext σ' H'
      rw [gnil_eq N]
    rw [e]
    exact q)⟩
theorem z_aug {i : Nat} {ti : TIp} (h : σ[i]? = some (some x)) (q : te σ H fun y H1 => ti x y H1 fun z H2 => D.nx (σ.set i (some z)) H2) : tAug i te ti D σ H := ⟨x, h, q⟩
theorem z_ip {f : Int → Int → Int} (q : Q (.int (f i j)) H) : ipI f (.int i) (.int j) H Q := ⟨i, j, rfl, rfl, q⟩
theorem z_augS {to ti : TE} {tget : V → V → Hp → VK → Prop} {tip : TIp} {tset : TSet} (q : to σ H fun o H1 => ti σ H1 fun i H2 => tget o i H2 fun x H3 => te σ H3 fun y H4 => tip x y H4 fun z H5 => tset o i z H5 fun H6 => D.nx σ H6) : tAugS to ti te tget tip tset D σ H := q
/-- xs.append(e) -/
theorem z_bm {T : String} {r : V → List V → Hp → VK → Prop} {to : TE} {t : TA} (q : to σ H fun x H1 => tyV K T x H1 ∧ t σ H1 fun xs H2 => r x xs H2 Q) : tBM K T r to t σ H Q := q
theorem z_bm0 {T : String} {r : V → List V → Hp → VK → Prop} {to : TE} (q : to σ H fun x H1 => tyV K T x H1 ∧ r x [] H1 Q) : tBM0 K T r to σ H Q := q
theorem tyL {l : Addr} {xs : List V} (h : H l = some (.lst xs)) : tyV K "list" (.ref l) H := Or.inl ⟨rfl, _, Or.inl (Or.inl h)⟩
theorem z_app {l : Addr} {xs : List V} (h : H l = some (.lst xs)) (hz : xs.length < sizeLine) (q : Q .non (upd H l (.lst (xs ++ [v])))) : rAppend (.ref l) [v] H Q := ⟨l, xs, v, rfl, rfl, h, hz, q⟩
theorem z_din (q : ta σ H fun y H1 => tb σ H1 fun x H2 => ∃ a o, x = .ref a ∧ DGet H2 a y o ∧ Q (.bl o.isSome) H2) : tDIn ta tb σ H Q := q
theorem z_dnotin (q : ta σ H fun y H1 => tb σ H1 fun x H2 => ∃ a o, x = .ref a ∧ DGet H2 a y o ∧ Q (.bl (!o.isSome)) H2) : tDNotIn ta tb σ H Q := q
theorem z_dgetI {a : Addr} {kvs : List (Key × V)} {i : Int} {P : Option V → Prop} (h : H a = some (.dK kvs)) (q : P (valV kvs (Sum.inl i : Key))) : ∃ b o, V.ref a = .ref b ∧ DGet H b (.int i) o ∧ P o := ⟨a, _, rfl, DGet.k (k := Sum.inl i) h, q⟩
theorem z_dput (q : tc σ H fun v H1 => ta σ H1 fun x H2 => tb σ H2 fun y H3 => ∃ a H4, x = .ref a ∧ DPut H3 a y v H4 ∧ D.nx σ H4) : sDPut ta tb tc D σ H := q
theorem z_dputI {a : Addr} {kvs : List (Key × V)} {i : Int} {P : Hp → Prop} (h : H a = some (.dK kvs)) (hl : kvs.length < sizeLine) (q : P (upd H a (.dK (putK kvs (Sum.inl i : Key) v)))) : ∃ b H4, V.ref a = .ref b ∧ DPut H b (.int i) v H4 ∧ P H4 := ⟨a, _, rfl, DPut.k (k := Sum.inl i) h hl, q⟩
/-- isinstance of a thing and a built-in class -/
theorem z_isi {t : Value} {n : String} {b : Bool} (ht : TyX K H x t) (h : PySem.W.kitOne K t (.type n) = some b) (q : Q (.bl b) H) : rIsi K [x, .ty n] H Q := ⟨x, .ty n, t, .type n, b, rfl, .ty n, ht, h, q⟩
/-- slices -/
theorem z_sl {r : V → Option Int → Option Int → Hp → VK → Prop} {tl th : TO} (q : te σ H fun x H1 => tl σ H1 fun l H2 => th σ H2 fun u H3 => r x l u H3 Q) : tSl r te tl th σ H Q := q
theorem z_part {Q : Option Int → Hp → Prop} (q : te σ H fun x H1 => ∃ i, x = .int i ∧ Q (some i) H1) : tPart te σ H Q := q
theorem z_nopart {Q : Option Int → Hp → Prop} (q : Q none H) : tNoPart σ H Q := q
theorem z_int {P : Int → Prop} (q : P i) : ∃ k, V.int i = .int k ∧ P k := ⟨i, rfl, q⟩
/-! built-ins by name -/
theorem tyx_L {a : Addr} {xs : List V} (h : SqL K H a xs) : TyX K H (.ref a) (.type "list") := by
  rcases h with (h | ⟨o, h⟩) | ⟨o, its, n, hk, hc, _⟩
  · exact .base (.lst h)
  · exact .base (.frz h)
  · exact .kList hk hc
theorem tyx_T {a : Addr} {xs : List V} (h : SqT K H a xs) : TyX K H (.ref a) (.type "tuple") := by
  rcases h with (h | ⟨o, h⟩) | ⟨o, its, n, hk, hc, _⟩
  · exact .base (.tup h)
  · exact .fTuple h
  · exact .kTuple hk hc
def rLen (K : PySem.W.Frag) : List V → Hp → VK → Prop := fun xs H Q => ∃ p ys, xs = [.ref p] ∧ (SqL K H p ys ∨ SqT K H p ys) ∧ Q (.int ys.length) H
theorem call_lenK {X : Cx} : CallR X (.builtin "len") (rLen X.K) := call_len_seq
def rLenD : List V → Hp → VK → Prop := fun xs H Q => ∃ a kvs, xs = [V.ref a] ∧ H a = some (.dK kvs) ∧ Q (.int kvs.length) H
theorem call_lenDK {X : Cx} : CallR X (.builtin "len") rLenD := call_lenD
def rInt1 : List V → Hp → VK → Prop := fun xs H Q => (∃ i, xs = [.int i] ∧ Q (.int i) H) ∨ ∃ k, xs = [.bl k] ∧ Q (.int (if k then 1 else 0)) H
theorem call_int1K {X : Cx} : CallR X (.type "int") rInt1 := call_int1
def rMax2 : List V → Hp → VK → Prop := fun xs H Q => ∃ i j, xs = [.int i, .int j] ∧ Q (.int (if j > i then j else i)) H
theorem call_max2K {X : Cx} (hc : X.calm = true) : CallR X (.builtin "max") rMax2 := call_max2 hc
def rMin2 : List V → Hp → VK → Prop := fun xs H Q => ∃ i j, xs = [.int i, .int j] ∧ Q (.int (if j < i then j else i)) H
theorem call_min2K {X : Cx} (hc : X.calm = true) : CallR X (.builtin "min") rMin2 := call_min2 hc
def rListOf (K : PySem.W.Frag) : List V → Hp → VK → Prop := fun xs H Q => ∃ p ys, xs = [.ref p] ∧ (SqL K H p ys ∨ SqT K H p ys) ∧ ∀ l, H l = none → Q (.ref l) (upd H l (.lst ys))
theorem call_list_ofK {X : Cx} : CallR X (.type "list") (rListOf X.K) := call_list_of
theorem z_lenL {a : Addr} {xs : List V} (h : SqL K H a xs) (q : Q (.int xs.length) H) : rLen K [.ref a] H Q := ⟨a, xs, rfl, .inl h, q⟩
theorem z_lenT {a : Addr} {xs : List V} (h : SqT K H a xs) (q : Q (.int xs.length) H) : rLen K [.ref a] H Q := ⟨a, xs, rfl, .inr h, q⟩
theorem z_lenDt {α : Type} [DecidableEq α] [Datum α] {xs : List α} (h : Dt K H v xs) (q : Q (.int xs.length) H) : rLen K [v] H Q := by
  obtain ⟨a, vs, rfl, h1, h2⟩ := h.list
  exact ⟨a, vs, rfl, .inl h1, by rw [h2.length]; exact q⟩
theorem z_lenD {a : Addr} {kvs : List (Key × V)} (h : H a = some (.dK kvs)) (q : Q (.int kvs.length) H) : rLenD [.ref a] H Q := ⟨a, kvs, rfl, h, q⟩
theorem z_int1b {b : Bool} (q : Q (.int (if b then 1 else 0)) H) : rInt1 [.bl b] H Q := .inr ⟨b, rfl, q⟩
theorem z_max2 (q : Q (.int (if j > i then j else i)) H) : rMax2 [.int i, .int j] H Q := ⟨i, j, rfl, q⟩
theorem z_min2 (q : Q (.int (if j < i then j else i)) H) : rMin2 [.int i, .int j] H Q := ⟨i, j, rfl, q⟩
theorem z_sum {a : Addr} {ns : List Int} (h : SqL K H a (ns.map V.int)) (q : Q (.int ns.sum) H) : rSum K [.ref a] H Q := ⟨a, ns, rfl, h, q⟩
theorem z_listOf {α : Type} [DecidableEq α] [Datum α] {xs : List α} (h : Dt K H v xs) (q : ∀ l vs, H l = none → DtAll K H vs xs → Q (.ref l) (upd H l (.lst vs))) : rListOf K [v] H Q := by
  obtain ⟨a, vs, rfl, h1, h2⟩ := h.list
  exact ⟨a, vs, rfl, .inl h1, fun l hl => q l vs hl h2⟩
theorem z_ixSL {a : Addr} {xs : List V} {i : Int} (h : SqL K H a xs) (e : atI xs i = some v) (q : Q v H) : rIx K (.ref a) (.int i) H Q := .inl ⟨a, xs, i, v, rfl, rfl, h, e, q⟩
theorem z_ixST {a : Addr} {xs : List V} {i : Int} (h : SqT K H a xs) (e : atI xs i = some v) (q : Q v H) : rIx K (.ref a) (.int i) H Q := .inr (.inl ⟨a, xs, i, v, rfl, rfl, h, e, q⟩)
theorem z_rep {l : Addr} {n : Nat} (h : H l = some (.lst [v])) (hn : n ≤ 100000) (q : ∀ p, H p = none → Q (.ref p) (upd H p (.lst (List.replicate n v)))) : rRep (.ref l) (.int n) H Q := by
  refine ⟨l, n, [v], rfl, rfl, h, by omega, by omega, ?_, fun p hp => ?_⟩
  · show 1 * _ ≤ _
    rw [Nat.one_mul]
    exact Nat.le_trans (show (n : Int).toNat ≤ 100000 by omega) (by decide)
  · have e : (List.replicate ((n : Int)).toNat [v]).flatten = List.replicate n v := by
      rw [Int.toNat_natCast]
      clear q hn h
      induction n with
      | zero => rfl
      | succ n ih => rw [List.replicate_succ, List.flatten_cons, ih]; rfl
    rw [e]
    exact q p hp
def rIsN : R2 := fun x y H Q => y = .non ∧ Q (.bl (decide (x = .non))) H
def rNotN : R2 := fun x y H Q => y = .non ∧ Q (.bl (!decide (x = .non))) H
theorem op_isNK {X : Cx} : OpR X (compareOp .Is) rIsN := op_isN
theorem op_notNK {X : Cx} : OpR X (compareOp .IsNot) rNotN := op_notN
def rIsBl : R2 := fun x y H Q => ∃ a b, x = .bl a ∧ y = .bl b ∧ Q (.bl (decide (a = b))) H
def rNotBl : R2 := fun x y H Q => ∃ a b, x = .bl a ∧ y = .bl b ∧ Q (.bl (!decide (a = b))) H
theorem op_isBK {X : Cx} : OpR X (compareOp .Is) rIsBl := op_is_bl
theorem op_notBK {X : Cx} : OpR X (compareOp .IsNot) rNotBl := op_isnot_bl
theorem z_isBl {a b : Bool} (q : Q (.bl (decide (a = b))) H) : rIsBl (.bl a) (.bl b) H Q := ⟨a, b, rfl, rfl, q⟩
theorem z_notBl {a b : Bool} (q : Q (.bl (!decide (a = b))) H) : rNotBl (.bl a) (.bl b) H Q := ⟨a, b, rfl, rfl, q⟩
theorem dec_bb {a b : Bool} : decide (V.bl a = V.bl b) = decide (a = b) := by cases a <;> cases b <;> rfl
theorem z_eqB {a b : Bool} (q : Q (.bl (decide (a = b))) H) : rEq (.bl a) (.bl b) H Q := ⟨rfl, by rw [dec_bb]; exact q⟩
theorem z_neB {a b : Bool} (q : Q (.bl (!decide (a = b))) H) : rNe (.bl a) (.bl b) H Q := ⟨rfl, by rw [dec_bb]; exact q⟩
theorem z_notNI (q : Q (.bl true) H) : rNotN (.int i) .non H Q := ⟨rfl, q⟩
theorem z_notNN (q : Q (.bl false) H) : rNotN .non .non H Q := ⟨rfl, q⟩
theorem z_isNI (q : Q (.bl false) H) : rIsN (.int i) .non H Q := ⟨rfl, q⟩
theorem z_isNN (q : Q (.bl true) H) : rIsN .non .non H Q := ⟨rfl, q⟩
theorem z_isN (q : Q (.bl (decide (x = .non))) H) : rIsN x .non H Q := ⟨rfl, q⟩
theorem z_notN (q : Q (.bl (!decide (x = .non))) H) : rNotN x .non H Q := ⟨rfl, q⟩
theorem z_pop {l : Addr} {xs : List V} {y : V} (h : H l = some (.lst (xs ++ [y]))) (q : Q y (upd H l (.lst xs))) : rPop (.ref l) [] H Q :=
  ⟨l, xs ++ [y], y, rfl, rfl, h, by simp, by rw [List.dropLast_concat]; exact q⟩
theorem z_pop0 {l : Addr} {xs : List V} {y : V} (h : H l = some (.lst (y :: xs))) (q : Q y (upd H l (.lst xs))) : rPopAt (.ref l) [.int 0] H Q :=
  ⟨l, y :: xs, 0, 0, y, rfl, rfl, h, by decide, by decide, by simp [seqIndex?], rfl, q⟩
/-- a dict written with one pair -/
theorem z_disp1 {k : Int} (h1 : ∀ H1 (R : VK), R (.int k) H1 → ta σ H1 R) (h2 : ∀ H1 (R : VK), R v H1 → tb σ H1 R) (q : ∀ p, H p = none → Q (.ref p) (upd H p (.dK [((Sum.inl k : Key), v)]))) : tDisp [(ta, tb)] σ H Q := by
  intro p hp
  show ta σ _ fun x H1 => tb σ H1 fun y H2 => tPairs [] σ H2 fun ps H3 => _
  refine h1 _ _ (h2 _ _ ?_)
  refine ⟨upd_same, [((Sum.inl k : Key), v)], rfl, (by show 1 ≤ 15; decide), ?_⟩
  have e : upd (upd H p (.dK [])) p (.dK (mergeK [] [((Sum.inl k : Key), v)])) = upd H p (.dK [((Sum.inl k : Key), v)]) := by
    funext b
    by_cases c : b = p
    · subst c; rw [upd_same, upd_same]; rfl
    · rw [upd_ne c, upd_ne c, upd_ne c]
  rw [e]
  exact q p hp
theorem inV_ints (i : Int) (l : List Int) : inV (.int i) (l.map V.int) = decide (i ∈ l) := by
  unfold inV
  rw [List.any_map, Bool.eq_iff_iff, List.any_eq_true, decide_eq_true_eq]
  constructor
  · rintro ⟨x, hx, e⟩
    have e : (x == i) = true := e
    rw [beq_iff_eq] at e
    rw [← e]; exact hx
  · intro h
    exact ⟨i, h, show (i == i) = true from beq_self_eq_true i⟩
theorem flat_ints (l : List Int) : (l.map V.int).all flatV = true := by
  rw [List.all_map, List.all_eq_true]
  intro x _; rfl
theorem z_inT {i : Int} {l : List Int} {t : Addr} (h : SqT K H t (l.map V.int)) (q : Q (.bl (decide (i ∈ l))) H) : rIn K false (.int i) (.ref t) H Q := ⟨t, _, rfl, .inr h, rfl, flat_ints l, by rw [inV_ints]; exact q⟩
theorem z_inL {i : Int} {l : List Int} {t : Addr} (h : SqL K H t (l.map V.int)) (q : Q (.bl (decide (i ∈ l))) H) : rIn K false (.int i) (.ref t) H Q := ⟨t, _, rfl, .inl h, rfl, flat_ints l, by rw [inV_ints]; exact q⟩
/-! rules with the written part named -/
section
variable (K : PySem.W.Frag) {X : Cx}
theorem ixL (h : X.K = K := by rfl) : IxR X (rIxL K) := h ▸ ix_list
theorem ixT (h : X.K = K := by rfl) : IxR X (rIxT K) := h ▸ ix_tup
theorem ixS (h : X.K = K := by rfl) : IxR X (rIx K) := h ▸ ix_seq
theorem opEqD (hu : X.A.units + 64 < cLine) (h : X.K = K := by rfl) : OpR X (compareOp .Eq) (rEqD K) := h ▸ op_eqD hu
theorem opNeD (hu : X.A.units + 64 < cLine) (h : X.K = K := by rfl) : OpR X (compareOp .NotEq) (rNeD K) := h ▸ op_neD hu
theorem opIn (h : X.K = K := by rfl) : OpR X (compareOp .In) (rIn K false) := h ▸ op_in_seq
theorem opNotIn (h : X.K = K := by rfl) : OpR X (compareOp .NotIn) (rIn K true) := h ▸ op_notIn_seq
theorem callLen (h : X.K = K := by rfl) : CallR X (.builtin "len") (rLen K) := h ▸ call_lenK
theorem callIsi (h : X.K = K := by rfl) : CallR X (.builtin "isinstance") (rIsi K) := h ▸ call_isi
theorem callListOf (h : X.K = K := by rfl) : CallR X (.type "list") (rListOf K) := h ▸ call_list_ofK
theorem crSum (hc : X.calm = true) (h : X.K = K := by rfl) : CallR X (.builtin "sum") (rSum K) := h ▸ cr_sum hc
theorem crMax (hc : X.calm = true) (h : X.K = K := by rfl) : CallR X (.builtin "max") (rMax K) := h ▸ cr_max hc
theorem crMin (hc : X.calm = true) (h : X.K = K := by rfl) : CallR X (.builtin "min") (rMin K) := h ▸ cr_min hc
theorem crSorted (h : X.K = K := by rfl) : CallR X (.builtin "sorted") (rSorted K) := h ▸ cr_sorted
theorem slL (h : X.K = K := by rfl) : SlR X (rSlL K) := h ▸ sl_list
theorem piL {tg l : Expr} {tl : TE} (hl : PE X l tl) (h : X.K = K := by rfl) : PI X tg l (iList K tl) := h ▸ pi_list hl
theorem piT {tg l : Expr} {tl : TE} (hl : PE X l tl) (h : X.K = K := by rfl) : PI X tg l (iTup K tl) := h ▸ pi_tup hl
theorem getL (h : X.K = K := by rfl) : PGet X (rGetL K) := h ▸ get_list
end
/-! branches -/
theorem z_ite {p A B : Prop} [Decidable p] (h1 : p → A) (h2 : ¬ p → B) : if decide p = true then A else B := by
  by_cases h : p
  · rw [decide_eq_true h]; exact h1 h
  · rw [decide_eq_false h]; exact iteF (h2 h)
theorem z_iteN {p A B : Prop} [Decidable p] (h1 : ¬ p → A) (h2 : p → B) : if (!decide p) = true then A else B := by
  by_cases h : p
  · rw [decide_eq_true h]; exact iteF (h2 h)
  · rw [decide_eq_false h]; exact h1 h
theorem z_iteb {b : Bool} {A B : Prop} (h1 : b = true → A) (h2 : b = false → B) : if b = true then A else B := by
  cases b with
  | true => exact h1 rfl
  | false => exact iteF (h2 rfl)
theorem z_iteT {A B : Prop} (h : A) : if true = true then A else B := h
theorem z_iteF {A B : Prop} (h : B) : if false = true then A else B := iteF h
theorem z_iteNT {A B : Prop} (h : B) : if (!true) = true then A else B := iteF h
theorem z_iteNF {A B : Prop} (h : A) : if (!false) = true then A else B := h
/-! slices, sums of lists -/
theorem cutV_from (xs : List V) (k : Nat) : cutV xs (some (k : Int)) none = xs.drop k := by
  unfold cutV
  rw [HT.sIx_nat, HT.sIx_none]
  by_cases h : k ≤ xs.length
  · rw [Nat.min_eq_left h, List.take_of_length_le (by rw [List.length_drop]; exact Nat.le_refl _)]
  · rw [Nat.min_eq_right (by omega), List.drop_length, List.drop_of_length_le (by omega)]; simp
theorem cutV_to (xs : List V) (k : Nat) : cutV xs none (some (k : Int)) = xs.take k := by
  unfold cutV
  rw [HT.sIx_nat, HT.sIx_none, List.drop_zero, Nat.sub_zero]
  by_cases h : k ≤ xs.length
  · rw [Nat.min_eq_left h]
  · rw [Nat.min_eq_right (by omega), List.take_length, List.take_of_length_le (by omega)]
theorem z_slL {a : Addr} {xs : List V} {lo hi : Option Int} (h : SqL K H a xs) (q : ∀ p, H p = none → Q (.ref p) (upd H p (.lst (cutV xs lo hi)))) : rSlL K (.ref a) lo hi H Q := ⟨a, xs, rfl, h, q⟩
theorem z_cat {a b : Addr} {xs ys : List V} (h1 : H a = some (.lst xs)) (h2 : H b = some (.lst ys)) (hz : xs.length + ys.length ≤ sizeLine) (q : ∀ p, H p = none → Q (.ref p) (upd H p (.lst (xs ++ ys)))) : rCat (.ref a) (.ref b) H Q := ⟨a, b, xs, ys, rfl, rfl, h1, h2, hz, q⟩
/-- values that an expression has whatever follows -/
def Pv1 (te : TE) (σ : L2.St) (H : Hp) (v : V) : Prop := ∀ R : VK, R v H → te σ H R
def Pt1 (t : TT) (σ : L2.St) (H : Hp) (b : Bool) : Prop := ∀ R : Bool → Hp → Prop, R b H → t σ H R
theorem z_andV2 {p q : Bool} (h1 : Pv1 ta σ H (.bl p)) (h2 : Pv1 tb σ H (.bl q)) (k : Q (.bl (p && q)) H) : tAndV ta tb σ H Q := by
  refine h1 _ ⟨p, rfl, ?_⟩
  cases p with
  | true => exact h2 _ k
  | false => exact iteF k
theorem z_orV2 {p q : Bool} (h1 : Pv1 ta σ H (.bl p)) (h2 : Pv1 tb σ H (.bl q)) (k : Q (.bl (p || q)) H) : tOrV ta tb σ H Q := by
  refine h1 _ ⟨p, rfl, ?_⟩
  cases p with
  | true => exact k
  | false => exact iteF (h2 _ k)
theorem z_and2 {t u : TT} {p q : Bool} (h1 : Pt1 t σ H p) (h2 : Pt1 u σ H q) (k : QB (p && q) H) : tAnd t u σ H QB := by
  refine h1 _ ?_
  cases p with
  | true => exact h2 _ k
  | false => exact iteF k
theorem z_or2 {t u : TT} {p q : Bool} (h1 : Pt1 t σ H p) (h2 : Pt1 u σ H q) (k : QB (p || q) H) : tOr t u σ H QB := by
  refine h1 _ ?_
  cases p with
  | true => exact k
  | false => exact iteF (h2 _ k)
theorem z_cut {t u : TS} (M : L2.St → Hp → Prop) (h : t { D with nx := M } σ H) (k : ∀ σ' H', M σ' H' → u D σ' H') : Evl.tCut t u D σ H := ⟨M, h, k⟩
/-! loops -/
theorem z_for {wi : TI} {g : TG} {tb : TS} (q : wi σ H fun J H1 => ∃ W : Nat → Nat → L2.St → Hp → Prop, (∃ m, W 0 m σ H1) ∧ ∀ i m σ H, W i m σ H →
  (J.stop i H ∧ D.nx σ H) ∨ (J.go i H ∧ ∃ N : L2.St → Hp → Prop, (∀ σ' H', N σ' H' → ∃ m', m' < m ∧ W (i + 1) m' σ' H') ∧ ∀ x H', J.yld i H x H' → g x σ H' fun σ2 H2 => tb { D with nx := N, ct := N, bk := D.nx } σ2 H2)) : tFor wi g tb D σ H := q
/-- a for over a list that holds xs: behind z_for, once the list's address is known -/
theorem z_loop {α : Type} [DecidableEq α] [Datum α] {Hb : Hp} {a : Addr} {xs : List α} {g : TG} {tb : TS} (hx : Dt K Hb (.ref a) xs) (Pv : List α → L2.St → Hp → Prop) (h0 : Pv [] σ H) (hl : ∀ pre σ' H', Pv pre σ' H' → Ex Hb H')
    (hs : ∀ pre y post v σ' H', xs = pre ++ y :: post → Dt K Hb v y → Pv pre σ' H' → g v σ' H' fun σ2 H2 => tb { D with nx := Pv (pre ++ [y]), ct := Pv (pre ++ [y]), bk := D.nx } σ2 H2) (hd : ∀ σ' H', Pv xs σ' H' → D.nx σ' H') :
    ∃ a', V.ref a = V.ref a' ∧ (∃ vs, SqL K H a' vs) ∧ ∃ W : Nat → Nat → L2.St → Hp → Prop, (∃ m, W 0 m σ H) ∧ ∀ i m σ H, W i m σ H →
      ((Itl K a').stop i H ∧ D.nx σ H) ∨ ((Itl K a').go i H ∧ ∃ N : L2.St → Hp → Prop, (∀ σ' H', N σ' H' → ∃ m', m' < m ∧ W (i + 1) m' σ' H') ∧ ∀ x H', (Itl K a').yld i H x H' → g x σ H' fun σ2 H2 => tb { D with nx := N, ct := N, bk := D.nx } σ2 H2) := by
  obtain ⟨a', vs, e, hs1, hs2⟩ := hx.list
  cases e
  have hl' := hs2.length
  refine ⟨a, rfl, ⟨vs, ex_l (hl _ _ _ h0) hs1⟩, for_list (K := K) (a := a) (xs := vs) (fun i σ H => Pv (xs.take i) σ H) (by rw [List.take_zero]; exact h0) (fun i σ' H' _ p => ex_l (hl _ _ _ p) hs1) ?_ ?_⟩
  · intro i v σ' H' hv p
    obtain ⟨y, hy, hd⟩ := hs2.get hv
    have hi := (List.getElem?_eq_some_iff.mp hy)
    obtain ⟨hi, ey⟩ := hi
    have e1 : xs = xs.take i ++ y :: xs.drop (i + 1) := by
      rw [← ey, List.getElem_cons_drop, List.take_append_drop]
    have e2 : xs.take (i + 1) = xs.take i ++ [y] := by
      rw [List.take_succ, hy]
      rfl
    show g v σ' H' fun σ2 H2 => tb { D with nx := Pv (xs.take (i + 1)), ct := Pv (xs.take (i + 1)), bk := D.nx } σ2 H2
    rw [e2]
    exact hs _ _ _ _ _ _ e1 hd p
  · intro σ' H' p
    show D.nx σ' H'
    rw [hl', List.take_length] at p
    exact hd σ' H' p
theorem z_iList {tl : TE} {R : It → Hp → Prop} (q : tl σ H fun x H1 => ∃ a, x = .ref a ∧ (∃ xs, SqL K H1 a xs) ∧ R (Itl K a) H1) : iList K tl σ H R := q
/-- the list stands in a slot -/
theorem z_forV {α : Type} [DecidableEq α] [Datum α] {n : Nat} {Hb : Hp} {a : Addr} {xs : List α} {g : TG} {tb : TS} (hx : Dt K Hb (.ref a) xs) (hn : σ[n]? = some (some (.ref a))) (Pv : List α → L2.St → Hp → Prop) (h0 : Pv [] σ H) (hl : ∀ pre σ' H', Pv pre σ' H' → Ex Hb H')
    (hs : ∀ pre y post v σ' H', xs = pre ++ y :: post → Dt K Hb v y → Pv pre σ' H' → g v σ' H' fun σ2 H2 => tb { D with nx := Pv (pre ++ [y]), ct := Pv (pre ++ [y]), bk := D.nx } σ2 H2) (hd : ∀ σ' H', Pv xs σ' H' → D.nx σ' H') : tFor (iList K (tVar n)) g tb D σ H :=
  ⟨_, hn, z_loop hx Pv h0 hl hs hd⟩
/-- a comprehension, its list's address known (behind z_lc) -/
theorem z_lc {wi : TI} {g : TG} {tt : TT} {vs : List Nat} (q : wi σ H fun J H1 => ∀ D, H1 D = none → ∃ W : Nat → Nat → Hp → Prop, (∃ m, W 0 m (upd H1 D (.lst []))) ∧ ∀ i m H, W i m H →
  (J.stop i H ∧ Q (.ref D) H) ∨ (J.go i H ∧ ∃ Nx : Hp → Prop, (∀ H', Nx H' → ∃ m', m' < m ∧ W (i + 1) m' H') ∧ ∀ x H', J.yld i H x H' → g x (wipe σ vs) H' fun σ2 H2 => wipe σ2 vs = wipe σ vs ∧ tt σ2 H2 fun b H3 =>
    if b = true then te σ2 H3 fun y H4 => ∃ acc, H4 D = some (.lst acc) ∧ acc.length < sizeLine ∧ Nx (upd H4 D (.lst (acc ++ [y]))) else Nx H3)) : tLc wi g tt te vs σ H Q := q
theorem z_yes (q : QB true H) : tYes σ H QB := q
theorem z_lcloop {QD : Addr → Hp → Prop} {α : Type} [DecidableEq α] [Datum α] {Hb : Hp} {a : Addr} {xs : List α} {g : TG} {tt : TT} {vs : List Nat} (hx : Dt K Hb (.ref a) xs) (h0 : Ex Hb H)
    (h : ∀ D, H D = none → ∃ Pv : List α → Hp → Prop, Pv [] (upd H D (.lst [])) ∧ (∀ pre H', Pv pre H' → Ex Hb H') ∧
      (∀ pre y post v H', xs = pre ++ y :: post → Dt K Hb v y → Pv pre H' → g v (wipe σ vs) H' fun σ2 H2 => wipe σ2 vs = wipe σ vs ∧ tt σ2 H2 fun b H3 =>
        if b = true then te σ2 H3 fun y' H4 => ∃ acc, H4 D = some (.lst acc) ∧ acc.length < sizeLine ∧ Pv (pre ++ [y]) (upd H4 D (.lst (acc ++ [y']))) else Pv (pre ++ [y]) H3) ∧ ∀ H', Pv xs H' → QD D H') :
    ∃ a', V.ref a = V.ref a' ∧ (∃ vs, SqL K H a' vs) ∧ ∀ D, H D = none → ∃ W : Nat → Nat → Hp → Prop, (∃ m, W 0 m (upd H D (.lst []))) ∧ ∀ i m H, W i m H →
      ((Itl K a').stop i H ∧ QD D H) ∨ ((Itl K a').go i H ∧ ∃ Nx : Hp → Prop, (∀ H', Nx H' → ∃ m', m' < m ∧ W (i + 1) m' H') ∧ ∀ x H', (Itl K a').yld i H x H' → g x (wipe σ vs) H' fun σ2 H2 => wipe σ2 vs = wipe σ vs ∧ tt σ2 H2 fun b H3 =>
        if b = true then te σ2 H3 fun y H4 => ∃ acc, H4 D = some (.lst acc) ∧ acc.length < sizeLine ∧ Nx (upd H4 D (.lst (acc ++ [y]))) else Nx H3) := by
  obtain ⟨a', ws, e, hs1, hs2⟩ := hx.list
  cases e
  have hl' := hs2.length
  refine ⟨a, rfl, ⟨ws, ex_l h0 hs1⟩, fun D hD => ?_⟩
  obtain ⟨Pv, p0, pl, ps, pd⟩ := h D hD
  refine lc_list (K := K) (a := a) (xs := ws) (fun i H => Pv (xs.take i) H) (by rw [List.take_zero]; exact p0) (fun i H' _ p => ex_l (pl _ _ p) hs1) ?_ ?_
  · intro i v H' hv p
    obtain ⟨y, hy, hd⟩ := hs2.get hv
    have hi := (List.getElem?_eq_some_iff.mp hy)
    obtain ⟨hi, ey⟩ := hi
    have e1 : xs = xs.take i ++ y :: xs.drop (i + 1) := by
      rw [← ey, List.getElem_cons_drop, List.take_append_drop]
    have e2 : xs.take (i + 1) = xs.take i ++ [y] := by
      rw [List.take_succ, hy]
      rfl
    rw [e2]
    exact ps _ _ _ _ _ e1 hd p
  · intro H' p
    rw [hl', List.take_length] at p
    exact pd H' p
theorem z_lcrloop {QD : Addr → Hp → Prop} {n : Nat} {g : TG} {tt : TT} {vs : List Nat} (hn : n ≤ 1000000)
    (h : ∀ D, H D = none → ∃ Pv : Nat → Hp → Prop, Pv 0 (upd H D (.lst [])) ∧
      (∀ i H', i < n → Pv i H' → g (.int (i : Int)) (wipe σ vs) H' fun σ2 H2 => wipe σ2 vs = wipe σ vs ∧ tt σ2 H2 fun b H3 =>
        if b = true then te σ2 H3 fun y' H4 => ∃ acc, H4 D = some (.lst acc) ∧ acc.length < sizeLine ∧ Pv (i + 1) (upd H4 D (.lst (acc ++ [y']))) else Pv (i + 1) H3) ∧ ∀ H', Pv n H' → QD D H') :
    ∃ j : Int, [V.int n] = [.int j] ∧ -(2 ^ 62) ≤ j ∧ j < 2 ^ 62 ∧ ∀ D, H D = none → ∃ W : Nat → Nat → Hp → Prop, (∃ m, W 0 m (upd H D (.lst []))) ∧ ∀ i m H, W i m H →
      ((Itr 0 j.toNat).stop i H ∧ QD D H) ∨ ((Itr 0 j.toNat).go i H ∧ ∃ Nx : Hp → Prop, (∀ H', Nx H' → ∃ m', m' < m ∧ W (i + 1) m' H') ∧ ∀ x H', (Itr 0 j.toNat).yld i H x H' → g x (wipe σ vs) H' fun σ2 H2 => wipe σ2 vs = wipe σ vs ∧ tt σ2 H2 fun b H3 =>
        if b = true then te σ2 H3 fun y H4 => ∃ acc, H4 D = some (.lst acc) ∧ acc.length < sizeLine ∧ Nx (upd H4 D (.lst (acc ++ [y]))) else Nx H3) := by
  refine ⟨(n : Int), rfl, by omega, by omega, fun D hD => ?_⟩
  obtain ⟨Pv, p0, ps, pd⟩ := h D hD
  have e : ((n : Int)).toNat = n := Int.toNat_natCast n
  rw [e]
  refine lc_range (lo := 0) (n := n) Pv p0 (fun i H' hi p => ?_) pd
  rw [Int.zero_add]
  exact ps i H' hi p
/-- a for over a tuple's two values, one turn after the other -/
theorem z_forT2 {n : Nat} {a : Addr} {x y : V} {g : TG} {tb : TS} (hx : SqT K H a [x, y]) (hn : σ[n]? = some (some (.ref a))) (P1 P2 : L2.St → Hp → Prop) (l1 : ∀ σ' H', P1 σ' H' → SqT K H' a [x, y]) (l2 : ∀ σ' H', P2 σ' H' → SqT K H' a [x, y])
    (h1 : g x σ H fun σ2 H2 => tb { D with nx := P1, ct := P1, bk := D.nx } σ2 H2) (h2 : ∀ σ' H', P1 σ' H' → g y σ' H' fun σ2 H2 => tb { D with nx := P2, ct := P2, bk := D.nx } σ2 H2) (hd : ∀ σ' H', P2 σ' H' → D.nx σ' H') : tFor (iTup K (tVar n)) g tb D σ H := by
  refine ⟨_, hn, a, rfl, ⟨_, hx⟩, for_tup (K := K) (a := a) (xs := [x, y]) (fun i σ' H' => (i = 0 ∧ σ' = σ ∧ H' = H) ∨ (i = 1 ∧ P1 σ' H') ∨ (i = 2 ∧ P2 σ' H')) (.inl ⟨rfl, rfl, rfl⟩) ?_ ?_ ?_⟩
  · rintro i σ' H' _ (⟨_, rfl, rfl⟩ | ⟨_, p⟩ | ⟨_, p⟩)
    · exact hx
    · exact l1 _ _ p
    · exact l2 _ _ p
  · rintro i z σ' H' hz (⟨rfl, rfl, rfl⟩ | ⟨rfl, p⟩ | ⟨rfl, p⟩)
    · cases hz
      have e : (fun σ'' H'' => ((0 + 1 : Nat) = 0 ∧ σ'' = σ' ∧ H'' = H') ∨ ((0 + 1 : Nat) = 1 ∧ P1 σ'' H'') ∨ ((0 + 1 : Nat) = 2 ∧ P2 σ'' H'')) = P1 := by
        funext σ'' H''
        exact propext ⟨fun z => by rcases z with z | z | z <;> first | exact z.2 | (exfalso; have := z.1; omega), fun z => .inr (.inl ⟨rfl, z⟩)⟩
      rw [e]
      exact h1
    · cases hz
      have e : (fun σ'' H'' => ((1 + 1 : Nat) = 0 ∧ σ'' = σ ∧ H'' = H) ∨ ((1 + 1 : Nat) = 1 ∧ P1 σ'' H'') ∨ ((1 + 1 : Nat) = 2 ∧ P2 σ'' H'')) = P2 := by
        funext σ'' H''
        exact propext ⟨fun z => by rcases z with z | z | z <;> first | exact z.2 | (exfalso; have := z.1; omega), fun z => .inr (.inr ⟨rfl, z⟩)⟩
      rw [e]
      exact h2 _ _ p
    · cases hz
  · rintro σ' H' (⟨e, _⟩ | ⟨e, _⟩ | ⟨_, p⟩)
    · cases e
    · cases e
    · exact hd _ _ p
/-- a for over range(n): behind z_for and the walk to n -/
theorem z_rloop {n : Nat} {g : TG} {tb : TS} (hn : n ≤ 1000000) (Pv : Nat → L2.St → Hp → Prop) (h0 : Pv 0 σ H)
    (hs : ∀ (i : Nat) σ' H', i < n → Pv i σ' H' → g (.int i) σ' H' fun σ2 H2 => tb { D with nx := Pv (i + 1), ct := Pv (i + 1), bk := D.nx } σ2 H2) (hd : ∀ σ' H', Pv n σ' H' → D.nx σ' H') :
    ∃ j : Int, [V.int n] = [.int j] ∧ -(2 ^ 62) ≤ j ∧ j < 2 ^ 62 ∧ ∃ W : Nat → Nat → L2.St → Hp → Prop, (∃ m, W 0 m σ H) ∧ ∀ i m σ H, W i m σ H →
      ((Itr 0 j.toNat).stop i H ∧ D.nx σ H) ∨ ((Itr 0 j.toNat).go i H ∧ ∃ N : L2.St → Hp → Prop, (∀ σ' H', N σ' H' → ∃ m', m' < m ∧ W (i + 1) m' σ' H') ∧ ∀ x H', (Itr 0 j.toNat).yld i H x H' → g x σ H' fun σ2 H2 => tb { D with nx := N, ct := N, bk := D.nx } σ2 H2) := by
  refine ⟨(n : Int), rfl, by omega, by omega, ?_⟩
  have e : ((n : Int)).toNat = n := Int.toNat_natCast n
  rw [e]
  refine for_range (lo := 0) (n := n) Pv h0 (fun i σ' H' hi p => ?_) hd
  rw [Int.zero_add]
  exact hs i σ' H' hi p
theorem z_iRng1 {ta : TA} {R : It → Hp → Prop} (q : ta σ H fun vs H1 => ∃ j : Int, vs = [.int j] ∧ -(2 ^ 62) ≤ j ∧ j < 2 ^ 62 ∧ R (Itr 0 j.toNat) H1) : iRng1 ta σ H R := q
theorem z_forRV {n s : Nat} {g : TG} {tb : TS} (h : σ[s]? = some (some (.int n))) (hn : n ≤ 1000000) (Pv : Nat → L2.St → Hp → Prop) (h0 : Pv 0 σ H)
    (hs : ∀ (i : Nat) σ' H', i < n → Pv i σ' H' → g (.int i) σ' H' fun σ2 H2 => tb { D with nx := Pv (i + 1), ct := Pv (i + 1), bk := D.nx } σ2 H2) (hd : ∀ σ' H', Pv n σ' H' → D.nx σ' H') : tFor (iRng1 (tCons (tVar s) tNil)) g tb D σ H :=
  ⟨_, h, z_rloop hn Pv h0 hs hd⟩
/-- while, by an invariant and a measure; behind a true test: z_turn -/
def Nx (W : Nat → L2.St → Hp → Prop) (m : Nat) : L2.St → Hp → Prop := fun σ2 H2 => ∃ m', m' < m ∧ W m' σ2 H2
theorem z_turn {W : Nat → L2.St → Hp → Prop} {m : Nat} {tb : TS} {F : (L2.St → Hp → Prop) → Ends} (q : tb (F (Nx W m)) σ H) : ∃ N : L2.St → Hp → Prop, (∀ σ' H', N σ' H' → ∃ m', m' < m ∧ W m' σ' H') ∧ tb (F N) σ H := ⟨_, fun _ _ z => z, q⟩
theorem z_while {c : TT} {tb : TS} (W : Nat → L2.St → Hp → Prop) (m0 : Nat) (h0 : W m0 σ H)
    (hs : ∀ m σ' H', W m σ' H' → c σ' H' fun b H1 => if b = true then ∃ N : L2.St → Hp → Prop, (∀ σ2 H2, N σ2 H2 → ∃ m', m' < m ∧ W m' σ2 H2) ∧ tb { D with nx := N, ct := N, bk := D.nx } σ' H1 else D.nx σ' H1) : tWhile c tb D σ H := ⟨W, ⟨m0, h0⟩, hs⟩
end
/-! #### heaps -/
theorem ex_new {H H' : Hp} {p : Addr} {o : HO} (e : Ex H H') (h : H' p = none) : Ex H (upd H' p o) := e.trans (Ex.new h)
theorem ex_mut {H H' : Hp} {p : Addr} {o : HO} (e : Ex H H') (h : H p = none) : Ex H (upd H' p o) := Ex.mut e h
theorem fr {H H' : Hp} {p : Addr} (e : Ex H H') (h : H' p = none) : H p = none := Evl.fresh_back e h
theorem ne_fr {H : Hp} {p q : Addr} {o : HO} (h : H p = some o) (h' : H q = none) : p ≠ q := ne_of_none h h'
theorem upd_at {H : Hp} {p q : Addr} {o o' : HO} (h : H q = some o') (n : q ≠ p) : upd H p o q = some o' := by rw [upd_ne n]; exact h
theorem sz (n : Nat) (h : n ≤ 100000 := by first | decide | (show (0:Nat) ≤ 100000; decide) | (show (1:Nat) ≤ 100000; decide) | (show (2:Nat) ≤ 100000; decide) | (show (3:Nat) ≤ 100000; decide) | (show (4:Nat) ≤ 100000; decide) | (show (5:Nat) ≤ 100000; decide) | (show (6:Nat) ≤ 100000; decide) | (show (7:Nat) ≤ 100000; decide) | (show (8:Nat) ≤ 100000; decide) | (show (9:Nat) ≤ 100000; decide) | (show (18:Nat) ≤ 100000; decide) | omega) : n ≤ sizeLine := Nat.le_trans h (by decide)
theorem szl (n : Nat) (h : n < 100000 := by first | decide | omega) : n < sizeLine := Nat.lt_of_lt_of_le h (by decide)
end Z
/-! #### exceptions of the program's own -/
namespace Z
open PySem PySem.Spec PyProof.Rows L2
open Evl (Ex ex_l ex_t sq_of st_of)
open PySem.W (Datum)
/-- an error class that stands under its name -/
structure Err (K : PySem.W.Frag) (mg : Str → Option Value) (x : Str) (C : Addr) : Prop where
  g : mg x = some (.ref C)
  q : PySem.W.excIn K C He.veBase "ValueError.__new__" = true
  kp : PySem.W.keepIn K (.ref C) = true
  sb : PySem.W.subIn K (.ref C) (.type "BaseException") = some true
  ty : PySem.W.typeIn K (.ref C) = some (.type "type")
  c : ExcC K C
def errB (K : PySem.W.Frag) (C : Addr) : Bool :=
  (PySem.W.excIn K C He.veBase "ValueError.__new__" && (PySem.W.keepIn K (.ref C) && (decide (PySem.W.subIn K (.ref C) (.type "BaseException") = some true) && decide (PySem.W.typeIn K (.ref C) = some (.type "type"))))) &&
  (He.eqO (PySem.W.findIn K (.ref C) "__getattribute__") (some (some (.builtin "BaseException.__getattribute__"))) && (He.eqO (PySem.W.findIn K (.ref C) "__getattr__") (some none) && (PySem.W.hasDictIn K C && (He.eqO (PySem.W.findIn K (.ref C) "__class__") (some (some (.builtin "object.__class__"))) &&
  (He.eqO (PySem.W.specialIn K (.builtin "object.__class__") "__get__") (some (some (.builtin "getset_descriptor.__get__"))) && (decide (PySem.W.takesIn K (.builtin "object.__class__") = some true) && decide (PySem.W.mroIn K C (.type "object") = some true)))))))
theorem err_ok {K : PySem.W.Frag} {mg : Str → Option Value} {x : Str} {C : Addr} (g : mg x = some (.ref C)) (h : errB K C = true) : Err K mg x C := by
  obtain ⟨h1, h2⟩ := He.ba h
  obtain ⟨a1, h1⟩ := He.ba h1
  obtain ⟨a2, h1⟩ := He.ba h1
  obtain ⟨a3, a4⟩ := He.ba h1
  obtain ⟨b1, h2⟩ := He.ba h2
  obtain ⟨b2, h2⟩ := He.ba h2
  obtain ⟨b3, h2⟩ := He.ba h2
  obtain ⟨b4, h2⟩ := He.ba h2
  obtain ⟨b5, h2⟩ := He.ba h2
  obtain ⟨b6, b7⟩ := He.ba h2
  exact ⟨g, a1, a2, of_decide_eq_true a3, of_decide_eq_true a4, ⟨He.eqO_ok b1, He.eqO_ok b2, of_decide_eq_true a3, b3, He.eqO_ok b4, He.eqO_ok b5, of_decide_eq_true b6, of_decide_eq_true b7⟩⟩
/-- the error classes cs, the first one the others' base -/
def erB (K : PySem.W.Frag) (cs : List Str) : Bool := cs.all fun x => errB K (He.ga K x) && (decide (PySem.W.kitOne K (.ref (He.ga K x)) (.type "ValueError") = some true) && (decide (PySem.W.exmOne K (.ref (He.ga K x)) (.ref (He.ga K "YardError")) = some true) &&
  cs.all fun y => decide (PySem.W.kitOne K (.ref (He.ga K x)) (.ref (He.ga K y)) = some (decide (x = y) || decide (y = "YardError")))))
structure Er (cs : List Str) (K : PySem.W.Frag) (mg : Str → Option Value) : Prop where
  b : erB K cs = true
  g : ∀ x ∈ cs, mg x = some (.ref (He.ga K x))
section
variable {cs : List Str} {K : PySem.W.Frag} {mg : Str → Option Value} {x y : Str}
theorem Er.at (Z : Er cs K mg) (h : x ∈ cs) : errB K (He.ga K x) = true ∧ PySem.W.kitOne K (.ref (He.ga K x)) (.type "ValueError") = some true ∧ PySem.W.exmOne K (.ref (He.ga K x)) (.ref (He.ga K "YardError")) = some true ∧
    ∀ y ∈ cs, PySem.W.kitOne K (.ref (He.ga K x)) (.ref (He.ga K y)) = some (decide (x = y) || decide (y = "YardError")) := by
  obtain ⟨h1, h2⟩ := He.ba (List.all_eq_true.mp Z.b x h)
  obtain ⟨h2, h3⟩ := He.ba h2
  obtain ⟨h3, h4⟩ := He.ba h3
  exact ⟨h1, of_decide_eq_true h2, of_decide_eq_true h3, fun y hy => of_decide_eq_true (List.all_eq_true.mp h4 y hy)⟩
theorem Er.err (Z : Er cs K mg) (h : x ∈ cs) : Err K mg x (He.ga K x) := err_ok (Z.g x h) (Z.at h).1
theorem Er.kitV (Z : Er cs K mg) (h : x ∈ cs) : PySem.W.kitOne K (.ref (He.ga K x)) (.type "ValueError") = some true := (Z.at h).2.1
theorem Er.exm (Z : Er cs K mg) (h : x ∈ cs) : PySem.W.exmOne K (.ref (He.ga K x)) (.ref (He.ga K "YardError")) = some true := (Z.at h).2.2.1
theorem Er.kit (Z : Er cs K mg) (h : x ∈ cs) (h' : y ∈ cs) : PySem.W.kitOne K (.ref (He.ga K x)) (.ref (He.ga K y)) = some (decide (x = y) || decide (y = "YardError")) := (Z.at h).2.2.2 y h'
end
/-- isinstance of the error in hand -/
def rIsX (K : PySem.W.Frag) (cls : Value) (d : Option Addr) (a : Addr) : List V → Hp → VK → Prop := fun xs H Q => ∃ D, cls = .ref D ∧ d = none ∧ ExcC K D ∧ rIsE K D a xs H Q
theorem call_isX {X : Cx} {a : Addr} {oe : Obj} {pn : List (Addr × Obj)} {cls : Value} {d : Option Addr} (K : PySem.W.Frag) (hz : Zc cls d oe) (hf : ∃ vs, oe.data = .fields vs) (h : X.K = K := by rfl) : CallR (X.suite a ((a, oe) :: pn)) (.builtin "isinstance") (rIsX K cls d a) := by
  subst h
  intro pins s σ H xs us Q I r h
  obtain ⟨D, rfl, rfl, C, h⟩ := h
  exact call_isE C hz hf pins s σ H xs us Q I r h
section
variable {K : PySem.W.Frag} {H : Hp} {Q : VK} {a C D : Addr} {b : Bool} {n : String}
theorem z_isE (hc : ExcC K D) (hk : PySem.W.kitOne K (.ref D) (.ref C) = some b) (q : Q (.bl b) H) : rIsX K (.ref D) none a [.ref a, .ref C] H Q := ⟨D, rfl, rfl, hc, .ref C, .ref C, b, rfl, fun u r => r, hk, q⟩
theorem z_isEV (hc : ExcC K D) (hk : PySem.W.kitOne K (.ref D) (.type n) = some b) (q : Q (.bl b) H) : rIsX K (.ref D) none a [.ref a, .ty n] H Q := ⟨D, rfl, rfl, hc, .ty n, .type n, b, rfl, fun u r => r, hk, q⟩
end
/-! calls of defs that may raise -/
section
variable {X : Cx} {k : Nat} {x : Str} {ps : List Str} {sp : Sp} {e : Expr} {es : List Expr} {t : TA} {p pos : Pos}
/-- where nothing may come out -/
theorem pe_calX (C : Cal X.prog X.w X.K X.mg X.base (L2.CX X.prog X.w) k x ps sp) (hr : Room k X.A) (hg : Gl X x) (ha : PA X (e :: es) t) (hdb : (x == ("__debug__" : Str)) = false := by decide)
    (he : starEach (e :: es) X.env = (false, eval e X.env) :: starEach es X.env := by rfl) (hpl : (backTo pos (starEach es X.env)).any (·.1) = false := by rfl) :
    PE X (.Call (.Name x p) (e :: es) [] pos) (tCall sp [] E0 t) := by
  obtain ⟨f, fd, F, hm, hk, hb⟩ := C.ex
  exact pe_call F hr hg hm hk hb .nil passL ha hdb he hpl
/-- in a def that lets out what the callee lets out -/
theorem pe_calR {E : XK} (tk : Takes X fun cls d _ H => E cls d H) (C : Cal X.prog X.w X.K X.mg X.base (L2.CX X.prog X.w) k x ps sp) (hr : Room k X.A) (hg : Gl X x) (ha : PA X (e :: es) t) (hdb : (x == ("__debug__" : Str)) = false := by decide)
    (he : starEach (e :: es) X.env = (false, eval e X.env) :: starEach es X.env := by rfl) (hpl : (backTo pos (starEach es X.env)).any (·.1) = false := by rfl) :
    PE X (.Call (.Name x p) (e :: es) [] pos) (tCall sp [] E t) := by
  obtain ⟨f, fd, F, hm, hk, hb⟩ := C.ex
  exact pe_call F hr hg hm hk hb .nil (passes_call tk fun _ _ _ _ h => h) ha hdb he hpl
/-- in the body of a try -/
theorem pe_calT {W : WX} (tk : Takes X W) (C : Cal X.prog X.w X.K X.mg X.base (L2.CX X.prog X.w) k x ps sp) (hr : Room k X.A) (hg : Gl X x) (ha : PA X (e :: es) t) (hdb : (x == ("__debug__" : Str)) = false := by decide)
    (he : starEach (e :: es) X.env = (false, eval e X.env) :: starEach es X.env := by rfl) (hpl : (backTo pos (starEach es X.env)).any (·.1) = false := by rfl) :
    PE X (.Call (.Name x p) (e :: es) [] pos) (tCallS sp (WE W) t) := by
  obtain ⟨f, fd, F, hm, hk, hb⟩ := C.ex
  exact pe_callS F hr hg hm hk hb (fun σ => passAt tk σ) ha hdb he hpl
theorem z_callS {E : L2.St → XK} {σ : L2.St} {H : Hp} {Q : VK} (q : t σ H fun vs H1 => sp vs H1 Q (E σ)) : tCallS sp E t σ H Q := q
theorem z_catch {K : PySem.W.Frag} {cls c : Value} {d : Option Addr} {i : Nat} {ts : Addr → Value → Option Addr → TS} {Wout : WX} {D : Ends} {σ : L2.St} {H : Hp} (h : PySem.W.exmOne K cls c = some true)
    (q : ∀ a, H a = none → ts a cls d { nx := fun σ' H' => D.nx (σ'.set i none) H', rt := D.rt, bk := fun σ' H' => D.bk (σ'.set i none) H', ct := fun σ' H' => D.ct (σ'.set i none) H' } (σ.set i (some (.ref a))) H) : wAs K c i ts Wout D cls d σ H :=
  ⟨true, h, fun _ => q, fun z => by cases z⟩
theorem pmk_err {C : Addr} {m : Str} {j : Nat} {p2 : Pos} {K : PySem.W.Frag} {mg : Str → Option Value} (Y : Err K mg x C) (hK : X.K = K := by rfl) (hM : X.mg = mg := by rfl) (hg : Gl X x := by rfl) (hdb : (x == ("__debug__" : Str)) = false := by decide) :
    PMk X (.Call (.Name x p) [.Constant (.str m) j p2] [] pos) (fun _ H Q => Q (.ref C) none H) := by
  subst hK; subst hM
  exact pmk_own PySem.F.excBase_ValueError Y.q Y.g Y.kp (raises_own Y.sb Y.ty) hg hdb
theorem pe_errN {C : Addr} {K : PySem.W.Frag} {mg : Str → Option Value} (Y : Err K mg x C) (hM : X.mg = mg := by rfl) (hg : Gl X x := by rfl) (hdb : (x == ("__debug__" : Str)) = false := by decide) : PE X (.Name x pos) (tC (.ref C)) := by
  subst hM
  exact pe_glob hg Y.g rfl hdb
theorem names_err {C : Addr} {K : PySem.W.Frag} {mg : Str → Option Value} (Y : Err K mg x C) (hM : X.mg = mg := by rfl) (hg : Gl X x := by rfl) (hdb : (x == ("__debug__" : Str)) = false := by decide) : Names X x (.ref C) := by
  subst hM
  exact ⟨hg, hdb, .inl Y.g⟩
end
section
variable {P : Program} {w : World} {K : PySem.W.Frag} {mg : Str → Option Value} {base : Heap} {k : Nat} {x : Str} {ps : List Str} {sp : Sp} {st : Stmt} {f : Addr} {fd : FuncData} {N : List Str}
/-- THE RULE for a def that may raise -/
theorem Fn.okX (T : Fn K mg x st f fd ps) (S : FnScope N ps (defScope st)) (len : ∀ vs H Q E, sp vs H Q E → vs.length = ps.length)
    (hbody : ∀ (cdv : Value) (A : Around) (outer : List Env) (s : Shared) (H : Hp) (vs : List V) (Q : VK) (E : XK), Room k (A.deeper (envOfC x (defScope st) s.heap.objs.size f cdv)) → sp vs H Q E →
      ∃ t, PSs (cxOf (L2.CX P w) P w K mg base N x (defScope st) f cdv A outer s H E) (defBody st) t ∧ t { nx := fun _ H' => Q .non H', rt := Q } (start N vs) H) : Cal P w K mg base (L2.CX P w) (k + 1) x ps sp :=
  T.cal (T.F.ok S len fun cdv A outer s H vs Q E hr h => hbody cdv A outer s H vs Q E hr h)
end
theorem revL {X : Cx} (K : PySem.W.Frag) {e : Expr} {te : TE} {k : Nat} {p1 p2 p3 pos : Pos} (he : PE X e te) (h : X.K = K := by rfl) : PE X (.Subscript e (.Slice none none (some (.UnaryOp .USub (.Constant (.int 1) k p1) p2)) p3) pos) (tRevL K te) := h ▸ pe_revL he
theorem z_revL {K : PySem.W.Frag} {te : TE} {σ : L2.St} {H : Hp} {Q : VK} (q : te σ H fun x H1 => ∃ a xs, x = .ref a ∧ SqL K H1 a xs ∧ ∀ p, H1 p = none → Q (.ref p) (upd H1 p (.lst xs.reverse))) : tRevL K te σ H Q := q
theorem z_lstRg1 {ta : TE} {σ : L2.St} {H : Hp} {Q : VK} (q : ta σ H fun x H1 => ∃ n, x = .int n ∧ RgOk 0 n ∧ ∀ q, H1 q = none → Q (.ref q) (upd H1 q (.lst (rgV 0 n)))) : tLstRg (tRg1 ta) σ H Q := q
theorem z_dget {td ty : TE} {σ : L2.St} {H : Hp} {Q : VK} (q : td σ H fun x H1 => ty σ H1 fun y H2 => ∃ a v, x = .ref a ∧ DGet H2 a y (some v) ∧ Q v H2) : tDGet td ty σ H Q := q
/-- an and whose second part makes new things -/
theorem z_andN {t u : TT} {σ : L2.St} {H : Hp} {QB : Bool → Hp → Prop} (P : Prop) (h1 : ∃ c, Pt1 t σ H c) (h2 : ∀ R : Bool → Hp → Prop, (∀ b H2, Ex H H2 → (b = true → P) → R b H2) → u σ H R) (k : ∀ b H2, Ex H H2 → (b = true → P) → QB b H2) : tAnd t u σ H QB := by
  obtain ⟨c, h1⟩ := h1
  refine h1 _ ?_
  cases c with
  | true => exact h2 _ k
  | false => exact iteF (k false H (Ex.refl _) fun z => by cases z)
/-! range(lo, n), reversed(range(n)) -/
theorem z_iRng2 {ta : TA} {σ : L2.St} {H : Hp} {R : It → Hp → Prop} (q : ta σ H fun vs H1 => ∃ i j : Int, vs = [.int i, .int j] ∧ (-(2 ^ 62) ≤ i ∧ i < 2 ^ 62 ∧ -(2 ^ 62) ≤ j ∧ j < 2 ^ 62) ∧ R (Itr i (j - i).toNat) H1) : iRng2 ta σ H R := q
theorem z_rloop2 {D : Ends} {σ : L2.St} {H : Hp} {lo n : Nat} {g : TG} {tb : TS} (hlo : lo ≤ n) (hn : n ≤ 1000000) (Pv : Nat → L2.St → Hp → Prop) (h0 : Pv lo σ H)
    (hs : ∀ (i : Nat) σ' H', lo ≤ i → i < n → Pv i σ' H' → g (.int i) σ' H' fun σ2 H2 => tb { D with nx := Pv (i + 1), ct := Pv (i + 1), bk := D.nx } σ2 H2) (hd : ∀ σ' H', Pv n σ' H' → D.nx σ' H') :
    ∃ i j : Int, [V.int lo, V.int n] = [.int i, .int j] ∧ (-(2 ^ 62) ≤ i ∧ i < 2 ^ 62 ∧ -(2 ^ 62) ≤ j ∧ j < 2 ^ 62) ∧ ∃ W : Nat → Nat → L2.St → Hp → Prop, (∃ m, W 0 m σ H) ∧ ∀ x m σ H, W x m σ H →
      ((Itr i (j - i).toNat).stop x H ∧ D.nx σ H) ∨ ((Itr i (j - i).toNat).go x H ∧ ∃ N : L2.St → Hp → Prop, (∀ σ' H', N σ' H' → ∃ m', m' < m ∧ W (x + 1) m' σ' H') ∧ ∀ y H', (Itr i (j - i).toNat).yld x H y H' → g y σ H' fun σ2 H2 => tb { D with nx := N, ct := N, bk := D.nx } σ2 H2) := by
  refine ⟨(lo : Int), (n : Int), rfl, ⟨by omega, by omega, by omega, by omega⟩, ?_⟩
  have e : ((n : Int) - (lo : Int)).toNat = n - lo := by omega
  rw [e]
  refine for_range (lo := (lo : Int)) (n := n - lo) (fun i => Pv (lo + i)) h0 (fun i σ' H' hi p => ?_) (fun σ' H' p => hd σ' H' ?_)
  · have := hs (lo + i) σ' H' (by omega) (by omega) p
    rw [show ((lo + i : Nat) : Int) = (lo : Int) + (i : Int) by omega] at this
    exact this
  · have e2 : lo + (n - lo) = n := by omega
    rw [e2] at p
    exact p
theorem z_revR {ta : TE} {σ : L2.St} {H : Hp} {R : It → Hp → Prop} (q : ta σ H fun x H1 => ∃ n, x = .int n ∧ (-(2 ^ 62) ≤ (0 : Int) ∧ (0 : Int) < 2 ^ 62 ∧ -(2 ^ 62) ≤ n ∧ n < 2 ^ 62 ∧ R (Itc (0 + (((n - 0).toNat : Nat) : Int) - 1) (-1) (n - 0).toNat) H1)) : iRevR (tRg1 ta) σ H R := q
theorem z_revloop {D : Ends} {σ : L2.St} {H : Hp} {n : Nat} {g : TG} {tb : TS} (hn : n ≤ 1000000) (Pv : Nat → L2.St → Hp → Prop) (h0 : Pv 0 σ H)
    (hs : ∀ (i : Nat) σ' H', i < n → Pv i σ' H' → g (.int ((n - 1 - i : Nat) : Int)) σ' H' fun σ2 H2 => tb { D with nx := Pv (i + 1), ct := Pv (i + 1), bk := D.nx } σ2 H2) (hd : ∀ σ' H', Pv n σ' H' → D.nx σ' H') :
    -(2 ^ 62) ≤ (0 : Int) ∧ (0 : Int) < 2 ^ 62 ∧ -(2 ^ 62) ≤ (n : Int) ∧ (n : Int) < 2 ^ 62 ∧ ∃ W : Nat → Nat → L2.St → Hp → Prop, (∃ m, W 0 m σ H) ∧ ∀ x k σ H, W x k σ H →
      ((Itc (0 + ((((n : Int) - 0).toNat : Nat) : Int) - 1) (-1) ((n : Int) - 0).toNat).stop x H ∧ D.nx σ H) ∨ ((Itc (0 + ((((n : Int) - 0).toNat : Nat) : Int) - 1) (-1) ((n : Int) - 0).toNat).go x H ∧ ∃ N : L2.St → Hp → Prop, (∀ σ' H', N σ' H' → ∃ m', m' < k ∧ W (x + 1) m' σ' H') ∧ ∀ y H', (Itc (0 + ((((n : Int) - 0).toNat : Nat) : Int) - 1) (-1) ((n : Int) - 0).toNat).yld x H y H' → g y σ H' fun σ2 H2 => tb { D with nx := N, ct := N, bk := D.nx } σ2 H2) := by
  refine ⟨by omega, by omega, by omega, by omega, ?_⟩
  have e : ((n : Int) - 0).toNat = n := by omega
  rw [e]
  refine for_rangeC (lo := 0 + (n : Int) - 1) (c := -1) (n := n) Pv h0 (fun i σ' H' hi p => ?_) hd
  have := hs i σ' H' hi p
  rw [show ((n - 1 - i : Nat) : Int) = 0 + (n : Int) - 1 + ((i : Nat) : Int) * -1 by omega] at this
  exact this
/-! #### the Hook: facts of HE, and one more Bool -/
def hookY (n : Nat) (fa : List He.Fa) (fn : List He.DefD) (ex : PySem.W.Frag → Bool) : PySem.W.Hook where
  α := He.AlD × Bool
  obs := fun s => (He.obsDG n fa fn s.heap.get?, ex (He.frG s.heap.get? (He.asD s.heap.get? n)))
  val := fun _ => (He.valD fn, true)
  says := fun _ h => ∃ K : PySem.W.Frag, K.In h ∧ He.SaysD fa fn K ∧ ex K = true
  of := fun _ _ e => ⟨_, He.frG_in, congrArg (fun z : He.AlD × Bool => z.1) e, congrArg (fun z : He.AlD × Bool => z.2) e⟩
  keeps := fun _ _ _ ⟨K, hK, c⟩ k => ⟨K, PySem.W.Frag.In.keeps hK k, c⟩
def obsY (n : Nat) (fa : List He.Fa) (fn : List He.DefD) (ex : PySem.W.Frag → Bool) (g : Addr → Option Obj) : He.AlD × Bool := (He.obsDG n fa fn g, ex (He.frG g (He.asD g n)))
theorem obsY_eq {n : Nat} {fa : List He.Fa} {fn : List He.DefD} {ex : PySem.W.Frag → Bool} {g : Addr → Option Obj} {s : Shared} (h : ∀ a, g a = s.heap.get? a) : obsY n fa fn ex g = (hookY n fa fn ex).obs s := by
  have e : g = s.heap.get? := funext h
  rw [e] <;> rfl
end Z
/-! #### exceptions whose context is None; a comprehension while one is handled -/
namespace Z
open PySem PySem.Spec PyProof.Rows L2
open Evl (Ex ex_l ex_t sq_of st_of)
open PySem.W (Datum)
section
variable {P : Program} {w : World} {K : PySem.W.Frag} {mg : Str → Option Value} {base : Heap} {k : Nat} {x : Str} {ps : List Str} {sp : Sp} {st : Stmt} {f : Addr} {fd : FuncData} {N : List Str}
theorem Fn.okN (T : Fn K mg x st f fd ps) (S : FnScope N ps (defScope st)) (len : ∀ vs H Q E, sp vs H Q E → vs.length = ps.length)
    (hbody : ∀ (cdv : Value) (A : Around) (outer : List Env) (s : Shared) (H : Hp) (vs : List V) (Q : VK) (E : XK), Room k (A.deeper (envOfC x (defScope st) s.heap.objs.size f cdv)) → sp vs H Q E →
      ∃ t, PSs (cxOf (L2N.CX P w) P w K mg base N x (defScope st) f cdv A outer s H E) (defBody st) t ∧ t { nx := fun _ H' => Q .non H', rt := Q } (start N vs) H) : Cal P w K mg base (L2N.CX P w) (k + 1) x ps sp :=
  T.cal (T.F.ok S len fun cdv A outer s H vs Q E hr h => hbody cdv A outer s H vs Q E hr h)
end
section
variable {X : Cx} {k : Nat} {x : Str} {ps : List Str} {sp : Sp} {e : Expr} {es : List Expr} {t : TA} {p pos : Pos}
theorem takes0N : L2N.Takes X (fun _ _ _ _ => False) := fun _ _ ⟨_, _, _, _, _, _, _, _, _, _, _, _, _, _, _, _, z⟩ => z.elim
theorem pe_calRN {E : XK} (tk : L2N.Takes X fun cls d _ H => E cls d H) (C : Cal X.prog X.w X.K X.mg X.base (L2N.CX X.prog X.w) k x ps sp) (hr : Room k X.A) (hg : Gl X x) (ha : PA X (e :: es) t) (hdb : (x == ("__debug__" : Str)) = false := by decide)
    (he : starEach (e :: es) X.env = (false, eval e X.env) :: starEach es X.env := by rfl) (hpl : (backTo pos (starEach es X.env)).any (·.1) = false := by rfl) :
    PE X (.Call (.Name x p) (e :: es) [] pos) (tCall sp [] E t) := by
  obtain ⟨f, fd, F, hm, hk, hb⟩ := C.ex
  exact pe_call F hr hg hm hk hb .nil (L2N.passes_call tk fun _ _ _ _ h => h) ha hdb he hpl
theorem pe_calTN {W : WX} (tk : L2N.Takes X W) (C : Cal X.prog X.w X.K X.mg X.base (L2N.CX X.prog X.w) k x ps sp) (hr : Room k X.A) (hg : Gl X x) (ha : PA X (e :: es) t) (hdb : (x == ("__debug__" : Str)) = false := by decide)
    (he : starEach (e :: es) X.env = (false, eval e X.env) :: starEach es X.env := by rfl) (hpl : (backTo pos (starEach es X.env)).any (·.1) = false := by rfl) :
    PE X (.Call (.Name x p) (e :: es) [] pos) (tCallS sp (WE W) t) := by
  obtain ⟨f, fd, F, hm, hk, hb⟩ := C.ex
  exact pe_callS F hr hg hm hk hb (fun σ => L2N.passAt tk σ) ha hdb he hpl
theorem pmk_errN {C : Addr} {m : Str} {j : Nat} {p2 : Pos} {K : PySem.W.Frag} {mg : Str → Option Value} (Y : Err K mg x C) (hK : X.K = K := by rfl) (hM : X.mg = mg := by rfl) (hg : Gl X x := by rfl) (hdb : (x == ("__debug__" : Str)) = false := by decide) :
    L2N.PMk X (.Call (.Name x p) [.Constant (.str m) j p2] [] pos) (fun _ H Q => Q (.ref C) none H) := by
  subst hK; subst hM
  exact L2N.pmk_own PySem.F.excBase_ValueError Y.q Y.g Y.kp (raises_own Y.sb Y.ty) hg hdb
end
/-- a list's iterator at its end, while an exception is handled -/
theorem next_end_hot {prog : Program} {w : World} {A : Around} {E : Value → Shared → Prop} {s : Shared} {it l x1 : Addr} {i : Nat} {items : Array Value} {Q : Option Value → Shared → Prop} (hot : HotX.HotAt A x1 s.heap) (hne : x1 ≠ it)
    (hit : s.heap.IsListIter it l i) (hl : s.heap.IsList l items) (hx : items[i]? = none) (hQ : ∀ h', (∀ b o, b ≠ it → s.heap.get? b = some o → h'.get? b = some o) → Q none { s with heap := h' }) : wpAny (model prog w) A (pyNext (.ref it)) Q E s := by
  obtain ⟨o, ho, hc, hd⟩ := id hit
  obtain ⟨ol, hol, _, nl, hdl⟩ := hl
  obtain ⟨hh, o1, vs1, h1, d1, c1⟩ := hot
  unfold pyNext
  refine wpAny_bind (wpAny_attempt (wpAny_callSpecial?_slot (name := Str.ofString "__next__") hit.typeIs slot_listiter_next
    (wpAny_call_entry slot_listiter_next hit.typeIs entry_listiter_next ?_ (args_listiter_next _))))
  show wpAny _ _ (field (.ref it) 0 >>= _) _ _ s
  refine wpAny_bind (wpAny_field ho hd (x := .ref l) rfl ?_)
  show wpAny _ _ (if (Value.ref l == Value.none) = true then _ else _) _ _ s
  rw [if_neg (show ¬ ((Value.ref l == Value.none) = true) from Bool.false_ne_true)]
  show wpAny _ _ (field (.ref it) 1 >>= _) _ _ s
  refine wpAny_bind (wpAny_field ho hd (x := .int i 0) rfl ?_)
  show wpAny _ _ (seqItems? (.ref l) >>= _) _ _ s
  refine wpAny_bind (wpAny_seqItems hol hdl ?_)
  simp only [Int.toNat_natCast, hx]
  refine wpAny_bind (wpAny_rule (wpAny_bind (wpAny_setField ho hd (by simp) ?_)))
  show wpAny _ _ (newExc (.type "StopIteration") [] >>= _) _ _ _
  refine wpAny_bind ?_
  simp only [newExc, newTuple]
  refine wpAny_bind (wpAny_newObj_type ?_ (by size_fits))
  refine wpAny_bind (m := firstArgMember _ _) (wpAny_of_eq (a := Value.none) (by first | rfl | (simp only [firstArgMember]; rfl)) ?_)
  refine wpAny_newObj_type ?_ (by size_fits)
  have keep : ∀ b o', b ≠ it → s.heap.get? b = some o' → (s.heap.update it (Obj.mapFields (·.setIfInBounds 0 .none))).get? b = some o' := fun b o' hb e => by
    rw [Heap.get?_update_other _ _ (Ne.symm hb)]; exact e
  refine HotX.raiseNew_hot ⟨hh, o1, vs1, Heap.get?_push_of_some _ (Heap.get?_push_of_some _ (keep _ _ hne h1)), d1, c1⟩ (Nat.ne_of_lt (Heap.lt_size (Heap.get?_push_of_some _ (keep _ _ hne h1)))) (Heap.get?_push_size _ rfl) rfl (by first | (simp; done) | (simp; omega) | (simp only [Array.size_append]; simp; omega)) ?_
  refine wpAny_bind (wpAny_isInstance (T := "StopIteration") (b := true) ⟨_, Heap.get?_update_self _ (Heap.get?_push_size _ rfl) rfl, rfl⟩ isSubtype_stop ?_)
  refine wpAny_pure (hQ _ fun b o' hb e => ?_)
  rw [Heap.get?_update_other _ _ (Nat.ne_of_gt (Heap.lt_size (Heap.get?_push_of_some _ (keep _ _ hb e))))]
  exact Heap.get?_push_of_some _ (Heap.get?_push_of_some _ (keep _ _ hb e))
section
variable {X : Cx}
/-- a list comprehension over a list, while an exception is handled -/
theorem pe_lcHot {elt tg l : Expr} {ifs : List Expr} {scope : Scope} {own : List (Str × Nat)} {pos : Pos} {tl : TE} {g : TG} {tt : TT} {te : TE} (hc : L2H.HotC X) (hN : X.N.Nodup) (hl : PE X l tl) (ok : BlkOk X.N X.env.scope scope own)
    (hg : ∀ (s : Shared) (H : Hp) (C : Addr) (cl : List (Str × Addr)) (fp : List Addr), PG (X.blk s H scope (compEnvC scope cl C X.env) fp) tg g) (ht : ∀ (s : Shared) (H : Hp) (C : Addr) (cl : List (Str × Addr)) (fp : List Addr), PTs (X.blk s H scope (compEnvC scope cl C X.env) fp) ifs tt)
    (he : ∀ (s : Shared) (H : Hp) (C : Addr) (cl : List (Str × Addr)) (fp : List Addr), PE (X.blk s H scope (compEnvC scope cl C X.env) fp) elt te) (hs : ∀ x, foldedSetIterable l X.env x = pure x := by intro _; rfl) :
    PE X (.ListComp elt [⟨tg, l, ifs, 0⟩] scope pos) (tLc (iList X.K tl) g tt te (own.map (·.2))) := by
  refine ⟨fun pins s σ H Q I h => ?_⟩
  rw [eval_ListComp]
  have hfree : ∀ y ∈ scope.names, y.2 = .free → ∃ c, X.env.cells.lookup y.1 = some c := fun y hy e => by
    rcases ok.free y hy e with z | z
    · exact I.ok.has _ (.inl z)
    · exact I.ok.has _ (.inr z)
  refine wpAny_comprehension_free rfl hs (closure_ok hfree) ok.kind (fun y hy e => by rw [ok.uniq y hy, e]) (thn (hl.run pins s σ H _ I h) fun xv s1 hx => ?_)
  obtain ⟨xl, H1, I1, r1, a, e, ⟨xs0, hq0⟩, q⟩ := hx
  subst e
  cases r1
  obtain ⟨its0, rv0, pl0, hz0⟩ := I1.list hq0
  refine wpAny_pyIter_list pl0.isList ?_
  generalize hit : s1.heap.objs.size = it
  generalize hs2 : ({ s1 with heap := s1.heap.push { cls := .type "list_iterator", data := .fields #[.ref a, .int 0 0] } } : Shared) = s2
  have I2 : Inv X pins σ H1 s2 := by rw [← hs2]; exact I1.kept (t' := s1.toks) fun b o e => Heap.get?_push_of_some _ e
  have st2 : s2.heap.IsListIter it a 0 := by rw [← hs2, ← hit]; exact ⟨_, Heap.get?_push_size _ rfl, rfl, rfl⟩
  have f2 : FpOk X pins H1 it := by rw [← hit]; exact I1.fpOk (Nat.le_refl _) (I1.hok.fresh (Nat.le_refl _))
  refine wpAny_newObj_type (newEnv_comp ?_) (by show 0 ≤ sizeLine; decide)
  generalize hD : s2.heap.objs.size = D
  have hDn : H1 D = none := I2.hok.fresh (Nat.le_of_eq hD)
  obtain ⟨W, ⟨m0, w0⟩, turn⟩ := q D hDn
  generalize hs3 : ({ s2 with heap := s2.heap.push { cls := .type "list", data := .seq ([] : List Value).toArray } } : Shared) = s3
  have h3 : s3.heap = s2.heap.push { cls := .type "list", data := .seq ([] : List Value).toArray } := by rw [← hs3]
  have I3 : Inv X pins σ (upd H1 D (.lst [])) s3 := by
    rw [← hs3]
    refine I2.laid (t' := s2.toks) (fun b o e => Heap.get?_push_of_some _ e) (Nat.le_of_eq hD) ⟨Nat.zero_le _, [], 0, .nil, ?_⟩
    rw [← hD]
    exact Heap.get?_push_size _ rfl
  have lt2 : it < s2.heap.objs.size := by
    obtain ⟨o, e, _⟩ := st2
    exact Heap.lt_size e
  have f3 : ∀ b ∈ [it], FpOk X pins (upd H1 D (.lst [])) b ∧ b < s3.heap.objs.size := fun b hb => by
    have e : b = it := by simpa using hb
    subst e
    refine ⟨⟨?_, f2.2⟩, by rw [h3, Heap.size_push]; exact Nat.lt_succ_of_lt lt2⟩
    rw [upd_ne (by rw [← hD]; exact Nat.ne_of_lt lt2)]
    exact f2.1
  have keepIt : ∀ {h h' : Heap} {i : Nat}, h.IsListIter it a i → (∀ o, h.get? it = some o → h'.get? it = some o) → h'.IsListIter it a i := fun {h h' i} st k => st.at k
  have st3 : s3.heap.IsListIter it a 0 := keepIt st2 fun o e => by rw [h3]; exact Heap.get?_push_of_some _ e
  have I4 := block_start I3 ok hN f3
  have pg := hg s3 (upd H1 D (.lst [])) s3.heap.objs.size (cellsFrom (s3.heap.objs.size + 1) scope.names (cloFrom X.env.cells scope.names [])) [it]
  have pt := ht s3 (upd H1 D (.lst [])) s3.heap.objs.size (cellsFrom (s3.heap.objs.size + 1) scope.names (cloFrom X.env.cells scope.names [])) [it]
  have pe := he s3 (upd H1 D (.lst [])) s3.heap.objs.size (cellsFrom (s3.heap.objs.size + 1) scope.names (cloFrom X.env.cells scope.names [])) [it]
  show codeAny _ _ (.compStart (.ListComp elt [⟨tg, l, ifs, 0⟩] scope pos) 0 (.ref it) (.ref D) (compEnvC scope (cellsFrom (s3.heap.objs.size + 1) scope.names (cloFrom X.env.cells scope.names [])) s3.heap.objs.size X.env)) _ { s3 with heap := pushCells (s3.heap.push { cls := .type "dict", data := .dict #[] }) scope.names }
  have nfp : (upd H1 D (.lst [])) it = none := (f3 it (by simp)).1.1
  generalize hce : compEnvC scope (cellsFrom (s3.heap.objs.size + 1) scope.names (cloFrom X.env.cells scope.names [])) s3.heap.objs.size X.env = ce at I4 pg pt pe ⊢
  have cL : ce.locals = s3.heap.objs.size := by subst hce; rfl
  generalize hH3 : upd H1 D (.lst []) = H3 at I3 I4 pg pt pe w0 nfp f3
  generalize hs4 : ({ s3 with heap := pushCells (s3.heap.push { cls := .type "dict", data := .dict #[] }) scope.names } : Shared) = s4 at I4 ⊢
  have st4 : s4.heap.IsListIter it a 0 := keepIt st3 fun o e => by rw [← hs4]; exact pushCells_keeps _ _ _ _ (Heap.get?_push_of_some _ e)
  -- the exception that is handled stays as it is
  have hot : ∀ {σ' : L2.St} {H' : Hp} {s' : Shared}, Inv (X.blk s3 H3 scope ce [it]) [] σ' H' s' → ∃ x1, HotX.HotAt X.A x1 s'.heap ∧ x1 ≠ it := fun {σ' H' s'} I' => by
    obtain ⟨p, ⟨hh, v1, e1, c1⟩, hp⟩ := hc
    have hp' : p ∈ X.pn ++ pins := List.mem_append_left _ hp
    obtain ⟨k1, k2, k3, k4, _⟩ := I3.pin p hp'
    have ne : p.1 ≠ it := (f3 it (by simp)).1.2.2.2.2.2 p hp'
    refine ⟨p.1, ⟨hh, p.2, v1, ?_, e1, c1⟩, ne⟩
    refine I'.base.keep p.1 p.2 k1 k2 (fun z => ?_) (fun z => ?_)
    · rcases List.mem_cons.mp (I3.stkSub p.1 z) with y | y
      · exact k3 y
      · exact k4 y
    · exact ne (by simpa using (show p.1 ∈ [it] from z))
  have stat : ∀ {σ' : L2.St} {H' : Hp} {s' : Shared}, Inv (X.blk s3 H3 scope ce [it]) [] σ' H' s' → H' it = none → FpOk (X.blk s3 H3 scope ce [it]) [] H' it := fun {σ' H' s'} I' hn =>
    ⟨hn, (I'.ok.exf it (by simp)).1, I'.ok.exfs it (by simp), .inl (by simp), fun x c e => (I'.ok.exf it (by simp)).2 x c e, fun p hp => absurd (show p ∈ ([] : List (Addr × Obj)) ++ [] from hp) (by simp)⟩
  have loop : codeAny (model X.prog X.w) X.A (.compLoop (.ListComp elt [⟨tg, l, ifs, 0⟩] scope pos) 0 (.ref it) (.ref D) ce) (compPost (model X.prog X.w) X.A X.xe none (EP X pins σ Q) (.ref D) s3.heap.objs.size) s4 := by
    refine compLoop_any (fun n s' => ∃ i H', Inv (X.blk s3 H3 scope ce [it]) [] (wipe σ (own.map (·.2))) H' s' ∧ s'.heap.IsListIter it a i ∧ H' it = none ∧ W i n H') ?_ m0 ⟨0, H3, I4, st4, nfp, w0⟩
    rintro n s5 ⟨i, H5, I5, st5, n5, w5⟩
    obtain ⟨f0, f1, f4, f5, f6, f7⟩ := stat I5 n5
    rcases turn i n H5 w5 with ⟨stop, qq⟩ | ⟨go, Nx, hNx, step⟩
    · obtain ⟨xs, hq, hx⟩ := stop
      obtain ⟨its, rv, p, hz⟩ := I5.list hq
      have hl := rv.length
      obtain ⟨x1, hot1, ne1⟩ := hot I5
      refine next_end_hot hot1 ne1 st5 p.isList (by simp; omega) fun h' eb => ?_
      have I6 : Inv (X.blk s3 H3 scope ce [it]) [] (wipe σ (own.map (·.2))) H5 { s5 with heap := h' } := I5.turned (t' := s5.toks) (fun b o hb e => eb b o hb e) f0 f1 f5 f6 f7
      have I7 : Inv X pins σ H5 { s5 with heap := h' } := I3.call' (ch := [it]) I6.os I6.base I6.hok I6.bare fun b hb => ⟨(f3 b hb).1.2.2.2.1, (f3 b hb).1.2.1, (f3 b hb).1.2.2.2.2.1, (f3 b hb).1.2.2.2.2.2⟩
      have nC : H5 s3.heap.objs.size = none := by
        have z : H5 ce.locals = none := I6.free
        rw [cL] at z
        exact z
      obtain ⟨m, hn, _⟩ := I6.loc
      rw [show (X.blk s3 H3 scope ce [it]).env.locals = s3.heap.objs.size from cL] at hn
      refine ⟨m, hn, fun h'' sb => ?_⟩
      obtain ⟨g0, g1, g2, g3, g4, g5⟩ := I3.fpOk (Nat.le_refl _) nC
      exact ⟨.ref D, H5, I7.turned (t' := s5.toks) (fun b o hb e => (sb.2 b hb).trans e) g0 g1 g3 g4 g5, rfl, qq⟩
    · obtain ⟨xs, x, hq, hx⟩ := go
      obtain ⟨its, rv, p, hz⟩ := I5.list hq
      obtain ⟨u, hu, ru⟩ := rv.get hx
      refine wpAny_pyNext_list_item st5 p.isList (x := u) (by simpa using hu) fun h' st' sb => ?_
      have I7 : Inv (X.blk s3 H3 scope ce [it]) [] (wipe σ (own.map (·.2))) H5 { s5 with heap := h' } := I5.turned (t' := s5.toks) (fun b o hb e => (sb.2 b hb).trans e) f0 f1 f5 f6 f7
      obtain ⟨o, eo, co, dd⟩ := id st'
      refine go_of (s := { s5 with heap := h' }) eo co dd (by decide) ?_
      have I7' := I7.pinned (fp := [it]) (fun b hb => by
        have e : b = it := by simpa using hb
        rw [e]
        exact stat I7 n5) (fun b hb => by
        have e : b = it := by simpa using hb
        rw [e]
        exact ⟨o, eo, fun v z => by rw [dd] at z; cases z⟩)
      have y7 : (Itl X.K a).yld i H5 x H5 := ⟨rfl, fun ys hy => by rw [I5.list_inj hy hq]; exact hx⟩
      refine thnF (pg.run _ _ _ H5 x u _ I7' ru (step x H5 y7)) fun _ s8 ⟨σ8, H8, I8, hw8, q8⟩ => ?_
      refine thnF (pt.run _ s8 σ8 H8 _ I8 q8) fun b s9 ⟨H9, I9, q9⟩ => ?_
      have fin : ∀ {s' : Shared} {H' : Hp}, Inv (X.blk s3 H3 scope ce [it]) ([] ++ pinsAt [it] h') σ8 H' s' → Nx H' → ∃ m, m < n ∧ ∃ i H', Inv (X.blk s3 H3 scope ce [it]) [] (wipe σ (own.map (·.2))) H' s' ∧ s'.heap.IsListIter it a i ∧ H' it = none ∧ W i m H' := fun {s' H'} I' nx => by
        obtain ⟨m', hm, w'⟩ := hNx H' nx
        have pin' : s'.heap.get? it = some o ∧ H' it = none :=
          let z := I'.pin (it, o) (List.mem_append_right _ (List.mem_append_right _ (mem_pinsAt (by simp) eo)))
          ⟨z.1, z.2.1⟩
        have hl : (wipe σ (own.map (·.2))).length = σ8.length := by rw [← hw8, wipe_length]
        refine ⟨m', hm, i + 1, H', (I'.unpinned (pins := [])).weak hl (fun j v e => ?_), keepIt st' fun o' e => ?_, pin'.2, w'⟩
        · rw [← hw8] at e
          exact (wipe_some e).1
        · rw [eo] at e
          cases e
          exact pin'.1
      cases b with
      | false =>
        simp only [Bool.false_eq_true, if_false] at q9 ⊢
        exact fin I9 q9
      | true =>
        simp only [if_true] at q9 ⊢
        refine thnF (pe.run _ s9 σ8 H9 _ I9 q9) fun z s10 ⟨yv, H10, I10, r10, acc, hD10, hz10, nx⟩ => ?_
        exact app_ok (X := X.blk s3 H3 scope ce [it]) I10 hD10 hz10 r10 fun s11 I11 => fin I11 nx
  exact codeAny_compStart_list loop (wpAny_pyIter_listiter st4 loop)
end



theorem hotc {X : Cx} {a : Addr} {oe : Obj} {pn : List (Addr × Obj)} {cls : Value} {d : Option Addr} (hz : L2N.Zn cls d oe) (hf : ∃ vs, oe.data = .fields vs) : L2H.HotC (X.suite a ((a, oe) :: pn)) := by
  obtain ⟨vs, e⟩ := hf
  exact ⟨(a, oe), ⟨rfl, vs, e, hz.2.2 vs e⟩, List.mem_cons_self⟩
theorem pe_lcHotD {X : Cx} {a : Addr} {oe : Obj} {pn : List (Addr × Obj)} {cls : Value} {d : Option Addr} {elt tg l : Expr} {ifs : List Expr} {scope : Scope} {own : List (Str × Nat)} {pos : Pos} {tl : TE} {g : TG} {tt : TT} {te : TE} (hz : L2N.Zn cls d oe) (hf : ∃ vs, oe.data = .fields vs) (hN : X.N.Nodup) (hl : PE (X.suite a ((a, oe) :: pn)) l tl) (ok : BlkOk X.N X.env.scope scope own)
    (hg : ∀ (s : Shared) (H : Hp) (C : Addr) (cl : List (Str × Addr)) (fp : List Addr), PG ((X.suite a ((a, oe) :: pn)).blk s H scope (compEnvC scope cl C X.env) fp) tg g) (ht : ∀ (s : Shared) (H : Hp) (C : Addr) (cl : List (Str × Addr)) (fp : List Addr), PTs ((X.suite a ((a, oe) :: pn)).blk s H scope (compEnvC scope cl C X.env) fp) ifs tt)
    (he : ∀ (s : Shared) (H : Hp) (C : Addr) (cl : List (Str × Addr)) (fp : List Addr), PE ((X.suite a ((a, oe) :: pn)).blk s H scope (compEnvC scope cl C X.env) fp) elt te) (hs : ∀ x, foldedSetIterable l X.env x = pure x := by intro _; rfl) :
    PE (X.suite a ((a, oe) :: pn)) (.ListComp elt [⟨tg, l, ifs, 0⟩] scope pos) (tLc (iList X.K tl) g tt te (own.map (·.2))) :=
  pe_lcHot (hotc hz hf) hN hl ok hg ht he hs
/-- a for over a list of any things that stands in a slot -/
theorem z_forW {K : PySem.W.Frag} {σ : L2.St} {H : Hp} {D : Ends} {n : Nat} {a : Addr} {xs : List V} {g : TG} {tb : TS} (hx : SqL K H a xs) (hn : σ[n]? = some (some (.ref a))) (Pv : Nat → L2.St → Hp → Prop) (h0 : Pv 0 σ H) (hl : ∀ i σ' H', Pv i σ' H' → Ex H H')
    (hs : ∀ i y σ' H', xs[i]? = some y → Pv i σ' H' → g y σ' H' fun σ2 H2 => tb { D with nx := Pv (i + 1), ct := Pv (i + 1), bk := D.nx } σ2 H2) (hd : ∀ σ' H', Pv xs.length σ' H' → D.nx σ' H') : tFor (iList K (tVar n)) g tb D σ H :=
  ⟨_, hn, a, rfl, ⟨xs, hx⟩, for_list (K := K) (a := a) (xs := xs) Pv h0 (fun i σ' H' _ p => ex_l (hl i σ' H' p) hx) (fun i v σ' H' hv p => hs i v σ' H' hv p) hd⟩
theorem mtIndex (K : PySem.W.Frag) {X : Cx} (h : X.K = K := by rfl) : MtR X "list.index" (rIndex K) := h ▸ mt_index
theorem pe_bmK (K : PySem.W.Frag) {X : Cx} {o e : Expr} {es : List Expr} {name : Str} {T id : String} {r : V → List V → Hp → VK → Prop} {to : TE} {t : TA} {apos cpos : Pos} (pa : PlainAttrs T) (slot : Slot T name id) (hty : typeOf (.builtin id) = pure (.type "method_descriptor")) (hm : MtR X id r) (ho : PE X o to) (ha : PA X (e :: es) t)
    (hbase : attributeBase o name X.env (eval o X.env) = eval o X.env := by rfl)
    (hfew : ((backTo cpos (starEach (e :: es) X.env)).all (fun x => !x.1) && (backToKw cpos (keywordEach [] X.env)).all (fun x => x.1.isSome)
      && decide ((e :: es).length + ([] : List Keyword).length + (if ([] : List Keyword).isEmpty then 0 else 1) < 30)) = true := by rfl)
    (hline : (apos.endLine == cpos.line) = true := by rfl) (hs : starEach (e :: es) X.env = (false, eval e X.env) :: starEach es X.env := by rfl) (hplain : (backTo cpos (starEach es X.env)).any (·.1) = false := by rfl) (h : X.K = K := by rfl) :
    PE X (.Call (.Attribute o name apos) (e :: es) [] cpos) (tBM K T r to t) := h ▸ pe_bm pa slot hty hm ho ha hbase hfew hline hs hplain
/-! t[::-1] of a tuple -/
theorem filt_all {α : Type} : ∀ l : List α, (List.range l.length).filterMap (fun k => l[k]?) = l
  | [] => rfl
  | x :: l => by
    rw [List.length_cons, List.range_succ_eq_map, List.filterMap_cons, List.filterMap_map]
    show x :: (List.range l.length).filterMap (fun k => l[k]?) = x :: l
    rw [filt_all l]
theorem filt_congr {α β : Type} {f g : α → Option β} : ∀ {l : List α}, (∀ x ∈ l, f x = g x) → l.filterMap f = l.filterMap g
  | [], _ => rfl
  | x :: l, h => by
    rw [List.filterMap_cons, List.filterMap_cons, h x List.mem_cons_self, filt_congr fun y hy => h y (List.mem_cons_of_mem _ hy)]
theorem pick_rev (xs : Array Value) : ((List.range xs.size).filterMap fun (k : Nat) => xs[(((xs.size : Nat) : Int) - 1 + (k : Int) * (-1)).toNat]?) = xs.toList.reverse := by
  have e := filt_all xs.toList.reverse
  rw [List.length_reverse, Array.length_toList] at e
  refine Eq.trans (filt_congr fun k hk => ?_) e
  have hk := List.mem_range.mp hk
  rw [List.getElem?_reverse (by rw [Array.length_toList]; exact hk), Array.length_toList, Array.getElem?_toList]
  congr 1
  omega
theorem adjust_rev (n : Nat) : Builtin.Slice.sliceAdjust none none (-1) (n : Int) = ((n : Int) - 1, -1) := by
  unfold Builtin.Slice.sliceAdjust
  rfl
theorem places_rev (n : Nat) : Builtin.Slice.slicePlaces ((n : Int) - 1) (-1) (-1) = n := by
  unfold Builtin.Slice.slicePlaces
  rw [if_neg (by decide)]
  by_cases h : n = 0
  · subst h; rfl
  · rw [if_pos (by omega)]
    show ((((n : Int) - 1 - -1 - 1) / 1) + 1).toNat = n
    rw [Int.ediv_one]
    omega
section
variable {prog : Program} {w : World} {A : Around} {E : Value → Shared → Prop} {s : Shared}
theorem getItem_tuple_rev {t sl : Addr} {items : Array Value} {vl vu vs : Value} {Q : Value → Shared → Prop} (ht : IsTup s.heap t items) (hs : s.heap.IsSliceOf sl vl vu vs) (pl : IsPart vl none) (pu : IsPart vu none) (ps : IsPart vs (some (-1)))
    (h : Q (.ref s.heap.objs.size) { s with heap := s.heap.push { cls := .type "tuple", data := .seq (items.toList.reverse).toArray } })
    (hsz : items.size ≤ sizeLine) : wpAny (model prog w) A (getItem (.ref t) (.ref sl)) Q E s := by
  have htake : sizeOk (.seq (items.toList.reverse).toArray) := by
    show (items.toList.reverse).toArray.size ≤ sizeLine
    rw [List.size_toArray, List.length_reverse, Array.length_toList]
    exact hsz
  obtain ⟨os, hos, hcs, hds⟩ := id hs
  have hTs : s.TypeIs (.ref sl) "slice" := ⟨os, hos, hcs⟩
  unfold getItem
  try with_reducible refine wpAny_holding ?_
  first | refine wpAny_bind (wpAny_pure ?_) | skip
  refine wpAny_bind (wpAny_sequenceKey ht.typeIs (by decide) ?_)
  refine wpAny_bind (wpAny_callSpecial?_slot (name := Str.ofString "__getitem__") ht.typeIs PyProof.Rows.slot_tuple_getitem
    (wpAny_call_entry PyProof.Rows.slot_tuple_getitem ht.typeIs entry_tuple_getitem ?_ (args_tuple_getitem _ _)))
  show wpAny _ _ (Builtin.Tuple.tupleItemsOf (.ref t) >>= _) _ _ s
  refine wpAny_bind (tupleItemsOf_ ht ?_)
  refine wpAny_bind (wpAny_typeOf hTs ?_)
  rw [if_pos (by decide)]
  refine wpAny_bind ?_
  unfold Builtin.Slice.sliceApplied Builtin.Slice.sliceFields
  refine wpAny_bind (wpAny_bind (wpAny_field hos hds (x := vl) rfl (wpAny_bind (wpAny_field hos hds (x := vu) rfl (wpAny_bind (wpAny_field hos hds (x := vs) rfl (wpAny_pure ?_)))))))
  refine wpAny_bind (HT.slicePart_ ps ?_)
  show wpAny _ _ (if ((-1 : Int) == 0) = true then _ else _) _ _ s
  rw [if_neg (by decide)]
  refine wpAny_bind (HT.slicePart_ pl (wpAny_bind (HT.slicePart_ pu (wpAny_bind (wpAny_pure ?_)))))
  show wpAny _ _ (match Builtin.Slice.sliceAdjust none none (-1) ((items.size : Nat) : Int) with | (lo, hi) => pure (lo, (-1 : Int), Builtin.Slice.slicePlaces lo hi (-1))) _ _ s
  rw [adjust_rev]
  show wpAny _ _ (pure (((items.size : Nat) : Int) - 1, (-1 : Int), Builtin.Slice.slicePlaces (((items.size : Nat) : Int) - 1) (-1) (-1))) _ _ s
  rw [places_rev]
  refine wpAny_pure ?_
  have hno : ¬ (((((items.size : Nat) : Int) - 1) == 0 && (-1 : Int) == 1 && items.size == items.size) = true) := by
    intro q
    rw [Bool.and_eq_true, Bool.and_eq_true] at q
    exact absurd q.1.2 (by decide)
  show wpAny _ _ (if ((((items.size : Nat) : Int) - 1) == 0 && (-1 : Int) == 1 && items.size == items.size) = true then _ else _) _ _ s
  rw [if_neg hno, pick_rev]
  first
    | exact wpAny_bind (m := Builtin.Tuple.tupleExact _) (wpAny_newObj_type (wpAny_pure ⟨_, rfl, wpAny_pure h⟩) htake)
    | exact wpAny_bind (m := Builtin.Tuple.tupleExact _) (wpAny_newObj_type (wpAny_bind (wpAny_pure (wpAny_pure ⟨_, rfl, wpAny_pure h⟩))) htake)
    | exact wpAny_bind (wpAny_bind (m := Builtin.Tuple.tupleExact _) (wpAny_newObj_type (wpAny_pure (wpAny_pure ⟨_, rfl, wpAny_pure h⟩)) htake))
    | exact wpAny_bind (wpAny_bind (m := Builtin.Tuple.tupleExact _) (wpAny_newObj_type (wpAny_pure ⟨_, rfl, wpAny_pure h⟩) htake))
end
def tRevT (K : PySem.W.Frag) (te : TE) : TE := fun σ H Q => te σ H fun x H1 => ∃ a xs, x = .ref a ∧ SqT K H1 a xs ∧ ∀ p, H1 p = none → Q (.ref p) (upd H1 p (.tup xs.reverse))
theorem z_revT {K : PySem.W.Frag} {te : TE} {σ : L2.St} {H : Hp} {Q : VK} (q : te σ H fun x H1 => ∃ a xs, x = .ref a ∧ SqT K H1 a xs ∧ ∀ p, H1 p = none → Q (.ref p) (upd H1 p (.tup xs.reverse))) : tRevT K te σ H Q := q
theorem revT {X : Cx} (K : PySem.W.Frag) {e : Expr} {te : TE} {k : Nat} {p1 p2 p3 pos : Pos} (he : PE X e te) (hK : X.K = K := by rfl) : PE X (.Subscript e (.Slice none none (some (.UnaryOp .USub (.Constant (.int 1) k p1) p2)) p3) pos) (tRevT K te) := by
  subst hK
  refine ⟨fun pins s σ H Q I h => ?_⟩
  refine Subscript_ (thn (he.run pins s σ H _ I h) fun v s1 ⟨x, H1, I1, r1, q1⟩ => ?_)
  obtain ⟨a, xs, ex, hx, q⟩ := q1
  subst ex
  cases r1
  have hst : PO X (some (.UnaryOp .USub (.Constant (.int 1) k p1) p2)) (tPart (tUn (rU fun i => .int (-i)) (tC (.int 1)))) := po_some (pe_un un_neg pe_int)
  refine wpAny_Slice (thn (po_none.run pins s1 σ H1 (fun o H2 => o = none ∧ H2 = H1) I1 ⟨rfl, rfl⟩) fun vl s2 ⟨l, H2, I2, pl, el, e2⟩ => ?_)
  subst el e2
  refine thn (po_none.run pins s2 σ H2 (fun o H3 => o = none ∧ H3 = H2) I2 ⟨rfl, rfl⟩) fun vu s3 ⟨u, H3, I3, pu, eu, e3⟩ => ?_
  subst eu e3
  refine thn (hst.run pins s3 σ H3 (fun o H4 => o = some (-1) ∧ H4 = H3) I3 ⟨1, rfl, -1, rfl, rfl, rfl⟩) fun vs s4 ⟨o, H4, I4, ps, eo, e4⟩ => ?_
  subst eo e4
  have I5 : Inv X pins σ H4 { s4 with heap := s4.heap.push { cls := .type "slice", data := .fields #[vl, vu, vs] } } := I4.kept (t' := s4.toks) fun b ob q => Heap.get?_push_of_some _ q
  obtain ⟨its, r, ht, hz⟩ := I5.tuple hx
  have hlen := r.length
  show wpAny (model X.prog X.w) X.A (subscriptTail e (.Slice none none (some (.UnaryOp .USub (.Constant (.int 1) k p1) p2)) p3) (.ref a) (.ref s4.heap.objs.size)) (EP X pins σ Q) X.xe { s4 with heap := s4.heap.push { cls := .type "slice", data := .fields #[vl, vu, vs] } }
  refine tail_any (ops := [.ref a, .ref s4.heap.objs.size]) ht.typeIs (PyProof.Rows.slot_tuple_getitem.lookup) ?_ (by with_unfolding_all rfl)
  refine getItem_tuple_rev ht (Heap.IsSliceOf.new _ vl vu vs) pl pu ps ?_ (by rw [List.size_toArray]; omega)
  refine ⟨.ref _, _, I5.laid (t' := s4.toks) (o := .tup xs.reverse) (fun b ob q => Heap.get?_push_of_some _ q) (Nat.le_refl _) ?_, rfl, q _ (I5.hok.fresh (Nat.le_refl _))⟩
  exact ⟨by rw [List.length_reverse]; exact hz, _, r.reverse, IsTup.new _ _⟩
/-- a comprehension over a list of any things -/
theorem z_lcloopW {K : PySem.W.Frag} {σ : L2.St} {H : Hp} {te : TE} {QD : Addr → Hp → Prop} {Hb : Hp} {a : Addr} {xs : List V} {g : TG} {tt : TT} {vs : List Nat} (hx : SqL K Hb a xs) (h0 : Ex Hb H)
    (h : ∀ D, H D = none → ∃ Pv : Nat → Hp → Prop, Pv 0 (upd H D (.lst [])) ∧ (∀ i H', Pv i H' → Ex Hb H') ∧
      (∀ i v H', xs[i]? = some v → Pv i H' → g v (wipe σ vs) H' fun σ2 H2 => wipe σ2 vs = wipe σ vs ∧ tt σ2 H2 fun b H3 =>
        if b = true then te σ2 H3 fun y' H4 => ∃ acc, H4 D = some (.lst acc) ∧ acc.length < sizeLine ∧ Pv (i + 1) (upd H4 D (.lst (acc ++ [y']))) else Pv (i + 1) H3) ∧ ∀ H', Pv xs.length H' → QD D H') :
    ∃ a', V.ref a = V.ref a' ∧ (∃ vs, SqL K H a' vs) ∧ ∀ D, H D = none → ∃ W : Nat → Nat → Hp → Prop, (∃ m, W 0 m (upd H D (.lst []))) ∧ ∀ i m H, W i m H →
      ((Itl K a').stop i H ∧ QD D H) ∨ ((Itl K a').go i H ∧ ∃ Nx : Hp → Prop, (∀ H', Nx H' → ∃ m', m' < m ∧ W (i + 1) m' H') ∧ ∀ x H', (Itl K a').yld i H x H' → g x (wipe σ vs) H' fun σ2 H2 => wipe σ2 vs = wipe σ vs ∧ tt σ2 H2 fun b H3 =>
        if b = true then te σ2 H3 fun y H4 => ∃ acc, H4 D = some (.lst acc) ∧ acc.length < sizeLine ∧ Nx (upd H4 D (.lst (acc ++ [y]))) else Nx H3) := by
  refine ⟨a, rfl, ⟨xs, ex_l h0 hx⟩, fun D hD => ?_⟩
  obtain ⟨Pv, p0, pl, ps, pd⟩ := h D hD
  exact lc_list (K := K) (a := a) (xs := xs) Pv p0 (fun i H' _ p => ex_l (pl _ _ p) hx) (fun i v H' hv p => ps i v H' hv p) pd
/-! a, b = a list of two -/
theorem pgLst (K : PySem.W.Frag) {X : Cx} {pos : Pos} {es : List Expr} {k : Nat} {t : TGs} {n : Nat} (hc : X.calm = true) (h : PGs X es t)
    (hn : (assignEach es X.env).length = n := by rfl) (hst : (assignEach es X.env).findIdx? (·.1) = none := by rfl) (hK : X.K = K := by rfl) : PG X (.Tuple es k pos) (gLst K n t) := hK ▸ pg_lst hc h hn hst
theorem z_glst2 {K : PySem.W.Frag} {σ : L2.St} {H : Hp} {a : Addr} {x y : V} {t u : TG} {N : L2.St → Hp → Prop} (h : SqL K H a [x, y]) (q : t x σ H fun σ' H' => u y σ' H' N) : gLst K 2 (gCons t (gCons u gNil)) (.ref a) σ H N :=
  ⟨a, [x, y], rfl, h, rfl, x, [y], rfl, (by
    have e : (fun σ' H' => u y σ' H' N) = fun σ' H' => gCons u gNil [y] σ' H' N := by
      rw [gcons_eq u]
      funext σ' H'
      rw [gnil_eq N]
    rw [e] at q
    exact q)⟩
/-- an or whose second part makes new things -/
theorem z_orN {σ : L2.St} {H : Hp} {t u : TT} {QB : Bool → Hp → Prop} (P : Prop) (h1 : ∃ c, Pt1 t σ H c) (h2 : ∀ R : Bool → Hp → Prop, (∀ b H2, Ex H H2 → (b = false → P) → R b H2) → u σ H R) (k : ∀ b H2, Ex H H2 → (b = false → P) → QB b H2) : tOr t u σ H QB := by
  obtain ⟨c, h1⟩ := h1
  refine h1 _ ?_
  cases c with
  | true => exact k true H (Ex.refl _) fun z => by cases z
  | false => exact iteF (h2 _ k)
end Z
/-! #### sorted of lists of ints; x in a list of such -/
namespace Z
open PySem PySem.Spec PyProof.Rows L2
open Evl (Ex ex_l ex_t sq_of st_of)
open PySem.W (Datum EachIs Sortable AllAlike SortsAt dataKind dataKind_some sortVals sortVals_each sorted_vals sortLe alike alikeAll keyToks keyToksAll)
/-- lists of ints in the order of < -/
def leL (x y : List Int) : Bool := sortLe (PyProof.Rows.listOrd PyProof.Rows.itemOrd) false (fun x : List Int => keyToks (Datum.toD x)) x y
def srtL (xss : List (List Int)) : List (List Int) := xss.mergeSort leL
theorem alike_ints : ∀ (xs ys : List Int), alikeAll (xs.map Datum.toD) (ys.map Datum.toD) = true
  | [], _ => by simp [alikeAll]
  | _ :: _, [] => by simp [alikeAll]
  | x :: xs, y :: ys => by
    have h : alike (Datum.toD x) (Datum.toD y) = true := rfl
    rw [List.map_cons, List.map_cons, alikeAll, h, alike_ints xs ys]; rfl
theorem each_zip {R : Value → V × List Int → Prop} {vs : List V} {its : List Value} {xss : List (List Int)} (rv : Vals vs its) (hl : vs.length = xss.length) (h : ∀ (i : Nat) v u x, vs[i]? = some v → its[i]? = some u → xss[i]? = some x → RelV v u → R u (v, x)) : EachIs R its (vs.zip xss) := by
  induction rv generalizing xss with
  | nil => exact .nil
  | @cons v u vs us r t ih =>
    cases xss with
    | nil => cases hl
    | cons x xss =>
      refine .cons (h 0 v u x rfl rfl rfl r) (ih (by simpa using hl) fun i v' u' x' h1 h2 h3 r' => h (i + 1) v' u' x' (by simpa using h1) (by simpa using h2) (by simpa using h3) r')
theorem each_map {α β γ : Type} {R : α → β → Prop} {R' : α → γ → Prop} (f : β → γ) (hm : ∀ a b, R a b → R' a (f b)) : ∀ {as : List α} {bs : List β}, EachIs R as bs → EachIs R' as (bs.map f)
  | _, _, .nil => .nil
  | _, _, .cons h t => .cons (hm _ _ h) (each_map f hm t)
theorem each_both {α β : Type} {R R' : α → β → Prop} : ∀ {as : List α} {bs : List β}, EachIs R as bs → (∀ a b, b ∈ bs → R a b → R' a b) → EachIs R' as bs
  | _, _, .nil, _ => .nil
  | _, _, .cons h t, k => .cons (k _ _ List.mem_cons_self h) (each_both t fun a b hb => k a b (List.mem_cons_of_mem _ hb))
def rSortedLL (K : PySem.W.Frag) : List V → Hp → VK → Prop := fun vs H Q => ∃ (a : Addr) (xss : List (List Int)), vs = [V.ref a] ∧ Dt K H (.ref a) xss ∧ ∀ ys p, DtAll K H ys (srtL xss) → H p = none → Q (.ref p) (upd H p (.lst ys))
theorem crSortedL (K : PySem.W.Frag) {X : Cx} (hu : X.A.units + 64 < cLine) (h : X.K = K := by rfl) : CallR X (.builtin "sorted") (rSortedLL K) := by
  subst h
  intro pins s σ H vs us Q I r h
  obtain ⟨a, xss, rfl, hd, q⟩ := h
  obtain ⟨_, vs, e, hs, ha⟩ := hd.list
  cases e
  obtain ⟨its, rv, hl, hz⟩ := I.list hs
  obtain ⟨u, rfl, ru⟩ := vals1 r
  obtain rfl : u = Value.ref a := ru
  have hlen := ha.length
  have E1 : EachIs (fun (u : Value) (b : V × List Int) => RelV b.1 u ∧ Dt X.K H b.1 b.2 ∧ ∃ as, Reads s.heap u (Datum.toD b.2) as) its (vs.zip xss) := each_zip rv hlen fun i v u x h1 h2 h3 rr => by
    obtain ⟨y, k1, k2⟩ := ha.get h1
    rw [h3] at k1
    cases k1
    exact ⟨rr, k2, Dp.reads I _ v u k2 rr⟩
  have kp : ∀ b o, s.heap.get? b = some o → (PySem.W.sortingHeap (PySem.W.copyHeap s.heap its) (s.heap.objs.size + 1) its).get? b = some o := fun b o e => PySem.W.sorting_copy_old e
  have ezip : (vs.zip xss).map (fun b => b.2) = xss := List.map_snd_zip (by omega)
  have E2 : EachIs (fun v d => ∃ as, Reads (PySem.W.sortingHeap (PySem.W.copyHeap s.heap its) (s.heap.objs.size + 1) its) v d as) its (xss.map Datum.toD) := by
    have := each_map (R' := fun v d => ∃ as, Reads (PySem.W.sortingHeap (PySem.W.copyHeap s.heap its) (s.heap.objs.size + 1) its) v d as) (fun b : V × List Int => Datum.toD b.2) (fun u b z => by
      obtain ⟨_, _, as, r⟩ := z
      exact ⟨as, PyProof.Rows.Reads.keeps kp r⟩) E1
    have em : (vs.zip xss).map (fun b : V × List Int => Datum.toD b.2) = xss.map Datum.toD := by
      refine Eq.trans (b := ((vs.zip xss).map fun b : V × List Int => b.2).map Datum.toD) ?_ (by rw [ezip])
      rw [List.map_map]
      rfl
    rw [em] at this
    exact this
  have hal : AllAlike (xss.map Datum.toD) := fun d hd d' hd' => by
    obtain ⟨x, _, rfl⟩ := List.mem_map.mp hd
    obtain ⟨y, _, rfl⟩ := List.mem_map.mp hd'
    show alike (.list _) (.list _) = true
    rw [alike]
    exact alike_ints x y
  have hk : Sortable (xss.map Datum.toD) := .inr fun d hd => by
    obtain ⟨x, _, rfl⟩ := List.mem_map.mp hd
    exact ⟨fun z => (by cases z), fun ys z => (by cases z)⟩
  have S : SortsAt X.prog X.w X.A.in1.in1 { s with heap := PySem.W.sortingHeap (PySem.W.copyHeap s.heap its) (s.heap.objs.size + 1) its } (dataKind (PySem.W.sortingHeap (PySem.W.copyHeap s.heap its) (s.heap.objs.size + 1) its) (xss.map Datum.toD)) its :=
    SortsAt.data (s := { s with heap := PySem.W.sortingHeap (PySem.W.copyHeap s.heap its) (s.heap.objs.size + 1) its }) E2 hal hk fun d hd => by
      obtain ⟨x, _, rfl⟩ := List.mem_map.mp hd
      have := Datum.depth_le x
      have h2 : Datum.depth (List Int) ≤ 8 := by decide
      show X.A.units + 1 + 1 + (Datum.toD x).depth < cLine
      omega
  refine sorted_vals hl.isList S (by rw [← rv.length]; exact hz) ?_
  have E3 := sortVals_each (κ := dataKind (PySem.W.sortingHeap (PySem.W.copyHeap s.heap its) (s.heap.objs.size + 1) its) (xss.map Datum.toD)) (rev := false) (ks := its) (fun b : V × List Int => keyToks (Datum.toD b.2)) E1 (each_both E1 fun v b hb z => by
    obtain ⟨_, _, as, r⟩ := z
    refine dataKind_some hal ?_ (PyProof.Rows.Reads.keeps kp r)
    rw [← ezip, List.map_map]
    exact List.mem_map.mpr ⟨b, hb, rfl⟩)
  generalize sortVals (dataKind (PySem.W.sortingHeap (PySem.W.copyHeap s.heap its) (s.heap.objs.size + 1) its) (xss.map Datum.toD)) false its its = out at E3 ⊢
  have em : ((vs.zip xss).mergeSort (sortLe (PyProof.Rows.listOrd PyProof.Rows.itemOrd) false fun b : V × List Int => keyToks (Datum.toD b.2))).map (fun b => b.2) = srtL xss := by
    refine Eq.trans (PySem.W.sort_maps (r := sortLe (PyProof.Rows.listOrd PyProof.Rows.itemOrd) false fun b : V × List Int => keyToks (Datum.toD b.2)) (s := leL) (fun b : V × List Int => b.2) fun a _ b _ => rfl) ?_
    rw [ezip]
    rfl
  have E3 : EachIs (fun (u : Value) (b : V × List Int) => RelV b.1 u ∧ Dt X.K H b.1 b.2 ∧ ∃ as, Reads s.heap u (Datum.toD b.2) as) out ((vs.zip xss).mergeSort (sortLe (PyProof.Rows.listOrd PyProof.Rows.itemOrd) false fun b : V × List Int => keyToks (Datum.toD b.2))) := E3
  have lo : ((vs.zip xss).mergeSort (sortLe (PyProof.Rows.listOrd PyProof.Rows.itemOrd) false fun b : V × List Int => keyToks (Datum.toD b.2))).length = xss.length := by
    rw [List.length_mergeSort, List.length_zip]; omega
  generalize (vs.zip xss).mergeSort (sortLe (PyProof.Rows.listOrd PyProof.Rows.itemOrd) false fun b : V × List Int => keyToks (Datum.toD b.2)) = bs at E3 em lo
  have fin : ∀ {out : List Value} {bs : List (V × List Int)}, EachIs (fun (u : Value) (b : V × List Int) => RelV b.1 u ∧ Dt X.K H b.1 b.2 ∧ ∃ as, Reads s.heap u (Datum.toD b.2) as) out bs → Vals (bs.map fun b => b.1) out ∧ DtAll X.K H (bs.map fun b => b.1) (bs.map fun b => b.2) := fun {out bs} e => by
    induction e with
    | nil => exact ⟨.nil, da_nil⟩
    | cons h t ih => exact ⟨.cons h.1 ih.1, da_cons h.2.1 ih.2⟩
  obtain ⟨f1, f2⟩ := fin E3
  rw [em] at f2
  obtain ⟨n, hn⟩ := PyProof.Rows.sortedAll_at s.heap its out.toArray
  refine ⟨.ref (s.heap.objs.size + 1), upd H (s.heap.objs.size + 1) (.lst (bs.map fun b => b.1)), I.laid (t' := s.toks) (fun b o e => PyProof.Rows.sortedAll_old e) (Nat.le_succ _) ⟨?_, out, n, f1, hn⟩, rfl, q _ _ f2 (I.hok.fresh (Nat.le_succ _))⟩
  rw [List.length_map, lo, ← hlen]
  exact hz
theorem z_sortedL {K : PySem.W.Frag} {H : Hp} {Q : VK} {a : Addr} {xss : List (List Int)} (h : Dt K H (.ref a) xss) (q : ∀ ys p, DtAll K H ys (srtL xss) → H p = none → Q (.ref p) (upd H p (.lst ys))) : rSortedLL K [V.ref a] H Q := ⟨a, xss, rfl, h, q⟩
/-- x in a list of lists of ints -/
theorem opInD (K : PySem.W.Frag) {X : Cx} (hu : X.A.units + 65 < cLine) (h : X.K = K := by rfl) : OpR X (compareOp .In) (rInD K) := h ▸ op_inD hu
theorem any_eqv {α : Type} [DecidableEq α] [Datum α] (x : α) : ∀ l : List α, ((l.map Datum.toD).any fun z => PyData.eqv z (Datum.toD x)) = decide (x ∈ l)
  | [] => rfl
  | y :: l => by
    rw [List.map_cons, List.any_cons, any_eqv x l, Datum.eqv]
    by_cases c : y = x
    · subst c; simp
    · have : ¬ x = y := fun z => c z.symm
      simp [c, this]
theorem z_inD {α : Type} [DecidableEq α] [Datum α] [DL α] {K : PySem.W.Frag} {H : Hp} {Q : VK} {x y : V} {a : α} {l : List α} (hd : Datum.depth (List α) ≤ 64) (hd2 : Datum.depth α ≤ 64) (hx : Dt K H x a) (hy : Dt K H y l) (q : Q (.bl (decide (a ∈ l))) H) : rInD K x y H Q :=
  ⟨_, l.map Datum.toD, hx, hy, shapedD a hd2, shapedD l hd, by rw [any_eqv]; exact q⟩
theorem hu65 {A : Around} {k : Nat} (hr : Room k A) : A.units + 65 < cLine := by have := hr.un; omega
end Z
/-! one step of a reading, as far as it goes by itself -/
local macro_rules | `(tactic| walk_at "go1") => `(tactic| first
  | (with_reducible refine Z.z_seq ?_) | (with_reducible refine Z.z_next ?_) | (with_reducible refine Z.z_asg ?_) | (with_reducible refine Z.z_name ?_)
  | ((with_reducible refine' Z.z_var ?ha ?_); (case ha => exact rfl)) | (with_reducible refine Z.z_c ?_) | (with_reducible refine Z.z_op ?_) | (with_reducible refine Z.z_I0 ?_)
  | (with_reducible refine Z.z_eqI ?_) | (with_reducible refine Z.z_neI ?_)
  | ((with_reducible refine' Z.z_I ?ha ?_); (case ha => first | exact ⟨by decide, by decide⟩ | exact (by decide : (0:Int) < _) | (show (0:Int) < _; omega) | (refine ⟨?_, ?_⟩ <;> first | omega | decide) | exact Or.inr ⟨by decide, by decide⟩ | exact Or.inl ⟨by decide, by decide⟩ | exact Or.inr ⟨by omega, by omega⟩ | exact Or.inl ⟨by omega, by omega⟩))
  | (with_reducible refine Z.z_if ?_) | (with_reducible refine Z.z_test ?_) | (with_reducible refine Z.z_B ?_) | (with_reducible refine Z.z_bl ?_) | (with_reducible refine Z.z_int ?_)
  | (with_reducible refine Z.z_not ?_) | (with_reducible refine Z.z_notV ?_)
  | (with_reducible refine Z.z_ret ?_) | (with_reducible refine Z.z_retN ?_) | (with_reducible refine Z.z_drop ?_) | (with_reducible refine Z.z_cons ?_) | (with_reducible refine Z.z_nil ?_) | (with_reducible refine Z.z_CB ?_) | (with_reducible refine Z.z_call ?_)
  | (with_reducible refine Z.z_tup ?_) | (with_reducible refine Z.z_lst ?_) | (with_reducible refine Z.z_sub ?_) | (with_reducible refine Z.z_augS ?_) | (with_reducible refine Z.z_ip ?_) | ((with_reducible refine' Z.z_aug ?ha ?_); (case ha => exact rfl))
  | (with_reducible refine Z.z_bm ?_) | (with_reducible refine Z.z_bm0 ?_) | (with_reducible refine Z.z_chain ?_) | (with_reducible refine Z.z_din ?_) | (with_reducible refine Z.z_dnotin ?_) | (with_reducible refine Z.z_dput ?_)
  | (with_reducible refine Z.z_iteT ?_) | (with_reducible refine Z.z_iteF ?_) | (with_reducible refine Z.z_iteNT ?_) | (with_reducible refine Z.z_iteNF ?_)
  | ((with_reducible refine' Z.z_isi ?ht ?hk ?_); (case ht => first | exact .base (.int _) | exact .base (.bl _) | exact .base .non | exact .base (.str _) | exact .base (.lst (by assumption)) | exact .base (.tup (by assumption)) | exact .base (.dK (by assumption)) | exact Z.tyx_L (by assumption) | exact Z.tyx_T (by assumption)); (case hk => first | exact L2.kit_ty (r := true) (by decide +kernel) | exact L2.kit_ty (r := false) (by decide +kernel)))
  | (with_reducible refine Z.z_iList ?_) | (with_reducible refine Z.z_lc ?_) | (with_reducible refine Z.z_yes ?_) | (with_reducible refine Z.z_iRng1 ?_)
  | (with_reducible refine Z.z_sl ?_) | (with_reducible refine Z.z_part ?_) | (with_reducible refine Z.z_nopart ?_) | (with_reducible refine Z.z_un ?_) | (with_reducible refine Z.z_U ?_)
  | ((with_reducible refine' Z.z_ixT ?ha ?hb ?_); (case ha => first | assumption | exact L2.SqT.of (by assumption)); (case hb => exact rfl))
  | ((with_reducible refine' Z.z_ixST ?ha ?hb ?_); (case ha => first | assumption | exact L2.SqT.of (by assumption)); (case hb => exact rfl))
  | (with_reducible refine Z.z_isBl ?_) | (with_reducible refine Z.z_notBl ?_) | (with_reducible refine Z.z_eqB ?_) | (with_reducible refine Z.z_neB ?_) | (with_reducible refine Z.z_notNI ?_) | (with_reducible refine Z.z_notNN ?_) | (with_reducible refine Z.z_isNI ?_) | (with_reducible refine Z.z_isNN ?_) | (with_reducible refine Z.z_isN ?_) | (with_reducible refine Z.z_notN ?_) | (with_reducible refine Z.z_int1b ?_) | (with_reducible refine Z.z_max2 ?_) | (with_reducible refine Z.z_min2 ?_)
  | ((with_reducible refine' Z.z_lenDt ?ha ?_); (case ha => assumption)) | ((with_reducible refine' Z.z_lenL ?ha ?_); (case ha => first | assumption | exact L2.SqL.of (by assumption))) | ((with_reducible refine' Z.z_lenT ?ha ?_); (case ha => first | assumption | exact L2.SqT.of (by assumption)))
  | ((with_reducible refine' Z.z_lenD ?ha ?_); (case ha => assumption)))
local macro_rules | `(tactic| walk_at "gs") => `(tactic| repeat walk_at "go1")
local macro_rules | `(tactic| walk_at "go") => `(tactic| repeat (first | walk_at "go1" | (with_reducible refine Z.z_and ?_) | (with_reducible refine Z.z_or ?_) | (with_reducible refine Z.z_andV ?_) | (with_reducible refine Z.z_orV ?_)))
namespace Sd
open PySem PySem.Spec PyProof.Rows L2 Z
open Evl (Ex ex_l ex_t sq_of st_of)
open PySem.W (Datum)
/-! ### tables -/
def tab (n : Nat) (f : Nat → Int) : List Int := (List.range n).map f
theorem tab_len (n : Nat) (f : Nat → Int) : (tab n f).length = n := by unfold tab; simp
theorem tab_get {n k : Nat} (f : Nat → Int) (h : k < n) : (tab n f)[k]? = some (f k) := by unfold tab; simp [h]
theorem tab_congr {n : Nat} {f g : Nat → Int} (h : ∀ k, k < n → f k = g k) : tab n f = tab n g := by
  unfold tab
  exact List.map_congr_left fun k hk => h k (List.mem_range.mp hk)
theorem tab_inj {n : Nat} {f g : Nat → Int} (h : tab n f = tab n g) : ∀ k, k < n → f k = g k := by
  intro k hk
  have h1 := tab_get f hk
  rw [h, tab_get g hk] at h1
  exact (Option.some.inj h1).symm
theorem tab_set {n k : Nat} (f : Nat → Int) (z : Int) (h : k < n) : (tab n f).set k z = tab n (fup f k z) := by
  apply List.ext_getElem?
  intro i
  by_cases hi : i < n
  · rw [tab_get _ hi, List.getElem?_set]
    unfold fup
    by_cases c : k = i
    · subst c; rw [if_pos rfl, if_pos (by rw [tab_len]; exact h), if_pos rfl]
    · rw [if_neg c, if_neg (fun e => c e.symm), tab_get _ hi]
  · rw [List.getElem?_eq_none (by rw [List.length_set, tab_len]; omega), List.getElem?_eq_none (by rw [tab_len]; omega)]
theorem tabV_get {n k : Nat} (f : Nat → Int) (h : k < n) : ((tab n f).map V.int)[k]? = some (.int (f k)) := by
  rw [List.getElem?_map, tab_get f h]; rfl
theorem tabV_set {n k : Nat} (f : Nat → Int) (z : Int) (h : k < n) : ((tab n f).map V.int).set k (.int z) = (tab n (fup f k z)).map V.int := by
  rw [← tab_set f z h, List.map_set]
theorem tabV_len (n : Nat) (f : Nat → Int) : ((tab n f).map V.int).length = n := by rw [List.length_map, tab_len]
theorem tabV_rep (n : Nat) (z : Int) : List.replicate n (V.int z) = (tab n fun _ => z).map V.int := by
  unfold tab
  rw [List.map_map]
  apply List.ext_getElem?
  intro i
  by_cases hi : i < n
  · simp [hi]
  · rw [List.getElem?_eq_none (by simp; omega), List.getElem?_eq_none (by simp; omega)]
theorem atI_tab {n k : Nat} (f : Nat → Int) (h : k < n) : atI ((tab n f).map V.int) (k : Int) = some (.int (f k)) := atI_nat (tabV_get f h)
/-- a list of ints is a table -/
theorem tab_of (l : List Int) : l = tab l.length fun k => l.getD k 0 := by
  apply List.ext_getElem?
  intro i
  by_cases hi : i < l.length
  · rw [tab_get _ hi, List.getD_eq_getElem?_getD, List.getElem?_eq_getElem hi]; rfl
  · rw [List.getElem?_eq_none (by omega), List.getElem?_eq_none (by rw [tab_len]; omega)]
def ind (a k : Nat) : Int := if a = k then 1 else 0
theorem fup_add (f : Nat → Int) (a : Nat) (z : Int) : fup f a (f a + z) = fun k => f k + (if a = k then z else 0) := by
  funext k
  unfold fup
  by_cases c : k = a
  · subst c; rw [if_pos rfl, if_pos rfl]
  · rw [if_neg c, if_neg fun e => c e.symm]; omega
theorem fup_ind (f : Nat → Int) (a : Nat) : fup f a (f a + 1) = fun k => f k + ind a k := fup_add f a 1
theorem tab_ind {n a : Nat} (f : Nat → Int) (h : ¬ a < n) : tab n f = tab n fun k => f k + ind a k := tab_congr fun k hk => by
  unfold ind
  rw [if_neg (by omega)]; omega
theorem deg_snoc (rs : List Road) (r : Road) (k : Nat) : deg (rs ++ [r]) k = deg rs k + ind r.1 k + ind r.2 k := by
  unfold deg
  rw [ds_append]
  simp only [ds, ind]
  omega
theorem deg_nil (k : Nat) : deg [] k = 0 := rfl
/-- how often k stands in a list -/
def inds (l : List Nat) (k : Nat) : Int := match l with
  | [] => 0
  | a :: l => ind a k + inds l k
theorem inds_snoc (l : List Nat) (a k : Nat) : inds (l ++ [a]) k = inds l k + ind a k := by
  induction l with
  | nil => simp [inds]
  | cons b l ih => simp only [List.cons_append, inds, ih]; omega
theorem deg_snoc2 (rs : List Road) (r : Road) (k : Nat) : deg (rs ++ [r]) k = deg rs k + inds [r.1, r.2] k := by
  rw [deg_snoc]; simp only [inds]; omega
/-! ### a dict whose keys are places -/
def keysD (ks : List Nat) : List (Key × V) := ks.map fun (k : Nat) => ((Sum.inl (k : Int) : Key), V.bl true)
theorem keysD_len (ks : List Nat) : (keysD ks).length = ks.length := List.length_map _
theorem keysD_val (ks : List Nat) (k : Nat) : valV (keysD ks) (Sum.inl (k : Int) : Key) = if k ∈ ks then some (V.bl true) else none := by
  induction ks with
  | nil => rfl
  | cons a ks ih =>
    show ((((Sum.inl (a : Int) : Key), V.bl true) :: keysD ks).find? fun kv => decide (kv.1 = (Sum.inl (k : Int) : Key))).map (·.2) = _
    by_cases c : a = k
    · subst c
      rw [List.find?_cons_of_pos (by simp), if_pos List.mem_cons_self]; rfl
    · rw [List.find?_cons_of_neg (by simpa using fun e : (a : Int) = k => c (by omega))]
      have ih' : ((keysD ks).find? fun kv => decide (kv.1 = (Sum.inl (k : Int) : Key))).map (·.2) = if k ∈ ks then some (V.bl true) else none := ih
      rw [ih']
      by_cases m : k ∈ ks
      · rw [if_pos m, if_pos (List.mem_cons_of_mem _ m)]
      · rw [if_neg m, if_neg fun z => by
          rcases List.mem_cons.mp z with z | z
          · exact c z.symm
          · exact m z]
theorem keysD_some {ks : List Nat} {k : Nat} (h : k ∈ ks) : (valV (keysD ks) (Sum.inl (k : Int) : Key)).isSome = true := by rw [keysD_val, if_pos h]; rfl
theorem keysD_none {ks : List Nat} {k : Nat} (h : k ∉ ks) : (valV (keysD ks) (Sum.inl (k : Int) : Key)).isSome = false := by rw [keysD_val, if_neg h]; rfl
theorem keysD_put {ks : List Nat} {k : Nat} (h : k ∉ ks) : putK (keysD ks) (Sum.inl (k : Int) : Key) (V.bl true) = keysD (ks ++ [k]) := by
  rw [putK_new _ (by rw [keysD_val, if_neg h])]
  unfold keysD
  rw [List.map_append]; rfl
def natV (ws : List Nat) : List V := ws.map fun (k : Nat) => V.int (k : Int)
theorem da_nats {K : PySem.W.Frag} {H : Hp} : ∀ ws : List Nat, DtAll K H (natV ws) ws
  | [] => da_nil
  | w :: ws => da_cons (dt_nat w) (da_nats ws)
theorem dt_nats {K : PySem.W.Frag} {H : Hp} {p : Addr} {ws : List Nat} (h : H p = some (.lst (natV ws))) : Dt K H (.ref p) ws := dt_lst (sq_of h) (da_nats ws)
/-! ### comprehensions that make tables, pick places -/
section
variable {K : PySem.W.Frag} {σ : L2.St} {H : Hp} {QD : Addr → Hp → Prop} {te : TE} {tt : TT} {g : TG} {vs : List Nat}
theorem tab_snoc (n : Nat) (f : Nat → Int) : tab (n + 1) f = tab n f ++ [f n] := by
  unfold tab; rw [List.range_succ, List.map_append]; rfl
theorem z_lctab {n : Nat} (f : Nat → Int) (hn : n ≤ 100000) (h : ∀ (i : Nat) H' (R : VK), i < n → Ex H H' → (∀ H4, Ex H' H4 → R (.int (f i)) H4) → g (.int (i : Int)) (wipe σ vs) H' fun σ2 H2 => wipe σ2 vs = wipe σ vs ∧ te σ2 H2 R)
    (q : ∀ D H2, H D = none → Ex H H2 → H2 D = some (.lst ((tab n f).map V.int)) → QD D H2) (mono : ∀ (v : V) σ' H' (P P' : L2.St → Hp → Prop), (∀ s h, P s h → P' s h) → g v σ' H' P → g v σ' H' P' := by intro _ _ _ _ _ k h; exact k _ _ h) :
    ∃ j : Int, [V.int n] = [.int j] ∧ -(2 ^ 62) ≤ j ∧ j < 2 ^ 62 ∧ ∀ D, H D = none → ∃ W : Nat → Nat → Hp → Prop, (∃ m, W 0 m (upd H D (.lst []))) ∧ ∀ i m H, W i m H →
      ((Itr 0 j.toNat).stop i H ∧ QD D H) ∨ ((Itr 0 j.toNat).go i H ∧ ∃ Nx : Hp → Prop, (∀ H', Nx H' → ∃ m', m' < m ∧ W (i + 1) m' H') ∧ ∀ x H', (Itr 0 j.toNat).yld i H x H' → g x (wipe σ vs) H' fun σ2 H2 => wipe σ2 vs = wipe σ vs ∧ tYes σ2 H2 fun b H3 =>
        if b = true then te σ2 H3 fun y H4 => ∃ acc, H4 D = some (.lst acc) ∧ acc.length < sizeLine ∧ Nx (upd H4 D (.lst (acc ++ [y]))) else Nx H3) := by
  refine z_lcrloop (by omega) fun D hD => ⟨fun i H' => Ex H H' ∧ i ≤ n ∧ H' D = some (.lst ((tab i f).map V.int)), ⟨Ex.new hD, Nat.zero_le _, upd_same⟩, ?_, ?_⟩
  · rintro i H' hi ⟨e, _, hd⟩
    refine mono _ _ _ _ _ (fun s h' z => ?_) (h i H' (fun y H4 => ∃ acc, H4 D = some (.lst acc) ∧ acc.length < sizeLine ∧ (Ex H (upd H4 D (.lst (acc ++ [y]))) ∧ i + 1 ≤ n ∧ (upd H4 D (.lst (acc ++ [y]))) D = some (.lst ((tab (i + 1) f).map V.int)))) hi e fun H4 e4 => ?_)
    · exact ⟨z.1, z.2⟩
    · refine ⟨_, e4 _ _ hd, by rw [tabV_len]; exact szl _ (by omega), ex_mut (e.trans e4) hD, hi, ?_⟩
      rw [upd_same, tab_snoc, List.map_append]; rfl
  · rintro H' ⟨e, _, hd⟩
    exact q D H' hD e hd
theorem z_lcfil {n : Nat} (p : Nat → Bool) (hn : n ≤ 100000) (h : ∀ (i : Nat) H' (R : Bool → Hp → Prop), i < n → Ex H H' → (∀ H4, Ex H' H4 → R (p i) H4) → g (.int (i : Int)) (wipe σ vs) H' fun σ2 H2 => wipe σ2 vs = wipe σ vs ∧ tt σ2 H2 R)
    (he : ∀ (i : Nat) H' (R : VK), R (.int (i : Int)) H' → g (.int (i : Int)) (wipe σ vs) H' fun σ2 H2 => te σ2 H2 R)
    (q : ∀ D H2, H D = none → Ex H H2 → H2 D = some (.lst (natV ((List.range n).filter p))) → QD D H2) (hg : ∃ s, g = gName s) :
    ∃ j : Int, [V.int n] = [.int j] ∧ -(2 ^ 62) ≤ j ∧ j < 2 ^ 62 ∧ ∀ D, H D = none → ∃ W : Nat → Nat → Hp → Prop, (∃ m, W 0 m (upd H D (.lst []))) ∧ ∀ i m H, W i m H →
      ((Itr 0 j.toNat).stop i H ∧ QD D H) ∨ ((Itr 0 j.toNat).go i H ∧ ∃ Nx : Hp → Prop, (∀ H', Nx H' → ∃ m', m' < m ∧ W (i + 1) m' H') ∧ ∀ x H', (Itr 0 j.toNat).yld i H x H' → g x (wipe σ vs) H' fun σ2 H2 => wipe σ2 vs = wipe σ vs ∧ tt σ2 H2 fun b H3 =>
        if b = true then te σ2 H3 fun y H4 => ∃ acc, H4 D = some (.lst acc) ∧ acc.length < sizeLine ∧ Nx (upd H4 D (.lst (acc ++ [y]))) else Nx H3) := by
  obtain ⟨s, rfl⟩ := hg
  refine z_lcrloop (by omega) fun D hD => ⟨fun i H' => Ex H H' ∧ i ≤ n ∧ H' D = some (.lst (((List.range i).filter p).map fun (k : Nat) => V.int (k : Int))), ⟨Ex.new hD, Nat.zero_le _, upd_same⟩, ?_, ?_⟩
  · rintro i H' hi ⟨e, _, hd⟩
    refine h i H' _ hi e fun H4 e4 => ?_
    cases hp : p i with
    | true =>
      refine he i H4 _ ⟨_, e4 _ _ hd, ?_, ex_mut (e.trans e4) hD, hi, ?_⟩
      · rw [List.length_map]
        have := List.length_filter_le p (List.range i)
        rw [List.length_range] at this
        exact szl _ (by omega)
      · rw [upd_same, List.range_succ, List.filter_append, List.map_append, List.filter_cons, if_pos hp]; rfl
    | false =>
      refine iteF ⟨e.trans e4, hi, ?_⟩
      rw [e4 _ _ hd, List.range_succ, List.filter_append, List.filter_cons, if_neg (by rw [hp]; decide)]
      show _ = some (HO.lst ((_ ++ []).map _))
      rw [List.append_nil]
  · rintro H' ⟨e, _, hd⟩
    exact q D H' hD e hd
/-- a comprehension over a list of ints, each made into one -/
theorem z_lcmap {Hb : Hp} {a : Addr} {l : List Int} (f : Int → Int) (hx : Dt K Hb (.ref a) l) (h0 : Ex Hb H) (hl : l.length ≤ 90000) (h : ∀ (x : Int) H' (R : VK), x ∈ l → Ex H H' → (∀ H4, Ex H' H4 → R (.int (f x)) H4) → g (.int x) (wipe σ vs) H' fun σ2 H2 => wipe σ2 vs = wipe σ vs ∧ te σ2 H2 R)
    (q : ∀ D H2, H D = none → Ex H H2 → H2 D = some (.lst ((l.map f).map V.int)) → QD D H2) (hg : ∃ s, g = gName s) :
    ∃ a', V.ref a = V.ref a' ∧ (∃ vs, SqL K H a' vs) ∧ ∀ D, H D = none → ∃ W : Nat → Nat → Hp → Prop, (∃ m, W 0 m (upd H D (.lst []))) ∧ ∀ i m H, W i m H →
      ((Itl K a').stop i H ∧ QD D H) ∨ ((Itl K a').go i H ∧ ∃ Nx : Hp → Prop, (∀ H', Nx H' → ∃ m', m' < m ∧ W (i + 1) m' H') ∧ ∀ x H', (Itl K a').yld i H x H' → g x (wipe σ vs) H' fun σ2 H2 => wipe σ2 vs = wipe σ vs ∧ tYes σ2 H2 fun b H3 =>
        if b = true then te σ2 H3 fun y H4 => ∃ acc, H4 D = some (.lst acc) ∧ acc.length < sizeLine ∧ Nx (upd H4 D (.lst (acc ++ [y]))) else Nx H3) := by
  obtain ⟨s, rfl⟩ := hg
  refine z_lcloop (α := Int) (Hb := Hb) hx h0 fun D hD => ⟨fun pre H' => Ex H H' ∧ pre.length ≤ l.length ∧ H' D = some (.lst ((pre.map f).map V.int)), ⟨Ex.new hD, Nat.zero_le _, upd_same⟩, fun _ _ z => h0.trans z.1, ?_, ?_⟩
  · rintro pre y post v H' er hv ⟨e, hl2, hd⟩
    cases hv.int
    have hm : y ∈ l := by rw [er]; simp
    have hl3 : pre.length + 1 ≤ l.length := by rw [er, List.length_append, List.length_cons]; omega
    have z := h y H' (fun y' H4 => ∃ acc, H4 D = some (.lst acc) ∧ acc.length < sizeLine ∧ (Ex H (upd H4 D (.lst (acc ++ [y']))) ∧ (pre ++ [y]).length ≤ l.length ∧ (upd H4 D (.lst (acc ++ [y']))) D = some (.lst (((pre ++ [y]).map f).map V.int)))) hm e fun H4 e4 => ⟨_, e4 _ _ hd, by
        rw [List.length_map, List.length_map]; exact szl _ (by omega), ex_mut (e.trans e4) hD, by rw [List.length_append]; exact hl3, by
        rw [upd_same, List.map_append, List.map_append]; rfl⟩
    exact ⟨z.1, z.2⟩
  · rintro H' ⟨e, _, hd⟩
    exact q D H' hD e hd
/-- a comprehension that picks roads: how many -/
theorem z_lcroads {Hb : Hp} {a : Addr} {rs : List Road} (p : Road → Bool) (hx : Dt K Hb (.ref a) rs) (h0 : Ex Hb H) (hl : rs.length ≤ 90000) (h : ∀ (r : Road) (t : Addr) H' (R : Bool → Hp → Prop), r ∈ rs → SqT K H' t [.int r.1, .int r.2] → Ex H H' → (∀ H4, Ex H' H4 → R (p r) H4) → g (.ref t) (wipe σ vs) H' fun σ2 H2 => wipe σ2 vs = wipe σ vs ∧ tt σ2 H2 R)
    (he : ∀ (t : Addr) H' (R : VK), R (.ref t) H' → g (.ref t) (wipe σ vs) H' fun σ2 H2 => te σ2 H2 R)
    (q : ∀ D H2 xs, H D = none → Ex H H2 → H2 D = some (.lst xs) → xs.length = (rs.filter p).length → QD D H2) (hg : ∃ s, g = gName s) :
    ∃ a', V.ref a = V.ref a' ∧ (∃ vs, SqL K H a' vs) ∧ ∀ D, H D = none → ∃ W : Nat → Nat → Hp → Prop, (∃ m, W 0 m (upd H D (.lst []))) ∧ ∀ i m H, W i m H →
      ((Itl K a').stop i H ∧ QD D H) ∨ ((Itl K a').go i H ∧ ∃ Nx : Hp → Prop, (∀ H', Nx H' → ∃ m', m' < m ∧ W (i + 1) m' H') ∧ ∀ x H', (Itl K a').yld i H x H' → g x (wipe σ vs) H' fun σ2 H2 => wipe σ2 vs = wipe σ vs ∧ tt σ2 H2 fun b H3 =>
        if b = true then te σ2 H3 fun y H4 => ∃ acc, H4 D = some (.lst acc) ∧ acc.length < sizeLine ∧ Nx (upd H4 D (.lst (acc ++ [y]))) else Nx H3) := by
  obtain ⟨s, rfl⟩ := hg
  refine z_lcloop (α := Road) (Hb := Hb) hx h0 fun D hD => ⟨fun pre H' => Ex H H' ∧ pre.length ≤ rs.length ∧ ∃ xs, H' D = some (.lst xs) ∧ xs.length = (pre.filter p).length, ⟨Ex.new hD, Nat.zero_le _, [], upd_same, rfl⟩, fun _ _ z => h0.trans z.1, ?_, ?_⟩
  · rintro pre y post v H' er hv ⟨e, hl2, xs, hd, hxs⟩
    obtain ⟨t, rfl, ht⟩ := hv.road
    have hm : y ∈ rs := by rw [er]; simp
    have hl3 : pre.length + 1 ≤ rs.length := by rw [er, List.length_append, List.length_cons]; omega
    have fl := List.length_filter_le p pre
    refine h y t H' _ hm (ex_t (h0.trans e) ht) e fun H4 e4 => ?_
    cases hp : p y with
    | true =>
      refine he t H4 _ ⟨_, e4 _ _ hd, szl _ (by omega), ex_mut (e.trans e4) hD, by rw [List.length_append]; exact hl3, _, upd_same, ?_⟩
      rw [List.length_append, List.filter_append, List.length_append, List.filter_cons, if_pos hp, hxs]; rfl
    | false =>
      refine iteF ⟨e.trans e4, by rw [List.length_append]; exact hl3, xs, e4 _ _ hd, ?_⟩
      rw [List.filter_append, List.filter_cons, if_neg (by rw [hp]; decide), hxs, List.length_append]; rfl
  · rintro H' ⟨e, _, xs, hd, hxs⟩
    exact q D H' xs hD e hd hxs
end
/-! ### the promises -/
/-- a new list of ints | a value -/
def RetI (ns : List Int) (H : Hp) (Q : VK) : Prop := ∀ p H2, H p = none → Ex H H2 → H2 p = some (.lst (ns.map V.int)) → Q (.ref p) H2
def RetV (v : V) (H : Hp) (Q : VK) : Prop := ∀ H2, Ex H H2 → Q v H2
/-- a whole number from lo to hi -/
def isW (x : V) (lo hi : Int) : Bool := match x with
  | .int i => decide (lo ≤ i ∧ i ≤ hi)
  | _ => false
def sp_is_whole (_ : PySem.W.Frag) : Sp := fun vs H Q _ => ∃ x lo hi, vs = [x, .int lo, .int hi] ∧ Thing H x ∧ Q (.bl (isW x lo hi)) H
theorem sp_is_whole_int {K : PySem.W.Frag} {H : Hp} {Q : VK} {E : XK} {i lo hi : Int} (q : Q (.bl (decide (lo ≤ i ∧ i ≤ hi))) H) : sp_is_whole K [.int i, .int lo, .int hi] H Q E := ⟨_, _, _, rfl, .int i, q⟩
def sp_is_road (K : PySem.W.Frag) : Sp := fun vs H Q _ => ∃ (t : Addr) (r : Road) (n : Nat), vs = [.ref t, .int n] ∧ Dt K H (.ref t) r ∧ r.1 ≤ n ∧ r.2 ≤ n ∧ r.1 ≠ r.2 ∧ Q (.bl true) H
def beyondV (r : Road) (h : Nat) : V := if r.1 = h then .int r.2 else if r.2 = h then .int r.1 else .non
theorem beyondV_cases (r : Road) (h : Nat) : (beyondV r h = .non ∧ r.1 ≠ h ∧ r.2 ≠ h) ∨ ∃ o : Nat, beyondV r h = .int o ∧ ((r.1 = h ∧ r.2 = o) ∨ (r.2 = h ∧ r.1 = o)) := by
  unfold beyondV
  by_cases c : r.1 = h
  · right; rw [if_pos c]; exact ⟨r.2, rfl, .inl ⟨c, rfl⟩⟩
  · by_cases c2 : r.2 = h
    · right; rw [if_neg c, if_pos c2]; exact ⟨r.1, rfl, .inr ⟨c2, rfl⟩⟩
    · left; rw [if_neg c, if_neg c2]; exact ⟨rfl, c, c2⟩
theorem natV_snoc (ws : List Nat) (k : Nat) : natV (ws ++ [k]) = natV ws ++ [V.int k] := by unfold natV; rw [List.map_append]; rfl
theorem natV_len (ws : List Nat) : (natV ws).length = ws.length := List.length_map _
theorem snoc_of {α : Type} {ws : List α} (h : ws ≠ []) : ∃ l x, ws = l ++ [x] := ⟨ws.dropLast, ws.getLast h, (List.dropLast_concat_getLast h).symm⟩
def sp_beyond (K : PySem.W.Frag) : Sp := fun vs H Q _ => ∃ (t : Addr) (r : Road) (h : Nat), vs = [.ref t, .int h] ∧ Dt K H (.ref t) r ∧ Q (beyondV r h) H
def sp_counted (K : PySem.W.Frag) : Sp := fun vs H Q _ => ∃ (n : Nat) (a : Addr) (rs : List Road), vs = [.int n, .ref a] ∧ n ≤ 1000 ∧ Dt K H (.ref a) rs ∧ RetI (tab n (deg rs)) H Q
/-- what is come to from the pit -/
def sp_reached (K : PySem.W.Frag) : Sp := fun vs H Q _ => ∃ (n : Nat) (a : Addr) (rs : List Road), vs = [.int n, .ref a] ∧ n ≤ 1000 ∧ Dt K H (.ref a) rs ∧ (∀ r ∈ rs, r.1 ≤ n ∧ r.2 ≤ n) ∧
  ∀ d H2 ks, H d = none → Ex H H2 → H2 d = some (.dK (keysD ks)) → Reach n rs ks → Q (.ref d) H2
/-- a good net -/
def sp_need_net (K : PySem.W.Frag) : Sp := fun vs H Q _ => ∃ (n : Nat) (a : Addr) (rs : List Road), vs = [.int n, .ref a] ∧ n ≤ 10 ∧ rs.length ≤ 40 ∧ Dt K H (.ref a) rs ∧ Net n rs ∧ RetV .non H Q
def sp_degrees (K : PySem.W.Frag) : Sp := fun vs H Q _ => ∃ (n : Nat) (a : Addr) (rs : List Road), vs = [.int n, .ref a] ∧ n ≤ 10 ∧ rs.length ≤ 40 ∧ Dt K H (.ref a) rs ∧ Net n rs ∧ RetI (tab n (deg rs)) H Q
/-! ### lists of roads of one's own -/
def Tups (H : Hp) : List Addr → List Road → Prop
  | [], [] => True
  | t :: ts, r :: rs => H t = some (.tup [.int (r.1 : Nat), .int (r.2 : Nat)]) ∧ Tups H ts rs
  | _, _ => False
def KeepT (H H' : Hp) : Prop := ∀ t xs, H t = some (.tup xs) → H' t = some (.tup xs)
theorem KeepT.of {H H' : Hp} (e : Ex H H') : KeepT H H' := fun _ _ h => e _ _ h
theorem KeepT.trans {H H' H2 : Hp} (e : KeepT H H') (g : KeepT H' H2) : KeepT H H2 := fun _ _ h => g _ _ (e _ _ h)
theorem KeepT.lst {H : Hp} {p : Addr} {xs ys : List V} (h : H p = some (.lst xs)) : KeepT H (upd H p (.lst ys)) := fun t zs ht => by
  have : t ≠ p := fun e => by rw [e, h] at ht; cases ht
  rw [upd_ne this]; exact ht
theorem KeepT.new {H : Hp} {p : Addr} {o : HO} (h : H p = none) : KeepT H (upd H p o) := .of (Ex.new h)
/-- without g -/
def hid (H : Hp) (g : Addr) : Hp := fun b => if b = g then none else H b
theorem ex_hid (H : Hp) (g : Addr) : Ex (hid H g) H := fun b o h => by
  unfold hid at h
  split at h
  · cases h
  · exact h
theorem hid_at {H : Hp} {g b : Addr} {o : HO} (h : H b = some o) (n : b ≠ g) : hid H g b = some o := by
  unfold hid; rw [if_neg n]; exact h
theorem hid_self (H : Hp) (g : Addr) : hid H g g = none := if_pos rfl
theorem ex_hid_upd {H H' : Hp} {g : Addr} {o : HO} (e : Ex (hid H g) H') : Ex (hid H g) (upd H' g o) := Ex.mut e (hid_self H g)
theorem ex_base_hid {H0 H : Hp} {g : Addr} (e : Ex H0 H) (h : H0 g = none) : Ex H0 (hid H g) := fun b o hb => hid_at (e b o hb) fun z => by rw [z, h] at hb; cases hb
theorem KeepT.hid {H : Hp} {g : Addr} {xs : List V} (h : H g = some (.lst xs)) : KeepT H (hid H g) := fun t zs ht => hid_at ht fun e => by rw [e, h] at ht; cases ht
theorem hid_upd (H : Hp) (l : Addr) (o : HO) : hid (upd H l o) l = hid H l := by
  funext b
  unfold hid
  by_cases c : b = l
  · rw [if_pos c, if_pos c]
  · rw [if_neg c, if_neg c, upd_ne c]
theorem ex_hid2 {H H' : Hp} {l : Addr} (e : Ex H H') : Ex (hid H l) (hid H' l) := fun b o h => by
  unfold hid at h ⊢
  by_cases c : b = l
  · rw [if_pos c] at h; cases h
  · rw [if_neg c] at h ⊢; exact e b o h
theorem Tups.keep {H H' : Hp} (k : KeepT H H') : ∀ {ts : List Addr} {rs : List Road}, Tups H ts rs → Tups H' ts rs
  | [], [], h => h
  | _ :: _, _ :: _, h => ⟨k _ _ h.1, Tups.keep k h.2⟩
  | [], _ :: _, h => h.elim
  | _ :: _, [], h => h.elim
theorem Tups.len {H : Hp} : ∀ {ts : List Addr} {rs : List Road}, Tups H ts rs → ts.length = rs.length
  | [], [], _ => rfl
  | _ :: _, _ :: _, h => by rw [List.length_cons, List.length_cons, Tups.len h.2]
  | [], _ :: _, h => h.elim
  | _ :: _, [], h => h.elim
theorem Tups.snoc {H : Hp} {t : Addr} {x y : Nat} (ht : H t = some (.tup [.int x, .int y])) : ∀ {ts : List Addr} {rs : List Road}, Tups H ts rs → Tups H (ts ++ [t]) (rs ++ [(x, y)])
  | [], [], _ => ⟨ht, trivial⟩
  | _ :: _, _ :: _, h => ⟨h.1, Tups.snoc ht h.2⟩
  | [], _ :: _, h => h.elim
  | _ :: _, [], h => h.elim
theorem Tups.all {K : PySem.W.Frag} {H : Hp} : ∀ {ts : List Addr} {rs : List Road}, Tups H ts rs → DtAll K H (ts.map V.ref) rs
  | [], [], _ => da_nil
  | _ :: _, _ :: _, h => da_cons (dt_road (st_of h.1)) (Tups.all h.2)
  | [], _ :: _, h => h.elim
  | _ :: _, [], h => h.elim
def RL (H : Hp) (a : Addr) (rs : List Road) : Prop := ∃ ts : List Addr, H a = some (.lst (ts.map V.ref)) ∧ Tups H ts rs
theorem RL.lt {K : PySem.W.Frag} {H : Hp} {a : Addr} {rs : List Road} (h : RL H a rs) : Lt K H a rs := by
  obtain ⟨ts, h1, h2⟩ := h
  exact ⟨_, h1, h2.all⟩
theorem RL.dt {K : PySem.W.Frag} {H : Hp} {a : Addr} {rs : List Road} (h : RL H a rs) : Dt K H (.ref a) rs := h.lt.dt
theorem RL.ex {H H' : Hp} {a : Addr} {rs : List Road} (e : Ex H H') (h : RL H a rs) : RL H' a rs := by
  obtain ⟨ts, h1, h2⟩ := h
  exact ⟨ts, e _ _ h1, h2.keep (.of e)⟩
theorem RL.nil {H : Hp} {a : Addr} (h : H a = some (.lst [])) : RL H a [] := ⟨[], h, trivial⟩
/-- another list changes -/
theorem RL.other {H : Hp} {a p : Addr} {rs : List Road} {xs ys : List V} (h : RL H a rs) (hp : H p = some (.lst xs)) (n : a ≠ p) : RL (upd H p (.lst ys)) a rs := by
  obtain ⟨ts, h1, h2⟩ := h
  exact ⟨ts, upd_at h1 n, h2.keep (.lst hp)⟩
/-- a road more -/
theorem RL.app {H : Hp} {a t : Addr} {rs : List Road} {x y : Nat} (h : RL H a rs) (ht : H t = some (.tup [.int x, .int y])) {xs : List V} (ha : H a = some (.lst xs)) : RL (upd H a (.lst (xs ++ [.ref t]))) a (rs ++ [(x, y)]) := by
  obtain ⟨ts, h1, h2⟩ := h
  rw [h1] at ha
  cases ha
  exact ⟨ts ++ [t], by rw [upd_same, List.map_append]; rfl, (h2.keep (.lst h1)).snoc (KeepT.lst h1 _ _ ht)⟩
theorem RL.at {H : Hp} {a : Addr} {rs : List Road} (h : RL H a rs) : ∃ xs, H a = some (.lst xs) ∧ xs.length = rs.length := by
  obtain ⟨ts, h1, h2⟩ := h
  exact ⟨_, h1, by rw [List.length_map, h2.len]⟩
theorem tab_add {n a : Nat} (f : Nat → Int) (z : Int) (h : ¬ a < n) : tab n f = tab n fun k => f k + (if a = k then z else 0) := tab_congr fun k hk => by
  show f k = f k + (if a = k then z else 0)
  rw [if_neg (by omega)]; omega
/-- a pair of new lists of ints -/
def RetP (xs ys : List Int) (H : Hp) (Q : VK) : Prop := ∀ t f c H2, H t = none → H f = none → H c = none → f ≠ c → t ≠ f → t ≠ c → Ex H H2 → H2 t = some (.tup [.ref f, .ref c]) → H2 f = some (.lst (xs.map V.int)) → H2 c = some (.lst (ys.map V.int)) → Q (.ref t) H2
def RetB (p : Prop) (H : Hp) (Q : VK) : Prop := ∀ (b : Bool) H2, (b = true ↔ p) → Ex H H2 → Q (.bl b) H2
/-- a good heap -/
def Good (n : Nat) (h : Nat → Int) : Prop := ∀ k, k < n → 0 ≤ h k ∧ h k ≤ 1000000000
def sp_need_heap (K : PySem.W.Frag) : Sp := fun vs H Q _ => ∃ (n : Nat) (a : Addr) (h : Nat → Int), vs = [.int n, .ref a] ∧ Dt K H (.ref a) (tab n h) ∧ Good n h ∧ Q .non H
def sp_need_place (K : PySem.W.Frag) : Sp := fun vs H Q _ => ∃ (n p : Nat), vs = [.int n, .int p] ∧ p < n ∧ Q .non H
def sp_moved (K : PySem.W.Frag) : Sp := fun vs H Q _ => ∃ (a b : Addr) (rs : List Road) (n p : Nat) (h : Nat → Int) (t : Int), vs = [.ref a, .ref b, .int p, .int t] ∧ n ≤ 1000 ∧ p < n ∧ (∀ r ∈ rs, r.1 ≤ n ∧ r.2 ≤ n ∧ r.1 ≠ r.2) ∧ Dt K H (.ref a) rs ∧ Dt K H (.ref b) (tab n h) ∧
  RetI (tab n (mv n rs h (at1 p t))) H Q
def sp_is_low (K : PySem.W.Frag) : Sp := fun vs H Q _ => ∃ (a b : Addr) (rs : List Road) (n : Nat) (h : Nat → Int), vs = [.ref a, .ref b] ∧ n ≤ 1000 ∧ Dt K H (.ref a) rs ∧ Dt K H (.ref b) (tab n h) ∧ RetB (Low n rs h) H Q
def sp_settle (K : PySem.W.Frag) : Sp := fun vs H Q _ => ∃ (a b : Addr) (rs : List Road) (n : Nat) (h : Nat → Int), vs = [.ref a, .ref b] ∧ n ≤ 1000 ∧ rs.length ≤ 1000 ∧ Net n rs ∧ Dt K H (.ref a) rs ∧ Dt K H (.ref b) (tab n h) ∧
  ∀ v, Odo n rs h v → RetP (tab n (mv n rs h v)) (tab n v) H Q
def sp_at_rest (K : PySem.W.Frag) : Sp := fun vs H Q _ => ∃ (n : Nat) (a b : Addr) (rs : List Road) (h : Nat → Int), vs = [.int n, .ref a, .ref b] ∧ n ≤ 10 ∧ rs.length ≤ 40 ∧ Net n rs ∧ Good n h ∧ Dt K H (.ref a) rs ∧ Dt K H (.ref b) (tab n h) ∧ RetB (Low n rs h) H Q
def sp_toppled (K : PySem.W.Frag) : Sp := fun vs H Q _ => ∃ (n p : Nat) (a b : Addr) (rs : List Road) (h : Nat → Int), vs = [.int n, .ref a, .ref b, .int p] ∧ n ≤ 10 ∧ rs.length ≤ 40 ∧ Net n rs ∧ Good n h ∧ Dt K H (.ref a) rs ∧ Dt K H (.ref b) (tab n h) ∧ p < n ∧ deg rs p ≤ h p ∧
  RetI (tab n (mv n rs h (at1 p 1))) H Q
def sp_settled (K : PySem.W.Frag) : Sp := fun vs H Q _ => ∃ (n : Nat) (a b : Addr) (rs : List Road) (h : Nat → Int), vs = [.int n, .ref a, .ref b] ∧ n ≤ 10 ∧ rs.length ≤ 40 ∧ Net n rs ∧ Good n h ∧ Dt K H (.ref a) rs ∧ Dt K H (.ref b) (tab n h) ∧
  ∀ v, Odo n rs h v → RetP (tab n (mv n rs h v)) (tab n v) H Q
def sp_is_again (K : PySem.W.Frag) : Sp := fun vs H Q _ => ∃ (a b : Addr) (rs : List Road) (n : Nat) (h : Nat → Int), vs = [.ref a, .ref b] ∧ n ≤ 1000 ∧ rs.length ≤ 1000 ∧ Net n rs ∧ Dt K H (.ref a) rs ∧ Dt K H (.ref b) (tab n h) ∧ RetB (Again n rs h) H Q
def sp_comes_again (K : PySem.W.Frag) : Sp := fun vs H Q _ => ∃ (n : Nat) (a b : Addr) (rs : List Road) (h : Nat → Int), vs = [.int n, .ref a, .ref b] ∧ n ≤ 10 ∧ rs.length ≤ 40 ∧ Net n rs ∧ Good n h ∧ Dt K H (.ref a) rs ∧ Dt K H (.ref b) (tab n h) ∧ RetB (Again n rs h) H Q
theorem road_ints {K : PySem.W.Frag} {H : Hp} {t : Addr} {r : Road} (h : SqT K H t [.int r.1, .int r.2]) : SqT K H t (([(r.1 : Int), (r.2 : Int)] : List Int).map V.int) := h
theorem in_road {n : Nat} {r : Road} : ((n : Int) ∈ ([(r.1 : Int), (r.2 : Int)] : List Int)) ↔ (r.1 = n ∨ r.2 = n) := by
  rw [List.mem_cons, List.mem_singleton]; omega
/-! ### the law's helpers -/
def cellAt (ns : List Int) (k : Nat) : Int := if k < ns.length then ns.getD k 0 else if ns = [] then 0 else
  ((ns.getD (k % ns.length) 0 * 48271 + k * 104729) % 2147483647 * ((ns.getD (k % ns.length) 0 * 48271 + k * 104729) % 2147483647) + 48271 * k) % 2147483629
def sp_law_cell_at (K : PySem.W.Frag) : Sp := fun vs H Q _ => ∃ (a : Addr) (ns : List Int) (k : Nat), vs = [.ref a, .int k] ∧ Dt K H (.ref a) ns ∧ RetV (.int (cellAt ns k)) H Q
def sp_law_whole (_ : PySem.W.Frag) : Sp := fun vs H Q _ => ∃ x, vs = [x] ∧ Thing H x ∧ Q (.bl (isI x)) H
def sp_law_mixed (_ : PySem.W.Frag) : Sp := fun vs H Q _ => ∃ (c : Int) (k : Nat), vs = [.int c, .int k] ∧ k ≤ 1000000 ∧ ∀ z, Q (.int z) H
def sp_law_turned (_ : PySem.W.Frag) : Sp := fun vs H Q _ => ∃ (x n s : Nat), vs = [.int x, .int n, .int s] ∧ x ≤ n ∧ Q (.int (turn n s x)) H
def netMost (lines : Nat) : Nat := if lines = 0 then 5 else if lines = 1 then 7 else 10
def sp_law_net (K : PySem.W.Frag) : Sp := fun vs H Q _ => ∃ (a : Addr) (ns : List Int) (lines : Nat), vs = [.ref a, .int lines] ∧ lines ≤ 3 ∧ Dt K H (.ref a) ns ∧
  ∀ (n : Nat) (rs : List Road) (t q : Addr) (H2 : Hp), n ≤ netMost lines → rs.length ≤ 40 → Net n rs → (lines = 0 → (n : Int) = cellAt ns 0 % 6) → H t = none → H q = none → t ≠ q → Ex H H2 → H2 t = some (.tup [.int n, .ref q]) → RL H2 q rs → Q (.ref t) H2
def sp_law_degrees (K : PySem.W.Frag) : Sp := sp_counted K
def sp_law_heap (K : PySem.W.Frag) : Sp := fun vs H Q _ => ∃ (a b : Addr) (ns : List Int) (place n : Nat) (rs : List Road), vs = [.ref a, .int place, .int n, .ref b] ∧ n ≤ 10 ∧ rs.length ≤ 40 ∧ Net n rs ∧ Dt K H (.ref a) ns ∧ Dt K H (.ref b) rs ∧ ∀ h, Good n h → RetI (tab n h) H Q
def sp_law_moved (K : PySem.W.Frag) : Sp := fun vs H Q _ => ∃ (n : Nat) (a b c : Addr) (rs : List Road) (h t : Nat → Int), vs = [.int n, .ref a, .ref b, .ref c] ∧ n ≤ 1000 ∧ (∀ r ∈ rs, r.1 ≤ n ∧ r.2 ≤ n ∧ r.1 ≠ r.2) ∧ Dt K H (.ref a) rs ∧ Dt K H (.ref b) (tab n h) ∧ Dt K H (.ref c) (tab n t) ∧
  RetI (tab n (mv n rs h t)) H Q
def sp_law_rests (K : PySem.W.Frag) : Sp := fun vs H Q _ => ∃ (n : Nat) (a b : Addr) (rs : List Road) (h : Nat → Int), vs = [.int n, .ref a, .ref b] ∧ n ≤ 1000 ∧ Dt K H (.ref a) rs ∧ Dt K H (.ref b) (tab n h) ∧ RetB (Low n rs h) H Q
/-- the law's own settling: from any heap, fewer grains than none too -/
def sp_law_settle (K : PySem.W.Frag) : Sp := fun vs H Q _ => ∃ (n : Nat) (a b : Addr) (rs : List Road) (h : Nat → Int), vs = [.int n, .ref a, .ref b] ∧ n ≤ 1000 ∧ rs.length ≤ 1000 ∧ Net n rs ∧ Dt K H (.ref a) rs ∧ Dt K H (.ref b) (tab n h) ∧
  ∀ v, Odo n rs h v → RetP (tab n (mv n rs h v)) (tab n v) H Q
def sp_law_order (K : PySem.W.Frag) : Sp := fun vs H Q _ => ∃ (n : Nat) (a b : Addr) (rs : List Road) (h : Nat → Int) (num : Int), vs = [.int n, .ref a, .ref b, .int num] ∧ n ≤ 1000 ∧ rs.length ≤ 1000 ∧ Net n rs ∧ (∀ k, k < n → 0 ≤ h k) ∧ Dt K H (.ref a) rs ∧ Dt K H (.ref b) (tab n h) ∧
  ∀ (v w : Nat → Int) (t f c hw hf hc : Addr) H2, Odo n rs h v → (∀ k, k < n → 0 ≤ w k) → (∀ k, k < n → w k ≤ v k) → (∀ k, k < n → 0 ≤ mv n rs h w k) → Ex H H2 → H2 t = some (.tup [.ref f, .ref c, .ref hw]) → H2 hw = some (.tup [.ref hf, .ref hc]) →
    H2 f = some (.lst ((tab n (mv n rs h v)).map V.int)) → H2 c = some (.lst ((tab n v).map V.int)) → H2 hf = some (.lst ((tab n (mv n rs h w)).map V.int)) → H2 hc = some (.lst ((tab n w).map V.int)) → Q (.ref t) H2
/-- a heap that comes again, at rest -/
def sp_law_come (K : PySem.W.Frag) : Sp := fun vs H Q _ => ∃ (a b : Addr) (ns : List Int) (place n : Nat) (rs : List Road), vs = [.ref a, .int place, .int n, .ref b] ∧ n ≤ 10 ∧ rs.length ≤ 40 ∧ Net n rs ∧ Dt K H (.ref a) ns ∧ Dt K H (.ref b) rs ∧ ∀ h, NF n rs h → Low n rs h → RetI (tab n h) H Q
def sp_law_low (K : PySem.W.Frag) : Sp := fun vs H Q _ => ∃ (a b : Addr) (ns : List Int) (place n : Nat) (rs : List Road), vs = [.ref a, .int place, .int n, .ref b] ∧ n ≤ 10 ∧ rs.length ≤ 40 ∧ Net n rs ∧ Dt K H (.ref a) ns ∧ Dt K H (.ref b) rs ∧ ∀ h, (∀ k, k < n → 0 ≤ h k ∧ h k < deg rs k) → RetI (tab n h) H Q
def sp_law_due (K : PySem.W.Frag) : Sp := fun vs H Q _ => ∃ (n : Nat) (a b : Addr) (rs : List Road) (h : Nat → Int), vs = [.int n, .ref a, .ref b] ∧ n ≤ 1000 ∧ rs.length ≤ 1000 ∧ Net n rs ∧ Dt K H (.ref a) rs ∧ Dt K H (.ref b) (tab n h) ∧ RetB (Again n rs h) H Q
/-- a heap alike none at all: what c topples take, with c's row -/
def sp_nought_from (K : PySem.W.Frag) : Sp := fun vs H Q _ => ∃ (a b : Addr) (rs : List Road) (n : Nat) (l : Nat → Int), vs = [.ref a, .ref b] ∧ n ≤ 1000 ∧ rs.length ≤ 1000 ∧ Net n rs ∧ Dt K H (.ref a) rs ∧ Dt K H (.ref b) (tab n l) ∧
  ∀ c, (∀ k, k < n → 0 ≤ c k) → (∀ k, k < n → l k ≤ lap rs (zr n c) k) → RetP (tab n (lap rs (zr n c))) (tab n c) H Q
def sp_lead (K : PySem.W.Frag) : Sp := fun vs H Q _ => ∃ (a b : Addr) (rs : List Road) (n : Nat) (h : Nat → Int), vs = [.ref a, .ref b] ∧ n ≤ 1000 ∧ rs.length ≤ 1000 ∧ Net n rs ∧ (∀ k, k < n → 0 ≤ h k) ∧ Dt K H (.ref a) rs ∧ Dt K H (.ref b) (tab n h) ∧
  ∀ u, NF n rs (mv n rs h u) → Low n rs (mv n rs h u) → RetP (tab n (mv n rs h u)) (tab n u) H Q
def sp_led (K : PySem.W.Frag) : Sp := fun vs H Q _ => ∃ (n : Nat) (a b : Addr) (rs : List Road) (h : Nat → Int), vs = [.int n, .ref a, .ref b] ∧ n ≤ 10 ∧ rs.length ≤ 40 ∧ Net n rs ∧ Good n h ∧ Dt K H (.ref a) rs ∧ Dt K H (.ref b) (tab n h) ∧
  ∀ u, NF n rs (mv n rs h u) → Low n rs (mv n rs h u) → RetP (tab n (mv n rs h u)) (tab n u) H Q
def sp_together (K : PySem.W.Frag) : Sp := fun vs H Q _ => ∃ (n : Nat) (a b c : Addr) (rs : List Road) (h g : Nat → Int), vs = [.int n, .ref a, .ref b, .ref c] ∧ n ≤ 10 ∧ rs.length ≤ 40 ∧ Net n rs ∧ Good n h ∧ Good n g ∧ Dt K H (.ref a) rs ∧ Dt K H (.ref b) (tab n h) ∧ Dt K H (.ref c) (tab n g) ∧
  ∀ v, Odo n rs (fun k => h k + g k) v → RetI (tab n (mv n rs (fun k => h k + g k) v)) H Q
def sp_nothing (K : PySem.W.Frag) : Sp := fun vs H Q _ => ∃ (n : Nat) (a : Addr) (rs : List Road), vs = [.int n, .ref a] ∧ n ≤ 10 ∧ rs.length ≤ 40 ∧ Net n rs ∧ Dt K H (.ref a) rs ∧
  ∀ u, NF n rs (mv n rs (fun _ => 0) u) → Low n rs (mv n rs (fun _ => 0) u) → RetI (tab n (mv n rs (fun _ => 0) u)) H Q
def sp_undoing (K : PySem.W.Frag) : Sp := fun vs H Q _ => ∃ (n : Nat) (a b : Addr) (rs : List Road) (h : Nat → Int), vs = [.int n, .ref a, .ref b] ∧ n ≤ 10 ∧ rs.length ≤ 40 ∧ Net n rs ∧ Good n h ∧ Dt K H (.ref a) rs ∧ Dt K H (.ref b) (tab n h) ∧
  ∀ u, NF n rs (mv n rs (fun k => - h k) u) → Low n rs (mv n rs (fun k => - h k) u) → RetI (tab n (mv n rs (fun k => - h k) u)) H Q
/-- the law's own fire from the pit -/
def sp_law_again (K : PySem.W.Frag) : Sp := fun vs H Q _ => ∃ (n : Nat) (a b : Addr) (rs : List Road) (h : Nat → Int), vs = [.int n, .ref a, .ref b] ∧ n ≤ 10 ∧ rs.length ≤ 40 ∧ Net n rs ∧ Dt K H (.ref a) rs ∧ Dt K H (.ref b) (tab n h) ∧ RetB (Low n rs h ∧ NF n rs h) H Q
/-! the refusals -/
/-- an error of the class x comes out, the heap only grown -/
def RetE (K : PySem.W.Frag) (x : Str) (H : Hp) (E : XK) : Prop := ∀ H2, Ex H H2 → E (.ref (He.ga K x)) none H2
def sp_need_placeX (K : PySem.W.Frag) : Sp := fun vs H Q E => ∃ (n : Nat) (x : V), vs = [.int n, x] ∧ Thing H x ∧ if isW x 0 ((n : Int) - 1) = true then Q .non H else E (.ref (He.ga K "NoPlace")) none H
def sp_toppledX (K : PySem.W.Frag) : Sp := fun vs H Q E => ∃ (n : Nat) (p : Int) (a b : Addr) (rs : List Road) (h : Nat → Int), vs = [.int n, .ref a, .ref b, .int p] ∧ n ≤ 10 ∧ rs.length ≤ 40 ∧ Net n rs ∧ Good n h ∧ Dt K H (.ref a) rs ∧ Dt K H (.ref b) (tab n h) ∧
  (¬ (0 ≤ p ∧ p ≤ (n : Int) - 1) → RetE K "NoPlace" H E) ∧ ∀ q : Nat, p = q → q < n → (h q < deg rs q → RetE K "TooLittle" H E) ∧ (deg rs q ≤ h q → RetI (tab n (mv n rs h (at1 q 1))) H Q)
/-- k02: refused rightly -/
def sp_refused02 (K : PySem.W.Frag) : Sp := fun vs H Q _ => ∃ (n : Nat) (p : Int) (a b : Addr) (rs : List Road) (h : Nat → Int), vs = [.int n, .ref a, .ref b, .int p] ∧ n ≤ 10 ∧ rs.length ≤ 40 ∧ Net n rs ∧ Good n h ∧ Dt K H (.ref a) rs ∧ Dt K H (.ref b) (tab n h) ∧
  (0 < n → ∃ q : Nat, p = q ∧ q < n ∧ h q < deg rs q) ∧ RetV (.bl true) H Q
def sp_need_againX (K : PySem.W.Frag) : Sp := fun vs H Q E => ∃ (a b : Addr) (rs : List Road) (n : Nat) (h : Nat → Int), vs = [.ref a, .ref b] ∧ n ≤ 1000 ∧ rs.length ≤ 1000 ∧ Net n rs ∧ Dt K H (.ref a) rs ∧ Dt K H (.ref b) (tab n h) ∧
  (Low n rs h ∧ NF n rs h → RetV .non H Q) ∧ (¬ (Low n rs h ∧ NF n rs h) → RetE K "NotAgain" H E)
def sp_towardsX (K : PySem.W.Frag) : Sp := fun vs H Q E => ∃ (n : Nat) (a b c : Addr) (rs : List Road) (h g : Nat → Int), vs = [.int n, .ref a, .ref b, .ref c] ∧ n ≤ 10 ∧ rs.length ≤ 40 ∧ Net n rs ∧ Good n h ∧ Good n g ∧ Dt K H (.ref a) rs ∧ Dt K H (.ref b) (tab n h) ∧ Dt K H (.ref c) (tab n g) ∧
  (Low n rs g ∧ NF n rs g → ∀ c, (∀ k, k < n → h k ≤ lap rs (zr n c) k) → RetI (tab n fun k => g k + lap rs (zr n c) k - h k) H Q) ∧ (¬ (Low n rs g ∧ NF n rs g) → RetE K "NotAgain" H E)
/-- k09: refused rightly -/
def sp_refused09 (K : PySem.W.Frag) : Sp := fun vs H Q _ => ∃ (n : Nat) (a b c : Addr) (rs : List Road) (h g : Nat → Int), vs = [.int n, .ref a, .ref b, .ref c] ∧ n ≤ 10 ∧ rs.length ≤ 40 ∧ Net n rs ∧ Good n h ∧ Good n g ∧ Dt K H (.ref a) rs ∧ Dt K H (.ref b) (tab n h) ∧ Dt K H (.ref c) (tab n g) ∧
  ¬ (Low n rs g ∧ NF n rs g) ∧ RetV (.bl true) H Q
/-! trees -/
theorem beyondV_far (r : Road) (h : Nat) : beyondV r h = match far r h with
    | none => .non
    | some o => .int (o : Int) := by
  unfold beyondV far
  split
  · rfl
  · split <;> rfl
theorem dt_at {K : PySem.W.Frag} {H : Hp} {α : Type} [DecidableEq α] [Datum α] {v : V} {xs : List α} {i : Nat} (h : Dt K H v xs) (hi : i < xs.length) : ∃ a vs v', v = .ref a ∧ SqL K H a vs ∧ atI vs (i : Int) = some v' ∧ Dt K H v' xs[i] := by
  obtain ⟨a, vs, rfl, h1, h2⟩ := h.list
  have hl := h2.length
  have hv : i < vs.length := by omega
  obtain ⟨y, hy, hd⟩ := h2.get (List.getElem?_eq_getElem hv)
  have e : y = xs[i] := by
    rw [List.getElem?_eq_getElem hi] at hy
    exact (Option.some.inj hy).symm
  exact ⟨a, vs, vs[i], rfl, h1, atI_nat (List.getElem?_eq_getElem hv), e ▸ hd⟩
theorem natV_ints (l : List Nat) : natV l = (l.map fun (j : Nat) => (j : Int)).map V.int := by
  unfold natV; rw [List.map_map]; rfl
/-- a list of ints that is a turning of nats, rising -/
theorem nats_of_perm {ns : List Int} {T : List Nat} (h : ns.Perm (T.map fun (j : Nat) => (j : Int))) (nd : T.Nodup) (s : ns.Pairwise (· ≤ ·)) : ∃ l : List Nat, ns.map V.int = natV l ∧ l.Pairwise (· < ·) ∧ ∀ j, j ∈ l ↔ j ∈ T := by
  have nn : ∀ x ∈ ns, 0 ≤ x := fun x hx => by
    obtain ⟨j, _, rfl⟩ := List.mem_map.mp (h.mem_iff.mp hx)
    omega
  have e : (ns.map Int.toNat).map (fun (j : Nat) => (j : Int)) = ns := by
    rw [List.map_map]
    refine (List.map_congr_left fun x hx => ?_).trans (List.map_id ns)
    have := nn x hx
    show ((x.toNat : Nat) : Int) = x
    omega
  have mem : ∀ j, j ∈ ns.map Int.toNat ↔ j ∈ T := fun j => by
    constructor
    · intro hj
      obtain ⟨x, hx, rfl⟩ := List.mem_map.mp hj
      obtain ⟨j, hj2, e2⟩ := List.mem_map.mp (h.mem_iff.mp hx)
      rw [← e2, Int.toNat_natCast]; exact hj2
    · intro hj
      exact List.mem_map.mpr ⟨(j : Int), h.mem_iff.mpr (List.mem_map.mpr ⟨j, hj, rfl⟩), Int.toNat_natCast j⟩
  have ndn : ns.Nodup := h.nodup_iff.mpr (by
    unfold List.Nodup
    rw [List.pairwise_map]
    exact List.Pairwise.imp (fun {a b} (z : a ≠ b) => fun y => z (by omega)) nd)
  refine ⟨ns.map Int.toNat, by rw [natV_ints, e], ?_, mem⟩
  rw [List.pairwise_map]
  refine List.Pairwise.imp_of_mem ?_ (List.Pairwise.and s ndn)
  rintro a b ha hb ⟨h1, h2⟩
  have := nn a ha
  have := nn b hb
  omega
/-- rising lists with the same numbers are one -/
theorem rising_eq : ∀ {l m : List Nat}, l.Pairwise (· < ·) → m.Pairwise (· < ·) → (∀ j, j ∈ l ↔ j ∈ m) → l = m
  | [], [], _, _, _ => rfl
  | [], b :: m, _, _, e => by have := (e b).mpr List.mem_cons_self; cases this
  | a :: l, [], _, _, e => by have := (e a).mp List.mem_cons_self; cases this
  | a :: l, b :: m, hl, hm, e => by
    obtain ⟨l1, l2⟩ := List.pairwise_cons.mp hl
    obtain ⟨m1, m2⟩ := List.pairwise_cons.mp hm
    have ab : a = b := by
      rcases List.mem_cons.mp ((e a).mp List.mem_cons_self) with z | z
      · exact z
      · rcases List.mem_cons.mp ((e b).mpr List.mem_cons_self) with y | y
        · exact y.symm
        · have := m1 a z
          have := l1 b y
          omega
    subst ab
    rw [rising_eq l2 m2 fun j => ?_]
    constructor
    · intro hj
      rcases List.mem_cons.mp ((e j).mp (List.mem_cons_of_mem _ hj)) with z | z
      · have := l1 j hj; omega
      · exact z
    · intro hj
      rcases List.mem_cons.mp ((e j).mpr (List.mem_cons_of_mem _ hj)) with z | z
      · have := m1 j hj; omega
      · exact z
/-- the roads of a tree -/
def rsT (rs : List Road) (T : List Nat) : List Road := T.map fun j => rs.getD j (0, 0)
theorem IsTree.net {n : Nat} {rs : List Road} {T : List Nat} (ok : ∀ r ∈ rs, r.1 ≤ n ∧ r.2 ≤ n ∧ r.1 ≠ r.2) (I : IsTree n rs T) : Net n (rsT rs T) := by
  have e : ∀ j ∈ T, ∃ r, rs[j]? = some r ∧ rs.getD j (0, 0) = r := fun j hj => by
    have := I.lt j hj
    exact ⟨rs[j], List.getElem?_eq_getElem this, by rw [List.getD_eq_getElem?_getD, List.getElem?_eq_getElem this]; rfl⟩
  refine ⟨fun r hr => ?_, fun S h1 h2 k hk => I.conn S h1 (fun j hj r hr => ?_) k (Nat.le_of_lt hk)⟩
  · obtain ⟨j, hj, rfl⟩ := List.mem_map.mp hr
    obtain ⟨r, h1, h2⟩ := e j hj
    rw [h2]
    exact ok r (List.mem_of_getElem? h1)
  · obtain ⟨r', h3, h4⟩ := e j hj
    rw [hr] at h3
    cases h3
    exact h2 r (List.mem_map.mpr ⟨j, hj, h4⟩)
theorem nats_all {K : PySem.W.Frag} {H : Hp} : ∀ {vs : List V} {ns : List Nat}, DtAll K H vs ns → vs = natV ns
  | [], [], _ => rfl
  | [], _ :: _, h => by cases h
  | _ :: _, [], h => by cases h
  | _ :: vs, _ :: ns, h => by
    cases h with
    | cons a h => rw [nats_all (vs := vs) (ns := ns) h, show _ = V.int _ from Dt.nat a]; rfl
theorem natsL {K : PySem.W.Frag} {H : Hp} {v : V} {ns : List Nat} (h : Dt K H v ns) : ∃ a, v = .ref a ∧ SqL K H a (natV ns) := by
  obtain ⟨a, vs, rfl, h1, h2⟩ := h.list
  rw [nats_all h2] at h1
  exact ⟨a, rfl, h1⟩
theorem natV_get {l : List Nat} {k : Nat} (h : k < l.length) : (natV l)[k]? = some (.int (l[k] : Nat)) := by
  unfold natV; rw [List.getElem?_map, List.getElem?_eq_getElem h]; rfl
theorem atI_natV {l : List Nat} {k : Nat} (h : k < l.length) : atI (natV l) (k : Int) = some (.int (l[k] : Nat)) := atI_nat (natV_get h)
theorem natV_take (l : List Nat) (k : Nat) : (natV l).take k = natV (l.take k) := by unfold natV; rw [List.map_take]
theorem mem_natI {l : List Nat} {j : Nat} : ((j : Int) ∈ l.map fun (j : Nat) => (j : Int)) ↔ j ∈ l := by
  rw [List.mem_map]
  constructor
  · rintro ⟨x, hx, e⟩
    have : x = j := by omega
    rw [← this]; exact hx
  · intro h; exact ⟨j, h, rfl⟩
theorem z_inN {K : PySem.W.Frag} {H : Hp} {Q : VK} {j : Nat} {l : List Nat} {t : Addr} (h : SqL K H t (natV l)) (q : Q (.bl (decide (j ∈ l))) H) : rIn K false (.int j) (.ref t) H Q := by
  rw [natV_ints] at h
  refine z_inL h ?_
  rw [show decide ((j : Int) ∈ l.map fun (j : Nat) => (j : Int)) = decide (j ∈ l) from decide_eq_decide.mpr mem_natI]
  exact q
theorem keysD_old {ks : List Nat} {k : Nat} (h : k ∈ ks) : putK (keysD ks) (Sum.inl (k : Int) : Key) (V.bl true) = keysD ks := by
  unfold putK
  rw [if_pos]
  · unfold keysD
    rw [List.map_map]
    refine List.map_congr_left fun x _ => ?_
    show (if (Sum.inl (x : Int) : Key) = Sum.inl (k : Int) then ((Sum.inl (x : Int) : Key), V.bl true) else ((Sum.inl (x : Int) : Key), V.bl true)) = _
    split <;> rfl
  · rw [List.any_eq_true]
    exact ⟨((Sum.inl (k : Int) : Key), V.bl true), List.mem_map.mpr ⟨k, h, rfl⟩, by simp⟩
theorem keysD_addk (ks : List Nat) (k : Nat) : putK (keysD ks) (Sum.inl (k : Int) : Key) (V.bl true) = keysD (addk ks k) := by
  unfold addk
  split
  · exact keysD_old (by assumption)
  · exact keysD_put (by assumption)
/-- a comprehension that takes the roads of a tree -/
theorem z_lctree {K : PySem.W.Frag} {σ : L2.St} {H : Hp} {QD : Addr → Hp → Prop} {te : TE} {g : TG} {vs : List Nat} {Hb : Hp} {a : Addr} {rs : List Road} {T : List Nat} {ra : Addr} (hx : Dt K Hb (.ref a) T) (hr : Dt K Hb (.ref ra) rs) (h0 : Ex Hb H) (hl : T.length ≤ 90000) (hT : ∀ j ∈ T, j < rs.length)
    (h : ∀ (j : Nat) (v : V) (xs : List V) H' (R : VK), Ex H H' → SqL K H' ra xs → atI xs (j : Int) = some v → R v H' → g (.int (j : Int)) (wipe σ vs) H' fun σ2 H2 => wipe σ2 vs = wipe σ vs ∧ te σ2 H2 R)
    (q : ∀ D H2, H D = none → Ex H H2 → Lt K H2 D (rsT rs T) → QD D H2) (hg : ∃ s, g = gName s) :
    ∃ a', V.ref a = V.ref a' ∧ (∃ vs, SqL K H a' vs) ∧ ∀ D, H D = none → ∃ W : Nat → Nat → Hp → Prop, (∃ m, W 0 m (upd H D (.lst []))) ∧ ∀ i m H, W i m H →
      ((Itl K a').stop i H ∧ QD D H) ∨ ((Itl K a').go i H ∧ ∃ Nx : Hp → Prop, (∀ H', Nx H' → ∃ m', m' < m ∧ W (i + 1) m' H') ∧ ∀ x H', (Itl K a').yld i H x H' → g x (wipe σ vs) H' fun σ2 H2 => wipe σ2 vs = wipe σ vs ∧ tYes σ2 H2 fun b H3 =>
        if b = true then te σ2 H3 fun y H4 => ∃ acc, H4 D = some (.lst acc) ∧ acc.length < sizeLine ∧ Nx (upd H4 D (.lst (acc ++ [y]))) else Nx H3) := by
  obtain ⟨s, rfl⟩ := hg
  refine z_lcloop (α := Nat) (Hb := Hb) hx h0 fun D hD => ⟨fun pre H' => Ex H H' ∧ pre.length ≤ T.length ∧ ∃ xs, H' D = some (.lst xs) ∧ xs.length = pre.length ∧ DtAll K Hb xs (rsT rs pre), ⟨Ex.new hD, Nat.zero_le _, [], upd_same, rfl, da_nil⟩, fun _ _ z => h0.trans z.1, ?_, ?_⟩
  · rintro pre y post v H' er hv ⟨e, hl2, xs, hd, hxs, hda⟩
    cases hv.nat
    have hm : y ∈ T := by rw [er]; simp
    have hl3 : pre.length + 1 ≤ T.length := by rw [er, List.length_append, List.length_cons]; omega
    obtain ⟨_, ws, v', ea, hsq, hat, hdt⟩ := dt_at hr (hT y hm)
    cases ea
    have z := h y v' ws H' (fun y' H4 => ∃ acc, H4 D = some (.lst acc) ∧ acc.length < sizeLine ∧ (Ex H (upd H4 D (.lst (acc ++ [y']))) ∧ (pre ++ [y]).length ≤ T.length ∧ ∃ xs, (upd H4 D (.lst (acc ++ [y']))) D = some (.lst xs) ∧ xs.length = (pre ++ [y]).length ∧ DtAll K Hb xs (rsT rs (pre ++ [y])))) e (ex_l (h0.trans e) hsq) hat ⟨_, hd, szl _ (by omega), ex_mut e hD, by rw [List.length_append]; exact hl3, _, upd_same, by rw [List.length_append, List.length_append, hxs]; rfl, by
        unfold rsT at hda ⊢
        rw [List.map_append]
        refine DtAll.append hda (da_cons ?_ da_nil)
        have e5 : rs.getD y (0, 0) = rs[y]'(hT y hm) := by rw [List.getD_eq_getElem?_getD, List.getElem?_eq_getElem (hT y hm)]; rfl
        show Dt K Hb v' (rs.getD y (0, 0))
        rw [e5]; exact hdt⟩
    exact ⟨z.1, z.2⟩
  · rintro H' ⟨e, _, xs, hd, hxs, hda⟩
    exact q D H' hD e ⟨xs, hd, hda.ex (h0.trans e)⟩
def RetN (l : List Nat) (H : Hp) (Q : VK) : Prop := ∀ p H2, H p = none → Ex H H2 → H2 p = some (.lst (natV l)) → Q (.ref p) H2
def sp_tree_ofX (K : PySem.W.Frag) : Sp := fun vs H Q E => ∃ (n : Nat) (a b : Addr) (rs : List Road) (h : Nat → Int), vs = [.int n, .ref a, .ref b] ∧ n ≤ 10 ∧ rs.length ≤ 40 ∧ Net n rs ∧ Good n h ∧ Dt K H (.ref a) rs ∧ Dt K H (.ref b) (tab n h) ∧
  (Low n rs h ∧ NF n rs h → ∀ l : List Nat, l.Pairwise (· < ·) → (∀ j, j ∈ l ↔ j ∈ (treeRun n rs h).tree) → RetN l H Q) ∧ (¬ (Low n rs h ∧ NF n rs h) → RetE K "NotAgain" H E)
/-- k10: refused rightly -/
def sp_refused10 (K : PySem.W.Frag) : Sp := fun vs H Q _ => ∃ (n : Nat) (a b : Addr) (rs : List Road) (h : Nat → Int), vs = [.int n, .ref a, .ref b] ∧ n ≤ 10 ∧ rs.length ≤ 40 ∧ Net n rs ∧ Good n h ∧ Dt K H (.ref a) rs ∧ Dt K H (.ref b) (tab n h) ∧
  ¬ (Low n rs h ∧ NF n rs h) ∧ RetV (.bl true) H Q
def sp_need_tree (K : PySem.W.Frag) : Sp := fun vs H Q _ => ∃ (n : Nat) (a b : Addr) (rs : List Road) (T : List Nat), vs = [.int n, .ref a, .ref b] ∧ n ≤ 10 ∧ rs.length ≤ 40 ∧ Net n rs ∧ IsTree n rs T ∧ Dt K H (.ref a) rs ∧ Dt K H (.ref b) T ∧ RetV .non H Q
def sp_heap_of (K : PySem.W.Frag) : Sp := fun vs H Q _ => ∃ (n : Nat) (a b : Addr) (rs : List Road) (T : List Nat), vs = [.int n, .ref a, .ref b] ∧ n ≤ 10 ∧ rs.length ≤ 40 ∧ Net n rs ∧ IsTree n rs T ∧ Dt K H (.ref a) rs ∧ Dt K H (.ref b) T ∧ RetI (tab n (heapRun n rs T).left) H Q
/-- rising, and one comes to the pit from everywhere -/
def sp_law_is_tree (K : PySem.W.Frag) : Sp := fun vs H Q _ => ∃ (n : Nat) (a b : Addr) (rs : List Road) (T : List Nat), vs = [.int n, .ref a, .ref b] ∧ n ≤ 10 ∧ rs.length ≤ 40 ∧ Net n rs ∧ IsTree n rs T ∧ T.Pairwise (· < ·) ∧ Dt K H (.ref a) rs ∧ Dt K H (.ref b) T ∧ RetV (.bl true) H Q
/-! trees in full: a thing that may be none -/
/-- a thing whose items, if it is a list, are things too -/
def TT (H : Hp) (v : V) : Prop := Thing H v ∧ ∀ p xs, v = .ref p → H p = some (.lst xs) → ∀ x ∈ xs, Thing H x
def GoodTree (n : Nat) (rs : List Road) (H : Hp) (v : V) : Prop := ∃ p T, v = .ref p ∧ H p = some (.lst (natV T)) ∧ IsTree n rs T
theorem thing_ex {H H' : Hp} {v : V} (e : Ex H H') (h : Thing H v) : Thing H' v := by
  cases h with
  | int i => exact .int i
  | bl i => exact .bl i
  | non => exact .non
  | str i => exact .str i
  | lst h => exact .lst (e _ _ h)
  | tup h => exact .tup (e _ _ h)
  | dK h => exact .dK (e _ _ h)
theorem thing_at {H : Hp} {p : Addr} (h : Thing H (.ref p)) : ∃ o, H p = some o := by
  cases h with
  | lst h => exact ⟨_, h⟩
  | tup h => exact ⟨_, h⟩
  | dK h => exact ⟨_, h⟩
theorem TT.ex {H H' : Hp} {v : V} (e : Ex H H') (h : TT H v) : TT H' v := ⟨thing_ex e h.1, fun p xs ev hp x hx => by
  subst ev
  obtain ⟨o, ho⟩ := thing_at h.1
  have := e _ _ ho
  rw [hp] at this
  rw [← Option.some.inj this] at ho
  exact thing_ex e (h.2 p xs rfl ho x hx)⟩
theorem GoodTree.ex {n : Nat} {rs : List Road} {H H' : Hp} {v : V} (e : Ex H H') (t : Thing H v) : GoodTree n rs H' v ↔ GoodTree n rs H v := by
  constructor
  · rintro ⟨p, T, ev, hp, hT⟩
    subst ev
    obtain ⟨o, ho⟩ := thing_at t
    have := e _ _ ho
    rw [hp] at this
    rw [← Option.some.inj this] at ho
    exact ⟨p, T, rfl, ho, hT⟩
  · rintro ⟨p, T, ev, hp, hT⟩
    exact ⟨p, T, ev, e _ _ hp, hT⟩
theorem natV_inj {l m : List Nat} (h : natV l = natV m) : l = m := by
  unfold natV at h
  refine (List.map_inj_right fun x y e => ?_).mp h
  have : (x : Int) = (y : Int) := by injection e
  omega
/-- numbers, each another, up to the i-th -/
def Pre (m i : Nat) (xs : List V) : Prop := ∃ T : List Nat, xs.take i = natV T ∧ T.Nodup ∧ (∀ j ∈ T, j < m) ∧ T.length = i
theorem isW_cases {x : V} {m : Nat} (h : isW x 0 ((m : Int) - 1) = true) : ∃ j : Nat, x = .int j ∧ j < m := by
  cases x with
  | int i =>
    have h : 0 ≤ i ∧ i ≤ (m : Int) - 1 := of_decide_eq_true h
    exact ⟨i.toNat, by congr 1; omega, by omega⟩
  | _ => cases h
theorem Pre.step {m i : Nat} {xs : List V} {j : Nat} (h : Pre m i xs) (e : xs[i]? = some (.int j)) (hj : j < m) (hn : ∀ T, xs.take i = natV T → j ∉ T) : Pre m (i + 1) xs := by
  obtain ⟨T, h1, h2, h3, h4⟩ := h
  refine ⟨T ++ [j], ?_, nd_snoc h2 (hn T h1), fun k hk => ?_, by rw [List.length_append, h4]; rfl⟩
  · rw [List.take_succ, e, h1, natV_snoc]; rfl
  · rcases List.mem_append.mp hk with z | z
    · exact h3 k z
    · have : k = j := by simpa using z
      omega
theorem Pre.all {m n : Nat} {xs : List V} (h : Pre m n xs) (hl : xs.length = n) : ∃ T, xs = natV T ∧ T.Nodup ∧ (∀ j ∈ T, j < m) ∧ T.length = n := by
  obtain ⟨T, h1, h2⟩ := h
  rw [← hl, List.take_length] at h1
  exact ⟨T, h1, hl ▸ h2⟩
theorem getElem_natV {l : List Nat} {k : Nat} {v : V} (h : (natV l)[k]? = some v) : ∃ hk : k < l.length, v = .int (l[k] : Nat) := by
  have hk : k < l.length := by
    have := (List.getElem?_eq_some_iff.mp h).1
    rw [natV_len] at this; exact this
  refine ⟨hk, ?_⟩
  rw [natV_get hk] at h
  exact (Option.some.inj h).symm
def sp_need_treeX (K : PySem.W.Frag) : Sp := fun vs H Q E => ∃ (n : Nat) (a : Addr) (v : V) (rs : List Road), vs = [.int n, .ref a, v] ∧ n ≤ 10 ∧ rs.length ≤ 40 ∧ Net n rs ∧ Dt K H (.ref a) rs ∧ TT H v ∧ (GoodTree n rs H v → RetV .non H Q) ∧ (¬ GoodTree n rs H v → RetE K "NoTree" H E)
def sp_heap_ofX (K : PySem.W.Frag) : Sp := fun vs H Q E => ∃ (n : Nat) (a : Addr) (v : V) (rs : List Road), vs = [.int n, .ref a, v] ∧ n ≤ 10 ∧ rs.length ≤ 40 ∧ Net n rs ∧ Dt K H (.ref a) rs ∧ TT H v ∧
  (∀ p T, v = .ref p → H p = some (.lst (natV T)) → IsTree n rs T → RetI (tab n (heapRun n rs T).left) H Q) ∧ (¬ GoodTree n rs H v → RetE K "NoTree" H E)
def sp_refused11 (K : PySem.W.Frag) : Sp := fun vs H Q _ => ∃ (n : Nat) (a : Addr) (v : V) (rs : List Road), vs = [.int n, .ref a, v] ∧ n ≤ 10 ∧ rs.length ≤ 40 ∧ Net n rs ∧ Dt K H (.ref a) rs ∧ TT H v ∧ ¬ GoodTree n rs H v ∧ RetV (.bl true) H Q
def sp_law_good (K : PySem.W.Frag) : Sp := fun vs H Q _ => ∃ (n : Nat) (a : Addr) (v : V) (rs : List Road), vs = [.int n, .ref a, v] ∧ n ≤ 10 ∧ rs.length ≤ 40 ∧ Net n rs ∧ Dt K H (.ref a) rs ∧ TT H v ∧ RetB (GoodTree n rs H v) H Q
def sp_law_met (K : PySem.W.Frag) : Sp := fun vs H Q _ => ∃ (n : Nat) (a b : Addr) (rs : List Road) (T : List Nat), vs = [.int n, .ref a, .ref b] ∧ n ≤ 10 ∧ rs.length ≤ 40 ∧ Net n rs ∧ (∀ j ∈ T, j < rs.length) ∧ Dt K H (.ref a) rs ∧ Dt K H (.ref b) T ∧
  ∀ d H2 ks, H d = none → Ex H H2 → H2 d = some (.dK (keysD ks)) → (ks.length = n + 1 ↔ Cn n rs T) → ks.length ≤ n + 1 → Q (.ref d) H2
/-- some numbers of roads, a new list -/
def sp_law_tree11 (K : PySem.W.Frag) : Sp := fun vs H Q _ => ∃ (a b : Addr) (ns : List Int) (n : Nat) (rs : List Road), vs = [.ref a, .int n, .ref b] ∧ n ≤ 10 ∧ rs.length ≤ 40 ∧ Net n rs ∧ Dt K H (.ref a) ns ∧ Dt K H (.ref b) rs ∧ ∀ T : List Nat, T.length ≤ rs.length → (∀ j ∈ T, j < rs.length) → RetN T H Q
/-- a new list of things, or a tuple of ints -/
def RetTT (H : Hp) (Q : VK) : Prop := ∀ p H2, H p = none → Ex H H2 → ((∃ xs, H2 p = some (.lst xs) ∧ xs.length ≤ 100 ∧ ∀ x ∈ xs, Thing H2 x) ∨ ∃ xs, H2 p = some (.tup xs)) → Q (.ref p) H2
def sp_spoilt11 (K : PySem.W.Frag) : Sp := fun vs H Q _ => ∃ (a b t : Addr) (ns : List Int) (rs : List Road) (T : List Nat), vs = [.ref a, .ref b, .ref t] ∧ rs.length ≤ 40 ∧ Dt K H (.ref a) ns ∧ Dt K H (.ref b) rs ∧ H t = some (.lst (natV T)) ∧ T.length ≤ rs.length ∧ (∀ j ∈ T, j < rs.length) ∧ RetTT H Q
/-! a dict from 0 on up -/
def tabD (m : Nat) (f : Nat → Int) : List (Key × V) := (List.range m).map fun (k : Nat) => ((Sum.inl (k : Int) : Key), V.int (f k))
theorem tabD_len (m : Nat) (f : Nat → Int) : (tabD m f).length = m := by unfold tabD; rw [List.length_map, List.length_range]
theorem tabD_succ (m : Nat) (f : Nat → Int) : tabD (m + 1) f = tabD m f ++ [((Sum.inl (m : Int) : Key), V.int (f m))] := by unfold tabD; rw [List.range_succ, List.map_append]; rfl
theorem valV_snoc (kvs : List (Key × V)) (k k' : Key) (v : V) : valV (kvs ++ [(k', v)]) k = if (valV kvs k).isSome = true then valV kvs k else if k' = k then some v else none := by
  induction kvs with
  | nil => by_cases c : k' = k <;> simp [valV, c]
  | cons p kvs ih =>
    by_cases c : p.1 = k
    · simp [valV, c]
    · have e1 : valV (p :: kvs ++ [(k', v)]) k = valV (kvs ++ [(k', v)]) k := by simp [valV, c]
      have e2 : valV (p :: kvs) k = valV kvs k := by simp [valV, c]
      rw [e1, e2, ih]
theorem tabD_val (m : Nat) (f : Nat → Int) (k : Nat) : valV (tabD m f) (Sum.inl (k : Int) : Key) = if k < m then some (.int (f k)) else none := by
  induction m with
  | zero => rfl
  | succ m ih =>
    rw [tabD_succ, valV_snoc, ih]
    by_cases c : k < m
    · rw [if_pos c, if_pos (show (some (V.int (f k))).isSome = true from rfl), if_pos (show k < m + 1 by omega)]
    · rw [if_neg c]
      by_cases d : k = m
      · subst d
        rw [if_neg (by decide), if_pos rfl, if_pos (by omega)]
      · rw [if_neg (by decide), if_neg (fun z => d (by have := Sum.inl.inj z; omega)), if_neg (by omega)]
theorem tabD_new (m : Nat) (f : Nat → Int) : putK (tabD m f) (Sum.inl (m : Int) : Key) (.int (f m)) = tabD (m + 1) f := by
  rw [putK_new _ (by rw [tabD_val, if_neg (by omega)]), tabD_succ]
theorem tabD_put {m k : Nat} (f : Nat → Int) (z : Int) (h : k < m) : putK (tabD m f) (Sum.inl (k : Int) : Key) (.int z) = tabD m (fup f k z) := by
  unfold putK
  rw [if_pos]
  · unfold tabD
    rw [List.map_map]
    refine List.map_congr_left fun x _ => ?_
    show (if (Sum.inl (x : Int) : Key) = Sum.inl (k : Int) then ((Sum.inl (x : Int) : Key), V.int z) else ((Sum.inl (x : Int) : Key), V.int (f x))) = ((Sum.inl (x : Int) : Key), V.int (fup f k z x))
    by_cases c : x = k
    · subst c; rw [if_pos rfl, fup_at]
    · rw [if_neg (fun z => c (by have := Sum.inl.inj z; omega)), fup_ne c]
  · rw [List.any_eq_true]
    exact ⟨((Sum.inl (k : Int) : Key), V.int (f k)), List.mem_map.mpr ⟨k, List.mem_range.mpr h, rfl⟩, by simp⟩
theorem z_tabD {H : Hp} {a : Addr} {m k : Nat} {f : Nat → Int} {P : V → Prop} (h : H a = some (.dK (tabD m f))) (hk : k < m) (q : P (.int (f k))) : ∃ b v, V.ref a = .ref b ∧ DGet H b (.int (k : Int)) (some v) ∧ P v := by
  refine ⟨a, .int (f k), rfl, ?_, q⟩
  have := DGet.k (k := Sum.inl (k : Int)) h
  rw [tabD_val, if_pos hk] at this
  exact this
theorem natV_erase : ∀ (l : List Nat) (k : Nat), (natV l).eraseIdx k = natV (l.eraseIdx k)
  | [], _ => rfl
  | _ :: _, 0 => rfl
  | x :: l, k + 1 => by
    show V.int x :: (natV l).eraseIdx k = V.int x :: natV (l.eraseIdx k)
    rw [natV_erase l k]
theorem z_popN {H : Hp} {Q : VK} {l : Addr} {os : List Nat} {k : Nat} (h : H l = some (.lst (natV os))) (hk : k < os.length) (hl : os.length ≤ 1000) (q : Q (.int (os[k] : Nat)) (upd H l (.lst (natV (os.eraseIdx k))))) : rPopAt (.ref l) [.int (k : Int)] H Q := by
  refine ⟨l, natV os, k, k, .int (os[k] : Nat), rfl, rfl, h, by omega, by omega, ?_, natV_get hk, ?_⟩
  · rw [natV_len]
    unfold seqIndex?
    simp only []
    first
      | (rw [if_neg (by omega), if_pos (by omega)]; simp)
      | (simp; omega)
  · rw [natV_erase]; exact q
theorem rgV_nat (m : Nat) : rgV 0 (m : Int) = natV (List.range m) := by
  unfold rgV natV
  rw [Int.sub_zero, Int.toNat_natCast]
  refine List.map_congr_left fun i _ => ?_
  show V.int (0 + (i : Int)) = _
  rw [Int.zero_add]
theorem z_lctab2 {K : PySem.W.Frag} {σ : L2.St} {H : Hp} {QD : Addr → Hp → Prop} {te : TE} {g : TG} {vs : List Nat} {lo n : Nat} (f : Nat → Int) (hlo : lo ≤ n) (hn : n ≤ 100000)
    (h : ∀ (i : Nat) H' (R : VK), lo ≤ i → i < n → Ex H H' → (∀ H4, Ex H' H4 → R (.int (f i)) H4) → g (.int (i : Int)) (wipe σ vs) H' fun σ2 H2 => wipe σ2 vs = wipe σ vs ∧ te σ2 H2 R)
    (q : ∀ D H2, H D = none → Ex H H2 → H2 D = some (.lst (((List.range (n - lo)).map fun i => f (lo + i)).map V.int)) → QD D H2) (hg : ∃ s, g = gName s) :
    ∃ i j : Int, [V.int lo, V.int n] = [.int i, .int j] ∧ (-(2 ^ 62) ≤ i ∧ i < 2 ^ 62 ∧ -(2 ^ 62) ≤ j ∧ j < 2 ^ 62) ∧ ∀ D, H D = none → ∃ W : Nat → Nat → Hp → Prop, (∃ m, W 0 m (upd H D (.lst []))) ∧ ∀ x m H, W x m H →
      ((Itr i (j - i).toNat).stop x H ∧ QD D H) ∨ ((Itr i (j - i).toNat).go x H ∧ ∃ Nx : Hp → Prop, (∀ H', Nx H' → ∃ m', m' < m ∧ W (x + 1) m' H') ∧ ∀ y H', (Itr i (j - i).toNat).yld x H y H' → g y (wipe σ vs) H' fun σ2 H2 => wipe σ2 vs = wipe σ vs ∧ tYes σ2 H2 fun b H3 =>
        if b = true then te σ2 H3 fun y H4 => ∃ acc, H4 D = some (.lst acc) ∧ acc.length < sizeLine ∧ Nx (upd H4 D (.lst (acc ++ [y]))) else Nx H3) := by
  obtain ⟨s, rfl⟩ := hg
  refine ⟨(lo : Int), (n : Int), rfl, ⟨by omega, by omega, by omega, by omega⟩, fun D hD => ?_⟩
  have e : ((n : Int) - (lo : Int)).toNat = n - lo := by omega
  rw [e]
  refine lc_range (lo := (lo : Int)) (n := n - lo) (fun i H' => Ex H H' ∧ i ≤ n ∧ H' D = some (.lst (((List.range i).map fun i => f (lo + i)).map V.int))) ⟨Ex.new hD, Nat.zero_le _, upd_same⟩ ?_ ?_
  · rintro i H' hi ⟨e, _, hd⟩
    have z := h (lo + i) H' (fun y H4 => ∃ acc, H4 D = some (.lst acc) ∧ acc.length < sizeLine ∧ (Ex H (upd H4 D (.lst (acc ++ [y]))) ∧ i + 1 ≤ n ∧ (upd H4 D (.lst (acc ++ [y]))) D = some (.lst (((List.range (i + 1)).map fun i => f (lo + i)).map V.int)))) (by omega) (by omega) e fun H4 e4 => by
      refine ⟨_, e4 _ _ hd, by rw [List.length_map, List.length_map, List.length_range]; exact szl _ (by omega), ex_mut (e.trans e4) hD, by omega, ?_⟩
      rw [upd_same, List.range_succ, List.map_append, List.map_append]; rfl
    rw [show ((lo + i : Nat) : Int) = (lo : Int) + (i : Int) by omega] at z
    exact ⟨z.1, z.2⟩
  · rintro H' ⟨e, _, hd⟩
    exact q D H' hD e hd
/-- None, or the only times that lead from h to g -/
def RetU (n : Nat) (rs : List Road) (h g : Nat → Int) (H : Hp) (Q : VK) : Prop := (∀ u, (∀ k, k < n → g k = mv n rs h u k) → RetI (tab n u) H Q) ∧ ((¬ ∃ u, ∀ k, k < n → g k = mv n rs h u k) → RetV .non H Q)
def sp_alike (K : PySem.W.Frag) : Sp := fun vs H Q _ => ∃ (n : Nat) (a b c : Addr) (rs : List Road) (h g : Nat → Int), vs = [.int n, .ref a, .ref b, .ref c] ∧ n ≤ 10 ∧ rs.length ≤ 40 ∧ Net n rs ∧ Good n h ∧ Good n g ∧ Dt K H (.ref a) rs ∧ Dt K H (.ref b) (tab n h) ∧ Dt K H (.ref c) (tab n g) ∧ RetU n rs h g H Q
def sp_law_times (K : PySem.W.Frag) : Sp := fun vs H Q _ => ∃ (n : Nat) (a b c : Addr) (rs : List Road) (h g : Nat → Int), vs = [.int n, .ref a, .ref b, .ref c] ∧ n ≤ 7 ∧ rs.length ≤ 40 ∧ Net n rs ∧ Dt K H (.ref a) rs ∧ Dt K H (.ref b) (tab n h) ∧ Dt K H (.ref c) (tab n g) ∧ RetU n rs h g H Q
/-- rows of ints: a new list of new lists -/
def RowsAt (H : Hp) (p : Addr) (m : Nat) (f : Nat → List Int) : Prop := ∃ ps : List Addr, H p = some (.lst (ps.map V.ref)) ∧ ps.length = m ∧ ∀ i a, ps[i]? = some a → H a = some (.lst ((f i).map V.int))
def sp_law_table (K : PySem.W.Frag) : Sp := fun vs H Q _ => ∃ (n : Nat) (a : Addr) (rs : List Road), vs = [.int n, .ref a] ∧ n ≤ 7 ∧ rs.length ≤ 40 ∧ Net n rs ∧ Dt K H (.ref a) rs ∧
  ∀ p H2, H p = none → Ex H H2 → RowsAt H2 p n (fun j => tab n fun k => LA n rs k j) → Q (.ref p) H2
def sp_law_other (K : PySem.W.Frag) : Sp := fun vs H Q _ => ∃ (a b c : Addr) (ns : List Int) (n : Nat) (rs : List Road) (h : Nat → Int), vs = [.ref a, .int n, .ref b, .ref c] ∧ n ≤ 10 ∧ rs.length ≤ 40 ∧ Net n rs ∧ Good n h ∧ Dt K H (.ref a) ns ∧ Dt K H (.ref b) rs ∧ Dt K H (.ref c) (tab n h) ∧
  ∀ g, (∀ k, k < n → 0 ≤ g k) → RetI (tab n g) H Q
/-- a list of n ints -/
def sp_law_is_heap (K : PySem.W.Frag) : Sp := fun vs H Q _ => ∃ (a : Addr) (n : Nat) (l : List Int), vs = [.ref a, .int n] ∧ Dt K H (.ref a) l ∧ l.length = n ∧ RetV (.bl true) H Q
/-- the law: a list of at most 63 ints is handed in, True comes out -/
def sp_law (K : PySem.W.Frag) : Sp := fun vs H Q _ => ∃ (a : Addr) (ns : List Int), vs = [.ref a] ∧ SqL K H a (ns.map V.int) ∧ ns.length ≤ 63 ∧ ∀ H', Q (.bl true) H'
theorem emod_nat (c : Int) {m : Nat} (h : 0 < m) : ∃ x : Nat, c % (m : Int) = x ∧ x < m := by
  have h1 := Int.emod_nonneg c (show (m : Int) ≠ 0 by omega)
  have h2 := Int.emod_lt_of_pos c (show (0 : Int) < m by omega)
  exact ⟨(c % (m : Int)).toNat, by omega, by omega⟩
/-! ### k14: things of any kind, the first refusal due -/
def T1 (H : Hp) (v : V) : Prop := Thing H v ∧ ∀ p xs, v = .ref p → (H p = some (.lst xs) ∨ H p = some (.tup xs)) → ∀ x ∈ xs, Thing H x
def T2 (H : Hp) (v : V) : Prop := Thing H v ∧ ∀ p xs, v = .ref p → (H p = some (.lst xs) ∨ H p = some (.tup xs)) → ∀ x ∈ xs, T1 H x
theorem same_at {H H' : Hp} {p : Addr} {o : HO} (e : Ex H H') (t : Thing H (.ref p)) (h : H' p = some o) : H p = some o := by
  obtain ⟨o', ho⟩ := thing_at t
  rw [e _ _ ho] at h
  rw [ho]; exact h
theorem T1.ex {H H' : Hp} {v : V} (e : Ex H H') (h : T1 H v) : T1 H' v := ⟨thing_ex e h.1, fun p xs ev hp x hx => by
  subst ev
  exact thing_ex e (h.2 p xs rfl (hp.imp (same_at e h.1) (same_at e h.1)) x hx)⟩
theorem T2.ex {H H' : Hp} {v : V} (e : Ex H H') (h : T2 H v) : T2 H' v := ⟨thing_ex e h.1, fun p xs ev hp x hx => by
  subst ev
  exact (h.2 p xs rfl (hp.imp (same_at e h.1) (same_at e h.1)) x hx).ex e⟩
theorem T1.tt {H : Hp} {v : V} (h : T1 H v) : TT H v := ⟨h.1, fun p xs ev hp => h.2 p xs ev (.inl hp)⟩
theorem T1.flat {H : Hp} {v : V} (h : ∀ p, v ≠ .ref p) (t : Thing H v) : T1 H v := ⟨t, fun p _ e => absurd e (h p)⟩
theorem T1.lst {H : Hp} {p : Addr} {xs : List V} (h : H p = some (.lst xs)) (t : ∀ x ∈ xs, Thing H x) : T1 H (.ref p) := ⟨.lst h, fun q ys e hq x hx => by
  cases e
  rw [h] at hq
  rcases hq with hq | hq
  · cases hq; exact t x hx
  · cases hq⟩
theorem T1.tup {H : Hp} {p : Addr} {xs : List V} (h : H p = some (.tup xs)) (t : ∀ x ∈ xs, Thing H x) : T1 H (.ref p) := ⟨.tup h, fun q ys e hq x hx => by
  cases e
  rw [h] at hq
  rcases hq with hq | hq
  · cases hq
  · cases hq; exact t x hx⟩
theorem T1.dK {H : Hp} {p : Addr} {xs : List (Key × V)} (h : H p = some (.dK xs)) : T1 H (.ref p) := ⟨.dK h, fun q ys e hq x hx => by
  cases e
  rw [h] at hq
  rcases hq with hq | hq <;> cases hq⟩
theorem T2.flat {H : Hp} {v : V} (h : ∀ p, v ≠ .ref p) (t : Thing H v) : T2 H v := ⟨t, fun p _ e => absurd e (h p)⟩
theorem T2.lst {H : Hp} {p : Addr} {xs : List V} (h : H p = some (.lst xs)) (t : ∀ x ∈ xs, T1 H x) : T2 H (.ref p) := ⟨.lst h, fun q ys e hq x hx => by
  cases e
  rw [h] at hq
  rcases hq with hq | hq
  · cases hq; exact t x hx
  · cases hq⟩
theorem T2.tup {H : Hp} {p : Addr} {xs : List V} (h : H p = some (.tup xs)) (t : ∀ x ∈ xs, T1 H x) : T2 H (.ref p) := ⟨.tup h, fun q ys e hq x hx => by
  cases e
  rw [h] at hq
  rcases hq with hq | hq
  · cases hq
  · cases hq; exact t x hx⟩
theorem T2.dK {H : Hp} {p : Addr} {xs : List (Key × V)} (h : H p = some (.dK xs)) : T2 H (.ref p) := ⟨.dK h, fun q ys e hq x hx => by
  cases e
  rw [h] at hq
  rcases hq with hq | hq <;> cases hq⟩
theorem Tups.at {H : Hp} : ∀ {ts : List Addr} {rs : List Road} {i : Nat} {t : Addr}, Tups H ts rs → ts[i]? = some t → ∃ r, H t = some (.tup [.int (r.1 : Nat), .int (r.2 : Nat)]) ∧ r ∈ rs
  | [], [], _, _, _, e => by simp at e
  | [], _ :: _, _, _, h, _ => h.elim
  | _ :: _, [], _, _, h, _ => h.elim
  | t :: ts, r :: rs, 0, t', h, e => by
    have : t = t' := by simpa using e
    subst this
    exact ⟨r, h.1, List.mem_cons_self⟩
  | t :: ts, r :: rs, i + 1, t', h, e => by
    obtain ⟨r', h1, h2⟩ := Tups.at (ts := ts) (rs := rs) (i := i) h.2 (by simpa using e)
    exact ⟨r', h1, List.mem_cons_of_mem _ h2⟩
theorem Tups.inj {H : Hp} : ∀ {ts : List Addr} {rs rs' : List Road}, Tups H ts rs → Tups H ts rs' → rs = rs'
  | [], [], [], _, _ => rfl
  | [], _ :: _, _, h, _ => h.elim
  | [], _, _ :: _, _, h => h.elim
  | _ :: _, [], _, h, _ => h.elim
  | _ :: _, _, [], _, h => h.elim
  | t :: ts, (a, b) :: rs, (c, d) :: rs', h, g => by
    have e := h.1
    rw [g.1] at e
    injection e with e
    injection e with e
    injection e with e1 e2
    injection e2 with e2 _
    injection e1 with e1
    injection e2 with e2
    have e1 : ((c : Nat) : Int) = ((a : Nat) : Int) := e1
    have e2 : ((d : Nat) : Int) = ((b : Nat) : Int) := e2
    have h1 : a = c := by omega
    have h2 : b = d := by omega
    rw [h1, h2, Tups.inj h.2 g.2]
theorem tups_things {H : Hp} : ∀ {ts : List Addr} {rs : List Road}, Tups H ts rs → ∀ x ∈ ts.map V.ref, T1 H x
  | [], _, _, x, hx => by cases hx
  | t :: ts, [], h, _, _ => h.elim
  | t :: ts, r :: rs, h, x, hx => by
    rcases List.mem_cons.mp hx with z | z
    · rw [z]
      refine T1.tup h.1 fun y hy => ?_
      rcases List.mem_cons.mp hy with w | w
      · rw [w]; exact .int _
      · rw [List.mem_singleton.mp w]; exact .int _
    · exact tups_things h.2 x z
theorem RL.t2 {H : Hp} {a : Addr} {rs : List Road} (h : RL H a rs) : T2 H (.ref a) := by
  obtain ⟨ts, h1, h2⟩ := h
  exact T2.lst h1 (tups_things h2)
theorem tups_back {H H' : Hp} (e : Ex H H') : ∀ {ts : List Addr} {rs : List Road}, (∀ t ∈ ts, Thing H (.ref t)) → Tups H' ts rs → Tups H ts rs
  | [], [], _, _ => trivial
  | [], _ :: _, _, h => h.elim
  | t :: ts, [], _, h => h.elim
  | t :: ts, r :: rs, k, h => ⟨same_at e (k t List.mem_cons_self) h.1, tups_back e (fun x hx => k x (List.mem_cons_of_mem _ hx)) h.2⟩
theorem RL.back {H H' : Hp} {a : Addr} {rs : List Road} (e : Ex H H') (t : T2 H (.ref a)) (h : RL H' a rs) : RL H a rs := by
  obtain ⟨ts, h1, h2⟩ := h
  have h0 := same_at e t.1 h1
  exact ⟨ts, h0, tups_back e (fun x hx => (t.2 a _ rfl (.inl h0) (.ref x) (List.mem_map.mpr ⟨x, hx, rfl⟩)).1) h2⟩
def NetAt (H : Hp) (m r : V) (n : Nat) (p : Addr) (rs : List Road) : Prop := m = .int n ∧ r = .ref p ∧ RL H p rs ∧ n ≤ 10 ∧ rs.length ≤ 40 ∧ Net n rs
def GoodNet (H : Hp) (m r : V) : Prop := ∃ n p rs, NetAt H m r n p rs
theorem GoodNet.ex {H H' : Hp} {m r : V} (e : Ex H H') (t : T2 H r) : GoodNet H' m r ↔ GoodNet H m r := by
  constructor
  · rintro ⟨n, p, rs, rfl, rfl, h, k⟩
    exact ⟨n, p, rs, rfl, rfl, h.back e t, k⟩
  · rintro ⟨n, p, rs, rfl, rfl, h, k⟩
    exact ⟨n, p, rs, rfl, rfl, h.ex e, k⟩
def HeapAt (H : Hp) (n : Nat) (v : V) (q : Addr) (h : Nat → Int) : Prop := v = .ref q ∧ H q = some (.lst ((tab n h).map V.int)) ∧ Good n h
def GoodHeap (H : Hp) (n : Nat) (v : V) : Prop := ∃ q h, HeapAt H n v q h
theorem GoodHeap.ex {H H' : Hp} {n : Nat} {v : V} (e : Ex H H') (t : Thing H v) : GoodHeap H' n v ↔ GoodHeap H n v := by
  constructor
  · rintro ⟨q, h, rfl, h1, h2⟩
    exact ⟨q, h, rfl, same_at e t h1, h2⟩
  · rintro ⟨q, h, rfl, h1, h2⟩
    exact ⟨q, h, rfl, e _ _ h1, h2⟩
section
variable (R : Nat → Prop) (ok : Prop) (H : Hp)
def askN (m r : V) (k : Nat → List Road → Prop) : Prop := (¬ GoodNet H m r → R 0) ∧ ∀ n p rs, NetAt H m r n p rs → k n rs
def askH (n : Nat) (v : V) (k : (Nat → Int) → Prop) : Prop := (¬ GoodHeap H n v → R 1) ∧ ∀ q h, HeapAt H n v q h → k h
def askP (n : Nat) (v : V) (k : Nat → Prop) : Prop := (¬ (∃ p : Nat, v = .int p ∧ p < n) → R 2) ∧ ∀ p : Nat, v = .int p → p < n → k p
def askT (n : Nat) (rs : List Road) (v : V) : Prop := (¬ GoodTree n rs H v → R 3) ∧ (GoodTree n rs H v → ok)
def askE (rs : List Road) (h : Nat → Int) (p : Nat) : Prop := (h p < deg rs p → R 4) ∧ (deg rs p ≤ h p → ok)
def askA (n : Nat) (rs : List Road) (h : Nat → Int) : Prop := (¬ (Low n rs h ∧ NF n rs h) → R 5) ∧ (Low n rs h ∧ NF n rs h → ok)
def Ask (w : Nat) (m r x y pl tr : V) : Prop := askN R H m r fun n rs =>
  if w ≤ 2 then ok else if w ≤ 7 then askH R H n x fun _ => ok else if w ≤ 9 then askH R H n x fun _ => askH R H n y fun _ => ok
  else if w = 10 then askH R H n x fun _ => askH R H n y fun g => askA R ok n rs g else if w = 11 then askH R H n x fun h => askA R ok n rs h
  else if w = 12 then askH R H n x fun h => askP R n pl fun p => askE R ok rs h p else askT R ok H n rs tr
end
theorem Ask.imp {R R' : Nat → Prop} {ok ok' : Prop} {H : Hp} {w : Nat} {m r x y pl tr : V} (h1 : ∀ c, c < 6 → R c → R' c) (h2 : ok → ok') (h : Ask R ok H w m r x y pl tr) : Ask R' ok' H w m r x y pl tr := by
  obtain ⟨a, b⟩ := h
  refine ⟨fun z => h1 _ (by decide) (a z), fun n p rs N => ?_⟩
  have b := b n p rs N
  revert b
  dsimp only
  by_cases c1 : w ≤ 2
  · rw [if_pos c1, if_pos c1]; exact h2
  rw [if_neg c1, if_neg c1]
  by_cases c2 : w ≤ 7
  · rw [if_pos c2, if_pos c2]; exact fun b => ⟨fun z => h1 _ (by decide) (b.1 z), fun q h k => h2 (b.2 q h k)⟩
  rw [if_neg c2, if_neg c2]
  by_cases c3 : w ≤ 9
  · rw [if_pos c3, if_pos c3]
    exact fun b => ⟨fun z => h1 _ (by decide) (b.1 z), fun q h k => ⟨fun z => h1 _ (by decide) ((b.2 q h k).1 z), fun q' h' k' => h2 ((b.2 q h k).2 q' h' k')⟩⟩
  rw [if_neg c3, if_neg c3]
  by_cases c4 : w = 10
  · rw [if_pos c4, if_pos c4]
    exact fun b => ⟨fun z => h1 _ (by decide) (b.1 z), fun q h k => ⟨fun z => h1 _ (by decide) ((b.2 q h k).1 z), fun q' h' k' => ⟨fun z => h1 _ (by decide) (((b.2 q h k).2 q' h' k').1 z), fun z => h2 (((b.2 q h k).2 q' h' k').2 z)⟩⟩⟩
  rw [if_neg c4, if_neg c4]
  by_cases c5 : w = 11
  · rw [if_pos c5, if_pos c5]
    exact fun b => ⟨fun z => h1 _ (by decide) (b.1 z), fun q h k => ⟨fun z => h1 _ (by decide) ((b.2 q h k).1 z), fun z => h2 ((b.2 q h k).2 z)⟩⟩
  rw [if_neg c5, if_neg c5]
  by_cases c6 : w = 12
  · rw [if_pos c6, if_pos c6]
    exact fun b => ⟨fun z => h1 _ (by decide) (b.1 z), fun q h k => ⟨fun z => h1 _ (by decide) ((b.2 q h k).1 z), fun p e l => ⟨fun z => h1 _ (by decide) (((b.2 q h k).2 p e l).1 z), fun z => h2 (((b.2 q h k).2 p e l).2 z)⟩⟩⟩
  rw [if_neg c6, if_neg c6]
  exact fun b => ⟨fun z => h1 _ (by decide) (b.1 z), fun z => h2 (b.2 z)⟩
def nameE : Nat → Str
  | 0 => "NoNet"
  | 1 => "NoHeap"
  | 2 => "NoPlace"
  | 3 => "NoTree"
  | 4 => "TooLittle"
  | _ => "NotAgain"
def RE (K : PySem.W.Frag) (H : Hp) (E : XK) (c : Nat) : Prop := RetE K (nameE c) H E
def RA (H : Hp) (Q : VK) : Prop := ∀ v H2, Ex H H2 → Q v H2
def sp_is_road14 (_ : PySem.W.Frag) : Sp := fun vs H Q _ => ∃ (x : V) (n : Nat), vs = [x, .int n] ∧ T1 H x ∧ ∀ b : Bool, (b = true ↔ ∃ (t : Addr) (r : Road), x = .ref t ∧ H t = some (.tup [.int r.1, .int r.2]) ∧ r.1 ≤ n ∧ r.2 ≤ n ∧ r.1 ≠ r.2) → Q (.bl b) H
def sp_need_net14 (K : PySem.W.Frag) : Sp := fun vs H Q E => ∃ (m r : V), vs = [m, r] ∧ Thing H m ∧ T2 H r ∧ (GoodNet H m r → RetV .non H Q) ∧ (¬ GoodNet H m r → RE K H E 0)
def sp_need_heap14 (K : PySem.W.Frag) : Sp := fun vs H Q E => ∃ (n : Nat) (v : V), vs = [.int n, v] ∧ T1 H v ∧ (GoodHeap H n v → Q .non H) ∧ (¬ GoodHeap H n v → RE K H E 1)
def sp_net14 (K : PySem.W.Frag) : Sp := fun vs H Q E => ∃ (m r : V), vs = [m, r] ∧ Thing H m ∧ T2 H r ∧ askN (RE K H E) H m r fun _ _ => RA H Q
def sp_heap14 (K : PySem.W.Frag) : Sp := fun vs H Q E => ∃ (m r x : V), vs = [m, r, x] ∧ Thing H m ∧ T2 H r ∧ T1 H x ∧ askN (RE K H E) H m r fun n _ => askH (RE K H E) H n x fun _ => RA H Q
def sp_heaps14 (K : PySem.W.Frag) : Sp := fun vs H Q E => ∃ (m r x y : V), vs = [m, r, x, y] ∧ Thing H m ∧ T2 H r ∧ T1 H x ∧ T1 H y ∧ askN (RE K H E) H m r fun n _ => askH (RE K H E) H n x fun _ => askH (RE K H E) H n y fun _ => RA H Q
def sp_towards14 (K : PySem.W.Frag) : Sp := fun vs H Q E => ∃ (m r x y : V), vs = [m, r, x, y] ∧ Thing H m ∧ T2 H r ∧ T1 H x ∧ T1 H y ∧ askN (RE K H E) H m r fun n rs => askH (RE K H E) H n x fun _ => askH (RE K H E) H n y fun g => askA (RE K H E) (RA H Q) n rs g
def sp_tree_of14 (K : PySem.W.Frag) : Sp := fun vs H Q E => ∃ (m r x : V), vs = [m, r, x] ∧ Thing H m ∧ T2 H r ∧ T1 H x ∧ askN (RE K H E) H m r fun n rs => askH (RE K H E) H n x fun h => askA (RE K H E) (RA H Q) n rs h
def sp_toppled14 (K : PySem.W.Frag) : Sp := fun vs H Q E => ∃ (m r x p : V), vs = [m, r, x, p] ∧ Thing H m ∧ T2 H r ∧ T1 H x ∧ Thing H p ∧ askN (RE K H E) H m r fun n rs => askH (RE K H E) H n x fun h => askP (RE K H E) n p fun q => askE (RE K H E) (RA H Q) rs h q
def sp_heap_of14 (K : PySem.W.Frag) : Sp := fun vs H Q E => ∃ (m r t : V), vs = [m, r, t] ∧ Thing H m ∧ T2 H r ∧ T1 H t ∧ askN (RE K H E) H m r fun n rs => askT (RE K H E) (RA H Q) H n rs t
def sp_law_asked (K : PySem.W.Frag) : Sp := fun vs H Q E => ∃ (w : Nat) (m r x y p t : V), vs = [.int w, m, r, x, y, p, t] ∧ w ≤ 13 ∧ Thing H m ∧ T2 H r ∧ T1 H x ∧ T1 H y ∧ Thing H p ∧ T1 H t ∧ Ask (RE K H E) (RA H Q) H w m r x y p t
def sp_law_told (K : PySem.W.Frag) : Sp := fun vs H Q _ => ∃ (w : Nat) (m r x y p t : V), vs = [.int w, m, r, x, y, p, t] ∧ w ≤ 13 ∧ Thing H m ∧ T2 H r ∧ T1 H x ∧ T1 H y ∧ Thing H p ∧ T1 H t ∧ Ask (fun c => RetV (.int c) H Q) (RetV (.int 6) H Q) H w m r x y p t
/-- what is due of good things -/
def LastOk (w n : Nat) (rs : List Road) (h g : Nat → Int) (pl d : Nat) : Prop :=
  (w = 10 → (Low n rs g ∧ NF n rs g → d = 6) ∧ (¬ (Low n rs g ∧ NF n rs g) → d = 5)) ∧ (w = 11 → (Low n rs h ∧ NF n rs h → d = 6) ∧ (¬ (Low n rs h ∧ NF n rs h) → d = 5)) ∧
  (w = 12 → (deg rs pl ≤ h pl → d = 6) ∧ (h pl < deg rs pl → d = 4)) ∧ (w ≠ 10 → w ≠ 11 → w ≠ 12 → d = 6)
def sp_law_last (K : PySem.W.Frag) : Sp := fun vs H Q _ => ∃ (w n : Nat) (a b c : Addr) (rs : List Road) (h g : Nat → Int) (p : Nat), vs = [.int w, .int n, .ref a, .ref b, .ref c, .int p] ∧ n ≤ 10 ∧ rs.length ≤ 40 ∧ Net n rs ∧ Dt K H (.ref a) rs ∧ Dt K H (.ref b) (tab n h) ∧ Dt K H (.ref c) (tab n g) ∧ (w = 12 → p < n) ∧
  ∀ d, LastOk w n rs h g p d → RetV (.int (d : Nat)) H Q
def RetX (P : Hp → V → Prop) (H : Hp) (Q : VK) : Prop := ∀ v H2, Ex H H2 → (∀ B : Hp, (∀ p o, H p = none → H2 p = some o → B p = some o) → P B v) → Q v H2
def sp_law_odd (_ : PySem.W.Frag) : Sp := fun vs H Q _ => ∃ (c : Int), vs = [.int c] ∧ RetX (fun H2 v => Thing H2 v ∧ ∀ i : Int, v = .int i → ¬ (0 ≤ i ∧ i ≤ 1000000000)) H Q
/-- a thing in the place of an item -/
def sp_law_put (K : PySem.W.Frag) : Sp := fun vs H Q _ => ∃ (a : Addr) (xs : List V) (z : V) (c : Int), vs = [.ref a, z, .int c] ∧ SqL K H a xs ∧ xs.length ≤ 100 ∧ ∀ (i : Nat) p H2, i ≤ xs.length → H p = none → Ex H H2 → (0 < xs.length → i < xs.length) → H2 p = some (.lst (xs.take i ++ [z] ++ xs.drop (i + 1))) → Q (.ref p) H2
def sp_law_cut_off (K : PySem.W.Frag) : Sp := fun vs H Q _ => ∃ (n : Nat) (a : Addr) (rs : List Road) (c : Int), vs = [.int n, .ref a, .int c] ∧ 0 < n ∧ n ≤ 10 ∧ rs.length ≤ 40 ∧ Net n rs ∧ RL H a rs ∧ ∀ p H2 rs2, H p = none → Ex H H2 → RL H2 p rs2 → ¬ Net n rs2 → Q (.ref p) H2
def sp_law_no_net (K : PySem.W.Frag) : Sp := fun vs H Q _ => ∃ (n : Nat) (a : Addr) (rs : List Road) (c : Int), vs = [.int n, .ref a, .int c] ∧ n ≤ 10 ∧ rs.length ≤ 40 ∧ Net n rs ∧ RL H a rs ∧
  ∀ t H2 m r, H t = none → Ex H H2 → H2 t = some (.tup [m, r]) → (∀ B : Hp, (∀ p o, (H p = none ∨ p = a ∨ ∃ xs, H p = some (.tup xs)) → H2 p = some o → B p = some o) → Thing B m ∧ T2 B r ∧ ¬ GoodNet B m r) → Q (.ref t) H2
def sp_law_no_heap (K : PySem.W.Frag) : Sp := fun vs H Q _ => ∃ (n : Nat) (a : Addr) (h : Nat → Int) (c : Int), vs = [.ref a, .int c] ∧ n ≤ 10 ∧ H a = some (.lst ((tab n h).map V.int)) ∧ RetX (fun H2 v => T1 H2 v ∧ ¬ GoodHeap H2 n v) H Q
def sp_law_no_tree (K : PySem.W.Frag) : Sp := fun vs H Q _ => ∃ (n : Nat) (a b : Addr) (rs : List Road) (T : List Nat) (c : Int), vs = [.ref b, .ref a, .int c] ∧ n ≤ 10 ∧ rs.length ≤ 40 ∧ Net n rs ∧ RL H a rs ∧ H b = some (.lst (natV T)) ∧ IsTree n rs T ∧ RetX (fun H2 v => T1 H2 v ∧ ¬ GoodTree n rs H2 v) H Q
def sp_law_tree14 (K : PySem.W.Frag) : Sp := fun vs H Q _ => ∃ (n : Nat) (a : Addr) (rs : List Road), vs = [.int n, .ref a] ∧ n ≤ 10 ∧ rs.length ≤ 40 ∧ Net n rs ∧ Dt K H (.ref a) rs ∧ ∀ T : List Nat, IsTree n rs T → RetN T H Q
def dueF (nb xb yb pb : Bool) (w last : Nat) : Nat := if nb = true then 0 else if xb = true ∧ 2 < w ∧ w < 13 then 1 else if yb = true ∧ 7 < w ∧ w < 11 then 1 else if pb = true ∧ 11 < w then w - 10 else last
theorem dueF_n (xb yb pb : Bool) (w l : Nat) : dueF true xb yb pb w l = 0 := if_pos rfl
theorem dueF_x1 {w : Nat} (yb pb : Bool) (l : Nat) (h : 2 < w ∧ w < 13) : dueF false true yb pb w l = 1 := (if_neg (by decide)).trans (if_pos ⟨rfl, h⟩)
theorem dueF_x0 {w : Nat} (yb pb : Bool) (l : Nat) (h : ¬ (2 < w ∧ w < 13)) : dueF false true yb pb w l = dueF false false yb pb w l := by
  unfold dueF
  rw [if_neg (show ¬ (true = true ∧ 2 < w ∧ w < 13) from fun z => h z.2), if_neg (show ¬ (false = true ∧ 2 < w ∧ w < 13) from fun z => by cases z.1)]
theorem dueF_y1 {w : Nat} (pb : Bool) (l : Nat) (h : 7 < w ∧ w < 11) : dueF false false true pb w l = 1 := (if_neg (by decide)).trans ((if_neg fun z => by cases z.1).trans (if_pos ⟨rfl, h⟩))
theorem dueF_y0 {w : Nat} (pb : Bool) (l : Nat) (h : ¬ (7 < w ∧ w < 11)) : dueF false false true pb w l = dueF false false false pb w l := by
  unfold dueF
  rw [if_neg (show ¬ (true = true ∧ 7 < w ∧ w < 11) from fun z => h z.2), if_neg (show ¬ (false = true ∧ 7 < w ∧ w < 11) from fun z => by cases z.1)]
theorem dueF_p1 {w : Nat} (l : Nat) (h : 11 < w) : dueF false false false true w l = w - 10 := (if_neg (by decide)).trans ((if_neg fun z => by cases z.1).trans ((if_neg fun z => by cases z.1).trans (if_pos ⟨rfl, h⟩)))
theorem dueF_p0 {w : Nat} (l : Nat) (h : ¬ 11 < w) : dueF false false false true w l = l := (if_neg (by decide)).trans ((if_neg fun z => by cases z.1).trans ((if_neg fun z => by cases z.1).trans (if_neg fun z => h z.2)))
theorem dueF_0 (w l : Nat) : dueF false false false false w l = l := (if_neg (by decide)).trans ((if_neg fun z => by cases z.1).trans ((if_neg fun z => by cases z.1).trans (if_neg fun z => by cases z.1)))
def sp_law_spoilt14 (K : PySem.W.Frag) : Sp := fun vs H Q _ => ∃ (s g a b c t : Addr) (ns : List Int) (w n pl last : Nat) (rs : List Road) (h k : Nat → Int) (T : List Nat), vs = [.ref s, .int w, .ref g, .int last] ∧ Dt K H (.ref s) ns ∧ w ≤ 13 ∧ n ≤ 10 ∧ rs.length ≤ 40 ∧ Net n rs ∧ RL H a rs ∧
  H b = some (.lst ((tab n h).map V.int)) ∧ H c = some (.lst ((tab n k).map V.int)) ∧ H t = some (.lst (natV T)) ∧ IsTree n rs T ∧ H g = some (.lst [.int n, .ref a, .ref b, .ref c, .int pl, .ref t]) ∧
  ∀ (u l : Addr) H2 (m r x y p q : V) (nb xb yb pb : Bool), Ex H H2 → H2 u = some (.tup [.ref l, .int (dueF nb xb yb pb w last : Nat)]) → H2 l = some (.lst [m, r, x, y, p, q]) → Thing H2 m → T2 H2 r → T1 H2 x → T1 H2 y → Thing H2 p → T1 H2 q →
    (if nb = true then ¬ GoodNet H2 m r else m = .int n ∧ r = .ref a) → (if xb = true then ¬ GoodHeap H2 n x else x = .ref b) → (if yb = true then ¬ GoodHeap H2 n y else y = .ref c) →
    (if pb = true then (¬ ∃ i : Nat, p = .int i ∧ i < n) ∧ ¬ GoodTree n rs H2 q else p = .int pl ∧ q = .ref t) → Q (.ref u) H2
/-! ### rows that are changed in place -/
def RowsX (H : Hp) (r : Addr) (ps : List Addr) (n : Nat) (g : Nat → Nat → Int) : Prop := H r = some (.lst (ps.map V.ref)) ∧ ps.length = n ∧ ps.Nodup ∧ (∀ p ∈ ps, p ≠ r) ∧ ∀ i p, ps[i]? = some p → H p = some (.lst ((tab n (g i)).map V.int))
theorem nd_ix {α : Type} {l : List α} {i j : Nat} {x : α} (h : l.Nodup) (hi : l[i]? = some x) (hj : l[j]? = some x) : i = j := by
  obtain ⟨i1, i2⟩ := List.getElem?_eq_some_iff.mp hi
  obtain ⟨j1, j2⟩ := List.getElem?_eq_some_iff.mp hj
  rcases Nat.lt_trichotomy i j with z | z | z
  · exact absurd (i2.trans j2.symm) ((List.pairwise_iff_getElem.mp h) i j i1 j1 z)
  · exact z
  · exact absurd (j2.trans i2.symm) ((List.pairwise_iff_getElem.mp h) j i j1 i1 z)
theorem RowsX.congr {H : Hp} {r : Addr} {ps : List Addr} {n : Nat} {g g' : Nat → Nat → Int} (R : RowsX H r ps n g) (h : ∀ i j, i < n → j < n → g i j = g' i j) : RowsX H r ps n g' := by
  obtain ⟨h1, h2, h3, h4, h5⟩ := R
  refine ⟨h1, h2, h3, h4, fun i p hp => ?_⟩
  have hi : i < n := by have := (List.getElem?_eq_some_iff.mp hp).1; omega
  rw [h5 i p hp, tab_congr fun j hj => h i j hi hj]
theorem RowsX.ex {H H' : Hp} {r : Addr} {ps : List Addr} {n : Nat} {g : Nat → Nat → Int} (e : Ex H H') (R : RowsX H r ps n g) : RowsX H' r ps n g := by
  obtain ⟨h1, h2, h3, h4, h5⟩ := R
  exact ⟨e _ _ h1, h2, h3, h4, fun i p hp => e _ _ (h5 i p hp)⟩
theorem RowsX.row {H : Hp} {r : Addr} {ps : List Addr} {n : Nat} {g : Nat → Nat → Int} (R : RowsX H r ps n g) {x : Nat} (hx : x < n) : ∃ p, ps[x]? = some p ∧ atI (ps.map V.ref) (x : Int) = some (.ref p) ∧ H p = some (.lst ((tab n (g x)).map V.int)) := by
  obtain ⟨h1, h2, h3, h4, h5⟩ := R
  have hp : ps[x]? = some ps[x] := List.getElem?_eq_getElem (by omega)
  exact ⟨_, hp, atI_nat (by rw [List.getElem?_map, hp]; rfl), h5 _ _ hp⟩
theorem RowsX.add {H : Hp} {r p : Addr} {ps : List Addr} {n x y : Nat} {g : Nat → Nat → Int} (R : RowsX H r ps n g) (hp : ps[x]? = some p) (c : Int) : RowsX (upd H p (.lst ((tab n (fup (g x) y (g x y + c))).map V.int))) r ps n (fun i j => g i j + if i = x ∧ j = y then c else 0) := by
  obtain ⟨h1, h2, h3, h4, h5⟩ := R
  have pm : p ∈ ps := List.mem_of_getElem? hp
  refine ⟨by rw [upd_ne (Ne.symm (h4 p pm))]; exact h1, h2, h3, h4, fun i q hq => ?_⟩
  by_cases e : q = p
  · subst e
    have hix : i = x := nd_ix h3 hq hp
    subst hix
    rw [upd_same, tab_congr]
    intro j _
    show _ = g i j + if i = i ∧ j = y then c else 0
    unfold fup
    by_cases c2 : j = y
    · subst c2; rw [if_pos rfl, if_pos ⟨rfl, rfl⟩]
    · rw [if_neg c2, if_neg fun z => c2 z.2, Int.add_zero]
  · rw [upd_ne e, h5 i q hq, tab_congr]
    intro j _
    have : i ≠ x := fun z => e (by rw [z, hp] at hq; exact (Option.some.inj hq).symm)
    show _ = g i j + if i = x ∧ j = y then c else 0
    rw [if_neg fun z => this z.1, Int.add_zero]
def TB (rs : List Road) (i j : Nat) : Int := if i = j then deg rs i else - ds rs fun a b => if a = i ∧ b = j then 1 else 0
theorem LA_TB {n : Nat} {rs : List Road} (N : Net n rs) {i j : Nat} (hi : i < n) (hj : j < n) : LA n rs i j = TB rs i j := lap_at1 hi hj N.ok
theorem TB_nil (i j : Nat) : TB [] i j = 0 := by unfold TB; split <;> rfl
theorem TB_snoc (rs : List Road) (r : Road) (h : r.1 ≠ r.2) (i j : Nat) : TB (rs ++ [r]) i j = (((TB rs i j + if i = r.1 ∧ j = r.1 then 1 else 0) + if i = r.2 ∧ j = r.2 then 1 else 0) + if i = r.1 ∧ j = r.2 then -1 else 0) + if i = r.2 ∧ j = r.1 then -1 else 0 := by
  unfold TB
  by_cases c : i = j
  · subst c
    rw [if_pos rfl, if_pos rfl, deg_snoc]
    unfold ind
    by_cases c1 : r.1 = i
    · have c2 : ¬ r.2 = i := fun z => h (c1.trans z.symm)
      simp only [c1, c2, Ne.symm c2, if_true, if_false, and_self, and_false, false_and, true_and, and_true, eq_comm]
      simp [Ne.symm c2, c2]
    · by_cases c2 : r.2 = i
      · simp [c1, c2, Ne.symm c1, eq_comm]
        try omega
      · simp [c1, c2, Ne.symm c1, Ne.symm c2, eq_comm]
  · rw [if_neg c, if_neg c, ds_append]
    simp only [ds]
    rw [if_neg (show ¬ (i = r.1 ∧ j = r.1) from fun z => c (z.1.trans z.2.symm)), if_neg (show ¬ (i = r.2 ∧ j = r.2) from fun z => c (z.1.trans z.2.symm))]
    have e1 : (if r.1 = i ∧ r.2 = j then (1 : Int) else 0) = - if i = r.1 ∧ j = r.2 then -1 else 0 := by
      by_cases z : i = r.1 ∧ j = r.2
      · rw [if_pos z, if_pos ⟨z.1.symm, z.2.symm⟩]; rfl
      · rw [if_neg z, if_neg fun y => z ⟨y.1.symm, y.2.symm⟩]; rfl
    have e2 : (if r.2 = i ∧ r.1 = j then (1 : Int) else 0) = - if i = r.2 ∧ j = r.1 then -1 else 0 := by
      by_cases z : i = r.2 ∧ j = r.1
      · rw [if_pos z, if_pos ⟨z.1.symm, z.2.symm⟩]; rfl
      · rw [if_neg z, if_neg fun y => z ⟨y.1.symm, y.2.symm⟩]; rfl
    rw [e1, e2]
    omega
def sp_table_of (K : PySem.W.Frag) : Sp := fun vs H Q _ => ∃ (n : Nat) (a : Addr) (rs : List Road), vs = [.int n, .ref a] ∧ n ≤ 10 ∧ rs.length ≤ 40 ∧ Net n rs ∧ Dt K H (.ref a) rs ∧ ∀ D ps H2, H D = none → (∀ p ∈ ps, H p = none) → Ex H H2 → RowsX H2 D ps n (TB rs) → Q (.ref D) H2
def sp_how_many (K : PySem.W.Frag) : Sp := fun vs H Q _ => ∃ (n : Nat) (a : Addr) (rs : List Road), vs = [.int n, .ref a] ∧ n ≤ 10 ∧ rs.length ≤ 40 ∧ Net n rs ∧ Dt K H (.ref a) rs ∧ RetV (.int (det n (LA n rs))) H Q
theorem heapAt_same {H : Hp} {n : Nat} {q q' : Addr} {h h' : Nat → Int} (h1 : H q = some (.lst ((tab n h).map V.int))) (h2 : HeapAt H n (.ref q) q' h') : ∀ k, k < n → h k = h' k := by
  obtain ⟨e, k1, _⟩ := h2
  cases e
  rw [h1] at k1
  injection k1 with k1
  injection k1 with k1
  exact tab_inj ((List.map_inj_right fun x y e => by injection e).mp k1)
/-- what is due, asked of things of which some are none -/
theorem ask_due {H : Hp} {n w pl d : Nat} {a b c t : Addr} {rs : List Road} {h g : Nat → Int} {T : List Nat} {m r x y p q : V} {nb xb yb pb : Bool} (hw : w ≤ 13) (hn : n ≤ 10) (hl : rs.length ≤ 40) (N : Net n rs) (hr : RL H a rs)
    (hb : H b = some (.lst ((tab n h).map V.int))) (hgh : Good n h) (hc : H c = some (.lst ((tab n g).map V.int))) (hgg : Good n g) (ht : H t = some (.lst (natV T))) (I : IsTree n rs T) (hp : w = 12 → pl < n) (L : LastOk w n rs h g pl d)
    (hN : if nb = true then ¬ GoodNet H m r else m = .int n ∧ r = .ref a) (hX : if xb = true then ¬ GoodHeap H n x else x = .ref b) (hY : if yb = true then ¬ GoodHeap H n y else y = .ref c)
    (hP : if pb = true then (¬ ∃ i : Nat, p = .int i ∧ i < n) ∧ ¬ GoodTree n rs H q else p = .int pl ∧ q = .ref t) : Ask (fun k => k = dueF nb xb yb pb w d) (dueF nb xb yb pb w d = 6) H w m r x y p q := by
  have D1 : ¬ (2 < w ∧ w < 13) → dueF false xb yb pb w d = dueF false false yb pb w d := fun z => by
    cases xb
    · rfl
    · exact dueF_x0 _ _ _ z
  have D2 : ¬ (7 < w ∧ w < 11) → dueF false false yb pb w d = dueF false false false pb w d := fun z => by
    cases yb
    · rfl
    · exact dueF_y0 _ _ z
  have D3 : ¬ 11 < w → dueF false false false pb w d = d := fun z => by
    cases pb
    · exact dueF_0 _ _
    · exact dueF_p0 _ z
  obtain ⟨L10, L11, L12, L0⟩ := L
  cases nb with
  | true =>
    rw [if_pos rfl] at hN
    exact ⟨fun _ => (dueF_n _ _ _ _ _).symm, fun n' p' rs' z => absurd ⟨n', p', rs', z⟩ hN⟩
  | false =>
    rw [if_neg (by decide)] at hN
    obtain ⟨rfl, rfl⟩ := hN
    refine ⟨fun z => absurd ⟨n, a, rs, rfl, rfl, hr, hn, hl, N⟩ z, fun n' p' rs' z => ?_⟩
    obtain ⟨e1, e2, ⟨t2, k3, k4⟩, _⟩ := z
    have en : n' = n := by injection e1 with e1; omega
    subst en
    cases e2
    obtain ⟨t1, k1, k2⟩ := hr
    rw [k1] at k3
    injection k3 with k3
    injection k3 with k3
    have et : t1 = t2 := (List.map_inj_right fun x y e => by injection e).mp k3
    subst et
    have er := k2.inj k4
    subst er
    have X1 : ∀ {ok : (Nat → Int) → Prop}, 2 < w ∧ w < 13 → (xb = false → ∀ h', (∀ k, k < n' → h k = h' k) → ok h') → askH (fun k => k = dueF false xb yb pb w d) H n' x ok := fun {ok} hw z => by
      cases xb with
      | true =>
        rw [if_pos rfl] at hX
        exact ⟨fun _ => (dueF_x1 _ _ _ hw).symm, fun q' h' y => absurd ⟨q', h', y⟩ hX⟩
      | false =>
        rw [if_neg (by decide)] at hX
        subst hX
        exact ⟨fun y => absurd ⟨b, h, rfl, hb, hgh⟩ y, fun q' h' y => z rfl h' (heapAt_same hb y)⟩
    have Y1 : ∀ {ok : (Nat → Int) → Prop}, xb = false → 7 < w ∧ w < 11 → (yb = false → ∀ h', (∀ k, k < n' → g k = h' k) → ok h') → askH (fun k => k = dueF false xb yb pb w d) H n' y ok := fun {ok} hx hw z => by
      subst hx
      cases yb with
      | true =>
        rw [if_pos rfl] at hY
        exact ⟨fun _ => (dueF_y1 _ _ hw).symm, fun q' h' y => absurd ⟨q', h', y⟩ hY⟩
      | false =>
        rw [if_neg (by decide)] at hY
        subst hY
        exact ⟨fun y => absurd ⟨c, g, rfl, hc, hgg⟩ y, fun q' h' y => z rfl h' (heapAt_same hc y)⟩
    by_cases c1 : w ≤ 2
    · rw [if_pos c1, D1 (by omega), D2 (by omega), D3 (by omega)]
      exact L0 (by omega) (by omega) (by omega)
    rw [if_neg c1]
    by_cases c2 : w ≤ 7
    · rw [if_pos c2]
      refine X1 (by omega) fun hx h' _ => ?_
      subst hx
      rw [D2 (by omega), D3 (by omega)]
      exact L0 (by omega) (by omega) (by omega)
    rw [if_neg c2]
    by_cases c3 : w ≤ 9
    · rw [if_pos c3]
      refine X1 (by omega) fun hx h' _ => Y1 hx (by omega) fun hy g' _ => ?_
      subst hx; subst hy
      rw [D3 (by omega)]
      exact L0 (by omega) (by omega) (by omega)
    rw [if_neg c3]
    by_cases c4 : w = 10
    · rw [if_pos c4]
      refine X1 (by omega) fun hx h' _ => Y1 hx (by omega) fun hy g' eg => ?_
      subst hx; subst hy
      rw [D3 (by omega)]
      have e : (Low n' rs g' ∧ NF n' rs g') ↔ (Low n' rs g ∧ NF n' rs g) := ⟨fun z => ⟨z.1.congr fun k hk => (eg k hk).symm, z.2.congr fun k hk => (eg k hk).symm⟩, fun z => ⟨z.1.congr eg, z.2.congr eg⟩⟩
      exact ⟨fun z => ((L10 c4).2 fun y => z (e.mpr y)).symm, fun z => (L10 c4).1 (e.mp z)⟩
    rw [if_neg c4]
    by_cases c5 : w = 11
    · rw [if_pos c5]
      refine X1 (by omega) fun hx g' eg => ?_
      subst hx
      rw [D2 (by omega), D3 (by omega)]
      have e : (Low n' rs g' ∧ NF n' rs g') ↔ (Low n' rs h ∧ NF n' rs h) := ⟨fun z => ⟨z.1.congr fun k hk => (eg k hk).symm, z.2.congr fun k hk => (eg k hk).symm⟩, fun z => ⟨z.1.congr eg, z.2.congr eg⟩⟩
      exact ⟨fun z => ((L11 c5).2 fun y => z (e.mpr y)).symm, fun z => (L11 c5).1 (e.mp z)⟩
    rw [if_neg c5]
    by_cases c6 : w = 12
    · rw [if_pos c6]
      refine X1 (by omega) fun hx h' eh => ?_
      subst hx
      rw [D2 (by omega)]
      cases pb with
      | true =>
        rw [if_pos rfl] at hP
        exact ⟨fun _ => by rw [dueF_p1 _ (by omega)]; omega, fun i e1 e2 => absurd ⟨i, e1, e2⟩ hP.1⟩
      | false =>
        rw [if_neg (by decide)] at hP
        obtain ⟨rfl, _⟩ := hP
        refine ⟨fun z => absurd ⟨pl, rfl, hp c6⟩ z, fun i e1 e2 => ?_⟩
        have e1 : i = pl := by injection e1 with e1; omega
        subst e1
        rw [dueF_0]
        have := eh i e2
        exact ⟨fun z => ((L12 c6).2 (by omega)).symm, fun z => (L12 c6).1 (by omega)⟩
    rw [if_neg c6, D1 (by omega), D2 (by omega)]
    cases pb with
    | true =>
      rw [if_pos rfl] at hP
      exact ⟨fun _ => by rw [dueF_p1 _ (by omega)]; omega, fun z => absurd z hP.2⟩
    | false =>
      rw [if_neg (by decide)] at hP
      obtain ⟨_, rfl⟩ := hP
      rw [dueF_0]
      exact ⟨fun z => absurd ⟨t, T, rfl, ht, I⟩ z, fun _ => L0 (by omega) (by omega) (by omega)⟩
end Sd
namespace Sd
open PySem PySem.Spec PyProof.Rows L2 Z
open Evl (Ex ex_l ex_t sq_of st_of)
open PySem.W (Datum keyToks keyToksAll)
/-! ### k12: lists of ints in order -/
theorem toks_inj : ∀ (xs ys : List Int), keyToksAll (xs.map Datum.toD) = keyToksAll (ys.map Datum.toD) → xs = ys
  | [], [], _ => rfl
  | [], y :: ys, h => by
    rw [List.map_nil, List.map_cons, keyToksAll, keyToksAll] at h
    injection h with h1 h2
    injection h1 with h1
    omega
  | x :: xs, [], h => by
    rw [List.map_nil, List.map_cons, keyToksAll, keyToksAll] at h
    injection h with h1 h2
    injection h1 with h1
    omega
  | x :: xs, y :: ys, h => by
    have e : ∀ z : Int, keyToks (Datum.toD z) = [.inl z] := fun _ => rfl
    rw [List.map_cons, List.map_cons, keyToksAll, keyToksAll, e, e] at h
    injection h with _ h2
    injection h2 with h3 h4
    injection h3 with h3
    rw [h3, toks_inj xs ys h4]
theorem leL_total : PySem.W.TotalLe leL := PySem.W.sortLe_total _ _ _
theorem leL_anti {x y : List Int} (h : PySem.W.sameRank leL x y = true) : x = y := by
  unfold PySem.W.sameRank leL PySem.W.sortLe at h
  rw [Bool.and_eq_true] at h
  obtain ⟨h1, h2⟩ := h
  have h1 : (PyProof.Rows.listOrd PyProof.Rows.itemOrd).blt (keyToks (Datum.toD y)) (keyToks (Datum.toD x)) = false := by simpa using h1
  have h2 : (PyProof.Rows.listOrd PyProof.Rows.itemOrd).blt (keyToks (Datum.toD x)) (keyToks (Datum.toD y)) = false := by simpa using h2
  have e := (PyProof.Rows.listOrd PyProof.Rows.itemOrd).total _ _ h2 h1
  have ex : ∀ z : List Int, keyToks (Datum.toD z) = keyToksAll (z.map Datum.toD) := fun z => by
    show keyToks (.list (z.map Datum.toD)) = _
    rw [keyToks]
  rw [ex, ex] at e
  exact toks_inj x y e
theorem srtL_perm {l m : List (List Int)} (h : l.Perm m) : srtL l = srtL m := by
  unfold srtL
  refine PySem.W.sort_unique leL_total (PySem.W.sort_pairwise leL_total l) fun c => ?_
  have p : ((l.mergeSort leL).filter (PySem.W.sameRank leL c)).Perm (m.filter (PySem.W.sameRank leL c)) := ((List.mergeSort_perm l leL).trans h).filter _
  have all : ∀ {k : List (List Int)}, k.filter (PySem.W.sameRank leL c) = List.replicate (k.filter (PySem.W.sameRank leL c)).length c := fun {k} => List.eq_replicate_iff.mpr ⟨rfl, fun b hb => (leL_anti (List.mem_filter.mp hb).2).symm⟩
  rw [all, all (k := m), p.length_eq]
/-! ### all heaps at rest -/
def nth (l : List Int) (k : Nat) : Int := l.getD k 0
theorem nth_tab {n k : Nat} (f : Nat → Int) (h : k < n) : nth (tab n f) k = f k := by
  unfold nth
  rw [List.getD_eq_getElem?_getD, tab_get f h]; rfl
theorem tab_nth {n : Nat} {l : List Int} (h : l.length = n) : tab n (nth l) = l := by
  subst h
  exact (tab_of l).symm
def boxT : Nat → (Nat → Int) → List (List Int)
  | 0, _ => [[]]
  | n + 1, f => (boxT n f).flatMap fun h => (List.range (f n).toNat).map fun (g : Nat) => h ++ [(g : Int)]
theorem boxT_mem {f : Nat → Int} : ∀ {n : Nat} {l : List Int}, l ∈ boxT n f ↔ l.length = n ∧ ∀ k, k < n → 0 ≤ nth l k ∧ nth l k < f k
  | 0, l => by
    show l ∈ [[]] ↔ _
    rw [List.mem_singleton]
    constructor
    · rintro rfl
      exact ⟨rfl, fun k hk => absurd hk (Nat.not_lt_zero k)⟩
    · rintro ⟨h, _⟩
      exact List.length_eq_zero_iff.mp h
  | n + 1, l => by
    show l ∈ List.flatMap _ (boxT n f) ↔ _
    rw [List.mem_flatMap]
    have low : ∀ {h : List Int} {g : Int} {k : Nat}, h.length = n → k < n → nth (h ++ [g]) k = nth h k := fun {h g k} hl hk => by
      unfold nth
      rw [List.getD_eq_getElem?_getD, List.getD_eq_getElem?_getD, List.getElem?_append_left (by omega)]
    have last : ∀ {h : List Int} {g : Int}, h.length = n → nth (h ++ [g]) n = g := fun {h g} hl => by
      unfold nth
      rw [List.getD_eq_getElem?_getD, List.getElem?_append_right (by omega), hl, Nat.sub_self]; rfl
    constructor
    · rintro ⟨h, hh, hl⟩
      obtain ⟨g, hg, rfl⟩ := List.mem_map.mp hl
      have hg := List.mem_range.mp hg
      obtain ⟨h1, h2⟩ := boxT_mem.mp hh
      refine ⟨by rw [List.length_append, h1]; rfl, fun k hk => ?_⟩
      by_cases c : k < n
      · rw [low h1 c]; exact h2 k c
      · rw [show k = n by omega, last h1]; omega
    · rintro ⟨h1, h2⟩
      rcases List.eq_nil_or_concat l with rfl | ⟨L, b, rfl⟩
      · cases h1
      · rw [List.concat_eq_append] at *
        have hL : L.length = n := by rw [List.length_append, List.length_singleton] at h1; omega
        have hb := h2 n (by omega)
        rw [last hL] at hb
        refine ⟨L, boxT_mem.mpr ⟨hL, fun k hk => by have := h2 k (by omega); rw [low hL hk] at this; exact this⟩, List.mem_map.mpr ⟨b.toNat, List.mem_range.mpr (by omega), ?_⟩⟩
        rw [Int.toNat_of_nonneg hb.1]
theorem boxT_nd (f : Nat → Int) : ∀ n, (boxT n f).Nodup
  | 0 => by simp [boxT]
  | n + 1 => by
    have ih := boxT_nd f n
    show (List.flatMap _ (boxT n f)).Nodup
    refine List.pairwise_flatMap.mpr ⟨fun h _ => nd_map (fun a b e => ?_) List.nodup_range, ih.imp fun {a b} hab x hx y hy e => ?_⟩
    · have := List.append_cancel_left e
      injection this with this _
      omega
    · obtain ⟨g, _, rfl⟩ := List.mem_map.mp hx
      obtain ⟨g', _, rfl⟩ := List.mem_map.mp hy
      exact hab (List.append_inj_left' e rfl)
def prodT (f : Nat → Int) : Nat → Int
  | 0 => 1
  | n + 1 => prodT f n * f n
theorem boxT_len {f : Nat → Int} : ∀ n, (∀ k, k < n → 0 ≤ f k) → ((boxT n f).length : Int) = prodT f n
  | 0, _ => rfl
  | n + 1, h => by
    show ((List.flatMap _ (boxT n f)).length : Int) = prodT f n * f n
    rw [← boxT_len n fun k hk => h k (by omega)]
    have e : ∀ l : List (List Int), ((l.flatMap fun h => (List.range (f n).toNat).map fun (g : Nat) => h ++ [(g : Int)]).length : Int) = l.length * f n := fun l => by
      induction l with
      | nil => simp
      | cons x l ih =>
        rw [List.flatMap_cons, List.length_append, Int.natCast_add, ih, List.length_map, List.length_range, List.length_cons, Int.natCast_add, Int.add_mul]
        have := h n (by omega)
        rw [Int.toNat_of_nonneg this]
        show _ = _ + 1 * f n
        omega
    exact e _
/-! ### heaps and trees, one to one -/
section
open Classical
variable {n : Nat} {rs : List Road}
noncomputable def agL (n : Nat) (rs : List Road) (l : List Int) : Bool := decide (Low n rs (nth l) ∧ NF n rs (nth l))
noncomputable def okT (n : Nat) (rs : List Road) (T : List Nat) : Bool := decide (Cn n rs T)
noncomputable def heapsH (n : Nat) (rs : List Road) : List (List Int) := (boxT n (deg rs)).filter (agL n rs)
noncomputable def treesH (n : Nat) (rs : List Road) : List (List Nat) := ((setsF n rs.length).filter fun T => decide (T.length = n)).filter (okT n rs)
def rise (m : Nat) (L : List Nat) : List Nat := (List.range m).filter fun j => decide (j ∈ L)
theorem rise_mem {m : Nat} {L : List Nat} (h : ∀ j ∈ L, j < m) (j : Nat) : j ∈ rise m L ↔ j ∈ L := by
  unfold rise
  rw [List.mem_filter, List.mem_range, decide_eq_true_iff]
  exact ⟨fun z => z.2, fun z => ⟨h j z, z⟩⟩
theorem rise_lt (m : Nat) (L : List Nat) : (rise m L).Pairwise (· < ·) := List.Pairwise.filter _ List.pairwise_lt_range
def trOf (n : Nat) (rs : List Road) (l : List Int) : List Nat := rise rs.length (treeRun n rs (nth l)).tree
def hpOf (n : Nat) (rs : List Road) (T : List Nat) : List Int := tab n (heapRun n rs T).left
theorem tree_perm {T l : List Nat} (I : IsTree n rs T) (hp : l.Pairwise (· < ·)) (hm : ∀ j, j ∈ l ↔ j ∈ T) : IsTree n rs l := by
  have nd : l.Nodup := hp.imp fun z => by omega
  refine ⟨nd, ?_, fun j hj => I.lt j ((hm j).mp hj), fun S h1 h2 => I.conn S h1 fun j hj => h2 j ((hm j).mpr hj)⟩
  have := List.Nodup.length_le_of_subset nd fun j hj => (hm j).mp hj
  have := List.Nodup.length_le_of_subset I.nd fun j hj => (hm j).mpr hj
  have := I.len
  omega
theorem heapsH_mem (N : Net n rs) {l : List Int} : l ∈ heapsH n rs ↔ l.length = n ∧ Low n rs (nth l) ∧ NF n rs (nth l) := by
  unfold heapsH agL
  rw [List.mem_filter, boxT_mem, decide_eq_true_iff]
  constructor
  · exact fun z => ⟨z.1.1, z.2⟩
  · exact fun z => ⟨⟨z.1, fun k hk => ⟨z.2.2.nn N.ok k hk, z.2.1 k hk⟩⟩, z.2⟩
theorem treesH_mem {T : List Nat} : T ∈ treesH n rs ↔ T.Pairwise (· < ·) ∧ IsTree n rs T := by
  unfold treesH okT
  rw [List.mem_filter, List.mem_filter, setsF_mem, decide_eq_true_iff, decide_eq_true_iff]
  constructor
  · rintro ⟨⟨⟨h1, h2, _⟩, h3⟩, h4⟩
    exact ⟨h1, h1.imp (fun z => by omega), h3, h2, h4⟩
  · rintro ⟨h1, I⟩
    exact ⟨⟨⟨h1, I.lt, Nat.le_of_eq I.len⟩, I.len⟩, I.conn⟩
theorem heapsH_nd (n : Nat) (rs : List Road) : (heapsH n rs).Nodup := nd_filter _ (boxT_nd _ _)
theorem treesH_nd (n : Nat) (rs : List Road) : (treesH n rs).Nodup := nd_filter _ (nd_filter _ (setsF_nd _ _))
theorem perm_of {α : Type} [DecidableEq α] {l m : List α} (h1 : l.Nodup) (h2 : m.Nodup) (h : ∀ a, a ∈ l ↔ a ∈ m) : l.Perm m := by
  refine List.perm_iff_count.mpr fun a => ?_
  rw [h1.count, h2.count]
  by_cases c : a ∈ l
  · rw [if_pos c, if_pos ((h a).mp c)]
  · rw [if_neg c, if_neg fun z => c ((h a).mpr z)]
theorem trOf_mem (N : Net n rs) {l : List Int} (h : l ∈ heapsH n rs) : (trOf n rs l).Pairwise (· < ·) ∧ IsTree n rs (trOf n rs l) ∧ (∀ j, j ∈ trOf n rs l ↔ j ∈ (treeRun n rs (nth l)).tree) ∧ hpOf n rs (trOf n rs l) = l := by
  obtain ⟨hl, L, F⟩ := (heapsH_mem N).mp h
  obtain ⟨I, h1, h2⟩ := tree_law N L F
  have m := rise_mem (L := (treeRun n rs (nth l)).tree) I.lt
  refine ⟨rise_lt _ _, tree_perm I (rise_lt _ _) m, m, ?_⟩
  unfold hpOf
  have e : heapRun n rs (trOf n rs l) = treeRun n rs (nth l) := h2 _ m
  rw [e, tab_congr h1, tab_nth hl]
theorem hpOf_mem (N : Net n rs) {T : List Nat} (h : T ∈ treesH n rs) : hpOf n rs T ∈ heapsH n rs ∧ trOf n rs (hpOf n rs T) = T := by
  obtain ⟨p, I⟩ := treesH_mem.mp h
  obtain ⟨L, F, _, m, e⟩ := heap_law N.ok I
  have en : ∀ k, k < n → nth (hpOf n rs T) k = (heapRun n rs T).left k := fun k hk => nth_tab _ hk
  have es : ∀ k, k < n → (heapRun n rs T).left k = nth (hpOf n rs T) k := fun k hk => (en k hk).symm
  have hm : hpOf n rs T ∈ heapsH n rs := (heapsH_mem N).mpr ⟨tab_len _ _, L.congr es, F.congr es⟩
  refine ⟨hm, ?_⟩
  obtain ⟨p2, _, m2, _⟩ := trOf_mem N hm
  refine rising_eq p2 p fun j => ?_
  rw [m2, e _ en, m]
theorem heaps_trees (N : Net n rs) : ((heapsH n rs).map (trOf n rs)).Perm (treesH n rs) := by
  refine perm_of (List.pairwise_map.mpr ((heapsH_nd n rs).imp_of_mem fun {a b} ha hb z y => z (((trOf_mem N ha).2.2.2.symm.trans (congrArg (hpOf n rs) y)).trans (trOf_mem N hb).2.2.2))) (treesH_nd n rs) fun T => ?_
  · rw [List.mem_map]
    constructor
    · rintro ⟨l, hl, rfl⟩
      obtain ⟨h1, h2, _⟩ := trOf_mem N hl
      exact treesH_mem.mpr ⟨h1, h2⟩
    · intro hT
      obtain ⟨h1, h2⟩ := hpOf_mem N hT
      exact ⟨_, h1, h2⟩
theorem trees_heaps (N : Net n rs) : ((treesH n rs).map (hpOf n rs)).Perm (heapsH n rs) := by
  refine perm_of (List.pairwise_map.mpr ((treesH_nd n rs).imp_of_mem fun {a b} ha hb z y => z (((hpOf_mem N ha).2.symm.trans (congrArg (trOf n rs) y)).trans (hpOf_mem N hb).2))) (heapsH_nd n rs) fun l => ?_
  · rw [List.mem_map]
    constructor
    · rintro ⟨T, hT, rfl⟩
      exact (hpOf_mem N hT).1
    · intro hl
      obtain ⟨h1, h2, _, h3⟩ := trOf_mem N hl
      exact ⟨_, treesH_mem.mpr ⟨h1, h2⟩, h3⟩
theorem heaps_len (N : Net n rs) : (heapsH n rs).length = (treesH n rs).length := by
  rw [← (heaps_trees N).length_eq, List.length_map]
theorem trees_cnt (n : Nat) (rs : List Road) : (treesH n rs).length = cnt n (lenP n (okT n rs)) rs.length := by
  unfold treesH cnt
  rw [List.filter_filter]
  congr 1
  refine List.filter_congr fun T _ => ?_
  unfold lenP
  exact Bool.and_comm _ _
end
/-! ### as many trees as the table tells, up to three places -/
open Classical in
theorem okT_iff (n : Nat) (rs : List Road) (T : List Nat) : okT n rs T = true ↔ Cn n rs T := by
  unfold okT
  exact decide_eq_true_iff
theorem take_snoc {rs : List Road} {m : Nat} (h : m < rs.length) : rs.take (m + 1) = rs.take m ++ [rs.getD m (0, 0)] := by
  rw [List.take_succ, rdT_at h]; rfl
def Q3 (rs : List Road) (x : Nat → Int) : Prop := TB rs 0 0 = x 0 + x 1 + x 2 ∧ TB rs 0 1 = - x 0 ∧ TB rs 0 2 = - x 1 ∧ TB rs 1 0 = - x 0 ∧ TB rs 1 1 = x 0 + x 3 + x 4 ∧ TB rs 1 2 = - x 3 ∧ TB rs 2 0 = - x 1 ∧ TB rs 2 1 = - x 3 ∧ TB rs 2 2 = x 1 + x 3 + x 5
def Q2 (rs : List Road) (x : Nat → Int) : Prop := TB rs 0 0 = x 0 + x 1 ∧ TB rs 0 1 = - x 0 ∧ TB rs 1 0 = - x 0 ∧ TB rs 1 1 = x 0 + x 2
def incI (x : Nat → Int) (k : Nat) : Nat → Int := fun u => x u + if k = u then 1 else 0
theorem Q3.snoc {rs : List Road} {x : Nat → Int} (h : Q3 rs x) : ∀ r ∈ rds3, Q3 (rs ++ [r]) (incI x (ty3 r)) := by
  obtain ⟨i1, i2, i3, i4, i5, i6, i7, i8, i9⟩ := h
  intro r hm
  have ne : r.1 ≠ r.2 := (by decide : ∀ r ∈ rds3, r.1 ≠ r.2) r hm
  unfold Q3
  rw [TB_snoc _ _ ne, TB_snoc _ _ ne, TB_snoc _ _ ne, TB_snoc _ _ ne, TB_snoc _ _ ne, TB_snoc _ _ ne, TB_snoc _ _ ne, TB_snoc _ _ ne, TB_snoc _ _ ne, i1, i2, i3, i4, i5, i6, i7, i8, i9]
  clear i1 i2 i3 i4 i5 i6 i7 i8 i9
  simp only [rds3, List.mem_cons, List.not_mem_nil, or_false] at hm
  rcases hm with rfl | rfl | rfl | rfl | rfl | rfl | rfl | rfl | rfl | rfl | rfl | rfl <;> simp [ty3, incI] <;> omega
theorem Q2.snoc {rs : List Road} {x : Nat → Int} (h : Q2 rs x) : ∀ r ∈ rds2, Q2 (rs ++ [r]) (incI x (ty2 r)) := by
  obtain ⟨i1, i2, i3, i4⟩ := h
  intro r hm
  have ne : r.1 ≠ r.2 := (by decide : ∀ r ∈ rds2, r.1 ≠ r.2) r hm
  unfold Q2
  rw [TB_snoc _ _ ne, TB_snoc _ _ ne, TB_snoc _ _ ne, TB_snoc _ _ ne, i1, i2, i3, i4]
  clear i1 i2 i3 i4
  simp only [rds2, List.mem_cons, List.not_mem_nil, or_false] at hm
  rcases hm with rfl | rfl | rfl | rfl | rfl | rfl <;> simp [ty2, incI] <;> omega
def muI (κ : Nat → Nat) (m u : Nat) : Int := (mu κ m u : Nat)
theorem muI_inc (κ : Nat → Nat) (m : Nat) : muI κ (m + 1) = incI (muI κ m) (κ m) := by
  funext u
  unfold muI incI
  show ((mu κ m u + (if κ m = u then 1 else 0) : Nat) : Int) = _
  by_cases c : κ m = u
  · rw [if_pos c, if_pos c]; rfl
  · rw [if_neg c, if_neg c]; rfl
theorem TB_three {rs : List Road} (ok : ∀ r ∈ rs, r.1 ≤ 3 ∧ r.2 ≤ 3 ∧ r.1 ≠ r.2) : ∀ m, m ≤ rs.length → Q3 (rs.take m) (muI (fun j => ty3 (rs.getD j (0, 0))) m)
  | 0, _ => ⟨rfl, rfl, rfl, rfl, rfl, rfl, rfl, rfl, rfl⟩
  | m + 1, h => by
    rw [take_snoc (by omega), muI_inc]
    exact (TB_three ok m (by omega)).snoc _ (rds3_mem (ok _ (List.mem_of_getElem? (rdT_at (show m < rs.length by omega)))))
theorem TB_two {rs : List Road} (ok : ∀ r ∈ rs, r.1 ≤ 2 ∧ r.2 ≤ 2 ∧ r.1 ≠ r.2) : ∀ m, m ≤ rs.length → Q2 (rs.take m) (muI (fun j => ty2 (rs.getD j (0, 0))) m)
  | 0, _ => ⟨rfl, rfl, rfl, rfl⟩
  | m + 1, h => by
    rw [take_snoc (by omega), muI_inc]
    exact (TB_two ok m (by omega)).snoc _ (rds2_mem (ok _ (List.mem_of_getElem? (rdT_at (show m < rs.length by omega)))))
theorem TB_one {rs : List Road} (ok : ∀ r ∈ rs, r.1 ≤ 1 ∧ r.2 ≤ 1 ∧ r.1 ≠ r.2) : ∀ m, m ≤ rs.length → TB (rs.take m) 0 0 = m
  | 0, _ => rfl
  | m + 1, h => by
    have ih := TB_one ok m (by omega)
    have hr := ok (rs.getD m (0, 0)) (List.mem_of_getElem? (rdT_at (show m < rs.length by omega)))
    rw [take_snoc (by omega), TB_snoc _ _ hr.2.2, ih]
    revert hr
    generalize rs.getD m (0, 0) = r
    intro hr
    obtain ⟨a, b⟩ := r
    obtain ⟨h1, h2, h3⟩ := hr
    have h1 : a ≤ 1 := h1
    have h2 : b ≤ 1 := h2
    have h3 : a ≠ b := h3
    match a, b, h1, h2, h3 with
    | 0, 1, _, _, _ | 1, 0, _, _, _ => simp
    | 0, 0, _, _, h | 1, 1, _, _, h => exact absurd rfl h
theorem setsF_in {n m : Nat} {T : List Nat} (h : T ∈ setsF n m) : ∀ j ∈ T, j < m := (setsF_mem.mp h).2.1
theorem det_one (A : Nat → Nat → Int) : det 1 A = A 0 0 := by simp [det, sm, sgn]
theorem det_two' (A : Nat → Nat → Int) : det 2 A = A 0 0 * A 1 1 - A 0 1 * A 1 0 := by
  simp [det, sm, sgn, skp]
  grind
theorem det_three (A : Nat → Nat → Int) : det 3 A = A 0 0 * (A 1 1 * A 2 2 - A 1 2 * A 2 1) - A 0 1 * (A 1 0 * A 2 2 - A 1 2 * A 2 0) + A 0 2 * (A 1 0 * A 2 1 - A 1 1 * A 2 0) := by
  simp [det, sm, sgn, skp]
  grind
theorem trees_det0 {rs : List Road} (N : Net 0 rs) : ((treesH 0 rs).length : Int) = det 0 (LA 0 rs) := by
  rw [trees_cnt, cnt_zero, if_pos ((okT_iff _ _ _).mpr fun S h _ k hk => by rw [show k = 0 by omega]; exact h)]
  rfl
theorem trees_det1 {rs : List Road} (N : Net 1 rs) : ((treesH 1 rs).length : Int) = det 1 (LA 1 rs) := by
  have h := TB_one N.ok rs.length (Nat.le_refl _)
  rw [List.take_length] at h
  have e : cnt 1 (lenP 1 (okT 1 rs)) rs.length = cnt 1 (lenP 1 fun _ => true) rs.length := cnt_len fun T hT hl => by
    match T, hl, hT with
    | [j], _, hT => exact (okT_iff _ _ _).mpr (cn_one N.ok (setsF_in hT j (by simp)))
  rw [trees_cnt, e, cnt_C1 (Nat.le_refl _), det_one, LA_TB N (by omega) (by omega), h]
theorem poly2 (a b c : Nat) : ((a * b + a * c + b * c : Nat) : Int) = ((a : Int) + b) * ((a : Int) + c) - (-(a : Int)) * (-(a : Int)) := by
  push_cast
  grind
theorem trees_det2 {rs : List Road} (N : Net 2 rs) : ((treesH 2 rs).length : Int) = det 2 (LA 2 rs) := by
  have km : ∀ j, j < rs.length → rs.getD j (0, 0) ∈ rds2 := fun j hj => rds2_mem (N.ok _ (List.mem_of_getElem? (rdT_at hj)))
  have h := TB_two N.ok rs.length (Nat.le_refl _)
  rw [List.take_length] at h
  obtain ⟨h1, h2, h3, h4⟩ := h
  have e : cnt 2 (lenP 2 (okT 2 rs)) rs.length = cnt 2 (lenP 2 (B2 fun j => ty2 (rs.getD j (0, 0)))) rs.length := cnt_len fun T hT hl => by
    match T, hl, hT with
    | [i, j], _, hT =>
      have hi := setsF_in hT i (by simp)
      have hj := setsF_in hT j (by simp)
      have e := cn_two (T := [i, j]) N.ok fun k hk => setsF_in hT k hk
      rw [Bool.eq_iff_iff, okT_iff, e]
      show cj2 [rs.getD i (0, 0), rs.getD j (0, 0)] = true ↔ _
      rw [cj2_tab _ (km i hi) _ (km j hj)]
      exact Iff.rfl
  rw [trees_cnt, e, cnt_B2 (Nat.le_refl _) _ fun j hj => ty2_lt _ (km j hj), det_two', LA_TB N (by omega) (by omega), LA_TB N (by omega) (by omega), LA_TB N (by omega) (by omega), LA_TB N (by omega) (by omega), h1, h2, h3, h4]
  exact poly2 _ _ _
theorem poly3 (a b c d e f : Nat) : ((a * b * c + a * b * e + a * b * f + a * c * d + a * c * f + a * d * e + a * d * f + a * e * f + b * c * d + b * c * e + b * d * e + b * d * f + b * e * f + c * d * e + c * d * f + c * e * f : Nat) : Int)
    = ((a : Int) + b + c) * (((a : Int) + d + e) * ((b : Int) + d + f) - (-(d : Int)) * (-(d : Int))) - (-(a : Int)) * ((-(a : Int)) * ((b : Int) + d + f) - (-(d : Int)) * (-(b : Int))) + (-(b : Int)) * ((-(a : Int)) * (-(d : Int)) - ((a : Int) + d + e) * (-(b : Int))) := by
  push_cast
  grind
theorem trees_det3 {rs : List Road} (N : Net 3 rs) : ((treesH 3 rs).length : Int) = det 3 (LA 3 rs) := by
  have km : ∀ j, j < rs.length → rs.getD j (0, 0) ∈ rds3 := fun j hj => rds3_mem (N.ok _ (List.mem_of_getElem? (rdT_at hj)))
  have h := TB_three N.ok rs.length (Nat.le_refl _)
  rw [List.take_length] at h
  obtain ⟨h1, h2, h3, h4, h5, h6, h7, h8, h9⟩ := h
  have e : cnt 3 (lenP 3 (okT 3 rs)) rs.length = cnt 3 (lenP 3 (A3 fun j => ty3 (rs.getD j (0, 0)))) rs.length := cnt_len fun T hT hl => by
    match T, hl, hT with
    | [i, j, k], _, hT =>
      have hi := setsF_in hT i (by simp)
      have hj := setsF_in hT j (by simp)
      have hk := setsF_in hT k (by simp)
      have e := cn_three (T := [i, j, k]) N.ok fun k hk => setsF_in hT k hk
      rw [Bool.eq_iff_iff, okT_iff, e]
      show cj3 [rs.getD i (0, 0), rs.getD j (0, 0), rs.getD k (0, 0)] = true ↔ _
      rw [cj3_tab _ (km i hi) _ (km j hj) _ (km k hk)]
      exact Iff.rfl
  have t : ∀ i j, i < 3 → j < 3 → LA 3 rs i j = TB rs i j := fun i j hi hj => LA_TB N hi hj
  rw [trees_cnt, e, cnt_A3 (Nat.le_refl _) _ fun j hj => ty3_lt _ (km j hj), det_three, t 0 0 (by omega) (by omega), t 0 1 (by omega) (by omega), t 0 2 (by omega) (by omega), t 1 0 (by omega) (by omega), t 1 1 (by omega) (by omega), t 1 2 (by omega) (by omega), t 2 0 (by omega) (by omega), t 2 1 (by omega) (by omega), t 2 2 (by omega) (by omega), h1, h2, h3, h4, h5, h6, h7, h8, h9]
  exact poly3 _ _ _ _ _ _
theorem trees_det {n : Nat} {rs : List Road} (N : Net n rs) (hn : n ≤ 3) : ((treesH n rs).length : Int) = det n (LA n rs) := by
  match n, hn, N with
  | 0, _, N => exact trees_det0 N
  | 1, _, N => exact trees_det1 N
  | 2, _, N => exact trees_det2 N
  | 3, _, N => exact trees_det3 N
/-! ### lists of lists of one's own -/
def OwnL (H : Hp) : List Addr → List (List Int) → Prop
  | [], [] => True
  | q :: ps, x :: xs => H q = some (.lst (x.map V.int)) ∧ OwnL H ps xs
  | _, _ => False
theorem OwnL.len {H : Hp} : ∀ {ps : List Addr} {xs : List (List Int)}, OwnL H ps xs → ps.length = xs.length
  | [], [], _ => rfl
  | _ :: ps, _ :: xs, h => by rw [List.length_cons, List.length_cons, OwnL.len (ps := ps) (xs := xs) h.2]
  | [], _ :: _, h => h.elim
  | _ :: _, [], h => h.elim
theorem OwnL.keep {H H' : Hp} : ∀ {ps : List Addr} {xs : List (List Int)}, (∀ q ∈ ps, ∀ o, H q = some o → H' q = some o) → OwnL H ps xs → OwnL H' ps xs
  | [], [], _, _ => trivial
  | q :: ps, x :: xs, k, h => ⟨k q List.mem_cons_self _ h.1, OwnL.keep (fun y hy => k y (List.mem_cons_of_mem _ hy)) h.2⟩
  | [], _ :: _, _, h => h.elim
  | _ :: _, [], _, h => h.elim
theorem OwnL.ex {H H' : Hp} {ps : List Addr} {xs : List (List Int)} (e : Ex H H') (h : OwnL H ps xs) : OwnL H' ps xs := h.keep fun q _ o => e q o
theorem OwnL.snoc {H : Hp} {q : Addr} {x : List Int} (hq : H q = some (.lst (x.map V.int))) : ∀ {ps : List Addr} {xs : List (List Int)}, OwnL H ps xs → OwnL H (ps ++ [q]) (xs ++ [x])
  | [], [], _ => ⟨hq, trivial⟩
  | _ :: ps, _ :: xs, h => ⟨h.1, OwnL.snoc hq (ps := ps) (xs := xs) h.2⟩
  | [], _ :: _, h => h.elim
  | _ :: _, [], h => h.elim
theorem OwnL.app {H : Hp} {qs : List Addr} {ys : List (List Int)} (k : OwnL H qs ys) : ∀ {ps : List Addr} {xs : List (List Int)}, OwnL H ps xs → OwnL H (ps ++ qs) (xs ++ ys)
  | [], [], _ => k
  | _ :: ps, _ :: xs, h => ⟨h.1, OwnL.app k (ps := ps) (xs := xs) h.2⟩
  | [], _ :: _, h => h.elim
  | _ :: _, [], h => h.elim
theorem OwnL.at {H : Hp} : ∀ {ps : List Addr} {xs : List (List Int)} {i : Nat} {x : List Int}, OwnL H ps xs → xs[i]? = some x → ∃ q, ps[i]? = some q ∧ H q = some (.lst (x.map V.int))
  | [], [], _, _, _, e => by simp at e
  | [], _ :: _, _, _, h, _ => h.elim
  | _ :: _, [], _, _, h, _ => h.elim
  | q :: ps, y :: xs, 0, x, h, e => by
    have : y = x := by simpa using e
    subst this
    exact ⟨q, rfl, h.1⟩
  | q :: ps, y :: xs, i + 1, x, h, e => by
    obtain ⟨q', h1, h2⟩ := OwnL.at (ps := ps) (xs := xs) (i := i) h.2 (by simpa using e)
    exact ⟨q', by simpa using h1, h2⟩
theorem OwnL.all {K : PySem.W.Frag} {H : Hp} : ∀ {ps : List Addr} {xs : List (List Int)}, OwnL H ps xs → DtAll K H (ps.map V.ref) xs
  | [], [], _ => da_nil
  | _ :: ps, _ :: xs, h => da_cons (dt_intsH h.1) (OwnL.all (ps := ps) (xs := xs) h.2)
  | [], _ :: _, h => h.elim
  | _ :: _, [], h => h.elim
def LLo (H : Hp) (p : Addr) (xs : List (List Int)) : Prop := ∃ ps : List Addr, H p = some (.lst (ps.map V.ref)) ∧ OwnL H ps xs
theorem LLo.ex {H H' : Hp} {p : Addr} {xs : List (List Int)} (e : Ex H H') (h : LLo H p xs) : LLo H' p xs := by
  obtain ⟨ps, h1, h2⟩ := h
  exact ⟨ps, e _ _ h1, h2.ex e⟩
theorem LLo.dt {K : PySem.W.Frag} {H : Hp} {p : Addr} {xs : List (List Int)} (h : LLo H p xs) : Dt K H (.ref p) xs := by
  obtain ⟨ps, h1, h2⟩ := h
  exact dt_lst (sq_of h1) h2.all
section
variable {K : PySem.W.Frag} {σ : L2.St} {H : Hp} {QD : Addr → Hp → Prop} {te : L2.TE} {tt : L2.TT} {g : L2.TG} {vs : List Nat}
/-- a comprehension that picks, and makes a new list of each -/
theorem z_lcO {α : Type} [DecidableEq α] [Datum α] {Hb : Hp} {a : Addr} {l : List α} (p : α → Bool) (f : α → List Int) (hx : Dt K Hb (.ref a) l) (h0 : Ex Hb H) (hl : l.length ≤ 90000)
    (ht : ∀ x v H' (R : Bool → Hp → Prop), x ∈ l → Dt K Hb v x → Ex H H' → (∀ H4, Ex H' H4 → R (p x) H4) → g v (wipe σ vs) H' fun σ2 H2 => wipe σ2 vs = wipe σ vs ∧ tt σ2 H2 R)
    (he : ∀ x v H' (R : VK), x ∈ l → Dt K Hb v x → Ex H H' → (∀ y H4, H' y = none → Ex H' H4 → H4 y = some (.lst ((f x).map V.int)) → R (.ref y) H4) → g v (wipe σ vs) H' fun σ2 H2 => te σ2 H2 R)
    (q : ∀ D H2, H D = none → Ex H H2 → LLo H2 D ((l.filter p).map f) → QD D H2) (hg : ∃ s, g = gName s) :
    ∃ a', V.ref a = V.ref a' ∧ (∃ vs, SqL K H a' vs) ∧ ∀ D, H D = none → ∃ W : Nat → Nat → Hp → Prop, (∃ m, W 0 m (upd H D (.lst []))) ∧ ∀ i m H, W i m H →
      ((Itl K a').stop i H ∧ QD D H) ∨ ((Itl K a').go i H ∧ ∃ Nx : Hp → Prop, (∀ H', Nx H' → ∃ m', m' < m ∧ W (i + 1) m' H') ∧ ∀ x H', (Itl K a').yld i H x H' → g x (wipe σ vs) H' fun σ2 H2 => wipe σ2 vs = wipe σ vs ∧ tt σ2 H2 fun b H3 =>
        if b = true then te σ2 H3 fun y H4 => ∃ acc, H4 D = some (.lst acc) ∧ acc.length < sizeLine ∧ Nx (upd H4 D (.lst (acc ++ [y]))) else Nx H3) := by
  obtain ⟨s, rfl⟩ := hg
  refine z_lcloop (α := α) (Hb := Hb) hx h0 fun D hD => ⟨fun pre H' => Ex H H' ∧ pre.length ≤ l.length ∧ ∃ ps : List Addr, H' D = some (.lst (ps.map V.ref)) ∧ (∀ q ∈ ps, q ≠ D) ∧ OwnL H' ps ((pre.filter p).map f), ⟨Ex.new hD, Nat.zero_le _, [], upd_same, fun q hq => (by cases hq), trivial⟩, fun _ _ z => h0.trans z.1, ?_, ?_⟩
  · rintro pre y post v H' er hv ⟨e, hl2, ps, hd, hne, ho⟩
    have hm : y ∈ l := by rw [er]; simp
    have hl3 : (pre ++ [y]).length ≤ l.length := by rw [er, List.length_append, List.length_append]; simp only [List.length_cons, List.length_nil]; omega
    have hfl := List.length_filter_le p pre
    have hol := ho.len
    rw [List.length_map] at hol
    refine ht y v H' _ hm hv e fun H4 e4 => ?_
    cases hp : p y with
    | true =>
      refine he y v H4 _ hm hv (e.trans e4) fun z H5 nz e5 hz => ?_
      have hd5 := (e4.trans e5) _ _ hd
      have nzD : z ≠ D := fun w => by rw [w, e4 _ _ hd] at nz; cases nz
      refine ⟨_, hd5, by rw [List.length_map]; exact szl _ (by omega), ex_mut ((e.trans e4).trans e5) hD, hl3, ps ++ [z], by rw [upd_same, List.map_append]; rfl, fun w hw => ?_, ?_⟩
      · rcases List.mem_append.mp hw with w1 | w1
        · exact hne w w1
        · rw [List.mem_singleton.mp w1]; exact nzD
      · rw [List.filter_append, List.map_append]
        have e1 : [y].filter p = [y] := by rw [List.filter_cons, if_pos hp]; rfl
        rw [e1]
        refine OwnL.snoc (by rw [upd_ne nzD]; exact hz) ((ho.ex (e4.trans e5)).keep fun w hw o h => ?_)
        rw [upd_ne (hne w hw)]; exact h
    | false =>
      refine iteF ⟨e.trans e4, hl3, ps, e4 _ _ hd, hne, ?_⟩
      rw [List.filter_append]
      have e1 : [y].filter p = [] := by rw [List.filter_cons, if_neg (by rw [hp]; decide)]; rfl
      rw [e1, List.append_nil]
      exact ho.ex e4
  · rintro H' ⟨e, _, ps, hd, _, ho⟩
    exact q D H' hD e ⟨ps, hd, ho⟩
/-- the same over a list of lists of one's own -/
theorem z_lcO2 {α : Type} {Hb : Hp} {a : Addr} {l : List α} (F : α → List Int) (p : α → Bool) (f : α → List Int) (hx : LLo Hb a (l.map F)) (h0 : Ex Hb H) (hl : l.length ≤ 90000)
    (ht : ∀ x r H' (R : Bool → Hp → Prop), x ∈ l → H' r = some (.lst ((F x).map V.int)) → Ex H H' → (∀ H4, Ex H' H4 → R (p x) H4) → g (.ref r) (wipe σ vs) H' fun σ2 H2 => wipe σ2 vs = wipe σ vs ∧ tt σ2 H2 R)
    (he : ∀ x r H' (R : VK), x ∈ l → H' r = some (.lst ((F x).map V.int)) → Ex H H' → (∀ y H4, H' y = none → Ex H' H4 → H4 y = some (.lst ((f x).map V.int)) → R (.ref y) H4) → g (.ref r) (wipe σ vs) H' fun σ2 H2 => te σ2 H2 R)
    (q : ∀ D H2, H D = none → Ex H H2 → LLo H2 D ((l.filter p).map f) → QD D H2) (hg : ∃ s, g = gName s) :
    ∃ a', V.ref a = V.ref a' ∧ (∃ vs, SqL K H a' vs) ∧ ∀ D, H D = none → ∃ W : Nat → Nat → Hp → Prop, (∃ m, W 0 m (upd H D (.lst []))) ∧ ∀ i m H, W i m H →
      ((Itl K a').stop i H ∧ QD D H) ∨ ((Itl K a').go i H ∧ ∃ Nx : Hp → Prop, (∀ H', Nx H' → ∃ m', m' < m ∧ W (i + 1) m' H') ∧ ∀ x H', (Itl K a').yld i H x H' → g x (wipe σ vs) H' fun σ2 H2 => wipe σ2 vs = wipe σ vs ∧ tt σ2 H2 fun b H3 =>
        if b = true then te σ2 H3 fun y H4 => ∃ acc, H4 D = some (.lst acc) ∧ acc.length < sizeLine ∧ Nx (upd H4 D (.lst (acc ++ [y]))) else Nx H3) := by
  obtain ⟨s, rfl⟩ := hg
  obtain ⟨qs, hqs, hown⟩ := hx
  have hlen := hown.len
  rw [List.length_map] at hlen
  refine z_lcloopW (Hb := Hb) (sq_of hqs) h0 fun D hD => ⟨fun i H' => Ex H H' ∧ i ≤ l.length ∧ ∃ ps : List Addr, H' D = some (.lst (ps.map V.ref)) ∧ (∀ q ∈ ps, q ≠ D) ∧ OwnL H' ps (((l.take i).filter p).map f), ⟨Ex.new hD, Nat.zero_le _, [], upd_same, fun q hq => (by cases hq), by rw [List.take_zero]; trivial⟩, fun _ _ z => h0.trans z.1, ?_, ?_⟩
  · rintro i v H' hv ⟨e, hl2, ps, hd, hne, ho⟩
    rw [List.getElem?_map] at hv
    obtain ⟨r, hr, rfl⟩ := Option.map_eq_some_iff.mp hv
    have hi : i < l.length := by
      have := (List.getElem?_eq_some_iff.mp hr).1
      omega
    have hxi : l[i]? = some l[i] := List.getElem?_eq_getElem hi
    have hm := List.getElem_mem hi
    obtain ⟨r', k1, k2⟩ := hown.at (i := i) (x := F l[i]) (by rw [List.getElem?_map, hxi]; rfl)
    rw [hr] at k1
    cases k1
    have et : l.take (i + 1) = l.take i ++ [l[i]] := by rw [List.take_succ, hxi]; rfl
    generalize l[i] = y at hxi hm k2 et
    have hfl := List.length_filter_le p (l.take i)
    rw [List.length_take] at hfl
    have hol := ho.len
    rw [List.length_map] at hol
    refine ht y r H' _ hm ((h0.trans e) _ _ k2) e fun H4 e4 => ?_
    cases hp : p y with
    | true =>
      refine he y r H4 _ hm ((h0.trans (e.trans e4)) _ _ k2) (e.trans e4) fun z H5 nz e5 hz => ?_
      have hd5 := (e4.trans e5) _ _ hd
      have nzD : z ≠ D := fun w => by rw [w, e4 _ _ hd] at nz; cases nz
      refine ⟨_, hd5, by rw [List.length_map]; exact szl _ (by omega), ex_mut ((e.trans e4).trans e5) hD, hi, ps ++ [z], by rw [upd_same, List.map_append]; rfl, fun w hw => ?_, ?_⟩
      · rcases List.mem_append.mp hw with w1 | w1
        · exact hne w w1
        · rw [List.mem_singleton.mp w1]; exact nzD
      · rw [et, List.filter_append, List.map_append]
        have e1 : [y].filter p = [y] := by rw [List.filter_cons, if_pos hp]; rfl
        rw [e1]
        refine OwnL.snoc (by rw [upd_ne nzD]; exact hz) ((ho.ex (e4.trans e5)).keep fun w hw o h => ?_)
        rw [upd_ne (hne w hw)]; exact h
    | false =>
      refine iteF ⟨e.trans e4, hi, ps, e4 _ _ hd, hne, ?_⟩
      rw [et, List.filter_append]
      have e1 : [y].filter p = [] := by rw [List.filter_cons, if_neg (by rw [hp]; decide)]; rfl
      rw [e1, List.append_nil]
      exact ho.ex e4
  · rintro H' ⟨e, _, ps, hd, _, ho⟩
    rw [List.length_map, hlen, List.take_length] at ho
    exact q D H' hD e ⟨ps, hd, ho⟩
/-- a comprehension that picks -/
theorem z_lcF {α : Type} [DecidableEq α] [Datum α] {Hb : Hp} {a : Addr} {l : List α} (p : α → Bool) (hx : Dt K Hb (.ref a) l) (h0 : Ex Hb H) (hl : l.length ≤ 90000)
    (ht : ∀ x v H' (R : Bool → Hp → Prop), x ∈ l → Dt K Hb v x → Ex H H' → (∀ H4, Ex H' H4 → R (p x) H4) → g v (wipe σ vs) H' fun σ2 H2 => wipe σ2 vs = wipe σ vs ∧ tt σ2 H2 R)
    (he : ∀ v H' (R : VK), R v H' → g v (wipe σ vs) H' fun σ2 H2 => te σ2 H2 R)
    (q : ∀ D H2, H D = none → Ex H H2 → Dt K H2 (.ref D) (l.filter p) → QD D H2) (hg : ∃ s, g = gName s) :
    ∃ a', V.ref a = V.ref a' ∧ (∃ vs, SqL K H a' vs) ∧ ∀ D, H D = none → ∃ W : Nat → Nat → Hp → Prop, (∃ m, W 0 m (upd H D (.lst []))) ∧ ∀ i m H, W i m H →
      ((Itl K a').stop i H ∧ QD D H) ∨ ((Itl K a').go i H ∧ ∃ Nx : Hp → Prop, (∀ H', Nx H' → ∃ m', m' < m ∧ W (i + 1) m' H') ∧ ∀ x H', (Itl K a').yld i H x H' → g x (wipe σ vs) H' fun σ2 H2 => wipe σ2 vs = wipe σ vs ∧ tt σ2 H2 fun b H3 =>
        if b = true then te σ2 H3 fun y H4 => ∃ acc, H4 D = some (.lst acc) ∧ acc.length < sizeLine ∧ Nx (upd H4 D (.lst (acc ++ [y]))) else Nx H3) := by
  obtain ⟨s, rfl⟩ := hg
  refine z_lcloop (α := α) (Hb := Hb) hx h0 fun D hD => ⟨fun pre H' => Ex H H' ∧ pre.length ≤ l.length ∧ ∃ xs : List V, H' D = some (.lst xs) ∧ DtAll K Hb xs (pre.filter p), ⟨Ex.new hD, Nat.zero_le _, [], upd_same, da_nil⟩, fun _ _ z => h0.trans z.1, ?_, ?_⟩
  · rintro pre y post v H' er hv ⟨e, hl2, xs, hd, ho⟩
    have hm : y ∈ l := by rw [er]; simp
    have hl3 : (pre ++ [y]).length ≤ l.length := by rw [er, List.length_append, List.length_append]; simp only [List.length_cons, List.length_nil]; omega
    have hfl := List.length_filter_le p pre
    have hol := ho.length
    refine ht y v H' _ hm hv e fun H4 e4 => ?_
    cases hp : p y with
    | true =>
      refine he v H4 _ ⟨_, e4 _ _ hd, szl _ (by omega), ex_mut (e.trans e4) hD, hl3, _, upd_same, ?_⟩
      rw [List.filter_append]
      have e1 : [y].filter p = [y] := by rw [List.filter_cons, if_pos hp]; rfl
      rw [e1]
      exact DtAll.append ho (da_cons hv da_nil)
    | false =>
      refine iteF ⟨e.trans e4, hl3, xs, e4 _ _ hd, ?_⟩
      rw [List.filter_append]
      have e1 : [y].filter p = [] := by rw [List.filter_cons, if_neg (by rw [hp]; decide)]; rfl
      rw [e1, List.append_nil]
      exact ho
  · rintro H' ⟨e, _, xs, hd, ho⟩
    exact q D H' hD e (dt_lst (sq_of hd) (ho.ex (h0.trans e)))
/-- a comprehension over a range that makes new lists -/
theorem z_lcR {n : Nat} (f : Nat → List Int) (hn : n ≤ 90000)
    (he : ∀ (i : Nat) H' (R : VK), i < n → Ex H H' → (∀ y H4, H' y = none → Ex H' H4 → H4 y = some (.lst ((f i).map V.int)) → R (.ref y) H4) → g (.int (i : Int)) (wipe σ vs) H' fun σ2 H2 => wipe σ2 vs = wipe σ vs ∧ te σ2 H2 R)
    (q : ∀ D H2, H D = none → Ex H H2 → LLo H2 D ((List.range n).map f) → QD D H2) (hg : ∃ s, g = gName s) :
    ∃ j : Int, [V.int n] = [.int j] ∧ -(2 ^ 62) ≤ j ∧ j < 2 ^ 62 ∧ ∀ D, H D = none → ∃ W : Nat → Nat → Hp → Prop, (∃ m, W 0 m (upd H D (.lst []))) ∧ ∀ i m H, W i m H →
      ((Itr 0 j.toNat).stop i H ∧ QD D H) ∨ ((Itr 0 j.toNat).go i H ∧ ∃ Nx : Hp → Prop, (∀ H', Nx H' → ∃ m', m' < m ∧ W (i + 1) m' H') ∧ ∀ x H', (Itr 0 j.toNat).yld i H x H' → g x (wipe σ vs) H' fun σ2 H2 => wipe σ2 vs = wipe σ vs ∧ tYes σ2 H2 fun b H3 =>
        if b = true then te σ2 H3 fun y H4 => ∃ acc, H4 D = some (.lst acc) ∧ acc.length < sizeLine ∧ Nx (upd H4 D (.lst (acc ++ [y]))) else Nx H3) := by
  obtain ⟨s, rfl⟩ := hg
  refine z_lcrloop (by omega) fun D hD => ⟨fun i H' => Ex H H' ∧ i ≤ n ∧ ∃ ps : List Addr, H' D = some (.lst (ps.map V.ref)) ∧ (∀ q ∈ ps, q ≠ D) ∧ OwnL H' ps ((List.range i).map f), ⟨Ex.new hD, Nat.zero_le _, [], upd_same, fun q hq => (by cases hq), trivial⟩, ?_, ?_⟩
  · rintro i H' hi ⟨e, _, ps, hd, hne, ho⟩
    have hol := ho.len
    rw [List.length_map, List.length_range] at hol
    have z := he i H' (fun y H4 => ∃ acc, H4 D = some (.lst acc) ∧ acc.length < sizeLine ∧ (Ex H (upd H4 D (.lst (acc ++ [y]))) ∧ i + 1 ≤ n ∧ ∃ ps : List Addr, (upd H4 D (.lst (acc ++ [y]))) D = some (.lst (ps.map V.ref)) ∧ (∀ q ∈ ps, q ≠ D) ∧ OwnL (upd H4 D (.lst (acc ++ [y]))) ps ((List.range (i + 1)).map f))) hi e fun z H5 nz e5 hz => by
      have hd5 := e5 _ _ hd
      have nzD : z ≠ D := fun w => by rw [w, hd] at nz; cases nz
      refine ⟨_, hd5, by rw [List.length_map]; exact szl _ (by omega), ex_mut (e.trans e5) hD, hi, ps ++ [z], by rw [upd_same, List.map_append]; rfl, fun w hw => ?_, ?_⟩
      · rcases List.mem_append.mp hw with w1 | w1
        · exact hne w w1
        · rw [List.mem_singleton.mp w1]; exact nzD
      · rw [List.range_succ, List.map_append]
        refine OwnL.snoc (by rw [upd_ne nzD]; exact hz) ((ho.ex e5).keep fun w hw o h => ?_)
        rw [upd_ne (hne w hw)]; exact h
    exact ⟨z.1, z.2⟩
  · rintro H' ⟨e, _, ps, hd, _, ho⟩
    exact q D H' hD e ⟨ps, hd, ho⟩
end
/-! ### the promises -/
def nI (T : List Nat) : List Int := T.map fun (j : Nat) => (j : Int)
theorem nI_natV (T : List Nat) : (nI T).map V.int = natV T := (natV_ints T).symm
theorem nI_len (T : List Nat) : (nI T).length = T.length := List.length_map _
def mat (n : Nat) (B : Nat → Nat → Int) : List (List Int) := (List.range n).map fun i => tab n (B i)
theorem mat_congr {n : Nat} {A B : Nat → Nat → Int} (h : ∀ i j, i < n → j < n → A i j = B i j) : mat n A = mat n B := by
  unfold mat
  exact List.map_congr_left fun i hi => tab_congr fun j hj => h i j (List.mem_range.mp hi) hj
theorem RowsX.dt {K : PySem.W.Frag} {H : Hp} {r : Addr} {ps : List Addr} {n : Nat} {g : Nat → Nat → Int} (R : RowsX H r ps n g) : Dt K H (.ref r) (mat n g) := by
  obtain ⟨h1, h2, _, _, h5⟩ := R
  refine LLo.dt ⟨ps, h1, ?_⟩
  have all : ∀ (k : Nat) (ps : List Addr), (∀ i p, ps[i]? = some p → H p = some (.lst ((tab n (g (k + i))).map V.int))) → OwnL H ps ((List.range ps.length).map fun i => tab n (g (k + i))) := fun k ps => by
    induction ps generalizing k with
    | nil => intro _; trivial
    | cons p ps ih =>
      intro h
      rw [List.length_cons, List.range_succ_eq_map, List.map_cons, List.map_map]
      refine ⟨h 0 p rfl, ?_⟩
      have := ih (k + 1) fun i q hq => by
        have := h (i + 1) q (by simpa using hq)
        rw [show k + 1 + i = k + (i + 1) by omega]; exact this
      have e : ((fun i => tab n (g (k + i))) ∘ Nat.succ) = fun i => tab n (g (k + 1 + i)) := by
        funext i
        show tab n (g (k + (i + 1))) = _
        rw [show k + (i + 1) = k + 1 + i by omega]
      rw [e]; exact this
  have := all 0 ps fun i p hp => by rw [Nat.zero_add]; exact h5 i p hp
  rw [h2] at this
  simp only [Nat.zero_add] at this
  exact this
def sp_law_joined (K : PySem.W.Frag) : Sp := fun vs H Q _ => ∃ (n : Nat) (a b : Addr) (rs : List Road) (T : List Nat), vs = [.int n, .ref a, .ref b] ∧ n ≤ 10 ∧ rs.length ≤ 40 ∧ Net n rs ∧ (∀ j ∈ T, j < rs.length) ∧ Dt K H (.ref a) rs ∧ Dt K H (.ref b) T ∧ RetB (Cn n rs T) H Q
def sp_law_room (K : PySem.W.Frag) : Sp := fun vs H Q _ => ∃ (n : Nat) (a : Addr) (rs : List Road), vs = [.int n, .ref a] ∧ n ≤ 10 ∧ rs.length ≤ 40 ∧ Dt K H (.ref a) rs ∧ RetV (.int (prodT (deg rs) n)) H Q
def sp_law_heaps (K : PySem.W.Frag) : Sp := fun vs H Q _ => ∃ (n : Nat) (a : Addr) (f : Nat → Int), vs = [.ref a] ∧ n ≤ 3 ∧ (∀ k, k < n → 0 ≤ f k ∧ f k ≤ 40) ∧ Dt K H (.ref a) (tab n f) ∧ ∀ p H2, H p = none → Ex H H2 → LLo H2 p (boxT n f) → Q (.ref p) H2
def sp_law_sets (K : PySem.W.Frag) : Sp := fun vs H Q _ => ∃ (n m : Nat), vs = [.int n, .int m] ∧ n ≤ 3 ∧ m ≤ 7 ∧ ∀ p H2, H p = none → Ex H H2 → Dt K H2 (.ref p) ((setsF n m).filter fun T => decide (T.length = n)) → Q (.ref p) H2
def sp_law_small (K : PySem.W.Frag) : Sp := fun vs H Q _ => ∃ (a : Addr) (ns : List Int), vs = [.ref a] ∧ ns.length ≤ 63 ∧ SqL K H a (ns.map V.int) ∧ ∀ (n : Nat) (rs : List Road) (t q : Addr) (H2 : Hp), n ≤ 3 → rs.length ≤ 7 → Net n rs → Ex H H2 → H2 t = some (.tup [.int n, .ref q]) → Dt K H2 (.ref q) rs → Q (.ref t) H2
def sp_law_expanded (m : Nat) (K : PySem.W.Frag) : Sp := match m with
  | 0 => fun _ _ _ _ => False
  | m + 1 => fun vs H Q _ => ∃ (s : Nat) (a : Addr) (B : Nat → Nat → Int), vs = [.ref a] ∧ s ≤ m ∧ s ≤ 4 ∧ Dt K H (.ref a) (mat s B) ∧ (∀ i j, i < s → j < s → (B i j).natAbs < 2 ^ 42) ∧ RetV (.int (ex s B)) H Q
def sp_law_expandedF (K : PySem.W.Frag) : Sp := sp_law_expanded 5 K
def sp_law_determinant (K : PySem.W.Frag) : Sp := fun vs H Q _ => ∃ (n : Nat) (a : Addr) (rs : List Road), vs = [.ref a] ∧ n ≤ 10 ∧ rs.length ≤ 40 ∧ Net n rs ∧ Dt K H (.ref a) (mat n (LA n rs)) ∧ RetV (.int (det n (LA n rs))) H Q
def sp_law_table12 (K : PySem.W.Frag) : Sp := sp_table_of K
theorem tab_split {n : Nat} {f : Nat → Int} {pre post : List Int} {y : Int} (h : tab n f = pre ++ y :: post) : pre.length < n ∧ y = f pre.length := by
  have hl := congrArg List.length h
  rw [tab_len, List.length_append, List.length_cons] at hl
  have hn : pre.length < n := by omega
  refine ⟨hn, ?_⟩
  have e := tab_get f hn
  rw [h, List.getElem?_append_right (Nat.le_refl _), Nat.sub_self] at e
  exact Option.some.inj e
theorem LLo.nat {K : PySem.W.Frag} {H : Hp} {p : Addr} {l : List (List Nat)} (h : LLo H p (l.map nI)) : Dt K H (.ref p) l := by
  have e : (l.map nI).map Datum.toD = l.map Datum.toD := by
    rw [List.map_map]
    refine List.map_congr_left fun T _ => ?_
    show PyData.list ((nI T).map Datum.toD) = PyData.list (T.map Datum.toD)
    unfold nI
    rw [List.map_map]
    rfl
  have h1 : Dp K H (.ref p) (.list ((l.map nI).map Datum.toD)) := h.dt
  rw [e] at h1
  exact h1
theorem Tups.app {H : Hp} {us : List Addr} {qs : List Road} (k : Tups H us qs) : ∀ {ts : List Addr} {rs : List Road}, Tups H ts rs → Tups H (ts ++ us) (rs ++ qs)
  | [], [], _ => k
  | _ :: ts, _ :: rs, h => ⟨h.1, Tups.app k (ts := ts) (rs := rs) h.2⟩
  | [], _ :: _, h => h.elim
  | _ :: _, [], h => h.elim
theorem Tups.app' {H : Hp} {us ts : List Addr} {qs rs : List Road} (h : Tups H ts rs) (k : Tups H us qs) : Tups H (ts ++ us) (rs ++ qs) := Tups.app k h
theorem Tups.take {H : Hp} : ∀ (k : Nat) {ts : List Addr} {rs : List Road}, Tups H ts rs → Tups H (ts.take k) (rs.take k)
  | 0, _, _, _ => by rw [List.take_zero, List.take_zero]; trivial
  | _ + 1, [], [], _ => trivial
  | k + 1, _ :: ts, _ :: rs, h => ⟨h.1, Tups.take k (ts := ts) (rs := rs) h.2⟩
  | _ + 1, [], _ :: _, h => h.elim
  | _ + 1, _ :: _, [], h => h.elim
theorem Tups.drop {H : Hp} : ∀ (k : Nat) {ts : List Addr} {rs : List Road}, Tups H ts rs → Tups H (ts.drop k) (rs.drop k)
  | 0, _, _, h => h
  | _ + 1, [], [], _ => trivial
  | k + 1, _ :: ts, _ :: rs, h => Tups.drop k (ts := ts) (rs := rs) h.2
  | _ + 1, [], _ :: _, h => h.elim
  | _ + 1, _ :: _, [], h => h.elim
theorem sIx_neg1 (n : Nat) : HT.sIx n n (some (-1)) = n - 1 := by
  show (if (-1 : Int) < 0 then ((-1 : Int) + (n : Int)).toNat else min (-1 : Int).toNat n) = n - 1
  rw [if_pos (by decide)]
  omega
theorem cutV_neg1 (xs : List V) : cutV xs none (some (-1)) = xs.take (xs.length - 1) := by
  unfold cutV
  rw [sIx_neg1, HT.sIx_none, List.drop_zero, Nat.sub_zero]
theorem Net.sup {n : Nat} {rs rs' : List Road} (N : Net n rs) (h : ∀ r ∈ rs, r ∈ rs') (ok : ∀ r ∈ rs', r.1 ≤ n ∧ r.2 ≤ n ∧ r.1 ≠ r.2) : Net n rs' := ⟨ok, fun S h1 h2 k hk => N.conn S h1 (fun r hr => h2 r (h r hr)) k hk⟩
theorem z_iteT' {b : Bool} {A B : Prop} (hb : b = true) (h : A) : if b = true then A else B := (if_pos hb) ▸ h
theorem z_iteF' {b : Bool} {A B : Prop} (hb : b = false) (h : B) : if b = true then A else B := by rw [hb]; exact iteF h
theorem tab_at {n i : Nat} (f : Nat → Int) (h : i < (tab n f).length) : (tab n f)[i] = f i := by
  have h2 := tab_get f (k := i) (by rw [tab_len] at h; exact h)
  rw [List.getElem?_eq_getElem h] at h2
  exact Option.some.inj h2
theorem tab_skp (n k : Nat) (h : k ≤ n) (f : Nat → Int) : (tab (n + 1) f).take k ++ (tab (n + 1) f).drop (k + 1) = tab n fun c => f (skp k c) := by
  refine List.ext_getElem (by rw [List.length_append, List.length_take, List.length_drop, tab_len, tab_len]; omega) fun i h1 h2 => ?_
  have l1 : ((tab (n + 1) f).take k).length = k := by rw [List.length_take, tab_len]; omega
  rw [tab_at _ h2]
  unfold skp
  by_cases c : i < k
  · rw [List.getElem_append_left (by rw [l1]; exact c), List.getElem_take, tab_at, if_pos c]
  · rw [List.getElem_append_right (by rw [l1]; omega), List.getElem_drop, tab_at, if_neg c]
    congr 1
    omega
theorem mat_len (n : Nat) (B : Nat → Nat → Int) : (mat n B).length = n := by unfold mat; rw [List.length_map, List.length_range]
theorem mat_get {n i : Nat} (B : Nat → Nat → Int) (h : i < n) : (mat n B)[i]? = some (tab n (B i)) := by unfold mat; simp [h]
theorem mat_less (n k : Nat) (h : k ≤ n) (B : Nat → Nat → Int) : ((mat (n + 1) B).drop 1).map (fun row => row.take k ++ row.drop (k + 1)) = mat n fun r c => B (r + 1) (skp k c) := by
  unfold mat
  rw [List.range_succ_eq_map, List.map_cons, List.drop_one, List.tail_cons, List.map_map, List.map_map]
  exact List.map_congr_left fun r _ => tab_skp n k h _
theorem mat_drop_mem {n : Nat} {B : Nat → Nat → Int} {row : List Int} (h : row ∈ (mat n B).drop 1) : ∃ i, i < n ∧ row = tab n (B i) := by
  obtain ⟨i, hi, rfl⟩ := List.mem_map.mp (List.mem_of_mem_drop h)
  exact ⟨i, List.mem_range.mp hi, rfl⟩
theorem atI_sgn (k : Nat) : atI [V.int 1, V.int (-1)] ((k : Int) % 2) = some (.int (sgn k)) := by
  unfold sgn
  by_cases c : k % 2 = 0
  · rw [show (k : Int) % 2 = ((0 : Nat) : Int) by omega, if_pos c]; exact atI_nat rfl
  · rw [show (k : Int) % 2 = ((1 : Nat) : Int) by omega, if_neg c]; exact atI_nat rfl
theorem mat_split {s : Nat} {M : Nat → Nat → Int} {pre post : List (List Int)} {y : List Int} (h : (mat s M).drop 1 = pre ++ y :: post) : pre.length + 1 < s ∧ y = tab s (M (pre.length + 1)) := by
  have hl := congrArg List.length h
  rw [List.length_drop, mat_len, List.length_append, List.length_cons] at hl
  have hn : pre.length + 1 < s := by omega
  refine ⟨hn, ?_⟩
  have e := mat_get M hn
  rw [show pre.length + 1 = 1 + pre.length by omega, ← List.getElem?_drop, h, List.getElem?_append_right (Nat.le_refl _), Nat.sub_self] at e
  rw [show pre.length + 1 = 1 + pre.length by omega]
  exact Option.some.inj e
def cor (A : Nat → Nat → Int) (k i j : Nat) : Int := qq A k (k + i) (k + j)
theorem cor_step {n : Nat} {rs : List Road} (N : Net n rs) {k : Nat} (hk : k < n) (i j : Nat) : (cor (LA n rs) k (i + 1) j * cor (LA n rs) k 0 0 - cor (LA n rs) k (i + 1) 0 * cor (LA n rs) k 0 j) / det k (LA n rs) = qq (LA n rs) (k + 1) (k + 1 + i) (k + j) := by
  have h := N.exactA (i := k + (i + 1)) (j := k + j) hk
  rw [show k + 1 + i = k + (i + 1) by omega]
  exact h
theorem cor_less {n : Nat} {rs : List Road} (N : Net n rs) (hl : rs.length ≤ 40) (hn : n ≤ 10) {k i j : Nat} (hi : k + i < n) (hj : k + j < n) : (cor (LA n rs) k i j).natAbs < 2 ^ 42 := qq_less N hl hn hi hj (Nat.le_add_right _ _) (Nat.le_add_right _ _)
theorem cor_end {n : Nat} {rs : List Road} (N : Net n rs) {k s : Nat} (h : k + s = n) (hs : s ≤ 4) (h0 : s = 0 → k = 0) : ex s (cor (LA n rs) k) / det k (LA n rs) ^ (s - 1) = det n (LA n rs) := by
  have p := N.det_pos k (by omega)
  have L := N.lead
  have nz : ∀ m : Nat, det k (LA n rs) ^ m ≠ 0 := fun m => Int.pow_ne_zero (by omega)
  match s, hs with
  | 0, _ =>
    have := h0 rfl
    subst this
    rw [← h]
    rfl
  | 1, _ =>
    rw [show (1 - 1 : Nat) = 0 from rfl, Int.pow_zero, Int.ediv_one, ← h]
    exact syl_one _ _
  | 2, _ =>
    rw [show ex 2 (cor (LA n rs) k) = _ from L.syl_two (k := k) (by omega), show (2 - 1 : Nat) = 1 from rfl, Int.pow_one, Int.mul_ediv_cancel_left _ (by omega), h]
  | 3, _ =>
    rw [show ex 3 (cor (LA n rs) k) = _ from L.syl_three (k := k) (by omega), show (3 - 1 : Nat) = 2 from rfl, Int.mul_ediv_cancel_left _ (nz 2), h]
  | 4, _ =>
    rw [show ex 4 (cor (LA n rs) k) = _ from L.syl_four (k := k) (by omega), show (4 - 1 : Nat) = 3 from rfl, Int.mul_ediv_cancel_left _ (nz 3), h]
theorem max_ix (s : Nat) : (if (s : Int) - 1 > 0 then (s : Int) - 1 else 0) = ((s - 1 : Nat) : Int) := by split <;> omega
theorem atI_pow (b : Int) {s : Nat} (h : s ≤ 4) : atI [V.int 1, V.int b, V.int (b ^ 2), V.int (b ^ 3)] ((s - 1 : Nat) : Int) = some (.int (b ^ (s - 1))) := by
  match s, h with
  | 0, _ => rw [show (0 - 1 : Nat) = 0 from rfl, Int.pow_zero]; exact atI_nat rfl
  | 1, _ => rw [show (1 - 1 : Nat) = 0 from rfl, Int.pow_zero]; exact atI_nat rfl
  | 2, _ => rw [show (2 - 1 : Nat) = 1 from rfl, Int.pow_one]; exact atI_nat rfl
  | 3, _ => exact atI_nat (j := 2) rfl
  | 4, _ => exact atI_nat (j := 3) rfl
theorem pow_small {b : Int} (hb : b.natAbs < 2 ^ 42) {s : Nat} (h : s ≤ 4) : (b ^ (s - 1)).natAbs < 2 ^ 126 := by
  rw [Int.natAbs_pow]
  have h1 : b.natAbs ^ (s - 1) ≤ (2 ^ 42) ^ (s - 1) := Nat.pow_le_pow_left (by omega) _
  match s, h with
  | 0, _ => exact Nat.lt_of_le_of_lt h1 (by decide)
  | 1, _ => exact Nat.lt_of_le_of_lt h1 (by decide)
  | 2, _ => exact Nat.lt_of_le_of_lt h1 (by decide)
  | 3, _ => exact Nat.lt_of_le_of_lt h1 (by decide)
  | 4, _ =>
    have : b.natAbs ^ 3 < (2 ^ 42) ^ 3 := Nat.pow_lt_pow_left hb (by decide)
    exact Nat.lt_of_lt_of_le this (by decide)
theorem boxT_small {n : Nat} {f : Nat → Int} (hn : n ≤ 3) (hf : ∀ k, k < n → 0 ≤ f k ∧ f k ≤ 40) : (boxT n f).length ≤ 64000 := by
  have blen : ∀ k, k ≤ n → (boxT k f).length ≤ 40 ^ k := fun k hk => by
    induction k with
    | zero => exact Nat.le_refl _
    | succ k ih =>
      have ih := ih (by omega)
      have e1 := boxT_len (f := f) (k + 1) fun j hj => (hf j (by omega)).1
      have e2 := boxT_len (f := f) k fun j hj => (hf j (by omega)).1
      have h2 := (hf k (by omega))
      have e3 : prodT f (k + 1) = prodT f k * f k := rfl
      rw [e3, ← e2] at e1
      have e4 : ((boxT k f).length : Int) * f k ≤ (boxT k f).length * 40 := Int.mul_le_mul_of_nonneg_left h2.2 (by omega)
      rw [Nat.pow_succ]
      omega
  have := blen n (Nat.le_refl _)
  match n, hn with
  | 0, _ => exact Nat.le_trans this (by decide)
  | 1, _ => exact Nat.le_trans this (by decide)
  | 2, _ => exact Nat.le_trans this (by decide)
  | 3, _ => exact Nat.le_trans this (by decide)
theorem setsF_small (n : Nat) {m : Nat} (hm : m ≤ 7) : (setsF n m).length ≤ 128 := by
  have slen : ∀ k, (setsF n k).length ≤ 2 ^ k := fun k => by
    induction k with
    | zero => exact Nat.le_refl _
    | succ k ih =>
      show (setsF n k ++ _).length ≤ _
      rw [List.length_append, List.length_map, Nat.pow_succ]
      have := List.length_filter_le (fun T : List Nat => decide (T.length < n)) (setsF n k)
      omega
  have h1 := slen m
  have h2 : 2 ^ m ≤ 2 ^ 7 := Nat.pow_le_pow_right (by decide) (by omega)
  have h3 : (2 : Nat) ^ 7 = 128 := by decide
  omega
theorem prod_pos {f : Nat → Int} : ∀ n, (∀ k, k < n → 0 < f k) → 0 < prodT f n
  | 0, _ => by show (0 : Int) < 1; decide
  | n + 1, h => Int.mul_pos (prod_pos n fun k hk => h k (by omega)) (h n (by omega))
theorem dt_nI {K : PySem.W.Frag} {H : Hp} {v : V} {l : List (List Nat)} (h : Dt K H v l) : Dt K H v (l.map nI) := by
  have e : (l.map nI).map Datum.toD = l.map Datum.toD := by
    rw [List.map_map]
    refine List.map_congr_left fun T _ => ?_
    show PyData.list ((nI T).map Datum.toD) = PyData.list (T.map Datum.toD)
    unfold nI
    rw [List.map_map]
    rfl
  show Dp K H v (.list ((l.map nI).map Datum.toD))
  rw [e]
  exact h
open Classical in
theorem agL_eq {n : Nat} {rs : List Road} {l : List Int} {b : Bool} (h : b = true ↔ (Low n rs (nth l) ∧ NF n rs (nth l))) : b = agL n rs l := by
  unfold agL
  exact Bool.eq_iff_iff.mpr (h.trans decide_eq_true_iff.symm)
theorem okT_eq {n : Nat} {rs : List Road} {T : List Nat} {b : Bool} (h : b = true ↔ Cn n rs T) : b = okT n rs T := Bool.eq_iff_iff.mpr (h.trans (okT_iff n rs T).symm)
theorem in_eq {n : Nat} {rs : List Road} (N : Net n rs) {l : List Int} (hl : l.length = n) {b : Bool} {dd : Decidable (l ∈ heapsH n rs)} (h : b = true ↔ Again n rs (nth l)) : b = @decide (l ∈ heapsH n rs) dd := by
  refine Bool.eq_iff_iff.mpr ?_
  rw [decide_eq_true_iff, heapsH_mem N, h, again_iff N]
  exact ⟨fun z => ⟨hl, z⟩, fun z => z.2⟩
theorem mine_eq {n : Nat} {rs : List Road} (N : Net n rs) : srtL ((heapsH n rs).map fun l => nI (trOf n rs l)) = srtL ((treesH n rs).map nI) := by
  have h := (heaps_trees N).map nI
  rw [List.map_map] at h
  exact srtL_perm h
theorem yours_eq {n : Nat} {rs : List Road} (N : Net n rs) : srtL ((treesH n rs).map (hpOf n rs)) = srtL (heapsH n rs) := srtL_perm (trees_heaps N)
theorem good_low {n : Nat} {rs : List Road} (N : Net n rs) (hl : rs.length ≤ 40) {g : Nat → Int} (gl : Low n rs g) (g0 : NF n rs g) : Good n g := fun k hk => by
  have := g0.nn N.ok k hk
  have := gl k hk
  have := deg_le rs k
  omega
def only3 (H : Hp) (a b c : Addr) : Hp := fun z => if z = a ∨ z = b ∨ z = c then H z else none
theorem ex_only3 (H : Hp) (a b c : Addr) : Ex (only3 H a b c) H := fun z o h => by
  unfold only3 at h
  split at h
  · exact h
  · cases h
theorem only3_at {H : Hp} {a b c z : Addr} (h : z = a ∨ z = b ∨ z = c) : only3 H a b c z = H z := if_pos h
theorem only3_ne {H : Hp} {a b c z : Addr} (h1 : z ≠ a) (h2 : z ≠ b) (h3 : z ≠ c) : only3 H a b c z = none := if_neg fun h => h.elim h1 fun h => h.elim h2 h3
def hT (x y : Nat) (g : Nat → Nat → Int) (i j : Nat) : Int := (g i j + if i = x ∧ j = x then 1 else 0) + if i = x ∧ j = y then -1 else 0
def hTs (g : Nat → Nat → Int) (p : List Road) : Nat → Nat → Int := p.foldl (fun g y => hT y.1 y.2 g) g
theorem hTs_snoc (g : Nat → Nat → Int) (p : List Road) (y : Road) : hTs g (p ++ [y]) = hT y.1 y.2 (hTs g p) := by unfold hTs; rw [List.foldl_append]; rfl
theorem hTs_two (g : Nat → Nat → Int) (x y : Nat) (i j : Nat) : hTs g [(x, y), (y, x)] i j = (((g i j + if i = x ∧ j = x then 1 else 0) + if i = y ∧ j = y then 1 else 0) + if i = x ∧ j = y then -1 else 0) + if i = y ∧ j = x then -1 else 0 := by
  show hT y x (hT x y g) i j = _
  unfold hT
  omega
theorem z_andC {σ : L2.St} {H : Hp} {t u : L2.TT} {QB : Bool → Hp → Prop} {p : Bool} (h1 : Pt1 t σ H p) (h2 : p = true → ∀ R : Bool → Hp → Prop, (∀ b H2, Ex H H2 → R b H2) → u σ H R) (k : ∀ b H2, Ex H H2 → (b = true → p = true) → QB b H2) : tAnd t u σ H QB := by
  refine z_and (h1 _ ?_)
  cases p
  · exact iteF (k false H (Ex.refl _) fun z => z)
  · exact iteT (h2 rfl _ fun b H2 e => k b H2 e fun _ => rfl)
theorem mem_take_le {α : Type} {l : List α} {n m : Nat} (h : n ≤ m) {x : α} (hx : x ∈ l.take n) : x ∈ l.take m := by
  have e : l.take n = (l.take m).take n := by rw [List.take_take, Nat.min_eq_left h]
  rw [e] at hx
  exact List.mem_of_mem_take hx
theorem cellAt_head (c : Int) (l : List Int) : cellAt (c :: l) 0 = c := by
  unfold cellAt
  rw [if_pos (by rw [List.length_cons]; omega)]
  rfl
end Sd
namespace K12
open PySem PySem.Spec PyProof.Rows L2 Z Sd
open Evl (Ex ex_l ex_t sq_of st_of)
open PySem.W (Datum)
abbrev cls : List Str := ["YardError", "NoNet", "NoHeap", "NoTree", "NotAgain"]
def top (i : Nat) : Stmt := PySem.Challenge.pw_toppleyard_k12_whole_as_many.main.body.getD i (.Pass ⟨0, 0, 0, 0⟩)
abbrev s_law_cell_at : Stmt := top 32
abbrev nn_law_cell_at : List Str := ["_law_script", "_law_k", "_law_mixed_here"]
theorem sc_law_cell_at : FnScope nn_law_cell_at ["_law_script", "_law_k"] (defScope s_law_cell_at) := ⟨rfl, rfl, rfl, by decide +kernel, rfl, by decide +kernel, by decide +kernel⟩
abbrev s_law_mixed : Stmt := top 34
abbrev nn_law_mixed : List Str := ["_law_cell", "_law_k", "_law_mixed_here"]
theorem sc_law_mixed : FnScope nn_law_mixed ["_law_cell", "_law_k"] (defScope s_law_mixed) := ⟨rfl, rfl, rfl, by decide +kernel, rfl, by decide +kernel, by decide +kernel⟩
abbrev s_law_turned : Stmt := top 35
abbrev nn_law_turned : List Str := ["_law_number", "_law_many", "_law_shift"]
theorem sc_law_turned : FnScope nn_law_turned ["_law_number", "_law_many", "_law_shift"] (defScope s_law_turned) := ⟨rfl, rfl, rfl, by decide +kernel, rfl, by decide +kernel, by decide +kernel⟩
abbrev s_law_net : Stmt := top 36
abbrev nn_law_net : List Str := ["_law_script", "_law_lines", "_law_first", "_law_many", "_law_line", "_law_roads", "_law_k", "_law_cell", "_law_ahead", "_law_size", "_law_one", "_law_shift", "_law_at", "_law_found", "_law_other", "_law_pair"]
theorem sc_law_net : FnScope nn_law_net ["_law_script", "_law_lines"] (defScope s_law_net) := ⟨rfl, rfl, rfl, by decide +kernel, rfl, by decide +kernel, by decide +kernel⟩
abbrev s_law_degrees : Stmt := top 37
abbrev nn_law_degrees : List Str := ["_law_many", "_law_roads", "_law_found", "_law_one", "_law_other", "_law_place"]
theorem sc_law_degrees : FnScope nn_law_degrees ["_law_many", "_law_roads"] (defScope s_law_degrees) := ⟨rfl, rfl, rfl, by decide +kernel, rfl, by decide +kernel, by decide +kernel⟩
abbrev s_law_room : Stmt := top 40
abbrev nn_law_room : List Str := ["_law_many", "_law_roads", "_law_found", "_law_one"]
theorem sc_law_room : FnScope nn_law_room ["_law_many", "_law_roads"] (defScope s_law_room) := ⟨rfl, rfl, rfl, by decide +kernel, rfl, by decide +kernel, by decide +kernel⟩
abbrev s_law_small : Stmt := top 41
abbrev nn_law_small : List Str := ["_law_script", "_law_many", "_law_whole_here", "_law_roads", "_law_met", "_law_turn", "_law_one", "_law_other", "_law_at"]
theorem sc_law_small : FnScope nn_law_small ["_law_script"] (defScope s_law_small) := ⟨rfl, rfl, rfl, by decide +kernel, rfl, by decide +kernel, by decide +kernel⟩
abbrev s_law_heaps : Stmt := top 42
abbrev nn_law_heaps : List Str := ["_law_most", "_law_found", "_law_one", "_law_longer", "_law_heap", "_law_grains"]
theorem sc_law_heaps : FnScope nn_law_heaps ["_law_most"] (defScope s_law_heaps) := ⟨rfl, rfl, rfl, by decide +kernel, rfl, by decide +kernel, by decide +kernel⟩
abbrev s_law_again : Stmt := top 38
abbrev nn_law_again : List Str := ["_law_many", "_law_roads", "_law_heap", "_law_most", "_law_burnt", "_law_turn", "_law_k", "_law_fire", "_law_road"]
theorem sc_law_again : FnScope nn_law_again ["_law_many", "_law_roads", "_law_heap"] (defScope s_law_again) := ⟨rfl, rfl, rfl, by decide +kernel, rfl, by decide +kernel, by decide +kernel⟩
abbrev s_law_sets : Stmt := top 43
abbrev nn_law_sets : List Str := ["_law_many", "_law_count", "_law_found", "_law_number", "_law_some"]
theorem sc_law_sets : FnScope nn_law_sets ["_law_many", "_law_count"] (defScope s_law_sets) := ⟨rfl, rfl, rfl, by decide +kernel, rfl, by decide +kernel, by decide +kernel⟩
abbrev s_law_joined : Stmt := top 39
abbrev nn_law_joined : List Str := ["_law_many", "_law_roads", "_law_tree", "_law_met", "_law_turn", "_law_number", "_law_one", "_law_other"]
theorem sc_law_joined : FnScope nn_law_joined ["_law_many", "_law_roads", "_law_tree"] (defScope s_law_joined) := ⟨rfl, rfl, rfl, by decide +kernel, rfl, by decide +kernel, by decide +kernel⟩
abbrev s_is_whole : Stmt := top 10
abbrev nn_is_whole : List Str := ["thing", "least", "most"]
theorem sc_is_whole : FnScope nn_is_whole ["thing", "least", "most"] (defScope s_is_whole) := ⟨rfl, rfl, rfl, by decide +kernel, rfl, by decide +kernel, by decide +kernel⟩
abbrev s_is_road : Stmt := top 11
abbrev nn_is_road : List Str := ["thing", "many"]
theorem sc_is_road : FnScope nn_is_road ["thing", "many"] (defScope s_is_road) := ⟨rfl, rfl, rfl, by decide +kernel, rfl, by decide +kernel, by decide +kernel⟩
abbrev s_beyond : Stmt := top 12
abbrev nn_beyond : List Str := ["road", "here"]
theorem sc_beyond : FnScope nn_beyond ["road", "here"] (defScope s_beyond) := ⟨rfl, rfl, rfl, by decide +kernel, rfl, by decide +kernel, by decide +kernel⟩
abbrev s_reached : Stmt := top 13
abbrev nn_reached : List Str := ["many", "roads", "found", "waiting", "here", "road", "other"]
theorem sc_reached : FnScope nn_reached ["many", "roads"] (defScope s_reached) := ⟨rfl, rfl, rfl, by decide +kernel, rfl, by decide +kernel, by decide +kernel⟩
abbrev s_need_net : Stmt := top 14
abbrev nn_need_net : List Str := ["many", "roads", "road"]
theorem sc_need_net : FnScope nn_need_net ["many", "roads"] (defScope s_need_net) := ⟨rfl, rfl, rfl, by decide +kernel, rfl, by decide +kernel, by decide +kernel⟩
abbrev s_table_of : Stmt := top 29
abbrev nn_table_of : List Str := ["many", "roads", "rows", "one", "other", "k"]
theorem sc_table_of : FnScope nn_table_of ["many", "roads"] (defScope s_table_of) := ⟨rfl, rfl, rfl, by decide +kernel, rfl, by decide +kernel, by decide +kernel⟩
abbrev s_how_many : Stmt := top 30
abbrev nn_how_many : List Str := ["many", "roads", "rows", "before", "k", "i", "new", "j"]
theorem sc_how_many : FnScope nn_how_many ["many", "roads"] (defScope s_how_many) := ⟨rfl, rfl, rfl, by decide +kernel, rfl, by decide +kernel, by decide +kernel⟩
abbrev s_law_whole : Stmt := top 33
abbrev nn_law_whole : List Str := ["_law_found"]
theorem sc_law_whole : FnScope nn_law_whole ["_law_found"] (defScope s_law_whole) := ⟨rfl, rfl, rfl, by decide +kernel, rfl, by decide +kernel, by decide +kernel⟩
abbrev s_need_heap : Stmt := top 15
abbrev nn_need_heap : List Str := ["many", "heap", "grains"]
theorem sc_need_heap : FnScope nn_need_heap ["many", "heap"] (defScope s_need_heap) := ⟨rfl, rfl, rfl, by decide +kernel, rfl, by decide +kernel, by decide +kernel⟩
abbrev s_counted : Stmt := top 17
abbrev nn_counted : List Str := ["many", "roads", "found", "road", "place"]
theorem sc_counted : FnScope nn_counted ["many", "roads"] (defScope s_counted) := ⟨rfl, rfl, rfl, by decide +kernel, rfl, by decide +kernel, by decide +kernel⟩
abbrev s_is_low : Stmt := top 20
abbrev nn_is_low : List Str := ["roads", "heap", "most", "k"]
theorem sc_is_low : FnScope nn_is_low ["roads", "heap"] (defScope s_is_low) := ⟨rfl, rfl, rfl, by decide +kernel, rfl, by decide +kernel, by decide +kernel⟩
abbrev s_moved : Stmt := top 19
abbrev nn_moved : List Str := ["roads", "heap", "place", "times", "found", "road", "other"]
theorem sc_moved : FnScope nn_moved ["roads", "heap", "place", "times"] (defScope s_moved) := ⟨rfl, rfl, rfl, by decide +kernel, rfl, by decide +kernel, by decide +kernel⟩
abbrev s_settle : Stmt := top 21
abbrev nn_settle : List Str := ["roads", "heap", "most", "found", "counts", "going", "k", "times"]
theorem sc_settle : FnScope nn_settle ["roads", "heap"] (defScope s_settle) := ⟨rfl, rfl, rfl, by decide +kernel, rfl, by decide +kernel, by decide +kernel⟩
abbrev s_is_again : Stmt := top 23
abbrev nn_is_again : List Str := ["roads", "heap", "more", "road", "place"]
theorem sc_is_again : FnScope nn_is_again ["roads", "heap"] (defScope s_is_again) := ⟨rfl, rfl, rfl, by decide +kernel, rfl, by decide +kernel, by decide +kernel⟩
abbrev s_need_again : Stmt := top 24
abbrev nn_need_again : List Str := ["roads", "heap"]
theorem sc_need_again : FnScope nn_need_again ["roads", "heap"] (defScope s_need_again) := ⟨rfl, rfl, rfl, by decide +kernel, rfl, by decide +kernel, by decide +kernel⟩
abbrev s_tree_of : Stmt := top 27
abbrev nn_tree_of : List Str := ["many", "roads", "heap", "left", "met", "waiting", "tree", "here", "number", "other"]
theorem sc_tree_of : FnScope nn_tree_of ["many", "roads", "heap"] (defScope s_tree_of) := ⟨rfl, rfl, rfl, by decide +kernel, rfl, by decide +kernel, by decide +kernel⟩
abbrev s_need_tree : Stmt := top 16
abbrev nn_need_tree : List Str := ["many", "roads", "tree", "k", "number"]
theorem sc_need_tree : FnScope nn_need_tree ["many", "roads", "tree"] (defScope s_need_tree) := ⟨rfl, rfl, rfl, by decide +kernel, rfl, by decide +kernel, by decide +kernel⟩
abbrev s_heap_of : Stmt := top 28
abbrev nn_heap_of : List Str := ["many", "roads", "tree", "left", "met", "waiting", "here", "number", "other"]
theorem sc_heap_of : FnScope nn_heap_of ["many", "roads", "tree"] (defScope s_heap_of) := ⟨rfl, rfl, rfl, by decide +kernel, rfl, by decide +kernel, by decide +kernel⟩
abbrev s_comes_again : Stmt := top 25
abbrev nn_comes_again : List Str := ["many", "roads", "heap"]
theorem sc_comes_again : FnScope nn_comes_again ["many", "roads", "heap"] (defScope s_comes_again) := ⟨rfl, rfl, rfl, by decide +kernel, rfl, by decide +kernel, by decide +kernel⟩
abbrev s_law_table : Stmt := top 46
abbrev nn_law_table : List Str := ["_law_many", "_law_roads", "_law_rows", "_law_one", "_law_other", "_law_here", "_law_there", "_law_k"]
theorem sc_law_table : FnScope nn_law_table ["_law_many", "_law_roads"] (defScope s_law_table) := ⟨rfl, rfl, rfl, by decide +kernel, rfl, by decide +kernel, by decide +kernel⟩
abbrev s_law_expanded : Stmt := top 44
abbrev nn_law_expanded : List Str := ["_law_rows", "_law_found", "_law_k", "_law_less", "_law_row"]
theorem sc_law_expanded : FnScope nn_law_expanded ["_law_rows"] (defScope s_law_expanded) := ⟨rfl, rfl, rfl, by decide +kernel, rfl, by decide +kernel, by decide +kernel⟩
abbrev s_law_determinant : Stmt := top 45
abbrev nn_law_determinant : List Str := ["_law_rows", "_law_before", "_law_top", "_law_less", "_law_row", "_law_j"]
theorem sc_law_determinant : FnScope nn_law_determinant ["_law_rows"] (defScope s_law_determinant) := ⟨rfl, rfl, rfl, by decide +kernel, rfl, by decide +kernel, by decide +kernel⟩
abbrev s_law : Stmt := top 47
abbrev nn_law : List Str := ["_law_script", "_law_many", "_law_roads", "_law_heaps_here", "_law_trees", "_law_told", "_law_mine", "_law_yours", "_law_last", "_law_heap", "_law_some"]
theorem sc_law : FnScope nn_law ["_law_script"] (defScope s_law) := ⟨rfl, rfl, rfl, by decide +kernel, rfl, by decide +kernel, by decide +kernel⟩
section
variable {P : Program} {w : World} {K : PySem.W.Frag} {mg : Str → Option Value} {base : Heap}
theorem ok_law_cell_at {f : Addr} {fd : FuncData} (T : Fn K mg "_law_cell_at" s_law_cell_at f fd ["_law_script", "_law_k"]) (B : Bf mg) (ZE : Er cls K mg)  : Cal P w K mg base CX0 1 "_law_cell_at" ["_law_script", "_law_k"] (sp_law_cell_at K) := by
  refine T.ok sc_law_cell_at (fun vs H Q E h => ?_) (fun cdv A outer s H vs Q E hr h => ?_)
  · obtain ⟨_, _, _, rfl, _⟩ := h; rfl
  · have hu := hu_of hr
    obtain ⟨a, ns, k, rfl, ha, hq⟩ := h
    obtain ⟨_, e, hs⟩ := ha.ints
    cases e
    refine ⟨_, ((pss_cons (ps_if (pt_cmpR op_lt (pv 1) (pe_callB (callLen K) (by rfl) B.len (by decide +kernel) (pa_cons (pv 0) pa_nil)) (nomark _)) (pss_one (ps_ret (pe_ix (ixL K) (pv 0) (pv 1) (fun _ _ => rfl)))) pss_nil)
        (pss_cons (ps_if (pt_cmpR (opEqD K hr.units) (pv 0) (pe_lst pa_nil) (nomark _)) (pss_one (ps_ret pe_int)) pss_nil)
        (pss_cons (ps_set (i := 2) sc_law_cell_at.nd rfl (Or.inl rfl) (pe_op op_mod (pe_op op_add (pe_op op_mul (pe_ix (ixL K) (pv 0) (pe_op op_mod (pv 1) (pe_callB (callLen K) (by rfl) B.len (by decide +kernel) (pa_cons (pv 0) pa_nil))) (fun _ _ => rfl)) pe_int) (pe_op op_mul (pv 1) pe_int)) pe_int))
        (pss_one (ps_ret (pe_op op_mod (pe_op op_add (pe_op op_mul (pv 2) (pv 2)) (pe_op op_mul pe_int (pv 1))) pe_int))))))), ?_⟩
    refine Z.at_slots (σ := [some _, some _, none]) ?_
    walk_at "go"
    rw [List.length_map]
    refine z_ite (fun c => ?_) (fun c => ?_) <;> walk_at "go"
    · have c : k < ns.length := by omega
      refine z_ixL hs (atI_nat (v := .int (ns.getD k 0)) (by rw [List.getElem?_map, List.getD_eq_getElem?_getD, List.getElem?_eq_getElem c]; rfl)) ?_
      rw [show ns.getD k 0 = cellAt ns k from (if_pos c).symm]
      exact hq H (Ex.refl H)
    refine ⟨sz _, fun p np => ?_⟩
    refine z_eqD (α := List Int) (a := ns) (b := []) (by decide) (ha.ex (Ex.new np)) (dt_lst (sq_of upd_same) da_nil) ?_
    have c : ¬ k < ns.length := by omega
    walk_at "go"
    refine z_ite (fun c2 => ?_) (fun c2 => ?_) <;> walk_at "go"
    · rw [show (0 : Int) = cellAt ns k from ((if_neg c).trans (if_pos c2)).symm]
      exact hq _ (Ex.new np)
    have hl : 0 < ns.length := List.length_pos_iff.mpr c2
    refine z_lenDt (ha.ex (Ex.new np)) ?_
    refine z_I (by show (0 : Int) < _; omega) ?_
    have c3 : k % ns.length < ns.length := Nat.mod_lt _ hl
    refine z_ixL (ex_l (Ex.new np) hs) (atI_nat (v := .int (ns.getD (k % ns.length) 0)) (j := k % ns.length) (by rw [List.getElem?_map, List.getD_eq_getElem?_getD, List.getElem?_eq_getElem c3]; rfl)) ?_
    walk_at "go"
    have ev : cellAt ns k = ((ns.getD (k % ns.length) 0 * 48271 + k * 104729) % 2147483647 * ((ns.getD (k % ns.length) 0 * 48271 + k * 104729) % 2147483647) + 48271 * k) % 2147483629 := (if_neg c).trans (if_neg c2)
    rw [← ev]
    exact hq _ (Ex.new np)
theorem ok_law_mixed {f : Addr} {fd : FuncData} (T : Fn K mg "_law_mixed" s_law_mixed f fd ["_law_cell", "_law_k"]) (B : Bf mg) (ZE : Er cls K mg)  : Cal P w K mg base CX0 1 "_law_mixed" ["_law_cell", "_law_k"] (sp_law_mixed K) := by
  refine T.ok sc_law_mixed (fun vs H Q E h => ?_) (fun cdv A outer s H vs Q E hr h => ?_)
  · obtain ⟨_, _, rfl, _⟩ := h; rfl
  · have hu := hu_of hr
    obtain ⟨c, k, rfl, hk, hq⟩ := h
    refine ⟨_, ((pss_cons (ps_set (i := 2) sc_law_mixed.nd rfl (Or.inl rfl) (pe_op op_mod (pe_op op_add (pe_op op_mul (pv 0) pe_int) (pe_op op_mul (pe_op op_mul (pe_op op_add (pv 1) pe_int) pe_int) (pe_op op_add (pe_op op_mod (pv 0) pe_int) pe_int))) pe_int))
        (pss_one (ps_ret (pe_op op_mod (pe_op op_add (pe_op op_mul (pv 2) (pv 2)) (pe_op op_mul pe_int (pv 1))) pe_int))))), ?_⟩
    refine Z.at_slots (σ := [some _, some _, none]) ?_
    walk_at "go"
    exact hq _
theorem ok_law_turned {f : Addr} {fd : FuncData} (T : Fn K mg "_law_turned" s_law_turned f fd ["_law_number", "_law_many", "_law_shift"]) (B : Bf mg) (ZE : Er cls K mg)  : Cal P w K mg base CX0 1 "_law_turned" ["_law_number", "_law_many", "_law_shift"] (sp_law_turned K) := by
  refine T.ok sc_law_turned (fun vs H Q E h => ?_) (fun cdv A outer s H vs Q E hr h => ?_)
  · obtain ⟨_, _, _, rfl, _⟩ := h; rfl
  · have hu := hu_of hr
    obtain ⟨x, n, s, rfl, hx, hq⟩ := h
    unfold turn at hq
    refine ⟨_, ((pss_cons (ps_if (pt_cmpR op_eq (pv 0) (pv 1) (nomark _)) (pss_one (ps_ret (pv 1))) pss_nil)
        (pss_cons (ps_if (pt_cmpR op_eq (pe_op op_mod (pe_op op_fdiv (pv 2) pe_int) pe_int) pe_int (nomark _)) (pss_one (ps_ret (pe_op op_sub (pe_op op_sub (pv 1) pe_int) (pe_op op_mod (pe_op op_add (pv 0) (pv 2)) (pv 1))))) pss_nil)
        (pss_one (ps_ret (pe_op op_mod (pe_op op_add (pv 0) (pv 2)) (pv 1))))))), ?_⟩
    refine Z.at_slots (σ := [some _, some _, some _]) ?_
    walk_at "go"
    refine z_ite (fun c => ?_) (fun c => ?_) <;> walk_at "go"
    · rw [if_pos (by omega)] at hq; exact hq
    have c : ¬ x = n := by omega
    rw [if_neg c] at hq
    refine z_ite (fun c => ?_) (fun c => ?_) <;> walk_at "go"
    · rw [if_pos (by omega)] at hq
      have h1 : (x + s) % n < n := Nat.mod_lt _ (by omega)
      rw [show ((n - 1 - (x + s) % n : Nat) : Int) = (n : Int) - 1 - ((x : Int) + (s : Int)) % (n : Int) by
        have : (((x + s) % n : Nat) : Int) = ((x : Int) + (s : Int)) % (n : Int) := by rw [Int.natCast_emod, Int.natCast_add]
        omega] at hq
      exact hq
    · rw [if_neg (by omega), Int.natCast_emod, Int.natCast_add] at hq
      exact hq
theorem ok_law_net {f : Addr} {fd : FuncData} (T : Fn K mg "_law_net" s_law_net f fd ["_law_script", "_law_lines"]) (B : Bf mg) (ZE : Er cls K mg) (C__law_cell_at : Cal P w K mg base CX0 1 "_law_cell_at" ["_law_script", "_law_k"] (sp_law_cell_at K)) (C__law_mixed : Cal P w K mg base CX0 1 "_law_mixed" ["_law_cell", "_law_k"] (sp_law_mixed K)) (C__law_turned : Cal P w K mg base CX0 1 "_law_turned" ["_law_number", "_law_many", "_law_shift"] (sp_law_turned K))  : Cal P w K mg base CX0 2 "_law_net" ["_law_script", "_law_lines"] (sp_law_net K) := by
  refine T.ok sc_law_net (fun vs H Q E h => ?_) (fun cdv A outer s H vs Q E hr h => ?_)
  · obtain ⟨_, _, _, rfl, _⟩ := h; rfl
  · have hu := hu_of hr
    obtain ⟨a, ns, lines, rfl, hl, ha, hq⟩ := h
    refine ⟨_, ((pss_cons (ps_set (i := 2) sc_law_net.nd rfl (Or.inl rfl) (pe_cal C__law_cell_at (hr.mono (by decide)) (by rfl) (pa_cons (pv 0) (pa_cons pe_int pa_nil))))
        (pss_cons (ps_set (i := 3) sc_law_net.nd rfl (Or.inl rfl) (pe_op op_mod (pv 2) pe_int))
        (pss_cons (ps_set (i := 4) sc_law_net.nd rfl (Or.inl rfl) (pe_and (pe_cmpR op_eq (pe_op op_mod (pe_op op_fdiv (pv 2) pe_int) pe_int) pe_int (nomark _)) (pe_one (pe_cmpR op_gt (pv 1) pe_int (nomark _)))))
        (Evl.pss_cut (ps_if (pt_val (pv 4)) (pss_one (ps_set (i := 3) sc_law_net.nd rfl (Or.inl rfl) (pe_op op_add pe_int (pe_op op_mod (pe_op op_fdiv (pv 2) pe_int) (pe_ix (ixL K) (pe_lst (pa_cons pe_int (pa_cons pe_int (pa_cons pe_int (pa_cons pe_int pa_nil))))) (pv 1) (fun _ _ => rfl)))))) pss_nil)
        (pss_cons (ps_set (i := 5) sc_law_net.nd rfl (Or.inl rfl) (pe_lst pa_nil))
        (pss_cons (ps_for PassesOwn.never rfl (pi_range1 (by rfl) B.range (pa_cons (pv 3) pa_nil)) (pg_name (i := 6) sc_law_net.nd rfl (Or.inl rfl))
        (pss_cons (ps_set (i := 7) sc_law_net.nd rfl (Or.inl rfl) (pe_cal C__law_cell_at (hr.mono (by decide)) (by rfl) (pa_cons (pv 0) (pa_cons (pe_op op_add pe_int (pv 6)) pa_nil))))
          (pss_cons (ps_set (i := 8) sc_law_net.nd rfl (Or.inl rfl) (pe_op op_mod (pv 7) (pe_op op_add (pv 6) pe_int)))
          (Evl.pss_cut (ps_if (PW.pt (pw_and (pt_val (pv 4)) (pw_and (pt_cmpR op_gt (pe_op op_mod (pv 7) pe_int) pe_int (nomark _)) (pw_and1 (pt_cmpR op_eq (pe_op op_mod (pe_op op_fdiv (pv 2) pe_int) pe_int) pe_int (nomark _)))))) (pss_one (ps_set (i := 8) sc_law_net.nd rfl (Or.inl rfl) (pv 6))) pss_nil)
          (pss_one (ps_expr (pe_bm PySem.F.plainAttrs_list PySem.F.slot_list_append PySem.F.type_list_append mt_append (pv 5) (pa_cons (pe_tup (pa_cons (pv 6) (pa_cons (pe_ix (ixL K) (pe_lst (pa_cons (pv 3) (pa_cons (pe_op op_sub (pv 8) pe_int) pa_nil))) (pe_callTy call_int1K (by rfl) B.int (by decide +kernel) (pa_cons (pe_cmpR op_gt (pv 8) pe_int (nomark _)) pa_nil)) (fun _ _ => rfl)) pa_nil))) pa_nil))))))))
        (pss_cons (ps_set (i := 9) sc_law_net.nd rfl (Or.inl rfl) (pe_op op_mod (pe_cal C__law_cell_at (hr.mono (by decide)) (by rfl) (pa_cons (pv 0) (pa_cons pe_int pa_nil))) pe_int))
        (Evl.pss_cut (ps_if (PW.pt (pw_and (pt_val (pv 4)) (pw_and1 (pt_cmpR op_lt (pv 1) pe_int (nomark _))))) (pss_one (ps_set (i := 9) sc_law_net.nd rfl (Or.inl rfl) (pe_op op_mod (pv 9) pe_int))) pss_nil)
        (Evl.pss_cut (ps_if (PW.pt (pw_and (pt_cmpR op_eq (pe_op op_mod (pe_op op_fdiv (pe_cal C__law_cell_at (hr.mono (by decide)) (by rfl) (pa_cons (pv 0) (pa_cons pe_int pa_nil))) pe_int) pe_int) pe_int (nomark _)) (pw_and1 (PW.pt (pw_or (pt_cmpR op_lt (pv 3) pe_int (nomark _)) (pw_or1 (pt_cmpR op_eq (pv 1) pe_int (nomark _)))))))) (pss_one (ps_set (i := 9) sc_law_net.nd rfl (Or.inl rfl) (pe_op op_sub pe_int (pv 3)))) pss_nil)
        (pss_cons (ps_for PassesOwn.never rfl (pi_range1 (by rfl) B.range (pa_cons (pe_op op_mul (pv 9) (pe_callTy call_int1K (by rfl) B.int (by decide +kernel) (pa_cons (pe_cmpR op_gt (pv 3) pe_int (nomark _)) pa_nil))) pa_nil)) (pg_name (i := 6) sc_law_net.nd rfl (Or.inl rfl))
        (pss_cons (ps_set (i := 7) sc_law_net.nd rfl (Or.inl rfl) (pe_cal C__law_mixed (hr.mono (by decide)) (by rfl) (pa_cons (pe_cal C__law_cell_at (hr.mono (by decide)) (by rfl) (pa_cons (pv 0) (pa_cons (pe_op op_add pe_int (pe_op op_mod (pv 6) pe_int)) pa_nil))) (pa_cons (pv 6) pa_nil))))
          (pss_cons (ps_set (i := 10) sc_law_net.nd rfl (Or.inl rfl) (pe_op op_mod (pv 7) (pe_op op_add (pv 3) pe_int)))
          (pss_one (ps_expr (pe_bm PySem.F.plainAttrs_list PySem.F.slot_list_append PySem.F.type_list_append mt_append (pv 5) (pa_cons (pe_tup (pa_cons (pv 10) (pa_cons (pe_op op_mod (pe_op op_add (pe_op op_add (pv 10) pe_int) (pe_op op_mod (pe_op op_fdiv (pv 7) pe_int) (pv 3))) (pe_op op_add (pv 3) pe_int)) pa_nil))) pa_nil)))))))
        (pss_cons (ps_set (i := 11) sc_law_net.nd rfl (Or.inl rfl) (pe_op op_mod (pe_cal C__law_cell_at (hr.mono (by decide)) (by rfl) (pa_cons (pv 0) (pa_cons pe_int pa_nil))) pe_int))
        (pss_cons (ps_set (i := 12) sc_law_net.nd rfl (Or.inl rfl) (pe_op op_mod (pe_cal C__law_cell_at (hr.mono (by decide)) (by rfl) (pa_cons (pv 0) (pa_cons pe_int pa_nil))) (pe_op op_add (pe_callB (callLen K) (by rfl) B.len (by decide +kernel) (pa_cons (pv 5) pa_nil)) pe_int)))
        (pss_cons (ps_set (i := 13) sc_law_net.nd rfl (Or.inl rfl) (pe_lst pa_nil))
        (pss_cons (ps_for PassesOwn.never rfl (piL K (pe_op op_cat (pe_slice (slL K) (pv 5) (po_some (pv 12)) po_none) (pe_slice (slL K) (pv 5) po_none (po_some (pv 12))))) (pg_tup (by rfl) (pgs_cons (pg_name (i := 10) sc_law_net.nd rfl (Or.inl rfl)) (pgs_cons (pg_name (i := 14) sc_law_net.nd rfl (Or.inl rfl)) pgs_nil)))
        (pss_cons (ps_set (i := 15) sc_law_net.nd rfl (Or.inl rfl) (pe_tup (pa_cons (pe_cal C__law_turned (hr.mono (by decide)) (by rfl) (pa_cons (pv 10) (pa_cons (pv 3) (pa_cons (pv 11) pa_nil)))) (pa_cons (pe_cal C__law_turned (hr.mono (by decide)) (by rfl) (pa_cons (pv 14) (pa_cons (pv 3) (pa_cons (pv 11) pa_nil)))) pa_nil))))
          (Evl.pss_cut (ps_if (pt_cmpR op_eq (pe_op op_mod (pe_op op_add (pe_op op_fdiv (pe_cal C__law_cell_at (hr.mono (by decide)) (by rfl) (pa_cons (pv 0) (pa_cons pe_int pa_nil))) pe_int) (pe_callB (callLen K) (by rfl) B.len (by decide +kernel) (pa_cons (pv 13) pa_nil))) pe_int) pe_int (nomark _)) (pss_one (ps_set (i := 15) sc_law_net.nd rfl (Or.inl rfl) (pe_tup (pa_cons (pe_ix (ixT K) (pv 15) pe_int (fun _ _ => rfl)) (pa_cons (pe_ix (ixT K) (pv 15) pe_int (fun _ _ => rfl)) pa_nil))))) pss_nil)
          (pss_one (ps_expr (pe_bm PySem.F.plainAttrs_list PySem.F.slot_list_append PySem.F.type_list_append mt_append (pv 13) (pa_cons (pv 15) pa_nil)))))))
        (pss_one (ps_ret (pe_tup (pa_cons (pv 3) (pa_cons (pv 13) pa_nil)))))))))))))))))))), ?_⟩
    refine Z.at_slots (σ := [some _, some _, none, none, none, none, none, none, none, none, none, none, none, none, none, none]) ?_
    walk_at "go"
    refine ⟨a, ns, 0, rfl, ha, fun H1 e1 => ?_⟩
    walk_at "gs"
    generalize hf : cellAt ns 0 = first
    refine z_andV2 (p := decide (first / 6 % 8 = 1)) (q := decide (0 < (lines : Int))) (by intro R q; walk_at "go"; exact q) (by intro R q; walk_at "go"; exact q) ?_
    walk_at "go"
    obtain ⟨m0, em0, lm0⟩ := emod_nat first (show 0 < 6 by omega)
    rw [show first % 6 = (m0 : Int) from em0]
    refine z_cut (fun σ' H' => ∃ n : Nat, σ' = [some (.ref a), some (.int lines), some (.int first), some (.int n), some (.bl (decide (first / 6 % 8 = 1) && decide (0 < (lines : Int)))), none, none, none, none, none, none, none, none, none, none, none] ∧ Ex H H' ∧ n ≤ netMost lines ∧ (lines = 0 → (n : Int) = first % 6)) ?_ ?_
    · walk_at "go"
      refine z_iteb (fun c => ?_) (fun c => ?_)
      · have c2 : 0 < lines := by
          rw [Bool.and_eq_true, decide_eq_true_eq, decide_eq_true_eq] at c; omega
        have c3 : lines = 1 ∨ lines = 2 ∨ lines = 3 := by omega
        rcases c3 with rfl | rfl | rfl
        all_goals
          walk_at "go"
          refine ⟨sz _, fun p np => ?_⟩
          walk_at "go"
          refine z_ixL (sq_of upd_same) rfl ?_
          walk_at "go"
        · obtain ⟨x, ex, lx⟩ := emod_nat (first / 48) (show 0 < 2 by omega)
          refine ⟨6 + x, ?_, ex_new e1 np, (by unfold netMost; rw [if_neg (by omega), if_pos rfl]; omega), fun z => by omega⟩
          rw [show (6 : Int) + first / 48 % 2 = ((6 + x : Nat) : Int) by omega]; rfl
        · obtain ⟨x, ex, lx⟩ := emod_nat (first / 48) (show 0 < 5 by omega)
          refine ⟨6 + x, ?_, ex_new e1 np, (by unfold netMost; rw [if_neg (by omega), if_neg (by omega)]; omega), fun z => by omega⟩
          rw [show (6 : Int) + first / 48 % 5 = ((6 + x : Nat) : Int) by omega]; rfl
        · obtain ⟨x, ex, lx⟩ := emod_nat (first / 48) (show 0 < 5 by omega)
          refine ⟨6 + x, ?_, ex_new e1 np, (by unfold netMost; rw [if_neg (by omega), if_neg (by omega)]; omega), fun z => by omega⟩
          rw [show (6 : Int) + first / 48 % 5 = ((6 + x : Nat) : Int) by omega]; rfl
      · walk_at "go"
        refine ⟨m0, rfl, e1, ?_, fun _ => em0.symm⟩
        unfold netMost
        split
        · omega
        · split <;> omega
    rintro σ' H2 ⟨n, rfl, e2, hn, hn0⟩
    generalize (decide (first / 6 % 8 = 1) && decide (0 < (lines : Int))) = line
    have hn10 : n ≤ 10 := by unfold netMost at hn; split at hn; omega; split at hn <;> omega
    walk_at "go"
    refine ⟨sz _, fun p np => ?_⟩
    walk_at "go"
    have fp : H p = none := fr e2 np
    refine z_forRV rfl (by omega) (fun i σ' H' => ∃ rs v6 v7 v8, σ' = [some (.ref a), some (.int lines), some (.int first), some (.int n), some (.bl line), some (.ref p), v6, v7, v8, none, none, none, none, none, none, none] ∧ Ex H H' ∧ RL H' p rs ∧ rs.length = i ∧ (∀ r ∈ rs, r.1 ≤ n ∧ r.2 ≤ n ∧ r.1 ≠ r.2) ∧ ∀ k, k < i → ∃ r ∈ rs, r.1 = k ∧ (r.2 = n ∨ r.2 < k)) ?_ ?_ ?_
    · exact ⟨[], _, _, _, rfl, ex_new e2 np, RL.nil upd_same, rfl, fun r hr => by (cases hr), fun k hk => by omega⟩
    · rintro i σ' H3 hi ⟨rs, v6, v7, v8, rfl, e3, hp, hlen, hok, hpar⟩
      walk_at "go"
      refine ⟨a, ns, 1 + i, rfl, ha.ex e3, fun H4 e4 => ?_⟩
      walk_at "go"
      generalize cellAt ns (1 + i) = cell
      obtain ⟨x0, ex0, lx0⟩ := emod_nat cell (show 0 < i + 1 by omega)
      rw [show cell % ((i : Int) + 1) = (x0 : Int) from ex0]
      walk_at "go"
      refine z_cut (fun σ' H' => ∃ x : Nat, σ' = [some (.ref a), some (.int lines), some (.int first), some (.int n), some (.bl line), some (.ref p), some (.int i), some (.int cell), some (.int x), none, none, none, none, none, none, none] ∧ H' = H4 ∧ x ≤ i) ?_ ?_
      · walk_at "go"
        refine z_iteb (fun c => ?_) (fun c => ?_) <;> walk_at "go"
        · refine z_ite (p := 0 < cell % 5) (fun c => ?_) (fun c => ?_) <;> walk_at "go"
          · refine z_ite (p := first / 240 % 2 = 0) (fun c => ?_) (fun c => ?_) <;> walk_at "go"
            · exact ⟨i, rfl, rfl, Nat.le_refl _⟩
            · exact ⟨x0, rfl, rfl, by omega⟩
          · exact ⟨x0, rfl, rfl, by omega⟩
        · exact ⟨x0, rfl, rfl, by omega⟩
      rintro σ' H5 ⟨x, rfl, rfl, lx⟩
      have hp4 := hp.ex e4
      obtain ⟨xs, hxs, hxl⟩ := hp4.at
      walk_at "go"
      refine ⟨tyL hxs, ?_⟩
      walk_at "go"
      refine ⟨sz _, fun q nq => ?_⟩
      walk_at "go"
      have ev : atI [V.int n, V.int ((x : Int) - 1)] (if decide (0 < (x : Int)) = true then 1 else 0) = some (V.int ((if 0 < x then x - 1 else n : Nat) : Int)) := by
        by_cases c : 0 < x
        · rw [decide_eq_true (by omega), if_pos c]
          show some (V.int ((x : Int) - 1)) = _
          rw [show ((x - 1 : Nat) : Int) = (x : Int) - 1 by omega]
        · rw [decide_eq_false (by omega), if_neg c]
          rfl
      refine z_ixL (sq_of upd_same) ev ?_
      walk_at "go"
      refine ⟨sz _, fun t nt => ?_⟩
      walk_at "go"
      have e5 : Ex H5 (upd (upd H5 q (.lst [.int n, .int ((x : Int) - 1)])) t (.tup [.int i, .int ((if 0 < x then x - 1 else n : Nat) : Int)])) := ex_new (Ex.new nq) nt
      refine z_app (e5 _ _ hxs) (by rw [hxl]; exact szl _) ?_
      refine ⟨rs ++ [(i, if 0 < x then x - 1 else n)], _, _, _, rfl, ex_mut ((e3.trans e4).trans e5) fp, (hp4.ex e5).app upd_same (e5 _ _ hxs), by rw [List.length_append, hlen]; rfl, ?_, ?_⟩
      · intro r hr
        rcases List.mem_append.mp hr with hr | hr
        · exact hok r hr
        · have : r = (i, if 0 < x then x - 1 else n) := by simpa using hr
          subst this
          refine ⟨by show i ≤ n; omega, ?_, ?_⟩
          · show (if 0 < x then x - 1 else n) ≤ n
            split <;> omega
          · show i ≠ (if 0 < x then x - 1 else n)
            split <;> omega
      · intro k hk
        by_cases c : k < i
        · obtain ⟨r, hr, h1, h2⟩ := hpar k c
          exact ⟨r, List.mem_append_left _ hr, h1, h2⟩
        · refine ⟨(i, if 0 < x then x - 1 else n), List.mem_append_right _ (by simp), by show i = k; omega, ?_⟩
          show (if 0 < x then x - 1 else n) = n ∨ (if 0 < x then x - 1 else n) < k
          split
          · right; omega
          · left; rfl
    · rintro σ' H3 ⟨rs, v6, v7, v8, rfl, e3, hp, hlen, hok, hpar⟩
      walk_at "go"
      refine ⟨a, ns, 11, rfl, ha.ex e3, fun H4 e4 => ?_⟩
      walk_at "go"
      generalize cellAt ns 11 = c11
      obtain ⟨s0, es0, ls0⟩ := emod_nat c11 (show 0 < 6 by omega)
      rw [show c11 % 6 = (s0 : Int) from es0]
      walk_at "go"
      refine z_cut (fun σ' H' => ∃ s : Nat, σ' = [some (.ref a), some (.int lines), some (.int first), some (.int n), some (.bl line), some (.ref p), v6, v7, v8, some (.int s), none, none, none, none, none, none] ∧ H' = H4 ∧ s < 6) ?_ ?_
      · walk_at "go"
        refine z_iteb (fun c => ?_) (fun c => ?_) <;> walk_at "go"
        · refine z_ite (p := (lines : Int) < 3) (fun c => ?_) (fun c => ?_) <;> walk_at "go"
          · exact ⟨s0 % 3, rfl, rfl, by omega⟩
          · exact ⟨s0, rfl, rfl, ls0⟩
        · exact ⟨s0, rfl, rfl, ls0⟩
      rintro σ' H5 ⟨s, rfl, rfl, ls⟩
      walk_at "go"
      refine z_cut (fun σ' H' => ∃ s : Nat, σ' = [some (.ref a), some (.int lines), some (.int first), some (.int n), some (.bl line), some (.ref p), v6, v7, v8, some (.int s), none, none, none, none, none, none] ∧ Ex H5 H' ∧ s + n ≤ 40) ?_ ?_
      · walk_at "go"
        refine ⟨a, ns, 11, rfl, ha.ex (e3.trans e4), fun H6 e6 => ?_⟩
        walk_at "go"
        refine z_ite (fun c => ?_) (fun c => ?_) <;> walk_at "go"
        · refine z_ite (p := (n : Int) < 3) (fun c => ?_) (fun c => ?_) <;> walk_at "go"
          · refine ⟨40 - n, ?_, e6, by omega⟩
            rw [show (40 : Int) - (n : Int) = ((40 - n : Nat) : Int) by omega]; rfl
          · refine z_ite (p := (lines : Int) = 3) (fun c => ?_) (fun c => ?_) <;> walk_at "go"
            · refine ⟨40 - n, ?_, e6, by omega⟩
              rw [show (40 : Int) - (n : Int) = ((40 - n : Nat) : Int) by omega]; rfl
            · exact ⟨s, rfl, e6, by omega⟩
        · exact ⟨s, rfl, e6, by omega⟩
      rintro σ' H6 ⟨s, rfl, e6, ls⟩
      have e06 := (e3.trans e4).trans e6
      have hp6 := hp.ex (e4.trans e6)
      walk_at "go"
      refine z_for ?_
      walk_at "go"
      rw [show (s : Int) * (if decide (0 < (n : Int)) = true then 1 else 0) = ((if 0 < n then s else 0 : Nat) : Int) by
        by_cases c : 0 < n
        · rw [decide_eq_true (by omega), if_pos c]; simp
        · rw [decide_eq_false (by omega), if_neg c]; simp]
      have hsn : (if 0 < n then s else 0) ≤ s := by split <;> omega
      refine z_rloop (by omega) (fun i σ' H' => ∃ rs v6 v7 v10, σ' = [some (.ref a), some (.int lines), some (.int first), some (.int n), some (.bl line), some (.ref p), v6, v7, v8, some (.int s), v10, none, none, none, none, none] ∧ Ex H H' ∧ RL H' p rs ∧ rs.length = n + i ∧ (∀ r ∈ rs, r.1 ≤ n ∧ r.2 ≤ n ∧ r.1 ≠ r.2) ∧ ∀ k, k < n → ∃ r ∈ rs, r.1 = k ∧ (r.2 = n ∨ r.2 < k)) ?_ ?_ ?_
      · exact ⟨rs, _, _, _, rfl, e06, hp6, hlen, hok, hpar⟩
      · rintro i σ' H7 hi ⟨rs, v6, v7, v10, rfl, e7, hp7, hlen, hok, hpar⟩
        have hn0' : 0 < n := by
          refine Decidable.byContradiction fun c => ?_
          rw [if_neg c] at hi; omega
        walk_at "go"
        refine ⟨a, ns, 12 + i % 5, rfl, ha.ex e7, fun H8 e8 => ?_⟩
        walk_at "go"
        generalize cellAt ns (12 + i % 5) = cell0
        refine ⟨cell0, i, rfl, by omega, fun cell => ?_⟩
        walk_at "go"
        obtain ⟨x, ex, lx⟩ := emod_nat cell (show 0 < n + 1 by omega)
        rw [show cell % ((n : Int) + 1) = (x : Int) from ex]
        have hp8 := hp7.ex e8
        obtain ⟨xs, hxs, hxl⟩ := hp8.at
        walk_at "go"
        refine ⟨tyL hxs, ?_⟩
        walk_at "go"
        obtain ⟨y, ey, ly⟩ := emod_nat (cell / 11) hn0'
        rw [show cell / 11 % (n : Int) = (y : Int) from ey]
        walk_at "go"
        rw [show ((x : Int) + 1 + (y : Int)) % ((n : Int) + 1) = (((x + (1 + y)) % (n + 1) : Nat) : Int) by
          rw [Int.natCast_emod, Int.natCast_add, Int.natCast_add, Int.natCast_add, Int.add_assoc]; rfl]
        obtain ⟨o1, o2⟩ := other_end (n := n) (x := x) (d := 1 + y) (by omega) (by omega) (by omega)
        generalize (x + (1 + y)) % (n + 1) = o at o1 o2
        walk_at "go"
        refine ⟨sz _, fun t nt => ?_⟩
        walk_at "go"
        have e9 : Ex H8 (upd H8 t (.tup [.int x, .int o])) := Ex.new nt
        refine z_app (e9 _ _ hxs) (by rw [hxl]; exact szl _) ?_
        refine ⟨rs ++ [(x, o)], _, _, _, rfl, ex_mut ((e7.trans e8).trans e9) fp, (hp8.ex e9).app upd_same (e9 _ _ hxs), by rw [List.length_append, hlen]; show n + i + 1 = n + (i + 1); omega, ?_, ?_⟩
        · intro r hr
          rcases List.mem_append.mp hr with hr | hr
          · exact hok r hr
          · have : r = (x, o) := by simpa using hr
            subst this
            exact ⟨by show x ≤ n; omega, o1, fun z => o2 z.symm⟩
        · intro k hk
          obtain ⟨r, hr, h1, h2⟩ := hpar k hk
          exact ⟨r, List.mem_append_left _ hr, h1, h2⟩
      · rintro σ' H7 ⟨rs, v6, v7, v10, rfl, e7, hp7, hlen, hok, hpar⟩
        have N := Net.base hok hpar
        have hl40 : rs.length ≤ 40 := by omega
        walk_at "go"
        refine ⟨a, ns, 17, rfl, ha.ex e7, fun H8 e8 => ?_⟩
        walk_at "go"
        generalize cellAt ns 17 = c17
        obtain ⟨sh, esh, _⟩ := emod_nat c17 (show 0 < 32 by omega)
        rw [show c17 % 32 = (sh : Int) from esh]
        walk_at "go"
        refine ⟨a, ns, 18, rfl, ha.ex (e7.trans e8), fun H9 e9 => ?_⟩
        walk_at "go"
        generalize cellAt ns 18 = c18
        have hp9 := hp7.ex (e8.trans e9)
        refine z_lenDt (hp9.dt) ?_
        walk_at "go"
        obtain ⟨at', eat, lat⟩ := emod_nat c18 (show 0 < rs.length + 1 by omega)
        rw [show c18 % ((rs.length : Int) + 1) = (at' : Int) from eat]
        walk_at "go"
        refine ⟨sz _, fun g ng => ?_⟩
        walk_at "go"
        have fg : H g = none := fr ((e7.trans e8).trans e9) ng
        have e10 : Ex H (upd H9 g (.lst [])) := ex_new ((e7.trans e8).trans e9) ng
        have hp10 : RL (upd H9 g (.lst [])) p rs := hp9.ex (Ex.new ng)
        have hg10 : (upd H9 g (.lst [])) g = some (.lst []) := upd_same
        generalize (upd H9 g (.lst [])) = H10 at e10 hp10 hg10
        obtain ⟨ts, hts, htt⟩ := id hp10
        have htl := htt.len
        refine z_for ?_
        walk_at "go"
        refine z_slL (sq_of hts) fun p1 np1 => ?_
        walk_at "go"
        have h11 : Ex H10 (upd H10 p1 (.lst (cutV (ts.map V.ref) (some (at' : Int)) none))) := Ex.new np1
        refine z_slL (sq_of (h11 _ _ hts)) fun p2 np2 => ?_
        rw [cutV_from, cutV_to] at *
        have h12 : Ex H10 (upd (upd H10 p1 (.lst ((ts.map V.ref).drop at'))) p2 (.lst ((ts.map V.ref).take at'))) := ex_new h11 np2
        refine z_cat (upd_at upd_same (ne_fr upd_same np2)) upd_same (by rw [List.length_drop, List.length_take, List.length_map]; exact sz _) fun p3 np3 => ?_
        have fp3 : H p3 = none := fr (e10.trans h12) np3
        have h13 := ex_new (o := .lst ((ts.map V.ref).drop at' ++ (ts.map V.ref).take at')) h12 np3
        have gp3 : g ≠ p3 := ne_fr (h12 _ _ hg10) np3
        have hp13 : (upd (upd (upd H10 p1 (.lst ((ts.map V.ref).drop at'))) p2 (.lst ((ts.map V.ref).take at'))) p3 (.lst ((ts.map V.ref).drop at' ++ (ts.map V.ref).take at'))) p3 = some (.lst ((ts.map V.ref).drop at' ++ (ts.map V.ref).take at')) := upd_same
        generalize (upd (upd (upd H10 p1 (.lst ((ts.map V.ref).drop at'))) p2 (.lst ((ts.map V.ref).take at'))) p3 (.lst ((ts.map V.ref).drop at' ++ (ts.map V.ref).take at'))) = H13 at h13 hp13 ⊢
        have hg13 := h13 _ _ hg10
        have dall : DtAll K (hid H13 g) ((ts.map V.ref).drop at' ++ (ts.map V.ref).take at') (rs.drop at' ++ rs.take at') := by
          have z := (htt.keep ((KeepT.of h13).trans (KeepT.hid hg13))).all (K := K)
          exact (z.drop at').append (z.take at')
        have eb : Ex H (hid H13 g) := ex_base_hid (e10.trans h13) fg
        have mem : ∀ r, r ∈ rs.drop at' ++ rs.take at' ↔ r ∈ rs := fun r => by
          conv => rhs; rw [← List.take_append_drop at' rs]
          rw [List.mem_append, List.mem_append]; exact Or.comm
        refine z_loop (Hb := hid H13 g) (dt_lst (sq_of (hid_at hp13 gp3.symm)) dall) (fun pre σ' H' => ∃ fs v10 v14 v15, σ' = [some (.ref a), some (.int lines), some (.int first), some (.int n), some (.bl line), some (.ref p), v6, v7, v8, some (.int s), v10, some (.int sh), some (.int at'), some (.ref g), v14, v15] ∧ Ex (hid H13 g) H' ∧ RL H' g fs ∧ fs.length = pre.length ∧
          (∀ q ∈ fs, ∃ r ∈ pre, q = (turn n sh r.1, turn n sh r.2) ∨ q = (turn n sh r.2, turn n sh r.1)) ∧ ∀ r ∈ pre, (turn n sh r.1, turn n sh r.2) ∈ fs ∨ (turn n sh r.2, turn n sh r.1) ∈ fs) ?_ ?_ ?_ ?_
        · exact ⟨[], _, _, _, rfl, ex_hid _ _, RL.nil hg13, rfl, fun q hq => by (cases hq), fun q hq => by (cases hq)⟩
        · rintro _ _ _ ⟨_, _, _, _, _, e, _⟩; exact e
        · rintro pre r post v σ' H14 er hv ⟨fs, v10, v14, v15, rfl, e14, hfs, lfs, f1, f2⟩
          obtain ⟨t, rfl, ht⟩ := hv.road
          have hrm : r ∈ rs := (mem r).mp (by rw [er]; simp)
          obtain ⟨b1, b2, b3⟩ := hok r hrm
          refine z_gtup2 (ex_t e14 ht) ?_
          walk_at "go"
          refine ⟨r.1, n, sh, rfl, b1, ?_⟩
          walk_at "go"
          refine ⟨r.2, n, sh, rfl, b2, ?_⟩
          walk_at "go"
          refine ⟨sz _, fun t1 nt1 => ?_⟩
          walk_at "go"
          refine z_cut (fun σ' H' => ∃ (t2 : Addr) (x y : Nat), σ' = [some (.ref a), some (.int lines), some (.int first), some (.int n), some (.bl line), some (.ref p), v6, v7, v8, some (.int s), some (.int r.1), some (.int sh), some (.int at'), some (.ref g), some (.int r.2), some (.ref t2)] ∧ Ex H14 H' ∧ H' t2 = some (.tup [.int x, .int y]) ∧ ((x = turn n sh r.1 ∧ y = turn n sh r.2) ∨ (x = turn n sh r.2 ∧ y = turn n sh r.1))) ?_ ?_
          · have e15 : Ex H14 (upd H14 t1 (.tup [.int (turn n sh r.1), .int (turn n sh r.2)])) := Ex.new nt1
            walk_at "go"
            refine ⟨a, ns, 18, rfl, ha.ex (eb.trans (e14.trans e15)), fun H16 e16 => ?_⟩
            walk_at "go"
            refine z_lenDt ((hfs.ex (e15.trans e16)).dt) ?_
            walk_at "go"
            refine z_ite (fun c => ?_) (fun c => ?_)
            · have ht1 : SqT K H16 t1 [.int (turn n sh r.1), .int (turn n sh r.2)] := st_of (e16 _ _ upd_same)
              walk_at "go"
              refine ⟨sz _, fun t2 nt2 => ?_⟩
              walk_at "go"
              exact ⟨t2, turn n sh r.2, turn n sh r.1, rfl, ex_new (e15.trans e16) nt2, upd_same, .inr ⟨rfl, rfl⟩⟩
            · walk_at "go"
              exact ⟨t1, turn n sh r.1, turn n sh r.2, rfl, e15.trans e16, e16 _ _ upd_same, .inl ⟨rfl, rfl⟩⟩
          rintro σ' H17 ⟨t2, x, y, rfl, e17, ht2, hxy⟩
          have hfs17 := hfs.ex e17
          obtain ⟨xs, hxs, hxl⟩ := hfs17.at
          walk_at "go"
          refine ⟨tyL hxs, ?_⟩
          walk_at "go"
          have lfs2 : fs.length ≤ rs.length := by
            rw [lfs]
            have := congrArg List.length er
            rw [List.length_append, List.length_append, List.length_drop, List.length_take] at this
            omega
          refine z_app hxs (by rw [hxl]; exact szl _) ?_
          refine ⟨fs ++ [(x, y)], _, _, _, rfl, ex_hid_upd (e14.trans e17), hfs17.app ht2 hxs, by rw [List.length_append, List.length_append, lfs]; rfl, ?_, ?_⟩
          · intro q hq
            rcases List.mem_append.mp hq with hq | hq
            · obtain ⟨r', h1, h2⟩ := f1 q hq
              exact ⟨r', List.mem_append_left _ h1, h2⟩
            · have : q = (x, y) := by simpa using hq
              subst this
              refine ⟨r, List.mem_append_right _ (by simp), ?_⟩
              rcases hxy with ⟨rfl, rfl⟩ | ⟨rfl, rfl⟩
              · exact .inl rfl
              · exact .inr rfl
          · intro r' hr'
            rcases List.mem_append.mp hr' with hr' | hr'
            · rcases f2 r' hr' with h | h
              · exact .inl (List.mem_append_left _ h)
              · exact .inr (List.mem_append_left _ h)
            · have : r' = r := by simpa using hr'
              subst this
              rcases hxy with ⟨rfl, rfl⟩ | ⟨rfl, rfl⟩
              · exact .inl (List.mem_append_right _ (by simp))
              · exact .inr (List.mem_append_right _ (by simp))
        · rintro σ' H14 ⟨fs, v10, v14, v15, rfl, e14, hfs, lfs, f1, f2⟩
          walk_at "go"
          refine ⟨sz _, fun t nt => ?_⟩
          walk_at "go"
          have N2 : Net n fs := N.turned sh (fun q hq => by
            obtain ⟨r, h1, h2⟩ := f1 q hq
            exact ⟨r, (mem r).mp h1, h2⟩) fun r hr => f2 r ((mem r).mpr hr)
          have lfs2 : fs.length ≤ 40 := by
            rw [lfs, List.length_append, List.length_drop, List.length_take]; omega
          obtain ⟨xs, hxs, _⟩ := hfs.at
          refine hq n fs t g _ hn lfs2 N2 (fun z => by rw [hf]; exact hn0 z) (fr (eb.trans e14) nt) fg (ne_fr hxs nt).symm (ex_new (eb.trans e14) nt) upd_same (hfs.ex (Ex.new nt))
theorem ok_law_degrees {f : Addr} {fd : FuncData} (T : Fn K mg "_law_degrees" s_law_degrees f fd ["_law_many", "_law_roads"]) (B : Bf mg) (ZE : Er cls K mg)  : Cal P w K mg base CX0 1 "_law_degrees" ["_law_many", "_law_roads"] (sp_law_degrees K) := by
  refine T.ok sc_law_degrees (fun vs H Q E h => ?_) (fun cdv A outer s H vs Q E hr h => ?_)
  · obtain ⟨_, _, _, rfl, _⟩ := h; rfl
  · have hu := hu_of hr
    obtain ⟨n, a, rs, rfl, hn, ha, hq⟩ := h
    refine ⟨_, ((pss_cons (ps_set (i := 2) sc_law_degrees.nd rfl (Or.inl rfl) (pe_op op_rep (pe_lst (pa_cons pe_int pa_nil)) (pv 0)))
        (pss_cons (ps_for PassesOwn.never rfl (piL K (pv 1)) (pg_tup (by rfl) (pgs_cons (pg_name (i := 3) sc_law_degrees.nd rfl (Or.inl rfl)) (pgs_cons (pg_name (i := 4) sc_law_degrees.nd rfl (Or.inl rfl)) pgs_nil)))
        (pss_one (ps_for PassesOwn.never rfl (piL K (pe_lst (pa_cons (pv 3) (pa_cons (pv 4) pa_nil)))) (pg_name (i := 5) sc_law_degrees.nd rfl (Or.inl rfl))
          (pss_one (ps_if (pt_cmpR op_lt (pv 5) (pv 0) (nomark _)) (pss_one (ps_asg (pe_op op_add (pe_ix (ixL K) (pv 2) (pv 5) (fun _ _ => rfl)) pe_int) (pg_sub (pv 2) (pv 5) set_list))) pss_nil)))))
        (pss_one (ps_ret (pv 2)))))), ?_⟩
    refine Z.at_slots (σ := [some _, some _, none, none, none, none]) ?_
    walk_at "go"
    refine ⟨sz _, fun p0 np0 => ?_⟩
    walk_at "go"
    refine z_rep (n := n) upd_same (by omega) fun p np => ?_
    rw [tabV_rep]
    walk_at "go"
    have e0 : Ex H (upd (upd H p0 (.lst [.int 0])) p (.lst ((tab n fun _ => 0).map V.int))) := ex_new (Ex.new np0) np
    have fp : H p = none := fr (Ex.new np0) np
    refine z_forV ha rfl (fun pre σ' H' => ∃ v3 v4 v5, σ' = [some (.int n), some (.ref a), some (.ref p), v3, v4, v5] ∧ Ex H H' ∧ H' p = some (.lst ((tab n (deg pre)).map V.int))) ?_ ?_ ?_ ?_
    · exact ⟨_, _, _, rfl, e0, upd_same⟩
    · rintro pre σ' H' ⟨_, _, _, _, e, _⟩; exact e
    · rintro pre r post v σ' H' er hv ⟨v3, v4, v5, rfl, e, hp⟩
      obtain ⟨t, rfl, ht⟩ := hv.road
      refine z_gtup2 (ex_t e ht) ?_
      walk_at "go"
      refine z_for ?_
      walk_at "go"
      refine ⟨sz _, fun q nq => ?_⟩
      refine z_loop (α := Nat) (xs := [r.1, r.2]) (Hb := upd H q (.lst [.int r.1, .int r.2])) (dt_lst (sq_of upd_same) (da_nats [r.1, r.2]))
        (fun p2 σ2 H2 => ∃ v5, σ2 = [some (.int n), some (.ref a), some (.ref p), some (.int r.1), some (.int r.2), v5] ∧ Ex (upd H q (.lst [.int r.1, .int r.2])) H2 ∧ H2 p = some (.lst ((tab n fun k => deg pre k + inds p2 k).map V.int))) ?_ ?_ ?_ ?_
      · refine ⟨_, rfl, ?_, ?_⟩
        · intro b o hb
          by_cases c : b = q
          · subst c; rw [upd_same] at hb ⊢; exact hb
          · rw [upd_ne c] at hb ⊢; exact e _ _ hb
        · rw [upd_at hp (ne_fr hp nq)]
          simp only [inds, Int.add_zero]
      · rintro _ _ _ ⟨_, _, h, _⟩; exact h
      · rintro p2 x post2 vx σ2 H2 ex2 hx ⟨v5, rfl, e2, hp2⟩
        cases hx.nat
        walk_at "go"
        have fp2 : (upd H q (.lst [.int r.1, .int r.2])) p = none := by rw [upd_ne (ne_fr hp nq)]; exact fp
        refine z_ite (fun c => ?_) (fun c => ?_) <;> walk_at "go"
        · have c : x < n := by omega
          refine z_ixL (sq_of hp2) (atI_tab _ c) ?_
          walk_at "go"
          refine z_setL hp2 (by rw [tabV_len]; exact c) ?_
          refine ⟨_, rfl, ex_mut e2 fp2, ?_⟩
          rw [upd_same, tabV_set _ _ c, fup_ind]
          simp only [inds_snoc, Int.add_assoc]
        · refine ⟨_, rfl, e2, ?_⟩
          rw [hp2, tab_ind (a := x) _ (by omega)]
          simp only [inds_snoc, Int.add_assoc]
      · rintro σ2 H2 ⟨v5, rfl, e2, hp2⟩
        refine ⟨_, _, _, rfl, fun b o hb => e2 b o (upd_at hb (ne_fr (e _ _ hb) nq)), ?_⟩
        rw [hp2, tab_congr]
        intro k _
        exact (deg_snoc2 _ _ _).symm
    · rintro σ' H' ⟨v3, v4, v5, rfl, e, hp⟩
      walk_at "go"
      exact hq p H' fp e hp
theorem ok_law_room {f : Addr} {fd : FuncData} (T : Fn K mg "_law_room" s_law_room f fd ["_law_many", "_law_roads"]) (B : Bf mg) (ZE : Er cls K mg) (C__law_degrees : Cal P w K mg base CX0 1 "_law_degrees" ["_law_many", "_law_roads"] (sp_law_degrees K))  : Cal P w K mg base CX0 2 "_law_room" ["_law_many", "_law_roads"] (sp_law_room K) := by
  refine T.ok sc_law_room (fun vs H Q E h => ?_) (fun cdv A outer s H vs Q E hr h => ?_)
  · obtain ⟨_, _, _, rfl, _⟩ := h; rfl
  · have hu := hu_of hr
    obtain ⟨n, a, rs, rfl, hn, hl, ha, hq⟩ := h
    refine ⟨_, ((pss_cons (ps_set (i := 2) sc_law_room.nd rfl (Or.inl rfl) pe_int)
        (pss_cons (ps_for PassesOwn.never rfl (piL K (pe_cal C__law_degrees (hr.mono (by decide)) (by rfl) (pa_cons (pv 0) (pa_cons (pv 1) pa_nil)))) (pg_name (i := 3) sc_law_room.nd rfl (Or.inl rfl))
        (pss_one (ps_set (i := 2) sc_law_room.nd rfl (Or.inl rfl) (pe_op op_mul (pv 2) (pv 3)))))
        (pss_one (ps_ret (pv 2)))))), ?_⟩
    refine Z.at_slots (σ := [some _, some _, none, none]) ?_
    walk_at "go"
    dsimp only
    refine z_for ?_
    walk_at "go"
    refine ⟨n, a, rs, rfl, by omega, ha, fun m H1 nm e1 hm => ?_⟩
    refine z_loop (α := Int) (Hb := H1) (xs := tab n (deg rs)) (dt_intsH hm) (fun pre σ' H' => ∃ v3, σ' = [some (.int n), some (.ref a), some (.int (prodT (deg rs) pre.length)), v3] ∧ H' = H1) ?_ ?_ ?_ ?_
    · exact ⟨_, rfl, rfl⟩
    · rintro _ _ _ ⟨_, _, rfl⟩; exact Ex.refl _
    · rintro pre y post v σ' H' er hy ⟨v3, rfl, rfl⟩
      cases hy.int
      obtain ⟨hp, rfl⟩ := tab_split er
      have d1 := deg_le rs pre.length
      have d0 := deg_nn rs pre.length
      walk_at "go"
      first | (refine z_I (C := CMul) (Or.inr ⟨by omega, by omega⟩) ?_; walk_at "go") | skip
      refine ⟨some (.int (deg rs pre.length)), ?_, rfl⟩
      rw [List.length_append, List.length_singleton]
      rfl
    · rintro σ' H' ⟨v3, rfl, rfl⟩
      walk_at "go"
      rw [tab_len]
      exact hq _ e1
theorem ok_law_small {f : Addr} {fd : FuncData} (T : Fn K mg "_law_small" s_law_small f fd ["_law_script"]) (B : Bf mg) (ZE : Er cls K mg) (C__law_cell_at : Cal P w K mg base CX0 1 "_law_cell_at" ["_law_script", "_law_k"] (sp_law_cell_at K)) (C__law_net : Cal P w K mg base CX0 2 "_law_net" ["_law_script", "_law_lines"] (sp_law_net K)) (C__law_room : Cal P w K mg base CX0 2 "_law_room" ["_law_many", "_law_roads"] (sp_law_room K))  : Cal P w K mg base CX0 3 "_law_small" ["_law_script"] (sp_law_small K) := by
  refine T.ok sc_law_small (fun vs H Q E h => ?_) (fun cdv A outer s H vs Q E hr h => ?_)
  · obtain ⟨_, _, rfl, _⟩ := h; rfl
  · have hu := hu_of hr
    obtain ⟨s0, ns, rfl, hnl, hs, hq⟩ := h
    refine ⟨_, ((pss_cons (ps_asg (pe_cal C__law_net (hr.mono (by decide)) (by rfl) (pa_cons (pe_op op_cat (pe_lst (pa_cons (pe_op op_mod (pe_cal C__law_cell_at (hr.mono (by decide)) (by rfl) (pa_cons (pv 0) (pa_cons pe_int pa_nil))) pe_int) pa_nil)) (pe_slice (slL K) (pv 0) (po_some pe_int) po_none)) (pa_cons pe_int pa_nil))) (pg_tup (by rfl) (pgs_cons (pg_name (i := 1) sc_law_small.nd rfl (Or.inl rfl)) (pgs_cons (pg_name (i := 2) sc_law_small.nd rfl (Or.inl rfl)) pgs_nil))))
        (pss_cons (ps_set (i := 3) sc_law_small.nd rfl (Or.inl rfl) (pe_lst pa_nil))
        (pss_cons (ps_set (i := 4) sc_law_small.nd rfl (Or.inl rfl) (pe_disp (pps_cons (pv 1) pe_bl pps_nil) (by rfl) (by rfl) (fun z => by cases z) (by decide)))
        (pss_cons (ps_for PassesOwn.never rfl (pi_range1 (by rfl) B.range (pa_cons (pv 1) pa_nil)) (pg_name (i := 5) sc_law_small.nd rfl (Or.inl rfl))
        (pss_one (ps_for PassesOwn.never rfl (piL K (pv 2)) (pg_tup (by rfl) (pgs_cons (pg_name (i := 6) sc_law_small.nd rfl (Or.inl rfl)) (pgs_cons (pg_name (i := 7) sc_law_small.nd rfl (Or.inl rfl)) pgs_nil)))
          (pss_one (ps_if (pt_cmpR op_ne (pe_cmp (pc_din hu (pv 6) (pv 4)) rfl) (pe_cmp (pc_din hu (pv 7) (pv 4)) rfl) (nomark _)) (pss_cons (ps_dput hu (pv 4) (pv 6) pe_bl rfl)
              (pss_cons (ps_dput hu (pv 4) (pv 7) pe_bl rfl)
              (pss_one (ps_expr (pe_bm PySem.F.plainAttrs_list PySem.F.slot_list_append PySem.F.type_list_append mt_append (pv 3) (pa_cons (pe_tup (pa_cons (pv 6) (pa_cons (pv 7) pa_nil))) pa_nil)))))) pss_nil)))))
        (pss_cons (ps_set (i := 3) sc_law_small.nd rfl (Or.inl rfl) (pe_op op_cat (pv 3) (pe_slice (slL K) (pv 2) po_none (po_some (pe_op op_mod (pe_cal C__law_cell_at (hr.mono (by decide)) (by rfl) (pa_cons (pv 0) (pa_cons pe_int pa_nil))) pe_int)))))
        (pss_cons (ps_while PassesOwn.never (PW.pt (pw_and (pt_cmpR op_gt (pe_callB (callLen K) (by rfl) B.len (by decide +kernel) (pa_cons (pv 3) pa_nil)) (pv 1) (nomark _)) (pw_and1 (pt_cmpR op_gt (pe_cal C__law_room (hr.mono (by decide)) (by rfl) (pa_cons (pv 1) (pa_cons (pv 3) pa_nil))) pe_int (nomark _)))))
        (pss_one (ps_set (i := 3) sc_law_small.nd rfl (Or.inl rfl) (pe_slice (slL K) (pv 3) po_none (po_some (pe_un un_neg pe_int))))))
        (pss_cons (ps_set (i := 8) sc_law_small.nd rfl (Or.inl rfl) (pe_op op_mod (pe_op op_fdiv (pe_cal C__law_cell_at (hr.mono (by decide)) (by rfl) (pa_cons (pv 0) (pa_cons pe_int pa_nil))) pe_int) (pe_op op_add (pe_callB (callLen K) (by rfl) B.len (by decide +kernel) (pa_cons (pv 3) pa_nil)) pe_int)))
        (pss_one (ps_ret (pe_tup (pa_cons (pv 1) (pa_cons (pe_op op_cat (pe_slice (slL K) (pv 3) (po_some (pv 8)) po_none) (pe_slice (slL K) (pv 3) po_none (po_some (pv 8)))) pa_nil))))))))))))), ?_⟩
    refine Z.at_slots (σ := [some _, none, none, none, none, none, none, none, none]) ?_
    walk_at "go"
    refine ⟨s0, ns, 0, rfl, dt_ints hs, fun G1 g1 => ?_⟩
    walk_at "go"
    generalize hc : cellAt ns 0 % 4 = c
    have hc0 : 0 ≤ c ∧ c < 4 := ⟨by rw [← hc]; exact Int.emod_nonneg _ (by omega), by rw [← hc]; exact Int.emod_lt_of_pos _ (by omega)⟩
    refine ⟨sz _, fun p1 np1 => ?_⟩
    have g2 := ex_new (o := .lst [.int c]) g1 np1
    have hp1 : (upd G1 p1 (.lst [.int c])) p1 = some (.lst [.int c]) := upd_same
    generalize (upd G1 p1 (.lst [.int c])) = G2 at g2 hp1 ⊢
    walk_at "go"
    refine z_slL (ex_l g2 hs) fun p2 np2 => ?_
    have ec : (1 : Int) = ((1 : Nat) : Int) := rfl
    rw [ec, cutV_from]
    refine z_cat (upd_at hp1 (ne_fr hp1 np2)) upd_same (by rw [List.length_drop, List.length_map]; exact sz _ (by show 1 + _ ≤ _; omega)) fun p3 np3 => ?_
    have g3 := ex_new (o := .lst ([.int c] ++ (ns.map V.int).drop 1)) (ex_new (o := .lst ((ns.map V.int).drop 1)) g2 np2) np3
    have e3 : ([V.int c] ++ (ns.map V.int).drop 1) = (c :: ns.drop 1).map V.int := by rw [List.map_cons, List.map_drop]; rfl
    rw [e3] at g3 ⊢
    have hp3 : (upd (upd G2 p2 (.lst ((ns.map V.int).drop 1))) p3 (.lst ((c :: ns.drop 1).map V.int))) p3 = some (.lst ((c :: ns.drop 1).map V.int)) := upd_same
    generalize (upd (upd G2 p2 (.lst ((ns.map V.int).drop 1))) p3 (.lst ((c :: ns.drop 1).map V.int))) = G3 at g3 hp3 ⊢
    walk_at "go"
    refine ⟨p3, c :: ns.drop 1, 0, rfl, by omega, dt_intsH hp3, fun n rs t0 a H1 hn5 hrs N h0 ft fa nta e1 ht0 hrr => ?_⟩
    have hn : n ≤ 3 := by
      have := h0 rfl
      rw [cellAt_head] at this
      omega
    have e01 := g3.trans e1
    refine z_gtup2 (st_of ht0) ?_
    walk_at "go"
    refine ⟨sz _, fun q nq => ?_⟩
    walk_at "go"
    refine z_disp1 (k := (n : Int)) (v := .bl true) (fun H1 R q => z_var rfl q) (fun H1 R q => q) fun d nd => ?_
    walk_at "go"
    have ek : ([((Sum.inl (n : Int) : Key), V.bl true)] : List (Key × V)) = keysD [n] := rfl
    rw [ek]
    have e2 := ex_new (o := .dK (keysD [n])) (Ex.new (o := .lst []) nq) nd
    have nqd : q ≠ d := ne_fr upd_same nd
    have hd0 : (upd (upd H1 q (.lst [])) d (.dK (keysD [n]))) d = some (.dK (keysD [n])) := upd_same
    have hq0 : RL (upd (upd H1 q (.lst [])) d (.dK (keysD [n]))) q (rsT rs []) := RL.nil (upd_at upd_same nqd)
    have fd : H1 d = none := fr (Ex.new nq) nd
    generalize (upd (upd H1 q (.lst [])) d (.dK (keysD [n]))) = G at e2 hd0 hq0 ⊢
    have hrr0 := hrr
    obtain ⟨ts, hats, htups⟩ := hrr
    have haq : a ≠ q := ne_fr hats nq
    have had : a ≠ d := ne_fr hats fd
    refine z_forRV rfl (by omega) (fun i σ' H' => ∃ (ks T : List Nat) (v5 v6 v7 : Option V), σ' = [some (.ref s0), some (.int n), some (.ref a), some (.ref q), some (.ref d), v5, v6, v7, none] ∧ Ex H1 H' ∧ H' d = some (.dK (keysD ks)) ∧ RL H' q (rsT rs T) ∧ Tk n rs T ks ∧ i + 1 ≤ ks.length) ?_ ?_ ?_
    · exact ⟨[n], [], _, _, _, rfl, e2, hd0, hq0, Tk.start n rs, Nat.le_refl _⟩
    · rintro i σ' H' hi ⟨ks, T, v5, v6, v7, rfl, e, hd, hR, M, hk⟩
      walk_at "go"
      refine z_forV (hrr0.dt (K := K)) rfl (fun pre σ' H' => ∃ (ks T : List Nat) (v6 v7 : Option V), σ' = [some (.ref s0), some (.int n), some (.ref a), some (.ref q), some (.ref d), some (.int i), v6, v7, none] ∧ Ex H1 H' ∧ H' d = some (.dK (keysD ks)) ∧ RL H' q (rsT rs T) ∧ Tk n rs T ks ∧ Rd rs (List.range pre.length) ks i) ?_ ?_ ?_ ?_
      · exact ⟨ks, T, _, _, rfl, e, hd, hR, M, hk, .inr fun j hj => by cases hj⟩
      · rintro _ _ _ ⟨_, _, _, _, _, e, _⟩; exact e
      · rintro pre r post v σ2 H2 er hv ⟨ks, T, v6, v7, rfl, e2, hd2, hR2, M2, R2⟩
        obtain ⟨tr, rfl, htr⟩ := hv.road
        have er' : rs[pre.length]? = some r := by rw [er, List.getElem?_append_right (Nat.le_refl _), Nat.sub_self]; rfl
        have hrm : r ∈ rs := List.mem_of_getElem? er'
        have erd : rs.getD pre.length (0, 0) = r := by rw [List.getD_eq_getElem?_getD, er']; rfl
        have R3 := R2.step er'
        rw [← List.range_succ] at R3
        have pl1 : (pre ++ [r]).length = pre.length + 1 := by rw [List.length_append]; rfl
        have l := M2.m.len
        have lT := M2.len
        have l1 := (addk_len (ks := ks) (k := r.1)).1
        have tyq : ∃ xs, H2 q = some (.lst xs) ∧ xs.length = (rsT rs T).length := hR2.at
        obtain ⟨xs, hxs, hxl⟩ := tyq
        have hxl : xs.length ≤ 100 := by
          rw [hxl]
          unfold rsT
          rw [List.length_map]
          omega
        refine z_gtup2 (ex_t e2 htr) ?_
        walk_at "go"
        refine z_dgetI hd2 ?_
        walk_at "go"
        refine z_dgetI hd2 ?_
        have add : ((r.1 ∈ ks ∧ r.2 ∉ ks) ∨ (r.1 ∉ ks ∧ r.2 ∈ ks)) → Rd rs (List.range (pre.length + 1)) (addk (addk ks r.1) r.2) i := fun h => by
          have h2 : r.1 ∈ ks ∨ r.2 ∈ ks := h.imp (fun z => z.1) fun z => z.2
          rw [if_pos h2] at R3
          exact R3
        have skip : (r.1 ∈ ks ∧ r.2 ∈ ks) ∨ (r.1 ∉ ks ∧ r.2 ∉ ks) → Rd rs (List.range (pre.length + 1)) ks i := fun h => by
          rcases h with ⟨h1, h2⟩ | ⟨h1, h2⟩
          · have e1 : addk ks r.1 = ks := by unfold addk; rw [if_pos h1]
            rw [if_pos (Or.inl h1), e1] at R3
            have e2 : addk ks r.2 = ks := by unfold addk; rw [if_pos h2]
            rw [e2] at R3
            exact R3
          · rw [if_neg (fun z => z.elim h1 h2)] at R3
            exact R3
        rw [pl1]
        by_cases m1 : r.1 ∈ ks <;> by_cases m2 : r.2 ∈ ks
        · rw [keysD_some m1, keysD_some m2]
          walk_at "go"
          refine z_iteN (fun z => absurd rfl z) (fun _ => ?_)
          walk_at "go"
          exact ⟨ks, T, _, _, rfl, e2, hd2, hR2, M2, skip (.inl ⟨m1, m2⟩)⟩
        · have hh : (r.1 ∈ ks ∧ r.2 ∉ ks) ∨ (r.1 ∉ ks ∧ r.2 ∈ ks) := .inl ⟨m1, m2⟩
          rw [keysD_some m1, keysD_none m2]
          have M3 := M2.step N.ok er' hh
          have l3 := M3.m.len
          have l2 := (addk_len (ks := addk ks r.1) (k := r.2)).1
          walk_at "go"
          refine z_iteN (fun _ => ?_) (fun z => absurd z (by decide))
          walk_at "go"
          refine z_dputI hd2 (by rw [keysD_len]; exact szl _ (by omega)) ?_
          rw [keysD_addk]
          walk_at "go"
          refine z_dputI upd_same (by rw [keysD_len]; exact szl _ (by omega)) ?_
          rw [keysD_addk]
          walk_at "go"
          have hx3 := upd_at (o := .dK (keysD (addk (addk ks r.1) r.2))) (upd_at (o := .dK (keysD (addk ks r.1))) hxs nqd) nqd
          refine ⟨tyL hx3, ?_⟩
          walk_at "go"
          refine ⟨sz _, fun tp ntp => ?_⟩
          walk_at "go"
          have hx4 := (Ex.new (o := .tup [.int r.1, .int r.2]) ntp) _ _ hx3
          refine z_app hx4 (szl _ (by omega)) ?_
          have ktp : KeepT H2 (upd (upd H2 d (.dK (keysD (addk ks r.1)))) d (.dK (keysD (addk (addk ks r.1) r.2)))) := fun t ys ht => by
            have : t ≠ d := fun z => by rw [z, hd2] at ht; cases ht
            rw [upd_ne this, upd_ne this]; exact ht
          have hRd : RL (upd (upd H2 d (.dK (keysD (addk ks r.1)))) d (.dK (keysD (addk (addk ks r.1) r.2)))) q (rsT rs T) := by
            obtain ⟨us, u1, u2⟩ := hR2
            exact ⟨us, upd_at (upd_at u1 nqd) nqd, u2.keep ktp⟩
          have dtp := ne_fr (upd_same (H := upd H2 d (.dK (keysD (addk ks r.1)))) (a := d) (o := .dK (keysD (addk (addk ks r.1) r.2)))) ntp
          have eT : rsT rs (T ++ [pre.length]) = rsT rs T ++ [r] := by unfold rsT; rw [List.map_append, List.map_singleton, erd]
          refine ⟨_, T ++ [pre.length], _, _, rfl, ex_mut (ex_new (ex_mut (ex_mut e2 fd) fd) ntp) nq, upd_at (upd_at upd_same dtp) (Ne.symm nqd), ?_, M3, add hh⟩
          rw [eT]
          exact (hRd.ex (Ex.new ntp)).app upd_same hx4
        · have hh : (r.1 ∈ ks ∧ r.2 ∉ ks) ∨ (r.1 ∉ ks ∧ r.2 ∈ ks) := .inr ⟨m1, m2⟩
          rw [keysD_none m1, keysD_some m2]
          have M3 := M2.step N.ok er' hh
          have l3 := M3.m.len
          have l2 := (addk_len (ks := addk ks r.1) (k := r.2)).1
          walk_at "go"
          refine z_iteN (fun _ => ?_) (fun z => absurd z (by decide))
          walk_at "go"
          refine z_dputI hd2 (by rw [keysD_len]; exact szl _ (by omega)) ?_
          rw [keysD_addk]
          walk_at "go"
          refine z_dputI upd_same (by rw [keysD_len]; exact szl _ (by omega)) ?_
          rw [keysD_addk]
          walk_at "go"
          have hx3 := upd_at (o := .dK (keysD (addk (addk ks r.1) r.2))) (upd_at (o := .dK (keysD (addk ks r.1))) hxs nqd) nqd
          refine ⟨tyL hx3, ?_⟩
          walk_at "go"
          refine ⟨sz _, fun tp ntp => ?_⟩
          walk_at "go"
          have hx4 := (Ex.new (o := .tup [.int r.1, .int r.2]) ntp) _ _ hx3
          refine z_app hx4 (szl _ (by omega)) ?_
          have ktp : KeepT H2 (upd (upd H2 d (.dK (keysD (addk ks r.1)))) d (.dK (keysD (addk (addk ks r.1) r.2)))) := fun t ys ht => by
            have : t ≠ d := fun z => by rw [z, hd2] at ht; cases ht
            rw [upd_ne this, upd_ne this]; exact ht
          have hRd : RL (upd (upd H2 d (.dK (keysD (addk ks r.1)))) d (.dK (keysD (addk (addk ks r.1) r.2)))) q (rsT rs T) := by
            obtain ⟨us, u1, u2⟩ := hR2
            exact ⟨us, upd_at (upd_at u1 nqd) nqd, u2.keep ktp⟩
          have dtp := ne_fr (upd_same (H := upd H2 d (.dK (keysD (addk ks r.1)))) (a := d) (o := .dK (keysD (addk (addk ks r.1) r.2)))) ntp
          have eT : rsT rs (T ++ [pre.length]) = rsT rs T ++ [r] := by unfold rsT; rw [List.map_append, List.map_singleton, erd]
          refine ⟨_, T ++ [pre.length], _, _, rfl, ex_mut (ex_new (ex_mut (ex_mut e2 fd) fd) ntp) nq, upd_at (upd_at upd_same dtp) (Ne.symm nqd), ?_, M3, add hh⟩
          rw [eT]
          exact (hRd.ex (Ex.new ntp)).app upd_same hx4
        · rw [keysD_none m1, keysD_none m2]
          walk_at "go"
          refine z_iteN (fun z => absurd rfl z) (fun _ => ?_)
          walk_at "go"
          exact ⟨ks, T, _, _, rfl, e2, hd2, hR2, M2, skip (.inr ⟨m1, m2⟩)⟩
      · rintro σ' H2 ⟨ks, T, v6, v7, rfl, e2, hd2, hR2, M2, R2⟩
        refine ⟨ks, T, _, _, _, rfl, e2, hd2, hR2, M2, ?_⟩
        rcases R2.2 with z | z
        · exact z
        · have := M2.all.full z N.cnA
          omega
    rintro σ' H2 ⟨ks, T, v5, v6, v7, rfl, e2, hd2, hR2, M2, h1⟩
    have I := M2.tree h1
    have NT : Net n (rsT rs T) := I.net N.ok
    have lT : (rsT rs T).length = n := by unfold rsT; rw [List.length_map, I.len]
    walk_at "go"
    have e02 : Ex H H2 := e01.trans e2
    have ha2 := e2 _ _ hats
    have htups2 : Tups H2 ts rs := htups.keep (.of e2)
    obtain ⟨us, hus, hut⟩ := hR2
    have lus := hut.len
    rw [lT] at lus
    have lts := htups.len
    refine ⟨s0, ns, 19, rfl, dt_ints (ex_l e02 hs), fun H3 e3 => ?_⟩
    walk_at "go"
    generalize cellAt ns 19 = c19
    obtain ⟨x5, ex5, lx5⟩ := emod_nat c19 (show 0 < 5 by omega)
    rw [show c19 % 5 = (x5 : Int) from ex5]
    refine z_slL (sq_of (e3 _ _ ha2)) fun p1 np1 => ?_
    rw [cutV_to]
    refine z_cat (upd_at (e3 _ _ hus) (ne_fr (e3 _ _ hus) np1)) upd_same (by rw [List.length_take, List.length_map, List.length_map]; exact sz _ (by omega)) fun p2 np2 => ?_
    have e4 := ex_new (o := .lst (us.map V.ref ++ (ts.map V.ref).take x5)) (ex_new (o := .lst ((ts.map V.ref).take x5)) e3 np1) np2
    have hp2 : (upd (upd H3 p1 (.lst ((ts.map V.ref).take x5))) p2 (.lst (us.map V.ref ++ (ts.map V.ref).take x5))) p2 = some (.lst ((us ++ ts.take x5).map V.ref)) := by rw [upd_same, List.map_append, List.map_take]
    have R1 : RL (upd (upd H3 p1 (.lst ((ts.map V.ref).take x5))) p2 (.lst (us.map V.ref ++ (ts.map V.ref).take x5))) p2 (rsT rs T ++ rs.take x5) := ⟨_, hp2, (hut.keep (.of e4)).app' ((htups2.keep (.of e4)).take x5)⟩
    have l1 : (rsT rs T ++ rs.take x5).length ≤ n + 4 := by rw [List.length_append, lT, List.length_take]; omega
    have l1n : n ≤ (rsT rs T ++ rs.take x5).length := by rw [List.length_append, lT]; omega
    have ok1 : ∀ r ∈ rsT rs T ++ rs.take x5, r.1 ≤ n ∧ r.2 ≤ n ∧ r.1 ≠ r.2 := fun r hr => by
      rcases List.mem_append.mp hr with z | z
      · exact NT.ok r z
      · exact N.ok r (List.mem_of_mem_take z)
    have e1n : (rsT rs T ++ rs.take x5).take n = rsT rs T := by rw [← lT, List.take_left']; rfl
    generalize rsT rs T ++ rs.take x5 = rs1 at R1 l1 l1n ok1 e1n
    generalize (upd (upd H3 p1 (.lst ((ts.map V.ref).take x5))) p2 (.lst (us.map V.ref ++ (ts.map V.ref).take x5))) = H4 at e4 R1 ⊢
    walk_at "go"
    refine z_while (fun m0 σ' H' => ∃ (m : Nat) (p : Addr), σ' = [some (.ref s0), some (.int n), some (.ref a), some (.ref p), some (.ref d), v5, v6, v7, none] ∧ Ex H H' ∧ RL H' p (rs1.take m) ∧ n ≤ m ∧ m ≤ rs1.length ∧ m ≤ m0) rs1.length ?_ ?_
    · exact ⟨rs1.length, p2, rfl, e02.trans e4, by rw [List.take_length]; exact R1, l1n, Nat.le_refl _, Nat.le_refl _⟩
    rintro m0 σ' H5 ⟨m, p, rfl, e5, R5, m1, m2, m3⟩
    have lm : (rs1.take m).length = m := by rw [List.length_take, Nat.min_eq_left m2]
    refine z_andC (p := decide ((n : Int) < m)) (fun R k => ?_) (fun hm R k => ?_) fun b H6 e6 hb => ?_
    · walk_at "go"
      refine z_lenDt R5.dt ?_
      walk_at "go"
      rw [lm]
      exact k
    · walk_at "go"
      refine ⟨n, p, rs1.take m, rfl, by omega, by omega, R5.dt, fun H6 e6 => ?_⟩
      walk_at "go"
      exact k _ _ e6
    have R6 := R5.ex e6
    obtain ⟨us6, hus6, hut6⟩ := R6
    have l6 := hut6.len
    rw [lm] at l6
    cases b with
    | true =>
      have hm : n < m := by have := of_decide_eq_true (hb rfl); omega
      rw [if_pos rfl]
      refine z_turn ?_
      walk_at "go"
      refine z_slL (sq_of hus6) fun p7 np7 => ?_
      have ec : cutV (us6.map V.ref) none (some (-((1 : Nat) : Int))) = (us6.take (m - 1)).map V.ref := by rw [show (-((1 : Nat) : Int)) = (-1 : Int) from rfl, cutV_neg1, List.length_map, l6, List.map_take]
      rw [ec]
      refine ⟨m - 1, by omega, m - 1, p7, rfl, e5.trans (ex_new e6 np7), ⟨_, upd_same, ?_⟩, by omega, by omega, Nat.le_refl _⟩
      have := (hut6.keep (KeepT.new (o := .lst ((us6.take (m - 1)).map V.ref)) np7)).take (m - 1)
      rw [List.take_take, Nat.min_eq_left (by omega)] at this
      exact this
    | false =>
      rw [if_neg (by decide)]
      have N6 : Net n (rs1.take m) := NT.sup (fun r hr => mem_take_le m1 (by rw [e1n]; exact hr)) fun r hr => ok1 r (List.mem_of_mem_take hr)
      have e06 := e5.trans e6
      generalize rs1.take m = rs2 at lm hut6 N6
      walk_at "go"
      refine ⟨s0, ns, 19, rfl, dt_ints (ex_l e06 hs), fun H7 e7 => ?_⟩
      walk_at "go"
      refine z_lenL (sq_of (e7 _ _ hus6)) ?_
      walk_at "go"
      rw [List.length_map, l6]
      generalize cellAt ns 19 = c19
      obtain ⟨at', eat, lat⟩ := emod_nat (c19 / 5) (show 0 < m + 1 by omega)
      rw [show c19 / 5 % ((m : Int) + ((1 : Nat) : Int)) = (at' : Int) from eat]
      walk_at "go"
      refine z_slL (sq_of (e7 _ _ hus6)) fun q1 nq1 => ?_
      walk_at "go"
      have h11 : Ex H7 (upd H7 q1 (.lst (cutV (us6.map V.ref) (some (at' : Int)) none))) := Ex.new nq1
      refine z_slL (sq_of (h11 _ _ (e7 _ _ hus6))) fun q2 nq2 => ?_
      rw [cutV_from, cutV_to] at *
      have h12 : Ex H7 (upd (upd H7 q1 (.lst ((us6.map V.ref).drop at'))) q2 (.lst ((us6.map V.ref).take at'))) := ex_new h11 nq2
      refine z_cat (upd_at upd_same (ne_fr upd_same nq2)) upd_same (by rw [List.length_drop, List.length_take, List.length_map]; exact sz _ (by omega)) fun q3 nq3 => ?_
      have h13 := ex_new (o := .lst ((us6.map V.ref).drop at' ++ (us6.map V.ref).take at')) h12 nq3
      walk_at "go"
      refine ⟨sz _, fun tq ntq => ?_⟩
      have h14 := ex_new (o := .tup [.int n, .ref q3]) h13 ntq
      have k67 := (KeepT.of e7).trans (KeepT.of h14)
      refine hq n (rs2.drop at' ++ rs2.take at') tq q3 _ hn (by rw [List.length_append, List.length_drop, List.length_take]; omega) (N6.sup (fun r hr => ?_) fun r hr => ?_) (e06.trans (e7.trans h14)) upd_same (RL.dt ⟨us6.drop at' ++ us6.take at', ?_, ((hut6.keep k67).drop at').app' ((hut6.keep k67).take at')⟩)
      · rw [← List.take_append_drop at' rs2] at hr
        exact List.mem_append.mpr (List.mem_append.mp hr).symm
      · refine N6.ok r ?_
        rcases List.mem_append.mp hr with z | z
        · exact List.mem_of_mem_drop z
        · exact List.mem_of_mem_take z
      · rw [upd_at upd_same (ne_fr upd_same ntq), List.map_append, List.map_drop, List.map_take]
theorem ok_law_heaps {f : Addr} {fd : FuncData} (T : Fn K mg "_law_heaps" s_law_heaps f fd ["_law_most"]) (B : Bf mg) (ZE : Er cls K mg)  : Cal P w K mg base CX0 1 "_law_heaps" ["_law_most"] (sp_law_heaps K) := by
  refine T.ok sc_law_heaps (fun vs H Q E h => ?_) (fun cdv A outer s H vs Q E hr h => ?_)
  · obtain ⟨_, _, _, rfl, _⟩ := h; rfl
  · have hu := hu_of hr
    obtain ⟨n, a, f, rfl, hn, hf, ha, hq⟩ := h
    have blen : ∀ k, k ≤ n → (boxT k f).length ≤ 40 ^ k := fun k hk => by
      induction k with
      | zero => exact Nat.le_refl _
      | succ k ih =>
        have ih := ih (by omega)
        have e1 := boxT_len (f := f) (k + 1) fun j hj => (hf j (by omega)).1
        have e2 := boxT_len (f := f) k fun j hj => (hf j (by omega)).1
        have h2 := (hf k (by omega))
        have e3 : prodT f (k + 1) = prodT f k * f k := rfl
        rw [e3, ← e2] at e1
        have e4 : ((boxT k f).length : Int) * f k ≤ (boxT k f).length * 40 := Int.mul_le_mul_of_nonneg_left h2.2 (by omega)
        rw [Nat.pow_succ]
        omega
    have pw : ∀ k, k ≤ n → 40 ^ k ≤ 64000 := fun k hk => by
      match k, (show k ≤ 3 by omega) with
      | 0, _ => decide
      | 1, _ => decide
      | 2, _ => decide
      | 3, _ => decide
    refine ⟨_, ((pss_cons (ps_set (i := 1) sc_law_heaps.nd rfl (Or.inl rfl) (pe_lst (pa_cons (pe_lst pa_nil) pa_nil)))
        (pss_cons (ps_for PassesOwn.never rfl (piL K (pv 0)) (pg_name (i := 2) sc_law_heaps.nd rfl (Or.inl rfl))
        (pss_cons (ps_set (i := 3) sc_law_heaps.nd rfl (Or.inl rfl) (pe_lst pa_nil))
          (pss_cons (ps_for PassesOwn.never rfl (piL K (pv 1)) (pg_name (i := 4) sc_law_heaps.nd rfl (Or.inr rfl))
          (pss_one (ps_set (i := 3) sc_law_heaps.nd rfl (Or.inl rfl) (pe_op op_cat (pv 3) (pe_lc (own := [("_law_grains", 5)]) (g := gName 5) (tt := tYes) rfl sc_law_heaps.nd (pi_range1 (by rfl) B.range (pa_cons (pv 2) pa_nil)) (blkOk_by (N := nn_law_heaps) (sc := defScope s_law_heaps) (by decide +kernel)) (fun _ _ _ _ _ => pg_name (i := 5) sc_law_heaps.nd rfl (Or.inl rfl)) (fun _ _ _ _ _ => pts_nil) (fun _ _ _ _ _ => (pe_op op_cat (pv 4) (pe_lst (pa_cons (pv 5) pa_nil)))))))))
          (pss_one (ps_set (i := 1) sc_law_heaps.nd rfl (Or.inl rfl) (pv 3))))))
        (pss_one (ps_ret (pv 1)))))), ?_⟩
    refine Z.at_slots (σ := [some _, none, none, none, none, none]) ?_
    walk_at "go"
    refine ⟨sz _, fun p1 np1 => ?_⟩
    walk_at "go"
    refine ⟨sz _, fun p2 np2 => ?_⟩
    walk_at "go"
    have e0 := ex_new (o := .lst [.ref p1]) (Ex.new (o := .lst []) np1) np2
    have L0 : LLo (upd (upd H p1 (.lst [])) p2 (.lst [.ref p1])) p2 [[]] := ⟨[p1], upd_same, upd_at upd_same (ne_fr upd_same np2), trivial⟩
    have np2H : H p2 = none := fr (Ex.new np1) np2
    generalize (upd (upd H p1 (.lst [])) p2 (.lst [.ref p1])) = G at e0 L0 ⊢
    refine z_forV ha rfl (fun pre σ' H' => ∃ (p : Addr) (v2 v3 v4 : Option V), σ' = [some (.ref a), some (.ref p), v2, v3, v4, none] ∧ Ex H H' ∧ H p = none ∧ LLo H' p (boxT pre.length f)) ?_ ?_ ?_ ?_
    · exact ⟨p2, _, _, _, rfl, e0, np2H, L0⟩
    · rintro _ _ _ ⟨_, _, _, _, _, e, _⟩; exact e
    · rintro pre y post v σ' H' er hy ⟨p, v2, v3, v4, rfl, e, np, hL⟩
      cases hy.int
      obtain ⟨hp, rfl⟩ := tab_split er
      obtain ⟨d, hd⟩ : ∃ d : Nat, f pre.length = d := ⟨(f pre.length).toNat, by have := (hf _ hp).1; omega⟩
      have hd40 : d ≤ 40 := by have := (hf _ hp).2; omega
      rw [hd]
      walk_at "go"
      refine ⟨sz _, fun q nq => ?_⟩
      walk_at "go"
      have e1 := ex_new (o := .lst []) e nq
      have hL1 : LLo (upd H' q (.lst [])) p (boxT pre.length f) := hL.ex (Ex.new nq)
      have Q1 : LLo (upd H' q (.lst [])) q [] := ⟨[], upd_same, trivial⟩
      have nqH := fr e nq
      generalize (upd H' q (.lst [])) = H1 at e1 hL1 Q1 ⊢
      obtain ⟨ps, hps, hown⟩ := id hL1
      have lb := blen pre.length (by omega)
      have lb2 := blen (pre.length + 1) (by omega)
      have p2 := pw (pre.length + 1) (by omega)
      have bl : ∀ i, (((boxT pre.length f).take i).flatMap fun h => (List.range d).map fun (g : Nat) => h ++ [(g : Int)]).length ≤ 64000 := fun i => by
        have e : ∀ l : List (List Int), (l.flatMap fun h => (List.range d).map fun (g : Nat) => h ++ [(g : Int)]).length = l.length * d := fun l => by
          induction l with
          | nil => simp
          | cons x l ih => rw [List.flatMap_cons, List.length_append, ih, List.length_map, List.length_range, List.length_cons, Nat.add_mul]; omega
        rw [e, List.length_take]
        have h1 : min i (boxT pre.length f).length ≤ 40 ^ pre.length := by omega
        have h2 := Nat.mul_le_mul h1 hd40
        rw [Nat.pow_succ] at p2
        omega
      refine z_forW (sq_of hps) rfl (fun i σ' H' => ∃ (q : Addr) (v4 : Option V), σ' = [some (.ref a), some (.ref p), some (.int d), some (.ref q), v4, none] ∧ Ex H1 H' ∧ H q = none ∧ LLo H' q (((boxT pre.length f).take i).flatMap fun h => (List.range d).map fun (g : Nat) => h ++ [(g : Int)])) ?_ ?_ ?_ ?_
      · exact ⟨q, _, rfl, Ex.refl _, nqH, by rw [List.take_zero]; exact Q1⟩
      · rintro _ _ _ ⟨_, _, _, e, _⟩; exact e
      · rintro i y σ' H2 hy ⟨q, v4, rfl, e2, nq, hQ⟩
        rw [List.getElem?_map] at hy
        obtain ⟨hq0, hhq, rfl⟩ := Option.map_eq_some_iff.mp hy
        have hi : i < (boxT pre.length f).length := by
          have := (List.getElem?_eq_some_iff.mp hhq).1
          have := hown.len
          omega
        have hx : (boxT pre.length f)[i]? = some (boxT pre.length f)[i] := List.getElem?_eq_getElem hi
        obtain ⟨q', h1, h2⟩ := hown.at hx
        rw [hhq] at h1
        cases h1
        have hxl : (boxT pre.length f)[i].length ≤ 3 := by
          have := (boxT_mem.mp (List.getElem_mem hi)).1
          omega
        walk_at "go"
        refine z_lcR (n := d) (fun g => (boxT pre.length f)[i] ++ [(g : Int)]) (by omega) ?_ ?_ ⟨_, rfl⟩
        · intro g H3 R hg e3 kk
          walk_at "go"
          refine ⟨rfl, ?_⟩
          walk_at "go"
          refine ⟨sz _, fun o no => ?_⟩
          have h3 := (e2.trans e3) _ _ h2
          refine z_cat (upd_at h3 (ne_fr h3 no)) upd_same (by rw [List.length_map]; exact sz _ (by show _ + 1 ≤ _; omega)) fun z nz => ?_
          refine kk z _ (fr (Ex.new no) nz) ((Ex.new no).trans (Ex.new nz)) ?_
          rw [upd_same, List.map_append]; rfl
        intro D H3 nD e3 hD
        obtain ⟨ps1, g1, g2⟩ := hQ.ex e3
        obtain ⟨ps2, g3, g4⟩ := hD
        have l1 := g2.len
        have l2 := g4.len
        have bli := bl i
        rw [List.length_map, List.length_range] at l2
        refine z_cat g1 g3 (by rw [List.length_map, List.length_map]; exact sz _ (by omega)) fun z nz => ?_
        refine ⟨z, _, rfl, (e2.trans e3).trans (Ex.new nz), fr ((e1.trans e2).trans e3) nz, ps1 ++ ps2, by rw [upd_same, List.map_append], ?_⟩
        have et : (boxT pre.length f).take (i + 1) = (boxT pre.length f).take i ++ [(boxT pre.length f)[i]] := by rw [List.take_succ, hx]; rfl
        rw [et, List.flatMap_append, List.flatMap_singleton]
        exact ((g4.app g2).ex (Ex.new nz))
      · rintro σ' H2 ⟨q, v4, rfl, e2, nq, hQ⟩
        walk_at "go"
        refine ⟨q, _, _, _, rfl, e1.trans e2, nq, ?_⟩
        have e5 : (ps.map V.ref).length = (boxT pre.length f).length := by rw [List.length_map, hown.len]
        rw [e5, List.take_length] at hQ
        rw [List.length_append, List.length_singleton]
        show LLo H2 q (List.flatMap _ (boxT pre.length f))
        rw [hd]
        exact hQ
    · rintro σ' H' ⟨p, v2, v3, v4, rfl, e, np, hL⟩
      walk_at "go"
      rw [tab_len] at hL
      exact hq p H' np e hL
theorem ok_law_again {f : Addr} {fd : FuncData} (T : Fn K mg "_law_again" s_law_again f fd ["_law_many", "_law_roads", "_law_heap"]) (B : Bf mg) (ZE : Er cls K mg) (C__law_degrees : Cal P w K mg base CX0 1 "_law_degrees" ["_law_many", "_law_roads"] (sp_law_degrees K))  : Cal P w K mg base CX0 2 "_law_again" ["_law_many", "_law_roads", "_law_heap"] (sp_law_again K) := by
  refine T.ok sc_law_again (fun vs H Q E h => ?_) (fun cdv A outer s H vs Q E hr h => ?_)
  · obtain ⟨_, _, _, _, _, rfl, _⟩ := h; rfl
  · have hu := hu_of hr
    obtain ⟨n, a, b, rs, h, rfl, hn, hrl, N, ha, hb, hq⟩ := h
    obtain ⟨_, e, hbs⟩ := hb.ints
    cases e
    refine ⟨_, ((pss_cons (ps_set (i := 3) sc_law_again.nd rfl (Or.inr rfl) (pe_cal C__law_degrees (hr.mono (by decide)) (by rfl) (pa_cons (pv 0) (pa_cons (pv 1) pa_nil))))
        (pss_cons (ps_if (pt_cmpR (opNeD K hr.units) (pe_lc (own := [("_law_k", 6)]) (g := gName 6) (tt := _) rfl sc_law_again.nd (pi_range1 (by rfl) B.range (pa_cons (pv 0) pa_nil)) (blkOk_by (N := nn_law_again) (sc := defScope s_law_again) (by decide +kernel)) (fun _ _ _ _ _ => pg_name (i := 6) sc_law_again.nd rfl (Or.inl rfl)) (fun _ _ _ _ _ => (pts_one (pt_not (pt_chain op_le op_lt pe_int (pe_ix (ixL K) (pv 2) (pv 6) (fun _ _ => rfl)) (pe_ix (ixL K) (pv 3) (pv 6) (fun _ _ => rfl)))))) (fun _ _ _ _ _ => (pv 6))) (pe_lst pa_nil) (nomark _)) (pss_one (ps_ret pe_bl)) pss_nil)
        (pss_cons (ps_set (i := 4) sc_law_again.nd rfl (Or.inr rfl) (pe_disp (pps_cons (pv 0) pe_bl pps_nil) (by rfl) (by rfl) (fun z => by cases z) (by decide)))
        (pss_cons (ps_for PassesOwn.never rfl (pi_range1 (by rfl) B.range (pa_cons (pv 0) pa_nil)) (pg_name (i := 5) sc_law_again.nd rfl (Or.inl rfl))
        (pss_one (ps_for PassesOwn.never rfl (pi_range1 (by rfl) B.range (pa_cons (pv 0) pa_nil)) (pg_name (i := 6) sc_law_again.nd rfl (Or.inr rfl))
          (pss_cons (ps_setLc (i := 7) (own := [("_law_road", 8)]) (g := gName 8) (tt := _) rfl sc_law_again.nd rfl rfl (sw_true rfl rfl rfl (by decide +kernel)) (piL K (pv 1)) (blkOk_by (N := nn_law_again) (sc := defScope s_law_again) (by decide +kernel)) (fun _ _ _ _ _ => pg_name (i := 8) sc_law_again.nd rfl (Or.inl rfl)) (fun _ _ _ _ _ => (pts_one (PW.pt (pw_and (pt_cmpR (opIn K) (pv 6) (pv 8) (by rfl)) (pw_and1 (PW.pt (pw_or (pt_cmp (pc_din hu (pe_ix (ixT K) (pv 8) pe_int (fun _ _ => rfl)) (pv 4))) (pw_or1 (pt_cmp (pc_din hu (pe_ix (ixT K) (pv 8) pe_int (fun _ _ => rfl)) (pv 4))))))))))) (fun _ _ _ _ _ => (pv 8)))
            (pss_one (ps_if (PW.pt (pw_and (pt_cmp (pc_dnotin hu (pv 6) (pv 4))) (pw_and1 (pt_cmpR op_ge (pe_op op_add (pe_ix (ixL K) (pv 2) (pv 6) (fun _ _ => rfl)) (pe_callB (callLen K) (by rfl) B.len (by decide +kernel) (pa_cons (pv 7) pa_nil))) (pe_ix (ixL K) (pv 3) (pv 6) (fun _ _ => rfl)) (nomark _))))) (pss_one (ps_dput hu (pv 4) (pv 6) pe_bl rfl)) pss_nil))))))
        (pss_one (ps_ret (pe_cmpR op_eq (pe_callB call_lenDK (by rfl) B.len (by decide +kernel) (pa_cons (pv 4) pa_nil)) (pe_op op_add (pv 0) pe_int) (nomark _))))))))), ?_⟩
    refine Z.at_slots (σ := [some _, some _, some _, none, none, none, none, none, none]) ?_
    walk_at "go"
    refine ⟨n, a, rs, rfl, by omega, ha, fun m H1 nm e1 hm => ?_⟩
    walk_at "go"
    refine z_lcfil (fun k => !(decide (0 ≤ h k) && decide (h k < deg rs k))) (by omega) ?_ (fun i H' R k => by walk_at "go"; exact k) ?_ ⟨_, rfl⟩
    · intro i H2 R hi e2 k
      walk_at "go"
      refine ⟨rfl, ?_⟩
      walk_at "go"
      refine z_ixL (ex_l (e1.trans e2) hbs) (atI_tab _ hi) ?_
      walk_at "go"
      have k := k _ (Ex.refl _)
      refine z_ite (fun c => ?_) (fun c => ?_)
      · walk_at "go"
        refine z_ixL (sq_of (e2 _ _ hm)) (atI_tab _ hi) ?_
        walk_at "go"
        rw [decide_eq_true c, Bool.true_and] at k
        exact k
      · rw [decide_eq_false c, Bool.false_and] at k
        exact ⟨_, rfl, k⟩
    intro D H2 nD e2 hD
    walk_at "go"
    refine ⟨sz _, fun p np => ?_⟩
    refine z_neD (α := List Nat) (a := (List.range n).filter fun k => !(decide (0 ≤ h k) && decide (h k < deg rs k))) (b := []) (by decide) (dt_nats (upd_at hD (ne_fr hD np))) (dt_lst (sq_of upd_same) da_nil) ?_
    walk_at "go"
    have e3 := ex_new (o := .lst []) (e1.trans e2) np
    have low_iff : (List.range n).filter (fun k => !(decide (0 ≤ h k) && decide (h k < deg rs k))) = [] ↔ ∀ k, k < n → 0 ≤ h k ∧ h k < deg rs k := by
      rw [List.filter_eq_nil_iff]
      constructor
      · intro z k hk
        have := z k (List.mem_range.mpr hk)
        simpa using this
      · intro L k hk
        have := L k (List.mem_range.mp hk)
        simpa using this
    refine z_iteN (fun c => ?_) (fun c => ?_) <;> walk_at "go"
    · refine hq _ _ ?_ e3
      exact ⟨fun z => absurd z (by decide), fun z => absurd (low_iff.mpr fun k hk => ⟨z.2.nn N.ok k hk, z.1 k hk⟩) c⟩
    have L := low_iff.mp c
    have hm3 : (upd H2 p (.lst [])) m = some (.lst ((tab n (deg rs)).map V.int)) := upd_at (e2 _ _ hm) (ne_fr (e2 _ _ hm) np)
    generalize (upd H2 p (.lst [])) = H3 at e3 hm3
    refine z_disp1 (k := (n : Int)) (v := .bl true) (fun H1 R k => by walk_at "go"; exact k) (fun H1 R k => by walk_at "go"; exact k) fun d nd => ?_
    walk_at "go"
    have nd0 := fr e3 nd
    have ek : ([((Sum.inl (n : Int) : Key), V.bl true)] : List (Key × V)) = keysD [n] := rfl
    rw [ek]
    have hm4 : (upd H3 d (.dK (keysD [n]))) m = some (.lst ((tab n (deg rs)).map V.int)) := upd_at hm3 (ne_fr hm3 nd)
    have e4 := ex_new (o := .dK (keysD [n])) e3 nd
    refine z_forRV rfl (by omega) (fun i σ' H' => ∃ (ks : List Nat) (v5 v6 v7 : Option V), σ' = [some (.int n), some (.ref a), some (.ref b), some (.ref m), some (.ref d), v5, v6, v7, none] ∧ Ex H H' ∧ H' m = some (.lst ((tab n (deg rs)).map V.int)) ∧ H' d = some (.dK (keysD ks)) ∧ Bu n rs h ks ∧ (NF n rs h → i + 1 ≤ ks.length)) ?_ ?_ ?_
    · exact ⟨[n], _, _, _, rfl, e4, hm4, upd_same, Bu.start n rs h, fun _ => Nat.le_refl _⟩
    · rintro i σ' H5 hi ⟨ks, v5, v6, v7, rfl, e5, hm5, hd5, S5, l5⟩
      walk_at "go"
      refine z_forRV rfl (by omega) (fun j σ' H' => ∃ (ks : List Nat) (v5 v6 v7 : Option V), σ' = [some (.int n), some (.ref a), some (.ref b), some (.ref m), some (.ref d), v5, v6, v7, none] ∧ Ex H H' ∧ H' m = some (.lst ((tab n (deg rs)).map V.int)) ∧ H' d = some (.dK (keysD ks)) ∧ Bu n rs h ks ∧ (NF n rs h → i + 1 ≤ ks.length ∧ (i + 2 ≤ ks.length ∨ ∀ y, y < j → y ∉ ks → h y + degA rs (inB ks) y < deg rs y))) ?_ ?_ ?_
      · exact ⟨ks, _, _, _, rfl, e5, hm5, hd5, S5, fun F => ⟨l5 F, .inr fun y hy => absurd hy (Nat.not_lt_zero _)⟩⟩
      · rintro j σ' H6 hj ⟨ks, v5, v6, v7, rfl, e6, hm6, hd6, S6, l6⟩
        walk_at "go"
        refine z_lcroads (fireP ks j) (ha.ex e6) (Ex.refl _) (by omega) ?_ (fun t H' R k => by walk_at "go"; exact k) ?_ ⟨_, rfl⟩
        · intro r t H7 R _ ht e7 k
          have k := k _ (Ex.refl _)
          unfold fireP at k
          walk_at "go"
          refine ⟨rfl, ?_⟩
          walk_at "go"
          refine z_inT (road_ints ht) ?_
          walk_at "go"
          refine z_ite (fun c => ?_) (fun c => ?_)
          · rw [in_road] at c
            have c' : (decide (r.1 = j) || decide (r.2 = j)) = true := by simpa using c
            rw [c', Bool.true_and] at k
            walk_at "go"
            refine z_dgetI (e7 _ _ hd6) ?_
            walk_at "go"
            by_cases m1 : r.1 ∈ ks
            · rw [keysD_some m1]
              have : inB ks r.1 = true := by simp [inB, m1]
              rw [this, Bool.true_or] at k
              exact k
            · rw [keysD_none m1]
              have : inB ks r.1 = false := by simp [inB, m1]
              rw [this, Bool.false_or] at k
              walk_at "go"
              refine z_dgetI (e7 _ _ hd6) ?_
              walk_at "go"
              by_cases m2 : r.2 ∈ ks
              · rw [keysD_some m2]
                have : inB ks r.2 = true := by simp [inB, m2]
                rw [this] at k
                exact k
              · rw [keysD_none m2]
                have : inB ks r.2 = false := by simp [inB, m2]
                rw [this] at k
                exact k
          · rw [in_road] at c
            have c' : (decide (r.1 = j) || decide (r.2 = j)) = false := by simpa using c
            rw [c', Bool.false_and] at k
            exact k
        intro f H7 xs nf e7 hf hxs
        walk_at "go"
        refine z_dgetI (e7 _ _ hd6) ?_
        walk_at "go"
        have e07 := e6.trans e7
        by_cases mj : j ∈ ks
        · rw [keysD_some mj]
          walk_at "go"
          refine ⟨ks, _, _, _, rfl, e07, e7 _ _ hm6, e7 _ _ hd6, S6, fun F => ⟨(l6 F).1, ?_⟩⟩
          rcases (l6 F).2 with z | z
          · exact .inl z
          · refine .inr fun y hy hn => ?_
            by_cases cy : y = j
            · subst cy; exact absurd mj hn
            · exact z y (by omega) hn
        rw [keysD_none mj]
        walk_at "go"
        refine z_ixL (ex_l e07 hbs) (atI_tab _ hj) ?_
        walk_at "go"
        try (refine z_lenL (sq_of hf) ?_; walk_at "go")
        refine z_ixL (sq_of (e7 _ _ hm6)) (atI_tab _ hj) ?_
        walk_at "go"
        have fl := fire_len (rs := rs) N.ok mj
        rw [← hxs] at fl
        rw [fl]
        refine z_ite (fun c => ?_) (fun c => ?_) <;> walk_at "go"
        · have hl := S6.len
          refine z_dputI (e7 _ _ hd6) (by rw [keysD_len]; exact szl _ (by omega)) ?_
          rw [keysD_put mj]
          refine ⟨ks ++ [j], _, _, _, rfl, ex_mut e07 nd0, upd_at (e7 _ _ hm6) (fun z => by rw [z, hd6] at hm6; cases hm6), upd_same, S6.add hj mj c, fun F => ?_⟩
          have := (l6 F).1
          rw [List.length_append, List.length_singleton]
          exact ⟨by omega, .inl (by omega)⟩
        · refine ⟨ks, _, _, _, rfl, e07, e7 _ _ hm6, e7 _ _ hd6, S6, fun F => ⟨(l6 F).1, ?_⟩⟩
          rcases (l6 F).2 with z | z
          · exact .inl z
          · refine .inr fun y hy hn => ?_
            by_cases cy : y = j
            · subst cy; omega
            · exact z y (by omega) hn
      · rintro σ' H6 ⟨ks, v5, v6, v7, rfl, e6, hm6, hd6, S6, l6⟩
        refine ⟨ks, _, _, _, rfl, e6, hm6, hd6, S6, fun F => ?_⟩
        rcases (l6 F).2 with z | z
        · exact z
        · have := S6.closed N.ok F z
          omega
    · rintro σ' H5 ⟨ks, v5, v6, v7, rfl, e5, hm5, hd5, S5, l5⟩
      walk_at "go"
      try (refine z_lenD hd5 ?_; walk_at "go")
      rw [keysD_len]
      refine hq _ _ ?_ e5
      rw [decide_eq_true_eq]
      have hl := S5.len
      exact ⟨fun z => ⟨fun k hk => (L k hk).2, S5.full (by omega)⟩, fun z => by have := l5 z.2; omega⟩
theorem ok_law_sets {f : Addr} {fd : FuncData} (T : Fn K mg "_law_sets" s_law_sets f fd ["_law_many", "_law_count"]) (B : Bf mg) (ZE : Er cls K mg)  : Cal P w K mg base CX0 1 "_law_sets" ["_law_many", "_law_count"] (sp_law_sets K) := by
  refine T.ok sc_law_sets (fun vs H Q E h => ?_) (fun cdv A outer s H vs Q E hr h => ?_)
  · obtain ⟨_, _, rfl, _⟩ := h; rfl
  · have hu := hu_of hr
    obtain ⟨n, m, rfl, hn, hm, hq⟩ := h
    have slen : ∀ k, (setsF n k).length ≤ 2 ^ k := fun k => by
      induction k with
      | zero => exact Nat.le_refl _
      | succ k ih =>
        show (setsF n k ++ _).length ≤ _
        rw [List.length_append, List.length_map, Nat.pow_succ]
        have := List.length_filter_le (fun T : List Nat => decide (T.length < n)) (setsF n k)
        omega
    have pw : ∀ k, k ≤ m → (setsF n k).length ≤ 128 := fun k hk => by
      have h1 := slen k
      have h2 : 2 ^ k ≤ 2 ^ 7 := Nat.pow_le_pow_right (by decide) (by omega)
      have h3 : (2 : Nat) ^ 7 = 128 := by decide
      omega
    refine ⟨_, ((pss_cons (ps_set (i := 2) sc_law_sets.nd rfl (Or.inl rfl) (pe_lst (pa_cons (pe_lst pa_nil) pa_nil)))
        (pss_cons (ps_for PassesOwn.never rfl (pi_range1 (by rfl) B.range (pa_cons (pv 1) pa_nil)) (pg_name (i := 3) sc_law_sets.nd rfl (Or.inr rfl))
        (pss_one (ps_set (i := 2) sc_law_sets.nd rfl (Or.inl rfl) (pe_op op_cat (pv 2) (pe_lc (own := [("_law_some", 4)]) (g := gName 4) (tt := _) rfl sc_law_sets.nd (piL K (pv 2)) (blkOk_by (N := nn_law_sets) (sc := defScope s_law_sets) (by decide +kernel)) (fun _ _ _ _ _ => pg_name (i := 4) sc_law_sets.nd rfl (Or.inl rfl)) (fun _ _ _ _ _ => (pts_one (pt_cmpR op_lt (pe_callB (callLen K) (by rfl) B.len (by decide +kernel) (pa_cons (pv 4) pa_nil)) (pv 0) (nomark _)))) (fun _ _ _ _ _ => (pe_op op_cat (pv 4) (pe_lst (pa_cons (pv 3) pa_nil)))))))))
        (pss_one (ps_ret (pe_lc (own := [("_law_some", 4)]) (g := gName 4) (tt := _) rfl sc_law_sets.nd (piL K (pv 2)) (blkOk_by (N := nn_law_sets) (sc := defScope s_law_sets) (by decide +kernel)) (fun _ _ _ _ _ => pg_name (i := 4) sc_law_sets.nd rfl (Or.inl rfl)) (fun _ _ _ _ _ => (pts_one (pt_cmpR op_eq (pe_callB (callLen K) (by rfl) B.len (by decide +kernel) (pa_cons (pv 4) pa_nil)) (pv 0) (nomark _)))) (fun _ _ _ _ _ => (pv 4)))))))), ?_⟩
    refine Z.at_slots (σ := [some _, some _, none, none, none]) ?_
    walk_at "go"
    refine ⟨sz _, fun p1 np1 => ?_⟩
    walk_at "go"
    refine ⟨sz _, fun p2 np2 => ?_⟩
    walk_at "go"
    have e0 := ex_new (o := .lst [.ref p1]) (Ex.new (o := .lst []) np1) np2
    have L0 : LLo (upd (upd H p1 (.lst [])) p2 (.lst [.ref p1])) p2 ((setsF n 0).map nI) := ⟨[p1], upd_same, upd_at upd_same (ne_fr upd_same np2), trivial⟩
    have np2H : H p2 = none := fr (Ex.new np1) np2
    generalize (upd (upd H p1 (.lst [])) p2 (.lst [.ref p1])) = G at e0 L0 ⊢
    refine z_forRV rfl (by omega) (fun i σ' H' => ∃ (p : Addr) (v3 : Option V), σ' = [some (.int n), some (.int m), some (.ref p), v3, none] ∧ Ex H H' ∧ H p = none ∧ LLo H' p ((setsF n i).map nI)) ?_ ?_ ?_
    · exact ⟨p2, _, rfl, e0, np2H, L0⟩
    · rintro i σ' H' hi ⟨p, v3, rfl, e, np, hL⟩
      walk_at "go"
      have li := pw i (by omega)
      have li2 := pw (i + 1) (by omega)
      refine z_lcO2 (α := List Nat) nI (fun T => decide (T.length < n)) (fun T => nI (T ++ [i])) hL (Ex.refl _) (by omega) ?_ ?_ ?_ ⟨_, rfl⟩
      · intro T r H1 R hT hr e1 kk
        walk_at "go"
        refine ⟨rfl, ?_⟩
        walk_at "go"
        first | (refine z_lenL (sq_of hr) ?_; walk_at "go") | skip
        rw [List.length_map, nI_len]
        have e3 : decide ((T.length : Int) < n) = decide (T.length < n) := decide_eq_decide.mpr ⟨fun z => by omega, fun z => by omega⟩
        rw [e3]
        exact kk _ (Ex.refl _)
      · intro T r H1 R hT hr e1 kk
        have hTl := (setsF_mem.mp hT).2.2
        walk_at "go"
        refine ⟨sz _, fun o no => ?_⟩
        refine z_cat (upd_at hr (ne_fr hr no)) upd_same (by rw [List.length_map, nI_len]; exact sz _ (by show _ + 1 ≤ _; omega)) fun z nz => ?_
        refine kk z _ (fr (Ex.new no) nz) ((Ex.new no).trans (Ex.new nz)) ?_
        rw [upd_same]
        unfold nI
        rw [List.map_append, List.map_append]; rfl
      intro D H1 nD e1 hD
      obtain ⟨ps1, g1, g2⟩ := hL.ex e1
      obtain ⟨ps2, g3, g4⟩ := hD
      have l1 := g2.len
      have l2 := g4.len
      have l3 := List.length_filter_le (fun T : List Nat => decide (T.length < n)) (setsF n i)
      rw [List.length_map] at l1 l2
      refine z_cat g1 g3 (by rw [List.length_map, List.length_map]; exact sz _ (by omega)) fun z nz => ?_
      refine ⟨z, _, rfl, (e.trans e1).trans (Ex.new nz), fr (e.trans e1) nz, ps1 ++ ps2, by rw [upd_same, List.map_append], ?_⟩
      show OwnL _ _ ((setsF n i ++ _).map nI)
      rw [List.map_append, List.map_map]
      exact (g4.app g2).ex (Ex.new nz)
    · rintro σ' H' ⟨p, v3, rfl, e, np, hL⟩
      walk_at "go"
      have li := pw m (Nat.le_refl _)
      refine z_lcF (α := List Nat) (fun T => decide (T.length = n)) (hL.nat) (Ex.refl _) (by omega) ?_ ?_ ?_ ⟨_, rfl⟩
      · intro T v H1 R hT hv e1 kk
        walk_at "go"
        refine ⟨rfl, ?_⟩
        walk_at "go"
        refine z_lenDt (hv.ex e1) ?_
        walk_at "go"
        have e3 : decide ((T.length : Int) = n) = decide (T.length = n) := decide_eq_decide.mpr ⟨fun z => by omega, fun z => by omega⟩
        rw [e3]
        exact kk _ (Ex.refl _)
      · intro v H1 R kk
        walk_at "go"
        exact kk
      intro D H1 nD e1 hD
      exact hq D H1 (fr e nD) (e.trans e1) hD
theorem ok_law_joined {f : Addr} {fd : FuncData} (T : Fn K mg "_law_joined" s_law_joined f fd ["_law_many", "_law_roads", "_law_tree"]) (B : Bf mg) (ZE : Er cls K mg)  : Cal P w K mg base CX0 1 "_law_joined" ["_law_many", "_law_roads", "_law_tree"] (sp_law_joined K) := by
  refine T.ok sc_law_joined (fun vs H Q E h => ?_) (fun cdv A outer s H vs Q E hr h => ?_)
  · obtain ⟨_, _, _, _, _, rfl, _⟩ := h; rfl
  · have hu := hu_of hr
    obtain ⟨n, a, b, rs, T, rfl, hn, hl, N, lt, ha, hb, hq⟩ := h
    refine ⟨_, ((pss_cons (ps_set (i := 3) sc_law_joined.nd rfl (Or.inl rfl) (pe_disp (pps_cons (pv 0) pe_bl pps_nil) (by rfl) (by rfl) (fun z => by cases z) (by decide)))
        (pss_cons (ps_for PassesOwn.never rfl (pi_range1 (by rfl) B.range (pa_cons (pv 0) pa_nil)) (pg_name (i := 4) sc_law_joined.nd rfl (Or.inl rfl))
        (pss_one (ps_for PassesOwn.never rfl (piL K (pv 2)) (pg_name (i := 5) sc_law_joined.nd rfl (Or.inl rfl))
          (pss_cons (ps_asg (pe_ix (ixL K) (pv 1) (pv 5) (fun _ _ => rfl)) (pg_tup (by rfl) (pgs_cons (pg_name (i := 6) sc_law_joined.nd rfl (Or.inl rfl)) (pgs_cons (pg_name (i := 7) sc_law_joined.nd rfl (Or.inl rfl)) pgs_nil))))
            (pss_one (ps_if (PW.pt (pw_or (pt_cmp (pc_din hu (pv 6) (pv 3))) (pw_or1 (pt_cmp (pc_din hu (pv 7) (pv 3)))))) (pss_cons (ps_dput hu (pv 3) (pv 6) pe_bl rfl)
              (pss_one (ps_dput hu (pv 3) (pv 7) pe_bl rfl))) pss_nil))))))
        (pss_one (ps_ret (pe_cmpR op_eq (pe_callB call_lenDK (by rfl) B.len (by decide +kernel) (pa_cons (pv 3) pa_nil)) (pe_op op_add (pv 0) pe_int) (nomark _))))))), ?_⟩
    refine Z.at_slots (σ := [some _, some _, some _, none, none, none, none, none]) ?_
    walk_at "go"
    have e1 : Ex H H := Ex.refl _
    refine z_disp1 (k := (n : Int)) (v := .bl true) (fun H1 R q => z_var rfl q) (fun H1 R q => q) fun d nd => ?_
    walk_at "go"
    have ek : ([((Sum.inl (n : Int) : Key), V.bl true)] : List (Key × V)) = keysD [n] := rfl
    rw [ek]
    have e2 := ex_new (o := .dK (keysD [n])) e1 nd
    have fd := fr e1 nd
    refine z_forRV rfl (by omega) (fun i σ' H' => ∃ (ks : List Nat) (v4 v5 v6 v7 : Option V), σ' = [some (.int n), some (.ref a), some (.ref b), some (.ref d), v4, v5, v6, v7] ∧ Ex H H' ∧ H' d = some (.dK (keysD ks)) ∧ Mt n rs T ks ∧ (Cn n rs T → i + 1 ≤ ks.length)) ?_ ?_ ?_
    · exact ⟨[n], _, _, _, _, rfl, e2, upd_same, Mt.start n rs T, fun _ => Nat.le_refl _⟩
    · rintro i σ' H' hi ⟨ks, v4, v5, v6, v7, rfl, e, hd, M, hk⟩
      walk_at "go"
      refine z_forV hb rfl (fun pre σ' H' => ∃ (ks : List Nat) (v4 v5 v6 v7 : Option V), σ' = [some (.int n), some (.ref a), some (.ref b), some (.ref d), v4, v5, v6, v7] ∧ Ex H H' ∧ H' d = some (.dK (keysD ks)) ∧ Mt n rs T ks ∧ (Cn n rs T → Rd rs pre ks i)) ?_ ?_ ?_ ?_
      · exact ⟨ks, _, _, _, _, rfl, e, hd, M, fun z => ⟨hk z, .inr fun j hj => by cases hj⟩⟩
      · rintro _ _ _ ⟨_, _, _, _, _, _, e, _⟩; exact e
      · rintro pre j post v σ2 H2 er hv ⟨ks, v4, v5, v6, v7, rfl, e2, hd2, M2, R2⟩
        cases hv.nat
        have hj : j ∈ T := by rw [er]; simp
        have hjl := lt j hj
        have er' : rs[j]? = some rs[j] := List.getElem?_eq_getElem hjl
        obtain ⟨_, vs, v', ea, hsq, hat, hdt⟩ := dt_at (ha.ex e2) hjl
        cases ea
        obtain ⟨tr, rfl, htr⟩ := hdt.road
        have M3 := fun h => M2.add N.ok hj er' h
        have R3 := fun z => (R2 z).step er'
        walk_at "go"
        refine z_ixL hsq hat ?_
        walk_at "go"
        refine z_gtup2 htr ?_
        walk_at "go"
        refine z_dgetI hd2 ?_
        walk_at "go"
        by_cases m1 : rs[j].1 ∈ ks
        · have h : rs[j].1 ∈ ks ∨ rs[j].2 ∈ ks := .inl m1
          simp only [if_pos h] at R3
          have l := M2.len
          have l2 := (M3 h).len
          have l3 := (addk_len (ks := addk ks rs[j].1) (k := rs[j].2)).1
          rw [keysD_some m1]
          walk_at "go"
          refine z_dputI hd2 (by rw [keysD_len]; exact szl _ (by omega)) ?_
          rw [keysD_addk]
          walk_at "go"
          refine z_dputI upd_same (by rw [keysD_len]; exact szl _ (by omega)) ?_
          rw [keysD_addk]
          exact ⟨_, _, _, _, _, rfl, ex_mut (ex_mut e2 fd) fd, upd_same, M3 h, R3⟩
        · rw [keysD_none m1]
          walk_at "go"
          refine z_dgetI hd2 ?_
          walk_at "go"
          by_cases m2 : rs[j].2 ∈ ks
          · have h : rs[j].1 ∈ ks ∨ rs[j].2 ∈ ks := .inr m2
            simp only [if_pos h] at R3
            have l := M2.len
            have l2 := (M3 h).len
            have l3 := (addk_len (ks := addk ks rs[j].1) (k := rs[j].2)).1
            rw [keysD_some m2]
            walk_at "go"
            refine z_dputI hd2 (by rw [keysD_len]; exact szl _ (by omega)) ?_
            rw [keysD_addk]
            walk_at "go"
            refine z_dputI upd_same (by rw [keysD_len]; exact szl _ (by omega)) ?_
            rw [keysD_addk]
            exact ⟨_, _, _, _, _, rfl, ex_mut (ex_mut e2 fd) fd, upd_same, M3 h, R3⟩
          · simp only [if_neg (show ¬ (rs[j].1 ∈ ks ∨ rs[j].2 ∈ ks) from fun z => z.elim m1 m2)] at R3
            rw [keysD_none m2]
            walk_at "go"
            exact ⟨_, _, _, _, _, rfl, e2, hd2, M2, R3⟩
      · rintro σ' H2 ⟨ks, v4, v5, v6, v7, rfl, e2, hd2, M2, R2⟩
        refine ⟨ks, _, _, _, _, rfl, e2, hd2, M2, fun C => ?_⟩
        rcases (R2 C).2 with z | z
        · exact z
        · have := M2.full z C
          omega
    · rintro σ' H2 ⟨ks, v4, v5, v6, v7, rfl, e2, hd2, M2, h1⟩
      walk_at "go"
      first | refine z_lenD hd2 ?_ | skip
      rw [keysD_len]
      walk_at "go"
      have l := M2.len
      refine hq _ H2 ?_ e2
      rw [decide_eq_true_iff]
      exact ⟨fun z => M2.conn (by omega), fun C => by have := h1 C; omega⟩
theorem ok_is_whole {f : Addr} {fd : FuncData} (T : Fn K mg "is_whole" s_is_whole f fd ["thing", "least", "most"]) (B : Bf mg) (ZE : Er cls K mg)  : Cal P w K mg base CX0 1 "is_whole" ["thing", "least", "most"] (sp_is_whole K) := by
  refine T.ok sc_is_whole (fun vs H Q E h => ?_) (fun cdv A outer s H vs Q E hr h => ?_)
  · obtain ⟨_, _, _, rfl, _⟩ := h; rfl
  · have hu := hu_of hr
    obtain ⟨x, lo, hi, rfl, ht, hq⟩ := h
    refine ⟨_, ((pss_one (ps_ret (pe_and (pe_callB (callIsi K) (by rfl) B.isinstance (by decide +kernel) (pa_cons (pv 0) (pa_cons (pe_bltn (v := .ty "int") (u := .type "int") (by rfl) B.int (by decide +kernel) rfl) pa_nil))) (pe_and (pe_not (pe_callB (callIsi K) (by rfl) B.isinstance (by decide +kernel) (pa_cons (pv 0) (pa_cons (pe_bltn (v := .ty "bool") (u := .type "bool") (by rfl) B.bool (by decide +kernel) rfl) pa_nil)))) (pe_one (pe_chain op_le op_le (pv 1) (pv 0) (pv 2)))))))), ?_⟩
    refine Z.at_slots (σ := [some _, some _, some _]) ?_
    cases ht with
    | int i =>
      walk_at "go"
      have hq : Q (.bl (decide (lo ≤ i ∧ i ≤ hi))) H := hq
      refine z_ite (p := lo ≤ i) (fun c => ?_) (fun c => ?_)
      · walk_at "go"
        rw [show decide (lo ≤ i ∧ i ≤ hi) = decide (i ≤ hi) from decide_eq_decide.mpr ⟨fun z => z.2, fun z => ⟨c, z⟩⟩] at hq
        exact hq
      · rw [decide_eq_false fun z => c z.1] at hq
        exact hq
    | _ => walk_at "go"; exact hq
theorem ok_is_road {f : Addr} {fd : FuncData} (T : Fn K mg "is_road" s_is_road f fd ["thing", "many"]) (B : Bf mg) (ZE : Er cls K mg) (C_is_whole : Cal P w K mg base CX0 1 "is_whole" ["thing", "least", "most"] (sp_is_whole K))  : Cal P w K mg base CX0 2 "is_road" ["thing", "many"] (sp_is_road K) := by
  refine T.ok sc_is_road (fun vs H Q E h => ?_) (fun cdv A outer s H vs Q E hr h => ?_)
  · obtain ⟨_, _, _, rfl, _⟩ := h; rfl
  · have hu := hu_of hr
    obtain ⟨t, r, n, rfl, hd, h1, h2, h3, hq⟩ := h
    obtain ⟨_, e, ht⟩ := hd.road
    cases e
    refine ⟨_, ((pss_cons (ps_if (PW.pt (pw_or (pt_not (pt_val (pe_callB (callIsi K) (by rfl) B.isinstance (by decide +kernel) (pa_cons (pv 0) (pa_cons (pe_bltn (v := .ty "tuple") (u := .type "tuple") (by rfl) B.tuple (by decide +kernel) rfl) pa_nil))))) (pw_or1 (pt_cmpR op_ne (pe_callB (callLen K) (by rfl) B.len (by decide +kernel) (pa_cons (pv 0) pa_nil)) pe_int (nomark _))))) (pss_one (ps_ret pe_bl)) pss_nil)
        (pss_one (ps_ret (pe_and (pe_cal C_is_whole (hr.mono (by decide)) (by rfl) (pa_cons (pe_ix (ixS K) (pv 0) pe_int (fun _ _ => rfl)) (pa_cons pe_int (pa_cons (pv 1) pa_nil)))) (pe_and (pe_cal C_is_whole (hr.mono (by decide)) (by rfl) (pa_cons (pe_ix (ixS K) (pv 0) pe_int (fun _ _ => rfl)) (pa_cons pe_int (pa_cons (pv 1) pa_nil)))) (pe_one (pe_cmpR op_ne (pe_ix (ixS K) (pv 0) pe_int (fun _ _ => rfl)) (pe_ix (ixS K) (pv 0) pe_int (fun _ _ => rfl)) (nomark _))))))))), ?_⟩
    refine Z.at_slots (σ := [some _, some _]) ?_
    walk_at "go"
    refine z_iteN (fun c => absurd (by rfl) c) fun _ => ?_
    walk_at "go"
    refine sp_is_whole_int ?_
    rw [decide_eq_true (by omega)]
    walk_at "go"
    refine sp_is_whole_int ?_
    rw [decide_eq_true (by omega)]
    walk_at "go"
    rw [decide_eq_false (by omega)]
    exact hq
theorem ok_beyond {f : Addr} {fd : FuncData} (T : Fn K mg "beyond" s_beyond f fd ["road", "here"]) (B : Bf mg) (ZE : Er cls K mg)  : Cal P w K mg base CX0 1 "beyond" ["road", "here"] (sp_beyond K) := by
  refine T.ok sc_beyond (fun vs H Q E h => ?_) (fun cdv A outer s H vs Q E hr h => ?_)
  · obtain ⟨_, _, _, rfl, _⟩ := h; rfl
  · have hu := hu_of hr
    obtain ⟨t, r, h, rfl, ht, hq⟩ := h
    obtain ⟨a, e, hs⟩ := ht.road
    cases e
    unfold beyondV at hq
    refine ⟨_, ((pss_cons (ps_if (pt_cmpR op_eq (pe_ix (ixT K) (pv 0) pe_int (fun _ _ => rfl)) (pv 1) (nomark _)) (pss_one (ps_ret (pe_ix (ixT K) (pv 0) pe_int (fun _ _ => rfl)))) pss_nil)
        (pss_cons (ps_if (pt_cmpR op_eq (pe_ix (ixT K) (pv 0) pe_int (fun _ _ => rfl)) (pv 1) (nomark _)) (pss_one (ps_ret (pe_ix (ixT K) (pv 0) pe_int (fun _ _ => rfl)))) pss_nil)
        (pss_one (ps_ret pe_non))))), ?_⟩
    refine Z.at_slots (σ := [some _, some _]) ?_
    walk_at "go"
    refine z_ite (fun c => ?_) (fun c => ?_) <;> walk_at "go"
    · rw [if_pos (by omega)] at hq; exact hq
    rw [if_neg (by omega)] at hq
    refine z_ite (fun c => ?_) (fun c => ?_) <;> walk_at "go"
    · rw [if_pos (by omega)] at hq; exact hq
    rw [if_neg (by omega)] at hq; exact hq
theorem ok_reached {f : Addr} {fd : FuncData} (T : Fn K mg "reached" s_reached f fd ["many", "roads"]) (B : Bf mg) (ZE : Er cls K mg) (C_beyond : Cal P w K mg base CX0 1 "beyond" ["road", "here"] (sp_beyond K))  : Cal P w K mg base CX0 2 "reached" ["many", "roads"] (sp_reached K) := by
  refine T.ok sc_reached (fun vs H Q E h => ?_) (fun cdv A outer s H vs Q E hr h => ?_)
  · obtain ⟨_, _, _, rfl, _⟩ := h; rfl
  · have hu := hu_of hr
    obtain ⟨n, a, rs, rfl, hn, ha, hv, hq⟩ := h
    refine ⟨_, ((pss_cons (ps_set (i := 2) sc_reached.nd rfl (Or.inl rfl) (pe_disp (pps_cons (pv 0) pe_bl pps_nil) (by rfl) (by rfl) (fun z => by cases z) (by decide)))
        (pss_cons (ps_set (i := 3) sc_reached.nd rfl (Or.inl rfl) (pe_lst (pa_cons (pv 0) pa_nil)))
        (pss_cons (ps_while PassesOwn.never (pt_cmpR (opNeD K hr.units) (pv 3) (pe_lst pa_nil) (nomark _))
        (pss_cons (ps_set (i := 4) sc_reached.nd rfl (Or.inl rfl) (pe_bm0 PySem.F.plainAttrs_list PySem.F.slot_list_pop PySem.F.type_list_pop mt_pop (pv 3)))
          (pss_one (ps_for PassesOwn.never rfl (piL K (pv 1)) (pg_name (i := 5) sc_reached.nd rfl (Or.inl rfl))
          (pss_cons (ps_set (i := 6) sc_reached.nd rfl (Or.inl rfl) (pe_cal C_beyond (hr.mono (by decide)) (by rfl) (pa_cons (pv 5) (pa_cons (pv 4) pa_nil))))
            (pss_one (ps_if (PW.pt (pw_and (pt_cmpR op_notNK (pv 6) pe_non (nomark _)) (pw_and1 (pt_cmp (pc_dnotin hu (pv 6) (pv 2)))))) (pss_cons (ps_dput hu (pv 2) (pv 6) pe_bl rfl)
              (pss_one (ps_expr (pe_bm PySem.F.plainAttrs_list PySem.F.slot_list_append PySem.F.type_list_append mt_append (pv 3) (pa_cons (pv 6) pa_nil))))) pss_nil)))))))
        (pss_one (ps_ret (pv 2))))))), ?_⟩
    refine Z.at_slots (σ := [some _, some _, none, none, none, none, none]) ?_
    walk_at "go"
    refine z_disp1 (k := (n : Int)) (v := .bl true) (fun H1 R q => z_var rfl q) (fun H1 R q => q) fun d nd => ?_
    walk_at "go"
    refine ⟨sz _, fun p np => ?_⟩
    walk_at "go"
    have npd : p ≠ d := fun e => by rw [e, upd_same] at np; cases np
    have fp : H p = none := fr (Ex.new nd) np
    refine z_while (fun m σ' H' => ∃ ks ws v4 v5 v6, σ' = [some (.int n), some (.ref a), some (.ref d), some (.ref p), v4, v5, v6] ∧ Ex H H' ∧ H' d = some (.dK (keysD ks)) ∧ H' p = some (.lst (natV ws)) ∧ RI n rs ks ws ∧ 2 * (n + 1 - ks.length) + ws.length ≤ m ∧ m ≤ 2 * n + 1) (2 * (n + 1 - 1) + 1) ?_ ?_
    · exact ⟨[n], [n], _, _, _, rfl, ex_new (Ex.new nd) np, by rw [upd_ne npd.symm, upd_same]; rfl, upd_same, RI.start n rs, Nat.le_refl _, by omega⟩
    rintro m σ' H' ⟨ks, ws, v4, v5, v6, rfl, e, hd, hp, I, hm, hmm⟩
    walk_at "go"
    refine ⟨sz _, fun q nq => ?_⟩
    refine z_neD (α := List Nat) (a := ws) (b := []) (by decide) (dt_nats (upd_at hp (ne_fr hp nq))) (dt_lst (sq_of upd_same) da_nil) ?_
    walk_at "go"
    refine z_iteN (fun c => ?_) (fun c => ?_)
    · refine z_turn ?_
      obtain ⟨ws', here, rfl⟩ := snoc_of c
      have hp1 := upd_at (o := .lst []) hp (ne_fr hp nq)
      have hd1 := upd_at (o := .lst []) hd (ne_fr hd nq)
      have e1 : Ex H (upd H' q (.lst [])) := ex_new e nq
      walk_at "go"
      refine ⟨tyL hp1, ?_⟩
      rw [natV_snoc] at hp1
      refine z_pop hp1 ?_
      walk_at "go"
      have J := I.pop
      have hk : ks.length ≤ n + 1 := I.len
      rw [List.length_append, List.length_singleton] at hm
      refine z_forV ha rfl (fun pre σ2 H2 => ∃ ks ws v5 v6, σ2 = [some (.int n), some (.ref a), some (.ref d), some (.ref p), some (.int here), v5, v6] ∧ Ex H H2 ∧ H2 d = some (.dK (keysD ks)) ∧ H2 p = some (.lst (natV ws)) ∧ RJ n rs here pre ks ws ∧ 2 * (n + 1 - ks.length) + ws.length < m) ?_ ?_ ?_ ?_
      · exact ⟨ks, ws', _, _, rfl, ex_mut e1 fp, upd_at hd1 (npd.symm), upd_same, J, by omega⟩
      · rintro _ _ _ ⟨_, _, _, _, _, e, _⟩; exact e
      · rintro pre r post v σ2 H2 er hr ⟨ks, ws, v5, v6, rfl, e2, hd2, hp2, J2, hm2⟩
        obtain ⟨t, rfl, ht⟩ := hr.road
        have hrm : r ∈ rs := by rw [er]; simp
        obtain ⟨b1, b2⟩ := hv r hrm
        walk_at "go"
        refine ⟨t, r, here, rfl, hr.ex e2, ?_⟩
        rcases beyondV_cases r here with ⟨ev, n1, n2⟩ | ⟨o, ev, ho⟩
        · rw [ev]
          walk_at "go"
          refine ⟨ks, ws, _, _, rfl, e2, hd2, hp2, J2.skip ⟨fun z => absurd z n1, fun z => absurd z n2⟩, hm2⟩
        · rw [ev]
          walk_at "go"
          refine z_dgetI hd2 ?_
          have bo : o ≤ n := by omega
          by_cases mo : o ∈ ks
          · rw [keysD_some mo]
            walk_at "go"
            refine ⟨ks, ws, _, _, rfl, e2, hd2, hp2, J2.skip ?_, hm2⟩
            rcases ho with ⟨h1, h2⟩ | ⟨h1, h2⟩
            · refine ⟨fun _ => by rw [h2]; exact mo, fun _ => by rw [h1]; exact J2.hh⟩
            · refine ⟨fun _ => by rw [h1]; exact J2.hh, fun _ => by rw [h2]; exact mo⟩
          · rw [keysD_none mo]
            walk_at "go"
            have l2 := J2.len
            refine z_dputI hd2 (by rw [keysD_len]; exact szl _) ?_
            rw [keysD_put mo]
            walk_at "go"
            have hp3 : (upd H2 d (.dK (keysD (ks ++ [o])))) p = some (.lst (natV ws)) := upd_at hp2 npd
            refine ⟨tyL hp3, ?_⟩
            walk_at "go"
            have J3 := J2.add hrm bo mo ho
            have l3 := J3.len
            have lw : ws.length < m := by omega
            refine z_app hp3 (by rw [natV_len]; exact szl _) ?_
            refine ⟨ks ++ [o], ws ++ [o], _, _, rfl, ex_mut (ex_mut e2 nd) fp, upd_at upd_same npd.symm, ?_, J3, ?_⟩
            · rw [upd_same, natV_snoc]
            · rw [List.length_append, List.length_append, List.length_singleton]
              rw [List.length_append, List.length_singleton] at l3
              omega
      · rintro σ2 H2 ⟨ks, ws, v5, v6, rfl, e2, hd2, hp2, J2, hm2⟩
        exact ⟨_, hm2, ks, ws, _, _, _, rfl, e2, hd2, hp2, J2.done, Nat.le_refl _, by omega⟩
    · walk_at "go"
      rw [c] at I
      exact hq d _ ks nd (ex_new e nq) (upd_at hd (ne_fr hd nq)) I.fin
theorem ok_need_net {f : Addr} {fd : FuncData} (T : Fn K mg "need_net" s_need_net f fd ["many", "roads"]) (B : Bf mg) (ZE : Er cls K mg) (C_is_whole : Cal P w K mg base CX0 1 "is_whole" ["thing", "least", "most"] (sp_is_whole K)) (C_is_road : Cal P w K mg base CX0 2 "is_road" ["thing", "many"] (sp_is_road K)) (C_reached : Cal P w K mg base CX0 2 "reached" ["many", "roads"] (sp_reached K)) (G_MOST_PLACES : ∃ t, mg "MOST_PLACES" = some (.int 10 t)) (G_MOST_ROADS : ∃ t, mg "MOST_ROADS" = some (.int 40 t))  : Cal P w K mg base CX0 3 "need_net" ["many", "roads"] (sp_need_net K) := by
  refine T.ok sc_need_net (fun vs H Q E h => ?_) (fun cdv A outer s H vs Q E hr h => ?_)
  · obtain ⟨_, _, _, rfl, _⟩ := h; rfl
  · have hu := hu_of hr
    obtain ⟨n, a, rs, rfl, hn, hl, ha, N, hq⟩ := h
    obtain ⟨_, ts, e, hs, hts⟩ := ha.list
    cases e
    have hlt := hts.length
    refine ⟨_, ((pss_cons (ps_if (PW.pt (pw_or (pt_not (pt_val (pe_cal C_is_whole (hr.mono (by decide)) (by rfl) (pa_cons (pv 0) (pa_cons pe_int (pa_cons (pe_globI (by rfl) G_MOST_PLACES) pa_nil)))))) (pw_or (pt_not (pt_val (pe_callB (callIsi K) (by rfl) B.isinstance (by decide +kernel) (pa_cons (pv 1) (pa_cons (pe_bltn (v := .ty "list") (u := .type "list") (by rfl) B.list (by decide +kernel) rfl) pa_nil))))) (pw_or1 (pt_cmpR op_gt (pe_callB (callLen K) (by rfl) B.len (by decide +kernel) (pa_cons (pv 1) pa_nil)) (pe_globI (by rfl) G_MOST_ROADS) (nomark _)))))) (pss_one ps_never) pss_nil)
        (pss_cons (ps_for PassesOwn.never rfl (piL K (pv 1)) (pg_name (i := 2) sc_need_net.nd rfl (Or.inl rfl))
        (pss_one (ps_if (pt_not (pt_val (pe_cal C_is_road (hr.mono (by decide)) (by rfl) (pa_cons (pv 2) (pa_cons (pv 0) pa_nil))))) (pss_one ps_never) pss_nil)))
        (pss_one (ps_if (pt_cmpR op_le (pe_callB call_lenDK (by rfl) B.len (by decide +kernel) (pa_cons (pe_cal C_reached (hr.mono (by decide)) (by rfl) (pa_cons (pv 0) (pa_cons (pv 1) pa_nil))) pa_nil)) (pv 0) (nomark _)) (pss_one ps_never) pss_nil))))), ?_⟩
    refine Z.at_slots (σ := [some _, some _, none]) ?_
    walk_at "go"
    refine sp_is_whole_int ?_
    rw [decide_eq_true (by omega)]
    walk_at "go"
    rw [decide_eq_false (by omega)]
    walk_at "go"
    refine z_forV ha rfl (fun pre σ' H' => ∃ v2, σ' = [some (.int n), some (.ref a), v2] ∧ H' = H) ?_ ?_ ?_ ?_
    · exact ⟨_, rfl, rfl⟩
    · rintro _ _ _ ⟨_, _, rfl⟩; exact Ex.refl _
    · rintro pre r post v σ' H' er hr ⟨_, rfl, rfl⟩
      have hrm : r ∈ rs := by rw [er]; simp
      obtain ⟨t, rfl, ht⟩ := hr.road
      obtain ⟨b1, b2, b3⟩ := N.ok r hrm
      walk_at "go"
      refine ⟨t, r, n, rfl, hr, b1, b2, b3, ?_⟩
      walk_at "go"
      exact ⟨_, rfl, rfl⟩
    · rintro σ' H' ⟨_, rfl, rfl⟩
      walk_at "go"
      refine ⟨n, a, rs, rfl, by omega, ha, fun r hr => ⟨(N.ok r hr).1, (N.ok r hr).2.1⟩, fun d H2 ks nd e2 hd R => ?_⟩
      walk_at "go"
      rw [keysD_len, R.all N, decide_eq_false (by omega)]
      walk_at "go"
      exact hq H2 e2
theorem ok_table_of {f : Addr} {fd : FuncData} (T : Fn K mg "table_of" s_table_of f fd ["many", "roads"]) (B : Bf mg) (ZE : Er cls K mg)  : Cal P w K mg base CX0 1 "table_of" ["many", "roads"] (sp_table_of K) := by
  refine T.ok sc_table_of (fun vs H Q E h => ?_) (fun cdv A outer s H vs Q E hr h => ?_)
  · obtain ⟨_, _, _, rfl, _⟩ := h; rfl
  · have hu := hu_of hr
    obtain ⟨n, a, rs, rfl, hn, hl, N, ha, hq⟩ := h
    refine ⟨_, ((pss_cons (ps_setLc (i := 2) (own := [("k", 5)]) (g := gName 5) (tt := tYes) rfl sc_table_of.nd rfl rfl (sw_true rfl rfl rfl (by decide +kernel)) (pi_range1 (by rfl) B.range (pa_cons (pv 0) pa_nil)) (blkOk_by (N := nn_table_of) (sc := defScope s_table_of) (by decide +kernel)) (fun _ _ _ _ _ => pg_name (i := 5) sc_table_of.nd rfl (Or.inl rfl)) (fun _ _ _ _ _ => pts_nil) (fun _ _ _ _ _ => (pe_op op_rep (pe_lst (pa_cons pe_int pa_nil)) (pv 0))))
        (pss_cons (ps_for PassesOwn.never rfl (piL K (pv 1)) (pg_tup (by rfl) (pgs_cons (pg_name (i := 3) sc_table_of.nd rfl (Or.inl rfl)) (pgs_cons (pg_name (i := 4) sc_table_of.nd rfl (Or.inl rfl)) pgs_nil)))
        (Evl.pss_cut (ps_if (pt_cmpR op_lt (pv 3) (pv 0) (nomark _)) (pss_one (ps_augS (pe_ix (ixL K) (pv 2) (pv 3) (fun _ _ => rfl)) (pv 3) (getL K) pe_int ip_add set_list)) pss_nil)
          (Evl.pss_cut (ps_if (pt_cmpR op_lt (pv 4) (pv 0) (nomark _)) (pss_one (ps_augS (pe_ix (ixL K) (pv 2) (pv 4) (fun _ _ => rfl)) (pv 4) (getL K) pe_int ip_add set_list)) pss_nil)
          (pss_one (ps_if (PW.pt (pw_and (pt_cmpR op_lt (pv 3) (pv 0) (nomark _)) (pw_and1 (pt_cmpR op_lt (pv 4) (pv 0) (nomark _))))) (pss_cons (ps_augS (pe_ix (ixL K) (pv 2) (pv 3) (fun _ _ => rfl)) (pv 4) (getL K) pe_int ip_sub set_list)
            (pss_one (ps_augS (pe_ix (ixL K) (pv 2) (pv 4) (fun _ _ => rfl)) (pv 3) (getL K) pe_int ip_sub set_list))) pss_nil)))))
        (pss_one (ps_ret (pv 2)))))), ?_⟩
    refine Z.at_slots (σ := [some _, some _, none, none, none, none]) ?_
    walk_at "go"
    refine z_lcrloop (n := n) (by omega) fun D hD => ⟨fun i H' => Ex H H' ∧ i ≤ n ∧ ∃ ps : List Addr, H' D = some (.lst (ps.map V.ref)) ∧ ps.length = i ∧ ps.Nodup ∧ (∀ p ∈ ps, p ≠ D ∧ H p = none) ∧ ∀ (j : Nat) (p : Addr), ps[j]? = some p → H' p = some (.lst ((tab n fun _ => 0).map V.int)), ?_, ?_, ?_⟩
    · exact ⟨Ex.new hD, Nat.zero_le _, [], upd_same, rfl, List.nodup_nil, fun p hp => (by cases hp), fun j p hp => (by cases hp)⟩
    · rintro i H2 hi ⟨e2, hin, ps, hp, hpl, hnd, hne, hps⟩
      walk_at "go"
      refine ⟨rfl, ?_⟩
      walk_at "go"
      refine ⟨sz _, fun o no => ?_⟩
      walk_at "go"
      refine z_rep (n := n) upd_same (by omega) fun z nz => ?_
      rw [tabV_rep]
      have e3 := (Ex.new (o := .lst [.int 0]) no).trans (Ex.new (o := .lst ((tab n fun _ => 0).map V.int)) nz)
      have nz2 : H2 z = none := fr (Ex.new no) nz
      have hp3 := e3 _ _ hp
      have ne3 : z ≠ D := fun y => by rw [y, hp] at nz2; cases nz2
      refine ⟨_, hp3, by rw [List.length_map]; exact szl _ (by omega), ex_mut (e2.trans e3) hD, hi, ps ++ [z], by rw [upd_same, List.map_append]; rfl, by rw [List.length_append, hpl]; rfl, ?_, fun p hp => ?_, fun j p hp => ?_⟩
      · refine List.nodup_append.mpr ⟨hnd, by simp, fun x hx y hy => ?_⟩
        rw [List.mem_singleton.mp hy]
        rintro rfl
        obtain ⟨j, hj⟩ := List.getElem?_of_mem hx
        rw [hps j _ hj] at nz2; cases nz2
      · rcases List.mem_append.mp hp with y | y
        · exact hne p y
        · rw [List.mem_singleton.mp y]; exact ⟨ne3, fr e2 nz2⟩
      · have hpl2 := (List.getElem?_eq_some_iff.mp hp).1
        rw [List.length_append, List.length_singleton] at hpl2
        by_cases c : j < ps.length
        · rw [List.getElem?_append_left c] at hp
          rw [upd_ne (hne p (List.mem_of_getElem? hp)).1]
          exact e3 _ _ (hps j p hp)
        · have ej : j = ps.length := by omega
          rw [List.getElem?_append_right (by omega), ej, Nat.sub_self] at hp
          have : z = p := by simpa using hp
          subst this
          rw [upd_ne ne3, upd_same]
    rintro H2 ⟨e2, _, ps, hp, hpl, hnd, hne, hps⟩
    have R0 : RowsX H2 D ps n (TB []) := RowsX.congr (g := fun _ _ => 0) ⟨hp, hpl, hnd, fun p hp => (hne p hp).1, hps⟩ fun i j _ _ => (TB_nil i j).symm
    have fps : ∀ {x p}, ps[x]? = some p → H p = none := fun h => (hne _ (List.mem_of_getElem? h)).2
    walk_at "go"
    refine z_forV ha rfl (fun pre σ' H' => ∃ v3 v4, σ' = [some (.int n), some (.ref a), some (.ref D), v3, v4, none] ∧ Ex H H' ∧ RowsX H' D ps n (TB pre)) ?_ ?_ ?_ ?_
    · exact ⟨_, _, rfl, e2, R0⟩
    · rintro _ _ _ ⟨_, _, _, e, _⟩; exact e
    · rintro pre r post v σ' H' er hr ⟨v3, v4, rfl, e3, R⟩
      have hrm : r ∈ rs := by rw [er]; simp
      obtain ⟨b1, b2, b3⟩ := N.ok r hrm
      obtain ⟨t, rfl, ht⟩ := hr.road
      refine z_gtup2 (ex_t e3 ht) ?_
      walk_at "go"
      refine z_cut (fun σ2 H2 => σ2 = [some (.int n), some (.ref a), some (.ref D), some (.int r.1), some (.int r.2), none] ∧ Ex H H2 ∧ RowsX H2 D ps n fun i j => TB pre i j + if i = r.1 ∧ j = r.1 then 1 else 0) ?_ ?_
      · walk_at "go"
        refine z_ite (fun c => ?_) (fun c => ?_) <;> walk_at "go"
        · obtain ⟨p, hp1, hp2, hp3⟩ := R.row (x := r.1) (by omega)
          refine z_ixL (sq_of R.1) hp2 ?_
          walk_at "go"
          refine z_getL (sq_of hp3) (tabV_get _ (by omega)) ?_
          walk_at "go"
          refine z_setL hp3 (by rw [tabV_len]; omega) ?_
          rw [tabV_set _ _ (by omega)]
          exact ⟨rfl, ex_mut e3 (fps hp1), R.add hp1 1⟩
        · refine ⟨rfl, e3, R.congr fun i j hi hj => ?_⟩
          rw [if_neg (by omega), Int.add_zero]
      rintro σ2 H2 ⟨rfl, e4, R⟩
      refine z_cut (fun σ2 H2 => σ2 = [some (.int n), some (.ref a), some (.ref D), some (.int r.1), some (.int r.2), none] ∧ Ex H H2 ∧ RowsX H2 D ps n fun i j => (TB pre i j + if i = r.1 ∧ j = r.1 then 1 else 0) + if i = r.2 ∧ j = r.2 then 1 else 0) ?_ ?_
      · walk_at "go"
        refine z_ite (fun c => ?_) (fun c => ?_) <;> walk_at "go"
        · obtain ⟨p, hp1, hp2, hp3⟩ := R.row (x := r.2) (by omega)
          refine z_ixL (sq_of R.1) hp2 ?_
          walk_at "go"
          refine z_getL (sq_of hp3) (tabV_get _ (by omega)) ?_
          walk_at "go"
          refine z_setL hp3 (by rw [tabV_len]; omega) ?_
          rw [tabV_set _ _ (by omega)]
          exact ⟨rfl, ex_mut e4 (fps hp1), R.add hp1 1⟩
        · refine ⟨rfl, e4, R.congr fun i j hi hj => ?_⟩
          rw [if_neg (show ¬ (i = r.2 ∧ j = r.2) by omega), Int.add_zero]
      rintro σ2 H2 ⟨rfl, e5, R⟩
      have fin : ∀ {H2 : Hp}, Ex H H2 → RowsX H2 D ps n (fun i j => (((TB pre i j + if i = r.1 ∧ j = r.1 then 1 else 0) + if i = r.2 ∧ j = r.2 then 1 else 0) + if i = r.1 ∧ j = r.2 then -1 else 0) + if i = r.2 ∧ j = r.1 then -1 else 0) → ∃ v3 v4, ([some (.int n), some (.ref a), some (.ref D), some (.int r.1), some (.int r.2), none] : List (Option V)) = [some (.int n), some (.ref a), some (.ref D), v3, v4, none] ∧ Ex H H2 ∧ RowsX H2 D ps n (TB (pre ++ [r])) := fun {H2} e R =>
        ⟨_, _, rfl, e, R.congr fun i j _ _ => (TB_snoc pre r b3 i j).symm⟩
      walk_at "gs"
      refine z_and2 (p := decide ((r.1 : Int) < n)) (q := decide ((r.2 : Int) < n)) (fun R' k => by walk_at "go"; exact k) (fun R' k => by walk_at "go"; exact k) ?_
      rw [← Bool.decide_and]
      refine z_ite (fun c => ?_) (fun c => ?_) <;> walk_at "go"
      · obtain ⟨p, hp1, hp2, hp3⟩ := R.row (x := r.1) (by omega)
        refine z_ixL (sq_of R.1) hp2 ?_
        walk_at "go"
        refine z_getL (sq_of hp3) (tabV_get _ (show r.2 < n by omega)) ?_
        walk_at "go"
        refine z_setL hp3 (by rw [tabV_len]; omega) ?_
        rw [tabV_set _ _ (show r.2 < n by omega)]
        have R2 := R.add (y := r.2) hp1 (-1)
        have e6 := fun o => ex_mut (o := o) e5 (fps hp1)
        rw [Int.sub_eq_add_neg]
        refine (fun (G : ∀ H7, Ex H H7 → RowsX H7 D ps n _ → _) => G _ (e6 _) R2) fun H7 e6 R2 => ?_
        obtain ⟨p', hq1, hq2, hq3⟩ := R2.row (x := r.2) (by omega)
        walk_at "go"
        refine z_ixL (sq_of R2.1) hq2 ?_
        walk_at "go"
        refine z_getL (sq_of hq3) (tabV_get _ (show r.1 < n by omega)) ?_
        walk_at "go"
        refine z_setL hq3 (by rw [tabV_len]; omega) ?_
        rw [tabV_set _ _ (show r.1 < n by omega), Int.sub_eq_add_neg]
        exact fin (ex_mut e6 (fps hq1)) (R2.add hq1 (-1))
      · refine fin e5 (R.congr fun i j hi hj => ?_)
        rw [if_neg (show ¬ (i = r.1 ∧ j = r.2) by omega), if_neg (show ¬ (i = r.2 ∧ j = r.1) by omega)]
        omega
    · rintro σ' H' ⟨v3, v4, rfl, e3, R⟩
      walk_at "go"
      exact hq D ps H' hD (fun p hp => (hne p hp).2) e3 R
theorem ok_how_many {f : Addr} {fd : FuncData} (T : Fn K mg "how_many" s_how_many f fd ["many", "roads"]) (B : Bf mg) (ZE : Er cls K mg) (C_need_net : Cal P w K mg base CX0 3 "need_net" ["many", "roads"] (sp_need_net K)) (C_table_of : Cal P w K mg base CX0 1 "table_of" ["many", "roads"] (sp_table_of K))  : Cal P w K mg base CX0 4 "how_many" ["many", "roads"] (sp_how_many K) := by
  refine T.ok sc_how_many (fun vs H Q E h => ?_) (fun cdv A outer s H vs Q E hr h => ?_)
  · obtain ⟨_, _, _, rfl, _⟩ := h; rfl
  · have hu := hu_of hr
    obtain ⟨n, a, rs, rfl, hn, hl, N, ha, hq⟩ := h
    refine ⟨_, ((pss_cons (ps_expr (pe_cal C_need_net (hr.mono (by decide)) (by rfl) (pa_cons (pv 0) (pa_cons (pv 1) pa_nil))))
        (pss_cons (ps_set (i := 2) sc_how_many.nd rfl (Or.inl rfl) (pe_cal C_table_of (hr.mono (by decide)) (by rfl) (pa_cons (pv 0) (pa_cons (pv 1) pa_nil))))
        (pss_cons (ps_set (i := 3) sc_how_many.nd rfl (Or.inl rfl) pe_int)
        (pss_cons (ps_for PassesOwn.never rfl (pi_range1 (by rfl) B.range (pa_cons (pv 0) pa_nil)) (pg_name (i := 4) sc_how_many.nd rfl (Or.inl rfl))
        (pss_cons (ps_for PassesOwn.never rfl (pi_range2 (by rfl) B.range (pa_cons (pe_op op_add (pv 4) pe_int) (pa_cons (pv 0) pa_nil))) (pg_name (i := 5) sc_how_many.nd rfl (Or.inl rfl))
          (pss_cons (ps_set (i := 6) sc_how_many.nd rfl (Or.inl rfl) (pe_callTy (callListOf K) (by rfl) B.list (by decide +kernel) (pa_cons (pe_ix (ixL K) (pv 2) (pv 5) (fun _ _ => rfl)) pa_nil)))
            (pss_cons (ps_for PassesOwn.never rfl (pi_range2 (by rfl) B.range (pa_cons (pe_op op_add (pv 4) pe_int) (pa_cons (pv 0) pa_nil))) (pg_name (i := 7) sc_how_many.nd rfl (Or.inl rfl))
            (pss_one (ps_asg (pe_op op_fdivW (pe_op op_sub (pe_op op_mul (pe_ix (ixL K) (pe_ix (ixL K) (pv 2) (pv 5) (fun _ _ => rfl)) (pv 7) (fun _ _ => rfl)) (pe_ix (ixL K) (pe_ix (ixL K) (pv 2) (pv 4) (fun _ _ => rfl)) (pv 4) (fun _ _ => rfl))) (pe_op op_mul (pe_ix (ixL K) (pe_ix (ixL K) (pv 2) (pv 5) (fun _ _ => rfl)) (pv 4) (fun _ _ => rfl)) (pe_ix (ixL K) (pe_ix (ixL K) (pv 2) (pv 4) (fun _ _ => rfl)) (pv 7) (fun _ _ => rfl)))) (pv 3)) (pg_sub (pv 6) (pv 7) set_list))))
            (pss_one (ps_asg (pv 6) (pg_sub (pv 2) (pv 5) set_list))))))
          (pss_one (ps_set (i := 3) sc_how_many.nd rfl (Or.inl rfl) (pe_ix (ixL K) (pe_ix (ixL K) (pv 2) (pv 4) (fun _ _ => rfl)) (pv 4) (fun _ _ => rfl))))))
        (pss_one (ps_ret (pv 3)))))))), ?_⟩
    refine Z.at_slots (σ := [some _, some _, none, none, none, none, none, none]) ?_
    walk_at "go"
    refine ⟨n, a, rs, rfl, hn, hl, ha, N, fun H1 e1 => ?_⟩
    walk_at "go"
    refine ⟨n, a, rs, rfl, hn, hl, N, ha.ex e1, fun D ps H2 nD nps e2 R0 => ?_⟩
    have fD := fr e1 nD
    have dpos : ∀ k, k ≤ n → 0 < det k (LA n rs) := N.det_pos
    have dsm : ∀ k, k ≤ n → (det k (LA n rs)).natAbs < 2 ^ 62 := fun k hk => by
      cases k with
      | zero => show (1 : Int).natAbs < 2 ^ 62; decide
      | succ k =>
        have := qq_less N hl hn (k := k) (i := k) (j := k) (by omega) (by omega) (Nat.le_refl _) (Nat.le_refl _)
        rw [qq_diag] at this
        omega
    walk_at "go"
    refine z_forRV rfl (by omega) (fun k σ' H' => ∃ (ps : List Addr) (v4 v5 v6 v7 : Option V), σ' = [some (.int n), some (.ref a), some (.ref D), some (.int (det k (LA n rs))), v4, v5, v6, v7] ∧ Ex H H' ∧ H' D = some (.lst (ps.map V.ref)) ∧ ps.length = n ∧ (∀ p ∈ ps, p ≠ D) ∧ ∀ j p, ps[j]? = some p → H' p = some (.lst ((tab n (R3 n rs k j)).map V.int))) ?_ ?_ ?_
    · obtain ⟨h1, h2, h3, h4, h5⟩ := R0
      refine ⟨ps, _, _, _, _, rfl, e1.trans e2, h1, h2, h4, fun j p hj => ?_⟩
      have hjn : j < n := by have := (List.getElem?_eq_some_iff.mp hj).1; omega
      rw [h5 j p hj, tab_congr]
      intro k hk
      unfold R3
      rw [Nat.min_zero, qq_start, LA_TB N hjn hk]
    · rintro k σ' H3 hk ⟨ps, v4, v5, v6, v7, rfl, e3, hp, hpl, hne, hps⟩
      dsimp only
      walk_at "go"
      have et : R3 n rs k k k = det (k + 1) (LA n rs) := by unfold R3; rw [Nat.min_self, Nat.min_self]; exact qq_diag _ k
      dsimp only
      refine z_for ?_
      walk_at "go"
      refine z_iRng2 ?_
      walk_at "go"
      refine z_rloop2 (lo := k + 1) (n := n) (by omega) (by omega) (fun i σ' H' => ∃ (ps : List Addr) (v5 v6 v7 : Option V), σ' = [some (.int n), some (.ref a), some (.ref D), some (.int (det k (LA n rs))), some (.int k), v5, v6, v7] ∧ Ex H H' ∧ H' D = some (.lst (ps.map V.ref)) ∧ ps.length = n ∧ (∀ p ∈ ps, p ≠ D) ∧
        ∀ j p, ps[j]? = some p → H' p = some (.lst ((tab n (if k < j ∧ j < i then R3 n rs (k + 1) j else R3 n rs k j)).map V.int))) ?_ ?_ ?_
      · refine ⟨ps, _, _, _, rfl, e3, hp, hpl, hne, fun j p hj => ?_⟩
        rw [hps j p hj, if_neg (by omega)]
      · rintro i σ' H4 hki hi ⟨ps, v5, v6, v7, rfl, e4, hp, hpl, hne, hps⟩
        walk_at "go"
        have hpk : ps[k]? = some ps[k] := List.getElem?_eq_getElem (by omega)
        have hpi : ps[i]? = some ps[i] := List.getElem?_eq_getElem (by omega)
        have rk := hps k _ hpk
        rw [if_neg (by omega)] at rk
        have ri := hps i _ hpi
        rw [if_neg (by omega)] at ri
        refine z_ixL (sq_of hp) (atI_nat (v := .ref ps[i]) (by rw [List.getElem?_map, hpi]; rfl)) ?_
        refine ⟨_, _, rfl, .inl (sq_of ri), fun l nl => ?_⟩
        walk_at "go"
        have nel : l ≠ D := fun z => by rw [z, hp] at nl; cases nl
        have nels : ∀ p ∈ ps, l ≠ p := fun p hpm z => by
          obtain ⟨j, hj⟩ := List.getElem?_of_mem hpm
          have := hps j p hj
          rw [← z, nl] at this; cases this
        dsimp only
        refine z_for ?_
        walk_at "go"
        refine z_iRng2 ?_
        walk_at "go"
        refine z_rloop2 (lo := k + 1) (n := n) (by omega) (by omega) (fun j σ' H' => ∃ (v7 : Option V), σ' = [some (.int n), some (.ref a), some (.ref D), some (.int (det k (LA n rs))), some (.int k), some (.int i), some (.ref l), v7] ∧ Ex H4 H' ∧
          H' l = some (.lst ((tab n fun c => if c < j then R3 n rs (k + 1) i c else R3 n rs k i c).map V.int))) ?_ ?_ ?_
        · refine ⟨_, rfl, Ex.new nl, ?_⟩
          rw [upd_same, tab_congr]
          intro c hc
          by_cases z : c < k + 1
          · rw [if_pos z]
            unfold R3
            rw [show min (min i c) k = min (min i c) (k + 1) by omega]
          · rw [if_neg z]
        · rintro j σ' H5 hkj hj ⟨v7, rfl, e5, hl5⟩
          walk_at "go"
          refine z_ixL (sq_of (e5 _ _ hp)) (atI_nat (v := .ref ps[i]) (by rw [List.getElem?_map, hpi]; rfl)) ?_
          walk_at "go"
          refine z_ixL (sq_of (e5 _ _ ri)) (atI_tab _ hj) ?_
          walk_at "go"
          refine z_ixL (sq_of (e5 _ _ hp)) (atI_nat (v := .ref ps[k]) (by rw [List.getElem?_map, hpk]; rfl)) ?_
          walk_at "go"
          refine z_ixL (sq_of (e5 _ _ rk)) (atI_tab _ hk) ?_
          have m1 : R3 n rs k i j = qq (LA n rs) k i j := by unfold R3; rw [show min (min i j) k = k by omega]
          have m2 : R3 n rs k k k = qq (LA n rs) k k k := by unfold R3; rw [show min (min k k) k = k by omega]
          have m3 : R3 n rs k i k = qq (LA n rs) k i k := by unfold R3; rw [show min (min i k) k = k by omega]
          have m4 : R3 n rs k k j = qq (LA n rs) k k j := by unfold R3; rw [show min (min k j) k = k by omega]
          have m5 : R3 n rs (k + 1) i j = qq (LA n rs) (k + 1) i j := by unfold R3; rw [show min (min i j) (k + 1) = k + 1 by omega]
          rw [m1, m2]
          have s1 := qq_less N hl hn (k := k) (i := k) (j := k) hk hk (Nat.le_refl _) (Nat.le_refl _)
          refine z_I (C := CMul) (Or.inr (by omega)) ?_
          walk_at "go"
          refine z_ixL (sq_of (e5 _ _ hp)) (atI_nat (v := .ref ps[i]) (by rw [List.getElem?_map, hpi]; rfl)) ?_
          walk_at "go"
          refine z_ixL (sq_of (e5 _ _ ri)) (atI_tab _ hk) ?_
          walk_at "go"
          refine z_ixL (sq_of (e5 _ _ hp)) (atI_nat (v := .ref ps[k]) (by rw [List.getElem?_map, hpk]; rfl)) ?_
          walk_at "go"
          refine z_ixL (sq_of (e5 _ _ rk)) (atI_tab _ hj) ?_
          rw [m3, m4]
          have s2 := qq_less N hl hn (k := k) (i := k) (j := j) hk hj (Nat.le_refl _) (by omega)
          refine z_I (C := CMul) (Or.inr (by omega)) ?_
          walk_at "go"
          refine z_I (C := CDivW) (wide_div (b := 62) (dpos k (by omega)) (dsm k (by omega)) (by decide) (by decide)) ?_
          rw [N.exactA hk, ← m5]
          walk_at "go"
          refine z_setL hl5 (by rw [tabV_len]; exact hj) ?_
          rw [tabV_set _ _ hj]
          refine ⟨_, rfl, ex_mut e5 nl, ?_⟩
          rw [upd_same, tab_congr]
          intro c hc
          unfold fup
          by_cases z : c = j
          · subst z; rw [if_pos rfl, if_pos (by omega)]
          · rw [if_neg z]
            show (if c < j then R3 n rs (k + 1) i c else R3 n rs k i c) = _
            by_cases y : c < j
            · rw [if_pos y, if_pos (by omega)]
            · rw [if_neg y, if_neg (by omega)]
        · rintro σ' H5 ⟨v7, rfl, e5, hl5⟩
          walk_at "go"
          have hp5 := e5 _ _ hp
          refine z_setL hp5 (by rw [List.length_map, hpl]; exact hi) ?_
          have es : (ps.map V.ref).set i (.ref l) = (ps.set i l).map V.ref := by rw [List.map_set]
          rw [es]
          refine ⟨ps.set i l, _, _, _, rfl, ex_mut (e4.trans e5) fD, upd_same, by rw [List.length_set]; exact hpl, fun p hp => ?_, fun j p hj => ?_⟩
          · rcases List.mem_or_eq_of_mem_set hp with z | z
            · exact hne p z
            · rw [z]; exact nel
          · rw [List.getElem?_set] at hj
            by_cases cj : i = j
            · subst cj
              rw [if_pos rfl, if_pos (by omega)] at hj
              have : l = p := Option.some.inj hj
              subst this
              rw [upd_ne nel, hl5, if_pos ⟨by omega, by omega⟩, tab_congr]
              intro c hc
              rw [if_pos hc]
            · rw [if_neg cj] at hj
              rw [upd_ne (hne p (List.mem_of_getElem? hj)), e5 _ _ (hps j p hj)]
              by_cases cc : k < j ∧ j < i
              · rw [if_pos cc, if_pos ⟨cc.1, by omega⟩]
              · rw [if_neg cc, if_neg (by omega)]
      · rintro σ' H4 ⟨ps, v5, v6, v7, rfl, e4, hp, hpl, hne, hps⟩
        walk_at "go"
        have hpk : ps[k]? = some ps[k] := List.getElem?_eq_getElem (by omega)
        have rk := hps k _ hpk
        rw [if_neg (by omega)] at rk
        refine z_ixL (sq_of hp) (atI_nat (v := .ref ps[k]) (by rw [List.getElem?_map, hpk]; rfl)) ?_
        walk_at "go"
        refine z_ixL (sq_of rk) (atI_tab _ hk) ?_
        walk_at "go"
        rw [et]
        refine ⟨ps, _, _, _, _, rfl, e4, hp, hpl, hne, fun j p hj => ?_⟩
        have hjn : j < n := by have := (List.getElem?_eq_some_iff.mp hj).1; omega
        rw [hps j p hj]
        by_cases cj : k < j
        · rw [if_pos ⟨cj, hjn⟩]
        · rw [if_neg (by omega), tab_congr]
          intro c hc
          unfold R3
          rw [show min (min j c) k = min (min j c) (k + 1) by omega]
    · rintro σ' H3 ⟨ps, v4, v5, v6, v7, rfl, e3, hp, hpl, hne, hps⟩
      walk_at "go"
      exact hq H3 e3
theorem ok_law_whole {f : Addr} {fd : FuncData} (T : Fn K mg "_law_whole" s_law_whole f fd ["_law_found"]) (B : Bf mg) (ZE : Er cls K mg)  : Cal P w K mg base CX0 1 "_law_whole" ["_law_found"] (sp_law_whole K) := by
  refine T.ok sc_law_whole (fun vs H Q E h => ?_) (fun cdv A outer s H vs Q E hr h => ?_)
  · obtain ⟨_, rfl, _⟩ := h; rfl
  · have hu := hu_of hr
    obtain ⟨x, rfl, ht, hq⟩ := h
    refine ⟨_, ((pss_one (ps_ret (pe_and (pe_callB (callIsi K) (by rfl) B.isinstance (by decide +kernel) (pa_cons (pv 0) (pa_cons (pe_bltn (v := .ty "int") (u := .type "int") (by rfl) B.int (by decide +kernel) rfl) pa_nil))) (pe_one (pe_not (pe_callB (callIsi K) (by rfl) B.isinstance (by decide +kernel) (pa_cons (pv 0) (pa_cons (pe_bltn (v := .ty "bool") (u := .type "bool") (by rfl) B.bool (by decide +kernel) rfl) pa_nil))))))))), ?_⟩
    refine Z.at_slots (σ := [some _]) ?_
    cases ht <;> walk_at "go" <;> exact hq
theorem ok_need_heap {f : Addr} {fd : FuncData} (T : Fn K mg "need_heap" s_need_heap f fd ["many", "heap"]) (B : Bf mg) (ZE : Er cls K mg) (C_is_whole : Cal P w K mg base CX0 1 "is_whole" ["thing", "least", "most"] (sp_is_whole K)) (G_MOST_SAND : ∃ t, mg "MOST_SAND" = some (.int 1000000000 t))  : Cal P w K mg base CX0 2 "need_heap" ["many", "heap"] (sp_need_heap K) := by
  refine T.ok sc_need_heap (fun vs H Q E h => ?_) (fun cdv A outer s H vs Q E hr h => ?_)
  · obtain ⟨_, _, _, rfl, _⟩ := h; rfl
  · have hu := hu_of hr
    obtain ⟨n, a, h, rfl, ha, hg, hq⟩ := h
    obtain ⟨_, e, hs⟩ := ha.ints
    cases e
    refine ⟨_, ((pss_cons (ps_if (PW.pt (pw_or (pt_not (pt_val (pe_callB (callIsi K) (by rfl) B.isinstance (by decide +kernel) (pa_cons (pv 1) (pa_cons (pe_bltn (v := .ty "list") (u := .type "list") (by rfl) B.list (by decide +kernel) rfl) pa_nil))))) (pw_or1 (pt_cmpR op_ne (pe_callB (callLen K) (by rfl) B.len (by decide +kernel) (pa_cons (pv 1) pa_nil)) (pv 0) (nomark _))))) (pss_one ps_never) pss_nil)
        (pss_one (ps_for PassesOwn.never rfl (piL K (pv 1)) (pg_name (i := 2) sc_need_heap.nd rfl (Or.inl rfl))
        (pss_one (ps_if (pt_not (pt_val (pe_cal C_is_whole (hr.mono (by decide)) (by rfl) (pa_cons (pv 2) (pa_cons pe_int (pa_cons (pe_globI (by rfl) G_MOST_SAND) pa_nil)))))) (pss_one ps_never) pss_nil)))))), ?_⟩
    refine Z.at_slots (σ := [some _, some _, none]) ?_
    walk_at "go"
    rw [tabV_len, decide_eq_true rfl]
    walk_at "go"
    refine z_forV ha rfl (fun pre σ' H' => ∃ v2, σ' = [some (.int n), some (.ref a), v2] ∧ H' = H) ?_ ?_ ?_ ?_
    · exact ⟨_, rfl, rfl⟩
    · rintro _ _ _ ⟨_, _, rfl⟩; exact Ex.refl _
    · rintro pre y post v σ' H' er hy ⟨_, rfl, rfl⟩
      cases hy.int
      walk_at "go"
      refine sp_is_whole_int ?_
      have hm : y ∈ tab n h := by rw [er]; simp
      obtain ⟨k, hk, rfl⟩ := List.mem_map.mp hm
      have := hg k (List.mem_range.mp hk)
      rw [decide_eq_true (by omega)]
      walk_at "go"
      exact ⟨_, rfl, rfl⟩
    · rintro σ' H' ⟨_, rfl, rfl⟩
      walk_at "go"
      exact hq
theorem ok_counted {f : Addr} {fd : FuncData} (T : Fn K mg "counted" s_counted f fd ["many", "roads"]) (B : Bf mg) (ZE : Er cls K mg)  : Cal P w K mg base CX0 1 "counted" ["many", "roads"] (sp_counted K) := by
  refine T.ok sc_counted (fun vs H Q E h => ?_) (fun cdv A outer s H vs Q E hr h => ?_)
  · obtain ⟨_, _, _, rfl, _⟩ := h; rfl
  · have hu := hu_of hr
    obtain ⟨n, a, rs, rfl, hn, ha, hq⟩ := h
    refine ⟨_, ((pss_cons (ps_set (i := 2) sc_counted.nd rfl (Or.inl rfl) (pe_op op_rep (pe_lst (pa_cons pe_int pa_nil)) (pv 0)))
        (pss_cons (ps_for PassesOwn.never rfl (piL K (pv 1)) (pg_name (i := 3) sc_counted.nd rfl (Or.inl rfl))
        (pss_one (ps_for PassesOwn.never rfl (piT K (pv 3)) (pg_name (i := 4) sc_counted.nd rfl (Or.inl rfl))
          (pss_one (ps_if (pt_cmpR op_lt (pv 4) (pv 0) (nomark _)) (pss_one (ps_augS (pv 2) (pv 4) (getL K) pe_int ip_add set_list)) pss_nil)))))
        (pss_one (ps_ret (pv 2)))))), ?_⟩
    refine Z.at_slots (σ := [some _, some _, none, none, none]) ?_
    walk_at "go"
    refine ⟨sz _, fun p0 np0 => ?_⟩
    walk_at "go"
    refine z_rep (n := n) upd_same (by omega) fun p np => ?_
    rw [tabV_rep]
    walk_at "go"
    have e0 : Ex H (upd (upd H p0 (.lst [.int 0])) p (.lst ((tab n fun _ => 0).map V.int))) := ex_new (Ex.new np0) np
    have fp : H p = none := fr (Ex.new np0) np
    refine z_forV ha rfl (fun pre σ' H' => ∃ v3 v4, σ' = [some (.int n), some (.ref a), some (.ref p), v3, v4] ∧ Ex H H' ∧ H' p = some (.lst ((tab n (deg pre)).map V.int))) ?_ ?_ ?_ ?_
    · exact ⟨_, _, rfl, e0, upd_same⟩
    · rintro pre σ' H' ⟨_, _, _, e, _⟩; exact e
    · rintro pre r post v σ' H' er hv ⟨v3, v4, rfl, e, hp⟩
      obtain ⟨t, rfl, ht⟩ := hv.road
      walk_at "go"
      refine z_forT2 (ex_t e ht) rfl (fun σ2 H2 => ∃ v4, σ2 = [some (.int n), some (.ref a), some (.ref p), some (.ref t), v4] ∧ Ex H H2 ∧ H2 p = some (.lst ((tab n fun k => deg pre k + ind r.1 k).map V.int)))
        (fun σ2 H2 => ∃ v4, σ2 = [some (.int n), some (.ref a), some (.ref p), some (.ref t), v4] ∧ Ex H H2 ∧ H2 p = some (.lst ((tab n fun k => deg pre k + ind r.1 k + ind r.2 k).map V.int))) ?_ ?_ ?_ ?_ ?_
      · rintro _ _ ⟨_, _, h, _⟩; exact ex_t h ht
      · rintro _ _ ⟨_, _, h, _⟩; exact ex_t h ht
      · walk_at "go"
        refine z_ite (fun c => ?_) (fun c => ?_) <;> walk_at "go"
        · have c : r.1 < n := by omega
          refine z_getL (sq_of hp) (tabV_get _ c) ?_
          walk_at "go"
          refine z_setL hp (by rw [tabV_len]; exact c) ?_
          refine ⟨_, rfl, ex_mut e fp, ?_⟩
          rw [upd_same, tabV_set _ _ c, fup_ind]
        · refine ⟨_, rfl, e, ?_⟩
          rw [hp, tab_ind (a := r.1) _ (by omega)]
      · rintro σ2 H2 ⟨v4, rfl, e2, hp2⟩
        walk_at "go"
        refine z_ite (fun c => ?_) (fun c => ?_) <;> walk_at "go"
        · have c : r.2 < n := by omega
          refine z_getL (sq_of hp2) (tabV_get _ c) ?_
          walk_at "go"
          refine z_setL hp2 (by rw [tabV_len]; exact c) ?_
          refine ⟨_, rfl, ex_mut e2 fp, ?_⟩
          rw [upd_same, tabV_set _ _ c, fup_ind]
        · refine ⟨_, rfl, e2, ?_⟩
          rw [hp2, tab_ind (a := r.2) _ (by omega)]
      · rintro σ2 H2 ⟨v4, rfl, e2, hp2⟩
        refine ⟨_, _, rfl, e2, ?_⟩
        rw [hp2, tab_congr]
        intro k _
        exact (deg_snoc _ _ _).symm
    · rintro σ' H' ⟨v3, v4, rfl, e, hp⟩
      walk_at "go"
      exact hq p H' fp e hp
theorem ok_is_low {f : Addr} {fd : FuncData} (T : Fn K mg "is_low" s_is_low f fd ["roads", "heap"]) (B : Bf mg) (ZE : Er cls K mg) (C_counted : Cal P w K mg base CX0 1 "counted" ["many", "roads"] (sp_counted K))  : Cal P w K mg base CX0 2 "is_low" ["roads", "heap"] (sp_is_low K) := by
  refine T.ok sc_is_low (fun vs H Q E h => ?_) (fun cdv A outer s H vs Q E hr h => ?_)
  · obtain ⟨_, _, _, _, _, rfl, _⟩ := h; rfl
  · have hu := hu_of hr
    obtain ⟨a, b, rs, n, h, rfl, hn, ha, hb, hq⟩ := h
    obtain ⟨_, e, hbs⟩ := hb.ints
    cases e
    refine ⟨_, ((pss_cons (ps_set (i := 2) sc_is_low.nd rfl (Or.inr rfl) (pe_cal C_counted (hr.mono (by decide)) (by rfl) (pa_cons (pe_callB (callLen K) (by rfl) B.len (by decide +kernel) (pa_cons (pv 1) pa_nil)) (pa_cons (pv 0) pa_nil))))
        (pss_one (ps_ret (pe_cmpR (opEqD K hr.units) (pe_lc (own := [("k", 3)]) (g := gName 3) (tt := _) rfl sc_is_low.nd (pi_range1 (by rfl) B.range (pa_cons (pe_callB (callLen K) (by rfl) B.len (by decide +kernel) (pa_cons (pv 1) pa_nil)) pa_nil)) (blkOk_by (N := nn_is_low) (sc := defScope s_is_low) (by decide +kernel)) (fun _ _ _ _ _ => pg_name (i := 3) sc_is_low.nd rfl (Or.inl rfl)) (fun _ _ _ _ _ => (pts_one (pt_cmpR op_ge (pe_ix (ixL K) (pv 1) (pv 3) (fun _ _ => rfl)) (pe_ix (ixL K) (pv 2) (pv 3) (fun _ _ => rfl)) (nomark _)))) (fun _ _ _ _ _ => (pv 3))) (pe_lst pa_nil) (nomark _)))))), ?_⟩
    refine Z.at_slots (σ := [some _, some _, none, none]) ?_
    walk_at "go"
    rw [tabV_len]
    walk_at "go"
    refine ⟨n, a, rs, rfl, hn, ha, fun m H1 nm e1 hm => ?_⟩
    walk_at "go"
    refine z_lenL (ex_l e1 hbs) ?_
    rw [tabV_len]
    walk_at "go"
    refine z_lcrloop (by omega) fun D hD => ⟨fun i H' => Ex H1 H' ∧ ∃ l : List Int, H' D = some (.lst (l.map V.int)) ∧ l.length ≤ i ∧ (l = [] ↔ ∀ k, k < i → h k < deg rs k), ⟨Ex.new hD, [], upd_same, Nat.le_refl _, fun _ k hk => by omega, fun _ => rfl⟩, ?_, ?_⟩
    · rintro i H' hi ⟨e, l, hd, ll, hl⟩
      walk_at "go"
      refine ⟨rfl, ?_⟩
      walk_at "go"
      refine z_ixL (ex_l (e1.trans e) hbs) (atI_tab _ hi) ?_
      walk_at "go"
      refine z_ixL (sq_of (e _ _ hm)) (atI_tab _ hi) ?_
      walk_at "go"
      refine z_ite (fun c => ?_) (fun c => ?_)
      · walk_at "go"
        refine ⟨_, hd, by rw [List.length_map]; exact szl _, ex_mut e hD, l ++ [(i : Int)], by rw [upd_same, List.map_append]; rfl, by rw [List.length_append, List.length_singleton]; omega, ?_⟩
        refine ⟨fun z => absurd z (by simp), fun z => ?_⟩
        have := z i (by omega); omega
      · refine ⟨e, l, hd, by omega, hl.trans ⟨fun z k hk => ?_, fun z k hk => z k (by omega)⟩⟩
        by_cases ck : k = i
        · subst ck; omega
        · exact z k (by omega)
    rintro H2 ⟨e, l, hd, ll, hl⟩
    walk_at "go"
    refine ⟨sz _, fun p np => ?_⟩
    refine z_eqD (α := List Int) (a := l) (b := []) (by decide) (dt_intsH (upd_at hd (ne_fr hd np))) (dt_lst (sq_of upd_same) da_nil) ?_
    refine hq _ _ ?_ (ex_new (e1.trans e) np)
    rw [decide_eq_true_eq]
    exact hl
theorem ok_moved {f : Addr} {fd : FuncData} (T : Fn K mg "moved" s_moved f fd ["roads", "heap", "place", "times"]) (B : Bf mg) (ZE : Er cls K mg) (C_beyond : Cal P w K mg base CX0 1 "beyond" ["road", "here"] (sp_beyond K))  : Cal P w K mg base CX0 2 "moved" ["roads", "heap", "place", "times"] (sp_moved K) := by
  refine T.ok sc_moved (fun vs H Q E h => ?_) (fun cdv A outer s H vs Q E hr h => ?_)
  · obtain ⟨_, _, _, _, _, _, _, rfl, _⟩ := h; rfl
  · have hu := hu_of hr
    obtain ⟨a, b, rs, n, p, h, t, rfl, hn, hp, ok, ha, hb, hq⟩ := h
    obtain ⟨_, e, hbs⟩ := hb.ints
    cases e
    refine ⟨_, ((pss_cons (ps_set (i := 4) sc_moved.nd rfl (Or.inl rfl) (pe_callTy (callListOf K) (by rfl) B.list (by decide +kernel) (pa_cons (pv 1) pa_nil)))
        (pss_cons (ps_for PassesOwn.never rfl (piL K (pv 0)) (pg_name (i := 5) sc_moved.nd rfl (Or.inl rfl))
        (pss_cons (ps_set (i := 6) sc_moved.nd rfl (Or.inl rfl) (pe_cal C_beyond (hr.mono (by decide)) (by rfl) (pa_cons (pv 5) (pa_cons (pv 2) pa_nil))))
          (pss_one (ps_if (pt_cmpR op_notNK (pv 6) pe_non (nomark _)) (pss_cons (ps_augS (pv 4) (pv 2) (getL K) (pv 3) ip_sub set_list)
            (pss_one (ps_if (pt_cmpR op_lt (pv 6) (pe_callB (callLen K) (by rfl) B.len (by decide +kernel) (pa_cons (pv 1) pa_nil)) (nomark _)) (pss_one (ps_augS (pv 4) (pv 6) (getL K) (pv 3) ip_add set_list)) pss_nil))) pss_nil))))
        (pss_one (ps_ret (pv 4)))))), ?_⟩
    refine Z.at_slots (σ := [some _, some _, some _, some _, none, none, none]) ?_
    walk_at "go"
    refine z_listOf hb fun f vs nf hvs => ?_
    cases hvs.ints
    walk_at "go"
    have e0 : Ex H (upd H f (.lst ((tab n h).map V.int))) := Ex.new nf
    refine z_forV ha rfl (fun pre σ' H' => ∃ v5 v6, σ' = [some (.ref a), some (.ref b), some (.int p), some (.int t), some (.ref f), v5, v6] ∧ Ex H H' ∧ H' f = some (.lst ((tab n (mv n pre h (at1 p t))).map V.int))) ?_ ?_ ?_ ?_
    · refine ⟨_, _, rfl, e0, ?_⟩
      rw [upd_same, tab_congr]
      intro k _; exact (mv_nil h (at1 p t) k).symm
    · rintro pre σ' H' ⟨_, _, _, e, _⟩; exact e
    · rintro pre r post v σ' H' er hv ⟨v5, v6, rfl, e, hf⟩
      obtain ⟨q, rfl, _⟩ := hv.road
      have hrm : r ∈ rs := by rw [er]; simp
      obtain ⟨b1, b2, b3⟩ := ok r hrm
      walk_at "go"
      refine ⟨q, r, p, rfl, hv.ex e, ?_⟩
      rcases beyondV_cases r p with ⟨ev, n1, n2⟩ | ⟨o, ev, ho⟩
      · rw [ev]
        walk_at "go"
        refine ⟨_, _, rfl, e, ?_⟩
        rw [hf, tab_congr]
        intro k _; exact (mv_none n1 n2 k).symm
      · rw [ev]
        walk_at "go"
        refine z_getL (sq_of hf) (tabV_get _ hp) ?_
        walk_at "go"
        refine z_setL hf (by rw [tabV_len]; exact hp) ?_
        walk_at "go"
        rw [tabV_set _ _ hp, Int.sub_eq_add_neg, fup_add]
        have e2 : ∀ z, Ex H (upd H' f z) := fun z => ex_mut e nf
        refine z_lenL (ex_l (e2 _) hbs) ?_
        rw [tabV_len]
        walk_at "go"
        have bo : o ≤ n := by omega
        refine z_ite (fun c => ?_) (fun c => ?_) <;> walk_at "go"
        · have c : o < n := by omega
          refine z_getL (sq_of upd_same) (tabV_get _ c) ?_
          walk_at "go"
          refine z_setL upd_same (by rw [tabV_len]; exact c) ?_
          refine ⟨_, _, rfl, ex_mut (e2 _) nf, ?_⟩
          rw [upd_same, tabV_set _ _ c, fup_add, tab_congr]
          intro k _
          exact (mv_road hp b3 ho k).symm
        · refine ⟨_, _, rfl, e2 _, ?_⟩
          rw [upd_same, tab_add (a := o) _ t (by omega), tab_congr]
          intro k _
          exact (mv_road hp b3 ho k).symm
    · rintro σ' H' ⟨v5, v6, rfl, e, hf⟩
      walk_at "go"
      exact hq f H' nf e hf
theorem ok_settle {f : Addr} {fd : FuncData} (T : Fn K mg "settle" s_settle f fd ["roads", "heap"]) (B : Bf mg) (ZE : Er cls K mg) (C_counted : Cal P w K mg base CX0 1 "counted" ["many", "roads"] (sp_counted K)) (C_moved : Cal P w K mg base CX0 2 "moved" ["roads", "heap", "place", "times"] (sp_moved K))  : Cal P w K mg base CX0 3 "settle" ["roads", "heap"] (sp_settle K) := by
  refine T.ok sc_settle (fun vs H Q E h => ?_) (fun cdv A outer s H vs Q E hr h => ?_)
  · obtain ⟨_, _, _, _, _, rfl, _⟩ := h; rfl
  · have hu := hu_of hr
    obtain ⟨a, b, rs, n, h, rfl, hn, hrl, N, ha, hb, hq⟩ := h
    obtain ⟨_, e, hbs⟩ := hb.ints
    cases e
    refine ⟨_, ((pss_cons (ps_set (i := 2) sc_settle.nd rfl (Or.inl rfl) (pe_cal C_counted (hr.mono (by decide)) (by rfl) (pa_cons (pe_callB (callLen K) (by rfl) B.len (by decide +kernel) (pa_cons (pv 1) pa_nil)) (pa_cons (pv 0) pa_nil))))
        (pss_cons (ps_set (i := 3) sc_settle.nd rfl (Or.inl rfl) (pe_callTy (callListOf K) (by rfl) B.list (by decide +kernel) (pa_cons (pv 1) pa_nil)))
        (pss_cons (ps_set (i := 4) sc_settle.nd rfl (Or.inl rfl) (pe_op op_rep (pe_lst (pa_cons pe_int pa_nil)) (pe_callB (callLen K) (by rfl) B.len (by decide +kernel) (pa_cons (pv 1) pa_nil))))
        (pss_cons (ps_set (i := 5) sc_settle.nd rfl (Or.inl rfl) pe_bl)
        (pss_cons (ps_while PassesOwn.never (pt_val (pv 5))
        (pss_cons (ps_set (i := 5) sc_settle.nd rfl (Or.inl rfl) pe_bl)
          (pss_one (ps_for PassesOwn.never rfl (pi_range1 (by rfl) B.range (pa_cons (pe_callB (callLen K) (by rfl) B.len (by decide +kernel) (pa_cons (pv 3) pa_nil)) pa_nil)) (pg_name (i := 6) sc_settle.nd rfl (Or.inl rfl))
          (pss_cons (ps_set (i := 7) sc_settle.nd rfl (Or.inl rfl) (pe_op op_fdiv (pe_ix (ixL K) (pv 3) (pv 6) (fun _ _ => rfl)) (pe_ix (ixL K) (pv 2) (pv 6) (fun _ _ => rfl))))
            (pss_one (ps_if (pt_cmpR op_gt (pv 7) pe_int (nomark _)) (pss_cons (ps_set (i := 3) sc_settle.nd rfl (Or.inl rfl) (pe_cal C_moved (hr.mono (by decide)) (by rfl) (pa_cons (pv 0) (pa_cons (pv 3) (pa_cons (pv 6) (pa_cons (pv 7) pa_nil))))))
              (pss_cons (ps_augS (pv 4) (pv 6) (getL K) (pv 7) ip_add set_list)
              (pss_one (ps_set (i := 5) sc_settle.nd rfl (Or.inl rfl) pe_bl)))) pss_nil)))))))
        (pss_one (ps_ret (pe_tup (pa_cons (pv 3) (pa_cons (pv 4) pa_nil))))))))))), ?_⟩
    refine Z.at_slots (σ := [some _, some _, none, none, none, none, none, none]) ?_
    walk_at "go"
    rw [tabV_len]
    walk_at "go"
    refine ⟨n, a, rs, rfl, hn, ha, fun m H1 nm e1 hm => ?_⟩
    walk_at "go"
    refine z_listOf (hb.ex e1) fun f vs nf hvs => ?_
    cases hvs.ints
    walk_at "go"
    have e2 : Ex H1 (upd H1 f (.lst ((tab n h).map V.int))) := Ex.new nf
    refine ⟨sz _, fun q0 nq0 => ?_⟩
    walk_at "go"
    have e3 : Ex H1 (upd (upd H1 f (.lst ((tab n h).map V.int))) q0 (.lst [.int 0])) := ex_new e2 nq0
    refine z_lenL (ex_l (e1.trans e3) hbs) ?_
    rw [tabV_len]
    walk_at "go"
    refine z_rep (n := n) upd_same (by omega) fun c nc => ?_
    rw [tabV_rep]
    walk_at "go"
    have hf3 : (upd (upd H1 f (.lst ((tab n h).map V.int))) q0 (.lst [.int 0])) f = some (.lst ((tab n h).map V.int)) := upd_at upd_same (ne_fr upd_same nq0)
    have e4 : Ex H1 (upd (upd (upd H1 f (.lst ((tab n h).map V.int))) q0 (.lst [.int 0])) c (.lst ((tab n fun _ => 0).map V.int))) := ex_new e3 nc
    have nfc : f ≠ c := ne_fr hf3 nc
    have ncH1 : H1 c = none := fr e3 nc
    have fc : H c = none := fr e1 ncH1
    have ff : H f = none := fr e1 nf
    have hf4 : (upd (upd (upd H1 f (.lst ((tab n h).map V.int))) q0 (.lst [.int 0])) c (.lst ((tab n fun _ => 0).map V.int))) f = some (.lst ((tab n h).map V.int)) := upd_at hf3 nfc
    have hc4 : (upd (upd (upd H1 f (.lst ((tab n h).map V.int))) q0 (.lst [.int 0])) c (.lst ((tab n fun _ => 0).map V.int))) c = some (.lst ((tab n fun _ => 0).map V.int)) := upd_same
    generalize (upd (upd (upd H1 f (.lst ((tab n h).map V.int))) q0 (.lst [.int 0])) c (.lst ((tab n fun _ => 0).map V.int))) = H4 at e4 hf4 hc4 ⊢
    obtain ⟨u, un, ul⟩ := N.restful h
    refine z_while (fun m0 σ' H' => ∃ (v : Nat → Int) (f : Addr) (g : Bool) (v6 v7 : Option V), σ' = [some (.ref a), some (.ref b), some (.ref m), some (.ref f), some (.ref c), some (.bl g), v6, v7] ∧ Ex H1 H' ∧ H f = none ∧ H1 f = none ∧ f ≠ c ∧ H' f = some (.lst ((tab n (mv n rs h v)).map V.int)) ∧ H' c = some (.lst ((tab n v).map V.int)) ∧ Way n rs h v ∧ (g = false → Low n rs (mv n rs h v)) ∧
      2 * gap n u v + (if g then 1 else 0) ≤ m0) (2 * gap n u (fun _ => 0) + 1) ?_ ?_
    · refine ⟨fun _ => 0, f, true, _, _, rfl, e4, ff, nf, nfc, ?_, hc4, Way.start n rs h, fun z => by (cases z), Nat.le_refl _⟩
      rw [hf4, tab_congr]
      intro k _; exact (mv_zero n rs h k).symm
    rintro m0 σ' H' ⟨v, f, g, v6, v7, rfl, e5, ff5, nf5, nfc5, hf5, hc5, W, hlow, hm0⟩
    walk_at "go"
    refine z_iteb (fun cg => ?_) (fun cg => ?_)
    · subst cg
      refine z_turn ?_
      walk_at "go"
      dsimp only
      refine z_for ?_
      walk_at "go"
      rw [tabV_len]
      walk_at "go"
      refine z_rloop (by omega) (fun i σ2 H2 => ∃ (v' : Nat → Int) (f : Addr) (g : Bool) (v6 v7 : Option V), σ2 = [some (.ref a), some (.ref b), some (.ref m), some (.ref f), some (.ref c), some (.bl g), v6, v7] ∧ Ex H1 H2 ∧ H f = none ∧ H1 f = none ∧ f ≠ c ∧ H2 f = some (.lst ((tab n (mv n rs h v')).map V.int)) ∧ H2 c = some (.lst ((tab n v').map V.int)) ∧ Way n rs h v' ∧
        (g = false → (∀ k, k < n → v' k = v k) ∧ ∀ k, k < i → ¬ 0 < mv n rs h v k / deg rs k) ∧ gap n u v' ≤ gap n u v ∧ (g = true → gap n u v' < gap n u v)) ?_ ?_ ?_
      · exact ⟨v, f, false, _, _, rfl, e5, ff5, nf5, nfc5, hf5, hc5, W, fun _ => ⟨fun _ _ => rfl, fun k hk => by omega⟩, Nat.le_refl _, fun z => by (cases z)⟩
      · rintro i σ2 H2 hi ⟨v', f, g, v6, v7, rfl, e6, ff6, nf6, nfc6, hf6, hc6, W6, g1, g2, g3⟩
        walk_at "go"
        refine z_ixL (sq_of hf6) (atI_tab _ hi) ?_
        walk_at "go"
        refine z_ixL (sq_of (e6 _ _ hm)) (atI_tab _ hi) ?_
        have dp := N.deg_pos hi
        have dl := deg_le rs i
        refine z_I ⟨by omega, by omega⟩ ?_
        walk_at "go"
        refine z_ite (fun cp => ?_) (fun cp => ?_) <;> walk_at "go"
        · refine ⟨a, f, rs, n, i, mv n rs h v', mv n rs h v' i / deg rs i, rfl, hn, hi, N.ok, ha.ex (e1.trans e6), dt_intsH hf6, fun f2 H3 nf2 e7 hf2 => ?_⟩
          walk_at "go"
          have hc7 := e7 _ _ hc6
          have nf2c : f2 ≠ c := fun z => by rw [z, hc6] at nf2; cases nf2
          refine z_getL (sq_of hc7) (tabV_get _ hi) ?_
          walk_at "go"
          refine z_setL hc7 (by rw [tabV_len]; exact hi) ?_
          walk_at "go"
          rw [tabV_set _ _ hi, fup_add]
          have ev : ∀ k, v' k + (if i = k then mv n rs h v' i / deg rs i else 0) = v' k + at1 i (mv n rs h v' i / deg rs i) k := fun k => by
            unfold at1
            by_cases ck : k = i
            · subst ck; simp only [if_true]
            · rw [if_neg ck, if_neg fun z => ck z.symm]
          have D := due_at1 (n := n) (rs := rs) (h := h) (v := v') (k := i) (t := mv n rs h v' i / deg rs i) (by omega) (Int.ediv_mul_le _ (by omega))
          have W7 := W6.step N D
          have gl : gap n u (fun k => v' k + at1 i (mv n rs h v' i / deg rs i) k) < gap n u v' := gap_lt (W7.least u (fun k _ => un k) ul) (fun k hk => by have := (D k hk).1; show v' k ≤ v' k + _; omega) ⟨i, hi, by
            show v' i < v' i + at1 i _ i
            unfold at1; rw [if_pos rfl]; omega⟩
          refine ⟨fun k => v' k + at1 i (mv n rs h v' i / deg rs i) k, f2, true, _, _, rfl, ex_mut (e6.trans e7) ncH1, fr (e1.trans e6) nf2, fr e6 nf2, nf2c, ?_, ?_, W7, fun z => by (cases z), by omega, fun _ => by omega⟩
          · rw [upd_ne nf2c, hf2, tab_congr]
            intro k _
            exact (mv_add n rs h v' (at1 i (mv n rs h v' i / deg rs i)) k).symm
          · rw [upd_same]
            exact congrArg (fun l => some (HO.lst (l.map V.int))) (tab_congr fun k _ => ev k)
        · refine ⟨v', f, g, _, _, rfl, e6, ff6, nf6, nfc6, hf6, hc6, W6, fun z => ⟨(g1 z).1, fun k hk => ?_⟩, g2, g3⟩
          by_cases ck : k = i
          · subst ck
            have e8 := mv_congr (rs := rs) (h := h) (h' := h) (g1 z).1 k rfl
            rw [← e8]; exact cp
          · exact (g1 z).2 k (by omega)
      · rintro σ2 H2 ⟨v', f, g, v6, v7, rfl, e6, ff6, nf6, nfc6, hf6, hc6, W6, g1, g2, g3⟩
        refine ⟨2 * gap n u v' + (if g then 1 else 0), ?_, v', f, g, _, _, rfl, e6, ff6, nf6, nfc6, hf6, hc6, W6, fun z => ?_, Nat.le_refl _⟩
        · cases g with
          | true => have := g3 rfl; simp only [if_true] at hm0 ⊢; omega
          | false =>
            simp only [if_true] at hm0
            show 2 * gap n u v' + 0 < m0
            omega
        · obtain ⟨z1, z2⟩ := g1 z
          exact (low_of_div N z2).congr fun k hk => (mv_congr z1 k rfl).symm
    · subst cg
      walk_at "go"
      refine ⟨sz _, fun t nt => ?_⟩
      have L := hlow rfl
      exact hq v (W.fin L) t f c _ (fr (e1.trans e5) nt) ff5 fc nfc5 (ne_fr hf5 nt).symm (ne_fr hc5 nt).symm (ex_new (e1.trans e5) nt) upd_same (upd_at hf5 (ne_fr hf5 nt)) (upd_at hc5 (ne_fr hc5 nt))
theorem ok_is_again {f : Addr} {fd : FuncData} (T : Fn K mg "is_again" s_is_again f fd ["roads", "heap"]) (B : Bf mg) (ZE : Er cls K mg) (C_is_low : Cal P w K mg base CX0 2 "is_low" ["roads", "heap"] (sp_is_low K)) (C_settle : Cal P w K mg base CX0 3 "settle" ["roads", "heap"] (sp_settle K))  : Cal P w K mg base CX0 4 "is_again" ["roads", "heap"] (sp_is_again K) := by
  refine T.ok sc_is_again (fun vs H Q E h => ?_) (fun cdv A outer s H vs Q E hr h => ?_)
  · obtain ⟨_, _, _, _, _, rfl, _⟩ := h; rfl
  · have hu := hu_of hr
    obtain ⟨a, b, rs, n, h, rfl, hn, hrl, N, ha, hb, hq⟩ := h
    obtain ⟨_, e, hbs⟩ := hb.ints
    cases e
    refine ⟨_, ((pss_cons (ps_set (i := 2) sc_is_again.nd rfl (Or.inl rfl) (pe_callTy (callListOf K) (by rfl) B.list (by decide +kernel) (pa_cons (pv 1) pa_nil)))
        (pss_cons (ps_for PassesOwn.never rfl (piL K (pv 0)) (pg_name (i := 3) sc_is_again.nd rfl (Or.inl rfl))
        (pss_one (ps_for PassesOwn.never rfl (piT K (pv 3)) (pg_name (i := 4) sc_is_again.nd rfl (Or.inl rfl))
          (pss_one (ps_if (PW.pt (pw_and (pt_cmpR (opIn K) (pe_callB (callLen K) (by rfl) B.len (by decide +kernel) (pa_cons (pv 1) pa_nil)) (pv 3) (by rfl)) (pw_and1 (pt_cmpR op_lt (pv 4) (pe_callB (callLen K) (by rfl) B.len (by decide +kernel) (pa_cons (pv 1) pa_nil)) (nomark _))))) (pss_one (ps_augS (pv 2) (pv 4) (getL K) pe_int ip_add set_list)) pss_nil)))))
        (pss_one (ps_ret (pe_and (pe_cal C_is_low (hr.mono (by decide)) (by rfl) (pa_cons (pv 0) (pa_cons (pv 1) pa_nil))) (pe_one (pe_cmpR (opEqD K hr.units) (pe_ix (ixT K) (pe_cal C_settle (hr.mono (by decide)) (by rfl) (pa_cons (pv 0) (pa_cons (pv 2) pa_nil))) pe_int (fun _ _ => rfl)) (pv 1) (nomark _))))))))), ?_⟩
    refine Z.at_slots (σ := [some _, some _, none, none, none]) ?_
    walk_at "go"
    refine z_listOf hb fun f vs nf hvs => ?_
    cases hvs.ints
    walk_at "go"
    have e0 : Ex H (upd H f (.lst ((tab n h).map V.int))) := Ex.new nf
    refine z_forV ha rfl (fun pre σ' H' => ∃ v3 v4, σ' = [some (.ref a), some (.ref b), some (.ref f), v3, v4] ∧ Ex H H' ∧ H' f = some (.lst ((tab n fun k => h k + bp n pre k).map V.int))) ?_ ?_ ?_ ?_
    · refine ⟨_, _, rfl, e0, ?_⟩
      rw [upd_same, tab_congr]
      intro k _; show h k = h k + bp n [] k
      rw [bp_nil]; omega
    · rintro pre σ' H' ⟨_, _, _, e, _⟩; exact e
    · rintro pre r post v σ' H' er hv ⟨v3, v4, rfl, e, hp⟩
      obtain ⟨t, rfl, ht⟩ := hv.road
      walk_at "go"
      refine z_forT2 (ex_t e ht) rfl (fun σ2 H2 => ∃ v4, σ2 = [some (.ref a), some (.ref b), some (.ref f), some (.ref t), v4] ∧ Ex H H2 ∧ H2 f = some (.lst ((tab n fun k => h k + bp n pre k + (if r.1 = k ∧ r.2 = n then 1 else 0)).map V.int)))
        (fun σ2 H2 => ∃ v4, σ2 = [some (.ref a), some (.ref b), some (.ref f), some (.ref t), v4] ∧ Ex H H2 ∧ H2 f = some (.lst ((tab n fun k => h k + bp n pre k + (if r.1 = k ∧ r.2 = n then 1 else 0) + (if r.2 = k ∧ r.1 = n then 1 else 0)).map V.int))) ?_ ?_ ?_ ?_ ?_
      · rintro _ _ ⟨_, _, h, _⟩; exact ex_t h ht
      · rintro _ _ ⟨_, _, h, _⟩; exact ex_t h ht
      · walk_at "go"
        refine z_lenL (ex_l e hbs) ?_
        rw [tabV_len]
        walk_at "go"
        refine z_inT (road_ints (ex_t e ht)) ?_
        walk_at "go"
        have skip : ¬ (r.1 < n ∧ r.2 = n) → (tab n fun k => h k + bp n pre k) = tab n fun k => h k + bp n pre k + (if r.1 = k ∧ r.2 = n then 1 else 0) := fun z => tab_congr fun k hk => by
          show _ = _ + (if r.1 = k ∧ r.2 = n then 1 else 0)
          rw [if_neg (fun y => z ⟨by omega, y.2⟩)]; omega
        refine z_ite (fun c1 => ?_) (fun c1 => ?_) <;> walk_at "go"
        · rw [in_road] at c1
          refine z_lenL (ex_l e hbs) ?_
          rw [tabV_len]
          walk_at "go"
          refine z_ite (fun c => ?_) (fun c => ?_) <;> walk_at "go"
          · have c : r.1 < n := by omega
            have c2 : r.2 = n := by omega
            refine z_getL (sq_of hp) (tabV_get _ c) ?_
            walk_at "go"
            refine z_setL hp (by rw [tabV_len]; exact c) ?_
            refine ⟨_, rfl, ex_mut e nf, ?_⟩
            rw [upd_same, tabV_set _ _ c, fup_add]
            simp only [c2, and_true]
          · refine ⟨_, rfl, e, ?_⟩
            rw [hp, skip (by omega)]
        · rw [in_road] at c1
          refine ⟨_, rfl, e, ?_⟩
          rw [hp, skip (by omega)]
      · rintro σ2 H2 ⟨v4, rfl, e2, hp2⟩
        walk_at "go"
        refine z_lenL (ex_l e2 hbs) ?_
        rw [tabV_len]
        walk_at "go"
        refine z_inT (road_ints (ex_t e2 ht)) ?_
        walk_at "go"
        have skip : ¬ (r.2 < n ∧ r.1 = n) → (tab n fun k => h k + bp n pre k + (if r.1 = k ∧ r.2 = n then 1 else 0)) = tab n fun k => h k + bp n pre k + (if r.1 = k ∧ r.2 = n then 1 else 0) + (if r.2 = k ∧ r.1 = n then 1 else 0) := fun z => tab_congr fun k hk => by
          show _ = _ + (if r.2 = k ∧ r.1 = n then 1 else 0)
          rw [if_neg (show ¬ (r.2 = k ∧ r.1 = n) from fun y => z ⟨by omega, y.2⟩)]; omega
        refine z_ite (fun c1 => ?_) (fun c1 => ?_) <;> walk_at "go"
        · rw [in_road] at c1
          refine z_lenL (ex_l e2 hbs) ?_
          rw [tabV_len]
          walk_at "go"
          refine z_ite (fun c => ?_) (fun c => ?_) <;> walk_at "go"
          · have c : r.2 < n := by omega
            have c2 : r.1 = n := by omega
            refine z_getL (sq_of hp2) (tabV_get _ c) ?_
            walk_at "go"
            refine z_setL hp2 (by rw [tabV_len]; exact c) ?_
            refine ⟨_, rfl, ex_mut e2 nf, ?_⟩
            rw [upd_same, tabV_set _ _ c, fup_add]
            refine congrArg (fun l => some (HO.lst (l.map V.int))) (tab_congr fun k hk => ?_)
            show _ + (if r.2 = k then 1 else 0) = _ + (if r.2 = k ∧ r.1 = n then 1 else 0)
            have e5 : (if r.2 = k then (1 : Int) else 0) = (if r.2 = k ∧ r.1 = n then 1 else 0) := by
              by_cases ck : r.2 = k
              · rw [if_pos ck, if_pos ⟨ck, c2⟩]
              · rw [if_neg ck, if_neg fun z => ck z.1]
            rw [e5]
          · refine ⟨_, rfl, e2, ?_⟩
            rw [hp2, skip (by omega)]
        · rw [in_road] at c1
          refine ⟨_, rfl, e2, ?_⟩
          rw [hp2, skip (by omega)]
      · rintro σ2 H2 ⟨v4, rfl, e2, hp2⟩
        refine ⟨_, _, rfl, e2, ?_⟩
        rw [hp2, tab_congr]
        intro k _
        show _ = h k + bp n (pre ++ [r]) k
        rw [bp_snoc]; omega
    · rintro σ' H' ⟨v3, v4, rfl, e, hp⟩
      walk_at "go"
      refine ⟨a, b, rs, n, h, rfl, hn, ha.ex e, hb.ex e, fun b1 H2 hb1 e2 => ?_⟩
      walk_at "go"
      refine z_iteb (fun c => ?_) (fun c => ?_)
      · walk_at "go"
        refine ⟨a, f, rs, n, _, rfl, hn, hrl, N, ha.ex (e.trans e2), dt_intsH (e2 _ _ hp), fun v O t f2 c2 H3 _ _ _ _ _ _ e3 g1 g2 g3 => ?_⟩
        have ht3 : SqT K H3 t [.ref f2, .ref c2] := st_of g1
        walk_at "go"
        refine z_eqD (α := List Int) (by decide) (dt_intsH g2) (hb.ex (e.trans (e2.trans e3))) ?_
        refine hq _ _ ?_ (e.trans (e2.trans e3))
        rw [decide_eq_true_eq, again_odo O]
        exact ⟨fun z => ⟨hb1.mp c, tab_inj z⟩, fun z => tab_congr z.2⟩
      · refine hq _ _ ?_ (e.trans e2)
        refine ⟨fun z => absurd z (by decide), fun z => ?_⟩
        rw [hb1.mpr z.1] at c; exact c.symm
theorem ok_need_again {f : Addr} {fd : FuncData} (T : Fn K mg "need_again" s_need_again f fd ["roads", "heap"]) (B : Bf mg) (ZE : Er cls K mg) (C_is_again : Cal P w K mg base CX0 4 "is_again" ["roads", "heap"] (sp_is_again K))  : Cal P w K mg base (L2.CX P w) 5 "need_again" ["roads", "heap"] (sp_need_againX K) := by
  refine T.okX sc_need_again (fun vs H Q E h => ?_) (fun cdv A outer s H vs Q E hr h => ?_)
  · obtain ⟨_, _, _, _, _, rfl, _⟩ := h; rfl
  · have hu := hu_of hr
    obtain ⟨a, b, rs, n, h, rfl, hn, hl, N, ha, hb, hq1, hq2⟩ := h
    refine ⟨_, ((pss_one (ps_if (pt_not (pt_val (pe_cal C_is_again (hr.mono (by decide)) (by rfl) (pa_cons (pv 0) (pa_cons (pv 1) pa_nil))))) (pss_one (ps_raise rfl (takes_of rfl rfl rfl rfl) (pmk_err (ZE.err (x := "NotAgain") (by decide))))) pss_nil))), ?_⟩
    refine Z.at_slots (σ := [some _, some _]) ?_
    walk_at "go"
    refine ⟨a, b, rs, n, h, rfl, hn, hl, N, ha, hb, fun b1 H2 hb1 e2 => ?_⟩
    rw [again_iff N] at hb1
    walk_at "go"
    cases b1 with
    | true =>
      walk_at "go"
      exact hq1 (hb1.mp rfl) _ e2
    | false =>
      walk_at "go"
      exact hq2 (fun z => by cases hb1.mpr z) _ e2
theorem ok_tree_of {f : Addr} {fd : FuncData} (T : Fn K mg "tree_of" s_tree_of f fd ["many", "roads", "heap"]) (B : Bf mg) (ZE : Er cls K mg) (C_need_net : Cal P w K mg base CX0 3 "need_net" ["many", "roads"] (sp_need_net K)) (C_need_heap : Cal P w K mg base CX0 2 "need_heap" ["many", "heap"] (sp_need_heap K)) (C_need_again : Cal P w K mg base (L2.CX P w) 5 "need_again" ["roads", "heap"] (sp_need_againX K)) (C_counted : Cal P w K mg base CX0 1 "counted" ["many", "roads"] (sp_counted K)) (C_beyond : Cal P w K mg base CX0 1 "beyond" ["road", "here"] (sp_beyond K))  : Cal P w K mg base (L2.CX P w) 6 "tree_of" ["many", "roads", "heap"] (sp_tree_ofX K) := by
  refine T.okX sc_tree_of (fun vs H Q E h => ?_) (fun cdv A outer s H vs Q E hr h => ?_)
  · obtain ⟨_, _, _, _, _, rfl, _⟩ := h; rfl
  · have hu := hu_of hr
    obtain ⟨n, a, b, rs, h, rfl, hn, hl, N, hg, ha, hb, hq1, hq2⟩ := h
    obtain ⟨_, e, hbs⟩ := hb.ints
    cases e
    refine ⟨_, ((pss_cons (ps_expr (pe_cal C_need_net (hr.mono (by decide)) (by rfl) (pa_cons (pv 0) (pa_cons (pv 1) pa_nil))))
        (pss_cons (ps_expr (pe_cal C_need_heap (hr.mono (by decide)) (by rfl) (pa_cons (pv 0) (pa_cons (pv 2) pa_nil))))
        (pss_cons (ps_expr (pe_calR (takes_of rfl rfl rfl rfl) C_need_again (hr.mono (by decide)) (by rfl) (pa_cons (pv 1) (pa_cons (pv 2) pa_nil))))
        (pss_cons (ps_set (i := 3) sc_tree_of.nd rfl (Or.inl rfl) (pe_cal C_counted (hr.mono (by decide)) (by rfl) (pa_cons (pv 0) (pa_cons (pv 1) pa_nil))))
        (pss_cons (ps_set (i := 4) sc_tree_of.nd rfl (Or.inl rfl) (pe_disp (pps_cons (pv 0) pe_bl pps_nil) (by rfl) (by rfl) (fun z => by cases z) (by decide)))
        (pss_cons (ps_set (i := 5) sc_tree_of.nd rfl (Or.inl rfl) (pe_lst (pa_cons (pv 0) pa_nil)))
        (pss_cons (ps_set (i := 6) sc_tree_of.nd rfl (Or.inl rfl) (pe_lst pa_nil))
        (pss_cons (ps_while (passes_of rfl) (pt_cmpR (opNeD K hr.units) (pv 5) (pe_lst pa_nil) (nomark _))
        (pss_cons (ps_set (i := 7) sc_tree_of.nd rfl (Or.inl rfl) (pe_bm PySem.F.plainAttrs_list PySem.F.slot_list_pop PySem.F.type_list_pop mt_popAt (pv 5) (pa_cons pe_int pa_nil)))
          (pss_one (ps_for (passes_of rfl) rfl (pi_range1 (by rfl) B.range (pa_cons (pe_callB (callLen K) (by rfl) B.len (by decide +kernel) (pa_cons (pv 1) pa_nil)) pa_nil)) (pg_name (i := 8) sc_tree_of.nd rfl (Or.inl rfl))
          (pss_cons (ps_set (i := 9) sc_tree_of.nd rfl (Or.inl rfl) (pe_cal C_beyond (hr.mono (by decide)) (by rfl) (pa_cons (pe_ix (ixL K) (pv 1) (pv 8) (fun _ _ => rfl)) (pa_cons (pv 7) pa_nil))))
            (pss_one (ps_if (PW.pt (pw_and (pt_cmpR op_notNK (pv 9) pe_non (nomark _)) (pw_and1 (pt_cmp (pc_dnotin hu (pv 9) (pv 4)))))) (pss_cons (ps_augS (pv 3) (pv 9) (getL K) pe_int ip_sub set_list)
              (pss_one (ps_if (pt_cmpR op_ge (pe_ix (ixL K) (pv 2) (pv 9) (fun _ _ => rfl)) (pe_ix (ixL K) (pv 3) (pv 9) (fun _ _ => rfl)) (nomark _)) (pss_cons (ps_dput hu (pv 4) (pv 9) pe_bl rfl)
                (pss_cons (ps_expr (pe_bm PySem.F.plainAttrs_list PySem.F.slot_list_append PySem.F.type_list_append mt_append (pv 6) (pa_cons (pv 8) pa_nil)))
                (pss_one (ps_expr (pe_bm PySem.F.plainAttrs_list PySem.F.slot_list_append PySem.F.type_list_append mt_append (pv 5) (pa_cons (pv 9) pa_nil)))))) pss_nil))) pss_nil)))))))
        (pss_one (ps_ret (pe_callB (crSorted K) (by rfl) B.sorted (by decide +kernel) (pa_cons (pv 6) pa_nil))))))))))))), ?_⟩
    refine Z.at_slots (σ := [some _, some _, some _, none, none, none, none, none, none, none]) ?_
    walk_at "go"
    refine ⟨n, a, rs, rfl, hn, hl, ha, N, fun H1 e1 => ?_⟩
    walk_at "go"
    refine ⟨n, b, h, rfl, hb.ex e1, hg, ?_⟩
    walk_at "go"
    refine ⟨a, b, rs, n, h, rfl, by omega, by omega, N, ha.ex e1, hb.ex e1, fun FL H2 e2 => ?_, fun z H2 e2 => hq2 z _ (e1.trans e2)⟩
    obtain ⟨L, F⟩ := FL
    have e02 := e1.trans e2
    walk_at "go"
    refine ⟨n, a, rs, rfl, by omega, ha.ex e02, fun m H3 nm e3 hm => ?_⟩
    walk_at "go"
    have e03 := e02.trans e3
    refine z_disp1 (k := (n : Int)) (v := .bl true) (fun H1 R q => z_var rfl q) (fun H1 R q => q) fun d nd => ?_
    walk_at "go"
    refine ⟨sz _, fun p np => ?_⟩
    walk_at "go"
    refine ⟨sz _, fun t nt => ?_⟩
    walk_at "go"
    have ek : ([((Sum.inl (n : Int) : Key), V.bl true)] : List (Key × V)) = keysD [n] := rfl
    rw [ek] at *
    have g1 := Ex.new (o := .dK (keysD [n])) nd
    have g2 := ex_new (o := .lst [.int n]) g1 np
    have g3 := ex_new (o := .lst []) g2 nt
    have nmd : m ≠ d := ne_fr hm nd
    have nmp : m ≠ p := ne_fr (g1 _ _ hm) np
    have nmt : m ≠ t := ne_fr (g2 _ _ hm) nt
    have ndp : d ≠ p := ne_fr upd_same np
    have ndt : d ≠ t := ne_fr (upd_at upd_same ndp) nt
    have npt : p ≠ t := ne_fr upd_same nt
    have e0 : Ex H (upd (upd (upd H3 d (.dK (keysD [n]))) p (.lst [.int n])) t (.lst [])) := e03.trans g3
    have fm : H m = none := fr e02 nm
    have fd : H d = none := fr e03 nd
    have fp : H p = none := fr (e03.trans g1) np
    have ft : H t = none := fr (e03.trans g2) nt
    refine z_while (fun m0 σ' H' => ∃ (s : Bst) (pp : List Nat) (v7 v8 v9 : Option V), σ' = [some (.int n), some (.ref a), some (.ref b), some (.ref m), some (.ref d), some (.ref p), some (.ref t), v7, v8, v9] ∧ Ex H H' ∧ H' m = some (.lst ((tab n s.left).map V.int)) ∧ H' d = some (.dK (keysD s.met)) ∧ H' p = some (.lst (natV s.wait)) ∧ H' t = some (.lst (natV s.tree)) ∧
      Out n rs pp s ∧ s.wait.length + (n + 1 - s.met.length) ≤ m0 ∧ m0 ≤ n + 1 ∧ run rs (dH h) m0 s = treeRun n rs h) (n + 1) ?_ ?_
    · exact ⟨st0 n rs, [], _, _, _, rfl, e0, g3 _ _ hm, upd_at (upd_at upd_same ndp) ndt, upd_at upd_same npt, upd_same, Out.start n rs, st0_fuel n rs, Nat.le_refl _, rfl⟩
    rintro m0 σ' H' ⟨s, pp, v7, v8, v9, rfl, e, hm', hd', hp', ht', O, hf, hf2, hrun⟩
    walk_at "go"
    refine ⟨sz _, fun q nq => ?_⟩
    refine z_neD (α := List Nat) (a := s.wait) (b := []) (by decide) (dt_nats (upd_at hp' (ne_fr hp' nq))) (dt_lst (sq_of upd_same) da_nil) ?_
    have hm1 := upd_at (o := .lst []) hm' (ne_fr hm' nq)
    have hd1 := upd_at (o := .lst []) hd' (ne_fr hd' nq)
    have hp1 := upd_at (o := .lst []) hp' (ne_fr hp' nq)
    have ht1 := upd_at (o := .lst []) ht' (ne_fr ht' nq)
    have e4 : Ex H (upd H' q (.lst [])) := ex_new e nq
    generalize (upd H' q (.lst [])) = H5 at hm1 hd1 hp1 ht1 e4
    clear hm' hd' hp' ht' e nq
    walk_at "go"
    refine z_iteN (fun c => ?_) (fun c => ?_)
    · refine z_turn ?_
      obtain ⟨here, ws, ew⟩ : ∃ here ws, s.wait = here :: ws := by
        cases e : s.wait with
        | nil => exact absurd e c
        | cons x y => exact ⟨x, y, rfl⟩
      have hp2 : H5 p = some (.lst (V.int here :: natV ws)) := by rw [hp1, ew]; rfl
      walk_at "go"
      refine ⟨tyL hp2, ?_⟩
      walk_at "go"
      refine z_pop0 hp2 ?_
      walk_at "go"
      have J := O.pop ew
      obtain ⟨f, rfl⟩ : ∃ f, m0 = f + 1 := ⟨m0 - 1, by rw [ew, List.length_cons] at hf; omega⟩
      rw [run_cons ew] at hrun
      have hm3 : (upd H5 p (.lst (natV ws))) m = _ := upd_at hm1 nmp
      have hd3 : (upd H5 p (.lst (natV ws))) d = _ := upd_at hd1 ndp
      have ht3 : (upd H5 p (.lst (natV ws))) t = _ := upd_at ht1 (Ne.symm npt)
      have e5 : Ex H (upd H5 p (.lst (natV ws))) := ex_mut e4 fp
      dsimp only
      refine z_for ?_
      walk_at "go"
      first | (refine z_lenDt (ha.ex e5) ?_; walk_at "go") | skip
      refine z_rloop (n := rs.length) (by omega) (fun i σ2 H2 => ∃ (v8 v9 : Option V), σ2 = [some (.int n), some (.ref a), some (.ref b), some (.ref m), some (.ref d), some (.ref p), some (.ref t), some (.int here), v8, v9] ∧ Ex H H2 ∧ H2 m = some (.lst ((tab n (rnd rs (dH h) here i { s with wait := ws }).left).map V.int)) ∧ H2 d = some (.dK (keysD (rnd rs (dH h) here i { s with wait := ws }).met)) ∧ H2 p = some (.lst (natV (rnd rs (dH h) here i { s with wait := ws }).wait)) ∧ H2 t = some (.lst (natV (rnd rs (dH h) here i { s with wait := ws }).tree))) ?_ ?_ ?_
      · exact ⟨_, _, rfl, e5, hm3, hd3, upd_same, ht3⟩
      · rintro i σ2 H2 hi ⟨v8, v9, rfl, e6, hm6, hd6, hp6, ht6⟩
        have I := Inn.rnd (D := dH h) J N.ok i (Nat.le_of_lt hi)
        have er : rs[i]? = some rs[i] := List.getElem?_eq_getElem hi
        have es : rnd rs (dH h) here (i + 1) { s with wait := ws } = stp rs (dH h) here i (rnd rs (dH h) here i { s with wait := ws }) := rfl
        rw [es, stp_at er]
        generalize rnd rs (dH h) here i { s with wait := ws } = s6 at I hm6 hd6 hp6 ht6
        obtain ⟨_, vs, v', ea, hsq, hat, hdt⟩ := dt_at (ha.ex e6) hi
        cases ea
        obtain ⟨tr, rfl, htr⟩ := hdt.road
        walk_at "go"
        refine z_ixL hsq hat ?_
        walk_at "go"
        refine ⟨tr, rs[i], here, rfl, hdt, ?_⟩
        rw [beyondV_far]
        cases f2 : far rs[i] here with
        | none =>
          walk_at "go"
          exact ⟨_, _, rfl, e6, hm6, hd6, hp6, ht6⟩
        | some o =>
          dsimp only
          walk_at "go"
          refine z_dgetI hd6 ?_
          by_cases mo : o ∈ s6.met
          · rw [keysD_some mo, if_pos mo]
            walk_at "go"
            exact ⟨_, _, rfl, e6, hm6, hd6, hp6, ht6⟩
          · rw [keysD_none mo, if_neg mo]
            walk_at "go"
            have hon : o < n := by
              obtain ⟨k1, k2, _⟩ := N.ok rs[i] (List.getElem_mem hi)
              have : o ≤ n := by rcases far_some f2 with ⟨_, b⟩ | ⟨_, b⟩ <;> omega
              have : o ≠ n := fun z => mo (z ▸ I.bu.pit)
              omega
            refine z_getL (sq_of hm6) (tabV_get _ hon) ?_
            walk_at "go"
            refine z_setL hm6 (by rw [tabV_len]; exact hon) ?_
            rw [tabV_set _ _ hon]
            have e7 : Ex H (upd H2 m (.lst ((tab n (fup s6.left o (s6.left o - 1))).map V.int))) := ex_mut e6 fm
            have hd7 : (upd H2 m (.lst ((tab n (fup s6.left o (s6.left o - 1))).map V.int))) d = _ := upd_at hd6 (Ne.symm nmd)
            have hp7 : (upd H2 m (.lst ((tab n (fup s6.left o (s6.left o - 1))).map V.int))) p = _ := upd_at hp6 (Ne.symm nmp)
            have ht7 : (upd H2 m (.lst ((tab n (fup s6.left o (s6.left o - 1))).map V.int))) t = _ := upd_at ht6 (Ne.symm nmt)
            have hm7 : (upd H2 m (.lst ((tab n (fup s6.left o (s6.left o - 1))).map V.int))) m = _ := upd_same
            generalize (upd H2 m (.lst ((tab n (fup s6.left o (s6.left o - 1))).map V.int))) = H7 at e7 hd7 hp7 ht7 hm7
            walk_at "go"
            refine z_ixL (ex_l e7 hbs) (atI_tab _ hon) ?_
            walk_at "go"
            refine z_ixL (sq_of hm7) (atI_tab _ hon) ?_
            walk_at "go"
            rw [fup_at]
            unfold hit dH
            refine z_ite (fun c => ?_) (fun c => ?_)
            · rw [if_pos (decide_eq_true c)]
              walk_at "go"
              have l1 := I.bu.len
              have l2 := I.len
              have l3 : s6.wait.length ≤ s6.met.length := by
                refine List.Nodup.length_le_of_subset (List.nodup_append.mp I.nd).2.1.of_cons fun x hx => (I.mem x).mpr (.inr (.inr hx))
              refine z_dputI hd7 (by rw [keysD_len]; exact szl _) ?_
              rw [keysD_put mo]
              walk_at "go"
              have ht8 : (upd H7 d (.dK (keysD (s6.met ++ [o])))) t = _ := upd_at ht7 (Ne.symm ndt)
              refine ⟨tyL ht8, ?_⟩
              walk_at "go"
              refine z_app ht8 (by rw [natV_len]; exact szl _) ?_
              walk_at "go"
              have hp8 : (upd (upd H7 d (.dK (keysD (s6.met ++ [o])))) t (.lst (natV s6.tree ++ [.int i]))) p = _ := upd_at (upd_at hp7 (Ne.symm ndp)) npt
              refine ⟨tyL hp8, ?_⟩
              walk_at "go"
              refine z_app hp8 (by rw [natV_len]; exact szl _) ?_
              refine ⟨_, _, rfl, ex_mut (ex_mut (ex_mut e7 fd) ft) fp, upd_at (upd_at (upd_at hm7 nmd) nmt) nmp, upd_at (upd_at upd_same ndt) ndp, ?_, ?_⟩
              · rw [upd_same, natV_snoc]
              · rw [upd_at upd_same (Ne.symm npt), natV_snoc]
            · rw [if_neg (by rw [decide_eq_false c]; decide)]
              walk_at "go"
              exact ⟨_, _, rfl, e7, hm7, hd7, hp7, ht7⟩
      · rintro σ2 H2 ⟨v8, v9, rfl, e6, hm6, hd6, hp6, ht6⟩
        have I := (Inn.rnd (D := dH h) J N.ok rs.length (Nat.le_refl _)).done
        refine ⟨f, by omega, _, _, _, _, _, rfl, e6, hm6, hd6, hp6, ht6, I, ?_, by omega, hrun⟩
        have w := rnd_wait (rs := rs) (D := dH h) (here := here) (s := { s with wait := ws }) rs.length
        have l := I.bu.len
        have l0 := O.bu.len
        have w : (rnd rs (dH h) here rs.length { s with wait := ws }).wait.length + s.met.length = ws.length + (rnd rs (dH h) here rs.length { s with wait := ws }).met.length := w
        rw [ew, List.length_cons] at hf
        omega
    · walk_at "go"
      rw [run_nil c] at hrun
      subst hrun
      have tl := (tree_law N L F).1
      refine ⟨t, (treeRun n rs h).tree.map fun (j : Nat) => (j : Int), rfl, ?_, by rw [List.length_map, tl.len]; omega, fun ns' q9 hperm hpw nq9 => ?_⟩
      · rw [← natV_ints]; exact sq_of ht1
      obtain ⟨l, el, h1, h2⟩ := nats_of_perm hperm tl.nd hpw
      rw [el]
      exact hq1 ⟨L, F⟩ l h1 h2 q9 _ (fr e4 nq9) (ex_new e4 nq9) upd_same
theorem ok_need_tree {f : Addr} {fd : FuncData} (T : Fn K mg "need_tree" s_need_tree f fd ["many", "roads", "tree"]) (B : Bf mg) (ZE : Er cls K mg) (C_is_whole : Cal P w K mg base CX0 1 "is_whole" ["thing", "least", "most"] (sp_is_whole K)) (C_reached : Cal P w K mg base CX0 2 "reached" ["many", "roads"] (sp_reached K))  : Cal P w K mg base CX0 3 "need_tree" ["many", "roads", "tree"] (sp_need_tree K) := by
  refine T.ok sc_need_tree (fun vs H Q E h => ?_) (fun cdv A outer s H vs Q E hr h => ?_)
  · obtain ⟨_, _, _, _, _, rfl, _⟩ := h; rfl
  · have hu := hu_of hr
    obtain ⟨n, a, b, rs, T, rfl, hn, hl, N, I, ha, hb, hq⟩ := h
    obtain ⟨_, e, hbs⟩ := natsL hb
    cases e
    refine ⟨_, ((pss_cons (ps_if (PW.pt (pw_or (pt_not (pt_val (pe_callB (callIsi K) (by rfl) B.isinstance (by decide +kernel) (pa_cons (pv 2) (pa_cons (pe_bltn (v := .ty "list") (u := .type "list") (by rfl) B.list (by decide +kernel) rfl) pa_nil))))) (pw_or1 (pt_cmpR op_ne (pe_callB (callLen K) (by rfl) B.len (by decide +kernel) (pa_cons (pv 2) pa_nil)) (pv 0) (nomark _))))) (pss_one ps_never) pss_nil)
        (pss_cons (ps_for PassesOwn.never rfl (pi_range1 (by rfl) B.range (pa_cons (pe_callB (callLen K) (by rfl) B.len (by decide +kernel) (pa_cons (pv 2) pa_nil)) pa_nil)) (pg_name (i := 3) sc_need_tree.nd rfl (Or.inl rfl))
        (pss_one (ps_if (PW.pt (pw_or (pt_not (pt_val (pe_cal C_is_whole (hr.mono (by decide)) (by rfl) (pa_cons (pe_ix (ixL K) (pv 2) (pv 3) (fun _ _ => rfl)) (pa_cons pe_int (pa_cons (pe_op op_sub (pe_callB (callLen K) (by rfl) B.len (by decide +kernel) (pa_cons (pv 1) pa_nil)) pe_int) pa_nil)))))) (pw_or1 (pt_cmpR (opIn K) (pe_ix (ixL K) (pv 2) (pv 3) (fun _ _ => rfl)) (pe_slice (slL K) (pv 2) po_none (po_some (pv 3))) (by rfl))))) (pss_one ps_never) pss_nil)))
        (pss_one (ps_if (pt_cmpR op_le (pe_callB call_lenDK (by rfl) B.len (by decide +kernel) (pa_cons (pe_cal C_reached (hr.mono (by decide)) (by rfl) (pa_cons (pv 0) (pa_cons (pe_lc (own := [("number", 4)]) (g := gName 4) (tt := tYes) rfl sc_need_tree.nd (piL K (pv 2)) (blkOk_by (N := nn_need_tree) (sc := defScope s_need_tree) (by decide +kernel)) (fun _ _ _ _ _ => pg_name (i := 4) sc_need_tree.nd rfl (Or.inl rfl)) (fun _ _ _ _ _ => pts_nil) (fun _ _ _ _ _ => (pe_ix (ixL K) (pv 1) (pv 4) (fun _ _ => rfl)))) pa_nil))) pa_nil)) (pv 0) (nomark _)) (pss_one ps_never) pss_nil))))), ?_⟩
    refine Z.at_slots (σ := [some _, some _, some _, none, none]) ?_
    walk_at "go"
    rw [natV_len, I.len, decide_eq_true rfl]
    walk_at "go"
    refine z_for ?_
    walk_at "go"
    first | rw [natV_len, I.len] | skip
    walk_at "go"
    refine z_rloop (n := n) (by omega) (fun i σ' H' => ∃ (v3 : Option V), σ' = [some (.int n), some (.ref a), some (.ref b), v3, none] ∧ Ex H H') ?_ ?_ ?_
    · exact ⟨_, rfl, Ex.refl _⟩
    · rintro i σ' H' hi ⟨v3, rfl, e⟩
      have hiT : i < T.length := by rw [I.len]; exact hi
      walk_at "go"
      refine z_ixL (ex_l e hbs) (atI_natV hiT) ?_
      walk_at "go"
      refine z_lenDt (ha.ex e) ?_
      walk_at "go"
      refine sp_is_whole_int ?_
      have lt := I.lt _ (List.getElem_mem hiT)
      rw [decide_eq_true (by omega)]
      walk_at "go"
      refine z_ixL (ex_l e hbs) (atI_natV hiT) ?_
      walk_at "go"
      refine z_slL (ex_l e hbs) fun p np => ?_
      rw [cutV_to, natV_take]
      refine z_inN (sq_of upd_same) ?_
      have nin : T[i] ∉ T.take i := fun z => by
        obtain ⟨k, hk, ek⟩ := List.mem_iff_getElem.mp z
        rw [List.getElem_take] at ek
        rw [List.length_take] at hk
        exact (List.pairwise_iff_getElem.mp I.nd) k i (by omega) hiT (by omega) ek
      rw [decide_eq_false nin]
      walk_at "go"
      exact ⟨_, rfl, ex_new e np⟩
    · rintro σ' H' ⟨v3, rfl, e⟩
      walk_at "go"
      refine z_lctree (hb.ex e) (ha.ex e) (Ex.refl _) (by rw [I.len]; omega) I.lt ?_ ?_ ⟨_, rfl⟩
      · intro j v xs H2 R e2 hx hv k
        walk_at "go"
        refine ⟨rfl, ?_⟩
        walk_at "go"
        refine z_ixL hx hv ?_
        exact k
      intro D H2 nD e2 hD
      walk_at "go"
      refine ⟨n, D, rsT rs T, rfl, by omega, hD.dt, fun r hr => ⟨((I.net N.ok).ok r hr).1, ((I.net N.ok).ok r hr).2.1⟩, fun d H3 ks nd e3 hd R => ?_⟩
      walk_at "go"
      first | refine z_lenD hd ?_ | skip
      rw [keysD_len, R.all (I.net N.ok)]
      walk_at "go"
      rw [decide_eq_false (by omega)]
      walk_at "go"
      exact hq _ (e.trans (e2.trans e3))
theorem ok_heap_of {f : Addr} {fd : FuncData} (T : Fn K mg "heap_of" s_heap_of f fd ["many", "roads", "tree"]) (B : Bf mg) (ZE : Er cls K mg) (C_need_net : Cal P w K mg base CX0 3 "need_net" ["many", "roads"] (sp_need_net K)) (C_need_tree : Cal P w K mg base CX0 3 "need_tree" ["many", "roads", "tree"] (sp_need_tree K)) (C_counted : Cal P w K mg base CX0 1 "counted" ["many", "roads"] (sp_counted K)) (C_beyond : Cal P w K mg base CX0 1 "beyond" ["road", "here"] (sp_beyond K))  : Cal P w K mg base CX0 4 "heap_of" ["many", "roads", "tree"] (sp_heap_of K) := by
  refine T.ok sc_heap_of (fun vs H Q E h => ?_) (fun cdv A outer s H vs Q E hr h => ?_)
  · obtain ⟨_, _, _, _, _, rfl, _⟩ := h; rfl
  · have hu := hu_of hr
    obtain ⟨n, a, b, rs, T, rfl, hn, hl, N, I0, ha, hb, hq⟩ := h
    obtain ⟨_, e, hbs⟩ := natsL hb
    cases e
    refine ⟨_, ((pss_cons (ps_expr (pe_cal C_need_net (hr.mono (by decide)) (by rfl) (pa_cons (pv 0) (pa_cons (pv 1) pa_nil))))
        (pss_cons (ps_expr (pe_cal C_need_tree (hr.mono (by decide)) (by rfl) (pa_cons (pv 0) (pa_cons (pv 1) (pa_cons (pv 2) pa_nil)))))
        (pss_cons (ps_set (i := 3) sc_heap_of.nd rfl (Or.inl rfl) (pe_cal C_counted (hr.mono (by decide)) (by rfl) (pa_cons (pv 0) (pa_cons (pv 1) pa_nil))))
        (pss_cons (ps_set (i := 4) sc_heap_of.nd rfl (Or.inl rfl) (pe_disp (pps_cons (pv 0) pe_bl pps_nil) (by rfl) (by rfl) (fun z => by cases z) (by decide)))
        (pss_cons (ps_set (i := 5) sc_heap_of.nd rfl (Or.inl rfl) (pe_lst (pa_cons (pv 0) pa_nil)))
        (pss_cons (ps_while PassesOwn.never (pt_cmpR (opNeD K hr.units) (pv 5) (pe_lst pa_nil) (nomark _))
        (pss_cons (ps_set (i := 6) sc_heap_of.nd rfl (Or.inl rfl) (pe_bm PySem.F.plainAttrs_list PySem.F.slot_list_pop PySem.F.type_list_pop mt_popAt (pv 5) (pa_cons pe_int pa_nil)))
          (pss_one (ps_for PassesOwn.never rfl (pi_range1 (by rfl) B.range (pa_cons (pe_callB (callLen K) (by rfl) B.len (by decide +kernel) (pa_cons (pv 1) pa_nil)) pa_nil)) (pg_name (i := 7) sc_heap_of.nd rfl (Or.inl rfl))
          (pss_cons (ps_set (i := 8) sc_heap_of.nd rfl (Or.inl rfl) (pe_cal C_beyond (hr.mono (by decide)) (by rfl) (pa_cons (pe_ix (ixL K) (pv 1) (pv 7) (fun _ _ => rfl)) (pa_cons (pv 6) pa_nil))))
            (pss_one (ps_if (PW.pt (pw_and (pt_cmpR op_notNK (pv 8) pe_non (nomark _)) (pw_and1 (pt_cmp (pc_dnotin hu (pv 8) (pv 4)))))) (pss_cons (ps_augS (pv 3) (pv 8) (getL K) pe_int ip_sub set_list)
              (pss_one (ps_if (pt_cmpR (opIn K) (pv 7) (pv 2) (by rfl)) (pss_cons (ps_dput hu (pv 4) (pv 8) pe_bl rfl)
                (pss_one (ps_expr (pe_bm PySem.F.plainAttrs_list PySem.F.slot_list_append PySem.F.type_list_append mt_append (pv 5) (pa_cons (pv 8) pa_nil))))) pss_nil))) pss_nil)))))))
        (pss_one (ps_ret (pv 3)))))))))), ?_⟩
    refine Z.at_slots (σ := [some _, some _, some _, none, none, none, none, none, none]) ?_
    walk_at "go"
    refine ⟨n, a, rs, rfl, hn, hl, ha, N, fun H1 e1 => ?_⟩
    walk_at "go"
    refine ⟨n, a, b, rs, T, rfl, hn, hl, N, I0, ha.ex e1, hb.ex e1, fun H2 e2 => ?_⟩
    have e02 := e1.trans e2
    walk_at "go"
    refine ⟨n, a, rs, rfl, by omega, ha.ex e02, fun m H3 nm e3 hm => ?_⟩
    walk_at "go"
    have e03 := e02.trans e3
    refine z_disp1 (k := (n : Int)) (v := .bl true) (fun H1 R q => z_var rfl q) (fun H1 R q => q) fun d nd => ?_
    walk_at "go"
    refine ⟨sz _, fun p np => ?_⟩
    walk_at "go"
    have ek : ([((Sum.inl (n : Int) : Key), V.bl true)] : List (Key × V)) = keysD [n] := rfl
    rw [ek] at *
    have g1 := Ex.new (o := .dK (keysD [n])) nd
    have g2 := ex_new (o := .lst [.int n]) g1 np
    have nmd : m ≠ d := ne_fr hm nd
    have nmp : m ≠ p := ne_fr (g1 _ _ hm) np
    have ndp : d ≠ p := ne_fr upd_same np
    have e0 : Ex H (upd (upd H3 d (.dK (keysD [n]))) p (.lst [.int n])) := e03.trans g2
    have fm : H m = none := fr e02 nm
    have fd : H d = none := fr e03 nd
    have fp : H p = none := fr (e03.trans g1) np
    refine z_while (fun m0 σ' H' => ∃ (s : Bst) (pp : List Nat) (v6 v7 v8 : Option V), σ' = [some (.int n), some (.ref a), some (.ref b), some (.ref m), some (.ref d), some (.ref p), v6, v7, v8] ∧ Ex H H' ∧ H' m = some (.lst ((tab n s.left).map V.int)) ∧ H' d = some (.dK (keysD s.met)) ∧ H' p = some (.lst (natV s.wait)) ∧
      Out n rs pp s ∧ s.wait.length + (n + 1 - s.met.length) ≤ m0 ∧ m0 ≤ n + 1 ∧ run rs (dT T) m0 s = heapRun n rs T) (n + 1) ?_ ?_
    · exact ⟨st0 n rs, [], _, _, _, rfl, e0, g2 _ _ hm, upd_at upd_same ndp, upd_same, Out.start n rs, st0_fuel n rs, Nat.le_refl _, rfl⟩
    rintro m0 σ' H' ⟨s, pp, v6, v7, v8, rfl, e, hm', hd', hp', O, hf, hf2, hrun⟩
    walk_at "go"
    refine ⟨sz _, fun q nq => ?_⟩
    refine z_neD (α := List Nat) (a := s.wait) (b := []) (by decide) (dt_nats (upd_at hp' (ne_fr hp' nq))) (dt_lst (sq_of upd_same) da_nil) ?_
    have hm1 := upd_at (o := .lst []) hm' (ne_fr hm' nq)
    have hd1 := upd_at (o := .lst []) hd' (ne_fr hd' nq)
    have hp1 := upd_at (o := .lst []) hp' (ne_fr hp' nq)
    have e4 : Ex H (upd H' q (.lst [])) := ex_new e nq
    generalize (upd H' q (.lst [])) = H5 at hm1 hd1 hp1 e4
    clear hm' hd' hp' e nq
    walk_at "go"
    refine z_iteN (fun c => ?_) (fun c => ?_)
    · refine z_turn ?_
      obtain ⟨here, ws, ew⟩ : ∃ here ws, s.wait = here :: ws := by
        cases e : s.wait with
        | nil => exact absurd e c
        | cons x y => exact ⟨x, y, rfl⟩
      have hp2 : H5 p = some (.lst (V.int here :: natV ws)) := by rw [hp1, ew]; rfl
      walk_at "go"
      refine ⟨tyL hp2, ?_⟩
      walk_at "go"
      refine z_pop0 hp2 ?_
      walk_at "go"
      have J := O.pop ew
      obtain ⟨f, rfl⟩ : ∃ f, m0 = f + 1 := ⟨m0 - 1, by rw [ew, List.length_cons] at hf; omega⟩
      rw [run_cons ew] at hrun
      have hm3 : (upd H5 p (.lst (natV ws))) m = _ := upd_at hm1 nmp
      have hd3 : (upd H5 p (.lst (natV ws))) d = _ := upd_at hd1 ndp
      have e5 : Ex H (upd H5 p (.lst (natV ws))) := ex_mut e4 fp
      dsimp only
      refine z_for ?_
      walk_at "go"
      first | (refine z_lenDt (ha.ex e5) ?_; walk_at "go") | skip
      refine z_rloop (n := rs.length) (by omega) (fun i σ2 H2 => ∃ (v7 v8 : Option V), σ2 = [some (.int n), some (.ref a), some (.ref b), some (.ref m), some (.ref d), some (.ref p), some (.int here), v7, v8] ∧ Ex H H2 ∧ H2 m = some (.lst ((tab n (rnd rs (dT T) here i { s with wait := ws }).left).map V.int)) ∧ H2 d = some (.dK (keysD (rnd rs (dT T) here i { s with wait := ws }).met)) ∧ H2 p = some (.lst (natV (rnd rs (dT T) here i { s with wait := ws }).wait))) ?_ ?_ ?_
      · exact ⟨_, _, rfl, e5, hm3, hd3, upd_same⟩
      · rintro i σ2 H2 hi ⟨v7, v8, rfl, e6, hm6, hd6, hp6⟩
        have I := Inn.rnd (D := dT T) J N.ok i (Nat.le_of_lt hi)
        have er : rs[i]? = some rs[i] := List.getElem?_eq_getElem hi
        have es : rnd rs (dT T) here (i + 1) { s with wait := ws } = stp rs (dT T) here i (rnd rs (dT T) here i { s with wait := ws }) := rfl
        rw [es, stp_at er]
        generalize rnd rs (dT T) here i { s with wait := ws } = s6 at I hm6 hd6 hp6
        obtain ⟨_, vs, v', ea, hsq, hat, hdt⟩ := dt_at (ha.ex e6) hi
        cases ea
        obtain ⟨tr, rfl, htr⟩ := hdt.road
        walk_at "go"
        refine z_ixL hsq hat ?_
        walk_at "go"
        refine ⟨tr, rs[i], here, rfl, hdt, ?_⟩
        rw [beyondV_far]
        cases f2 : far rs[i] here with
        | none =>
          walk_at "go"
          exact ⟨_, _, rfl, e6, hm6, hd6, hp6⟩
        | some o =>
          dsimp only
          walk_at "go"
          refine z_dgetI hd6 ?_
          by_cases mo : o ∈ s6.met
          · rw [keysD_some mo, if_pos mo]
            walk_at "go"
            exact ⟨_, _, rfl, e6, hm6, hd6, hp6⟩
          · rw [keysD_none mo, if_neg mo]
            walk_at "go"
            have hon : o < n := by
              obtain ⟨k1, k2, _⟩ := N.ok rs[i] (List.getElem_mem hi)
              have : o ≤ n := by rcases far_some f2 with ⟨_, b⟩ | ⟨_, b⟩ <;> omega
              have : o ≠ n := fun z => mo (z ▸ I.bu.pit)
              omega
            refine z_getL (sq_of hm6) (tabV_get _ hon) ?_
            walk_at "go"
            refine z_setL hm6 (by rw [tabV_len]; exact hon) ?_
            rw [tabV_set _ _ hon]
            have e7 : Ex H (upd H2 m (.lst ((tab n (fup s6.left o (s6.left o - 1))).map V.int))) := ex_mut e6 fm
            have hd7 : (upd H2 m (.lst ((tab n (fup s6.left o (s6.left o - 1))).map V.int))) d = _ := upd_at hd6 (Ne.symm nmd)
            have hp7 : (upd H2 m (.lst ((tab n (fup s6.left o (s6.left o - 1))).map V.int))) p = _ := upd_at hp6 (Ne.symm nmp)
            have hm7 : (upd H2 m (.lst ((tab n (fup s6.left o (s6.left o - 1))).map V.int))) m = _ := upd_same
            generalize (upd H2 m (.lst ((tab n (fup s6.left o (s6.left o - 1))).map V.int))) = H7 at e7 hd7 hp7 hm7
            walk_at "go"
            refine z_inN (ex_l e7 hbs) ?_
            walk_at "go"
            unfold hit dT
            refine z_ite (fun c => ?_) (fun c => ?_)
            · rw [if_pos (decide_eq_true c)]
              walk_at "go"
              have l1 := I.bu.len
              have l2 := I.len
              have l3 : s6.wait.length ≤ s6.met.length := by
                refine List.Nodup.length_le_of_subset (List.nodup_append.mp I.nd).2.1.of_cons fun x hx => (I.mem x).mpr (.inr (.inr hx))
              refine z_dputI hd7 (by rw [keysD_len]; exact szl _) ?_
              rw [keysD_put mo]
              walk_at "go"
              have hp8 : (upd H7 d (.dK (keysD (s6.met ++ [o])))) p = _ := upd_at hp7 (Ne.symm ndp)
              refine ⟨tyL hp8, ?_⟩
              walk_at "go"
              refine z_app hp8 (by rw [natV_len]; exact szl _) ?_
              refine ⟨_, _, rfl, ex_mut (ex_mut e7 fd) fp, upd_at (upd_at hm7 nmd) nmp, upd_at upd_same ndp, ?_⟩
              rw [upd_same, natV_snoc]
            · rw [if_neg (by rw [decide_eq_false c]; decide)]
              walk_at "go"
              exact ⟨_, _, rfl, e7, hm7, hd7, hp7⟩
      · rintro σ2 H2 ⟨v7, v8, rfl, e6, hm6, hd6, hp6⟩
        have I := (Inn.rnd (D := dT T) J N.ok rs.length (Nat.le_refl _)).done
        refine ⟨f, by omega, _, _, _, _, _, rfl, e6, hm6, hd6, hp6, I, ?_, by omega, hrun⟩
        have w := rnd_wait (rs := rs) (D := dT T) (here := here) (s := { s with wait := ws }) rs.length
        have l := I.bu.len
        have l0 := O.bu.len
        have w : (rnd rs (dT T) here rs.length { s with wait := ws }).wait.length + s.met.length = ws.length + (rnd rs (dT T) here rs.length { s with wait := ws }).met.length := w
        rw [ew, List.length_cons] at hf
        omega
    · walk_at "go"
      rw [run_nil c] at hrun
      subst hrun
      exact hq m H5 fm e4 hm1
theorem ok_comes_again {f : Addr} {fd : FuncData} (T : Fn K mg "comes_again" s_comes_again f fd ["many", "roads", "heap"]) (B : Bf mg) (ZE : Er cls K mg) (C_need_net : Cal P w K mg base CX0 3 "need_net" ["many", "roads"] (sp_need_net K)) (C_need_heap : Cal P w K mg base CX0 2 "need_heap" ["many", "heap"] (sp_need_heap K)) (C_is_again : Cal P w K mg base CX0 4 "is_again" ["roads", "heap"] (sp_is_again K))  : Cal P w K mg base CX0 5 "comes_again" ["many", "roads", "heap"] (sp_comes_again K) := by
  refine T.ok sc_comes_again (fun vs H Q E h => ?_) (fun cdv A outer s H vs Q E hr h => ?_)
  · obtain ⟨_, _, _, _, _, rfl, _⟩ := h; rfl
  · have hu := hu_of hr
    obtain ⟨n, a, b, rs, h, rfl, hn, hl, N, hg, ha, hb, hq⟩ := h
    refine ⟨_, ((pss_cons (ps_expr (pe_cal C_need_net (hr.mono (by decide)) (by rfl) (pa_cons (pv 0) (pa_cons (pv 1) pa_nil))))
        (pss_cons (ps_expr (pe_cal C_need_heap (hr.mono (by decide)) (by rfl) (pa_cons (pv 0) (pa_cons (pv 2) pa_nil))))
        (pss_one (ps_ret (pe_cal C_is_again (hr.mono (by decide)) (by rfl) (pa_cons (pv 1) (pa_cons (pv 2) pa_nil)))))))), ?_⟩
    refine Z.at_slots (σ := [some _, some _, some _]) ?_
    walk_at "go"
    refine ⟨n, a, rs, rfl, hn, hl, ha, N, fun H1 e1 => ?_⟩
    walk_at "go"
    refine ⟨n, b, h, rfl, hb.ex e1, hg, ?_⟩
    walk_at "go"
    refine ⟨a, b, rs, n, h, rfl, by omega, by omega, N, ha.ex e1, hb.ex e1, fun q H2 hq2 e2 => ?_⟩
    exact hq q H2 hq2 (e1.trans e2)
--SP sp_law_table12
theorem ok_law_table {f : Addr} {fd : FuncData} (T : Fn K mg "_law_table" s_law_table f fd ["_law_many", "_law_roads"]) (B : Bf mg) (ZE : Er cls K mg)  : Cal P w K mg base CX0 1 "_law_table" ["_law_many", "_law_roads"] (sp_law_table12 K) := by
  refine T.ok sc_law_table (fun vs H Q E h => ?_) (fun cdv A outer s H vs Q E hr h => ?_)
  · obtain ⟨_, _, _, rfl, _⟩ := h; rfl
  · have hu := hu_of hr
    obtain ⟨n, a, rs, rfl, hn, hl, N, ha, hq⟩ := h
    refine ⟨_, ((pss_cons (ps_setLc (i := 2) (own := [("_law_k", 7)]) (g := gName 7) (tt := tYes) rfl sc_law_table.nd rfl rfl (sw_true rfl rfl rfl (by decide +kernel)) (pi_range1 (by rfl) B.range (pa_cons (pv 0) pa_nil)) (blkOk_by (N := nn_law_table) (sc := defScope s_law_table) (by decide +kernel)) (fun _ _ _ _ _ => pg_name (i := 7) sc_law_table.nd rfl (Or.inl rfl)) (fun _ _ _ _ _ => pts_nil) (fun _ _ _ _ _ => (pe_op op_rep (pe_lst (pa_cons pe_int pa_nil)) (pv 0))))
        (pss_cons (ps_for PassesOwn.never rfl (piL K (pv 1)) (pg_tup (by rfl) (pgs_cons (pg_name (i := 3) sc_law_table.nd rfl (Or.inl rfl)) (pgs_cons (pg_name (i := 4) sc_law_table.nd rfl (Or.inl rfl)) pgs_nil)))
        (pss_one (ps_for PassesOwn.never rfl (piL K (pe_lst (pa_cons (pe_tup (pa_cons (pv 3) (pa_cons (pv 4) pa_nil))) (pa_cons (pe_tup (pa_cons (pv 4) (pa_cons (pv 3) pa_nil))) pa_nil)))) (pg_tup (by rfl) (pgs_cons (pg_name (i := 5) sc_law_table.nd rfl (Or.inl rfl)) (pgs_cons (pg_name (i := 6) sc_law_table.nd rfl (Or.inl rfl)) pgs_nil)))
          (pss_one (ps_if (pt_cmpR op_lt (pv 5) (pv 0) (nomark _)) (pss_cons (ps_asg (pe_op op_add (pe_ix (ixL K) (pe_ix (ixL K) (pv 2) (pv 5) (fun _ _ => rfl)) (pv 5) (fun _ _ => rfl)) pe_int) (pg_sub (pe_ix (ixL K) (pv 2) (pv 5) (fun _ _ => rfl)) (pv 5) set_list))
              (pss_one (ps_if (pt_cmpR op_lt (pv 6) (pv 0) (nomark _)) (pss_one (ps_asg (pe_op op_sub (pe_ix (ixL K) (pe_ix (ixL K) (pv 2) (pv 5) (fun _ _ => rfl)) (pv 6) (fun _ _ => rfl)) pe_int) (pg_sub (pe_ix (ixL K) (pv 2) (pv 5) (fun _ _ => rfl)) (pv 6) set_list))) pss_nil))) pss_nil)))))
        (pss_one (ps_ret (pv 2)))))), ?_⟩
    refine Z.at_slots (σ := [some _, some _, none, none, none, none, none, none]) ?_
    walk_at "go"
    refine z_lcrloop (n := n) (by omega) fun D hD => ⟨fun i H' => Ex H H' ∧ i ≤ n ∧ ∃ ps : List Addr, H' D = some (.lst (ps.map V.ref)) ∧ ps.length = i ∧ ps.Nodup ∧ (∀ p ∈ ps, p ≠ D ∧ H p = none) ∧ ∀ (j : Nat) (p : Addr), ps[j]? = some p → H' p = some (.lst ((tab n fun _ => 0).map V.int)), ?_, ?_, ?_⟩
    · exact ⟨Ex.new hD, Nat.zero_le _, [], upd_same, rfl, List.nodup_nil, fun p hp => (by cases hp), fun j p hp => (by cases hp)⟩
    · rintro i H2 hi ⟨e2, hin, ps, hp, hpl, hnd, hne, hps⟩
      walk_at "go"
      refine ⟨rfl, ?_⟩
      walk_at "go"
      refine ⟨sz _, fun o no => ?_⟩
      walk_at "go"
      refine z_rep (n := n) upd_same (by omega) fun z nz => ?_
      rw [tabV_rep]
      have e3 := (Ex.new (o := .lst [.int 0]) no).trans (Ex.new (o := .lst ((tab n fun _ => 0).map V.int)) nz)
      have nz2 : H2 z = none := fr (Ex.new no) nz
      have hp3 := e3 _ _ hp
      have ne3 : z ≠ D := fun y => by rw [y, hp] at nz2; cases nz2
      refine ⟨_, hp3, by rw [List.length_map]; exact szl _ (by omega), ex_mut (e2.trans e3) hD, hi, ps ++ [z], by rw [upd_same, List.map_append]; rfl, by rw [List.length_append, hpl]; rfl, ?_, fun p hp => ?_, fun j p hp => ?_⟩
      · refine List.nodup_append.mpr ⟨hnd, by simp, fun x hx y hy => ?_⟩
        rw [List.mem_singleton.mp hy]
        rintro rfl
        obtain ⟨j, hj⟩ := List.getElem?_of_mem hx
        rw [hps j _ hj] at nz2; cases nz2
      · rcases List.mem_append.mp hp with y | y
        · exact hne p y
        · rw [List.mem_singleton.mp y]; exact ⟨ne3, fr e2 nz2⟩
      · have hpl2 := (List.getElem?_eq_some_iff.mp hp).1
        rw [List.length_append, List.length_singleton] at hpl2
        by_cases c : j < ps.length
        · rw [List.getElem?_append_left c] at hp
          rw [upd_ne (hne p (List.mem_of_getElem? hp)).1]
          exact e3 _ _ (hps j p hp)
        · have ej : j = ps.length := by omega
          rw [List.getElem?_append_right (by omega), ej, Nat.sub_self] at hp
          have : z = p := by simpa using hp
          subst this
          rw [upd_ne ne3, upd_same]
    rintro H2 ⟨e2, _, ps, hp, hpl, hnd, hne, hps⟩
    have R0 : RowsX H2 D ps n (TB []) := RowsX.congr (g := fun _ _ => 0) ⟨hp, hpl, hnd, fun p hp => (hne p hp).1, hps⟩ fun i j _ _ => (TB_nil i j).symm
    have fps : ∀ {x p}, ps[x]? = some p → H p = none := fun h => (hne _ (List.mem_of_getElem? h)).2
    walk_at "go"
    refine z_forV ha rfl (fun pre σ' H' => ∃ v3 v4 v5 v6, σ' = [some (.int n), some (.ref a), some (.ref D), v3, v4, v5, v6, none] ∧ Ex H H' ∧ RowsX H' D ps n (TB pre)) ?_ ?_ ?_ ?_
    · exact ⟨_, _, _, _, rfl, e2, R0⟩
    · rintro _ _ _ ⟨_, _, _, _, _, e, _⟩; exact e
    · rintro pre r post v σ' H' er hr ⟨v3, v4, v5, v6, rfl, e3, R⟩
      have hrm : r ∈ rs := by rw [er]; simp
      obtain ⟨b1, b2, b3⟩ := N.ok r hrm
      obtain ⟨t, rfl, ht⟩ := hr.road
      refine z_gtup2 (ex_t e3 ht) ?_
      walk_at "go"
      refine z_for ?_
      walk_at "go"
      refine ⟨sz _, fun t1 n1 => ?_⟩
      walk_at "go"
      refine ⟨sz _, fun t2 n2 => ?_⟩
      walk_at "go"
      refine ⟨sz _, fun p3 n3 => ?_⟩
      have g1 : Ex H' (upd (upd (upd H' t1 (.tup [.int r.1, .int r.2])) t2 (.tup [.int r.2, .int r.1])) p3 (.lst [.ref t1, .ref t2])) := ex_new (ex_new (Ex.new n1) n2) n3
      have h2 : (upd (upd (upd H' t1 (.tup [.int r.1, .int r.2])) t2 (.tup [.int r.2, .int r.1])) p3 (.lst [.ref t1, .ref t2])) t2 = some (.tup [.int r.2, .int r.1]) := upd_at upd_same (ne_fr upd_same n3)
      have h1 : (upd (upd (upd H' t1 (.tup [.int r.1, .int r.2])) t2 (.tup [.int r.2, .int r.1])) p3 (.lst [.ref t1, .ref t2])) t1 = some (.tup [.int r.1, .int r.2]) := upd_at (upd_at upd_same (ne_fr upd_same n2)) (ne_fr (upd_at upd_same (ne_fr upd_same n2)) n3)
      have h3 : (upd (upd (upd H' t1 (.tup [.int r.1, .int r.2])) t2 (.tup [.int r.2, .int r.1])) p3 (.lst [.ref t1, .ref t2])) p3 = some (.lst [.ref t1, .ref t2]) := upd_same
      generalize (upd (upd (upd H' t1 (.tup [.int r.1, .int r.2])) t2 (.tup [.int r.2, .int r.1])) p3 (.lst [.ref t1, .ref t2])) = H3 at g1 h1 h2 h3
      have R3 := R.ex g1
      have hR : ∀ {x p}, ps[x]? = some p → H' p = some (.lst ((tab n (TB pre x)).map V.int)) := fun h => R.2.2.2.2 _ _ h
      have k1 : ∀ {x p}, ps[x]? = some p → p ≠ p3 ∧ p ≠ t1 ∧ p ≠ t2 := fun {x p} h => by
        have w := hR h
        refine ⟨ne_fr (upd_at (upd_at w (ne_fr w n1)) (ne_fr (upd_at w (ne_fr w n1)) n2)) n3, ne_fr w n1, ne_fr (upd_at w (ne_fr w n1)) n2⟩
      have eO := ex_only3 H3 p3 t1 t2
      refine z_loop (α := Road) (xs := [(r.1, r.2), (r.2, r.1)]) (Hb := only3 H3 p3 t1 t2) (dt_lst (sq_of ((only3_at (.inl rfl)).trans h3)) (da_cons (dt_road (st_of ((only3_at (.inr (.inl rfl))).trans h1))) (da_cons (dt_road (st_of ((only3_at (.inr (.inr rfl))).trans h2))) da_nil)))
        (fun p2 σ2 H2 => ∃ v5 v6, σ2 = [some (.int n), some (.ref a), some (.ref D), some (.int r.1), some (.int r.2), v5, v6, none] ∧ Ex (only3 H3 p3 t1 t2) H2 ∧ Ex H H2 ∧ RowsX H2 D ps n (hTs (TB pre) p2)) ?_ ?_ ?_ ?_
      · exact ⟨_, _, rfl, eO, e3.trans g1, R3⟩
      · rintro _ _ _ ⟨_, _, _, h, _⟩; exact h
      · rintro p2 y post2 vx σ2 H2 ex2 hx ⟨v5, v6, rfl, eo, e4, R4⟩
        obtain ⟨q2, rfl, hq2⟩ := hx.road
        refine z_gtup2 (ex_t eo hq2) ?_
        walk_at "go"
        rw [hTs_snoc]
        refine z_ite (fun cx => ?_) (fun cx => ?_) <;> walk_at "go"
        · obtain ⟨p, hp1, hp2, hp3⟩ := R4.row (x := y.1) (by omega)
          have nh : (only3 H3 p3 t1 t2) p = none := only3_ne (k1 hp1).1 (k1 hp1).2.1 (k1 hp1).2.2
          refine z_ixL (sq_of R4.1) hp2 ?_
          walk_at "go"
          refine z_ixL (sq_of hp3) (atI_tab _ (by omega)) ?_
          walk_at "go"
          refine z_ixL (sq_of R4.1) hp2 ?_
          walk_at "go"
          refine z_setL hp3 (by rw [tabV_len]; omega) ?_
          rw [tabV_set _ _ (by omega)]
          have R5 := R4.add (y := y.1) hp1 1
          have eo5 := fun o => ex_mut (o := o) eo nh
          have e5 := fun o => ex_mut (o := o) e4 (fps hp1)
          refine (fun (G : ∀ H7, Ex (only3 H3 p3 t1 t2) H7 → Ex H H7 → RowsX H7 D ps n _ → _) => G _ (eo5 _) (e5 _) R5) fun H7 eo e4 R5 => ?_
          walk_at "go"
          refine z_ite (fun cy => ?_) (fun cy => ?_) <;> walk_at "go"
          · obtain ⟨p', hq1, hq2, hq3⟩ := R5.row (x := y.1) (by omega)
            have nh' : (only3 H3 p3 t1 t2) p' = none := only3_ne (k1 hq1).1 (k1 hq1).2.1 (k1 hq1).2.2
            refine z_ixL (sq_of R5.1) hq2 ?_
            walk_at "go"
            refine z_ixL (sq_of hq3) (atI_tab _ (by omega)) ?_
            walk_at "go"
            refine z_ixL (sq_of R5.1) hq2 ?_
            walk_at "go"
            refine z_setL hq3 (by rw [tabV_len]; omega) ?_
            rw [tabV_set _ _ (by omega), Int.sub_eq_add_neg]
            exact ⟨_, _, rfl, ex_mut eo nh', ex_mut e4 (fps hq1), R5.add hq1 (-1)⟩
          · refine ⟨_, _, rfl, eo, e4, R5.congr fun i j hi hj => ?_⟩
            unfold hT
            rw [if_neg (show ¬ (i = y.1 ∧ j = y.2) by omega), Int.add_zero]
        · refine ⟨_, _, rfl, eo, e4, R4.congr fun i j hi hj => ?_⟩
          unfold hT
          rw [if_neg (show ¬ (i = y.1 ∧ j = y.1) by omega), if_neg (show ¬ (i = y.1 ∧ j = y.2) by omega), Int.add_zero, Int.add_zero]
      · rintro σ2 H2 ⟨v5, v6, rfl, eo, e4, R4⟩
        refine ⟨_, _, _, _, rfl, e4, R4.congr fun i j _ _ => ?_⟩
        rw [hTs_two, TB_snoc pre r b3]
    · rintro σ' H' ⟨v3, v4, v5, v6, rfl, e3, R⟩
      walk_at "go"
      exact hq D ps H' hD (fun p hp => (hne p hp).2) e3 R
theorem ok_law_expanded {f : Addr} {fd : FuncData} (T : Fn K mg "_law_expanded" s_law_expanded f fd ["_law_rows"]) (B : Bf mg) (ZE : Er cls K mg) {j m : Nat} (C__law_expanded : Cal P w K mg base CX0 j "_law_expanded" ["_law_rows"] (sp_law_expanded m K))  : Cal P w K mg base CX0 (j + 1) "_law_expanded" ["_law_rows"] (sp_law_expanded (m + 1) K) := by
  refine T.ok sc_law_expanded (fun vs H Q E h => ?_) (fun cdv A outer s H vs Q E hr h => ?_)
  · obtain ⟨_, _, _, rfl, _⟩ := h; rfl
  · have hu := hu_of hr
    obtain ⟨s, a, M, rfl, hsm, hs4, ha, hB, hq⟩ := h
    refine ⟨_, ((pss_cons (ps_if (pt_cmpR (opEqD K hr.units) (pv 0) (pe_lst pa_nil) (nomark _)) (pss_one (ps_ret pe_int)) pss_nil)
        (pss_cons (ps_set (i := 1) sc_law_expanded.nd rfl (Or.inl rfl) pe_int)
        (pss_cons (ps_for PassesOwn.never rfl (pi_range1 (by rfl) B.range (pa_cons (pe_callB (callLen K) (by rfl) B.len (by decide +kernel) (pa_cons (pv 0) pa_nil)) pa_nil)) (pg_name (i := 2) sc_law_expanded.nd rfl (Or.inr rfl))
        (pss_one (ps_if (pt_cmpR op_ne (pe_ix (ixL K) (pe_ix (ixL K) (pv 0) pe_int (fun _ _ => rfl)) (pv 2) (fun _ _ => rfl)) pe_int (nomark _)) (pss_cons (ps_setLc (i := 3) (own := [("_law_row", 4)]) (g := gName 4) (tt := tYes) rfl sc_law_expanded.nd rfl rfl (sw_true rfl rfl rfl (by decide +kernel)) (piL K (pe_slice (slL K) (pv 0) (po_some pe_int) po_none)) (blkOk_by (N := nn_law_expanded) (sc := defScope s_law_expanded) (by decide +kernel)) (fun _ _ _ _ _ => pg_name (i := 4) sc_law_expanded.nd rfl (Or.inl rfl)) (fun _ _ _ _ _ => pts_nil) (fun _ _ _ _ _ => (pe_op op_cat (pe_slice (slL K) (pv 4) po_none (po_some (pv 2))) (pe_slice (slL K) (pv 4) (po_some (pe_op op_add (pv 2) pe_int)) po_none))))
            (pss_one (ps_set (i := 1) sc_law_expanded.nd rfl (Or.inl rfl) (pe_op op_add (pv 1) (pe_op op_mul (pe_op op_mul (pe_ix (ixL K) (pe_lst (pa_cons pe_int (pa_cons (pe_un un_neg pe_int) pa_nil))) (pe_op op_mod (pv 2) pe_int) (fun _ _ => rfl)) (pe_ix (ixL K) (pe_ix (ixL K) (pv 0) pe_int (fun _ _ => rfl)) (pv 2) (fun _ _ => rfl))) (pe_cal C__law_expanded (hr.mono (Nat.le_refl _)) (by rfl) (pa_cons (pv 3) pa_nil))))))) pss_nil)))
        (pss_one (ps_ret (pv 1))))))), ?_⟩
    refine Z.at_slots (σ := [some _, none, none, none, none]) ?_
    walk_at "go"
    refine ⟨sz _, fun e0 ne0 => ?_⟩
    walk_at "go"
    have e1 : Ex H (upd H e0 (.lst [])) := Ex.new ne0
    have hE : Dt K (upd H e0 (.lst [])) (.ref e0) ([] : List (List Int)) := dt_lst (sq_of upd_same) da_nil
    generalize (upd H e0 (.lst [])) = H1 at e1 hE ⊢
    refine z_eqD (a := mat s M) (b := ([] : List (List Int))) (by decide) (ha.ex e1) hE ?_
    walk_at "go"
    cases s with
    | zero =>
      refine z_iteT' (by rfl) ?_
      walk_at "go"
      exact hq _ e1
    | succ s =>
      obtain ⟨m, rfl⟩ : ∃ m', m = m' + 1 := ⟨m - 1, by omega⟩
      refine z_iteF' (decide_eq_false fun z => by have := congrArg List.length z; rw [mat_len] at this; cases this) ?_
      walk_at "go"
      obtain ⟨_, vs, ea, hsa, hda⟩ := ha.list
      cases ea
      obtain ⟨v0, hv0, hr0⟩ := hda.get' (mat_get M (show 0 < s + 1 by omega))
      obtain ⟨r0, rfl, hs0⟩ := hr0.ints
      refine z_for ?_
      walk_at "go"
      refine z_lenDt (ha.ex e1) ?_
      walk_at "go"
      rw [mat_len]
      refine z_rloop (n := s + 1) (by omega) (fun i σ' H' => ∃ (v2 v3 : Option V), σ' = [some (.ref a), some (.int (sm i fun k => sgn k * M 0 k * ex s fun r c => M (r + 1) (skp k c))), v2, v3, none] ∧ Ex H H') ?_ ?_ ?_
      · exact ⟨_, _, rfl, e1⟩
      · rintro k σ' H2 hk ⟨v2, v3, rfl, e2⟩
        walk_at "go"
        refine z_ixL (ex_l e2 hsa) (atI_nat hv0) ?_
        walk_at "go"
        refine z_ixL (ex_l e2 hs0) (atI_tab _ hk) ?_
        walk_at "go"
        have es : ∀ F : Nat → Int, sm (k + 1) F = sm k F + F k := fun _ => rfl
        rw [es]
        refine z_iteN (fun c => ?_) (fun c => ?_)
        · walk_at "go"
          refine z_slL (ex_l e2 hsa) fun p np => ?_
          have ec : cutV vs (some (1 : Int)) none = vs.drop 1 := cutV_from _ 1
          rw [ec]
          have e3 : Ex H2 (upd H2 p (.lst (vs.drop 1))) := Ex.new np
          have hp : Dt K (upd H2 p (.lst (vs.drop 1))) (.ref p) ((mat (s + 1) M).drop 1) := dt_lst (sq_of upd_same) ((hda.ex (e2.trans e3)).drop 1)
          have ld : ((mat (s + 1) M).drop 1).length ≤ 90000 := by rw [List.length_drop, mat_len]; omega
          generalize (upd H2 p (.lst (vs.drop 1))) = H3 at e3 hp ⊢
          refine z_lcO (α := List Int) (fun _ => true) (fun row => row.take k ++ row.drop (k + 1)) hp (Ex.refl _) ld ?_ ?_ ?_ ⟨_, rfl⟩
          · intro x v H4 R hx hv e4 kk
            walk_at "go"
            refine ⟨rfl, ?_⟩
            walk_at "go"
            exact kk _ (Ex.refl _)
          · intro x v H4 R hx hv e4 kk
            obtain ⟨i, hi, rfl⟩ := mat_drop_mem hx
            obtain ⟨r, rfl, hr⟩ := hv.ints
            have hr4 := ex_l e4 hr
            walk_at "go"
            refine z_slL hr4 fun q1 nq1 => ?_
            rw [cutV_to]
            walk_at "go"
            have e5 := Ex.new (o := .lst (((tab (s + 1) (M i)).map V.int).take k)) nq1
            refine z_slL (ex_l e5 hr4) fun q2 nq2 => ?_
            have ek : cutV ((tab (s + 1) (M i)).map V.int) (some ((k : Int) + 1)) none = ((tab (s + 1) (M i)).map V.int).drop (k + 1) := cutV_from _ (k + 1)
            rw [ek]
            refine z_cat (upd_at upd_same (ne_fr upd_same nq2)) upd_same (by rw [List.length_take, List.length_drop, List.length_map, tab_len]; exact sz _ (by omega)) fun q3 nq3 => ?_
            refine kk q3 _ (fr e5 (fr (Ex.new nq2) nq3)) (e5.trans ((Ex.new nq2).trans (Ex.new nq3))) ?_
            rw [upd_same, ← List.map_take, ← List.map_drop, ← List.map_append]
          intro D H4 nD e4 hD
          have ef : ((mat (s + 1) M).drop 1).filter (fun _ => true) = (mat (s + 1) M).drop 1 := List.filter_eq_self.mpr fun _ _ => rfl
          rw [ef, mat_less s k (by omega)] at hD
          walk_at "go"
          refine ⟨sz _, fun l nl => ?_⟩
          walk_at "go"
          have e5 := Ex.new (o := .lst [.int 1, .int (-1)]) nl
          refine z_ixL (sq_of upd_same) (atI_sgn k) ?_
          walk_at "go"
          have e25 := e2.trans (e3.trans (e4.trans e5))
          refine z_ixL (ex_l e25 hsa) (atI_nat hv0) ?_
          walk_at "go"
          refine z_ixL (ex_l e25 hs0) (atI_tab _ hk) ?_
          have b1 := hB 0 k (by omega) hk
          have sg : sgn k = 1 ∨ sgn k = -1 := by unfold sgn; split <;> simp
          have b2 : (sgn k * M 0 k).natAbs < 2 ^ 42 := by rcases sg with z | z <;> rw [z] <;> omega
          refine z_I (C := CMul) (Or.inl (by rcases sg with z | z <;> rw [z] <;> decide)) ?_
          walk_at "go"
          refine ⟨s, D, fun r c => M (r + 1) (skp k c), rfl, by omega, by omega, (hD.dt).ex e5, fun i j hi hj => hB (i + 1) (skp k j) (by omega) (skp_lt hj), fun H6 e6 => ?_⟩
          refine z_I (C := CMul) (Or.inl (by omega)) ?_
          walk_at "go"
          exact ⟨_, _, rfl, e25.trans e6⟩
        · walk_at "go"
          rw [c, Int.mul_zero, Int.zero_mul, Int.add_zero]
          exact ⟨_, _, rfl, e2⟩
      · rintro σ' H2 ⟨v2, v3, rfl, e2⟩
        walk_at "go"
        exact hq _ e2
theorem ok_law_determinant {f : Addr} {fd : FuncData} (T : Fn K mg "_law_determinant" s_law_determinant f fd ["_law_rows"]) (B : Bf mg) (ZE : Er cls K mg) (C__law_expanded : Cal P w K mg base CX0 5 "_law_expanded" ["_law_rows"] (sp_law_expanded 5 K))  : Cal P w K mg base CX0 6 "_law_determinant" ["_law_rows"] (sp_law_determinant K) := by
  refine T.ok sc_law_determinant (fun vs H Q E h => ?_) (fun cdv A outer s H vs Q E hr h => ?_)
  · obtain ⟨_, _, _, rfl, _⟩ := h; rfl
  · have hu := hu_of hr
    obtain ⟨n, a, rs, rfl, hn, hl, N, ha, hq⟩ := h
    refine ⟨_, ((pss_cons (ps_set (i := 1) sc_law_determinant.nd rfl (Or.inr rfl) pe_int)
        (pss_cons (ps_while PassesOwn.never (pt_cmpR op_gt (pe_callB (callLen K) (by rfl) B.len (by decide +kernel) (pa_cons (pv 0) pa_nil)) pe_int (nomark _))
        (pss_cons (ps_set (i := 2) sc_law_determinant.nd rfl (Or.inr rfl) (pe_ix (ixL K) (pv 0) pe_int (fun _ _ => rfl)))
          (pss_cons (ps_set (i := 3) sc_law_determinant.nd rfl (Or.inl rfl) (pe_lst pa_nil))
          (pss_cons (ps_for PassesOwn.never rfl (piL K (pe_slice (slL K) (pv 0) (po_some pe_int) po_none)) (pg_name (i := 4) sc_law_determinant.nd rfl (Or.inr rfl))
          (pss_one (ps_expr (pe_bm PySem.F.plainAttrs_list PySem.F.slot_list_append PySem.F.type_list_append mt_append (pv 3) (pa_cons (pe_lc (own := [("_law_j", 5)]) (g := gName 5) (tt := tYes) rfl sc_law_determinant.nd (pi_range2 (by rfl) B.range (pa_cons pe_int (pa_cons (pe_callB (callLen K) (by rfl) B.len (by decide +kernel) (pa_cons (pv 2) pa_nil)) pa_nil))) (blkOk_by (N := nn_law_determinant) (sc := defScope s_law_determinant) (by decide +kernel)) (fun _ _ _ _ _ => pg_name (i := 5) sc_law_determinant.nd rfl (Or.inl rfl)) (fun _ _ _ _ _ => pts_nil) (fun _ _ _ _ _ => (pe_op op_fdivW (pe_op op_sub (pe_op op_mul (pe_ix (ixL K) (pv 4) (pv 5) (fun _ _ => rfl)) (pe_ix (ixL K) (pv 2) pe_int (fun _ _ => rfl))) (pe_op op_mul (pe_ix (ixL K) (pv 4) pe_int (fun _ _ => rfl)) (pe_ix (ixL K) (pv 2) (pv 5) (fun _ _ => rfl)))) (pv 1)))) pa_nil)))))
          (pss_cons (ps_set (i := 1) sc_law_determinant.nd rfl (Or.inr rfl) (pe_ix (ixL K) (pv 2) pe_int (fun _ _ => rfl)))
          (pss_one (ps_set (i := 0) sc_law_determinant.nd rfl (Or.inl rfl) (pv 3))))))))
        (pss_one (ps_ret (pe_op op_fdivW (pe_cal C__law_expanded (hr.mono (by decide)) (by rfl) (pa_cons (pv 0) pa_nil)) (pe_ix (ixL K) (pe_lst (pa_cons pe_int (pa_cons (pv 1) (pa_cons (pe_op op_pow (pv 1) pe_int) (pa_cons (pe_op op_pow (pv 1) pe_int) pa_nil))))) (pe_callB (call_max2K rfl) (by rfl) B.max (by decide +kernel) (pa_cons pe_int (pa_cons (pe_op op_sub (pe_callB (callLen K) (by rfl) B.len (by decide +kernel) (pa_cons (pv 0) pa_nil)) pe_int) pa_nil))) (fun _ _ => rfl)))))))), ?_⟩
    refine Z.at_slots (σ := [some _, none, none, none, none, none]) ?_
    have dpos : ∀ k, k ≤ n → 0 < det k (LA n rs) := N.det_pos
    have dsm : ∀ k, k ≤ n → (det k (LA n rs)).natAbs < 2 ^ 42 := fun k hk => by
      cases k with
      | zero => show (1 : Int).natAbs < 2 ^ 42; decide
      | succ k =>
        have := qq_less N hl hn (k := k) (i := k) (j := k) (by omega) (by omega) (Nat.le_refl _) (Nat.le_refl _)
        rw [qq_diag] at this
        exact this
    walk_at "go"
    refine z_while (fun m0 σ' H' => ∃ (k s : Nat) (p : Addr) (v2 v3 v4 : Option V), σ' = [some (.ref p), some (.int (det k (LA n rs))), v2, v3, v4, none] ∧ Ex H H' ∧ k + s = n ∧ (k = 0 ∨ k + 4 ≤ n) ∧ Dt K H' (.ref p) (mat s (cor (LA n rs) k)) ∧ s ≤ m0) n ?_ ?_
    · refine ⟨0, n, a, _, _, _, rfl, Ex.refl _, by omega, .inl rfl, ?_, Nat.le_refl _⟩
      have : mat n (cor (LA n rs) 0) = mat n (LA n rs) := mat_congr fun i j _ _ => by
        unfold cor
        rw [qq_start, Nat.zero_add, Nat.zero_add]
      rw [this]
      exact ha
    rintro m0 σ' H1 ⟨k, s, p, v2, v3, v4, rfl, e1, hks, hk4, hp, hm⟩
    walk_at "go"
    refine z_lenDt hp ?_
    walk_at "go"
    rw [mat_len]
    refine z_ite (fun c => ?_) (fun c => ?_)
    · have hk : k < n := by omega
      refine z_turn ?_
      obtain ⟨_, vs, ea, hsa, hda⟩ := hp.list
      cases ea
      obtain ⟨v0, hv0, hr0⟩ := hda.get' (mat_get (cor (LA n rs) k) (show 0 < s by omega))
      obtain ⟨r0, rfl, hs0⟩ := hr0.ints
      walk_at "go"
      refine z_ixL hsa (atI_nat hv0) ?_
      walk_at "go"
      refine ⟨sz _, fun p1 np1 => ?_⟩
      walk_at "go"
      refine z_for ?_
      walk_at "go"
      have e2 : Ex H1 (upd H1 p1 (.lst [])) := Ex.new np1
      refine z_slL (ex_l e2 hsa) fun p2 np2 => ?_
      have ec : cutV vs (some (1 : Int)) none = vs.drop 1 := cutV_from _ 1
      rw [ec]
      have e3 := ex_new (o := .lst (vs.drop 1)) e2 np2
      have hp1 : (upd (upd H1 p1 (.lst [])) p2 (.lst (vs.drop 1))) p1 = some (.lst []) := upd_at upd_same (ne_fr upd_same np2)
      have hp2 : (upd (upd H1 p1 (.lst [])) p2 (.lst (vs.drop 1))) p2 = some (.lst (vs.drop 1)) := upd_same
      have n21 : p2 ≠ p1 := (ne_fr upd_same np2).symm
      generalize (upd (upd H1 p1 (.lst [])) p2 (.lst (vs.drop 1))) = G at e3 hp1 hp2 ⊢
      have fp1 : H p1 = none := fr e1 np1
      have eb : Ex H1 (hid G p1) := ex_base_hid e3 np1
      refine z_loop (α := List Int) (xs := (mat s (cor (LA n rs) k)).drop 1) (Hb := hid G p1) (dt_lst (sq_of (hid_at hp2 n21)) ((hda.ex eb).drop 1))
        (fun pre σ2 H2 => ∃ (v4 : Option V), σ2 = [some (.ref p), some (.int (det k (LA n rs))), some (.ref r0), some (.ref p1), v4, none] ∧ Ex (hid G p1) H2 ∧ ∃ ps : List Addr, H2 p1 = some (.lst (ps.map V.ref)) ∧ (∀ q ∈ ps, q ≠ p1) ∧ OwnL H2 ps ((List.range pre.length).map fun i => tab (s - 1) (cor (LA n rs) (k + 1) i))) ?_ ?_ ?_ ?_
      · exact ⟨_, rfl, ex_hid _ _, [], hp1, fun q hq => by (cases hq), trivial⟩
      · rintro _ _ _ ⟨_, _, e, _⟩; exact e
      · rintro pre y post v σ2 H2 er hv ⟨v4, rfl, e4, ps, hps, hne, hown⟩
        obtain ⟨hi, rfl⟩ := mat_split er
        obtain ⟨r, rfl, hr⟩ := hv.ints
        have lps := hown.len
        rw [List.length_map, List.length_range] at lps
        walk_at "go"
        refine ⟨tyL hps, ?_⟩
        walk_at "go"
        refine z_iRng2 ?_
        walk_at "go"
        refine z_lenL (ex_l (eb.trans e4) hs0) ?_
        walk_at "go"
        rw [tabV_len]
        refine z_lctab2 (K := K) (lo := 1) (n := s) (fun j => qq (LA n rs) (k + 1) (k + 1 + pre.length) (k + j)) (by omega) (by omega) ?_ ?_ ⟨_, rfl⟩
        · intro j H5 R hj1 hj e5 kk
          have hr5 := ex_l (e4.trans e5) hr
          have h05 := ex_l (eb.trans (e4.trans e5)) hs0
          walk_at "go"
          refine ⟨rfl, ?_⟩
          walk_at "go"
          refine z_ixL hr5 (atI_tab _ hj) ?_
          walk_at "go"
          refine z_ixL h05 (atI_nat (tabV_get _ (show 0 < s by omega))) ?_
          have b1 := cor_less N hl hn (k := k) (i := pre.length + 1) (j := j) (by omega) (by omega)
          refine z_I (C := CMul) (Or.inl (by omega)) ?_
          walk_at "go"
          refine z_ixL hr5 (atI_nat (tabV_get _ (show 0 < s by omega))) ?_
          walk_at "go"
          refine z_ixL h05 (atI_tab _ hj) ?_
          have b2 := cor_less N hl hn (k := k) (i := pre.length + 1) (j := 0) (by omega) (by omega)
          refine z_I (C := CMul) (Or.inl (show -(2 ^ 64) < cor (LA n rs) k (pre.length + 1) 0 ∧ cor (LA n rs) k (pre.length + 1) 0 < 2 ^ 64 by omega)) ?_
          walk_at "go"
          refine z_I (C := CDivW) (wide_div (b := 42) (dpos k (by omega)) (dsm k (by omega)) (by decide) (by decide)) ?_
          rw [cor_step N hk]
          exact kk _ (Ex.refl _)
        intro D H5 nD e5 hD
        walk_at "go"
        have hp5 := e5 _ _ hps
        have nD1 : D ≠ p1 := fun z => by rw [z, hps] at nD; cases nD
        refine z_app hp5 (by rw [List.length_map]; exact szl _ (by omega)) ?_
        refine ⟨_, rfl, ex_hid_upd (e4.trans e5), ps ++ [D], by rw [upd_same, List.map_append]; rfl, fun q hq => ?_, ?_⟩
        · rcases List.mem_append.mp hq with z | z
          · exact hne q z
          · rw [List.mem_singleton.mp z]; exact nD1
        · rw [List.length_append, List.length_singleton, List.range_succ, List.map_append]
          refine OwnL.snoc ?_ ((hown.ex e5).keep fun w hw o h => by rw [upd_ne (hne w hw)]; exact h)
          rw [upd_ne nD1, hD]
          have et : ((List.range (s - 1)).map fun i => qq (LA n rs) (k + 1) (k + 1 + pre.length) (k + (1 + i))) = tab (s - 1) (cor (LA n rs) (k + 1) pre.length) := by
            refine tab_congr fun j _ => ?_
            unfold cor
            rw [show k + (1 + j) = k + 1 + j by omega]
          rw [et]
      · rintro σ2 H2 ⟨v4, rfl, e4, ps, hps, hne, hown⟩
        walk_at "go"
        refine z_ixL (ex_l (eb.trans e4) hs0) (atI_nat (tabV_get _ (show 0 < s by omega))) ?_
        walk_at "go"
        have ed : cor (LA n rs) k 0 0 = det (k + 1) (LA n rs) := qq_diag _ k
        rw [ed]
        rw [List.length_drop, mat_len] at hown
        exact ⟨s - 1, by omega, k + 1, s - 1, p1, _, _, _, rfl, (e1.trans eb).trans e4, by omega, .inr (by omega), LLo.dt ⟨ps, hps, hown⟩, Nat.le_refl _⟩
    · have hs4 : s ≤ 4 := by omega
      walk_at "go"
      refine ⟨s, p, cor (LA n rs) k, rfl, hs4, hs4, hp, fun i j hi hj => cor_less N hl hn (by omega) (by omega), fun H2 e2 => ?_⟩
      walk_at "go"
      refine z_I (C := CPow) ⟨by decide, by decide, Nat.lt_trans (dsm k (by omega)) (by decide)⟩ ?_
      walk_at "go"
      refine z_I (C := CPow) ⟨by decide, by decide, Nat.lt_trans (dsm k (by omega)) (by decide)⟩ ?_
      walk_at "go"
      refine ⟨sz _, fun l nl => ?_⟩
      walk_at "go"
      have e3 := Ex.new (o := .lst [.int 1, .int (det k (LA n rs)), .int (det k (LA n rs) ^ 2), .int (det k (LA n rs) ^ 3)]) nl
      refine z_lenDt (hp.ex (e2.trans e3)) ?_
      walk_at "go"
      rw [mat_len]
      refine z_ixL (sq_of upd_same) ((congrArg _ (max_ix s)).trans (atI_pow _ hs4)) ?_
      have dp := dpos k (by omega)
      refine z_I (C := CDivW) (wide_div (b := 126) (Int.pow_pos dp) (pow_small (dsm k (by omega)) hs4) (by decide) (by decide)) ?_
      rw [cor_end N hks hs4 (by omega)]
      exact hq _ ((e1.trans e2).trans e3)
theorem ok_law {f : Addr} {fd : FuncData} (T : Fn K mg "law" s_law f fd ["_law_script"]) (B : Bf mg) (ZE : Er cls K mg) (C__law_small : Cal P w K mg base CX0 3 "_law_small" ["_law_script"] (sp_law_small K)) (C__law_degrees : Cal P w K mg base CX0 1 "_law_degrees" ["_law_many", "_law_roads"] (sp_law_degrees K)) (C__law_heaps : Cal P w K mg base CX0 1 "_law_heaps" ["_law_most"] (sp_law_heaps K)) (C__law_again : Cal P w K mg base CX0 2 "_law_again" ["_law_many", "_law_roads", "_law_heap"] (sp_law_again K)) (C__law_sets : Cal P w K mg base CX0 1 "_law_sets" ["_law_many", "_law_count"] (sp_law_sets K)) (C__law_joined : Cal P w K mg base CX0 1 "_law_joined" ["_law_many", "_law_roads", "_law_tree"] (sp_law_joined K)) (C_how_many : Cal P w K mg base CX0 4 "how_many" ["many", "roads"] (sp_how_many K)) (C__law_whole : Cal P w K mg base CX0 1 "_law_whole" ["_law_found"] (sp_law_whole K)) (C_tree_of : Cal P w K mg base (L2.CX P w) 6 "tree_of" ["many", "roads", "heap"] (sp_tree_ofX K)) (C_heap_of : Cal P w K mg base CX0 4 "heap_of" ["many", "roads", "tree"] (sp_heap_of K)) (C__law_cell_at : Cal P w K mg base CX0 1 "_law_cell_at" ["_law_script", "_law_k"] (sp_law_cell_at K)) (C__law_room : Cal P w K mg base CX0 2 "_law_room" ["_law_many", "_law_roads"] (sp_law_room K)) (C_comes_again : Cal P w K mg base CX0 5 "comes_again" ["many", "roads", "heap"] (sp_comes_again K)) (C__law_net : Cal P w K mg base CX0 2 "_law_net" ["_law_script", "_law_lines"] (sp_law_net K)) (C__law_table : Cal P w K mg base CX0 1 "_law_table" ["_law_many", "_law_roads"] (sp_law_table12 K)) (C__law_determinant : Cal P w K mg base CX0 6 "_law_determinant" ["_law_rows"] (sp_law_determinant K))  : FnOk P w K mg base CX0 7 f fd ["_law_script"] (sp_law K) := by
  refine T.okF sc_law (fun vs H Q E h => ?_) (fun cdv A outer s H vs Q E hr h => ?_)
  · obtain ⟨_, _, rfl, _⟩ := h; rfl
  · have hu := hu_of hr
    obtain ⟨a, ns, rfl, hs, hl, hq⟩ := h
    refine ⟨_, ((pss_cons (ps_asg (pe_cal C__law_small (hr.mono (by decide)) (by rfl) (pa_cons (pv 0) pa_nil)) (pg_tup (by rfl) (pgs_cons (pg_name (i := 1) sc_law.nd rfl (Or.inr rfl)) (pgs_cons (pg_name (i := 2) sc_law.nd rfl (Or.inr rfl)) pgs_nil))))
        (pss_cons (ps_setLc (i := 3) (own := [("_law_heap", 9)]) (g := gName 9) (tt := _) rfl sc_law.nd rfl rfl (sw_true rfl rfl rfl (by decide +kernel)) (piL K (pe_cal C__law_heaps (hr.mono (by decide)) (by rfl) (pa_cons (pe_cal C__law_degrees (hr.mono (by decide)) (by rfl) (pa_cons (pv 1) (pa_cons (pv 2) pa_nil))) pa_nil))) (blkOk_by (N := nn_law) (sc := defScope s_law) (by decide +kernel)) (fun _ _ _ _ _ => pg_name (i := 9) sc_law.nd rfl (Or.inl rfl)) (fun _ _ _ _ _ => (pts_one (pt_val (pe_cal C__law_again (hr.mono (by decide)) (by rfl) (pa_cons (pv 1) (pa_cons (pv 2) (pa_cons (pv 9) pa_nil))))))) (fun _ _ _ _ _ => (pv 9)))
        (pss_cons (ps_setLc (i := 4) (own := [("_law_some", 10)]) (g := gName 10) (tt := _) rfl sc_law.nd rfl rfl (sw_true rfl rfl rfl (by decide +kernel)) (piL K (pe_cal C__law_sets (hr.mono (by decide)) (by rfl) (pa_cons (pv 1) (pa_cons (pe_callB (callLen K) (by rfl) B.len (by decide +kernel) (pa_cons (pv 2) pa_nil)) pa_nil)))) (blkOk_by (N := nn_law) (sc := defScope s_law) (by decide +kernel)) (fun _ _ _ _ _ => pg_name (i := 10) sc_law.nd rfl (Or.inl rfl)) (fun _ _ _ _ _ => (pts_one (pt_val (pe_cal C__law_joined (hr.mono (by decide)) (by rfl) (pa_cons (pv 1) (pa_cons (pv 2) (pa_cons (pv 10) pa_nil))))))) (fun _ _ _ _ _ => (pv 10)))
        (pss_cons (ps_set (i := 5) sc_law.nd rfl (Or.inl rfl) (pe_cal C_how_many (hr.mono (by decide)) (by rfl) (pa_cons (pv 1) (pa_cons (pe_callTy (callListOf K) (by rfl) B.list (by decide +kernel) (pa_cons (pv 2) pa_nil)) pa_nil))))
        (pss_cons (ps_if (PW.pt (pw_or (pt_not (pt_val (pe_cal C__law_whole (hr.mono (by decide)) (by rfl) (pa_cons (pv 5) pa_nil)))) (pw_or (pt_cmpR op_ne (pv 5) (pe_callB (callLen K) (by rfl) B.len (by decide +kernel) (pa_cons (pv 3) pa_nil)) (nomark _)) (pw_or1 (pt_cmpR op_ne (pv 5) (pe_callB (callLen K) (by rfl) B.len (by decide +kernel) (pa_cons (pv 4) pa_nil)) (nomark _)))))) (pss_one (ps_ret pe_bl)) pss_nil)
        (pss_cons (ps_setLc (i := 6) (own := [("_law_heap", 9)]) (g := gName 9) (tt := tYes) rfl sc_law.nd rfl rfl (sw_true rfl rfl rfl (by decide +kernel)) (piL K (pv 3)) (blkOk_by (N := nn_law) (sc := defScope s_law) (by decide +kernel)) (fun _ _ _ _ _ => pg_name (i := 9) sc_law.nd rfl (Or.inl rfl)) (fun _ _ _ _ _ => pts_nil) (fun _ _ _ _ _ => (pe_calX C_tree_of (hr.mono (by decide)) (by rfl) (pa_cons (pv 1) (pa_cons (pe_callTy (callListOf K) (by rfl) B.list (by decide +kernel) (pa_cons (pv 2) pa_nil)) (pa_cons (pe_callTy (callListOf K) (by rfl) B.list (by decide +kernel) (pa_cons (pv 9) pa_nil)) pa_nil))))))
        (pss_cons (ps_setLc (i := 7) (own := [("_law_some", 10)]) (g := gName 10) (tt := tYes) rfl sc_law.nd rfl rfl (sw_true rfl rfl rfl (by decide +kernel)) (piL K (pv 4)) (blkOk_by (N := nn_law) (sc := defScope s_law) (by decide +kernel)) (fun _ _ _ _ _ => pg_name (i := 10) sc_law.nd rfl (Or.inl rfl)) (fun _ _ _ _ _ => pts_nil) (fun _ _ _ _ _ => (pe_cal C_heap_of (hr.mono (by decide)) (by rfl) (pa_cons (pv 1) (pa_cons (pv 2) (pa_cons (pe_callTy (callListOf K) (by rfl) B.list (by decide +kernel) (pa_cons (pv 10) pa_nil)) pa_nil))))))
        (pss_cons (ps_if (PW.pt (pw_or (pt_cmpR (opNeD K hr.units) (pe_callB (crSortedL K hr.units) (by rfl) B.sorted (by decide +kernel) (pa_cons (pv 6) pa_nil)) (pe_callB (crSortedL K hr.units) (by rfl) B.sorted (by decide +kernel) (pa_cons (pv 4) pa_nil)) (nomark _)) (pw_or1 (pt_cmpR (opNeD K hr.units) (pe_callB (crSortedL K hr.units) (by rfl) B.sorted (by decide +kernel) (pa_cons (pv 7) pa_nil)) (pe_callB (crSortedL K hr.units) (by rfl) B.sorted (by decide +kernel) (pa_cons (pv 3) pa_nil)) (nomark _))))) (pss_one (ps_ret pe_bl)) pss_nil)
        (pss_cons (ps_set (i := 8) sc_law.nd rfl (Or.inl rfl) (pe_ix (ixL K) (pe_cal C__law_heaps (hr.mono (by decide)) (by rfl) (pa_cons (pe_cal C__law_degrees (hr.mono (by decide)) (by rfl) (pa_cons (pv 1) (pa_cons (pv 2) pa_nil))) pa_nil)) (pe_op op_mod (pe_cal C__law_cell_at (hr.mono (by decide)) (by rfl) (pa_cons (pv 0) (pa_cons pe_int pa_nil))) (pe_cal C__law_room (hr.mono (by decide)) (by rfl) (pa_cons (pv 1) (pa_cons (pv 2) pa_nil)))) (fun _ _ => rfl)))
        (pss_cons (ps_if (pt_cmpR op_ne (pe_cal C_comes_again (hr.mono (by decide)) (by rfl) (pa_cons (pv 1) (pa_cons (pe_callTy (callListOf K) (by rfl) B.list (by decide +kernel) (pa_cons (pv 2) pa_nil)) (pa_cons (pe_callTy (callListOf K) (by rfl) B.list (by decide +kernel) (pa_cons (pv 8) pa_nil)) pa_nil)))) (pe_cmpR (opInD K (hu65 hr)) (pv 8) (pv 3) (by rfl)) (nomark _)) (pss_one (ps_ret pe_bl)) pss_nil)
        (pss_cons (ps_asg (pe_cal C__law_net (hr.mono (by decide)) (by rfl) (pa_cons (pv 0) (pa_cons pe_int pa_nil))) (pg_tup (by rfl) (pgs_cons (pg_name (i := 1) sc_law.nd rfl (Or.inr rfl)) (pgs_cons (pg_name (i := 2) sc_law.nd rfl (Or.inr rfl)) pgs_nil))))
        (pss_one (ps_ret (pe_cmpR op_eq (pe_cal C_how_many (hr.mono (by decide)) (by rfl) (pa_cons (pv 1) (pa_cons (pv 2) pa_nil))) (pe_cal C__law_determinant (hr.mono (by decide)) (by rfl) (pa_cons (pe_cal C__law_table (hr.mono (by decide)) (by rfl) (pa_cons (pv 1) (pa_cons (pv 2) pa_nil))) pa_nil)) (nomark _)))))))))))))))), ?_⟩
    refine Z.at_slots (σ := [some _, none, none, none, none, none, none, none, none, none, none]) ?_
    walk_at "go"
    refine ⟨a, ns, rfl, hl, hs, fun n rs t q H1 hn hrs N e1 ht hr1 => ?_⟩
    refine z_gtup2 (st_of ht) ?_
    walk_at "go"
    have hf : ∀ k, k < n → 0 ≤ deg rs k ∧ deg rs k ≤ 40 := fun k _ => ⟨deg_nn rs k, by have := deg_le rs k; omega⟩
    have bsm := boxT_small hn hf
    refine ⟨n, q, rs, rfl, by omega, hr1, fun p2 H2 np2 e2 hp2 => ?_⟩
    walk_at "go"
    refine ⟨n, p2, deg rs, rfl, hn, hf, dt_intsH hp2, fun p3 H3 np3 e3 hp3 => ?_⟩
    walk_at "go"
    have e13 := e2.trans e3
    refine z_lcF (α := List Int) (agL n rs) (hp3.dt) (Ex.refl _) (by omega) ?_ ?_ ?_ ⟨_, rfl⟩
    · intro x v H4 R hx hv e4 kk
      obtain ⟨b, rfl, hb⟩ := hv.ints
      have hxl := (boxT_mem.mp hx).1
      walk_at "go"
      refine ⟨rfl, ?_⟩
      walk_at "go"
      refine ⟨n, q, b, rs, nth x, rfl, by omega, by omega, N, hr1.ex (e13.trans e4), by rw [tab_nth hxl]; exact dt_ints (ex_l e4 hb), fun bb H5 hbb e5 => ?_⟩
      rw [agL_eq hbb]
      walk_at "go"
      exact kk _ e5
    · intro v H4 R kk
      walk_at "go"
      exact kk
    intro D4 H4 nD4 e4 hD4
    have hA : Dt K H4 (.ref D4) (heapsH n rs) := hD4
    have hr4 := hr1.ex (e13.trans e4)
    have hs4 := ex_l (e1.trans (e13.trans e4)) hs
    have lA : (heapsH n rs).length ≤ 90000 := by
      have : (heapsH n rs).length ≤ (boxT n (deg rs)).length := List.length_filter_le _ _
      omega
    clear hD4
    walk_at "go"
    refine z_lenDt hr4 ?_
    walk_at "go"
    refine ⟨n, rs.length, rfl, hn, hrs, fun p5 H5 np5 e5 hp5 => ?_⟩
    walk_at "go"
    have lS : ((setsF n rs.length).filter fun T => decide (T.length = n)).length ≤ 128 := Nat.le_trans (List.length_filter_le _ _) (setsF_small n hrs)
    refine z_lcF (α := List Nat) (okT n rs) hp5 (Ex.refl _) (by omega) ?_ ?_ ?_ ⟨_, rfl⟩
    · intro x v H6 R hx hv e6 kk
      obtain ⟨b, vs, rfl, _, _⟩ := hv.list
      walk_at "go"
      refine ⟨rfl, ?_⟩
      walk_at "go"
      refine ⟨n, q, b, rs, x, rfl, by omega, by omega, N, setsF_in (List.mem_filter.mp hx).1, hr4.ex (e5.trans e6), hv.ex e6, fun bb H7 hbb e7 => ?_⟩
      rw [okT_eq hbb]
      walk_at "go"
      exact kk _ e7
    · intro v H6 R kk
      walk_at "go"
      exact kk
    intro D6 H6 nD6 e6 hD6
    have hB : Dt K H6 (.ref D6) (treesH n rs) := hD6
    have e46 := e5.trans e6
    have hr6 := hr4.ex e46
    have hA6 := hA.ex e46
    have hs6 := ex_l e46 hs4
    have lB : (treesH n rs).length ≤ 90000 := by
      have : (treesH n rs).length ≤ _ := List.length_filter_le _ _
      omega
    clear hD6
    walk_at "go"
    refine z_listOf hr6 fun p7 vs7 np7 hvs7 => ?_
    walk_at "go"
    have e7 := Ex.new (o := .lst vs7) np7
    refine ⟨n, p7, rs, rfl, by omega, by omega, N, dt_lst (sq_of upd_same) (hvs7.ex e7), fun H8 e8 => ?_⟩
    have e68 := e7.trans e8
    have hr8 := hr6.ex e68
    have hA8 := hA6.ex e68
    have hB8 := hB.ex e68
    have hs8 := ex_l e68 hs6
    generalize (upd H6 p7 (.lst vs7)) = G7 at e7 e8
    have t1 : det n (LA n rs) = ((treesH n rs).length : Int) := (trees_det N hn).symm
    rw [t1]
    walk_at "go"
    refine ⟨_, rfl, .int _, ?_⟩
    walk_at "go"
    refine z_iteF' (by rfl) ?_
    walk_at "go"
    refine z_lenDt hA8 ?_
    walk_at "go"
    rw [heaps_len N, decide_eq_true rfl]
    walk_at "go"
    refine z_lenDt hB8 ?_
    walk_at "go"
    rw [decide_eq_true rfl]
    walk_at "go"
    refine z_lcO (α := List Int) (fun _ => true) (fun l => nI (trOf n rs l)) hA8 (Ex.refl _) lA ?_ ?_ ?_ ⟨_, rfl⟩
    · intro x v H9 R hx hv e9 kk
      walk_at "go"
      refine ⟨rfl, ?_⟩
      walk_at "go"
      exact kk _ (Ex.refl _)
    · intro x v H9 R hx hv e9 kk
      obtain ⟨hxl, L, F⟩ := (heapsH_mem N).mp hx
      obtain ⟨pl, _, hm, _⟩ := trOf_mem N hx
      walk_at "go"
      refine z_listOf (hr8.ex e9) fun p vs np hvs => ?_
      walk_at "go"
      have g1 := Ex.new (o := .lst vs) np
      refine z_listOf (hv.ex (e9.trans g1)) fun p' vs' np' hvs' => ?_
      cases hvs'.ints
      walk_at "go"
      have g2 := Ex.new (o := .lst (x.map V.int)) np'
      refine ⟨n, p, p', rs, nth x, rfl, by omega, by omega, N, good_low N (by omega) L F, dt_lst (sq_of (upd_at upd_same (ne_fr upd_same np'))) (hvs.ex (g1.trans g2)), by rw [tab_nth hxl]; exact dt_intsH upd_same, fun _ l pl2 hl2 tr G ntr d htr => ?_, fun z => absurd ⟨L, F⟩ z⟩
      have el : l = trOf n rs x := rising_eq pl2 pl fun j => by rw [hl2, hm]
      subst el
      exact kk tr G (fr (g1.trans g2) ntr) (g1.trans (g2.trans d)) (by rw [nI_natV]; exact htr)
    intro D9 H9 nD9 e9 hD9
    have ef : (heapsH n rs).filter (fun _ => true) = heapsH n rs := List.filter_eq_self.mpr fun _ _ => rfl
    rw [ef] at hD9
    have hr9 := hr8.ex e9
    have hA9 := hA8.ex e9
    have hB9 := hB8.ex e9
    have hs9 := ex_l e9 hs8
    walk_at "go"
    refine z_lcO (α := List Nat) (fun _ => true) (hpOf n rs) hB9 (Ex.refl _) lB ?_ ?_ ?_ ⟨_, rfl⟩
    · intro x v H10 R hx hv e10 kk
      walk_at "go"
      refine ⟨rfl, ?_⟩
      walk_at "go"
      exact kk _ (Ex.refl _)
    · intro x v H10 R hx hv e10 kk
      obtain ⟨_, I⟩ := treesH_mem.mp hx
      walk_at "go"
      refine z_listOf (hv.ex e10) fun p vs np hvs => ?_
      walk_at "go"
      have g1 := Ex.new (o := .lst vs) np
      refine ⟨n, q, p, rs, x, rfl, by omega, by omega, N, I, hr9.ex (e10.trans g1), dt_lst (sq_of upd_same) (hvs.ex g1), fun y G ny d hy => ?_⟩
      exact kk y G (fr g1 ny) (g1.trans d) hy
    intro D10 H10 nD10 e10 hD10
    have ef2 : (treesH n rs).filter (fun _ => true) = treesH n rs := List.filter_eq_self.mpr fun _ _ => rfl
    rw [ef2] at hD10
    have hr10 := hr9.ex e10
    have hA10 := hA9.ex e10
    have hB10 := hB9.ex e10
    have hs10 := ex_l e10 hs9
    have hM10 := hD9.ex e10
    walk_at "go"
    refine z_sortedL hM10.dt fun ys1 s1 hys1 ns1 => ?_
    walk_at "go"
    have f1 := Ex.new (o := .lst ys1) ns1
    refine z_sortedL (dt_nI (hB10.ex f1)) fun ys2 s2 hys2 ns2 => ?_
    walk_at "go"
    have f2 := Ex.new (o := .lst ys2) ns2
    refine z_neD (α := List (List Int)) (by decide) (dt_lst (sq_of (f2 _ _ upd_same)) (hys1.ex (f1.trans f2))) (dt_lst (sq_of upd_same) (hys2.ex f2)) ?_
    rw [decide_eq_true (mine_eq N)]
    have f12 := f1.trans f2
    generalize (upd (upd H10 s1 (.lst ys1)) s2 (.lst ys2)) = H11 at f12 ⊢
    walk_at "go"
    refine z_sortedL ((hD10.ex f12).dt) fun ys3 s3 hys3 ns3 => ?_
    walk_at "go"
    have f3 := Ex.new (o := .lst ys3) ns3
    refine z_sortedL (hA10.ex (f12.trans f3)) fun ys4 s4 hys4 ns4 => ?_
    walk_at "go"
    have f4 := Ex.new (o := .lst ys4) ns4
    refine z_neD (α := List (List Int)) (by decide) (dt_lst (sq_of (f4 _ _ upd_same)) (hys3.ex (f3.trans f4))) (dt_lst (sq_of upd_same) (hys4.ex f4)) ?_
    rw [decide_eq_true (yours_eq N)]
    have f14 := f12.trans (f3.trans f4)
    generalize (upd (upd H11 s3 (.lst ys3)) s4 (.lst ys4)) = H12 at f14 ⊢
    have hr12 := hr10.ex f14
    have hA12 := hA10.ex f14
    have hs12 := ex_l f14 hs10
    walk_at "go"
    refine ⟨n, q, rs, rfl, by omega, hr12, fun p13 H13 np13 e13 hp13 => ?_⟩
    walk_at "go"
    refine ⟨n, p13, deg rs, rfl, hn, hf, dt_intsH hp13, fun p14 H14 np14 e14 hp14 => ?_⟩
    walk_at "go"
    refine ⟨a, ns, 19, rfl, dt_ints (ex_l (e13.trans e14) hs12), fun H15 e15 => ?_⟩
    walk_at "go"
    refine ⟨n, q, rs, rfl, by omega, by omega, hr12.ex (e13.trans (e14.trans e15)), fun H16 e16 => ?_⟩
    walk_at "go"
    have bl : ((boxT n (deg rs)).length : Int) = prodT (deg rs) n := boxT_len n fun k _ => deg_nn rs k
    have pp : 0 < prodT (deg rs) n := prod_pos n fun k hk => by have := N.deg_pos hk; omega
    refine z_I pp ?_
    walk_at "go"
    generalize cellAt ns 19 = c19
    obtain ⟨i0, ei0, li0⟩ := emod_nat c19 (show 0 < (boxT n (deg rs)).length by omega)
    rw [← bl, show c19 % ((boxT n (deg rs)).length : Int) = (i0 : Int) from ei0]
    obtain ⟨ps, hps, hown⟩ := hp14.ex (e15.trans e16)
    obtain ⟨q0, hq0, hq1⟩ := hown.at (List.getElem?_eq_getElem li0)
    have hxm := List.getElem_mem li0
    generalize (boxT n (deg rs))[i0] = x at hq1 hxm
    obtain ⟨hxl, hxb⟩ := boxT_mem.mp hxm
    refine z_ixL (sq_of hps) (atI_nat (v := .ref q0) (by rw [List.getElem?_map, hq0]; rfl)) ?_
    walk_at "go"
    have e116 := e13.trans (e14.trans (e15.trans e16))
    refine z_listOf (hr12.ex e116) fun p17 vs17 np17 hvs17 => ?_
    walk_at "go"
    have g1 := Ex.new (o := .lst vs17) np17
    refine z_listOf (dt_intsH (g1 _ _ hq1)) fun p18 vs18 np18 hvs18 => ?_
    cases hvs18.ints
    walk_at "go"
    have g2 := Ex.new (o := .lst (x.map V.int)) np18
    refine ⟨n, p17, p18, rs, nth x, rfl, by omega, by omega, N, fun k hk => ⟨(hxb k hk).1, by have := (hxb k hk).2; have := (hf k hk).2; omega⟩, dt_lst (sq_of (g2 _ _ upd_same)) (hvs17.ex (g1.trans g2)), by rw [tab_nth hxl]; exact dt_intsH upd_same, fun bb H19 hbb e19 => ?_⟩
    have g13 := g1.trans (g2.trans e19)
    walk_at "go"
    refine z_inD (α := List Int) (by decide) (by decide) (dt_intsH (g13 _ _ hq1)) (hA12.ex (e116.trans g13)) ?_
    walk_at "go"
    refine z_iteF' (by rw [Bool.not_eq_false']; exact decide_eq_true (in_eq N hxl hbb)) ?_
    walk_at "go"
    refine ⟨a, ns, 3, rfl, by omega, dt_ints (ex_l (e116.trans g13) hs12), fun n2 rs2 t2 q2 H20 hn2 hrs2 N2 _ ft2 fq2 ntq2 e20 ht2 hrr2 => ?_⟩
    have hn10 : n2 ≤ 10 := by unfold netMost at hn2; split at hn2; omega; split at hn2 <;> omega
    refine z_gtup2 (st_of ht2) ?_
    walk_at "go"
    refine ⟨n2, q2, rs2, rfl, hn10, hrs2, N2, hrr2.dt, fun H21 e21 => ?_⟩
    walk_at "go"
    refine ⟨n2, q2, rs2, rfl, hn10, hrs2, N2, (hrr2.ex e21).dt, fun D ps2 H22 nD nps e22 R => ?_⟩
    walk_at "go"
    refine ⟨n2, D, rs2, rfl, hn10, hrs2, N2, (R.congr fun i j hi hj => (LA_TB N2 hi hj).symm).dt, fun H23 e23 => ?_⟩
    walk_at "go"
    rw [decide_eq_true rfl]
    exact hq _
end
/-! ### what the top has written -/
def d_law_cell_at : He.DefD := ⟨("_law_cell_at", none), "_law_cell_at", "_law_cell_at", defArgs s_law_cell_at, defBody s_law_cell_at, defScope s_law_cell_at, [], []⟩
def d_law_mixed : He.DefD := ⟨("_law_mixed", none), "_law_mixed", "_law_mixed", defArgs s_law_mixed, defBody s_law_mixed, defScope s_law_mixed, [], []⟩
def d_law_turned : He.DefD := ⟨("_law_turned", none), "_law_turned", "_law_turned", defArgs s_law_turned, defBody s_law_turned, defScope s_law_turned, [], []⟩
def d_law_net : He.DefD := ⟨("_law_net", none), "_law_net", "_law_net", defArgs s_law_net, defBody s_law_net, defScope s_law_net, [], []⟩
def d_law_degrees : He.DefD := ⟨("_law_degrees", none), "_law_degrees", "_law_degrees", defArgs s_law_degrees, defBody s_law_degrees, defScope s_law_degrees, [], []⟩
def d_law_room : He.DefD := ⟨("_law_room", none), "_law_room", "_law_room", defArgs s_law_room, defBody s_law_room, defScope s_law_room, [], []⟩
def d_law_small : He.DefD := ⟨("_law_small", none), "_law_small", "_law_small", defArgs s_law_small, defBody s_law_small, defScope s_law_small, [], []⟩
def d_law_heaps : He.DefD := ⟨("_law_heaps", none), "_law_heaps", "_law_heaps", defArgs s_law_heaps, defBody s_law_heaps, defScope s_law_heaps, [], []⟩
def d_law_again : He.DefD := ⟨("_law_again", none), "_law_again", "_law_again", defArgs s_law_again, defBody s_law_again, defScope s_law_again, [], []⟩
def d_law_sets : He.DefD := ⟨("_law_sets", none), "_law_sets", "_law_sets", defArgs s_law_sets, defBody s_law_sets, defScope s_law_sets, [], []⟩
def d_law_joined : He.DefD := ⟨("_law_joined", none), "_law_joined", "_law_joined", defArgs s_law_joined, defBody s_law_joined, defScope s_law_joined, [], []⟩
def d_is_whole : He.DefD := ⟨("is_whole", none), "is_whole", "is_whole", defArgs s_is_whole, defBody s_is_whole, defScope s_is_whole, [], []⟩
def d_is_road : He.DefD := ⟨("is_road", none), "is_road", "is_road", defArgs s_is_road, defBody s_is_road, defScope s_is_road, [], []⟩
def d_beyond : He.DefD := ⟨("beyond", none), "beyond", "beyond", defArgs s_beyond, defBody s_beyond, defScope s_beyond, [], []⟩
def d_reached : He.DefD := ⟨("reached", none), "reached", "reached", defArgs s_reached, defBody s_reached, defScope s_reached, [], []⟩
def d_need_net : He.DefD := ⟨("need_net", none), "need_net", "need_net", defArgs s_need_net, defBody s_need_net, defScope s_need_net, [], []⟩
def d_table_of : He.DefD := ⟨("table_of", none), "table_of", "table_of", defArgs s_table_of, defBody s_table_of, defScope s_table_of, [], []⟩
def d_how_many : He.DefD := ⟨("how_many", none), "how_many", "how_many", defArgs s_how_many, defBody s_how_many, defScope s_how_many, [], []⟩
def d_law_whole : He.DefD := ⟨("_law_whole", none), "_law_whole", "_law_whole", defArgs s_law_whole, defBody s_law_whole, defScope s_law_whole, [], []⟩
def d_need_heap : He.DefD := ⟨("need_heap", none), "need_heap", "need_heap", defArgs s_need_heap, defBody s_need_heap, defScope s_need_heap, [], []⟩
def d_counted : He.DefD := ⟨("counted", none), "counted", "counted", defArgs s_counted, defBody s_counted, defScope s_counted, [], []⟩
def d_is_low : He.DefD := ⟨("is_low", none), "is_low", "is_low", defArgs s_is_low, defBody s_is_low, defScope s_is_low, [], []⟩
def d_moved : He.DefD := ⟨("moved", none), "moved", "moved", defArgs s_moved, defBody s_moved, defScope s_moved, [], []⟩
def d_settle : He.DefD := ⟨("settle", none), "settle", "settle", defArgs s_settle, defBody s_settle, defScope s_settle, [], []⟩
def d_is_again : He.DefD := ⟨("is_again", none), "is_again", "is_again", defArgs s_is_again, defBody s_is_again, defScope s_is_again, [], []⟩
def d_need_again : He.DefD := ⟨("need_again", none), "need_again", "need_again", defArgs s_need_again, defBody s_need_again, defScope s_need_again, [], []⟩
def d_tree_of : He.DefD := ⟨("tree_of", none), "tree_of", "tree_of", defArgs s_tree_of, defBody s_tree_of, defScope s_tree_of, [], []⟩
def d_need_tree : He.DefD := ⟨("need_tree", none), "need_tree", "need_tree", defArgs s_need_tree, defBody s_need_tree, defScope s_need_tree, [], []⟩
def d_heap_of : He.DefD := ⟨("heap_of", none), "heap_of", "heap_of", defArgs s_heap_of, defBody s_heap_of, defScope s_heap_of, [], []⟩
def d_comes_again : He.DefD := ⟨("comes_again", none), "comes_again", "comes_again", defArgs s_comes_again, defBody s_comes_again, defScope s_comes_again, [], []⟩
def d_law_table : He.DefD := ⟨("_law_table", none), "_law_table", "_law_table", defArgs s_law_table, defBody s_law_table, defScope s_law_table, [], []⟩
def d_law_expanded : He.DefD := ⟨("_law_expanded", none), "_law_expanded", "_law_expanded", defArgs s_law_expanded, defBody s_law_expanded, defScope s_law_expanded, [], []⟩
def d_law_determinant : He.DefD := ⟨("_law_determinant", none), "_law_determinant", "_law_determinant", defArgs s_law_determinant, defBody s_law_determinant, defScope s_law_determinant, [], []⟩
def d_law : He.DefD := ⟨("law", none), "law", "law", defArgs s_law, defBody s_law, defScope s_law, [], []⟩
def fnl : List He.DefD := [d_law_cell_at, d_law_mixed, d_law_turned, d_law_net, d_law_degrees, d_law_room, d_law_small, d_law_heaps, d_law_again, d_law_sets, d_law_joined, d_is_whole, d_is_road, d_beyond, d_reached, d_need_net, d_table_of, d_how_many, d_law_whole, d_need_heap, d_counted, d_is_low, d_moved, d_settle, d_is_again, d_need_again, d_tree_of, d_need_tree, d_heap_of, d_comes_again, d_law_table, d_law_expanded, d_law_determinant, d_law]
def fa : List He.Fa := [.glo "_law_cell_at", .glo "_law_mixed", .glo "_law_turned", .glo "_law_net", .glo "_law_degrees", .glo "_law_room", .glo "_law_small", .glo "_law_heaps", .glo "_law_again", .glo "_law_sets", .glo "_law_joined", .glo "is_whole", .glo "is_road", .glo "beyond", .glo "reached", .glo "need_net", .glo "table_of", .glo "how_many", .glo "_law_whole", .glo "need_heap", .glo "counted", .glo "is_low", .glo "moved", .glo "settle", .glo "is_again", .glo "need_again", .glo "tree_of", .glo "need_tree", .glo "heap_of", .glo "comes_again", .glo "_law_table", .glo "_law_expanded", .glo "_law_determinant", .glo "law", .free "len", .free "range", .free "isinstance", .free "list", .free "int", .free "bool", .free "tuple", .free "max", .free "min", .free "sum", .free "sorted", .free "reversed", .free "ValueError", .int "MOST_PLACES" 10, .int "MOST_ROADS" 40, .int "MOST_SAND" 1000000000, .glo "YardError", .glo "NoNet", .glo "NoHeap", .glo "NoTree", .glo "NotAgain"]
abbrev R : PySem.W.OpenRow := PySem.W.OpenLaw.row PySem.Challenge.rw_toppleyard_k12_whole_as_many
def ex (K : PySem.W.Frag) : Bool := erB K cls
abbrev hk : PySem.W.Hook := hookY 4 fa fnl ex
def ob (s : PySem.W.SharedT) : He.AlD × Bool := obsY 4 fa fnl ex (HandSHeadRun.getT s)
theorem ob_eq (s : PySem.W.SharedT) : ob s = hk.obs s.abs := obsY_eq (HandSHeadRun.getT_eq s)
def loose : List Str := (["__name__", "YardError", "NoNet", "NoHeap", "NoTree", "NotAgain", "MOST_PLACES", "MOST_ROADS", "MOST_SAND", "is_whole", "is_road", "beyond", "reached", "need_net", "need_heap", "need_tree", "counted", "moved", "is_low", "settle", "is_again", "need_again", "comes_again", "tree_of", "heap_of", "table_of", "how_many", "_law_cell_at", "_law_whole", "_law_mixed"] : List Str) ++ (["_law_turned", "_law_net", "_law_degrees", "_law_again", "_law_joined", "_law_room", "_law_small", "_law_heaps", "_law_sets", "_law_expanded", "_law_determinant", "_law_table"] : List Str)
theorem run (w : World) : HandSHeadRun.RunEq R (PySem.W.view R.prog [47]) hk ob 6000 loose w := by
  intro os
  kernel_rfl
theorem facts {P : Program} {w : World} {K : PySem.W.Frag} {h : Heap} {mg : Str → Option Value} {f : Addr} (X : K.In h) (G : h.Ns mainGlobals mg) (hfa : mg ("law" : Str) = some (.ref f)) (c : He.SaysD fa fnl K) (cx : ex K = true) :
    ∃ fd : FuncData, (∀ (s : Shared) (v : Value), BindsTo s fd ⟨[v], []⟩ [("_law_script", v)]) ∧ ∀ base : Heap, K.In base → base.Ns mainGlobals mg → FnOk P w K mg base CX0 7 f fd ["_law_script"] (sp_law K) := by
  obtain ⟨fd_law_cell_at, F_law_cell_at⟩ := c.def_ 0 (d := d_law_cell_at) rfl
  obtain ⟨fd_law_mixed, F_law_mixed⟩ := c.def_ 1 (d := d_law_mixed) rfl
  obtain ⟨fd_law_turned, F_law_turned⟩ := c.def_ 2 (d := d_law_turned) rfl
  obtain ⟨fd_law_net, F_law_net⟩ := c.def_ 3 (d := d_law_net) rfl
  obtain ⟨fd_law_degrees, F_law_degrees⟩ := c.def_ 4 (d := d_law_degrees) rfl
  obtain ⟨fd_law_room, F_law_room⟩ := c.def_ 5 (d := d_law_room) rfl
  obtain ⟨fd_law_small, F_law_small⟩ := c.def_ 6 (d := d_law_small) rfl
  obtain ⟨fd_law_heaps, F_law_heaps⟩ := c.def_ 7 (d := d_law_heaps) rfl
  obtain ⟨fd_law_again, F_law_again⟩ := c.def_ 8 (d := d_law_again) rfl
  obtain ⟨fd_law_sets, F_law_sets⟩ := c.def_ 9 (d := d_law_sets) rfl
  obtain ⟨fd_law_joined, F_law_joined⟩ := c.def_ 10 (d := d_law_joined) rfl
  obtain ⟨fd_is_whole, F_is_whole⟩ := c.def_ 11 (d := d_is_whole) rfl
  obtain ⟨fd_is_road, F_is_road⟩ := c.def_ 12 (d := d_is_road) rfl
  obtain ⟨fd_beyond, F_beyond⟩ := c.def_ 13 (d := d_beyond) rfl
  obtain ⟨fd_reached, F_reached⟩ := c.def_ 14 (d := d_reached) rfl
  obtain ⟨fd_need_net, F_need_net⟩ := c.def_ 15 (d := d_need_net) rfl
  obtain ⟨fd_table_of, F_table_of⟩ := c.def_ 16 (d := d_table_of) rfl
  obtain ⟨fd_how_many, F_how_many⟩ := c.def_ 17 (d := d_how_many) rfl
  obtain ⟨fd_law_whole, F_law_whole⟩ := c.def_ 18 (d := d_law_whole) rfl
  obtain ⟨fd_need_heap, F_need_heap⟩ := c.def_ 19 (d := d_need_heap) rfl
  obtain ⟨fd_counted, F_counted⟩ := c.def_ 20 (d := d_counted) rfl
  obtain ⟨fd_is_low, F_is_low⟩ := c.def_ 21 (d := d_is_low) rfl
  obtain ⟨fd_moved, F_moved⟩ := c.def_ 22 (d := d_moved) rfl
  obtain ⟨fd_settle, F_settle⟩ := c.def_ 23 (d := d_settle) rfl
  obtain ⟨fd_is_again, F_is_again⟩ := c.def_ 24 (d := d_is_again) rfl
  obtain ⟨fd_need_again, F_need_again⟩ := c.def_ 25 (d := d_need_again) rfl
  obtain ⟨fd_tree_of, F_tree_of⟩ := c.def_ 26 (d := d_tree_of) rfl
  obtain ⟨fd_need_tree, F_need_tree⟩ := c.def_ 27 (d := d_need_tree) rfl
  obtain ⟨fd_heap_of, F_heap_of⟩ := c.def_ 28 (d := d_heap_of) rfl
  obtain ⟨fd_comes_again, F_comes_again⟩ := c.def_ 29 (d := d_comes_again) rfl
  obtain ⟨fd_law_table, F_law_table⟩ := c.def_ 30 (d := d_law_table) rfl
  obtain ⟨fd_law_expanded, F_law_expanded⟩ := c.def_ 31 (d := d_law_expanded) rfl
  obtain ⟨fd_law_determinant, F_law_determinant⟩ := c.def_ 32 (d := d_law_determinant) rfl
  obtain ⟨fd_law, F_law⟩ := c.def_ 33 (d := d_law) rfl
  have B : Bf mg := ⟨He.free_ok X G (c.fact 34 (f := .free "len") rfl), He.free_ok X G (c.fact 35 (f := .free "range") rfl), He.free_ok X G (c.fact 36 (f := .free "isinstance") rfl), He.free_ok X G (c.fact 37 (f := .free "list") rfl), He.free_ok X G (c.fact 38 (f := .free "int") rfl), He.free_ok X G (c.fact 39 (f := .free "bool") rfl), He.free_ok X G (c.fact 40 (f := .free "tuple") rfl), He.free_ok X G (c.fact 41 (f := .free "max") rfl), He.free_ok X G (c.fact 42 (f := .free "min") rfl), He.free_ok X G (c.fact 43 (f := .free "sum") rfl), He.free_ok X G (c.fact 44 (f := .free "sorted") rfl), He.free_ok X G (c.fact 45 (f := .free "reversed") rfl), He.free_ok X G (c.fact 46 (f := .free "ValueError") rfl)⟩
  have G_MOST_PLACES := He.int_ok X G (c.fact 47 (f := .int "MOST_PLACES" 10) rfl)
  have G_MOST_ROADS := He.int_ok X G (c.fact 48 (f := .int "MOST_ROADS" 40) rfl)
  have G_MOST_SAND := He.int_ok X G (c.fact 49 (f := .int "MOST_SAND" 1000000000) rfl)
  have ZE : Er cls K mg := ⟨cx, fun x hx => by
    simp only [List.mem_cons, List.not_mem_nil, or_false] at hx
    rcases hx with rfl | rfl | rfl | rfl | rfl
    · exact He.glo_ok X G (c.fact 50 (f := .glo "YardError") rfl)
    · exact He.glo_ok X G (c.fact 51 (f := .glo "NoNet") rfl)
    · exact He.glo_ok X G (c.fact 52 (f := .glo "NoHeap") rfl)
    · exact He.glo_ok X G (c.fact 53 (f := .glo "NoTree") rfl)
    · exact He.glo_ok X G (c.fact 54 (f := .glo "NotAgain") rfl)⟩
  have T_law_cell_at : Fn K mg "_law_cell_at" s_law_cell_at _ fd_law_cell_at ["_law_script", "_law_k"] := ⟨F_law_cell_at, He.glo_ok X G (c.fact 0 (f := .glo "_law_cell_at") rfl), FunD.bindsN F_law_cell_at fun _ _ _ _ _ _ us hl => match us, hl with | [_, _], _ => rfl⟩
  have T_law_mixed : Fn K mg "_law_mixed" s_law_mixed _ fd_law_mixed ["_law_cell", "_law_k"] := ⟨F_law_mixed, He.glo_ok X G (c.fact 1 (f := .glo "_law_mixed") rfl), FunD.bindsN F_law_mixed fun _ _ _ _ _ _ us hl => match us, hl with | [_, _], _ => rfl⟩
  have T_law_turned : Fn K mg "_law_turned" s_law_turned _ fd_law_turned ["_law_number", "_law_many", "_law_shift"] := ⟨F_law_turned, He.glo_ok X G (c.fact 2 (f := .glo "_law_turned") rfl), FunD.bindsN F_law_turned fun _ _ _ _ _ _ us hl => match us, hl with | [_, _, _], _ => rfl⟩
  have T_law_net : Fn K mg "_law_net" s_law_net _ fd_law_net ["_law_script", "_law_lines"] := ⟨F_law_net, He.glo_ok X G (c.fact 3 (f := .glo "_law_net") rfl), FunD.bindsN F_law_net fun _ _ _ _ _ _ us hl => match us, hl with | [_, _], _ => rfl⟩
  have T_law_degrees : Fn K mg "_law_degrees" s_law_degrees _ fd_law_degrees ["_law_many", "_law_roads"] := ⟨F_law_degrees, He.glo_ok X G (c.fact 4 (f := .glo "_law_degrees") rfl), FunD.bindsN F_law_degrees fun _ _ _ _ _ _ us hl => match us, hl with | [_, _], _ => rfl⟩
  have T_law_room : Fn K mg "_law_room" s_law_room _ fd_law_room ["_law_many", "_law_roads"] := ⟨F_law_room, He.glo_ok X G (c.fact 5 (f := .glo "_law_room") rfl), FunD.bindsN F_law_room fun _ _ _ _ _ _ us hl => match us, hl with | [_, _], _ => rfl⟩
  have T_law_small : Fn K mg "_law_small" s_law_small _ fd_law_small ["_law_script"] := ⟨F_law_small, He.glo_ok X G (c.fact 6 (f := .glo "_law_small") rfl), FunD.bindsN F_law_small fun _ _ _ _ _ _ us hl => match us, hl with | [_], _ => rfl⟩
  have T_law_heaps : Fn K mg "_law_heaps" s_law_heaps _ fd_law_heaps ["_law_most"] := ⟨F_law_heaps, He.glo_ok X G (c.fact 7 (f := .glo "_law_heaps") rfl), FunD.bindsN F_law_heaps fun _ _ _ _ _ _ us hl => match us, hl with | [_], _ => rfl⟩
  have T_law_again : Fn K mg "_law_again" s_law_again _ fd_law_again ["_law_many", "_law_roads", "_law_heap"] := ⟨F_law_again, He.glo_ok X G (c.fact 8 (f := .glo "_law_again") rfl), FunD.bindsN F_law_again fun _ _ _ _ _ _ us hl => match us, hl with | [_, _, _], _ => rfl⟩
  have T_law_sets : Fn K mg "_law_sets" s_law_sets _ fd_law_sets ["_law_many", "_law_count"] := ⟨F_law_sets, He.glo_ok X G (c.fact 9 (f := .glo "_law_sets") rfl), FunD.bindsN F_law_sets fun _ _ _ _ _ _ us hl => match us, hl with | [_, _], _ => rfl⟩
  have T_law_joined : Fn K mg "_law_joined" s_law_joined _ fd_law_joined ["_law_many", "_law_roads", "_law_tree"] := ⟨F_law_joined, He.glo_ok X G (c.fact 10 (f := .glo "_law_joined") rfl), FunD.bindsN F_law_joined fun _ _ _ _ _ _ us hl => match us, hl with | [_, _, _], _ => rfl⟩
  have T_is_whole : Fn K mg "is_whole" s_is_whole _ fd_is_whole ["thing", "least", "most"] := ⟨F_is_whole, He.glo_ok X G (c.fact 11 (f := .glo "is_whole") rfl), FunD.bindsN F_is_whole fun _ _ _ _ _ _ us hl => match us, hl with | [_, _, _], _ => rfl⟩
  have T_is_road : Fn K mg "is_road" s_is_road _ fd_is_road ["thing", "many"] := ⟨F_is_road, He.glo_ok X G (c.fact 12 (f := .glo "is_road") rfl), FunD.bindsN F_is_road fun _ _ _ _ _ _ us hl => match us, hl with | [_, _], _ => rfl⟩
  have T_beyond : Fn K mg "beyond" s_beyond _ fd_beyond ["road", "here"] := ⟨F_beyond, He.glo_ok X G (c.fact 13 (f := .glo "beyond") rfl), FunD.bindsN F_beyond fun _ _ _ _ _ _ us hl => match us, hl with | [_, _], _ => rfl⟩
  have T_reached : Fn K mg "reached" s_reached _ fd_reached ["many", "roads"] := ⟨F_reached, He.glo_ok X G (c.fact 14 (f := .glo "reached") rfl), FunD.bindsN F_reached fun _ _ _ _ _ _ us hl => match us, hl with | [_, _], _ => rfl⟩
  have T_need_net : Fn K mg "need_net" s_need_net _ fd_need_net ["many", "roads"] := ⟨F_need_net, He.glo_ok X G (c.fact 15 (f := .glo "need_net") rfl), FunD.bindsN F_need_net fun _ _ _ _ _ _ us hl => match us, hl with | [_, _], _ => rfl⟩
  have T_table_of : Fn K mg "table_of" s_table_of _ fd_table_of ["many", "roads"] := ⟨F_table_of, He.glo_ok X G (c.fact 16 (f := .glo "table_of") rfl), FunD.bindsN F_table_of fun _ _ _ _ _ _ us hl => match us, hl with | [_, _], _ => rfl⟩
  have T_how_many : Fn K mg "how_many" s_how_many _ fd_how_many ["many", "roads"] := ⟨F_how_many, He.glo_ok X G (c.fact 17 (f := .glo "how_many") rfl), FunD.bindsN F_how_many fun _ _ _ _ _ _ us hl => match us, hl with | [_, _], _ => rfl⟩
  have T_law_whole : Fn K mg "_law_whole" s_law_whole _ fd_law_whole ["_law_found"] := ⟨F_law_whole, He.glo_ok X G (c.fact 18 (f := .glo "_law_whole") rfl), FunD.bindsN F_law_whole fun _ _ _ _ _ _ us hl => match us, hl with | [_], _ => rfl⟩
  have T_need_heap : Fn K mg "need_heap" s_need_heap _ fd_need_heap ["many", "heap"] := ⟨F_need_heap, He.glo_ok X G (c.fact 19 (f := .glo "need_heap") rfl), FunD.bindsN F_need_heap fun _ _ _ _ _ _ us hl => match us, hl with | [_, _], _ => rfl⟩
  have T_counted : Fn K mg "counted" s_counted _ fd_counted ["many", "roads"] := ⟨F_counted, He.glo_ok X G (c.fact 20 (f := .glo "counted") rfl), FunD.bindsN F_counted fun _ _ _ _ _ _ us hl => match us, hl with | [_, _], _ => rfl⟩
  have T_is_low : Fn K mg "is_low" s_is_low _ fd_is_low ["roads", "heap"] := ⟨F_is_low, He.glo_ok X G (c.fact 21 (f := .glo "is_low") rfl), FunD.bindsN F_is_low fun _ _ _ _ _ _ us hl => match us, hl with | [_, _], _ => rfl⟩
  have T_moved : Fn K mg "moved" s_moved _ fd_moved ["roads", "heap", "place", "times"] := ⟨F_moved, He.glo_ok X G (c.fact 22 (f := .glo "moved") rfl), FunD.bindsN F_moved fun _ _ _ _ _ _ us hl => match us, hl with | [_, _, _, _], _ => rfl⟩
  have T_settle : Fn K mg "settle" s_settle _ fd_settle ["roads", "heap"] := ⟨F_settle, He.glo_ok X G (c.fact 23 (f := .glo "settle") rfl), FunD.bindsN F_settle fun _ _ _ _ _ _ us hl => match us, hl with | [_, _], _ => rfl⟩
  have T_is_again : Fn K mg "is_again" s_is_again _ fd_is_again ["roads", "heap"] := ⟨F_is_again, He.glo_ok X G (c.fact 24 (f := .glo "is_again") rfl), FunD.bindsN F_is_again fun _ _ _ _ _ _ us hl => match us, hl with | [_, _], _ => rfl⟩
  have T_need_again : Fn K mg "need_again" s_need_again _ fd_need_again ["roads", "heap"] := ⟨F_need_again, He.glo_ok X G (c.fact 25 (f := .glo "need_again") rfl), FunD.bindsN F_need_again fun _ _ _ _ _ _ us hl => match us, hl with | [_, _], _ => rfl⟩
  have T_tree_of : Fn K mg "tree_of" s_tree_of _ fd_tree_of ["many", "roads", "heap"] := ⟨F_tree_of, He.glo_ok X G (c.fact 26 (f := .glo "tree_of") rfl), FunD.bindsN F_tree_of fun _ _ _ _ _ _ us hl => match us, hl with | [_, _, _], _ => rfl⟩
  have T_need_tree : Fn K mg "need_tree" s_need_tree _ fd_need_tree ["many", "roads", "tree"] := ⟨F_need_tree, He.glo_ok X G (c.fact 27 (f := .glo "need_tree") rfl), FunD.bindsN F_need_tree fun _ _ _ _ _ _ us hl => match us, hl with | [_, _, _], _ => rfl⟩
  have T_heap_of : Fn K mg "heap_of" s_heap_of _ fd_heap_of ["many", "roads", "tree"] := ⟨F_heap_of, He.glo_ok X G (c.fact 28 (f := .glo "heap_of") rfl), FunD.bindsN F_heap_of fun _ _ _ _ _ _ us hl => match us, hl with | [_, _, _], _ => rfl⟩
  have T_comes_again : Fn K mg "comes_again" s_comes_again _ fd_comes_again ["many", "roads", "heap"] := ⟨F_comes_again, He.glo_ok X G (c.fact 29 (f := .glo "comes_again") rfl), FunD.bindsN F_comes_again fun _ _ _ _ _ _ us hl => match us, hl with | [_, _, _], _ => rfl⟩
  have T_law_table : Fn K mg "_law_table" s_law_table _ fd_law_table ["_law_many", "_law_roads"] := ⟨F_law_table, He.glo_ok X G (c.fact 30 (f := .glo "_law_table") rfl), FunD.bindsN F_law_table fun _ _ _ _ _ _ us hl => match us, hl with | [_, _], _ => rfl⟩
  have T_law_expanded : Fn K mg "_law_expanded" s_law_expanded _ fd_law_expanded ["_law_rows"] := ⟨F_law_expanded, He.glo_ok X G (c.fact 31 (f := .glo "_law_expanded") rfl), FunD.bindsN F_law_expanded fun _ _ _ _ _ _ us hl => match us, hl with | [_], _ => rfl⟩
  have T_law_determinant : Fn K mg "_law_determinant" s_law_determinant _ fd_law_determinant ["_law_rows"] := ⟨F_law_determinant, He.glo_ok X G (c.fact 32 (f := .glo "_law_determinant") rfl), FunD.bindsN F_law_determinant fun _ _ _ _ _ _ us hl => match us, hl with | [_], _ => rfl⟩
  have T_law : Fn K mg "law" s_law _ fd_law ["_law_script"] := ⟨F_law, He.glo_ok X G (c.fact 33 (f := .glo "law") rfl), FunD.bindsN F_law fun _ _ _ _ _ _ us hl => match us, hl with | [_], _ => rfl⟩
  have e := hfa.symm.trans T_law.g
  cases e
  have b := FunD.bindsA (ps := ["_law_script"]) F_law fun _ _ _ _ _ _ us hl => match us, hl with | [_], _ => rfl
  refine ⟨fd_law, fun s v => b s [v] rfl, fun base _ _ => ?_⟩
  have C__law_cell_at := ok_law_cell_at (P := P) (w := w) (base := base) T_law_cell_at B ZE
  have C__law_mixed := ok_law_mixed (P := P) (w := w) (base := base) T_law_mixed B ZE
  have C__law_turned := ok_law_turned (P := P) (w := w) (base := base) T_law_turned B ZE
  have C__law_net := ok_law_net (P := P) (w := w) (base := base) T_law_net B ZE C__law_cell_at C__law_mixed C__law_turned
  have C__law_degrees := ok_law_degrees (P := P) (w := w) (base := base) T_law_degrees B ZE
  have C__law_room := ok_law_room (P := P) (w := w) (base := base) T_law_room B ZE C__law_degrees
  have C__law_small := ok_law_small (P := P) (w := w) (base := base) T_law_small B ZE C__law_cell_at C__law_net C__law_room
  have C__law_heaps := ok_law_heaps (P := P) (w := w) (base := base) T_law_heaps B ZE
  have C__law_again := ok_law_again (P := P) (w := w) (base := base) T_law_again B ZE C__law_degrees
  have C__law_sets := ok_law_sets (P := P) (w := w) (base := base) T_law_sets B ZE
  have C__law_joined := ok_law_joined (P := P) (w := w) (base := base) T_law_joined B ZE
  have C_is_whole := ok_is_whole (P := P) (w := w) (base := base) T_is_whole B ZE
  have C_is_road := ok_is_road (P := P) (w := w) (base := base) T_is_road B ZE C_is_whole
  have C_beyond := ok_beyond (P := P) (w := w) (base := base) T_beyond B ZE
  have C_reached := ok_reached (P := P) (w := w) (base := base) T_reached B ZE C_beyond
  have C_need_net := ok_need_net (P := P) (w := w) (base := base) T_need_net B ZE C_is_whole C_is_road C_reached G_MOST_PLACES G_MOST_ROADS
  have C_table_of := ok_table_of (P := P) (w := w) (base := base) T_table_of B ZE
  have C_how_many := ok_how_many (P := P) (w := w) (base := base) T_how_many B ZE C_need_net C_table_of
  have C__law_whole := ok_law_whole (P := P) (w := w) (base := base) T_law_whole B ZE
  have C_need_heap := ok_need_heap (P := P) (w := w) (base := base) T_need_heap B ZE C_is_whole G_MOST_SAND
  have C_counted := ok_counted (P := P) (w := w) (base := base) T_counted B ZE
  have C_is_low := ok_is_low (P := P) (w := w) (base := base) T_is_low B ZE C_counted
  have C_moved := ok_moved (P := P) (w := w) (base := base) T_moved B ZE C_beyond
  have C_settle := ok_settle (P := P) (w := w) (base := base) T_settle B ZE C_counted C_moved
  have C_is_again := ok_is_again (P := P) (w := w) (base := base) T_is_again B ZE C_is_low C_settle
  have C_need_again := ok_need_again (P := P) (w := w) (base := base) T_need_again B ZE C_is_again
  have C_tree_of := ok_tree_of (P := P) (w := w) (base := base) T_tree_of B ZE C_need_net C_need_heap C_need_again C_counted C_beyond
  have C_need_tree := ok_need_tree (P := P) (w := w) (base := base) T_need_tree B ZE C_is_whole C_reached
  have C_heap_of := ok_heap_of (P := P) (w := w) (base := base) T_heap_of B ZE C_need_net C_need_tree C_counted C_beyond
  have C_comes_again := ok_comes_again (P := P) (w := w) (base := base) T_comes_again B ZE C_need_net C_need_heap C_is_again
  have C__law_table := ok_law_table (P := P) (w := w) (base := base) T_law_table B ZE
  have CR0 : Cal P w K mg base CX0 0 "_law_expanded" ["_law_rows"] (sp_law_expanded 0 K) := T_law_expanded.cal ⟨fun _ _ _ _ h => h.elim, fun _ _ _ _ _ _ _ _ _ _ _ _ _ h => h.elim⟩
  have CR1 := ok_law_expanded (P := P) (w := w) (base := base) T_law_expanded B ZE CR0
  have CR2 := ok_law_expanded (P := P) (w := w) (base := base) T_law_expanded B ZE CR1
  have CR3 := ok_law_expanded (P := P) (w := w) (base := base) T_law_expanded B ZE CR2
  have CR4 := ok_law_expanded (P := P) (w := w) (base := base) T_law_expanded B ZE CR3
  have C__law_expanded := ok_law_expanded (P := P) (w := w) (base := base) T_law_expanded B ZE CR4
  have C__law_determinant := ok_law_determinant (P := P) (w := w) (base := base) T_law_determinant B ZE C__law_expanded
  exact ok_law T_law B ZE C__law_small C__law_degrees C__law_heaps C__law_again C__law_sets C__law_joined C_how_many C__law_whole C_tree_of C_heap_of C__law_cell_at C__law_room C_comes_again C__law_net C__law_table C__law_determinant
end K12
open PySem PySem.W PySem.Calls PyProof.Rows
set_option maxRecDepth 100000 in
set_option maxHeartbeats 8000000 in
theorem PySem.Challenge.cw_toppleyard_k12_whole_as_many_holds : PySem.Challenge.rw_toppleyard_k12_whole_as_many.Holds := by
  w_on; o_law
  refine HandSHeadRun.head_any (r := OpenLaw.row PySem.Challenge.rw_toppleyard_k12_whole_as_many) (q := view (OpenLaw.row PySem.Challenge.rw_toppleyard_k12_whole_as_many).prog [47]) (H := K12.hk) (ob := K12.ob) (M := 6000) (loose := K12.loose) (d := HandSHeadRun.topDef (OpenLaw.row PySem.Challenge.rw_toppleyard_k12_whole_as_many).prog 47) (kwd := []) K12.ob_eq
    (by kernel_rfl) (fun s => by kernel_rfl) K12.run (by kernel_rfl) (by kernel_rfl) (by kernel_rfl) (by rfl) (by first | assumption | decide +kernel) (by decide +kernel) ⟨rfl, rfl, rfl, rfl, rfl, by decide +kernel⟩ ?hw ?hc
  case hw => w_witness2
  case hc =>
    refine L2.walk_ofE (l := PySem.Challenge.rw_toppleyard_k12_whole_as_many) (n := 63) (k := 7) (x := "_law_script") (CX := L2.CX0) rfl (by decide) (by kernel_rfl) ⟨rfl, by decide, by decide⟩ ?F (fun _ _ _ _ z => z)
    intro w mg fa h Y G hmg0
    obtain ⟨K, KX, c, cx⟩ := Y
    have hmg : mg ("law" : PySem.Str) = some (.ref fa) := by
      have e : (HandSHeadRun.topDef (OpenLaw.row PySem.Challenge.rw_toppleyard_k12_whole_as_many).prog 47).name = ("law" : PySem.Str) := by kernel_rfl
      rw [← e]
      exact hmg0
    obtain ⟨fd, hb, hF⟩ := K12.facts (P := (PySem.Challenge.rw_toppleyard_k12_whole_as_many).prog) (w := w) KX G hmg c cx
    exact ⟨K, fd, Sd.sp_law K, KX, hb, fun H a ns hl _ hS => ⟨a, ns, rfl, hS, hl, fun _ => rfl⟩, hF⟩
