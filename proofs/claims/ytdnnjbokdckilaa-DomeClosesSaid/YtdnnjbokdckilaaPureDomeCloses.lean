/- From any state, a dome that is to be closed is closed after CloseSteps steps; one that is to be open is open after OpenSteps steps. The conditions are those of the row alone: the list of raw numbers takes at most 2^47 - 4096 bytes, and each number is an int. -/
import Derived.Test.YtdnnjbokdckilaaPDomeClosesx7
set_option linter.unusedVariables false
set_option linter.unusedSimpArgs false
namespace Go.Proofs.Ytdnnjbokdckilaa.Pure
open Go.RowKit Go.Proofs.Ytdnnjbokdckilaa.PDomeCloses Go.Proofs.YtdnnjbokdckilaaW.PrintWords Go.Proofs.YtdnnjbokdckilaaW.PrintLast Go.Proofs.YtdnnjbokdckilaaW.PrintMore

/-- With enough rounds g comes to a value that meets Q. -/
def Y {α : Type} (g : Nat → Option α) (Q : α → Prop) : Prop := ∃ r, Ev g r ∧ Q r
theorem Y.now {α : Type} {r : α} {Q : α → Prop} (h : Q r) : Y (fun _ => some r) Q := ⟨r, Ev.now r, h⟩
theorem Y.bind {α β : Type} {g : Nat → Option α} {f : Nat → α → Option β} {Q : β → Prop} (P : α → Prop) (h : Y g P) (k : ∀ a, P a → Y (fun n => f n a) Q) : Y (fun n => (g n).bind (f n)) Q := by
  obtain ⟨a, ha, hp⟩ := h
  obtain ⟨r, hr, hq⟩ := k a hp
  exact ⟨r, Ev.bind ha hr, hq⟩
theorem Y.bindE {α β : Type} {g : Nat → Option α} {f : Nat → α → Option β} {Q : β → Prop} {a : α} (h : Ev g a) (k : Y (fun n => f n a) Q) : Y (fun n => (g n).bind (f n)) Q := by
  obtain ⟨r, hr, hq⟩ := k
  exact ⟨r, Ev.bind h hr, hq⟩
theorem Y.bindS {α β : Type} {x : Option α} {f : Nat → α → Option β} {Q : β → Prop} {a : α} (h : x = some a) (k : Y (fun n => f n a) Q) : Y (fun n => x.bind (f n)) Q := by
  subst h
  exact k
theorem Y.pos {α : Type} {c : Prop} [Decidable c] {a b : Nat → Option α} {Q : α → Prop} (hc : c) (h : Y a Q) : Y (fun n => if c then a n else b n) Q := by
  simpa only [if_pos hc] using h
theorem Y.neg {α : Type} {c : Prop} [Decidable c] {a b : Nat → Option α} {Q : α → Prop} (hc : ¬ c) (h : Y b Q) : Y (fun n => if c then a n else b n) Q := by
  simpa only [if_neg hc] using h
theorem Y.ite {α : Type} {c : Prop} [Decidable c] {a b : Nat → Option α} {Q : α → Prop} (h : c → Y a Q) (k : ¬ c → Y b Q) : Y (fun n => if c then a n else b n) Q := by
  by_cases hc : c
  · exact Y.pos hc (h hc)
  · exact Y.neg hc (k hc)
theorem Y.step {α : Type} {g f : Nat → Option α} {Q : α → Prop} (h : ∀ k, g (k + 1) = f k) (k : Y f Q) : Y g Q := by
  obtain ⟨r, hr, hq⟩ := k
  exact ⟨r, Ev.step h hr, hq⟩
theorem Y.congr {α : Type} {g f : Nat → Option α} {Q : α → Prop} (h : ∀ k, g k = f k) (k : Y f Q) : Y g Q := by
  obtain ⟨r, hr, hq⟩ := k
  exact ⟨r, Ev.congr h hr, hq⟩
theorem Y.mono {α : Type} {g : Nat → Option α} {P Q : α → Prop} (h : Y g P) (k : ∀ r, P r → Q r) : Y g Q := by
  obtain ⟨r, hr, hq⟩ := h
  exact ⟨r, hr, k r hq⟩
theorem Y.is {α : Type} {g : Nat → Option α} {a : α} (h : Y g (fun r => r = a)) : Ev g a := by
  obtain ⟨r, hr, rfl⟩ := h
  exact hr
theorem Y.rounds {α : Type} {g : Nat → Option α} {a : α} (h : Y g (fun r => r = a)) : ∃ k, g k = some a := (Y.is h).rounds
theorem Y.ev {α : Type} {g : Nat → Option α} {a : α} {Q : α → Prop} (h : Ev g a) (q : Q a) : Y g Q := ⟨a, h, q⟩
theorem Y.S {α : Type} {x : Option α} {a : α} {Q : α → Prop} (h : x = some a) (q : Q a) : Y (fun _ => x) Q := by
  subst h
  exact Y.now q
/-- An int that fits is as it is. -/
theorem w64 {x : Int} (h0 : -9223372036854775808 ≤ x) (h1 : x ≤ 9223372036854775807) : wrap64 x = x := by
  unfold wrap64
  omega
theorem w64_range (x : Int) : -9223372036854775808 ≤ wrap64 x ∧ wrap64 x ≤ 9223372036854775807 := by
  unfold wrap64
  omega
theorem mx_max (a b : Int) : mx a b = max a b := by
  unfold mx
  split <;> omega
theorem mn_min (a b : Int) : mn a b = min a b := by
  unfold mn
  split <;> omega
theorem tmod_neg_add {x n : Int} (hn : 1 ≤ n) (h : Int.tmod x n < 0) : Int.tmod x n + n = x % n := by
  have h1 : Int.tmod x n = x % n - (if 0 ≤ x ∨ n ∣ x then 0 else Int.natAbs n : Nat) := Int.tmod_eq_emod
  have h2 := Int.emod_nonneg x (b := n) (by omega)
  have h3 : (n.natAbs : Int) = n := by omega
  rw [h1] at h ⊢
  split at h
  · exact absurd h (by omega)
  · rename_i h4
    rw [if_neg h4]
    omega
theorem tmod_of_nonneg {x n : Int} (hn : 1 ≤ n) (h : ¬ Int.tmod x n < 0) : Int.tmod x n = x % n := by
  have h1 : Int.tmod x n = x % n - (if 0 ≤ x ∨ n ∣ x then 0 else Int.natAbs n : Nat) := Int.tmod_eq_emod
  have h2 := Int.emod_lt_of_pos x (b := n) (by omega)
  have h3 : (n.natAbs : Int) = n := by omega
  rw [h1] at h ⊢
  split at h
  · rename_i h4
    rw [if_pos h4]
    omega
  · exact absurd (by omega) h
/-- Below reduces. -/
theorem below_spec (x n : Int) (h1 : 1 ≤ n) (h2 : n ≤ 4611686018427387904) : spymake_Below.f x n = some (x % n) := by
  unfold spymake_Below.f
  rw [if_neg (by omega), if_neg (by omega)]
  by_cases c : Int.tmod x n < 0
  · rw [if_pos c, tmod_neg_add h1 c, w64 (by have := Int.emod_nonneg x (b := n) (by omega); omega) (by have := Int.emod_lt_of_pos x (b := n) (by omega); omega)]
  · rw [if_neg c, tmod_of_nonneg h1 c]
theorem below_range (x n : Int) (h1 : 1 ≤ n) : 0 ≤ x % n ∧ x % n < n := ⟨Int.emod_nonneg x (by omega), Int.emod_lt_of_pos x (by omega)⟩
/-- Next gives a number below n, and counts. -/
theorem next_spec (L : List Int) (at_ n : Int) (ha : 0 ≤ at_) (hb : at_ ≤ 4611686018427387904) (h1 : 1 ≤ n) (h2 : n ≤ 4611686018427387904) :
    ∃ r, spymake_Stream_Next.f L at_ n = some (r, at_ + 1) ∧ 0 ≤ r ∧ r < n := by
  unfold spymake_Stream_Next.f
  rw [w64 (x := at_ + 1) (by omega) (by omega), w64 (x := at_ + 1 - 1) (by omega) (by omega)]
  by_cases c : (L.length : Int) = 0
  · rw [if_pos c, below_spec _ _ h1 h2]
    exact ⟨_, rfl, below_range _ _ h1⟩
  · rw [if_neg c, show at_ + 1 - 1 = at_ by omega]
    have e : Int.tmod at_ (L.length : Int) = at_ % (L.length : Int) := Int.tmod_eq_emod_of_nonneg ha
    have e1 := Int.emod_nonneg at_ (b := (L.length : Int)) c
    have e2 := Int.emod_lt_of_pos at_ (b := (L.length : Int)) (by omega)
    rw [e, if_pos e1, if_pos e2, below_spec _ 1073741824 (by omega) (by omega)]
    simp only [Option.bind_some]
    rw [below_spec _ _ h1 h2]
    exact ⟨_, rfl, below_range _ _ h1⟩
theorem Y.next {β : Type} {f : Nat → Int × Int → Option β} {Q : β → Prop} (L : List Int) (at_ n : Int) (ha : 0 ≤ at_) (hb : at_ ≤ 4611686018427387904) (h1 : 1 ≤ n) (h2 : n ≤ 4611686018427387904)
    (k : ∀ r, 0 ≤ r → r < n → Y (fun m => f m (r, at_ + 1)) Q) : Y (fun m => (spymake_Stream_Next.f L at_ n).bind (f m)) Q := by
  obtain ⟨r, hr, h3, h4⟩ := next_spec L at_ n ha hb h1 h2
  exact Y.bindS hr (k r h3 h4)
/-- v, and what it takes to brake behind it: v + (v - a) + (v - 2a) + .. -/
def bk (a : Int) : Nat → Int → Int
  | 0, _ => 0
  | n + 1, v => if 0 < v then v + bk a n (v - a) else 0
/-- 0 + 1 + .. + (k - 1). -/
def tri : Nat → Int
  | 0 => 0
  | k + 1 => tri k + k
theorem tri_eq (k : Nat) : tri k = (k : Int) * ((k : Int) - 1) / 2 := by
  have h : 2 * tri k = (k : Int) * ((k : Int) - 1) := by
    induction k with
    | zero => rfl
    | succ k ih =>
      have : tri (k + 1) = tri k + k := rfl
      rw [this, Int.mul_add, ih]
      have : ((k + 1 : Nat) : Int) = (k : Int) + 1 := by omega
      rw [this]
      grind
  omega
theorem bk_nonneg (a : Int) (n : Nat) : ∀ v, 0 ≤ bk a n v := by
  induction n with
  | zero => intro v; exact Int.le_refl 0
  | succ n ih =>
    intro v
    have := ih (v - a)
    unfold bk
    split <;> omega
theorem bk_neg (a : Int) (n : Nat) (v : Int) (h : v ≤ 0) : bk a n v = 0 := by
  cases n with
  | zero => rfl
  | succ n =>
    unfold bk
    rw [if_neg (by omega)]
theorem bk_mono (a : Int) (n : Nat) : ∀ v u, v ≤ u → bk a n v ≤ bk a n u := by
  induction n with
  | zero => intro v u _; exact Int.le_refl 0
  | succ n ih =>
    intro v u h
    have h1 := ih (v - a) (u - a) (by omega)
    have h2 := bk_nonneg a n (u - a)
    unfold bk
    split <;> split <;> omega
theorem bk_strict (a : Int) (n : Nat) (v u : Int) (h0 : 0 ≤ v) (h : v < u) : bk a (n + 1) v + (u - v) ≤ bk a (n + 1) u := by
  have h1 := bk_mono a n (v - a) (u - a) (by omega)
  have h2 := bk_nonneg a n (u - a)
  unfold bk
  split <;> split <;> omega
/-- More terms than there are change nothing. -/
theorem bk_more (a : Int) (n : Nat) : ∀ v, v ≤ n * a → bk a (n + 1) v = bk a n v := by
  induction n with
  | zero =>
    intro v h
    rw [bk_neg a 1 v (by omega), bk_neg a 0 v (by omega)]
  | succ n ih =>
    intro v h
    have e : ((n + 1 : Nat) : Int) * a = n * a + a := by
      have : ((n + 1 : Nat) : Int) = (n : Int) + 1 := by omega
      rw [this, Int.add_mul]
      omega
    have := ih (v - a) (by omega)
    show (if 0 < v then v + bk a (n + 1) (v - a) else 0) = (if 0 < v then v + bk a n (v - a) else 0)
    rw [this]
/-- What it takes to stop: v + (v - a) + .. -/
def brk (a v : Int) : Int := bk a 70 v
theorem brk_nonneg (a v : Int) : 0 ≤ brk a v := bk_nonneg a 70 v
theorem brk_neg (a v : Int) (h : v ≤ 0) : brk a v = 0 := bk_neg a 70 v h
theorem brk_mono (a v u : Int) (h : v ≤ u) : brk a v ≤ brk a u := bk_mono a 70 v u h
theorem brk_strict (a v u : Int) (h0 : 0 ≤ v) (h : v < u) : brk a v + (u - v) ≤ brk a u := bk_strict a 69 v u h0 h
theorem brk_step (a v : Int) (h : 0 < v) (h2 : v ≤ 70 * a) : brk a v = v + brk a (v - a) := by
  have h1 : bk a 70 v = v + bk a 69 (v - a) := by
    show (if 0 < v then v + bk a 69 (v - a) else 0) = _
    rw [if_pos h]
  have h3 := bk_more a 69 (v - a) (by omega)
  unfold brk
  rw [h1, ← h3]
theorem brk_ge (a v : Int) : v ≤ brk a v := by
  have h1 : bk a 70 v = if 0 < v then v + bk a 69 (v - a) else 0 := rfl
  have := bk_nonneg a 69 (v - a)
  unfold brk
  rw [h1]
  split <;> omega
/-- Of v between (k - 1) a and k a it takes k steps. -/
theorem bk_eq (a : Int) (n : Nat) : ∀ (k : Nat) (v : Int), k ≤ n → ((k : Int) - 1) * a ≤ v → v ≤ k * a → 0 ≤ v → bk a n v = k * v - a * tri k := by
  induction n with
  | zero =>
    intro k v hk h1 h2 h0
    have : k = 0 := by omega
    subst this
    show (0 : Int) = ((0 : Nat) : Int) * v - a * 0
    simp
  | succ n ih =>
    intro k v hk h1 h2 h0
    cases k with
    | zero =>
      have : v ≤ 0 := by simpa using h2
      rw [bk_neg a (n + 1) v this]
      show (0 : Int) = ((0 : Nat) : Int) * v - a * 0
      simp
    | succ k =>
      have e : ((k + 1 : Nat) : Int) = (k : Int) + 1 := by omega
      rw [e] at h1 h2 ⊢
      have e1 : ((k : Int) + 1 - 1) * a = k * a := by rw [show (k : Int) + 1 - 1 = k by omega]
      have e2 : ((k : Int) + 1) * a = k * a + a := by rw [Int.add_mul]; omega
      have et : tri (k + 1) = tri k + k := rfl
      rw [e1] at h1
      rw [e2] at h2
      by_cases c : 0 < v
      · have e3 : bk a (n + 1) v = v + bk a n (v - a) := by
          show (if 0 < v then v + bk a n (v - a) else 0) = _
          rw [if_pos c]
        by_cases c2 : 0 ≤ v - a
        · have := ih k (v - a) (by omega) (by rw [Int.sub_mul]; omega) (by omega) c2
          rw [e3, this, et]
          grind
        · rw [e3, bk_neg a n (v - a) (by omega)]
          -- v < a: one step
          cases k with
          | zero =>
            show v + 0 = ((0 : Nat) + 1 : Int) * v - a * (tri 0 + (0 : Nat))
            have : tri 0 = 0 := rfl
            rw [this]
            simp
          | succ k =>
            have e4 : ((k + 1 : Nat) : Int) = (k : Int) + 1 := by omega
            rw [e4, Int.add_mul] at h1
            have : 0 ≤ (k : Int) * a := by
              by_cases ha : 0 ≤ a
              · exact Int.mul_nonneg (by omega) ha
              · omega
            omega
      · have hv : v = 0 := by omega
        subst hv
        rw [bk_neg a (n + 1) 0 (by omega), et]
        -- k a ≤ 0
        cases k with
        | zero => simp [show tri 0 = 0 from rfl]
        | succ k =>
          have e4 : ((k + 1 : Nat) : Int) = (k : Int) + 1 := by omega
          rw [e4, Int.add_mul] at h1 h2
          have ha : a = 0 := by
            by_cases ha : 0 ≤ a
            · have : 0 ≤ (k : Int) * a := Int.mul_nonneg (by omega) ha
              omega
            · have : (k : Int) * a ≤ 0 := Int.mul_nonpos_of_nonneg_of_nonpos (by omega) (by omega)
              omega
          subst ha
          simp
theorem brk_eq (a : Int) (k : Nat) (v : Int) (hk : k ≤ 70) (h1 : ((k : Int) - 1) * a ≤ v) (h2 : v ≤ k * a) (h0 : 0 ≤ v) : brk a v = k * v - a * tri k := bk_eq a 70 k v hk h1 h2 h0
/-- An axis whose numbers are in order. -/
def AxOk (lo hi S a : Int) : Prop := -17179869184 ≤ lo ∧ hi ≤ 17179869184 ∧ lo ≤ hi ∧ 16777216 ≤ S ∧ S ≤ 1073741824 ∧ 1 ≤ a ∧ a ≤ S ∧ S ≤ a * 64
/-- F is the greatest speed with which the axis can stop within d. -/
def Fast (S a d F : Int) : Prop := 0 ≤ F ∧ F ≤ S ∧ brk a F ≤ d ∧ (F = S ∨ d < brk a (F + 1))
theorem Fast.le {S a d F v : Int} (h : Fast S a d F) (h0 : v ≤ S) (h1 : brk a v ≤ d) : v ≤ F := by
  obtain ⟨f0, f1, f2, f3⟩ := h
  rcases f3 with f3 | f3
  · omega
  · by_cases c : v ≤ F
    · exact c
    · have := brk_mono a (F + 1) v (by omega)
      omega
theorem Fast.uniq {S a d F G : Int} (h : Fast S a d F) (k : Fast S a d G) : F = G := by
  have h1 := h.le k.2.1 k.2.2.1
  have h2 := k.le h.2.1 h.2.2.1
  omega
theorem Fast.pos {S a d F : Int} (h : Fast S a d F) (hS : 1 ≤ S) (ha : 1 ≤ a) (hd : 1 ≤ d) : 1 ≤ F := by
  refine h.le hS ?_
  rw [brk_step a 1 (by omega) (by omega), brk_neg a (1 - a) (by omega)]
  omega
theorem tdiv_nn {a b : Int} (h : 0 ≤ a) : Int.tdiv a b = a / b := Int.tdiv_eq_ediv_of_nonneg h
theorem check_axis (lo hi S a : Int) (h : AxOk lo hi S a) : Ev (fun k => slew_CheckAxis.f k lo hi S a) 0 := by
  obtain ⟨h0, h1, h2, h3, h4, h5, h6, h7⟩ := h
  apply Y.is
  unfold slew_CheckAxis.f
  refine Y.neg (by omega) (Y.step (fun k => slew_CheckAxis.j0.eq_2 _ _ _ _ _ _) ?_)
  rw [w64 (x := a * 64) (by omega) (by omega)]
  exact Y.neg (by simp; omega) (Y.neg (by omega) (Y.neg (by omega) (Y.neg (by omega) (Y.neg (by omega) (Y.neg (by omega) (Y.neg (by omega) (Y.now rfl)))))))
theorem in_spec (lo hi S a p : Int) (h0 : lo ≤ p) (h1 : p ≤ hi) : slew_In.f lo hi S a p = some true := by
  unfold slew_In.f
  rw [if_pos h0, decide_eq_true h1]
/-- The bounds on a's multiples, for k up to 70. -/
theorem mul_bd (k : Nat) (a : Int) (hk : k ≤ 70) (h0 : 1 ≤ a) (h1 : a ≤ 1073741824) : 0 ≤ a * tri k ∧ a * tri k ≤ 2687575785472 ∧ 0 ≤ tri k ∧ tri k ≤ 2503 := by
  have ht : 0 ≤ tri k ∧ tri k ≤ 2503 := by
    have h := tri_eq k
    have hk' : (k : Int) ≤ 70 := by omega
    have h2 : (k : Int) * ((k : Int) - 1) ≤ 70 * 70 := by
      by_cases c : k = 0
      · subst c
        decide
      · exact Int.mul_le_mul hk' (by omega) (by omega) (by omega)
    have h3 : 0 ≤ (k : Int) * ((k : Int) - 1) := by
      by_cases c : k = 0
      · subst c
        decide
      · exact Int.mul_nonneg (by omega) (by omega)
    omega
  have h2 : a * tri k ≤ 1073741824 * 2503 := Int.mul_le_mul h1 ht.2 ht.1 (by omega)
  have h3 : 0 ≤ a * tri k := Int.mul_nonneg (by omega) ht.1
  exact ⟨h3, by omega, ht⟩
theorem fastest_loop (lo hi S a d : Int) (h : AxOk lo hi S a) (hd0 : 0 ≤ d) (hd1 : d ≤ 1099511627776) (m : Nat) : ∀ (k : Nat), k + m = 65 → 1 ≤ k → a * tri k < d ∨ k = 1 →
    Y (fun n => slew_fastest.l0 n d (k : Int) lo hi S a) (Fast S a d) := by
  obtain ⟨h0, h1, h2, h3, h4, h5, h6, h7⟩ := h
  induction m with
  | zero =>
    intro k hk hk1 hlt
    have ek : k = 65 := by omega
    subst ek
    refine Y.step (fun n => slew_fastest.l0.eq_2 _ _ _ _ _ _ _) ?_
    refine Y.neg (by decide) (Y.now ⟨by omega, Int.le_refl S, ?_, .inl rfl⟩)
    have e := brk_eq a 64 (64 * a) (by decide) (by omega) (by omega) (by omega)
    have em := brk_mono a S (64 * a) (by omega)
    have e65 : tri 65 = 2080 := by decide
    have e64 : tri 64 = 2016 := by decide
    rw [e65] at hlt
    rw [e64] at e
    omega
  | succ m ih =>
    intro k hk hk1 hlt
    have b0 := mul_bd k a (by omega) h5 (by omega)
    have b1 := mul_bd (k + 1) a (by omega) h5 (by omega)
    have et := tri_eq k
    have et1 := tri_eq (k + 1)
    have ec : ((k + 1 : Nat) : Int) = (k : Int) + 1 := by omega
    have p0 : 0 ≤ (k : Int) * ((k : Int) + 1) ∧ (k : Int) * ((k : Int) + 1) ≤ 70 * 70 := ⟨Int.mul_nonneg (by omega) (by omega), Int.mul_le_mul (by omega) (by omega) (by omega) (by omega)⟩
    have p1 : 0 ≤ (k : Int) * ((k : Int) - 1) ∧ (k : Int) * ((k : Int) - 1) ≤ 70 * 70 := ⟨Int.mul_nonneg (by omega) (by omega), Int.mul_le_mul (by omega) (by omega) (by omega) (by omega)⟩
    rw [ec, show (k : Int) + 1 - 1 = k by omega, Int.mul_comm ((k : Int) + 1) k] at et1
    refine Y.step (fun n => slew_fastest.l0.eq_2 _ _ _ _ _ _ _) ?_
    rw [w64 (x := (k : Int) + 1) (by omega) (by omega), w64 (x := (k : Int) - 1) (by omega) (by omega), w64 (x := (k : Int) * ((k : Int) + 1)) (by omega) (by omega), w64 (x := (k : Int) * ((k : Int) - 1)) (by omega) (by omega), tdiv_nn p0.1, tdiv_nn p1.1, ← et, ← et1,
      w64 (x := tri k) (by omega) (by omega), w64 (x := tri (k + 1)) (by omega) (by omega), w64 (x := a * tri k) (by omega) (by omega), w64 (x := a * tri (k + 1)) (by omega) (by omega), w64 (x := d + a * tri k) (by omega) (by omega), tdiv_nn (a := d + a * tri k) (by omega)]
    refine Y.pos (by omega) (Y.ite (fun c => ?_) (fun c => ?_))
    · have q0 : 0 ≤ (d + a * tri k) / (k : Int) := Int.ediv_nonneg (by omega) (by omega)
      have q1 : (d + a * tri k) / (k : Int) * (k : Int) ≤ d + a * tri k := Int.ediv_mul_le _ (by omega)
      have q2 : d + a * tri k < ((d + a * tri k) / (k : Int) + 1) * (k : Int) := by
        have := Int.lt_ediv_add_one_mul_self (d + a * tri k) (b := (k : Int)) (by omega)
        exact this
      have q3 : (d + a * tri k) / (k : Int) ≤ d + a * tri k := Int.ediv_le_self _ (by omega)
      rw [w64 (x := (d + a * tri k) / (k : Int)) (by omega) (by omega)]
      refine Y.neg (by omega) (Y.now ?_)
      rw [mn_min]
      generalize (d + a * tri k) / (k : Int) = q at q0 q1 q2 q3 ⊢
      have etk : tri (k + 1) = tri k + k := rfl
      have ea : a * tri (k + 1) = a * tri k + a * k := by rw [etk, Int.mul_add]
      have e2 : 2 * tri k = (k : Int) * ((k : Int) - 1) := by
        have : (k : Int) * ((k : Int) - 1) % 2 = 0 := by
          have h2 : (k : Int) % 2 = 0 ∨ (k : Int) % 2 = 1 := by omega
          rcases h2 with h2 | h2
          · rw [Int.mul_emod, h2]
            simp
          · rw [Int.mul_emod, show ((k : Int) - 1) % 2 = 0 by omega]
            simp
        omega
      have e2a : 2 * (a * tri k) = a * (k * ((k : Int) - 1)) := by rw [← e2]; grind
      -- q lies between (k - 1) a and k a
      have hqk : q * k = (k : Int) * q := Int.mul_comm _ _
      have r1 : q ≤ k * a := by
        have : (k : Int) * q ≤ k * (k * a) := by
          have : (k : Int) * (k * a) = 2 * (a * tri k) + a * k := by rw [e2a]; grind
          omega
        exact Int.le_of_mul_le_mul_left this (by omega)
      have r0 : ((k : Int) - 1) * a ≤ q := by
        by_cases c1 : k = 1
        · subst c1
          simpa using q0
        · have hlt' : a * tri k < d := by omega
          have : (k : Int) * (((k : Int) - 1) * a) < k * (q + 1) := by
            have e5 : (k : Int) * (((k : Int) - 1) * a) = 2 * (a * tri k) := by rw [e2a]; grind
            have e6 : (q + 1) * k = (k : Int) * (q + 1) := Int.mul_comm _ _
            omega
          have := Int.lt_of_mul_lt_mul_left this (by omega)
          omega
      have eb := brk_eq a k q (by omega) r0 r1 q0
      have hbq : brk a q ≤ d := by omega
      have hbq1 : d < brk a (q + 1) := by
        by_cases c2 : q + 1 ≤ k * a
        · have eb1 := brk_eq a k (q + 1) (by omega) (by omega) c2 (by omega)
          have e6 : (q + 1) * k = (k : Int) * (q + 1) := Int.mul_comm _ _
          omega
        · have eq : q = k * a := by omega
          have eb1 := brk_eq a (k + 1) (q + 1) (by omega) (by rw [ec, show (k : Int) + 1 - 1 = k by omega]; omega) (by rw [ec, Int.add_mul]; omega) (by omega)
          rw [ec, ea] at eb1
          have e7 : ((k : Int) + 1) * (q + 1) = k * q + q + k + 1 := by grind
          have e8 : a * (k : Int) = q := by rw [eq]; exact Int.mul_comm _ _
          have e9 : (k : Int) * q = 2 * (a * tri k) + a * k := by rw [e2a, eq]; grind
          rw [e7] at eb1
          omega
      by_cases c3 : S ≤ q
      · rw [Int.min_eq_left c3]
        exact ⟨by omega, Int.le_refl S, by have := brk_mono a S q c3; omega, .inl rfl⟩
      · rw [Int.min_eq_right (by omega)]
        exact ⟨q0, by omega, hbq, .inr hbq1⟩
    · rw [← ec]
      exact ih (k + 1) (by omega) (by omega) (.inl (by omega))
theorem fastest_spec (lo hi S a d : Int) (h : AxOk lo hi S a) (hd0 : 0 ≤ d) (hd1 : d ≤ 1099511627776) : Y (fun n => slew_fastest.f n lo hi S a d) (Fast S a d) :=
  fastest_loop lo hi S a d h hd0 hd1 64 1 (by omega) (by omega) (.inr rfl)
theorem bk_le (a : Int) (ha : 0 ≤ a) (n : Nat) : ∀ v, 0 ≤ v → bk a n v ≤ n * v := by
  induction n with
  | zero =>
    intro v hv
    show (0 : Int) ≤ ((0 : Nat) : Int) * v
    simp
  | succ n ih =>
    intro v hv
    have e : ((n + 1 : Nat) : Int) * v = n * v + v := by
      have : ((n + 1 : Nat) : Int) = (n : Int) + 1 := by omega
      rw [this, Int.add_mul]
      omega
    have hn : 0 ≤ (n : Int) * v := Int.mul_nonneg (by omega) hv
    unfold bk
    split
    · by_cases c : 0 ≤ v - a
      · have h1 := ih (v - a) c
        have h2 : (n : Int) * (v - a) ≤ n * v := Int.mul_le_mul_of_nonneg_left (by omega) (by omega)
        omega
      · rw [bk_neg a n (v - a) (by omega)]
        omega
    · omega
theorem brk_bd (lo hi S a v : Int) (h : AxOk lo hi S a) (h1 : v ≤ S) : 0 ≤ brk a v ∧ brk a v ≤ 75161927680 := by
  obtain ⟨g0, g1, g2, g3, g4, g5, g6, g7⟩ := h
  have h2 := bk_le a (by omega) 70 S (by omega)
  have h3 := brk_mono a v S h1
  have h4 := brk_nonneg a v
  unfold brk at *
  omega
theorem axstop_loop (lo hi S a : Int) (h0 : 1 ≤ a) (h1 : a ≤ 1073741824) (n : Nat) : ∀ (v sum : Int), v ≤ n * a → n ≤ 70 → v ≤ 1073741825 → -1073741824 ≤ v → 0 ≤ sum → sum ≤ (70 - n) * 1073741825 →
    Ev (fun k => axis_Stop.l0 k v sum lo hi S a) (sum + bk a n v) := by
  induction n with
  | zero =>
    intro v sum hv hn h2 h3 h4 h5
    apply Y.is
    refine Y.step (fun n => axis_Stop.l0.eq_2 _ _ _ _ _ _ _) ?_
    have hv' : v ≤ 0 := by simpa using hv
    rw [bk_neg a 0 v hv']
    exact Y.neg (by omega) (Y.now (by omega))
  | succ n ih =>
    intro v sum hv hn h2 h3 h4 h5
    apply Y.is
    refine Y.step (fun n => axis_Stop.l0.eq_2 _ _ _ _ _ _ _) ?_
    by_cases c : 0 < v
    · have e : ((n + 1 : Nat) : Int) * a = n * a + a := by
        have : ((n + 1 : Nat) : Int) = (n : Int) + 1 := by omega
        rw [this, Int.add_mul]
        omega
      have e2 : bk a (n + 1) v = v + bk a n (v - a) := by
        show (if 0 < v then v + bk a n (v - a) else 0) = _
        rw [if_pos c]
      refine Y.pos c ?_
      rw [w64 (x := v - a) (by omega) (by omega), w64 (x := sum + v) (by omega) (by omega), e2]
      exact Y.ev (ih (v - a) (sum + v) (by omega) (by omega) (by omega) (by omega) (by omega) (by omega)) (by omega)
    · rw [bk_neg a (n + 1) v (by omega)]
      exact Y.neg (by omega) (Y.now (by omega))
theorem axstop_spec (lo hi S a v : Int) (h : AxOk lo hi S a) (h0 : -S ≤ v) (h1 : v ≤ S) : Ev (fun k => axis_Stop.f k lo hi S a v) (brk a (max v (-v) - a)) := by
  have hA := h
  obtain ⟨g0, g1, g2, g3, g4, g5, g6, g7⟩ := h
  apply Y.is
  unfold axis_Stop.f
  rw [w64 (x := -S) (by omega) (by omega)]
  refine Y.bindE (check_axis lo hi S a hA) (Y.pos rfl (Y.neg (by omega) ?_))
  refine Y.step (fun n => axis_Stop.j0.eq_2 _ _ _ _ _ _ _) (Y.neg (by simp; omega) ?_)
  rw [w64 (x := -v) (by omega) (by omega), mx_max, w64 (x := max v (-v) - a) (by omega) (by omega)]
  have := axstop_loop lo hi S a g5 (by omega) 70 (max v (-v) - a) 0 (by omega) (by omega) (by omega) (by omega) (by omega) (by omega)
  rw [Int.zero_add] at this
  exact Y.ev this rfl
/-- Where an axis stands once it has braked. -/
def endOf (a p v : Int) : Int := if v < 0 then p - brk a (-v - a) else p + brk a (v - a)
/-- A state that is valid. -/
def AxSt (lo hi S a p v g : Int) : Prop := lo ≤ p ∧ p ≤ hi ∧ lo ≤ g ∧ g ≤ hi ∧ -S ≤ v ∧ v ≤ S ∧ lo ≤ endOf a p v ∧ endOf a p v ≤ hi
theorem axis_check (lo hi S a p v g : Int) (t : Bool) (h : AxOk lo hi S a) (k : AxSt lo hi S a p v g) : Ev (fun n => axis_Check.f n lo hi S a p v g t) 0 := by
  have hA := h
  obtain ⟨g0, g1, g2, g3, g4, g5, g6, g7⟩ := h
  obtain ⟨k0, k1, k2, k3, k4, k5, k6, k7⟩ := k
  apply Y.is
  unfold axis_Check.f
  rw [w64 (x := -S) (by omega) (by omega)]
  refine Y.bindE (check_axis lo hi S a hA) (Y.pos rfl (Y.bindS (in_spec _ _ _ _ _ k0 k1) (Y.pos rfl (Y.bindS (in_spec _ _ _ _ _ k2 k3) (Y.pos rfl (Y.neg (by omega) ?_))))))
  refine Y.step (fun n => axis_Check.j0.eq_2 _ _ _ _ _ _ _ _ _ _) (Y.neg (by simp; omega) ?_)
  have hs := axstop_spec lo hi S a v hA k4 k5
  have hb := brk_bd lo hi S a (max v (-v) - a) hA (by omega)
  unfold endOf at k6 k7
  refine Y.bindE hs (Y.ite (fun c => ?_) (fun c => ?_))
  · rw [if_pos c] at k6 k7
    rw [show max v (-v) = -v by omega] at hs hb
    refine Y.bindE hs ?_
    rw [w64 (x := p - brk a (-v - a)) (by omega) (by omega)]
    exact Y.bindS (in_spec _ _ _ _ _ k6 k7) (Y.pos rfl (Y.now rfl))
  · rw [if_neg c] at k6 k7
    rw [show max v (-v) = v by omega] at hs hb ⊢
    rw [w64 (x := p + brk a (v - a)) (by omega) (by omega)]
    exact Y.bindS (in_spec _ _ _ _ _ k6 k7) (Y.pos rfl (Y.now rfl))
/-- The next speed, toward what lies d ahead. -/
def Next (S a d v w : Int) : Prop := (v < 0 ∧ w = min (v + a) 0) ∨ (0 ≤ v ∧ ∃ F, Fast S a d F ∧ w = max (max (v - a) 0) (min (v + a) F))
theorem Fastest_spec (lo hi S a d : Int) (h : AxOk lo hi S a) (hd0 : 0 ≤ d) (hd1 : d ≤ 1099511627776) : Y (fun n => slew_Fastest.f n lo hi S a d) (Fast S a d) := by
  unfold slew_Fastest.f
  refine Y.bindE (check_axis lo hi S a h) (Y.pos rfl (Y.neg (by omega) ?_))
  refine Y.bind _ (fastest_spec lo hi S a d h hd0 hd1) (fun F hF => Y.now hF)
theorem next_axis (lo hi S a d v : Int) (h : AxOk lo hi S a) (hd0 : 0 ≤ d) (hd1 : d ≤ 1099511627776) (hv0 : -S ≤ v) (hv1 : v ≤ S) : Y (fun n => axis_next.f n lo hi S a d v) (Next S a d v) := by
  have hA := h
  obtain ⟨g0, g1, g2, g3, g4, g5, g6, g7⟩ := h
  unfold axis_next.f
  rw [w64 (x := v + a) (by omega) (by omega), w64 (x := v - a) (by omega) (by omega)]
  refine Y.ite (fun c => Y.now (.inl ⟨c, by rw [mn_min]⟩)) (fun c => ?_)
  refine Y.bind _ (Fastest_spec lo hi S a d hA hd0 hd1) (fun F hF => Y.now (.inr ⟨by omega, F, hF, ?_⟩))
  rw [mx_max, mx_max, mn_min]
/-- What a step does. -/
def StepTo (S a p v g : Int) (h : Bool) (r : Int × Int × Int × Bool) : Prop :=
  r.1 = p + r.2.1 ∧
  ((h = true ∧ r.2.1 = (if 0 < v then max (v - a) 0 else min (v + a) 0) ∧ ((r.2.1 = 0 ∧ r.2.2.1 = p ∧ r.2.2.2 = false) ∨ (r.2.1 ≠ 0 ∧ r.2.2.1 = g ∧ r.2.2.2 = true))) ∨
   (h = false ∧ r.2.2.1 = g ∧ r.2.2.2 = false ∧ ((p ≤ g ∧ Next S a (g - p) v r.2.1) ∨ (g < p ∧ Next S a (p - g) (-v) (-r.2.1)))))
theorem Next.range {S a d v w : Int} (h : Next S a d v w) (ha : 1 ≤ a) (haS : a ≤ S) (h0 : -S ≤ v) (h1 : v ≤ S) (hd : 0 ≤ d) :
    -S ≤ w ∧ w ≤ S ∧ w - v ≤ a ∧ v - w ≤ a ∧ (v < 0 → w ≤ 0 ∧ brk a (-w) = brk a (-v - a)) ∧ (0 ≤ v → 0 ≤ w ∧ (brk a w = brk a (v - a) ∨ brk a w ≤ d)) := by
  rcases h with ⟨c, e⟩ | ⟨c, F, hF, e⟩
  · refine ⟨by omega, by omega, by omega, by omega, fun _ => ⟨by omega, ?_⟩, fun h => by omega⟩
    by_cases g : v + a ≤ 0
    · rw [e, Int.min_eq_left g, show -(v + a) = -v - a by omega]
    · rw [e, Int.min_eq_right (by omega), brk_neg a (-0) (by omega), brk_neg a (-v - a) (by omega)]
  · obtain ⟨f0, f1, f2, f3⟩ := hF
    refine ⟨by omega, by omega, by omega, by omega, fun h => by omega, fun _ => ⟨by omega, ?_⟩⟩
    by_cases g : min (v + a) F ≤ max (v - a) 0
    · left
      rw [e, Int.max_eq_left g]
      by_cases g2 : 0 ≤ v - a
      · rw [Int.max_eq_left g2]
      · rw [Int.max_eq_right (by omega), brk_neg a 0 (by omega), brk_neg a (v - a) (by omega)]
    · right
      rw [e, Int.max_eq_right (by omega)]
      have := brk_mono a (min (v + a) F) F (by omega)
      omega
/-- Behind a step of speed w one stops where w itself was to stop. -/
theorem endOf_step {a p w : Int} (ha : 1 ≤ a) (h0 : w ≤ 70 * a) (h1 : -w ≤ 70 * a) : endOf a (p + w) w = if w < 0 then p - brk a (-w) else p + brk a w := by
  unfold endOf
  by_cases c : w < 0
  · rw [if_pos c, if_pos c, brk_step a (-w) (by omega) h1]
    omega
  · rw [if_neg c, if_neg c]
    by_cases c2 : 0 < w
    · rw [brk_step a w c2 h0]
      omega
    · have : w = 0 := by omega
      subst this
      rw [brk_neg a 0 (by omega), brk_neg a (0 - a) (by omega)]
      omega
theorem step_keeps {lo hi S a p v g : Int} {t : Bool} {r : Int × Int × Int × Bool} (h : AxOk lo hi S a) (k : AxSt lo hi S a p v g) (hs : StepTo S a p v g t r) :
    AxSt lo hi S a r.1 r.2.1 r.2.2.1 ∧ r.2.1 - v ≤ a ∧ v - r.2.1 ≤ a := by
  obtain ⟨p', v', g', t'⟩ := r
  obtain ⟨g0, g1, g2, g3, g4, g5, g6, g7⟩ := h
  obtain ⟨k0, k1, k2, k3, k4, k5, k6, k7⟩ := k
  obtain ⟨e1, hs⟩ := hs
  dsimp only at e1 hs ⊢
  subst e1
  have key : -S ≤ v' ∧ v' ≤ S ∧ v' - v ≤ a ∧ v - v' ≤ a ∧ lo ≤ g' ∧ g' ≤ hi ∧ ((v' < 0 → lo ≤ p - brk a (-v')) ∧ (0 ≤ v' → p + brk a v' ≤ hi)) := by
    unfold endOf at k6 k7
    rcases hs with ⟨_, e2, e3⟩ | ⟨_, e2, _, e4⟩
    · by_cases c : 0 < v
      · rw [if_pos c] at e2
        rw [if_neg (by omega)] at k6 k7
        refine ⟨by omega, by omega, by omega, by omega, by omega, by omega, fun h => by omega, fun _ => ?_⟩
        by_cases g : 0 ≤ v - a
        · rw [e2, Int.max_eq_left g]
          exact k7
        · rw [e2, Int.max_eq_right (by omega), brk_neg a 0 (by omega)]
          omega
      · rw [if_neg c] at e2
        refine ⟨by omega, by omega, by omega, by omega, by omega, by omega, fun h => ?_, fun h => ?_⟩
        · rw [if_pos (by omega)] at k6 k7
          rw [e2, Int.min_eq_left (by omega), show -(v + a) = -v - a by omega]
          exact k6
        · have : v' = 0 := by omega
          rw [this, brk_neg a 0 (by omega)]
          omega
    · rcases e4 with ⟨c, n⟩ | ⟨c, n⟩
      · obtain ⟨n0, n1, n2, n3, n4, n5⟩ := n.range g5 g6 k4 k5 (by omega)
        refine ⟨n0, n1, n2, n3, by omega, by omega, fun h => ?_, fun h => ?_⟩
        · have hv : v < 0 := by
            by_cases cv : v < 0
            · exact cv
            · have := (n5 (by omega)).1
              omega
          rw [if_pos hv] at k6
          rw [(n4 hv).2]
          exact k6
        · by_cases hv : v < 0
          · have h1 := n4 hv
            have : v' = 0 := by omega
            rw [this, brk_neg a 0 (by omega)]
            omega
          · rw [if_neg hv] at k7
            rcases (n5 (by omega)).2 with e | e <;> omega
      · obtain ⟨n0, n1, n2, n3, n4, n5⟩ := n.range g5 g6 (by omega) (by omega) (by omega)
        refine ⟨by omega, by omega, by omega, by omega, by omega, by omega, fun h => ?_, fun h => ?_⟩
        · by_cases hv : -v < 0
          · have := n4 hv
            omega
          · rcases (n5 (by omega)).2 with e | e
            · by_cases hv0 : v < 0
              · rw [if_pos hv0] at k6
                omega
              · have : v = 0 := by omega
                subst this
                rw [e, brk_neg a (-0 - a) (by omega)]
                omega
            · omega
        · by_cases hv : -v < 0
          · rw [if_neg (by omega)] at k7
            have := (n4 hv).2
            rw [show -(-v') = v' by omega, show -(-v) - a = v - a by omega] at this
            omega
          · have := (n5 (by omega)).1
            have h0 : v' = 0 := by omega
            rw [h0, brk_neg a 0 (by omega)]
            omega
  obtain ⟨j0, j1, j2, j3, j4, j5, j6, j7⟩ := key
  have hn := brk_nonneg a (-v')
  have hn2 := brk_nonneg a v'
  have hg := brk_ge a v'
  have hg2 := brk_ge a (-v')
  refine ⟨⟨?_, ?_, j4, j5, j0, j1, ?_, ?_⟩, j2, j3⟩
  · by_cases c : v' < 0
    · have := j6 c
      omega
    · omega
  · by_cases c : v' < 0
    · omega
    · have := j7 (by omega)
      omega
  · rw [endOf_step g5 (by omega) (by omega)]
    split
    · exact j6 (by assumption)
    · omega
  · rw [endOf_step g5 (by omega) (by omega)]
    split
    · omega
    · exact j7 (by omega)
theorem step_axis (lo hi S a p v g : Int) (t : Bool) (h : AxOk lo hi S a) (k : AxSt lo hi S a p v g) : Y (fun n => axis_Step.f n lo hi S a p v g t) (StepTo S a p v g t) := by
  have hA := h
  have hK := k
  obtain ⟨g0, g1, g2, g3, g4, g5, g6, g7⟩ := h
  obtain ⟨k0, k1, k2, k3, k4, k5, k6, k7⟩ := k
  unfold axis_Step.f
  refine Y.bindE (axis_check lo hi S a p v g t hA hK) (Y.pos rfl ?_)
  have hvm : max (v - a) 0 ≤ 1073741824 ∧ 0 ≤ max (v - a) 0 := by omega
  have hvn : min (v + a) 0 ≤ 0 ∧ -1073741824 ≤ min (v + a) 0 := by omega
  cases t with
  | true =>
    refine Y.pos rfl (Y.step (fun n => axis_Step.j0.eq_2 _ _ _ _ _ _ _ _ _ _) ?_)
    rw [w64 (x := v - a) (by omega) (by omega), w64 (x := v + a) (by omega) (by omega), mx_max, mn_min, w64 (x := p + max (v - a) 0) (by omega) (by omega), w64 (x := p + min (v + a) 0) (by omega) (by omega)]
    by_cases c : 0 < v
    · refine Y.pos (decide_eq_true c) (Y.pos rfl (Y.ite (fun g => Y.now ?_) (fun g => Y.now ?_)))
      · exact ⟨rfl, .inl ⟨rfl, (if_pos c).symm, .inl ⟨g, by dsimp only; omega, rfl⟩⟩⟩
      · exact ⟨rfl, .inl ⟨rfl, (if_pos c).symm, .inr ⟨g, rfl, rfl⟩⟩⟩
    · refine Y.neg (by simp [c]) (Y.pos rfl (Y.ite (fun g => Y.now ?_) (fun g => Y.now ?_)))
      · exact ⟨rfl, .inl ⟨rfl, (if_neg c).symm, .inl ⟨g, by dsimp only; omega, rfl⟩⟩⟩
      · exact ⟨rfl, .inl ⟨rfl, (if_neg c).symm, .inr ⟨g, rfl, rfl⟩⟩⟩
  | false =>
    refine Y.neg (by simp) (Y.step (fun n => axis_Step.j0.eq_2 _ _ _ _ _ _ _ _ _ _) (Y.neg (by simp) (Y.neg (by simp) (Y.ite (fun c => ?_) (fun c => ?_)))))
    · rw [w64 (x := g - p) (by omega) (by omega)]
      refine Y.bind _ (next_axis lo hi S a (g - p) v hA (by omega) (by omega) k4 k5) (fun w hw => ?_)
      have hr := hw.range g5 g6 k4 k5 (by omega)
      rw [w64 (x := p + w) (by omega) (by omega)]
      exact Y.now ⟨rfl, .inr ⟨rfl, rfl, rfl, .inl ⟨c, hw⟩⟩⟩
    · rw [w64 (x := p - g) (by omega) (by omega), w64 (x := -v) (by omega) (by omega)]
      refine Y.bind _ (next_axis lo hi S a (p - g) (-v) hA (by omega) (by omega) (by omega) (by omega)) (fun w hw => ?_)
      have hr := hw.range g5 g6 (by omega) (by omega) (by omega)
      rw [w64 (x := -w) (by omega) (by omega), w64 (x := p + -w) (by omega) (by omega)]
      exact Y.now ⟨rfl, .inr ⟨rfl, rfl, rfl, .inr ⟨by omega, by dsimp only; rw [Int.neg_neg]; exact hw⟩⟩⟩
theorem rest_ok (lo hi S a p : Int) (ha : 1 ≤ a) (hS : 1 ≤ S) (h0 : lo ≤ p) (h1 : p ≤ hi) : AxSt lo hi S a p 0 p := by
  have : endOf a p 0 = p := by
    unfold endOf
    rw [if_neg (by omega), brk_neg a (0 - a) (by omega)]
    omega
  exact ⟨h0, h1, h0, h1, by omega, by omega, by omega, by omega⟩
theorem AxSt.send {lo hi S a p v g q : Int} (k : AxSt lo hi S a p v g) (h0 : lo ≤ q) (h1 : q ≤ hi) : AxSt lo hi S a p v q := ⟨k.1, k.2.1, h0, h1, k.2.2.2.2⟩
theorem domeA : AxOk (-8589934592) 8589934592 33554432 4194304 := by
  unfold AxOk
  omega
/-- A dome's valid states. -/
def DomeOk (s c p v g : Int) : Prop := 0 ≤ s ∧ s ≤ 100 ∧ 0 ≤ c ∧ c ≤ 20 ∧ (0 < c → s = 100) ∧ AxSt (-8589934592) 8589934592 33554432 4194304 p v g
theorem dome_check (s c p v g : Int) (o l t : Bool) (h : DomeOk s c p v g) : Ev (fun k => dome_Check.f k s c o l p v g t) 0 := by
  obtain ⟨h0, h1, h2, h3, h4, h5⟩ := h
  have tail : Ev (fun k => dome_Check.j1 k false s c o l p v g t) 0 := by
    apply Y.is
    refine Y.step (fun n => dome_Check.j1.eq_2 _ _ _ _ _ _ _ _ _ _) (Y.neg (by simp) ?_)
    refine Y.bindS (show dome_Axis.f = some _ from rfl) ?_
    exact Y.bindE (axis_check _ _ _ _ p v g t domeA h5) (Y.now rfl)
  apply Y.is
  unfold dome_Check.f
  refine Y.neg (by omega) (Y.neg (by omega) (Y.neg (by omega) ?_))
  refine Y.step (fun n => dome_Check.j0.eq_2 _ _ _ _ _ _ _ _ _ _) (Y.neg (by simp; omega) ?_)
  refine Y.ite (fun c => ?_) (fun c => ?_)
  · rw [show decide (s < 100) = false by simp; omega]
    exact Y.ev tail rfl
  · exact Y.ev tail rfl
/-- What a step does to the cover, and then to the shutter. -/
def domeC (s c : Int) (o l : Bool) : Int := if l = true ∧ o = true then (if s = 100 then min (c + 1) 20 else c) else max (c - 2) 0
def domeS (s c' : Int) (o : Bool) : Int := if o = true then min (s + 4) 100 else if c' = 0 then max (s - 5) 0 else s
theorem dome_tail (s c p v g : Int) (o l t : Bool) (h0 : 0 ≤ s) (h1 : s ≤ 100) (h5 : AxSt (-8589934592) 8589934592 33554432 4194304 p v g) :
    Y (fun k => dome_Step.j1 k s c o l p v g t) (fun r => ∃ q, StepTo 33554432 4194304 p v g t q ∧ r = (domeS s c o, c, o, l, q.1, q.2.1, q.2.2.1, q.2.2.2)) := by
  refine Y.step (fun n => dome_Step.j1.eq_2 _ _ _ _ _ _ _ _ _) ?_
  rw [w64 (x := s + 4) (by omega) (by omega), w64 (x := s - 5) (by omega) (by omega), mn_min, mx_max]
  have hst := step_axis _ _ _ _ p v g t domeA h5
  refine Y.ite (fun ho => ?_) (fun ho => ?_)
  · refine Y.bindS (show dome_Axis.f = some _ from rfl) (Y.bind _ hst (fun q hq => Y.now ⟨q, hq, ?_⟩))
    unfold domeS
    rw [if_pos ho]
  · refine Y.ite (fun hc => ?_) (fun hc => ?_)
    · refine Y.bindS (show dome_Axis.f = some _ from rfl) (Y.bind _ hst (fun q hq => Y.now ⟨q, hq, ?_⟩))
      unfold domeS
      rw [if_neg ho, if_pos hc]
    · refine Y.bindS (show dome_Axis.f = some _ from rfl) (Y.bind _ hst (fun q hq => Y.now ⟨q, hq, ?_⟩))
      unfold domeS
      rw [if_neg ho, if_neg hc]
theorem dome_step (s c p v g : Int) (o l t : Bool) (h : DomeOk s c p v g) :
    Y (fun k => dome_Step.f k s c o l p v g t) (fun r => ∃ q, StepTo 33554432 4194304 p v g t q ∧ r = (domeS s (domeC s c o l) o, domeC s c o l, o, l, q.1, q.2.1, q.2.2.1, q.2.2.2)) := by
  have hc := dome_check s c p v g o l t h
  obtain ⟨h0, h1, h2, h3, h4, h5⟩ := h
  unfold dome_Step.f
  refine Y.bindE hc (Y.pos rfl ?_)
  have other : ∀ b, b = (l && o) → Y (fun k => dome_Step.j0 k b s c o l p v g t) (fun r => ∃ q, StepTo 33554432 4194304 p v g t q ∧ r = (domeS s (domeC s c o l) o, domeC s c o l, o, l, q.1, q.2.1, q.2.2.1, q.2.2.2)) := by
    intro b hb
    refine Y.step (fun n => dome_Step.j0.eq_2 _ _ _ _ _ _ _ _ _ _) ?_
    rw [w64 (x := c + 1) (by omega) (by omega), w64 (x := c - 2) (by omega) (by omega), mn_min, mx_max]
    unfold domeC
    refine Y.ite (fun hb1 => ?_) (fun hb1 => ?_)
    · have hlo : l = true ∧ o = true := by
        rw [hb] at hb1
        simpa using hb1
      rw [if_pos hlo]
      refine Y.ite (fun hs => ?_) (fun hs => ?_)
      · rw [if_pos hs]
        exact dome_tail s _ p v g o l t h0 h1 h5
      · rw [if_neg hs]
        exact dome_tail s _ p v g o l t h0 h1 h5
    · have hlo : ¬ (l = true ∧ o = true) := by
        rw [hb] at hb1
        simpa using hb1
      rw [if_neg hlo]
      exact dome_tail s _ p v g o l t h0 h1 h5
  refine Y.ite (fun hl => ?_) (fun hl => ?_)
  · exact other o (by simp [hl])
  · exact other false (by simp [hl])
theorem domeC_ok (s c : Int) (o l : Bool) (h2 : 0 ≤ c) (h3 : c ≤ 20) (h4 : 0 < c → s = 100) : 0 ≤ domeC s c o l ∧ domeC s c o l ≤ 20 ∧ (0 < domeC s c o l → domeS s (domeC s c o l) o = 100) := by
  unfold domeC domeS
  by_cases c1 : l = true ∧ o = true
  · rw [if_pos c1, if_pos c1.2]
    by_cases c2 : s = 100
    · rw [if_pos c2]
      omega
    · rw [if_neg c2]
      omega
  · rw [if_neg c1]
    by_cases c2 : o = true
    · rw [if_pos c2]
      omega
    · rw [if_neg c2]
      refine ⟨by omega, by omega, fun h => ?_⟩
      rw [if_neg (by omega)]
      omega
theorem domeS_ok (s c : Int) (o : Bool) (h0 : 0 ≤ s) (h1 : s ≤ 100) : 0 ≤ domeS s c o ∧ domeS s c o ≤ 100 ∧ domeS s c o - s ≤ 5 ∧ s - domeS s c o ≤ 5 := by
  unfold domeS
  split
  · omega
  · split <;> omega
theorem dome_keeps {s c p v g : Int} {o l t : Bool} {q : Int × Int × Int × Bool} (h : DomeOk s c p v g) (hq : StepTo 33554432 4194304 p v g t q) : DomeOk (domeS s (domeC s c o l) o) (domeC s c o l) q.1 q.2.1 q.2.2.1 := by
  obtain ⟨h0, h1, h2, h3, h4, h5⟩ := h
  have hC := domeC_ok s c o l h2 h3 h4
  have hS := domeS_ok s (domeC s c o l) o h0 h1
  exact ⟨hS.1, hS.2.1, hC.1, hC.2.1, hC.2.2, (step_keeps domeA h5 hq).1⟩
theorem set_spec (s c p v g : Int) (o l t x y : Bool) (h : DomeOk s c p v g) : Ev (fun k => dome_Set.f k s c o l p v g t x y) (s, c, x, y, p, v, g, t, 0) := by
  apply Y.is
  unfold dome_Set.f
  exact Y.bindE (dome_check s c p v g o l t h) (Y.pos rfl (Y.now rfl))
theorem dome_zero : DomeOk 0 0 0 0 0 := ⟨by omega, by omega, by omega, by omega, fun h => by omega, rest_ok _ _ _ _ 0 (by omega) (by omega) (by omega) (by omega)⟩
theorem turns_spec : Ev (fun k => spykeep2_turns.f k) true := by
  apply Y.is
  unfold spykeep2_turns.f
  refine Y.bind _ (dome_step 0 0 0 0 0 true true false dome_zero) ?_
  rintro r ⟨q, _, rfl⟩
  exact Y.now rfl
theorem opening (n : Nat) : ∀ (i s c p v g s2 c2 p2 v2 g2 : Int) (o2 l2 t2 t : Bool), 0 ≤ i → 45 - i = n → DomeOk s c p v g → (103 - s) / 4 + (20 - c) ≤ n → s2 = 0 → c2 = 0 →
    Ev (fun k => spykeep2_DomeCloses.l3 k 0 0 i s2 c2 o2 l2 p2 v2 g2 t2 s c true true p v g t) true := by
  induction n with
  | zero =>
    intro i s c p v g s2 c2 p2 v2 g2 o2 l2 t2 t hi hn h hm hs2 hc2
    obtain ⟨h0, h1, h2, h3, h4, h5⟩ := h
    apply Y.is
    refine Y.step (fun n => spykeep2_DomeCloses.l3.eq_2 _ _ _ _ _ _ _ _ _ _ _ _ _ _ _ _ _ _ _ _) (Y.neg (by omega) (Y.pos rfl (Y.pos rfl ?_)))
    subst hs2 hc2
    have hs : s = 100 := by omega
    have hc : c = 20 := by omega
    subst hs hc
    refine Y.bindS (show dome_Closed.f 0 0 o2 l2 p2 v2 g2 t2 = some true from rfl) (Y.pos rfl ?_)
    exact Y.bindS (show dome_Clear.f 100 20 true true p v g t = some true from rfl) (Y.now rfl)
  | succ n ih =>
    intro i s c p v g s2 c2 p2 v2 g2 o2 l2 t2 t hi hn h hm hs2 hc2
    apply Y.is
    refine Y.step (fun n => spykeep2_DomeCloses.l3.eq_2 _ _ _ _ _ _ _ _ _ _ _ _ _ _ _ _ _ _ _ _) (Y.pos (by omega) ?_)
    refine Y.bind _ (dome_step s c p v g true true t h) ?_
    rintro r ⟨q, hq, rfl⟩
    have hk := dome_keeps (l := true) (o := true) h hq
    obtain ⟨h0, h1, h2, h3, h4, h5⟩ := h
    rw [w64 (x := i + 1) (by omega) (by omega)]
    refine Y.ev (ih (i + 1) _ _ _ _ _ s2 c2 p2 v2 g2 o2 l2 t2 _ (by omega) (by omega) hk ?_ hs2 hc2) rfl
    dsimp only
    have e1 : domeC s c true true = if s = 100 then min (c + 1) 20 else c := by
      unfold domeC
      rw [if_pos ⟨rfl, rfl⟩]
    have e2 : ∀ x, domeS s x true = min (s + 4) 100 := fun x => by
      unfold domeS
      rw [if_pos rfl]
    rw [e1, e2]
    split <;> omega
theorem closing (n : Nat) : ∀ (i s c p v g s2 c2 p2 v2 g2 : Int) (l t t2 : Bool), 0 ≤ i → 30 - i = n → DomeOk s c p v g → (c + 1) / 2 + (s + 4) / 5 ≤ n → DomeOk s2 c2 p2 v2 g2 →
    Ev (fun k => spykeep2_DomeCloses.l2 k 0 0 i s c false l p v g t s2 c2 true true p2 v2 g2 t2) true := by
  induction n with
  | zero =>
    intro i s c p v g s2 c2 p2 v2 g2 l t t2 hi hn h hm h'
    obtain ⟨h0, h1, h2, h3, h4, h5⟩ := h
    have hx := h'
    obtain ⟨k0, k1, k2, k3, k4, k5⟩ := hx
    apply Y.is
    refine Y.step (fun n => spykeep2_DomeCloses.l2.eq_2 _ _ _ _ _ _ _ _ _ _ _ _ _ _ _ _ _ _ _ _) (Y.neg (by omega) ?_)
    exact Y.ev (opening 45 0 s2 c2 p2 v2 g2 s c p v g false l t t2 (by omega) (by omega) h' (by omega) (by omega) (by omega)) rfl
  | succ n ih =>
    intro i s c p v g s2 c2 p2 v2 g2 l t t2 hi hn h hm h'
    apply Y.is
    refine Y.step (fun n => spykeep2_DomeCloses.l2.eq_2 _ _ _ _ _ _ _ _ _ _ _ _ _ _ _ _ _ _ _ _) (Y.pos (by omega) ?_)
    refine Y.bind _ (dome_step s c p v g false l t h) ?_
    rintro r ⟨q, hq, rfl⟩
    have hk := dome_keeps (l := l) (o := false) h hq
    obtain ⟨h0, h1, h2, h3, h4, h5⟩ := h
    rw [w64 (x := i + 1) (by omega) (by omega)]
    refine Y.ev (ih (i + 1) _ _ _ _ _ s2 c2 p2 v2 g2 l _ t2 (by omega) (by omega) hk ?_ h') rfl
    dsimp only
    have e1 : domeC s c false l = max (c - 2) 0 := by
      unfold domeC
      rw [if_neg (by simp)]
    have e2 : ∀ x, domeS s x false = if x = 0 then max (s - 5) 0 else s := fun x => by
      unfold domeS
      rw [if_neg (by simp)]
    rw [e1, e2]
    split <;> omega
theorem inner (L : List Int) (j n : Int) (hn : n < 60) (Q : Int → Int → Int → Int → Int → Int → Bool → Bool → Bool → Prop)
    (hQ : ∀ at_ s c p v g o l t, DomeOk s c p v g → Q at_ s c p v g o l t → Ev (fun k => spykeep2_DomeCloses.l0 k (j + 1) L at_ s c o l p v g t) true) (hj0 : 0 ≤ j) (hj1 : j ≤ 5) (d : Nat) : ∀ (i at_ s c p v g : Int) (o l t : Bool), 0 ≤ i → n - i = d → DomeOk s c p v g →
    (∀ s c p v g t, Q at_ s c p v g o l t) →
    Ev (fun k => spykeep2_DomeCloses.l1 k j n i L at_ s c o l p v g t) true := by
  induction d with
  | zero =>
    intro i at_ s c p v g o l t hi hd h hq
    apply Y.is
    refine Y.step (fun n => spykeep2_DomeCloses.l1.eq_2 _ _ _ _ _ _ _ _ _ _ _ _ _ _) (Y.neg (by omega) ?_)
    rw [w64 (x := j + 1) (by omega) (by omega)]
    exact Y.ev (hQ at_ s c p v g o l t h (hq s c p v g t)) rfl
  | succ d ih =>
    intro i at_ s c p v g o l t hi hd h hq
    apply Y.is
    refine Y.step (fun n => spykeep2_DomeCloses.l1.eq_2 _ _ _ _ _ _ _ _ _ _ _ _ _ _) (Y.pos (by omega) ?_)
    refine Y.bind _ (dome_step s c p v g o l t h) ?_
    rintro r ⟨q, hq', rfl⟩
    rw [w64 (x := i + 1) (by omega) (by omega)]
    exact Y.ev (ih (i + 1) at_ _ _ _ _ _ o l _ (by omega) (by omega) (dome_keeps h hq') hq) rfl
theorem outer (L : List Int) (d : Nat) : ∀ (j at_ s c p v g : Int) (o l t : Bool), 0 ≤ j → 2 - j = d → 0 ≤ at_ → at_ ≤ 10 + 10 * j → DomeOk s c p v g →
    Ev (fun k => spykeep2_DomeCloses.l0 k j L at_ s c o l p v g t) true := by
  induction d with
  | zero =>
    intro j at_ s c p v g o l t hj hd ha hb h
    have hx := h
    obtain ⟨h0, h1, h2, h3, h4, h5⟩ := hx
    apply Y.is
    refine Y.step (fun n => spykeep2_DomeCloses.l0.eq_2 _ _ _ _ _ _ _ _ _ _ _ _) (Y.neg (by omega) ?_)
    refine Y.next L at_ 2 ha (by omega) (by omega) (by omega) (fun r hr0 hr1 => ?_)
    refine Y.bindE (set_spec s c p v g o l t false _ h) (Y.bindE (set_spec s c p v g o l t true true h) ?_)
    exact Y.ev (closing 30 0 s c p v g s c p v g _ t t (by omega) (by omega) h (by omega) h) rfl
  | succ d ih =>
    intro j at_ s c p v g o l t hj hd ha hb h
    apply Y.is
    refine Y.step (fun n => spykeep2_DomeCloses.l0.eq_2 _ _ _ _ _ _ _ _ _ _ _ _) (Y.pos (by omega) ?_)
    refine Y.next L at_ 2 ha (by omega) (by omega) (by omega) (fun r hr0 hr1 => ?_)
    refine Y.next L (at_ + 1) 2 (by omega) (by omega) (by omega) (by omega) (fun r2 hr2 hr3 => ?_)
    refine Y.bindE (set_spec s c p v g o l t _ _ h) ?_
    refine Y.next L (at_ + 1 + 1) 60 (by omega) (by omega) (by omega) (by omega) (fun n hn0 hn1 => ?_)
    refine Y.ev (inner L j n hn1 (fun at2 _ _ _ _ _ _ _ _ => 0 ≤ at2 ∧ at2 ≤ 10 + 10 * (j + 1)) ?_ hj (by omega) n.toNat 0 (at_ + 1 + 1 + 1) s c p v g _ _ t (by omega) (by omega) h ?_) rfl
    · intro at2 s c p v g o l t h hq
      exact ih (j + 1) at2 s c p v g o l t (by omega) (by omega) hq.1 hq.2 h
    · intro _ _ _ _ _ _
      exact ⟨by omega, by omega⟩
theorem DomeCloses : spykeep2_DomeCloses.Pure := by
  intro L _ _ _
  apply Y.rounds
  unfold spykeep2_DomeCloses.f
  refine Y.bindE turns_spec (Y.pos rfl ?_)
  exact Y.ev (outer L 2 0 0 0 0 0 0 0 false false false (by omega) (by omega) (by omega) (by omega) dome_zero) rfl

end Go.Proofs.Ytdnnjbokdckilaa.Pure
