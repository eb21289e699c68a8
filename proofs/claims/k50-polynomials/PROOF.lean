import PyProof.Rows.All
import Wide.All
import OpenK.AllK
import Wide.FinOn
import PySem.Challenge.RW_anytower_k50_polynomials
import HandS.ForMost
import HandS.Exc
import HandS.TryOnly
import HandS.ExcOwn
import HandS.WordsExc
import HandS.ExcInit
import HandS.Wide
import HandS.WideBits
import HandS.IsInst
import HandS.Style
import HandS.Star
import HandS.Walk
import HandS.TupAny
import HandS.Codes
import KE.GoesEnum
import KE.GoesMore
import HandS.ExcSuper
import KE.KExcSuper
import HandS.ExcIs
import HandS.ExcField
import HandS.ExcValue
import HandS.Lambda
import KE.KDflt
import HandS.EndTab
set_option linter.all false
namespace PM
/-! ### polynomials as lists, the lowest power first -/
def ev : List Int → Int → Int
  | [], _ => 0
  | a :: p, x => a + x * ev p x
/-- a coefficient -/
abbrev cf (p : List Int) (k : Nat) : Int := p.getD k 0
/-- the last one is not nought -/
def Tr (p : List Int) : Prop := p.getLast? ≠ some 0
def cut : List Int → List Int
  | [] => []
  | a :: p => if cut p = [] then (if a = 0 then [] else [a]) else a :: cut p
theorem ev_cut : ∀ (p : List Int) (x : Int), ev (cut p) x = ev p x
  | [], _ => rfl
  | a :: p, x => by
    have ih := ev_cut p x
    unfold cut
    split
    · rename_i h
      rw [h] at ih
      split
      · rename_i h0
        simp only [ev] at ih ⊢
        rw [← ih, h0]; simp
      · simp only [ev] at ih ⊢
        rw [← ih]
    · simp only [ev] at ih ⊢
      rw [ih]
theorem tr_nil : Tr [] := by simp [Tr]
theorem tr_cons {a : Int} {p : List Int} (h : Tr p) (hp : p ≠ []) : Tr (a :: p) := by
  unfold Tr at *
  cases p with
  | nil => exact absurd rfl hp
  | cons b r => rw [List.getLast?_cons_cons]; exact h
theorem tr_tail {a : Int} {p : List Int} (h : Tr (a :: p)) : Tr p := by
  unfold Tr at *
  cases p with
  | nil => simp
  | cons b r => rw [List.getLast?_cons_cons] at h; exact h
theorem tr_one {a : Int} : Tr [a] ↔ a ≠ 0 := by simp [Tr]
theorem tr_cut : ∀ p : List Int, Tr (cut p)
  | [] => tr_nil
  | a :: p => by
    have ih := tr_cut p
    unfold cut
    split
    · split
      · exact tr_nil
      · rename_i h; exact tr_one.mpr h
    · rename_i h; exact tr_cons ih h
theorem cut_of_tr : ∀ {p : List Int}, Tr p → cut p = p
  | [], _ => rfl
  | a :: p, h => by
    have ih := cut_of_tr (tr_tail h)
    unfold cut
    rw [ih]
    split
    · rename_i e
      subst e
      rw [if_neg (tr_one.mp h)]
    · rfl
theorem cut_len : ∀ p : List Int, (cut p).length ≤ p.length
  | [] => Nat.le_refl _
  | a :: p => by
    have ih := cut_len p
    unfold cut
    split
    · split <;> simp
    · simp only [List.length_cons]; omega
theorem cut_get : ∀ (p : List Int) (k : Nat), cf (cut p) k = cf p k
  | [], _ => rfl
  | a :: p, k => by
    have ih := cut_get p
    unfold cut
    split
    · rename_i h
      have z : ∀ k, cf p k = 0 := fun k => by rw [← ih k, h]; rfl
      split
      · rename_i h0
        cases k with
        | zero => simp [cf, h0]
        | succ k => have := z k; simp [cf] at this ⊢; rw [this]
      · cases k with
        | zero => rfl
        | succ k => have := z k; simp [cf] at this ⊢; rw [this]
    · cases k with
      | zero => rfl
      | succ k => have := ih k; simp [cf] at this ⊢; exact this
theorem cut_mem {p : List Int} {c : Int} : c ∈ cut p → c ∈ p := by
  induction p with
  | nil => exact id
  | cons a p ih =>
    unfold cut
    split
    · split
      · intro h; cases h
      · intro h; simp at h; simp [h]
    · intro h
      rcases List.mem_cons.mp h with e | e
      · simp [e]
      · exact List.mem_cons_of_mem _ (ih e)
/-- cut as the program finds it: so many numbers from the front -/
theorem cut_take : ∀ (l : List Int) (k : Nat), k ≤ l.length → (∀ i, k ≤ i → i < l.length → cf l i = 0) → (k = 0 ∨ cf l (k - 1) ≠ 0) → l.take k = cut l
  | [], k, _, _, _ => by simp [cut]
  | a :: l, 0, _, hz, _ => by
    have ih := cut_take l 0 (Nat.zero_le _) (fun i _ hi => by have := hz (i + 1) (Nat.zero_le _) (by simpa using hi); simpa [cf] using this) (.inl rfl)
    have h0 : a = 0 := by have := hz 0 (Nat.zero_le _) (by simp); simpa [cf] using this
    simp only [List.take_zero] at ih ⊢
    unfold cut
    rw [← ih]
    simp [h0]
  | a :: l, k + 1, hk, hz, hn => by
    simp only [List.length_cons] at hk
    by_cases k0 : k = 0
    · subst k0
      have ih := cut_take l 0 (Nat.zero_le _) (fun i _ hi => by have := hz (i + 1) (by omega) (by simpa using hi); simpa [cf] using this) (.inl rfl)
      simp only [List.take_zero] at ih
      unfold cut
      rw [← ih]
      have : a ≠ 0 := by
        rcases hn with h | h
        · cases h
        · simpa [cf] using h
      simp [this]
    · have ih := cut_take l k (by omega) (fun i h1 hi => by have := hz (i + 1) (by omega) (by simpa using hi); simpa [cf] using this) (.inr (by
        rcases hn with h | h
        · cases h
        · have e : k + 1 - 1 = (k - 1) + 1 := by omega
          rw [e] at h
          simpa [cf] using h))
      unfold cut
      rw [← ih]
      have ne : l.take k ≠ [] := by
        intro h
        rw [List.take_eq_nil_iff] at h
        rcases h with h | h
        · exact k0 h
        · subst h; simp at hk; exact k0 hk
      rw [if_neg ne, List.take_succ_cons]
/-! ### two polynomials of the same values -/
theorem ev_big : ∀ (p : List Int), Tr p → p ≠ [] → ∃ B : Nat, ∀ x : Int, (B : Int) ≤ x → ev p x ≠ 0 ∧ 1 ≤ (ev p x).natAbs
  | [], _, h => absurd rfl h
  | [a], h, _ => ⟨0, fun x _ => by
      have := tr_one.mp h
      simp only [ev, Int.mul_zero, Int.add_zero]
      omega⟩
  | a :: b :: p, h, _ => by
    obtain ⟨B, hB⟩ := ev_big (b :: p) (tr_tail h) (by simp)
    refine ⟨B + a.natAbs + 1, fun x hx => ?_⟩
    obtain ⟨h0, h1⟩ := hB x (by omega)
    rw [show ev (a :: b :: p) x = a + x * ev (b :: p) x from rfl]
    generalize ev (b :: p) x = y at h0 h1 ⊢
    have hy : y.natAbs ≥ 1 := h1
    have hxp : (0 : Int) < x := by omega
    have e1 : (x * y).natAbs = x.natAbs * y.natAbs := Int.natAbs_mul x y
    have e2 : x.natAbs ≤ x.natAbs * y.natAbs := Nat.le_mul_of_pos_right _ hy
    have : (x * y).natAbs ≥ a.natAbs + 1 := by omega
    omega
theorem nil_of_ev {p : List Int} (h : Tr p) (z : ∀ x, ev p x = 0) : p = [] := by
  by_cases e : p = []
  · exact e
  · obtain ⟨B, hB⟩ := ev_big p h e
    exact absurd (z B) (hB B (Int.le_refl _)).1
/-! ### sums -/
def add : List Int → List Int → List Int
  | [], q => q
  | a :: p, [] => a :: p
  | a :: p, b :: q => (a + b) :: add p q
theorem add_nil : ∀ p : List Int, add p [] = p
  | [] => rfl
  | _ :: _ => rfl
theorem ev_add : ∀ (p q : List Int) (x : Int), ev (add p q) x = ev p x + ev q x
  | [], q, x => by simp [add, ev]
  | a :: p, [], x => by simp [add, ev]
  | a :: p, b :: q, x => by
    have := ev_add p q x
    simp only [add, ev, this]
    grind
theorem add_len : ∀ (p q : List Int), (add p q).length = max p.length q.length
  | [], q => by simp [add]
  | a :: p, [] => by simp [add]
  | a :: p, b :: q => by
    have := add_len p q
    simp only [add, List.length_cons, this]
    omega
theorem add_get : ∀ (p q : List Int) (k : Nat), cf (add p q) k = cf p k + cf q k
  | [], q, k => by simp [add, cf]
  | a :: p, [], k => by simp [add, cf]
  | a :: p, b :: q, 0 => by simp [add, cf]
  | a :: p, b :: q, k + 1 => by
    have := add_get p q k
    simpa [add, cf] using this
theorem ext_cf {p q : List Int} (hl : p.length = q.length) (h : ∀ k, k < p.length → cf p k = cf q k) : p = q := by
  apply List.ext_getElem hl
  intro i h1 h2
  have := h i h1
  simpa [cf, List.getD_eq_getElem?_getD, List.getElem?_eq_getElem h1, List.getElem?_eq_getElem h2] using this
theorem add_range (p q : List Int) : (List.range (max p.length q.length)).map (fun i => cf p i + cf q i) = add p q := by
  apply ext_cf
  · simp [add_len]
  · intro k hk
    simp only [List.length_map, List.length_range] at hk
    rw [add_get]
    simp [cf, List.getD_eq_getElem?_getD, List.getElem?_map, List.getElem?_range hk]
/-! ### an integer times a polynomial -/
def sc (p : List Int) (n : Int) : List Int := p.map (· * n)
theorem ev_sc (n : Int) : ∀ (p : List Int) (x : Int), ev (sc p n) x = n * ev p x
  | [], x => by simp [sc, ev]
  | a :: p, x => by
    have := ev_sc n p x
    simp only [sc, List.map_cons, ev] at this ⊢
    rw [this]
    grind
theorem sc_len (p : List Int) (n : Int) : (sc p n).length = p.length := by simp [sc]
theorem sc_get (p : List Int) (n : Int) (k : Nat) : cf (sc p n) k = cf p k * n := by
  unfold sc cf
  rw [List.getD_eq_getElem?_getD, List.getD_eq_getElem?_getD, List.getElem?_map]
  cases p[k]? <;> simp
theorem sc_tr {p : List Int} {n : Int} (h : Tr p) (hn : n ≠ 0) : Tr (sc p n) := by
  unfold Tr sc at *
  rw [List.getLast?_map]
  cases e : p.getLast? with
  | none => simp
  | some a =>
    rw [e] at h
    have : a ≠ 0 := fun z => h (by rw [z])
    simp [this, hn]
/-! ### a power times a polynomial -/
def sh (p : List Int) (k : Nat) : List Int := List.replicate k 0 ++ p
theorem ev_sh (p : List Int) (x : Int) : ∀ k : Nat, ev (sh p k) x = x ^ k * ev p x
  | 0 => by simp [sh]
  | k + 1 => by
    have := ev_sh p x k
    simp only [sh, List.replicate_succ, List.cons_append, ev] at this ⊢
    rw [this, Int.pow_succ]
    grind
theorem sh_len (p : List Int) (k : Nat) : (sh p k).length = k + p.length := by simp [sh]
theorem sh_get (p : List Int) (m k : Nat) : cf (sh p m) k = if k < m then 0 else cf p (k - m) := by
  unfold sh cf
  rw [List.getD_eq_getElem?_getD, List.getD_eq_getElem?_getD]
  split
  · rename_i h
    rw [List.getElem?_append_left (by simpa using h), List.getElem?_replicate]
    simp [h]
  · rename_i h
    rw [List.getElem?_append_right (by simpa using h)]
    simp
theorem sh_tr {p : List Int} (k : Nat) (h : Tr p) (hp : p ≠ []) : Tr (sh p k) := by
  unfold Tr sh at *
  rw [List.getLast?_append]
  cases e : p.getLast? with
  | none => rw [List.getLast?_eq_none_iff] at e; exact absurd e hp
  | some a => rw [e] at h; simpa using h
/-! ### products -/
def mul : List Int → List Int → List Int
  | [], _ => []
  | a :: p, q => add (sc q a) (0 :: mul p q)
theorem ev_mul : ∀ (p q : List Int) (x : Int), ev (mul p q) x = ev p x * ev q x
  | [], q, x => by simp [mul, ev]
  | a :: p, q, x => by
    have := ev_mul p q x
    simp only [mul, ev_add, ev_sc, ev, this]
    grind
theorem mul_len : ∀ (p q : List Int), p ≠ [] → q ≠ [] → (mul p q).length = p.length + q.length - 1
  | [], q, h, _ => absurd rfl h
  | [a], q, _, h => by
    have : q.length ≠ 0 := by simpa using h
    simp only [mul, add_len, sc_len, List.length_cons, List.length_nil]
    omega
  | a :: b :: p, q, _, h => by
    have ih := mul_len (b :: p) q (by simp) h
    have : q.length ≠ 0 := by simpa using h
    rw [mul, add_len, sc_len, List.length_cons, ih]
    simp only [List.length_cons]
    omega
theorem last_get {p : List Int} (h : p ≠ []) : p.getLast? = some (cf p (p.length - 1)) := by
  rw [List.getLast?_eq_getElem?]
  have : p.length ≠ 0 := by simpa using h
  unfold cf
  rw [List.getD_eq_getElem?_getD, List.getElem?_eq_getElem (by omega)]
  simp
theorem tr_iff {p : List Int} (h : p ≠ []) : Tr p ↔ cf p (p.length - 1) ≠ 0 := by
  unfold Tr
  rw [last_get h]
  simp
theorem cf_big {p : List Int} {k : Nat} (h : p.length ≤ k) : cf p k = 0 := by
  unfold cf
  rw [List.getD_eq_getElem?_getD, List.getElem?_eq_none_iff.mpr h]
  rfl
/-- the last number of a product -/
theorem mul_last : ∀ (p q : List Int), p ≠ [] → q ≠ [] → cf (mul p q) (p.length + q.length - 2) = cf p (p.length - 1) * cf q (q.length - 1)
  | [], q, h, _ => absurd rfl h
  | [a], q, _, h => by
    have hl : q.length ≠ 0 := by simpa using h
    simp only [mul, add_get, sc_get, List.length_cons, List.length_nil]
    have e : 0 + 1 + q.length - 2 = q.length - 1 := by omega
    rw [e]
    cases hq : q.length - 1 with
    | zero => simp [cf]; grind
    | succ n => simp [cf]; grind
  | a :: b :: p, q, _, h => by
    have ih := mul_last (b :: p) q (by simp) h
    have hl : q.length ≠ 0 := by simpa using h
    rw [mul, add_get, sc_get]
    simp only [List.length_cons] at ih ⊢
    rw [cf_big (p := q) (by omega)]
    have e : p.length + 1 + 1 + q.length - 2 = (p.length + 1 + q.length - 2) + 1 := by omega
    rw [e]
    have e2 : cf (0 :: mul (b :: p) q) (p.length + 1 + q.length - 2 + 1) = cf (mul (b :: p) q) (p.length + 1 + q.length - 2) := by simp [cf]
    have e3 : cf (a :: b :: p) (p.length + 1 + 1 - 1) = cf (b :: p) (p.length + 1 - 1) := by simp [cf]
    rw [e2, e3, ih]
    grind
theorem mul_tr {p q : List Int} (hp : Tr p) (hq : Tr q) (np : p ≠ []) (nq : q ≠ []) : Tr (mul p q) := by
  have hl : (mul p q).length = p.length + q.length - 1 := mul_len p q np nq
  have h1 : p.length ≠ 0 := by simpa using np
  have h2 : q.length ≠ 0 := by simpa using nq
  have hne : mul p q ≠ [] := by
    intro e
    rw [e] at hl
    simp at hl
    omega
  rw [tr_iff hne, hl]
  have e : p.length + q.length - 1 - 1 = p.length + q.length - 2 := by omega
  rw [e, mul_last p q np nq]
  exact Int.mul_ne_zero ((tr_iff np).mp hp) ((tr_iff nq).mp hq)
/-- uniqueness -/
theorem eq_of_ev {p q : List Int} (hp : Tr p) (hq : Tr q) (h : ∀ x, ev p x = ev q x) : p = q := by
  have z : ∀ x, ev (cut (add p (sc q (-1)))) x = 0 := fun x => by
    rw [ev_cut, ev_add, ev_sc, h x]
    omega
  have e := nil_of_ev (tr_cut _) z
  have ec : ∀ k, cf p k = cf q k := fun k => by
    have := cut_get (add p (sc q (-1))) k
    rw [e, add_get, sc_get] at this
    have z0 : cf ([] : List Int) k = 0 := by simp [cf]
    omega
  have len : ∀ {p q : List Int}, Tr p → (∀ k, cf p k = cf q k) → p.length ≤ q.length := fun {p q} hp ec => by
    by_cases np : p = []
    · simp [np]
    · have h1 := (tr_iff np).mp hp
      rw [ec] at h1
      have h2 : p.length ≠ 0 := by simpa using np
      apply Nat.le_of_not_lt
      intro hlt
      exact h1 (cf_big (by omega))
  have l1 := len hp ec
  have l2 := len hq fun k => (ec k).symm
  exact ext_cf (by omega) fun k _ => ec k
/-- a product's numbers, one factor number more -/
theorem mul_snoc_get : ∀ (p : List Int) (y : Int) (q : List Int) (k : Nat), cf (mul (p ++ [y]) q) k = cf (mul p q) k + (if p.length ≤ k then y * cf q (k - p.length) else 0)
  | [], y, q, k => by
    simp only [List.nil_append, mul, add_get, sc_get, List.length_nil, Nat.zero_le, if_true, Nat.sub_zero]
    have : cf ([0] : List Int) k = 0 := by cases k <;> simp [cf]
    rw [this]
    have z : cf ([] : List Int) k = 0 := by simp [cf]
    rw [z]
    grind
  | a :: p, y, q, 0 => by
    simp only [List.cons_append, mul, add_get, List.length_cons]
    simp [cf]
  | a :: p, y, q, k + 1 => by
    have ih := mul_snoc_get p y q k
    simp only [List.cons_append, mul, add_get, List.length_cons]
    have e : ∀ r : List Int, cf (0 :: r) (k + 1) = cf r k := fun r => by simp [cf]
    rw [e, e, ih]
    have e2 : k + 1 - (p.length + 1) = k - p.length := by omega
    rw [e2]
    by_cases h : p.length ≤ k
    · rw [if_pos h, if_pos (by omega)]; omega
    · rw [if_neg h, if_neg (by omega)]; omega
end PM

set_option linter.all false
namespace PM
/-! ### division with rests -/
abbrev lead (p : List Int) : Int := cf p (p.length - 1)
theorem lead_ne {p : List Int} (h : Tr p) (hp : p ≠ []) : lead p ≠ 0 := (tr_iff hp).mp h
def pstep (r b : List Int) : List Int := cut (add (sc r (lead b)) (sc (sh b (r.length - b.length)) (-(lead r))))
theorem pstep_tr (r b : List Int) : Tr (pstep r b) := tr_cut _
theorem ev_pstep (r b : List Int) (x : Int) : ev (pstep r b) x = lead b * ev r x - lead r * (x ^ (r.length - b.length) * ev b x) := by
  unfold pstep
  rw [ev_cut, ev_add, ev_sc, ev_sc, ev_sh]
  grind
theorem cut_short {p : List Int} {n : Nat} (hl : p.length ≤ n + 1) (h : cf p n = 0) : (cut p).length ≤ n := by
  apply Nat.le_of_not_lt
  intro hlt
  have h1 := cut_len p
  have hc : cut p ≠ [] := by
    intro e
    rw [e] at hlt
    simp at hlt
  have h2 := (tr_iff hc).mp (tr_cut p)
  have e : (cut p).length - 1 = n := by omega
  rw [e, cut_get] at h2
  exact h2 h
theorem pstep_len {r b : List Int} (hb : b ≠ []) (hl : b.length ≤ r.length) : (pstep r b).length < r.length := by
  have h0 : b.length ≠ 0 := by simpa using hb
  have : (pstep r b).length ≤ r.length - 1 := by
    unfold pstep
    apply cut_short
    · rw [add_len, sc_len, sc_len, sh_len]; omega
    · rw [add_get, sc_get, sc_get, sh_get, if_neg (by omega)]
      have e : r.length - 1 - (r.length - b.length) = b.length - 1 := by omega
      rw [e]
      unfold lead
      grind
  omega
abbrev Trip := Int × List Int × List Int
def pdN : Nat → List Int → Trip → Trip
  | 0, _, s => s
  | n + 1, b, (f, q, r) => if r.length < b.length then (f, q, r) else pdN n b (f * lead b, cut (add (cut (sc q (lead b))) (sh [lead r] (r.length - b.length))), pstep r b)
/-- (factor, quotient, rest) -/
def pd (a b : List Int) : Trip := pdN a.length b (1, [], a)
def pmod (a b : List Int) : List Int := (pd a b).2.2
theorem pdN_short {n : Nat} {b : List Int} {s : Trip} (h : s.2.2.length < b.length) : pdN n b s = s := by
  obtain ⟨f, q, r⟩ := s
  cases n with
  | zero => rfl
  | succ n => unfold pdN; rw [if_pos h]
theorem pdN_more {b : List Int} (hb : b ≠ []) : ∀ {n m : Nat} {s : Trip}, s.2.2.length ≤ n → s.2.2.length ≤ m → pdN n b s = pdN m b s
  | 0, m, (f, q, r), h, _ => by
    have : r.length = 0 := by simpa using h
    have h0 : b.length ≠ 0 := by simpa using hb
    rw [pdN_short (n := m) (s := (f, q, r)) (by show r.length < b.length; omega)]
    rfl
  | n + 1, 0, (f, q, r), _, h => by
    have : r.length = 0 := by simpa using h
    have h0 : b.length ≠ 0 := by simpa using hb
    rw [pdN_short (n := n + 1) (s := (f, q, r)) (by show r.length < b.length; omega)]
    rfl
  | n + 1, m + 1, (f, q, r), h1, h2 => by
    unfold pdN
    split
    · rfl
    · rename_i h
      have hl := pstep_len (r := r) hb (by omega)
      have h1 : r.length ≤ n + 1 := h1
      have h2 : r.length ≤ m + 1 := h2
      exact pdN_more hb (by show (pstep r b).length ≤ n; omega) (by show (pstep r b).length ≤ m; omega)
/-- one step of the loop -/
def pnext (b : List Int) (s : Trip) : Trip := (s.1 * lead b, cut (add (cut (sc s.2.1 (lead b))) (sh [lead s.2.2] (s.2.2.length - b.length))), pstep s.2.2 b)
/-- the loop's end, from any of its states -/
def pend (b : List Int) (s : Trip) : Trip := pdN s.2.2.length b s
theorem pend_stop {b : List Int} {s : Trip} (h : s.2.2.length < b.length) : pend b s = s := pdN_short h
theorem pend_next {b : List Int} {s : Trip} (hb : b ≠ []) (h : ¬ s.2.2.length < b.length) : pend b s = pend b (pnext b s) := by
  obtain ⟨f, q, r⟩ := s
  have h : ¬ r.length < b.length := h
  have h0 : b.length ≠ 0 := by simpa using hb
  have hl := pstep_len (r := r) hb (by omega)
  unfold pend
  show pdN r.length b (f, q, r) = pdN (pstep r b).length b (pnext b (f, q, r))
  rw [show r.length = (r.length - 1) + 1 by omega]
  rw [pdN, if_neg h]
  exact pdN_more hb (by show (pstep r b).length ≤ r.length - 1; omega) (Nat.le_refl _)
theorem pd_pend (a b : List Int) : pd a b = pend b (1, [], a) := rfl
/-- what the loop keeps -/
structure PInv (a b : List Int) (s : Trip) : Prop where
  eq : ∀ x, s.1 * ev a x = ev s.2.1 x * ev b x + ev s.2.2 x
  trq : Tr s.2.1
  tr : Tr s.2.2
  pos : ∃ k : Nat, s.1 = lead b ^ k
theorem PInv.start {a b : List Int} (h : Tr a) : PInv a b (1, [], a) := ⟨fun x => by simp [ev], tr_nil, h, 0, by simp⟩
theorem PInv.next {a b : List Int} {s : Trip} (i : PInv a b s) : PInv a b (pnext b s) := by
  refine ⟨fun x => ?_, tr_cut _, tr_cut _, ?_⟩
  · have e := i.eq x
    simp only [pnext, ev_cut, ev_add, ev_sc, ev_sh, ev_pstep, ev]
    generalize ev s.2.1 x = Q at *
    generalize ev s.2.2 x = R at *
    generalize ev a x = A at *
    generalize ev b x = B at *
    generalize x ^ (s.2.2.length - b.length) = y at *
    generalize lead b = l at *
    generalize lead s.2.2 = t at *
    grind
  · obtain ⟨k, e⟩ := i.pos
    exact ⟨k + 1, by rw [pnext, e, Int.pow_succ]⟩
theorem pend_inv {a b : List Int} (hb : b ≠ []) : ∀ (n : Nat) {s : Trip}, s.2.2.length ≤ n → PInv a b s → PInv a b (pend b s) ∧ (pend b s).2.2.length < b.length
  | n, s, hn, i => by
    by_cases h : s.2.2.length < b.length
    · rw [pend_stop h]; exact ⟨i, h⟩
    · have hl : (pnext b s).2.2.length < s.2.2.length := pstep_len hb (by omega)
      rw [pend_next hb h]
      cases n with
      | zero => omega
      | succ n => exact pend_inv hb n (by omega) i.next
theorem pd_inv {a b : List Int} (ha : Tr a) (hb : b ≠ []) : PInv a b (pd a b) := (pend_inv hb _ (Nat.le_refl _) (PInv.start ha)).1
theorem pmod_len {a b : List Int} (ha : Tr a) (hb : b ≠ []) : (pmod a b).length < b.length := (pend_inv hb _ (Nat.le_refl _) (PInv.start ha)).2
theorem pmod_tr {a b : List Int} (ha : Tr a) (hb : b ≠ []) : Tr (pmod a b) := (pd_inv ha hb).tr
theorem pow_ne {a : Int} (h : a ≠ 0) : ∀ k : Nat, a ^ k ≠ 0
  | 0 => by simp
  | k + 1 => by
    rw [Int.pow_succ]
    exact Int.mul_ne_zero (pow_ne h k) h
theorem pd_fac_ne {a b : List Int} (ha : Tr a) (tb : Tr b) (hb : b ≠ []) : (pd a b).1 ≠ 0 := by
  obtain ⟨k, e⟩ := (pd_inv ha hb).pos
  rw [e]
  have := lead_ne tb hb
  exact pow_ne this k
end PM

set_option linter.all false
namespace PM
/-! ### divisors over the fractions -/
def Dv (d p : List Int) : Prop := ∃ (c : Int) (q : List Int), c ≠ 0 ∧ ∀ x, c * ev p x = ev d x * ev q x
theorem Dv.refl (p : List Int) : Dv p p := ⟨1, [1], by decide, fun x => by simp [ev]⟩
theorem Dv.nil (d : List Int) : Dv d [] := ⟨1, [], by decide, fun x => by simp [ev]⟩
theorem Dv.scale {d p p' : List Int} {k : Int} (hk : k ≠ 0) (e : ∀ x, ev p x = k * ev p' x) (h : Dv d p) : Dv d p' := by
  obtain ⟨c, q, hc, hq⟩ := h
  refine ⟨c * k, q, Int.mul_ne_zero hc hk, fun x => ?_⟩
  have := hq x
  rw [e x] at this
  grind
theorem Dv.scaled {d p p' : List Int} {k : Int} (e : ∀ x, ev p x = k * ev p' x) (h : Dv d p') : Dv d p := by
  obtain ⟨c, q, hc, hq⟩ := h
  refine ⟨c, sc q k, hc, fun x => ?_⟩
  have := hq x
  rw [ev_sc, e x]
  grind
theorem Dv.divScale {d d' p : List Int} {k : Int} (e : ∀ x, ev d x = k * ev d' x) (h : Dv d p) : Dv d' p := by
  obtain ⟨c, q, hc, hq⟩ := h
  refine ⟨c, sc q k, hc, fun x => ?_⟩
  have := hq x
  rw [ev_sc]
  rw [e x] at this
  grind
theorem Dv.divScaled {d d' p : List Int} {k : Int} (hk : k ≠ 0) (e : ∀ x, ev d x = k * ev d' x) (h : Dv d' p) : Dv d p := by
  obtain ⟨c, q, hc, hq⟩ := h
  refine ⟨c * k, q, Int.mul_ne_zero hc hk, fun x => ?_⟩
  have := hq x
  rw [e x]
  grind
/-- forward: of one and other, of the rest -/
theorem Dv.rest {d a b : List Int} {s : Trip} (e : ∀ x, s.1 * ev a x = ev s.2.1 x * ev b x + ev s.2.2 x) (ha : Dv d a) (hb : Dv d b) : Dv d s.2.2 := by
  obtain ⟨c, q, hc, hq⟩ := ha
  obtain ⟨c', q', hc', hq'⟩ := hb
  refine ⟨c * c', add (sc q (c' * s.1)) (sc (mul s.2.1 q') (-c)), Int.mul_ne_zero hc hc', fun x => ?_⟩
  have h1 := hq x
  have h2 := hq' x
  have h3 := e x
  rw [ev_add, ev_sc, ev_sc, ev_mul]
  grind
/-- back: of other and the rest, of one -/
theorem Dv.back {d a b : List Int} {s : Trip} (h0 : s.1 ≠ 0) (e : ∀ x, s.1 * ev a x = ev s.2.1 x * ev b x + ev s.2.2 x) (hb : Dv d b) (hr : Dv d s.2.2) : Dv d a := by
  obtain ⟨c, q, hc, hq⟩ := hb
  obtain ⟨c', q', hc', hq'⟩ := hr
  refine ⟨c * c' * s.1, add (sc (mul s.2.1 q) c') (sc q' c), Int.mul_ne_zero (Int.mul_ne_zero hc hc') h0, fun x => ?_⟩
  have h1 := hq x
  have h2 := hq' x
  have h3 := e x
  rw [ev_add, ev_sc, ev_sc, ev_mul]
  grind
theorem mul_ne_nil {p q : List Int} (hp : p ≠ []) (hq : q ≠ []) : mul p q ≠ [] := by
  intro e
  have := mul_len p q hp hq
  have h1 : p.length ≠ 0 := by simpa using hp
  have h2 : q.length ≠ 0 := by simpa using hq
  rw [e] at this
  simp at this
  omega
/-- what a divisor divides is no shorter -/
theorem Dv.len {d p : List Int} (h : Dv d p) (td : Tr d) (tp : Tr p) (nd : d ≠ []) (np : p ≠ []) : d.length ≤ p.length := by
  obtain ⟨c, q, hc, hq⟩ := h
  have e : sc p c = mul d (cut q) ∨ cut q = [] := by
    by_cases hq0 : cut q = []
    · exact .inr hq0
    · left
      refine eq_of_ev (sc_tr tp hc) (mul_tr td (tr_cut q) nd hq0) fun x => ?_
      rw [ev_sc, ev_mul, ev_cut]
      exact hq x
  rcases e with e | e
  · have hne : cut q ≠ [] := by
      intro z
      rw [z] at e
      have : Tr (sc p c) := sc_tr tp hc
      have e2 : sc p c = [] := nil_of_ev this fun x => by rw [e, ev_mul]; simp [ev]
      unfold sc at e2
      simp at e2
      exact np e2
    have hl := congrArg List.length e
    rw [sc_len, mul_len d (cut q) nd hne] at hl
    have : (cut q).length ≠ 0 := by simpa using hne
    omega
  · exfalso
    have : sc p c = [] := nil_of_ev (sc_tr tp hc) fun x => by
      rw [ev_sc, hq x, ← ev_cut q, e]
      simp [ev]
    unfold sc at this
    simp at this
    exact np this
/-- a divisor's rest is none -/
theorem pmod_nil {a b : List Int} (ha : Tr a) (tb : Tr b) (hb : b ≠ []) (h : Dv b a) : pmod a b = [] := by
  have i := pd_inv ha hb
  have hl := pmod_len ha hb
  have hd : Dv b (pmod a b) := Dv.rest i.eq h (Dv.refl b)
  by_cases hn : pmod a b = []
  · exact hn
  · have := hd.len tb (pmod_tr ha hb) hb hn
    omega
/-! ### contents -/
def content (p : List Int) : Int := p.foldl (fun g c => (Int.gcd g c : Int)) 0
theorem fold_gcd : ∀ (p : List Int) (g : Int), 0 ≤ g → 0 ≤ p.foldl (fun g c => (Int.gcd g c : Int)) g ∧ (p.foldl (fun g c => (Int.gcd g c : Int)) g ∣ g) ∧ (∀ c ∈ p, p.foldl (fun g c => (Int.gcd g c : Int)) g ∣ c) ∧ ∀ d : Int, d ∣ g → (∀ c ∈ p, d ∣ c) → d ∣ p.foldl (fun g c => (Int.gcd g c : Int)) g
  | [], g, hg => ⟨hg, Int.dvd_refl g, fun _ h => (by cases h), fun d h _ => h⟩
  | a :: p, g, _ => by
    obtain ⟨h1, h2, h3, h4⟩ := fold_gcd p (Int.gcd g a : Int) (Int.natCast_nonneg _)
    simp only [List.foldl_cons]
    refine ⟨h1, Int.dvd_trans h2 (Int.gcd_dvd_left _ _), fun c hc => ?_, fun d hd hc => h4 d (Int.dvd_coe_gcd hd (hc a (by simp))) fun c hp => hc c (by simp [hp])⟩
    rcases List.mem_cons.mp hc with e | e
    · rw [e]; exact Int.dvd_trans h2 (Int.gcd_dvd_right _ _)
    · exact h3 c e
theorem content_nonneg (p : List Int) : 0 ≤ content p := (fold_gcd p 0 (Int.le_refl _)).1
theorem content_dvd {p : List Int} {c : Int} (h : c ∈ p) : content p ∣ c := (fold_gcd p 0 (Int.le_refl _)).2.2.1 c h
theorem dvd_content {p : List Int} {d : Int} (h : ∀ c ∈ p, d ∣ c) : d ∣ content p := (fold_gcd p 0 (Int.le_refl _)).2.2.2 d (Int.dvd_zero d) h
theorem cf_mem {p : List Int} {k : Nat} (h : cf p k ≠ 0) : cf p k ∈ p := by
  unfold cf at *
  rw [List.getD_eq_getElem?_getD] at *
  cases e : p[k]? with
  | none => rw [e] at h; exact absurd rfl h
  | some a => exact List.mem_of_getElem? e
theorem content_pos {p : List Int} (t : Tr p) (h : p ≠ []) : 0 < content p := by
  have h1 := content_nonneg p
  have h2 := lead_ne t h
  have h3 := content_dvd (cf_mem h2)
  rcases Int.lt_or_eq_of_le h1 with e | e
  · exact e
  · rw [← e] at h3
    exact absurd (Int.zero_dvd.mp h3) h2
/-- divided by the content -/
def prim (p : List Int) : List Int := if p = [] then [] else p.map (· / content p)
theorem ev_map_div {g : Int} : ∀ (p : List Int), (∀ c ∈ p, g ∣ c) → ∀ x, ev p x = g * ev (p.map (· / g)) x
  | [], _, x => by simp [ev]
  | a :: p, h, x => by
    have ih := ev_map_div p (fun c hc => h c (by simp [hc])) x
    have e := Int.mul_ediv_cancel' (h a (by simp))
    simp only [List.map_cons, ev]
    rw [ih]
    grind
theorem ev_prim (p : List Int) (x : Int) : ev p x = content p * ev (prim p) x := by
  unfold prim
  split
  · rename_i h
    rw [h]
    simp [ev]
  · exact ev_map_div p (fun c hc => content_dvd hc) x
theorem prim_len (p : List Int) : (prim p).length = p.length := by
  unfold prim
  split
  · rename_i h; rw [h]
  · simp
theorem prim_nil {p : List Int} : prim p = [] ↔ p = [] := by
  constructor
  · intro h
    have := prim_len p
    rw [h] at this
    simpa using this.symm
  · intro h; rw [h]; rfl
theorem prim_cf (p : List Int) (k : Nat) : cf (prim p) k = cf p k / content p := by
  unfold prim
  split
  · rename_i h; rw [h]; simp [cf]
  · unfold cf
    rw [List.getD_eq_getElem?_getD, List.getD_eq_getElem?_getD, List.getElem?_map]
    cases p[k]? <;> simp
theorem cf_dvd (p : List Int) (k : Nat) : content p ∣ cf p k := by
  by_cases h : cf p k = 0
  · rw [h]; exact Int.dvd_zero _
  · exact content_dvd (cf_mem h)
theorem prim_tr {p : List Int} (h : Tr p) : Tr (prim p) := by
  by_cases hp : p = []
  · rw [hp]; exact tr_nil
  · have hn : prim p ≠ [] := fun e => hp (prim_nil.mp e)
    rw [tr_iff hn, prim_len, prim_cf]
    intro z
    have e := Int.mul_ediv_cancel' (cf_dvd p (p.length - 1))
    rw [z] at e
    have := lead_ne h hp
    unfold lead at this
    omega
theorem prim_content {p : List Int} (t : Tr p) (h : p ≠ []) : content (prim p) = 1 := by
  have hp := content_pos t h
  have hn := content_nonneg (prim p)
  have hd : content p * content (prim p) ∣ content p := by
    apply dvd_content
    intro c hc
    obtain ⟨k, hk, e⟩ := List.getElem_of_mem hc
    have e2 : cf p k = c := by
      unfold cf
      rw [List.getD_eq_getElem?_getD, List.getElem?_eq_getElem hk, e]; rfl
    have e3 := Int.mul_ediv_cancel' (cf_dvd p k)
    rw [e2] at e3
    have e4 := cf_dvd (prim p) k
    rw [prim_cf, e2] at e4
    rw [← e3]
    exact Int.mul_dvd_mul_left _ e4
  obtain ⟨m, e⟩ := hd
  have e1 : content p * (content (prim p) * m) = content p * 1 := by grind
  have e2 := Int.eq_of_mul_eq_mul_left (by omega) e1
  have : content (prim p) ∣ 1 := ⟨m, e2.symm⟩
  exact Int.eq_one_of_dvd_one hn this
/-! ### the greatest common divisor -/
def comN : Nat → List Int → List Int → List Int
  | 0, a, _ => a
  | n + 1, a, b => if b = [] then a else comN n b (prim (pmod a b))
theorem comN_nil {n : Nat} {a : List Int} : comN n a [] = a := by cases n <;> simp [comN]
theorem comN_more : ∀ {n m : Nat} {a b : List Int}, Tr a → Tr b → b.length ≤ n → b.length ≤ m → comN n a b = comN m a b
  | 0, m, a, b, _, _, h, _ => by
    have : b = [] := by simpa using h
    rw [this, comN_nil, comN_nil]
  | n + 1, 0, a, b, _, _, _, h => by
    have : b = [] := by simpa using h
    rw [this, comN_nil, comN_nil]
  | n + 1, m + 1, a, b, ta, tb, h1, h2 => by
    unfold comN
    split
    · rfl
    · rename_i hb
      have hl := pmod_len ta hb
      exact comN_more tb (prim_tr (pmod_tr ta hb)) (by rw [prim_len]; omega) (by rw [prim_len]; omega)
def com (a b : List Int) : List Int := comN b.length a b
theorem com_nil (a : List Int) : com a [] = a := rfl
theorem com_next {a b : List Int} (ta : Tr a) (tb : Tr b) (hb : b ≠ []) : com a b = com b (prim (pmod a b)) := by
  have hl := pmod_len ta hb
  have h0 : b.length ≠ 0 := by simpa using hb
  unfold com
  rw [show b.length = (b.length - 1) + 1 by omega]
  rw [comN, if_neg hb]
  exact comN_more tb (prim_tr (pmod_tr ta hb)) (by rw [prim_len]; omega) (Nat.le_refl _)
/-- a primitive one, or none -/
def Pr (p : List Int) : Prop := p ≠ [] → content p = 1
structure ComInv (a b g : List Int) : Prop where
  tr : Tr g
  ne : a ≠ [] ∨ b ≠ [] → g ≠ []
  pr : Pr g
  l : Dv g a
  r : Dv g b
  most : ∀ d, Dv d a → Dv d b → Dv d g
theorem pr_prim {p : List Int} (t : Tr p) : Pr (prim p) := fun h => prim_content t fun e => h (prim_nil.mpr e)
theorem com_inv : ∀ (n : Nat) {a b : List Int}, b.length ≤ n → Tr a → Tr b → Pr a → Pr b → ComInv a b (com a b)
  | n, a, b, hn, ta, tb, pa, pb => by
    by_cases hb : b = []
    · subst hb
      rw [com_nil]
      exact ⟨ta, fun h => by simpa using h, pa, Dv.refl a, Dv.nil a, fun d h _ => h⟩
    · have hl := pmod_len ta hb
      have tm := pmod_tr ta hb
      have i := pd_inv ta hb
      rw [com_next ta tb hb]
      cases n with
      | zero => exact absurd (by simpa using hn) hb
      | succ n =>
        have I := com_inv n (a := b) (b := prim (pmod a b)) (by rw [prim_len]; omega) tb (prim_tr tm) pb (pr_prim tm)
        have hf := pd_fac_ne ta tb hb
        have rr : Dv (com b (prim (pmod a b))) (pmod a b) := Dv.scaled (fun x => ev_prim _ x) I.r
        refine ⟨I.tr, fun _ => I.ne (.inl hb), I.pr, Dv.back hf i.eq I.l rr, I.l, fun d h1 h2 => ?_⟩
        refine I.most d h2 ?_
        have hd : Dv d (pmod a b) := Dv.rest i.eq h1 h2
        by_cases hz : pmod a b = []
        · rw [hz]; exact Dv.nil d
        · have hc := content_pos tm hz
          exact Dv.scale (by omega) (fun x => ev_prim _ x) hd
/-- common of the program -/
def common (a b : List Int) : List Int := com (prim a) (prim b)
theorem common_inv {a b : List Int} (ta : Tr a) (tb : Tr b) : ComInv a b (common a b) := by
  have I := com_inv _ (Nat.le_refl _) (prim_tr ta) (prim_tr tb) (pr_prim ta) (pr_prim tb)
  refine ⟨I.tr, fun h => I.ne (h.imp (fun h e => h (prim_nil.mp e)) fun h e => h (prim_nil.mp e)), I.pr, Dv.scaled (fun x => ev_prim _ x) I.l, Dv.scaled (fun x => ev_prim _ x) I.r, fun d h1 h2 => I.most d ?_ ?_⟩
  · by_cases hz : a = []
    · rw [hz]; exact Dv.nil d
    · have := content_pos ta hz
      exact Dv.scale (by omega) (fun x => ev_prim _ x) h1
  · by_cases hz : b = []
    · rw [hz]; exact Dv.nil d
    · have := content_pos tb hz
      exact Dv.scale (by omega) (fun x => ev_prim _ x) h2
end PM

set_option linter.all false
namespace PM
/-! ### sizes -/
def Bd (n : Nat) (p : List Int) : Prop := ∀ k, (cf p k).natAbs < 2 ^ n
theorem two_le {n m : Nat} (h : n ≤ m) : 2 ^ n ≤ 2 ^ m := Nat.pow_le_pow_right (by decide) h
theorem Bd.mono {n m : Nat} {p : List Int} (h : Bd n p) (l : n ≤ m) : Bd m p := fun k => Nat.lt_of_lt_of_le (h k) (two_le l)
theorem Bd.nil (n : Nat) : Bd n [] := fun k => by
  have : cf ([] : List Int) k = 0 := by simp [cf]
  rw [this]
  exact Nat.two_pow_pos n
theorem Bd.cut {n : Nat} {p : List Int} (h : Bd n p) : Bd n (cut p) := fun k => by rw [cut_get]; exact h k
theorem abs_add_lt {a b : Int} {n m k : Nat} (ha : a.natAbs < 2 ^ n) (hb : b.natAbs < 2 ^ m) (h1 : n ≤ k) (h2 : m ≤ k) : (a + b).natAbs < 2 ^ (k + 1) := by
  have e1 := Nat.lt_of_lt_of_le ha (two_le h1)
  have e2 := Nat.lt_of_lt_of_le hb (two_le h2)
  have e3 := Int.natAbs_add_le a b
  rw [Nat.pow_succ]
  omega
theorem abs_mul_lt {a b : Int} {n m : Nat} (ha : a.natAbs < 2 ^ n) (hb : b.natAbs < 2 ^ m) : (a * b).natAbs < 2 ^ (n + m) := by
  rw [Int.natAbs_mul, Nat.pow_add]
  exact Nat.mul_lt_mul'' ha hb
theorem Bd.add {n m k : Nat} {p q : List Int} (h : Bd n p) (h' : Bd m q) (h1 : n ≤ k) (h2 : m ≤ k) : Bd (k + 1) (add p q) := fun i => by
  rw [add_get]
  exact abs_add_lt (h i) (h' i) h1 h2
theorem Bd.sc {n m : Nat} {p : List Int} {c : Int} (h : Bd n p) (hc : c.natAbs < 2 ^ m) : Bd (n + m) (sc p c) := fun i => by
  rw [sc_get]
  exact abs_mul_lt (h i) hc
theorem Bd.sh {n : Nat} {p : List Int} (h : Bd n p) (k : Nat) : Bd n (sh p k) := fun i => by
  rw [sh_get]
  split
  · exact Nat.two_pow_pos n
  · exact h _
theorem Bd.lead {n : Nat} {p : List Int} (h : Bd n p) : (lead p).natAbs < 2 ^ n := h _
theorem Bd.mem {n : Nat} {p : List Int} (h : Bd n p) {c : Int} (hc : c ∈ p) : c.natAbs < 2 ^ n := by
  obtain ⟨k, hk, e⟩ := List.getElem_of_mem hc
  have := h k
  have e2 : cf p k = c := by
    unfold cf
    rw [List.getD_eq_getElem?_getD, List.getElem?_eq_getElem hk, e]; rfl
  rwa [e2] at this
theorem Bd.of {n : Nat} {p : List Int} (h : ∀ c ∈ p, c.natAbs < 2 ^ n) : Bd n p := fun k => by
  by_cases hz : cf p k = 0
  · rw [hz]; exact Nat.two_pow_pos n
  · exact h _ (cf_mem hz)
theorem Bd.pstep {n m ln lm k : Nat} {r b : List Int} (h : Bd n r) (h' : Bd m b) (hr : (PM.lead r).natAbs < 2 ^ ln) (hb : (PM.lead b).natAbs < 2 ^ lm) (h1 : n + lm ≤ k) (h2 : m + ln ≤ k) : Bd (k + 1) (pstep r b) :=
  (Bd.add (h.sc hb) ((h'.sh _).sc (by rw [Int.natAbs_neg]; exact hr)) h1 h2).cut
theorem Bd.pend {m : Nat} {b : List Int} (hb : b ≠ []) (h' : Bd m b) : ∀ (j : Nat) {n : Nat} {s : Trip}, s.2.2.length + 1 - b.length ≤ j → Bd n s.2.2 → Bd (n + (s.2.2.length + 1 - b.length) * (m + 1)) (pend b s).2.2
  | j, n, s, hj, h => by
    have h0 : b.length ≠ 0 := by simpa using hb
    by_cases hl : s.2.2.length < b.length
    · rw [pend_stop hl]
      exact h.mono (Nat.le_add_right _ _)
    · have hs : (pnext b s).2.2.length < s.2.2.length := pstep_len hb (by omega)
      rw [pend_next hb hl]
      cases j with
      | zero => omega
      | succ j =>
        have h1 : Bd (n + m + 1) (pnext b s).2.2 := Bd.pstep h h' h.lead h'.lead (Nat.le_refl _) (by omega)
        have ih := Bd.pend hb h' j (s := pnext b s) (by omega) h1
        refine ih.mono ?_
        have e1 : (pnext b s).2.2.length + 1 - b.length + 1 ≤ s.2.2.length + 1 - b.length := by omega
        have e2 := Nat.mul_le_mul_right (m + 1) e1
        rw [Nat.add_mul] at e2
        omega
theorem Bd.pmod {n m : Nat} {a b : List Int} (hb : b ≠ []) (h : Bd n a) (h' : Bd m b) : Bd (n + (a.length + 1 - b.length) * (m + 1)) (PM.pmod a b) := Bd.pend hb h' _ (s := (1, [], a)) (Nat.le_refl _) h
/-- .. where the two begin with few last signs -/
theorem Bd.pmodL {n L : Nat} {a b : List Int} (hb : b ≠ []) (hl : b.length ≤ a.length) (h : Bd n a) (h' : Bd n b) (ha : (PM.lead a).natAbs < 2 ^ L) (hb' : (PM.lead b).natAbs < 2 ^ L) : Bd (n + L + 1 + (a.length - b.length) * (n + 1)) (PM.pmod a b) := by
  have h0 : b.length ≠ 0 := by simpa using hb
  have hs : (PM.pstep a b).length < a.length := pstep_len hb hl
  have h1 : Bd (n + L + 1) (PM.pstep a b) := Bd.pstep h h' ha hb' (Nat.le_refl _) (Nat.le_refl _)
  have e : PM.pmod a b = (PM.pend b (pnext b (1, [], a))).2.2 := by
    unfold PM.pmod
    rw [pd_pend, pend_next hb (by show ¬ a.length < b.length; omega)]
  rw [e]
  refine (Bd.pend hb h' _ (s := pnext b (1, [], a)) (Nat.le_refl _) h1).mono ?_
  have e1 : (pnext b (1, [], a)).2.2.length + 1 - b.length ≤ a.length - b.length := by
    show (PM.pstep a b).length + 1 - b.length ≤ _
    omega
  have e2 := Nat.mul_le_mul_right (n + 1) e1
  omega
theorem ediv_le {a g : Int} (h : 0 < g) (hd : g ∣ a) : (a / g).natAbs ≤ a.natAbs := by
  obtain ⟨k, rfl⟩ := hd
  rw [Int.mul_ediv_cancel_left _ (by omega), Int.natAbs_mul]
  exact Nat.le_mul_of_pos_left _ (by omega)
theorem prim_cf_le {p : List Int} (t : Tr p) (k : Nat) : (cf (prim p) k).natAbs ≤ (cf p k).natAbs := by
  by_cases hp : p = []
  · rw [hp]; exact Nat.le_refl _
  · rw [prim_cf]
    exact ediv_le (content_pos t hp) (cf_dvd p k)
theorem Bd.prim {n : Nat} {p : List Int} (t : Tr p) (h : Bd n p) : Bd n (prim p) := fun k => Nat.lt_of_le_of_lt (prim_cf_le t k) (h k)
theorem lead_prim {p : List Int} (t : Tr p) : (lead (prim p)).natAbs ≤ (lead p).natAbs := by
  unfold lead
  rw [prim_len]
  exact prim_cf_le t _
theorem bd_one {p : List Int} (h : Pr p) (hl : p.length ≤ 1) : Bd 1 p := by
  match p, hl with
  | [], _ => exact Bd.nil 1
  | [c], _ =>
    have e := h (by simp)
    unfold content at e
    simp only [List.foldl_cons, List.foldl_nil] at e
    have e2 : Int.gcd 0 c = c.natAbs := by simp
    rw [e2] at e
    refine Bd.of fun d hd => ?_
    have : d = c := by simpa using hd
    subst this
    have : d.natAbs = 1 := by omega
    rw [this]; decide
/-- what dividing by the content asks of the sizes -/
def PrOk (p : List Int) : Prop := p.length ≤ 1 ∨ Bd 13500 p
/-- what a division asks of the sizes -/
def PdOk (a b : List Int) : Prop := ∃ n m, Bd n a ∧ Bd m b ∧ n + (a.length + 1) * (m + 1) ≤ 60000000
def CoOk : Nat → List Int → List Int → Prop
  | 0, _, b => b = []
  | k + 1, a, b => b = [] ∨ (PdOk a b ∧ PrOk (pmod a b) ∧ CoOk k b (prim (pmod a b)))
def prsC : Nat → Nat → Nat → Nat → Nat → Bool
  | 0, _, _, l2, _ => l2 == 0
  | k + 1, l1, b1, l2, b2 => l2 == 0 || (decide (b1 + (l1 + 1) * (b2 + 1) ≤ 60000000) && (List.range l2).all fun l3 =>
      (decide (l3 ≤ 1) || decide (b1 + (l1 + 1 - l2) * (b2 + 1) ≤ 13500)) && prsC k l2 b2 l3 (if l3 ≤ 1 then 1 else b1 + (l1 + 1 - l2) * (b2 + 1)))
theorem prsC_ok : ∀ (k : Nat) {a b : List Int} {b1 b2 : Nat}, Tr a → Tr b → Bd b1 a → Bd b2 b → prsC k a.length b1 b.length b2 = true → CoOk k a b
  | 0, a, b, b1, b2, _, _, _, _, h => by
    unfold prsC at h
    unfold CoOk
    simpa using h
  | k + 1, a, b, b1, b2, ta, tb, ha, hb, h => by
    unfold prsC at h
    unfold CoOk
    by_cases hn : b = []
    · exact .inl hn
    · right
      have h0 : (b.length == 0) = false := by simpa using hn
      rw [h0, Bool.false_or, Bool.and_eq_true, decide_eq_true_eq, List.all_eq_true] at h
      obtain ⟨h1, h2⟩ := h
      have hl := pmod_len ta hn
      have tm := pmod_tr ta hn
      have h3 := h2 _ (List.mem_range.mpr hl)
      rw [Bool.and_eq_true, Bool.or_eq_true, decide_eq_true_eq, decide_eq_true_eq] at h3
      obtain ⟨h4, h5⟩ := h3
      have hbm := Bd.pmod hn ha hb
      refine ⟨⟨b1, b2, ha, hb, h1⟩, h4.imp id fun z => hbm.mono z, ?_⟩
      refine prsC_ok k (b1 := b2) (b2 := if (pmod a b).length ≤ 1 then 1 else b1 + (a.length + 1 - b.length) * (b2 + 1)) tb (prim_tr tm) hb ?_ (by rw [prim_len]; exact h5)
      split
      · rename_i z
        exact bd_one (pr_prim tm) (by rw [prim_len]; exact z)
      · exact hbm.prim tm
/-- the same where both begin with few last signs -/
def prsL (N B L : Nat) : Bool := (List.range (N + 1)).all fun l1 => (List.range (l1 + 1)).all fun l2 => l2 == 0 || (decide (B + (l1 + 1) * (B + 1) ≤ 60000000) && (List.range l2).all fun l3 =>
      (decide (l3 ≤ 1) || decide (B + L + 1 + (l1 - l2) * (B + 1) ≤ 13500)) && prsC (N + 1) l2 B l3 (if l3 ≤ 1 then 1 else B + L + 1 + (l1 - l2) * (B + 1)))
theorem prsL_ok {N B L : Nat} (hc : prsL N B L = true) {a b : List Int} (ta : Tr a) (tb : Tr b) (la : a.length ≤ N) (lb : b.length ≤ a.length) (ha : Bd B a) (hb : Bd B b) (hla : (lead a).natAbs < 2 ^ L) (hlb : (lead b).natAbs < 2 ^ L) : CoOk (N + 2) a b := by
  unfold CoOk
  by_cases hn : b = []
  · exact .inl hn
  · right
    unfold prsL at hc
    rw [List.all_eq_true] at hc
    have h1 := hc a.length (List.mem_range.mpr (by omega))
    rw [List.all_eq_true] at h1
    have h := h1 b.length (List.mem_range.mpr (by omega))
    have h0 : (b.length == 0) = false := by simpa using hn
    rw [h0, Bool.false_or, Bool.and_eq_true, decide_eq_true_eq, List.all_eq_true] at h
    obtain ⟨h1, h2⟩ := h
    have hl := pmod_len ta hn
    have tm := pmod_tr ta hn
    have h3 := h2 _ (List.mem_range.mpr hl)
    rw [Bool.and_eq_true, Bool.or_eq_true, decide_eq_true_eq, decide_eq_true_eq] at h3
    obtain ⟨h4, h5⟩ := h3
    have hbm := Bd.pmodL hn lb ha hb hla hlb
    refine ⟨⟨B, B, ha, hb, h1⟩, h4.imp id fun z => hbm.mono z, ?_⟩
    refine prsC_ok (N + 1) (b1 := B) (b2 := if (pmod a b).length ≤ 1 then 1 else B + L + 1 + (a.length - b.length) * (B + 1)) tb (prim_tr tm) hb ?_ (by rw [prim_len]; exact h5)
    split
    · rename_i z
      exact bd_one (pr_prim tm) (by rw [prim_len]; exact z)
    · exact hbm.prim tm
theorem CoOk.more : ∀ {k : Nat} {a b : List Int}, CoOk k a b → CoOk (k + 1) a b
  | 0, a, b, h => .inl h
  | k + 1, a, b, h => by
    rcases h with h | ⟨h1, h2, h3⟩
    · exact .inl h
    · exact .inr ⟨h1, h2, h3.more⟩
/-- two primitive ones in any order -/
theorem coOk_both {N B L : Nat} (hc : prsL N B L = true) (hB : B ≤ 13500) (hN : B + (N + 1) * (B + 1) ≤ 60000000) {a b : List Int} (ta : Tr a) (tb : Tr b) (la : a.length ≤ N) (lb : b.length ≤ N) (ha : Bd B a) (hb : Bd B b) (hla : (lead a).natAbs < 2 ^ L) (hlb : (lead b).natAbs < 2 ^ L) : CoOk (N + 3) a b := by
  by_cases hl : b.length ≤ a.length
  · exact (prsL_ok hc ta tb la hl ha hb hla hlb).more
  · have e : pmod a b = a := by
      unfold pmod
      rw [pd_pend, pend_stop (by show a.length < b.length; omega)]
    refine .inr ⟨⟨B, B, ha, hb, ?_⟩, ?_, ?_⟩
    · have := Nat.mul_le_mul_right (B + 1) (show a.length + 1 ≤ N + 1 by omega)
      omega
    · rw [e]; exact .inr (ha.mono hB)
    · rw [e]
      refine prsL_ok hc tb (prim_tr ta) lb (by rw [prim_len]; omega) hb (ha.prim ta) hlb (Nat.lt_of_le_of_lt (lead_prim ta) hla)
theorem prs50 : prsL 8 82 11 = true := by decide +kernel
end PM

set_option linter.all false
namespace PM
/-! ### the program's words -/
def sumL (a b : List Int) : List Int := cut (add a b)
def scaledL (p : List Int) (n : Int) : List Int := cut (sc p n)
def lessL (a b : List Int) : List Int := sumL a (scaledL b (-1))
def shiftedL (p : List Int) (k : Nat) : List Int := if p = [] then [] else sh p k
def prodL (a b : List Int) : List Int := if a = [] ∨ b = [] then [] else cut (mul a b)
/-- the law's own product -/
def grT (a b : List Int) : List Int := if a = [] ∨ b = [] then [] else mul a b
theorem grT_tr {a b : List Int} (ta : Tr a) (tb : Tr b) : Tr (grT a b) := by
  unfold grT
  split
  · exact tr_nil
  · rename_i h
    exact mul_tr ta tb (fun e => h (.inl e)) fun e => h (.inr e)
theorem prod_grT {a b : List Int} (ta : Tr a) (tb : Tr b) : prodL a b = grT a b := by
  have := grT_tr ta tb
  unfold prodL grT at *
  split
  · rfl
  · rename_i h
    rw [if_neg h] at this
    exact cut_of_tr this
theorem ev_grT (a b : List Int) (x : Int) : ev (grT a b) x = ev a x * ev b x := by
  unfold grT
  split
  · rename_i h
    rcases h with h | h <;> rw [h] <;> simp [ev]
  · exact ev_mul a b x
theorem ev_sumL (a b : List Int) (x : Int) : ev (sumL a b) x = ev a x + ev b x := by
  unfold sumL; rw [ev_cut, ev_add]
theorem less_step {r b : List Int} (tr : Tr r) (tb : Tr b) (nr : r ≠ []) (nb : b ≠ []) :
    lessL (scaledL r (lead b)) (shiftedL (scaledL b (lead r)) (r.length - b.length)) = pstep r b := by
  have lr := lead_ne tr nr
  have e1 : scaledL b (lead r) = sc b (lead r) := cut_of_tr (sc_tr tb lr)
  have n1 : sc b (lead r) ≠ [] := by
    intro e
    have := congrArg List.length e
    rw [sc_len] at this
    simp at this
    exact nb this
  rw [e1]
  unfold shiftedL
  rw [if_neg n1]
  refine eq_of_ev (tr_cut _) (pstep_tr _ _) fun x => ?_
  unfold lessL scaledL
  rw [ev_sumL, ev_cut, ev_cut, ev_sc, ev_sc, ev_sh, ev_sc, ev_pstep]
  grind
theorem pnext_eq {b : List Int} {f : Int} {q r : List Int} (tr : Tr r) (tb : Tr b) (nr : r ≠ []) (nb : b ≠ []) :
    pnext b (f, q, r) = (f * lead b, sumL (scaledL q (lead b)) (shiftedL [lead r] (r.length - b.length)), lessL (scaledL r (lead b)) (shiftedL (scaledL b (lead r)) (r.length - b.length))) := by
  rw [less_step tr tb nr nb]
  rfl
/-! ### the value at a point, as the law reckons it -/
def horner (p : List Int) (x : Int) : Int := p.reverse.foldl (fun f c => f * x + c) 0
theorem horner_ev (p : List Int) (x : Int) : horner p x = ev p x := by
  unfold horner
  rw [List.foldl_reverse]
  induction p with
  | nil => rfl
  | cons a p ih => simp only [List.foldr_cons, ev, ih]; grind
/-! ### the greatest common divisor, its last number above 0 -/
def cdv (a b : List Int) : List Int := if common a b ≠ [] ∧ lead (common a b) < 0 then scaledL (common a b) (-1) else common a b
structure CdvOk (a b g : List Int) : Prop where
  tr : Tr g
  ne : a ≠ [] ∨ b ≠ [] → g ≠ []
  pr : Pr g
  l : Dv g a
  r : Dv g b
  most : ∀ d, Dv d a → Dv d b → Dv d g
  pos : g ≠ [] → 1 ≤ lead g
theorem content_neg (p : List Int) : content (sc p (-1)) = content p := by
  have h1 := content_nonneg p
  have h2 := content_nonneg (sc p (-1))
  have d1 : content p ∣ content (sc p (-1)) := dvd_content fun c hc => by
    unfold sc at hc
    obtain ⟨d, hd, e⟩ := List.mem_map.mp hc
    rw [← e]
    exact Int.dvd_mul_of_dvd_left (content_dvd hd)
  have d2 : content (sc p (-1)) ∣ content p := dvd_content fun c hc => by
    have : c * -1 ∈ sc p (-1) := List.mem_map.mpr ⟨c, hc, rfl⟩
    have := content_dvd this
    have e : c = (c * -1) * -1 := by omega
    rw [e]
    exact Int.dvd_mul_of_dvd_left this
  exact Int.dvd_antisymm h2 h1 d2 d1
theorem cdv_ok {a b : List Int} (ta : Tr a) (tb : Tr b) : CdvOk a b (cdv a b) := by
  have I := common_inv ta tb
  unfold cdv
  split
  · rename_i h
    obtain ⟨h1, h2⟩ := h
    have ts : Tr (sc (common a b) (-1)) := sc_tr I.tr (by decide)
    have e : scaledL (common a b) (-1) = sc (common a b) (-1) := cut_of_tr ts
    have ev1 : ∀ x, ev (common a b) x = -1 * ev (sc (common a b) (-1)) x := fun x => by rw [ev_sc]; omega
    have ns : sc (common a b) (-1) ≠ [] := by
      intro z
      have := congrArg List.length z
      rw [sc_len] at this
      simp at this
      exact h1 this
    rw [e]
    refine ⟨ts, fun _ => ns, fun _ => by rw [content_neg]; exact I.pr h1, I.l.divScale ev1, I.r.divScale ev1, fun d e1 e2 => Dv.scale (k := -1) (by decide) ev1 (I.most d e1 e2), fun _ => ?_⟩
    unfold lead at *
    rw [sc_len, sc_get]
    omega
  · rename_i h
    refine ⟨I.tr, I.ne, I.pr, I.l, I.r, I.most, fun hn => ?_⟩
    have h1 := lead_ne I.tr hn
    have : ¬ lead (common a b) < 0 := fun z => h ⟨hn, z⟩
    omega
theorem cdv_nil : cdv [] [] = [] := rfl
theorem dv_grT (a f : List Int) : Dv f (grT a f) := ⟨1, a, by decide, fun x => by rw [ev_grT]; grind⟩
/-- a number of a primitive one that n does not divide -/
theorem not_all {g : List Int} {n : Int} (h : Pr g) (hg : g ≠ []) (hn : 1 < n) : ∃ c ∈ g, c % n ≠ 0 := by
  apply Classical.byContradiction
  intro z
  have : ∀ c ∈ g, n ∣ c := fun c hc => by
    apply Int.dvd_of_emod_eq_zero
    apply Classical.byContradiction
    intro w
    exact z ⟨c, hc, w⟩
  have d := dvd_content this
  rw [h hg] at d
  have := Int.le_of_dvd (by decide) d
  omega
theorem com_bd : ∀ (k : Nat) {a b : List Int}, Tr a → Tr b → Bd 13500 a → Bd 13500 b → CoOk k a b → Bd 13500 (com a b)
  | 0, a, b, _, _, ha, _, h => by
    have h : b = [] := h
    rw [h]; exact ha
  | k + 1, a, b, ta, tb, ha, hb, h => by
    by_cases hn : b = []
    · rw [hn]; exact ha
    · rcases h with h | ⟨_, h2, h3⟩
      · exact absurd h hn
      · have tm := pmod_tr ta hn
        rw [com_next ta tb hn]
        refine com_bd k tb (prim_tr tm) hb ?_ h3
        rcases h2 with h2 | h2
        · exact (bd_one (pr_prim tm) (by rw [prim_len]; exact h2)).mono (by decide)
        · exact h2.prim tm
theorem cdv_bd {a b : List Int} (h : Bd 13500 (common a b)) : Bd 13501 (cdv a b) := by
  unfold cdv
  split
  · exact (Bd.sc (m := 1) h (by decide)).cut
  · exact h.mono (by decide)
/-! ### the law's sizes -/
theorem bd_mul_aux {n m : Nat} : ∀ {a b : List Int}, Bd n a → Bd m b → Bd (n + m + a.length) (mul a b)
  | [], b, _, _ => Bd.nil _
  | c :: a, b, ha, hb => by
    have h1 : Bd n a := fun k => ha (k + 1)
    have ih := bd_mul_aux h1 hb
    have h0 : c.natAbs < 2 ^ n := ha 0
    have i2 : Bd (n + m + a.length) (0 :: mul a b) := fun k => by
      cases k with
      | zero => exact Nat.two_pow_pos _
      | succ k => exact ih k
    have := Bd.add ((hb.sc h0).mono (show m + n ≤ n + m + a.length by omega)) i2 (Nat.le_refl _) (Nat.le_refl _)
    exact this
theorem map_div_get (p : List Int) (g : Int) (k : Nat) : cf (p.map (· / g)) k = cf p k / g := by
  unfold cf
  rw [List.getD_eq_getElem?_getD, List.getD_eq_getElem?_getD, List.getElem?_map]
  cases p[k]? <;> simp
/-! ### a division as the program goes through it: sizes -/
structure PSt (n m : Nat) (ns ms : List Int) (s : Trip) (j : Nat) : Prop where
  inv : PInv ns ms s
  en : pend ms s = pd ns ms
  le : j + s.2.2.length ≤ ns.length
  lq : s.2.1.length ≤ ns.length
  br : Bd (n + j * (m + 1)) s.2.2
  bq : Bd (n + j * (m + 1)) s.2.1
  bf : s.1.natAbs < 2 ^ (j * m + 1)
theorem PSt.start {n m : Nat} {ns ms : List Int} (t : Tr ns) (h : Bd n ns) : PSt n m ns ms (1, [], ns) 0 :=
  ⟨PInv.start t, rfl, by simp, by simp, by simpa using h, Bd.nil _, by show (1 : Int).natAbs < 2 ^ (0 * m + 1); rw [Nat.zero_mul]; decide⟩
theorem PSt.next {n m : Nat} {ns ms : List Int} {s : Trip} {j : Nat} (i : PSt n m ns ms s j) (hb : ms ≠ []) (h' : Bd m ms) (hl : ¬ s.2.2.length < ms.length) : PSt n m ns ms (pnext ms s) (j + 1) := by
  have h0 : ms.length ≠ 0 := by simpa using hb
  have hs : (pnext ms s).2.2.length < s.2.2.length := pstep_len hb (by omega)
  have e1 : n + (j + 1) * (m + 1) = (n + j * (m + 1) + m) + 1 := by rw [Nat.add_mul]; omega
  have bl : Bd (n + j * (m + 1)) [lead s.2.2] := Bd.of fun c hc => by
    have : c = lead s.2.2 := by simpa using hc
    rw [this]
    exact i.br.lead
  refine ⟨i.inv.next, by rw [← pend_next hb hl]; exact i.en, ?_, ?_, ?_, ?_, ?_⟩
  · have := i.le
    omega
  · have h1 := cut_len (add (cut (sc s.2.1 (lead ms))) (sh [lead s.2.2] (s.2.2.length - ms.length)))
    rw [add_len, sh_len] at h1
    have h2 := cut_len (sc s.2.1 (lead ms))
    rw [sc_len] at h2
    have h3 := i.lq
    have h4 := i.le
    show (cut (add (cut (sc s.2.1 (lead ms))) (sh [lead s.2.2] (s.2.2.length - ms.length)))).length ≤ ns.length
    simp only [List.length_cons, List.length_nil] at h1
    omega
  · rw [e1]
    exact Bd.pstep i.br h' i.br.lead h'.lead (Nat.le_refl _) (by omega)
  · rw [e1]
    exact (Bd.add ((i.bq.sc h'.lead).cut) (bl.sh _) (Nat.le_refl _) (by omega)).cut
  · have := abs_mul_lt i.bf h'.lead
    have e2 : (j + 1) * m + 1 = j * m + 1 + m := by rw [Nat.add_mul]; omega
    rw [e2]
    exact this
theorem PSt.room {n m : Nat} {ns ms : List Int} {s : Trip} {j : Nat} (i : PSt n m ns ms s j) (h : n + (ns.length + 1) * (m + 1) ≤ 60000000) : n + j * (m + 1) ≤ 60000000 ∧ j * m + 1 ≤ 60000000 ∧ m ≤ 60000000 := by
  have h1 : j ≤ ns.length := by have := i.le; omega
  have h2 := Nat.mul_le_mul_right (m + 1) (show j ≤ ns.length + 1 by omega)
  have h3 : j * m ≤ j * (m + 1) := Nat.mul_le_mul_left _ (by omega)
  have h4 : 1 * (m + 1) ≤ (ns.length + 1) * (m + 1) := Nat.mul_le_mul_right _ (by omega)
  have h5 : (j + 1) * (m + 1) ≤ (ns.length + 1) * (m + 1) := Nat.mul_le_mul_right _ (by omega)
  have e : (j + 1) * (m + 1) = j * (m + 1) + (m + 1) := by rw [Nat.add_mul]; omega
  omega
end PM

set_option linter.all false
namespace PM
theorem cut_pop {l : List Int} (hn : l ≠ []) (h : lead l = 0) : cut l.dropLast = cut l := by
  have hp : 0 < l.length := List.length_pos_iff.mpr hn
  rw [List.dropLast_eq_take]
  refine eq_of_ev (tr_cut _) (tr_cut _) fun x => ?_
  rw [ev_cut, ev_cut]
  have e : l = l.take (l.length - 1) ++ [0] := by
    have h1 : l.getLast hn = 0 := by
      have h2 := last_get hn
      rw [List.getLast?_eq_getLast hn] at h2
      rw [Option.some.inj h2]
      exact h
    have h3 := List.dropLast_concat_getLast hn
    rw [h1, List.dropLast_eq_take] at h3
    exact h3.symm
  have ev0 : ∀ (p : List Int), ev (p ++ [0]) x = ev p x := fun p => by
    induction p with
    | nil => simp [ev]
    | cons c p ih => rw [List.cons_append]; simp only [ev]; rw [ih]
  conv => rhs; rw [e]
  rw [ev0]
/-- the rest as the law's own division has it, j of other's numbers done -/
def leftG (r b : List Int) (k j i : Nat) : Int := cf r i * lead b - (if k ≤ i ∧ i < k + j then lead r * cf b (i - k) else 0)
theorem leftG_zero (r b : List Int) (k i : Nat) : leftG r b k 0 i = cf (sc r (lead b)) i := by
  unfold leftG
  rw [if_neg (by omega), sc_get]
  omega
theorem leftG_next (r b : List Int) (k j i : Nat) : leftG r b k (j + 1) i = if i = k + j then leftG r b k j (k + j) - lead r * cf b j else leftG r b k j i := by
  unfold leftG
  by_cases e : i = k + j
  · rw [if_pos e, e, if_pos (by omega), if_neg (by omega), show k + j - k = j by omega]
    omega
  · rw [if_neg e]
    by_cases h : k ≤ i ∧ i < k + j
    · rw [if_pos h, if_pos (by omega)]
    · rw [if_neg h, if_neg (by omega)]
theorem left_end {r b acc : List Int} (hl : b.length ≤ r.length) (ha : acc.length = r.length) (h : ∀ i, cf acc i = leftG r b (r.length - b.length) b.length i) : cut acc = pstep r b := by
  unfold pstep
  congr 1
  apply ext_cf
  · rw [add_len, sc_len, sc_len, sh_len, ha]
    omega
  · intro i _
    rw [h i, add_get, sc_get, sc_get, sh_get]
    unfold leftG
    by_cases h1 : r.length - b.length ≤ i
    · by_cases h2 : i < r.length - b.length + b.length
      · rw [if_pos ⟨h1, h2⟩, if_neg (by omega)]
        grind
      · rw [if_neg (by omega), if_neg (by omega), cf_big (p := b) (by omega)]
        simp
    · rw [if_neg (by omega), if_pos (by omega)]
      simp
end PM

set_option linter.all false
set_option maxRecDepth 100000
namespace PM
theorem prs86 : prsL 8 86 11 = true := by decide +kernel
/-- a product as the law makes it -/
structure LeftG (l : List Int) : Prop where
  tr : Tr l
  len : l.length ≤ 8
  bd : Bd 86 l
  ld : (lead l).natAbs < 2 ^ 11
theorem lead_mul {p q : List Int} (hp : p ≠ []) (hq : q ≠ []) : lead (mul p q) = lead p * lead q := by
  have h1 := List.length_pos_iff.mpr hp
  have h2 := List.length_pos_iff.mpr hq
  have h3 := mul_last p q hp hq
  unfold lead
  rw [mul_len p q hp hq, ← h3]
  congr 1
theorem left_g {ns fs : List Int} (t1 : Tr ns) (t2 : Tr fs) (l1 : ns.length ≤ 6) (l2 : fs.length ≤ 3) (b1 : Bd 40 ns) (b2 : Bd 40 fs) (d1 : (lead ns).natAbs ≤ 35) (d2 : (lead fs).natAbs ≤ 35) : LeftG (grT ns fs) := by
  refine ⟨grT_tr t1 t2, ?_, ?_, ?_⟩
  · unfold grT
    split
    · simp
    · rename_i h
      rw [mul_len ns fs (fun e => h (.inl e)) fun e => h (.inr e)]
      omega
  · unfold grT
    split
    · exact Bd.nil _
    · exact (bd_mul_aux b1 b2).mono (by omega)
  · unfold grT
    split
    · decide
    · rename_i h
      rw [lead_mul (fun e => h (.inl e)) fun e => h (.inr e), Int.natAbs_mul]
      have := Nat.mul_le_mul d1 d2
      have e : 2 ^ 11 = 2048 := by decide
      omega
theorem cdv_co {a b : List Int} (A : LeftG a) (B : LeftG b) : CoOk 11 (prim a) (prim b) :=
  coOk_both prs86 (by decide) (by decide) (prim_tr A.tr) (prim_tr B.tr) (by rw [prim_len]; exact A.len) (by rw [prim_len]; exact B.len) (A.bd.prim A.tr) (B.bd.prim B.tr) (Nat.lt_of_le_of_lt (lead_prim A.tr) A.ld) (Nat.lt_of_le_of_lt (lead_prim B.tr) B.ld)
theorem LeftG.pr {a : List Int} (A : LeftG a) : PrOk a := .inr (A.bd.mono (by decide))
theorem cdv_b {a b : List Int} (A : LeftG a) (B : LeftG b) : Bd 13501 (cdv a b) :=
  cdv_bd (com_bd 11 (prim_tr A.tr) (prim_tr B.tr) ((A.bd.prim A.tr).mono (by decide)) ((B.bd.prim B.tr).mono (by decide)) (cdv_co A B))
theorem cdv_len {a b : List Int} (A : LeftG a) (B : LeftG b) : (cdv a b).length ≤ 8 := by
  have c := cdv_ok A.tr B.tr
  by_cases hg : cdv a b = []
  · rw [hg]; simp
  · by_cases ha : a = []
    · by_cases hb : b = []
      · rw [ha, hb, cdv_nil] at hg
        exact absurd rfl hg
      · exact Nat.le_trans (c.r.len c.tr B.tr hg hb) B.len
    · exact Nat.le_trans (c.l.len c.tr A.tr hg ha) A.len
theorem pd_lg {a b : List Int} (A : LeftG a) (B : LeftG b) : PdOk a (cdv a b) := ⟨86, 13501, A.bd, cdv_b A B, by
  have := Nat.mul_le_mul_right (13501 + 1) (show a.length + 1 ≤ 9 by have := A.len; omega)
  omega⟩
theorem pd_rg {a b : List Int} (A : LeftG a) (B : LeftG b) : PdOk b (cdv a b) := ⟨86, 13501, B.bd, cdv_b A B, by
  have := Nat.mul_le_mul_right (13501 + 1) (show b.length + 1 ≤ 9 by have := B.len; omega)
  omega⟩
theorem pd_gf {a b f : List Int} (A : LeftG a) (B : LeftG b) (F : Bd 40 f) : PdOk (cdv a b) f := ⟨13501, 40, cdv_b A B, F, by
  have := Nat.mul_le_mul_right (40 + 1) (show (cdv a b).length + 1 ≤ 9 by have := cdv_len A B; omega)
  omega⟩
/-- some number of a primitive one is left over by n -/
theorem some_rest {g : List Int} {n : Int} (h : Pr g) (hg : g ≠ []) (hn : 1 < n) : ∃ i, i < g.length ∧ cf g i % n ≠ 0 := by
  obtain ⟨c, hc, h1⟩ := not_all h hg hn
  obtain ⟨i, hi, e⟩ := List.mem_iff_getElem.mp hc
  refine ⟨i, hi, ?_⟩
  unfold cf
  rw [List.getD_eq_getElem?_getD, List.getElem?_eq_getElem hi]
  show g[i] % n ≠ 0
  rw [e]
  exact h1
theorem ev_bd {n : Nat} {x : Int} (hx : x.natAbs ≤ 7) : ∀ {p : List Int}, Bd n p → (ev p x).natAbs < 2 ^ n * 8 ^ p.length
  | [], _ => by
    show (0 : Int).natAbs < 2 ^ n * 8 ^ 0
    have := Nat.two_pow_pos n
    simpa using this
  | c :: p, h => by
    have h0 : c.natAbs < 2 ^ n := h 0
    have ih := ev_bd hx (p := p) (fun k => h (k + 1))
    show (c + x * ev p x).natAbs < 2 ^ n * 8 ^ (p.length + 1)
    have e1 := Int.natAbs_add_le c (x * ev p x)
    rw [Int.natAbs_mul] at e1
    have e2 : x.natAbs * (ev p x).natAbs ≤ 7 * (2 ^ n * 8 ^ p.length) := Nat.mul_le_mul hx (Nat.le_of_lt ih)
    have e3 : 2 ^ n * 1 ≤ 2 ^ n * 8 ^ p.length := Nat.mul_le_mul_left _ (Nat.pow_pos (by decide))
    rw [Nat.pow_succ, ← Nat.mul_assoc]
    omega
end PM

set_option Elab.async false
set_option linter.all false
set_option maxRecDepth 100000
set_option maxHeartbeats 2000000
/-! Further rules over the hand layer. -/
namespace L2
open PySem PySem.Spec PyProof.Rows
/-! ### defs by name -/
/-- a def that may be called by its name -/
structure Cl (P : Program) (w : World) (K : PySem.W.Frag) (mg : Str → Option Value) (base : Heap) (k : Nat) (x : Str) (ps : List Str) (sp : Sp) : Prop where
  ex : ∃ (f : Addr) (fd : FuncData), FnOk P w K mg base (L2.CX P w) k f fd ps sp ∧ mg x = some (.ref f) ∧ PySem.W.keepIn K (.ref f) = true ∧ Binds K fd ps [] ∧ ∃ (oc : Value) (od : Option Addr) (osl : Array (Option Value)), K.lookup f = some ⟨oc, od, .func fd, osl⟩
/-- a def of the module's top -/
structure Df (K : PySem.W.Frag) (mg : Str → Option Value) (x : Str) (st : Stmt) : Prop where
  ex : ∃ (f : Addr) (fd : FuncData), Fun K x x st f fd ∧ mg x = some (.ref f)
section
variable {P : Program} {w : World} {K : PySem.W.Frag} {mg : Str → Option Value} {base : Heap}
theorem _root_.L2.Fun.look {x : Str} {st : Stmt} {f : Addr} {fd : FuncData} (F : Fun K x x st f fd) : ∃ (oc : Value) (od : Option Addr) (osl : Array (Option Value)), K.lookup f = some ⟨oc, od, .func fd, osl⟩ := by
  obtain ⟨oc, od, kV, doc, pm, an, cdv, ct, osl, rfl, lk, hcd⟩ := F.ex
  exact ⟨oc, od, osl, lk⟩
theorem cl_of {x : Str} {st : Stmt} {N ps : List Str} {k : Nat} {sp : Sp} (D : Df K mg x st) (S : FnScope N ps (defScope st)) (len : ∀ vs H Q E, sp vs H Q E → vs.length = ps.length)
    (hb : ∀ (kV doc pm : Value) (an : Option Addr) (cdv ct : Value) (us : List Value), us.length = ps.length → bindArgs (PySem.W.fnOf x x (defArgs st) (defBody st) (defScope st) .none kV doc pm an cdv ct) ⟨us, []⟩ = pure (ps.zip us))
    (hbody : ∀ (f : Addr) (cdv : Value) (A : Around) (outer : List Env) (s : Shared) (H : Hp) (vs : List V) (Q : VK) (E : XK), Room k (A.deeper (envOfC x (defScope st) s.heap.objs.size f cdv)) → sp vs H Q E →
      ∃ t, PSs (cxOf (L2.CX P w) P w K mg base N x (defScope st) f cdv A outer s H E) (defBody st) t ∧ t { nx := fun _ H' => Q .non H', rt := Q } (start N vs) H) : Cl P w K mg base (k + 1) x ps sp := by
  obtain ⟨f, fd, F, m⟩ := D.ex
  exact ⟨f, fd, F.okX S len (fun cdv A outer s H vs Q E hr h => hbody f cdv A outer s H vs Q E hr h), m, F.kp, F.binds hb, F.look⟩
/-- what raises nothing keeps its promise among those that may -/
theorem FnOk.lift {k : Nat} {f : Addr} {fd : FuncData} {ps : List Str} {sp : Sp} {CX : CXT} (F : FnOk P w K mg base CX0 k f fd ps sp) : FnOk P w K mg base CX k f fd ps sp :=
  ⟨F.len, fun A outer s H args us vs Q E hr e0 hb r h => codeAny_mono (F.run A outer s H args us vs Q E hr e0 hb r h) fun r s' z => by
    cases r with
    | error e => exact False.elim z
    | ok fl =>
      cases fl with
      | ret u => exact z
      | next => exact z
      | brk => exact z
      | cont => exact z⟩
/-- the same for a def that raises nothing -/
theorem cl_of0 {x : Str} {st : Stmt} {N ps : List Str} {k : Nat} {sp : Sp} (D : Df K mg x st) (S : FnScope N ps (defScope st)) (len : ∀ vs H Q E, sp vs H Q E → vs.length = ps.length)
    (hb : ∀ (kV doc pm : Value) (an : Option Addr) (cdv ct : Value) (us : List Value), us.length = ps.length → bindArgs (PySem.W.fnOf x x (defArgs st) (defBody st) (defScope st) .none kV doc pm an cdv ct) ⟨us, []⟩ = pure (ps.zip us))
    (hbody : ∀ (f : Addr) (cdv : Value) (A : Around) (outer : List Env) (s : Shared) (H : Hp) (vs : List V) (Q : VK) (E : XK), Room k (A.deeper (envOfC x (defScope st) s.heap.objs.size f cdv)) → sp vs H Q E →
      ∃ t, PSs (cxOf CX0 P w K mg base N x (defScope st) f cdv A outer s H E).nox (defBody st) t ∧ t { nx := fun _ H' => Q .non H', rt := Q } (start N vs) H) : Cl P w K mg base (k + 1) x ps sp := by
  obtain ⟨f, fd, F, m⟩ := D.ex
  exact ⟨f, fd, FnOk.lift (F.ok S len (fun cdv A outer s H vs Q E hr h => hbody f cdv A outer s H vs Q E hr h)), m, F.kp, F.binds hb, F.look⟩
theorem Cl.mono {j k : Nat} {x : Str} {ps : List Str} {sp : Sp} (c : Cl P w K mg base j x ps sp) (h : j ≤ k) : Cl P w K mg base k x ps sp := by
  obtain ⟨f, fd, F, m, kp, b, l⟩ := c.ex
  exact ⟨f, fd, F.mono h, m, kp, b, l⟩
end
section
variable {X : Cx} {j k : Nat} {x : Str} {ps : List Str} {sp : Sp} {p pos : Pos} {e : Expr} {es : List Expr} {t : TA}
/-- x(e, ..), which raises nothing -/
theorem pe_f (c : Cl X.prog X.w X.K X.mg X.base k x ps sp) (hr : Room j X.A) (ha : PA X (e :: es) t) (hk : k ≤ j := by decide) (hg : Gl X x := by rfl)
    (hdb : (x == ("__debug__" : Str)) = false := by decide) (he : starEach (e :: es) X.env = (false, eval e X.env) :: starEach es X.env := by rfl) (hpl : (backTo pos (starEach es X.env)).any (·.1) = false := by rfl) :
    PE X (.Call (.Name x p) (e :: es) [] pos) (tCall sp [] E0 t) := by
  obtain ⟨f, fd, F, m, kp, b, _⟩ := c.ex
  exact pe_call F (hr.mono hk) hg m kp b .nil passL ha hdb he hpl
/-- .. which may raise what E says -/
theorem pe_fX {E : XK} (c : Cl X.prog X.w X.K X.mg X.base k x ps sp) (hr : Room j X.A) (hx : Passes (L2.CX X.prog X.w) X E) (ha : PA X (e :: es) t) (hk : k ≤ j := by decide) (hg : Gl X x := by rfl)
    (hdb : (x == ("__debug__" : Str)) = false := by decide) (he : starEach (e :: es) X.env = (false, eval e X.env) :: starEach es X.env := by rfl) (hpl : (backTo pos (starEach es X.env)).any (·.1) = false := by rfl) :
    PE X (.Call (.Name x p) (e :: es) [] pos) (tCall sp [] E t) := by
  obtain ⟨f, fd, F, m, kp, b, _⟩ := c.ex
  exact pe_call F (hr.mono hk) hg m kp b .nil hx ha hdb he hpl
end
/-- keywords alone, from the last parameter to the first -/
def kwR {α : Type} : List α → List α → List α
  | [], ws => ws.reverse
  | _ :: _, _ => []
theorem vals_rev : ∀ {vs : List V} {us : List Value}, Vals vs us → Vals vs.reverse us.reverse
  | _, _, .nil => .nil
  | _, _, .cons r t => by
    rw [List.reverse_cons, List.reverse_cons]
    exact (vals_rev t).append (.cons r .nil)
/-- how a def's two parameters are bound by their names, the second one first -/
structure KwB (K : PySem.W.Frag) (mg : Str → Option Value) (x p1 p2 : Str) : Prop where
  b : ∀ (f : Addr) (fd : FuncData), mg x = some (.ref f) → (∃ (oc : Value) (od : Option Addr) (osl : Array (Option Value)), K.lookup f = some ⟨oc, od, .func fd, osl⟩) → KBinds K fd [p1, p2] [p2, p1] kwR kwR
theorem Df.kw {K : PySem.W.Frag} {mg : Str → Option Value} {x p1 p2 : Str} {st : Stmt} (D : Df K mg x st)
    (h : ∀ (kV doc pm : Value) (an : Option Addr) (cdv ct u v : Value), bindArgs (PySem.W.fnOf x x (defArgs st) (defBody st) (defScope st) .none kV doc pm an cdv ct) ⟨[], [(p2, u), (p1, v)]⟩ = pure [(p1, v), (p2, u)]) : KwB K mg x p1 p2 := by
  obtain ⟨f, fd, F, m⟩ := D.ex
  obtain ⟨oc, od, kV, doc, pm, an, cdv, ct, osl, rfl, lk, hcd⟩ := F.ex
  refine ⟨fun f' fd' m' l' => ⟨fun s us ws hK hl => ?_, fun {vs us zs ws} r rz => ?_⟩⟩
  · obtain ⟨oc', od', osl', l'⟩ := l'
    rw [m] at m'
    cases m'
    rw [lk] at l'
    cases l'
    cases us with
    | cons _ _ => exact absurd hl (by simp [kwR])
    | nil =>
      have e2 : ws.length = 2 := by simpa [kwR] using hl
      match ws, e2 with
      | [u, v], _ => exact .of_eq (h _ _ _ _ _ _ _ _)
  · cases r with
    | nil => exact vals_rev rz
    | cons _ _ => exact .nil
section
variable {X : Cx} {j k : Nat} {x p1 p2 : Str} {sp : Sp} {p pos : Pos} {kws : List Keyword} {tk : TA}
/-- x(p2 = e2, p1 = e1), which raises nothing -/
theorem pe_fK2 (c : Cl X.prog X.w X.K X.mg X.base k x [p1, p2] sp) (hb : KwB X.K X.mg x p1 p2) (hr : Room j X.A) (hkw : PK X kws tk) (hk : k ≤ j := by decide) (hg : Gl X x := by rfl)
    (hdb : (x == ("__debug__" : Str)) = false := by decide) (hall : (backToKw pos (keywordEach kws X.env)).all (·.1.isSome) = true := by rfl) (hks : (backToKw pos (keywordEach kws X.env)).filterMap (·.1) = [p2, p1] := by rfl)
    (hpl : ((backTo pos (starEach [] X.env)).any (·.1) || (backToKw pos (keywordEach kws X.env)).any (·.1.isNone)) = false := by rfl) : PE X (.Call (.Name x p) [] kws pos) (fun σ H Q => tk σ H fun zs H2 => sp zs.reverse H2 Q E0) := by
  obtain ⟨f, fd, F, m, kp, b, l⟩ := c.ex
  refine ⟨fun pins s σ H Q I h => ?_⟩
  refine wpAny_Call_Name_kw (ld_glob I hg m ?_ hdb)
  refine PySem.W.callWith_KW0 (h₀ := X.base) I.ok.mod.kin kp hall (thn (hkw.run pos pins s σ H _ I h) fun ws s2 ⟨zs, H2, I2, rz, q2⟩ => ⟨I2.kIn, ?_⟩) hpl
  rw [hks]
  exact run_fnk (us := []) (vs := []) F (hr.mono hk) (hb.b f fd m l) passL I2 .nil rz q2
end
theorem Same.tup {K : PySem.W.Frag} {H H' : Hp} {a : Addr} {xs : List V} (e : Same H H') (h : SqT K H a xs) : SqT K H' a xs := by
  rcases h with (h | ⟨o, h⟩) | h
  · exact .inl (.inl (e _ _ h))
  · exact .inl (.inr ⟨o, e _ _ h⟩)
  · exact .inr h
theorem same_upd {H : Hp} {p : Addr} {o : HO} (h : H p = none) : Same H (upd H p o) := fun b x e => by
  rw [upd_ne (ne_of_none e h)]
  exact e
/-! ### more operators -/
/-- // by a positive divisor, where C divides by itself -/
theorem op_fdivP {X : Cx} : OpR X (binaryOp .FloorDiv) (rI CDivP fun i j => .int (i / j)) := opI fun i j _ _ _ _ _ hc q => by
  have h1 : (0 : Int) < j := hc.1
  exact floordiv_int (by omega) (by rw [Int.fdiv_eq_ediv_of_nonneg i (by omega)]; exact q) (.inl hc.2)
/-- *, where it isn't too long -/
theorem op_mulK {X : Cx} : OpR X (binaryOp .Mult) (rI IntMulOk fun i j => .int (i * j)) := opI fun _ _ _ _ _ _ _ hc q => mul_int q hc
/-- a list's item, for an item's own change -/
def rIxLN (K : PySem.W.Frag) : V → V → Hp → VK → Prop := fun x y H Q => ∃ (p : Addr) (xs : List V) (j : Nat) (v : V), x = .ref p ∧ y = .int (j : Int) ∧ SqL K H p xs ∧ xs[j]? = some v ∧ Q v H
theorem pget_list {X : Cx} : PGet X (rIxLN X.K) := by
  intro pins s σ H x y v u Q I rx ry h
  obtain ⟨p, xs, j, z, rfl, rfl, hl, ha, q⟩ := h
  cases rx
  obtain ⟨t, rfl⟩ := ry
  obtain ⟨its, rv, pl, hz⟩ := I.list hl
  obtain ⟨w', hw, rw'⟩ := rv.get ha
  have e := rv.length
  have hn := line63
  obtain ⟨hj, _⟩ := List.getElem?_eq_some_iff.mp ha
  exact wpAny_getItem_list (items := its.toArray) pl.isList (Int.natCast_nonneg _) (by omega) (x := w') (by simpa using hw) ⟨z, H, I, rw', q⟩
/-! ### slices of tuples by a step -/
section
variable {prog : Program} {w : World} {A : Around} {E : Value → Shared → Prop} {s : Shared}
theorem slicePartS_ {v : Value} {o : Option Int} {Q : Option Int → Shared → Prop} (p : IsPart v o) (h : Q o s) : wpAny (model prog w) A (Builtin.Slice.slicePartIndex v) Q E s := HT.slicePart_ p h
theorem sliceApplied_step {sl : Addr} {vl vu vs : Value} {lo hi : Option Int} {st : Int} {n : Nat} {Q : Int × Int × Nat → Shared → Prop} (hs : s.heap.IsSliceOf sl vl vu vs) (pl : IsPart vl lo) (pu : IsPart vu hi) (ps : IsPart vs (some st)) (h0 : st ≠ 0)
    (h : Q ((Builtin.Slice.sliceAdjust lo hi st (n : Int)).1, st, Builtin.Slice.slicePlaces (Builtin.Slice.sliceAdjust lo hi st (n : Int)).1 (Builtin.Slice.sliceAdjust lo hi st (n : Int)).2 st) s) : wpAny (model prog w) A (Builtin.Slice.sliceApplied (.ref sl) (pure (n : Int))) Q E s := by
  obtain ⟨os, hos, hcs, hds⟩ := id hs
  unfold Builtin.Slice.sliceApplied Builtin.Slice.sliceFields
  refine wpAny_bind (wpAny_bind (wpAny_field hos hds (x := vl) rfl (wpAny_bind (wpAny_field hos hds (x := vu) rfl (wpAny_bind (wpAny_field hos hds (x := vs) rfl (wpAny_pure ?_)))))))
  refine wpAny_bind (slicePartS_ ps ?_)
  show wpAny _ _ (if (st == 0) = true then _ else _) _ _ s
  rw [if_neg (by simpa using h0)]
  refine wpAny_bind (slicePartS_ pl (wpAny_bind (slicePartS_ pu (wpAny_bind (wpAny_pure ?_)))))
  exact wpAny_pure h
/-- what a slice with a step takes -/
def stepV {α : Type} (xs : List α) (lo hi : Option Int) (st : Int) : List α :=
  (List.range (Builtin.Slice.slicePlaces (Builtin.Slice.sliceAdjust lo hi st (xs.length : Int)).1 (Builtin.Slice.sliceAdjust lo hi st (xs.length : Int)).2 st)).filterMap fun (m : Nat) => xs[((Builtin.Slice.sliceAdjust lo hi st (xs.length : Int)).1 + (m : Int) * st).toNat]?
theorem getItem_tuple_step {t sl : Addr} {items : Array Value} {vl vu vs : Value} {lo hi : Option Int} {st : Int} {Q : Value → Shared → Prop} (ht : IsTup s.heap t items) (hs : s.heap.IsSliceOf sl vl vu vs) (pl : IsPart vl lo) (pu : IsPart vu hi) (ps : IsPart vs (some st)) (h0 : st ≠ 0) (h1 : st ≠ 1)
    (h : Q (.ref s.heap.objs.size) { s with heap := s.heap.push { cls := .type "tuple", data := .seq (stepV items.toList lo hi st).toArray } })
    (hsz : (stepV items.toList lo hi st).length ≤ sizeLine) : wpAny (model prog w) A (getItem (.ref t) (.ref sl)) Q E s := by
  obtain ⟨os, hos, hcs, hds⟩ := id hs
  have hTs : s.TypeIs (.ref sl) "slice" := ⟨os, hos, hcs⟩
  have htake : sizeOk (.seq (stepV items.toList lo hi st).toArray) := by
    show (stepV items.toList lo hi st).toArray.size ≤ sizeLine
    rw [List.size_toArray]
    exact hsz
  unfold getItem
  try with_reducible refine wpAny_holding ?_
  first | refine wpAny_bind (wpAny_pure ?_) | skip
  refine wpAny_bind (wpAny_sequenceKey ht.typeIs (by decide) ?_)
  refine wpAny_bind (wpAny_callSpecial?_slot (name := Str.ofString "__getitem__") ht.typeIs PyProof.Rows.slot_tuple_getitem
    (wpAny_call_entry PyProof.Rows.slot_tuple_getitem ht.typeIs entry_tuple_getitem ?_ (args_tuple_getitem _ _)))
  show wpAny _ _ (Builtin.Tuple.tupleItemsOf (.ref t) >>= _) _ _ s
  refine wpAny_bind (tupleItemsOf_ ht ?_)
  refine wpAny_bind (wpAny_typeOf hTs ?_)
  rw [if_pos (by decide)]
  refine wpAny_bind (sliceApplied_step (n := items.size) hs pl pu ps h0 ?_)
  have hno : ¬ (((Builtin.Slice.sliceAdjust lo hi st (items.size : Int)).1 == 0 && st == 1 && (Builtin.Slice.slicePlaces (Builtin.Slice.sliceAdjust lo hi st (items.size : Int)).1 (Builtin.Slice.sliceAdjust lo hi st (items.size : Int)).2 st) == items.size) = true) := by
    intro q
    rw [Bool.and_eq_true, Bool.and_eq_true] at q
    exact h1 (eq_of_beq q.1.2)
  show wpAny _ _ (if ((Builtin.Slice.sliceAdjust lo hi st (items.size : Int)).1 == 0 && st == 1 && (Builtin.Slice.slicePlaces (Builtin.Slice.sliceAdjust lo hi st (items.size : Int)).1 (Builtin.Slice.sliceAdjust lo hi st (items.size : Int)).2 st) == items.size) = true then _ else _) _ _ s
  rw [if_neg hno]
  have e : ((List.range (Builtin.Slice.slicePlaces (Builtin.Slice.sliceAdjust lo hi st (items.size : Int)).1 (Builtin.Slice.sliceAdjust lo hi st (items.size : Int)).2 st)).filterMap fun (m : Nat) => items[((Builtin.Slice.sliceAdjust lo hi st (items.size : Int)).1 + (m : Int) * st).toNat]?).toArray = (stepV items.toList lo hi st).toArray := by
    unfold stepV
    simp only [Array.length_toList, Array.getElem?_toList]
  rw [e]
  first
    | exact wpAny_bind (m := Builtin.Tuple.tupleExact _) (wpAny_newObj_type (wpAny_pure ⟨_, rfl, wpAny_pure h⟩) htake)
    | exact wpAny_bind (m := Builtin.Tuple.tupleExact _) (wpAny_newObj_type (wpAny_bind (wpAny_pure (wpAny_pure ⟨_, rfl, wpAny_pure h⟩))) htake)
    | exact wpAny_bind (wpAny_bind (m := Builtin.Tuple.tupleExact _) (wpAny_newObj_type (wpAny_pure (wpAny_pure ⟨_, rfl, wpAny_pure h⟩)) htake))
    | exact wpAny_bind (wpAny_bind (m := Builtin.Tuple.tupleExact _) (wpAny_newObj_type (wpAny_pure ⟨_, rfl, wpAny_pure h⟩) htake))
end
/-- a filtered map of numbers, of values and of what they stand for -/
theorem vals_pick {xs : List V} {its : List Value} (r : Vals xs its) (f : Nat → Nat) : ∀ l : List Nat, Vals (l.filterMap fun m => xs[f m]?) (l.filterMap fun m => its[f m]?)
  | [] => .nil
  | m :: l => by
    have ih := vals_pick r f l
    simp only [List.filterMap_cons]
    cases e : xs[f m]? with
    | none =>
      rw [r.none_of e]
      exact ih
    | some x =>
      obtain ⟨u, hu, ru⟩ := r.get e
      rw [hu]
      exact .cons ru ih
theorem vals_step {xs : List V} {its : List Value} (r : Vals xs its) (lo hi : Option Int) (st : Int) : Vals (stepV xs lo hi st) (stepV its lo hi st) := by
  unfold stepV
  rw [r.length]
  exact vals_pick r _ _
/-- t[a:b:c], c neither 0 nor 1 -/
def tSlT3 (K : PySem.W.Frag) (te : TE) (tl th ts : TO) : TE := fun σ H Q => te σ H fun x H1 => tl σ H1 fun l H2 => th σ H2 fun u H3 => ts σ H3 fun c H4 => ∃ a xs st, x = .ref a ∧ SqT K H4 a xs ∧ c = some st ∧ st ≠ 0 ∧ st ≠ 1 ∧ (stepV xs l u st).length ≤ sizeLine ∧
  ∀ p, H4 p = none → Q (.ref p) (upd H4 p (.tup (stepV xs l u st)))
theorem pe_sliceT3 {X : Cx} {e : Expr} {lo hi st : Option Expr} {te : TE} {tl th ts : TO} {p3 pos : Pos} (he : PE X e te) (hl : PO X lo tl) (hh : PO X hi th) (hs : PO X st ts)
    (hsub : ∀ o i, subscripted (.Slice lo hi st p3) false o i = operate [o, i] (getItem o i) := by intros; with_unfolding_all rfl) : PE X (.Subscript e (.Slice lo hi st p3) pos) (tSlT3 X.K te tl th ts) := by
  refine ⟨fun pins s σ H Q I h => ?_⟩
  refine Subscript_ (thn (he.run pins s σ H _ I h) fun v s1 ⟨x, H1, I1, r1, q1⟩ => ?_)
  refine wpAny_Slice (thn (hl.run pins s1 σ H1 _ I1 q1) fun vl s2 ⟨l, H2, I2, pl, q2⟩ => ?_)
  refine thn (hh.run pins s2 σ H2 _ I2 q2) fun vu s3 ⟨u, H3, I3, pu, q3⟩ => ?_
  refine thn (hs.run pins s3 σ H3 _ I3 q3) fun vs s4 ⟨c, H4, I4, ps, q4⟩ => ?_
  obtain ⟨a, xs, st', ex, hx, rfl, h0, h1, hlen, q⟩ := q4
  subst ex
  cases r1
  have I5 : Inv X pins σ H4 { s4 with heap := s4.heap.push { cls := .type "slice", data := .fields #[vl, vu, vs] } } := I4.kept (t' := s4.toks) fun b ob q => Heap.get?_push_of_some _ q
  obtain ⟨its, r, ht, hz⟩ := I5.tuple hx
  have rs := vals_step r l u st'
  show wpAny (model X.prog X.w) X.A (subscriptTail e (.Slice lo hi st p3) (.ref a) (.ref s4.heap.objs.size)) (EP X pins σ Q) X.xe { s4 with heap := s4.heap.push { cls := .type "slice", data := .fields #[vl, vu, vs] } }
  refine tail_any (ops := [.ref a, .ref s4.heap.objs.size]) ht.typeIs (PyProof.Rows.slot_tuple_getitem.lookup) ?_ (hsub _ _)
  refine getItem_tuple_step ht (Heap.IsSliceOf.new _ vl vu vs) pl pu ps h0 h1 ?_ (by rw [← rs.length]; exact hlen)
  refine ⟨.ref _, _, I5.laid (t' := s4.toks) (o := .tup (stepV xs l u st')) (fun b ob q => Heap.get?_push_of_some _ q) (Nat.le_refl _) ?_, rfl, q _ (I5.hok.fresh (Nat.le_refl _))⟩
  exact ⟨hlen, _, rs, ⟨_, Heap.get?_push_size _ rfl, rfl, 0, rfl⟩⟩
/-! ### enumerate of a tuple -/
section
theorem meets_enumerate_newT {v : Value} {o : Obj} {H : Heap → Prop} (B : Begins v o H) :
    Meets (Builtin.«enumerate.__new__» ⟨[.type "enumerate", v], []⟩) (fun _ R s => H s.heap ∧
      R (.ok (.ret (.ref (s.heap.push o).objs.size))) { s with heap := (s.heap.push o).push { cls := .type "enumerate", data := .fields #[.none, .bool false, .ref s.heap.objs.size, rawInt 0, .none, .none] } }) :=
  .of_wp fun prog w A R s h => by
    obtain ⟨hp, g, d, tk, os⟩ := s; obtain ⟨h1, h⟩ := h
    have hsub := sub_enumerate
    have q1 : ∀ {A' : Around} {E : Value → Shared → Prop} {Q : Value → Shared → Prop}, Q (.ref hp.objs.size) ⟨hp.push o, g, d, tk, os⟩ → wpAny (model prog w) A' (pyIter v) Q E ⟨hp, g, d, tk, os⟩ :=
      fun q => B.iter prog w _ _ ⟨hp, g, d, tk, os⟩ _ h1 q
    wp_walk using q1
    refine wpAny_stack_any fun st => wpAny_pure ?_
    split
    · rename_i c _ _ _ _ _
      cases (c == Value.type "enumerate")
      · wp_walk using q1
        exact ⟨_, rfl, h⟩
      · wp_walk using q1
        exact ⟨_, rfl, h⟩
    · wp_walk using q1
      exact ⟨_, rfl, h⟩
variable {prog : Program} {w : World} {A : Around} {E : Value → Shared → Prop} {s : Shared}
theorem enum1_begins {v : Value} {o : Obj} {H : Heap → Prop} {Q : Value → Shared → Prop} (B : Begins v o H) (h1 : H s.heap)
    (h : ∀ h', IsEnum h' (s.heap.objs.size + 1) s.heap.objs.size 0 .none → h'.get? s.heap.objs.size = some o → h'.objs.size = s.heap.objs.size + 2 →
      (∀ b o, s.heap.get? b = some o → h'.get? b = some o) → Q (.ref (s.heap.objs.size + 1)) { s with heap := h' }) :
    wpAny (model prog w) A (call (.type "enumerate") [v]) Q E s := by
  refine callType_new F.called_enumerate (by decide) (F.typeCall_enumerate_1 _) (F.newCall_enumerate_1 _) (fun obj => F.args_object_init_2 obj _) F.entry_enumerate_new
    (meets_enumerate_newT B) ⟨h1, ?_⟩
  have hz : (s.heap.push o).objs.size = s.heap.objs.size + 1 := Heap.size_push ..
  show _ ∧ _
  rw [hz]
  have he : IsEnum ((s.heap.push o).push { cls := .type "enumerate", data := .fields #[.none, .bool false, .ref s.heap.objs.size, rawInt 0, .none, .none] }) (s.heap.objs.size + 1) s.heap.objs.size 0 .none := by
    have := Heap.get?_push_size (s.heap.push o) (o := { cls := .type "enumerate", data := .fields #[.none, .bool false, .ref s.heap.objs.size, rawInt 0, .none, .none] }) rfl
    rw [hz] at this; exact this
  refine ⟨⟨_, he, rfl⟩, h _ he (Heap.get?_push_of_some _ (Heap.get?_push_size _ B.free)) (by rw [Heap.size_push, hz]) fun b o x => Heap.get?_push_of_some _ (Heap.get?_push_of_some _ x)⟩
end
/-- the tuple at a, each item with its number in a new pair -/
def ItTe (K : PySem.W.Frag) (a : Addr) : It :=
  ⟨fun i H => ∃ (xs : List V) (x : V), SqT K H a xs ∧ xs[i]? = some x,
    fun i H v H' => ∃ T x, v = .ref T ∧ H T = none ∧ H' = upd H T (.tup [.int (i : Nat), x]) ∧ ∀ xs, SqT K H a xs → xs[i]? = some x,
    fun i H => ∃ xs : List V, SqT K H a xs ∧ xs.length = i⟩
theorem turn_enumT {P : Program} {w : World} {K : PySem.W.Frag} {elts : List Expr} {kk : Nat} {tpos : Pos} (a e it : Addr) (hai : a ≠ it) (hae : a ≠ e) :
    Turn P w K (.Tuple elts kk tpos) (ItTe K a) [e, it] e (fun i h => (∃ old, IsEnum h e it ((i : Nat) : Int) old) ∧ h.IsTupleIter it a i ∧ e ≠ it) where
  mem := by simp
  obj := fun i h st b hb => by
    obtain ⟨⟨old, he⟩, ⟨o, ho, hc, hd⟩, _⟩ := st
    have e' : b = e ∨ b = it := by simpa using hb
    rcases e' with z | z
    · rw [z]; exact ⟨_, he, fun v q => nomatch q⟩
    · rw [z]; exact ⟨o, ho, fun v q => by rw [hd] at q; cases q⟩
  keep := fun i h h' st k => let ⟨⟨old, he⟩, hi, hne⟩ := st; ⟨⟨old, k e (by simp) _ he⟩, hi.at fun o q => k it (by simp) o q, hne⟩
  item := by
    intro X hP hw hK hc i pins s σ H E I hf st hg
    subst hP hw hK
    obtain ⟨⟨old, he⟩, hit, hne⟩ := st
    obtain ⟨xs, x, hq, hx⟩ := hg
    obtain ⟨its, rv, p, hz⟩ := I.tuple hq
    obtain ⟨u, hu, ru⟩ := rv.get hx
    have hel : e < s.heap.objs.size := Heap.lt_size he
    have hil : it < s.heap.objs.size := by obtain ⟨_, q, _⟩ := hit; exact Heap.lt_size q
    have hsz : its.toArray.size = its.length := List.size_toArray
    have hlt : i < its.toArray.size := by
      rw [hsz]
      exact (List.getElem?_eq_some_iff.mp hu).1
    have hef : e ∉ [it, a] := fun z => by
      rcases List.mem_cons.mp z with z | z
      · exact hne z
      · exact hae (List.mem_singleton.mp z).symm
    have D := Draws.tuple (prog := X.prog) (w := X.w) (A := X.A.in1) (I.ok.hd hc) it a hai its.toArray
    refine wpAny_pyNext_enum_itemC D he ⟨hit, p⟩ hlt hne hef fun y h' tk hy ho hst' hT hsz2 hk => ?_
    have hy2 : its.toArray[i]? = some y := hy
    have ey : y = u := by
      have : its[i]? = some y := by simpa using hy2
      rw [hu] at this
      exact (Option.some.inj this).symm
    subst ey
    refine ⟨_, rfl, wpAny_letOwnedTupleGo_enum (s := { s with heap := h', toks := tk + 1 }) ho fun h'' he' sb => ?_⟩
    have hT2 : h''.get? s.heap.objs.size = some { cls := .type "tuple", data := .seq #[.int i tk, y] } := (sb.2 _ (Nat.ne_of_gt hel)).trans hT
    have new : ObjOk X.prog X.w (upd H s.heap.objs.size (.tup [.int (i : Nat), x])) h'' s.heap.objs.size (.tup [.int (i : Nat), x]) :=
      ⟨by show 2 ≤ sizeLine; decide, [.int i tk, y], .cons ⟨_, rfl⟩ (.cons ru .nil), ⟨_, hT2, rfl, _, rfl⟩⟩
    have I1 : Inv X pins σ (upd H s.heap.objs.size (.tup [.int (i : Nat), x])) { s with heap := h'', toks := tk + 1 } :=
      I.turnedNew (ch := [e, it]) (fun b ob hb q => (sb.2 b (fun z => hb (by simp [z]))).trans (hk b ob (fun z => hb (by simp [z])) (fun z => hb (by simp [z])) q)) hf (Nat.le_refl _) new
    refine ⟨.ref s.heap.objs.size, _, I1, rfl, ⟨_, x, rfl, I.hok.fresh (Nat.le_refl _), rfl, fun ys hy => by rw [I.tuple_inj hy hq]; exact hx⟩, ⟨⟨y, ?_⟩, hst'.1.at fun o q => (sb.2 it (Ne.symm hne)).trans q, hne⟩, fun b hb => ?_⟩
    · have e1 : ((i + 1 : Nat) : Int) = (i : Int) + 1 := by omega
      rw [e1]; exact he'
    · have hb' : b < s.heap.objs.size := by
        have e' : b = e ∨ b = it := by simpa using hb
        rcases e' with z | z
        · rw [z]; exact hel
        · rw [z]; exact hil
      rw [upd_ne (Nat.ne_of_lt hb')]
      exact (hf b hb).1
  done := by
    intro X hP hw hK hc i pins s σ H E I hf st hg
    subst hP hw hK
    obtain ⟨⟨old, he⟩, hit, hne⟩ := st
    obtain ⟨xs, hq, hx⟩ := hg
    obtain ⟨its, rv, p, hz⟩ := I.tuple hq
    obtain ⟨f0, f1, f2, f3, f4, f5⟩ := hf it (by simp)
    have hl := rv.length
    have e1 : i = its.toArray.size := by
      rw [List.size_toArray]
      omega
    have D := Draws.tuple (prog := X.prog) (w := X.w) (A := X.A.in1) (I.ok.hd hc) it a hai its.toArray
    exact wpAny_pyNext_enum_endD D he ⟨e1 ▸ hit, p⟩ fun h' eb => ⟨rfl, I.turned (t' := s.toks) (fun b o hb q => eb b o hb q) f0 f1 f3 f4 f5⟩
  self := fun A i s Q E st h => let ⟨⟨_, he⟩, _⟩ := st; wpAny_pyIter_enum he h
theorem walk_enumT {K : PySem.W.Frag} {a : Addr} {xs : List V} : Walk (ItTe K a) xs.length (fun H => SqT K H a xs) (YPair (fun i => some (.int (i : Nat))) (fun i => xs[i]?)) := by
  refine ⟨fun i _ hi q => ⟨xs, xs[i], q, by simp [hi]⟩, fun _ q => ⟨xs, q, rfl⟩, fun i H v H' _ q y => ?_⟩
  obtain ⟨T, x, h1, h2, h3, h4⟩ := y
  exact ⟨T, .int (i : Nat), x, h1, h2, h3, rfl, h4 xs q⟩
def iEnumT (K : PySem.W.Frag) (ta : TA) : TI := fun σ H R => ta σ H fun vs H1 => ∃ a xs, vs = [.ref a] ∧ SqT K H1 a xs ∧ R (ItTe K a) H1
theorem pi_enumT {X : Cx} {e : Expr} {ta : TA} {p pos tpos : Pos} {elts : List Expr} {kk : Nat} (hg : Gl X "enumerate") (hm : X.mg "enumerate" = none) (ha : PA X [e] ta) (hs : starEach [e] X.env = [(false, eval e X.env)] := by rfl) :
    PI X (.Tuple elts kk tpos) (.Call (.Name "enumerate" p) [e] [] pos) (iEnumT X.K ta) := by
  refine ⟨fun pins s σ H R I h => ?_⟩
  refine Call_ (ld_blt I hg hm boot_enumerate (PyProof.Rows.callWith_type1 (thn (ha.run pos pins s σ H _ I h) fun us s1 ⟨vs, H1, I1, r1, q1⟩ => ?_) hs rfl))
  obtain ⟨a, xs, ex, hq, q⟩ := q1
  subst ex
  cases r1 with
  | cons r rr =>
    cases rr
    cases r
    obtain ⟨its, rv, p', hz⟩ := I1.tuple hq
    have hal : a < s1.heap.objs.size := by
      obtain ⟨o, ho, _⟩ := p'
      exact Heap.lt_size ho
    refine enum1_begins (begins_tuple a its.toArray) p' fun h' he hit hsz hk => wpAny_pyIter_enum he ?_
    have I2 : Inv X pins σ H1 { s1 with heap := h' } := I1.kept (t' := s1.toks) hk
    refine ⟨s1.heap.objs.size + 1, [s1.heap.objs.size + 1, s1.heap.objs.size], _, _, H1, rfl, I2, turn_enumT a (s1.heap.objs.size + 1) s1.heap.objs.size (Nat.ne_of_lt hal) (Nat.ne_of_lt (Nat.lt_succ_of_lt hal)), ⟨⟨.none, he⟩, ⟨_, hit, rfl, rfl⟩, Nat.succ_ne_self _⟩, fun b hb => ?_, q⟩
    have e' : b = s1.heap.objs.size + 1 ∨ b = s1.heap.objs.size := by simpa using hb
    have hle : s1.heap.objs.size ≤ b := by
      rcases e' with z | z
      · rw [z]; exact Nat.le_add_right _ _
      · rw [z]; exact Nat.le_refl _
    exact I1.fpOk hle (I1.hok.fresh hle)
end L2

set_option Elab.async false
set_option linter.all false
set_option maxRecDepth 100000
/-! Lists and tuples of ints over the hand layer. -/
namespace L2
open PySem PySem.Spec PyProof.Rows
abbrev vInts (ns : List Int) : List V := ns.map V.int
/-- at a stands a tuple, a list of these ints -/
def TpI (K : PySem.W.Frag) (H : Hp) (a : Addr) (ns : List Int) : Prop := SqT K H a (vInts ns)
def LsI (K : PySem.W.Frag) (H : Hp) (a : Addr) (ns : List Int) : Prop := SqL K H a (vInts ns)
theorem Same.ti {K : PySem.W.Frag} {H H' : Hp} {a : Addr} {ns : List Int} (e : Same H H') (h : TpI K H a ns) : TpI K H' a ns := e.tup h
theorem Same.li {K : PySem.W.Frag} {H H' : Hp} {a : Addr} {ns : List Int} (e : Same H H') (h : LsI K H a ns) : LsI K H' a ns := e.seq h
theorem ti_upd {K : PySem.W.Frag} {H : Hp} {a : Addr} {ns : List Int} : TpI K (upd H a (.tup (vInts ns))) a ns := .inl (.inl upd_same)
theorem li_upd {K : PySem.W.Frag} {H : Hp} {a : Addr} {ns : List Int} : LsI K (upd H a (.lst (vInts ns))) a ns := .inl (.inl upd_same)
theorem ti_nil {K : PySem.W.Frag} {H : Hp} {a : Addr} : TpI K (upd H a (.tup [])) a [] := .inl (.inl upd_same)
theorem vInts_get {ns : List Int} {i : Nat} (h : i < ns.length) : (vInts ns)[i]? = some (.int (PM.cf ns i)) := by
  unfold vInts PM.cf
  rw [List.getElem?_map, List.getElem?_eq_getElem h, List.getD_eq_getElem?_getD, List.getElem?_eq_getElem h]
  rfl
theorem vInts_at {ns : List Int} {i : Nat} (h : i < ns.length) : atI (vInts ns) (i : Int) = some (.int (PM.cf ns i)) := atI_nat (vInts_get h)
theorem vInts_at' {ns : List Int} {z : Int} {i : Nat} (e : z = (i : Int)) (h : i < ns.length) : atI (vInts ns) z = some (.int (PM.cf ns i)) := by
  rw [e]
  exact vInts_at h
theorem vInts_last {ns : List Int} (h : ns ≠ []) : atI (vInts ns) (-1) = some (.int (PM.lead ns)) := by
  have e : vInts ns = (ns.dropLast.map V.int) ++ [.int (ns.getLast h)] := by
    rw [← List.map_singleton, ← List.map_append, List.dropLast_concat_getLast]
  rw [e, atI_last]
  have : ns.getLast h = PM.lead ns := by
    have h1 := PM.last_get h
    rw [List.getLast?_eq_getLast h] at h1
    exact Option.some.inj h1
  rw [this]
theorem vInts_item {ns : List Int} {i : Nat} {x : V} (h : (vInts ns)[i]? = some x) : i < ns.length ∧ x = .int (PM.cf ns i) := by
  have h1 : i < ns.length := by
    obtain ⟨h1, _⟩ := List.getElem?_eq_some_iff.mp h
    simpa using h1
  exact ⟨h1, (Option.some.inj ((vInts_get h1).symm.trans h)).symm⟩
theorem take_cf {ns : List Int} {i : Nat} (h : i < ns.length) : ns.take (i + 1) = ns.take i ++ [PM.cf ns i] := by
  rw [List.take_add_one, List.getElem?_eq_getElem h]
  unfold PM.cf
  rw [List.getD_eq_getElem?_getD, List.getElem?_eq_getElem h]
  rfl
/-- as data -/
def dInts (ns : List Int) : List PyData := ns.map PyData.int
theorem dp_ints {K : PySem.W.Frag} {H : Hp} : ∀ ns : List Int, DpAll K H (vInts ns) (dInts ns)
  | [] => .nil
  | n :: ns => .cons (.int n) (dp_ints ns)
theorem dp_tup {K : PySem.W.Frag} {H : Hp} {a : Addr} {ns : List Int} (h : TpI K H a ns) : Dp K H (.ref a) (.tuple (dInts ns)) := .tup h (dp_ints ns)
theorem dp_lst {K : PySem.W.Frag} {H : Hp} {a : Addr} {ns : List Int} (h : LsI K H a ns) : Dp K H (.ref a) (.list (dInts ns)) := .lst h (dp_ints ns)
theorem lay_ints : ∀ ns : List Int, PyData.canLayAll0 (dInts ns) = true
  | [] => by simp [dInts, PyData.canLayAll0]
  | n :: ns => by
    have ih := lay_ints ns
    unfold dInts at ih ⊢
    simp [PyData.canLayAll0, PyData.canLay0, ih]
theorem deep_ints : ∀ ns : List Int, PyData.depthAll (dInts ns) ≤ 1
  | [] => by simp [dInts, PyData.depthAll]
  | n :: ns => by
    have ih := deep_ints ns
    unfold dInts at ih ⊢
    simp [PyData.depthAll, PyData.depth, ih]
theorem shaped_tup (ns : List Int) : SeqAt.shaped (.tuple (dInts ns)) = true := by
  have h1 := lay_ints ns
  have h2 := deep_ints ns
  unfold SeqAt.shaped
  simp [PyData.canLay0, PyData.depth, h1]
  omega
theorem shaped_lst (ns : List Int) : SeqAt.shaped (.list (dInts ns)) = true := by
  have h1 := lay_ints ns
  have h2 := deep_ints ns
  unfold SeqAt.shaped
  simp [PyData.canLay0, PyData.depth, h1]
  omega
theorem eqv_all : ∀ ns ms : List Int, PyData.eqvAll (dInts ns) (dInts ms) = decide (ns = ms)
  | [], [] => by simp [dInts, PyData.eqvAll]
  | [], m :: ms => by simp [dInts, PyData.eqvAll]
  | n :: ns, [] => by simp [dInts, PyData.eqvAll]
  | n :: ns, m :: ms => by
    have ih := eqv_all ns ms
    unfold dInts at ih ⊢
    simp [PyData.eqvAll, PyData.eqv, ih, Bool.beq_eq_decide_eq, List.cons.injEq]
theorem eqv_tup (ns ms : List Int) : PyData.eqv (.tuple (dInts ns)) (.tuple (dInts ms)) = decide (ns = ms) := by
  rw [PyData.eqv, eqv_all]
theorem eqv_lst (ns ms : List Int) : PyData.eqv (.list (dInts ns)) (.list (dInts ms)) = decide (ns = ms) := by
  rw [PyData.eqv, eqv_all]
theorem cut_all (xs : List V) (k : Nat) : cutV xs none (some (k : Int)) = xs.take k := by
  unfold cutV
  rw [HT.sIx_none, HT.sIx_nat]
  simp
theorem small {n : Nat} (h : n ≤ 10000000) : n ≤ sizeLine := Nat.le_trans h (by decide)
theorem smallL {n : Nat} (h : n ≤ 10000000) : n < sizeLine := Nat.lt_of_le_of_lt h (by decide)
/-- where a while starts -/
theorem while_go {c : TT} {tb : TS} {D : Ends} {σ : L2.St} {H : Hp} (W : Nat → L2.St → Hp → Prop) (m0 : Nat) (w0 : W m0 σ H)
    (turn : ∀ m σ H, W m σ H → c σ H fun b H1 => if b = true then ∃ N : L2.St → Hp → Prop, (∀ σ' H', N σ' H' → ∃ m', m' < m ∧ W m' σ' H') ∧ tb { D with nx := N, ct := N, bk := D.nx } σ H1 else D.nx σ H1) : tWhile c tb D σ H := ⟨W, ⟨m0, w0⟩, turn⟩
theorem fresh_of {H H' : Hp} {p : Addr} (e : Same H H') (h : H' p = none) : H p = none := e.free h
/-- an object made since H may change -/
theorem Same.mut {H H' : Hp} {p : Addr} {o : HO} (e : Same H H') (h : H p = none) : Same H (upd H' p o) := fun a u ha => by
  rw [upd_ne (ne_of_none ha h)]
  exact e a u ha
theorem Same.new {H H' : Hp} {p : Addr} {o : HO} (e : Same H H') (h : H' p = none) : Same H (upd H' p o) := e.trans (same_upd h)
/-! ### comprehensions of new values, one by one -/
theorem walkT {K : PySem.W.Frag} {a : Addr} {ns : List Int} : Walk (Itt K a) ns.length (fun H => TpI K H a ns) (YFn fun i => .int (PM.cf ns i)) := by
  have w := walk_tup (K := K) (a := a) (xs := vInts ns)
  rw [List.length_map] at w
  exact w.mono (fun H h => h) fun i H x H' _ _ y => ⟨y.1, (vInts_item y.2).2⟩
theorem walkL {K : PySem.W.Frag} {a : Addr} {ns : List Int} : Walk (Itl K a) ns.length (fun H => LsI K H a ns) (YFn fun i => .int (PM.cf ns i)) := by
  have w := walk_list (K := K) (a := a) (xs := vInts ns)
  rw [List.length_map] at w
  exact w.mono (fun H h => h) fun i H x H' _ _ y => ⟨y.1, (vInts_item y.2).2⟩
theorem lcm {J : It} {n : Nat} {G : Hp → Prop} {v : Nat → V} (w : Walk J n G (YFn v)) {k : Nat} {te : TE} {vs : List Nat} {σ : L2.St} {H1 : Hp} {D : Addr} {Qd : Hp → Prop} (f : Nat → V) (hG : ∀ H, Same H1 H → G H) (nD : H1 D = none)
    (hw : ∀ x, wipe ((wipe σ vs).set k (some x)) vs = wipe σ vs) (hn : n < sizeLine) (hs : ∀ i H (Q : VK), i < n → Same H1 H → (∀ H4, Same H H4 → Q (f i) H4) → te ((wipe σ vs).set k (some (v i))) H Q)
    (hd : ∀ H, Same H1 H → H D = some (.lst ((List.range n).map f)) → Qd H) :
    ∃ W : Nat → Nat → Hp → Prop, (∃ m, W 0 m (upd H1 D (.lst []))) ∧ ∀ i m H, W i m H →
      (J.stop i H ∧ Qd H) ∨ (J.go i H ∧ ∃ Nx : Hp → Prop, (∀ H', Nx H' → ∃ m', m' < m ∧ W (i + 1) m' H') ∧ ∀ x H', J.yld i H x H' → gName k x (wipe σ vs) H' fun σ2 H2 => wipe σ2 vs = wipe σ vs ∧ tYes σ2 H2 fun b H3 =>
        if b = true then te σ2 H3 fun y H4 => ∃ acc, H4 D = some (.lst acc) ∧ acc.length < sizeLine ∧ Nx (upd H4 D (.lst (acc ++ [y]))) else Nx H3) := by
  refine ⟨fun i m H => m = n - i ∧ i ≤ n ∧ Same H1 H ∧ H D = some (.lst ((List.range i).map f)), ⟨n, by simp, Nat.zero_le _, same_upd nD, upd_same⟩, ?_⟩
  rintro i m H ⟨rfl, hi, sm, hD⟩
  have q := hG H sm
  by_cases hlt : i < n
  · refine .inr ⟨w.goes i H hlt q, fun H' => Same H1 H' ∧ H' D = some (.lst ((List.range (i + 1)).map f)), fun H' p' => ⟨n - (i + 1), by omega, rfl, hlt, p'.1, p'.2⟩, fun x H' y => ?_⟩
    obtain ⟨e1, e2⟩ := w.yields i H x H' hlt q y
    subst e1 e2
    refine ⟨hw _, ?_⟩
    dsimp only [tYes]
    rw [if_pos rfl]
    refine hs i H' _ hlt sm fun H4 s4 => ⟨_, s4 _ _ hD, ?_, (sm.trans s4).mut nD, ?_⟩
    · rw [List.length_map, List.length_range]
      omega
    · rw [upd_same, List.range_succ, List.map_append]
      rfl
  · have e : i = n := by omega
    subst e
    exact .inl ⟨w.stops H q, hd H sm hD⟩
theorem map_ints {n : Nat} {g : Nat → Int} {ms : List Int} (hl : ms.length = n) (h : ∀ i, i < n → PM.cf ms i = g i) : (List.range n).map (fun i => V.int (g i)) = vInts ms := by
  apply List.ext_getElem
  · simp [hl]
  · intro i h1 h2
    have h3 : i < n := by simpa using h1
    have h4 := vInts_get (ns := ms) (i := i) (by omega)
    rw [List.getElem?_eq_getElem h2] at h4
    rw [Option.some.inj h4, h i h3]
    simp
/-- sizes -/
theorem mulx_bd {i j : Int} {a b : Nat} (ha : i.natAbs < 2 ^ a) (hb : j.natAbs < 2 ^ b) (h : a + b ≤ 134217728) : CMulX i j := mulx_ok ha hb h
theorem mulk_one (i : Int) : IntMulOk i (-1) := .of_right (by decide)
theorem mulk_bd {i j : Int} {a b : Nat} (ha : i.natAbs < 2 ^ a) (hb : j.natAbs < 2 ^ b) (h : a + b ≤ 134217728) : IntMulOk i j := (mulx_ok ha hb h).ok
/-! ### data of any kind -/
def dTy : PyData → String
  | .none => "NoneType"
  | .bool _ => "bool"
  | .int _ => "int"
  | .str _ => "str"
  | .list _ => "list"
  | .tuple _ => "tuple"
  | .dict _ => "dict"
theorem dp_ty {K : PySem.W.Frag} {H : Hp} {v : V} {d : PyData} (h : Dp K H v d) : TyX K H v (.type (dTy d)) := by
  cases h with
  | non => exact .base .non
  | bl b => exact .base (.bl b)
  | int i => exact .base (.int i)
  | str x => exact .base (.str x)
  | lst hs _ =>
    rcases hs with (h | ⟨o, h⟩) | ⟨o, its, n, h1, h2, _⟩
    · exact .base (.lst h)
    · exact .base (.frz h)
    · exact .kList h1 h2
  | tup hs _ =>
    rcases hs with (h | ⟨o, h⟩) | ⟨o, its, n, h1, h2, _⟩
    · exact .base (.tup h)
    · exact .fTuple h
    · exact .kTuple h1 h2
mutual
theorem Same.dp {K : PySem.W.Frag} {H H' : Hp} (e : Same H H') : ∀ (d : PyData) (v : V), Dp K H v d → Dp K H' v d
  | .none, _, h => by cases h; exact .non
  | .bool b, _, h => by cases h; exact .bl b
  | .int i, _, h => by cases h; exact .int i
  | .str x, _, h => by cases h; exact .str x
  | .list ds, _, h => by
    cases h with
    | lst hs ha => exact .lst (e.seq hs) (Same.dpAll e ds _ ha)
  | .tuple ds, _, h => by
    cases h with
    | tup hs ha => exact .tup (e.tup hs) (Same.dpAll e ds _ ha)
  | .dict _, _, h => by cases h
theorem Same.dpAll {K : PySem.W.Frag} {H H' : Hp} (e : Same H H') : ∀ (ds : List PyData) (vs : List V), DpAll K H vs ds → DpAll K H' vs ds
  | [], _, h => by cases h; exact .nil
  | d :: ds, _, h => by
    cases h with
    | cons h1 h2 => exact .cons (Same.dp e d _ h1) (Same.dpAll e ds _ h2)
end
theorem dpAll_len {K : PySem.W.Frag} {H : Hp} : ∀ (ds : List PyData) (vs : List V), DpAll K H vs ds → vs.length = ds.length
  | [], _, h => by cases h; rfl
  | d :: ds, _, h => by
    cases h with
    | cons h1 h2 => simp [dpAll_len ds _ h2]
theorem dpAll_get {K : PySem.W.Frag} {H : Hp} : ∀ (ds : List PyData) (vs : List V), DpAll K H vs ds → ∀ (i : Nat) (v : V), vs[i]? = some v → ∃ d, ds[i]? = some d ∧ Dp K H v d
  | [], _, h, i, v, e => by cases h; simp at e
  | d :: ds, _, h, 0, v, e => by
    cases h with
    | cons h1 h2 =>
      have : _ = v := Option.some.inj e
      subst this
      exact ⟨d, rfl, h1⟩
  | d :: ds, _, h, i + 1, v, e => by
    cases h with
    | cons h1 h2 => exact dpAll_get ds _ h2 i v e
def dIsInt : PyData → Bool
  | .int _ => true
  | _ => false
/-- is it a tuple of ints, the last one not nought? -/
def dPoly : PyData → Bool
  | .tuple ds => ds.all dIsInt && (match ds.getLast? with | some (.int 0) => false | _ => true)
  | _ => false
/-- dividing by the content -/
theorem prok_div {p : List Int} (t : PM.Tr p) (hp : p ≠ []) (h : PM.PrOk p) : ∀ i, i < p.length → CDivP (PM.cf p i) (PM.content p) := by
  intro i hi
  have hc := PM.content_pos t hp
  refine ⟨hc, ?_⟩
  show (decide ((if PM.content p == 0 then 0 else (PM.content p).natAbs.log2 / 30 + 1) > 300) && decide ((if PM.cf p i == 0 then 0 else (PM.cf p i).natAbs.log2 / 30 + 1) > (if PM.content p == 0 then 0 else (PM.content p).natAbs.log2 / 30 + 1) + 150)) = false
  rw [if_neg (show ¬ (PM.content p == 0) = true by simpa using (show PM.content p ≠ 0 by omega))]
  by_cases hz : PM.cf p i = 0
  · rw [if_pos (show (PM.cf p i == 0) = true by simpa using hz)]
    rw [decide_eq_false (show ¬ (0 > (PM.content p).natAbs.log2 / 30 + 1 + 150) by omega), Bool.and_false]
  · rw [if_neg (show ¬ (PM.cf p i == 0) = true by simpa using hz)]
    rcases h with h | h
    · have e : (PM.cf p i).natAbs = (PM.content p).natAbs := by
        match p, h, hi with
        | [c], _, hi =>
          have hi0 : i = 0 := by simpa using hi
          subst hi0
          have e1 : PM.content [c] = (c.natAbs : Int) := by
            unfold PM.content
            simp
          rw [e1]
          rfl
      rw [e, decide_eq_false (show ¬ ((PM.content p).natAbs.log2 / 30 + 1 > (PM.content p).natAbs.log2 / 30 + 1 + 150) by omega), Bool.and_false]
    · have hb := PySem.Flt.log2_lt_of (by decide) (h i)
      by_cases hj : (PM.content p).natAbs.log2 / 30 + 1 > 300
      · rw [decide_eq_false (show ¬ ((PM.cf p i).natAbs.log2 / 30 + 1 > (PM.content p).natAbs.log2 / 30 + 1 + 150) by omega), Bool.and_false]
      · rw [decide_eq_false hj, Bool.false_and]
theorem walkTV {K : PySem.W.Frag} {a : Addr} {xs : List V} : Walk (Itt K a) xs.length (fun H => SqT K H a xs) (YFn fun i => xs.getD i .non) :=
  (walk_tup (K := K) (a := a) (xs := xs)).mono (fun H h => h) fun i H x H' _ _ y => ⟨y.1, by show x = xs.getD i .non; rw [List.getD_eq_getElem?_getD, y.2]; rfl⟩
theorem dp_int_of {K : PySem.W.Frag} {H : Hp} {v : V} {d : PyData} (h : Dp K H v d) (hi : dIsInt d = true) : ∃ i : Int, v = .int i ∧ d = .int i := by
  cases h with
  | int i => exact ⟨i, rfl, rfl⟩
  | non => cases hi
  | bl b => cases hi
  | str x => cases hi
  | lst _ _ => cases hi
  | tup _ _ => cases hi
theorem dp_all_ints {K : PySem.W.Frag} {H : Hp} : ∀ (ds : List PyData) (xs : List V), DpAll K H xs ds → ds.all dIsInt = true → ∃ ns, ds = dInts ns ∧ xs = vInts ns
  | [], _, h, _ => by cases h; exact ⟨[], rfl, rfl⟩
  | d :: ds, _, h, ha => by
    cases h with
    | cons h1 h2 =>
      rw [List.all_cons, Bool.and_eq_true] at ha
      obtain ⟨i, e1, e2⟩ := dp_int_of h1 ha.1
      obtain ⟨ns, e3, e4⟩ := dp_all_ints ds _ h2 ha.2
      exact ⟨i :: ns, by rw [e2, e3]; rfl, by rw [e1, e4]; rfl⟩
theorem dInts_all (ns : List Int) : (dInts ns).all dIsInt = true := by
  unfold dInts
  simp [dIsInt]
instance (ns : List Int) : Decidable (PM.Tr ns) := by unfold PM.Tr; exact inferInstance
theorem dPoly_tup (ds : List PyData) : dPoly (.tuple ds) = (ds.all dIsInt && (match ds.getLast? with | some (PyData.int 0) => false | _ => true)) := rfl
theorem last_int (o : Option Int) : (match o.map PyData.int with | some (PyData.int 0) => false | _ => true) = !decide (o = some 0) := by
  cases o with
  | none => rfl
  | some z =>
    by_cases hz : z = 0
    · subst hz; rfl
    · rw [decide_eq_false (fun e => hz (Option.some.inj e))]
      show (match some (PyData.int z) with | some (PyData.int 0) => false | _ => true) = true
      split
      · rename_i e
        have e' := Option.some.inj e
        injection e' with e'
        exact absurd e' hz
      · rfl
theorem dInts_last (ns : List Int) : (match (dInts ns).getLast? with | some (PyData.int 0) => false | _ => true) = decide (PM.Tr ns) := by
  unfold dInts
  rw [List.getLast?_map, last_int]
  by_cases h : ns.getLast? = some 0
  · rw [decide_eq_true h, decide_eq_false (fun z => z h)]
    rfl
  · rw [decide_eq_false h, decide_eq_true (show PM.Tr ns from h)]
    rfl
theorem dPoly_ints (ns : List Int) : dPoly (.tuple (dInts ns)) = decide (PM.Tr ns) := by
  rw [dPoly_tup, dInts_all, Bool.true_and, dInts_last]
theorem dPoly_not {ds : List PyData} (h : ds.all dIsInt = false) : dPoly (.tuple ds) = false := by
  rw [dPoly_tup, h, Bool.false_and]
theorem kb_ii : kitB "int" "int" = some true := by decide +kernel
theorem kb_ib : kitB "int" "bool" = some false := by decide +kernel
theorem kb_bi : kitB "bool" "int" = some true := by decide +kernel
theorem kb_bb : kitB "bool" "bool" = some true := by decide +kernel
theorem kb_ni : kitB "NoneType" "int" = some false := by decide +kernel
theorem kb_si : kitB "str" "int" = some false := by decide +kernel
theorem kb_li : kitB "list" "int" = some false := by decide +kernel
theorem kb_ti : kitB "tuple" "int" = some false := by decide +kernel
theorem kb_tt : kitB "tuple" "tuple" = some true := by decide +kernel
theorem kb_it : kitB "int" "tuple" = some false := by decide +kernel
theorem kb_bt : kitB "bool" "tuple" = some false := by decide +kernel
theorem kb_nt : kitB "NoneType" "tuple" = some false := by decide +kernel
theorem kb_st : kitB "str" "tuple" = some false := by decide +kernel
theorem kb_lt : kitB "list" "tuple" = some false := by decide +kernel
theorem kb_ll : kitB "list" "list" = some true := by decide +kernel
theorem kb_il : kitB "int" "list" = some false := by decide +kernel
theorem kb_bl : kitB "bool" "list" = some false := by decide +kernel
theorem kb_nl : kitB "NoneType" "list" = some false := by decide +kernel
theorem kb_sl : kitB "str" "list" = some false := by decide +kernel
theorem kb_tl : kitB "tuple" "list" = some false := by decide +kernel
theorem cf_set (l : List Int) (j : Nat) (z : Int) (h : j < l.length) (k : Nat) : PM.cf (l.set j z) k = if k = j then z else PM.cf l k := by
  unfold PM.cf
  rw [List.getD_eq_getElem?_getD, List.getD_eq_getElem?_getD]
  by_cases e : k = j
  · rw [if_pos e, e, List.getElem?_set_self h]
    rfl
  · rw [if_neg e, List.getElem?_set_ne (Ne.symm e)]
theorem vInts_set (l : List Int) (j : Nat) (z : Int) : (vInts l).set j (.int z) = vInts (l.set j z) := (List.map_set ..).symm
theorem ixN_nat {n : Nat} {z : Int} {j : Nat} (e : z = (j : Int)) (h : j < n) : ixN n z = some j := by
  rw [e]
  unfold ixN
  rw [if_pos (Int.natCast_nonneg j), if_pos (by omega), Int.toNat_natCast]
theorem zeros (m : Nat) : (List.replicate m [V.int 0]).flatten = vInts (List.replicate m 0) := by
  induction m with
  | zero => rfl
  | succ m ih => rw [List.replicate_succ, List.flatten_cons, ih]; rfl
theorem cf_zeros (m k : Nat) : PM.cf (List.replicate m (0 : Int)) k = 0 := by
  unfold PM.cf
  rw [List.getD_eq_getElem?_getD, List.getElem?_replicate]
  split <;> rfl
/-- the product's numbers, j of the i-th row done -/
def rowG (ns ms : List Int) (i j k : Nat) : Int := PM.cf (PM.mul (ns.take i) ms) k + (if i ≤ k ∧ k < i + j then PM.cf ns i * PM.cf ms (k - i) else 0)
theorem rowG_zero (ns ms : List Int) (i k : Nat) : rowG ns ms i 0 k = PM.cf (PM.mul (ns.take i) ms) k := by
  unfold rowG
  rw [if_neg (by omega), Int.add_zero]
theorem rowG_next (ns ms : List Int) (i j k : Nat) : rowG ns ms i (j + 1) k = if k = i + j then rowG ns ms i j (i + j) + PM.cf ns i * PM.cf ms j else rowG ns ms i j k := by
  unfold rowG
  by_cases e : k = i + j
  · rw [if_pos e, e, if_pos (by omega), if_neg (by omega)]
    rw [show i + j - i = j by omega]
    omega
  · rw [if_neg e]
    by_cases h : i ≤ k ∧ k < i + j
    · rw [if_pos h, if_pos (by omega)]
    · rw [if_neg h, if_neg (by omega)]
theorem rowG_end (ns ms : List Int) (i k : Nat) (hi : i < ns.length) : rowG ns ms i ms.length k = PM.cf (PM.mul (ns.take (i + 1)) ms) k := by
  rw [take_cf hi, PM.mul_snoc_get]
  unfold rowG
  have el : (ns.take i).length = i := by rw [List.length_take]; omega
  rw [el]
  by_cases h : i ≤ k
  · rw [if_pos h]
    by_cases h2 : k < i + ms.length
    · rw [if_pos ⟨h, h2⟩]
    · rw [if_neg (by omega), PM.cf_big (p := ms) (by omega), Int.mul_zero]
  · rw [if_neg h, if_neg (by omega)]
/-! ### all but one object stays -/
def SameX (p : Addr) (H H' : Hp) : Prop := ∀ b o, b ≠ p → H b = some o → H' b = some o
theorem SameX.refl (p : Addr) (H : Hp) : SameX p H H := fun _ _ _ h => h
theorem SameX.trans {p : Addr} {H H1 H2 : Hp} (a : SameX p H H1) (b : SameX p H1 H2) : SameX p H H2 := fun c o h e => b c o h (a c o h e)
theorem Same.x {H H' : Hp} (e : Same H H') (p : Addr) : SameX p H H' := fun b o _ h => e b o h
theorem sameX_upd {p : Addr} {H H' : Hp} {o : HO} (e : SameX p H H') : SameX p H (upd H' p o) := fun b u hb h => by
  rw [upd_ne hb]
  exact e b u hb h
theorem SameX.new {p q : Addr} {H H' : Hp} {o : HO} (e : SameX p H H') (h : H' q = none) : SameX p H (upd H' q o) := fun b u hb hu => by
  rw [upd_ne (ne_of_none (e b u hb hu) h)]
  exact e b u hb hu
theorem SameX.mut {p q : Addr} {H H' : Hp} {o : HO} (e : SameX p H H') (h : H q = none) : SameX p H (upd H' q o) := fun b u hb hu => by
  rw [upd_ne (ne_of_none hu h)]
  exact e b u hb hu
theorem SameX.tup {K : PySem.W.Frag} {p : Addr} {H H' : Hp} {a : Addr} {xs zs : List V} (e : SameX p H H') (hp : H p = some (.lst zs)) (h : SqT K H a xs) : SqT K H' a xs := by
  rcases h with (h | ⟨o, h⟩) | h
  · exact .inl (.inl (e _ _ (ne_of h hp (by intro z; cases z)) h))
  · exact .inl (.inr ⟨o, e _ _ (ne_of h hp (by intro z; cases z)) h⟩)
  · exact .inr h
theorem SameX.ti {K : PySem.W.Frag} {p : Addr} {H H' : Hp} {a : Addr} {ns : List Int} {zs : List V} (e : SameX p H H') (hp : H p = some (.lst zs)) (h : TpI K H a ns) : TpI K H' a ns := e.tup hp h
theorem SameX.seq {K : PySem.W.Frag} {p : Addr} {H H' : Hp} {a : Addr} {xs : List V} (e : SameX p H H') (hn : a ≠ p) (h : SqL K H a xs) : SqL K H' a xs := by
  rcases h with (h | ⟨o, h⟩) | h
  · exact .inl (.inl (e _ _ hn h))
  · exact .inl (.inr ⟨o, e _ _ hn h⟩)
  · exact .inr h
/-! ### what draws: a list of the cells, how many were begun, what is left of a great one -/
def PenAt (K : PySem.W.Frag) (H : Hp) (p : Addr) (n : Nat) (c : Addr) (ns : List Int) (t : Nat) (r : Int) : Prop := H p = some (.lst [.ref c, .int (t : Int), .int r]) ∧ LsI K H c ns ∧ c ≠ p ∧ t ≤ n ∧ ns.length ≤ 63
def Pen (K : PySem.W.Frag) (H : Hp) (p : Addr) (C : Addr × List Int) (n : Nat) : Prop := ∃ t r, PenAt K H p n C.1 C.2 t r
theorem Pen.lst {K : PySem.W.Frag} {H : Hp} {p : Addr} {C : Addr × List Int} {n : Nat} (h : Pen K H p C n) : ∃ zs, H p = some (.lst zs) := by
  obtain ⟨_, _, h, _⟩ := h
  exact ⟨_, h⟩
theorem Pen.mono {K : PySem.W.Frag} {H : Hp} {p : Addr} {C : Addr × List Int} {n m : Nat} (h : Pen K H p C n) (l : n ≤ m) : Pen K H p C m := by
  obtain ⟨t, r, h1, h2, h3, h4, h5⟩ := h
  exact ⟨t, r, h1, h2, h3, Nat.le_trans h4 l, h5⟩
theorem Pen.same {K : PySem.W.Frag} {H H' : Hp} {p : Addr} {C : Addr × List Int} {n : Nat} (h : Pen K H p C n) (e : Same H H') : Pen K H' p C n := by
  obtain ⟨t, r, h1, h2, h3, h4, h5⟩ := h
  exact ⟨t, r, e _ _ h1, e.li h2, h3, h4, h5⟩
theorem SameX.t {K : PySem.W.Frag} {p : Addr} {H H' : Hp} {a : Addr} {ns : List Int} {C : Addr × List Int} {n : Nat} (e : SameX p H H') (hp : Pen K H p C n) (h : TpI K H a ns) : TpI K H' a ns := by
  obtain ⟨zs, hz⟩ := hp.lst
  exact e.ti hz h
theorem Pen.ne {K : PySem.W.Frag} {H : Hp} {p D : Addr} {C : Addr × List Int} {n : Nat} (h : Pen K H p C n) (hD : H D = none) : D ≠ p := fun e => by
  obtain ⟨zs, hz⟩ := h.lst
  rw [e, hz] at hD
  cases hD
/-- another object, made later, may change -/
theorem Pen.mut {K : PySem.W.Frag} {H1 H4 : Hp} {p D : Addr} {C : Addr × List Int} {n1 n : Nat} {o : HO} (h1 : Pen K H1 p C n1) (hD : H1 D = none) (h : Pen K H4 p C n) : Pen K (upd H4 D o) p C n := by
  have hDp := h1.ne hD
  obtain ⟨t1, r1, _, a2, _⟩ := h1
  obtain ⟨t, r, h1, h2, h3, h4, h5⟩ := h
  refine ⟨t, r, by rw [upd_ne (Ne.symm hDp)]; exact h1, ?_, h3, h4, h5⟩
  have go : C.1 ≠ D → LsI K (upd H4 D o) C.1 C.2 := fun hn => (sameX_upd (SameX.refl D H4)).seq hn h2
  rcases a2 with (a | ⟨o, a⟩) | a
  · exact go (ne_of_none a hD)
  · exact go (ne_of_none a hD)
  · exact .inr a
/-- what was not there before -/
theorem SameX.none {p D : Addr} {H H' : Hp} (e : SameX p H H') (hn : D ≠ p) (h : H' D = none) : H D = none := by
  cases hz : H D with
  | none => rfl
  | some o => rw [e _ _ hn hz] at h; cases h
theorem cdiv_small {i j : Int} (h : 0 < j) (h2 : j < 1073741824) : CDivP i j := by
  refine ⟨h, ?_⟩
  have e : (2 : Nat) ^ 30 = 1073741824 := by decide
  have hb := PySem.Flt.log2_lt_of (show 0 < 30 by decide) (show j.natAbs < 2 ^ 30 by omega)
  show (decide ((if j == 0 then 0 else j.natAbs.log2 / 30 + 1) > 300) && decide ((if i == 0 then 0 else i.natAbs.log2 / 30 + 1) > (if j == 0 then 0 else j.natAbs.log2 / 30 + 1) + 150)) = false
  rw [if_neg (show ¬ (j == 0) = true by simpa using (show j ≠ 0 by omega))]
  rw [decide_eq_false (show ¬ (j.natAbs.log2 / 30 + 1 > 300) by omega), Bool.false_and]
theorem mulk_l {i j : Int} (h1 : -(2 ^ 64) < i) (h2 : i < 2 ^ 64) : IntMulOk i j := .of_left (intBits_le_64 h1 h2)
theorem mulk_r {i j : Int} (h1 : -(2 ^ 64) < j) (h2 : j < 2 ^ 64) : IntMulOk i j := .of_right (intBits_le_64 h1 h2)
theorem rev_all {α : Type} (xs : List α) : ∀ (n : Nat), n ≤ xs.length → (List.range n).filterMap (fun (m : Nat) => xs[(((xs.length : Int) - 1) + (m : Int) * (-1)).toNat]?) = xs.reverse.take n
  | 0, _ => by simp
  | n + 1, h => by
    rw [List.range_succ, List.filterMap_append, rev_all xs n (by omega), List.take_add_one]
    congr 1
    have e : (((xs.length : Int) - 1) + (n : Int) * (-1)).toNat = xs.length - 1 - n := by omega
    have h1 : xs.length - 1 - n < xs.length := by omega
    simp only [List.filterMap_cons, List.filterMap_nil]
    rw [e, List.getElem?_eq_getElem h1, List.getElem?_reverse (by omega), List.getElem?_eq_getElem (by omega)]
    rfl
theorem stepV_rev {α : Type} (xs : List α) : stepV xs none none (-1) = xs.reverse := by
  unfold stepV
  have e1 : (Builtin.Slice.sliceAdjust none none (-1) (xs.length : Int)) = ((xs.length : Int) - 1, -1) := rfl
  rw [e1]
  have e2 : Builtin.Slice.slicePlaces ((xs.length : Int) - 1) (-1) (-1) = xs.length := by
    unfold Builtin.Slice.slicePlaces
    rw [if_neg (by decide)]
    split <;> simp <;> omega
  rw [e2, rev_all xs _ (Nat.le_refl _), List.take_of_length_le (by simp)]
end L2

set_option Elab.async false
set_option linter.all false
set_option maxRecDepth 100000
set_option maxHeartbeats 2000000
/-! An own exception class whose __init__ says super().__init__(part); self.part = part, below a class of ours below ValueError. -/
namespace L2
open PySem PySem.Spec PyProof.Rows
abbrev supBody (fld prm : Str) (p0 p1 p2 p3 p4 p5 p6 p7 p8 p9 : Pos) : List Stmt :=
  [.Expr (.Call (.Attribute (.Call (.Name "super" p0) [] [] p1) "__init__" p2) [.Name prm p3] [] p4) p5, .Assign [.Attribute (.Name "self" p6) fld p7] (.Name prm p8) p9]
/-- the class at C and its __init__ at f, as they stand behind the top -/
structure ExcDef (P : Program) (K : PySem.W.Frag) (mg : Str → Option Value) (C f cc cda : Addr) (fld prm name qual : Str) (params : Arguments) (scope : Scope) (body : List Stmt) (fd : FuncData) : Prop where
  fn : ∃ (oc : Value) (od : Option Addr) (dV kV doc pm : Value) (an : Option Addr) (ct : Value) (osl : Array (Option Value)), fd = PySem.W.ksFn name qual params body scope dV kV doc pm an (.ref cda) ct cc ∧ K.lookup f = some ⟨oc, od, .func fd, osl⟩
  hcd : PySem.W.codeIn K (.ref cda) qual = true
  code : ∃ (ccl : Value) (cdd : Option Addr) (vs : Array Value) (ccs : Array (Option Value)) (file : Str) (tf : Tok), K.lookup cda = some ⟨ccl, cdd, .fields vs, ccs⟩ ∧ vs[2]? = some (.str file tf) ∧ ((P.main.file : Str) == file) = true
  cell : ∃ (cl : Value) (cld : Option Addr) (csl : Array (Option Value)), K.lookup cc = some ⟨cl, cld, .cell (some (.ref C)), csl⟩
  T : OexC K C
  sub : PySem.W.mroIn K C (.ref C) = some true
  sup : PySem.W.ks_superIn K C C "__init__" = some (some (.builtin "ValueError.__init__"))
  subV : PySem.W.subIn K (.ref C) (.type "ValueError") = some true
  tp : PySem.W.nsIn K cStatics "thirdparty.any" = some none
  top : (P.main.scope.names.lookup ("super" : Str)).isSome = false
  noSup : mg "super" = none
  fldC : PySem.W.findIn K (.ref C) fld = some none
  par : ∃ ar, (params.posonlyargs ++ params.args).head? = some ar ∧ ar.arg = "self"
structure SupS (prm : Str) (scope : Scope) : Prop where
  kind : scope.kind = .function
  co : scope.isCoroutine = false
  gen : scope.isGenerator = false
  noCell : ∀ x ∈ scope.names, x.2 ≠ .cell
  free : ∀ x ∈ scope.names, x.2 = .free → x.1 = "__class__"
  ks : scope.names.lookup ("super" : Str) = some .globalImplicit
  kc : scope.names.lookup ("__class__" : Str) = some .free
  ka : scope.names.lookup ("self" : Str) = some .local
  kp : scope.names.lookup prm = some .local
  ne : ("self" : Str) ≠ prm
def supCx (CX : CXT) (P : Program) (w : World) (K : PySem.W.Frag) (mg : Str → Option Value) (base : Heap) (N : List Str) (qual : Str) (scope : Scope) (f cda cc : Addr) (A : Around) (outer : List Env) (s : Shared) (H : Hp) (E : XK) : Cx where
  prog := P
  w := w
  K := K
  mg := mg
  base := base
  A := A.deeper (PySem.W.ksEnv qual scope s.heap.objs.size f (.ref cda) cc)
  N := N
  s_0 := s
  H_0 := H
  env := PySem.W.ksEnv qual scope s.heap.objs.size f (.ref cda) cc
  outer := outer
  stack := PySem.W.ksEnv qual scope s.heap.objs.size f (.ref cda) cc :: outer
  ex := []
  fn := fun _ => false
  calm := true
  pn := []
  xe := fun e s' => wpAny (model P w) (A.deeper (PySem.W.ksEnv qual scope s.heap.objs.size f (.ref cda) cc)) (leaving (PySem.W.ksEnv qual scope s.heap.objs.size f (.ref cda) cc) e) (fun _ s'' => CX outer H s E e s'') (fun e' s'' => CX outer H s E e' s'') s'
section
variable {P : Program} {w : World} {K : PySem.W.Frag} {mg : Str → Option Value} {base : Heap} {C f cc cda : Addr} {fld prm name qual : Str} {params : Arguments} {scope : Scope} {fd : FuncData} {p0 p1 p2 p3 p4 p5 p6 p7 p8 p9 : Pos}
theorem sup_start {CX : CXT} {A : Around} {outer : List Env} {s : Shared} {H : Hp} {E : XK} {h₁ : Heap} {tk : Nat} {x y : V} {u v : Value} (S : SupS prm scope) (cl : ∃ (cl : Value) (cld : Option Addr) (csl : Array (Option Value)), K.lookup cc = some ⟨cl, cld, .cell (some (.ref C)), csl⟩)
    (e0 : Env0 P w K mg base A outer s H) (hd : A.handled = none) (hns : h₁.Ns s.heap.objs.size fun z => ([("self" : Str), prm].zip [u, v]).reverse.lookup z) (kp : ∀ b o, s.heap.get? b = some o → h₁.get? b = some o) (rx : RelV x u) (ry : RelV y v) :
    Inv (supCx CX P w K mg base [("self" : Str), prm] qual scope f cda cc A outer s H E) [] [some x, some y] H { s with heap := h₁, toks := tk } := by
  have noA : ∀ b : Addr, b ∉ (supCx CX P w K mg base [("self" : Str), prm] qual scope f cda cc A outer s H E).ex := fun b z => absurd (show b ∈ ([] : List Addr) from z) (by simp)
  have cl1 : ∀ z c, (supCx CX P w K mg base [("self" : Str), prm] qual scope f cda cc A outer s H E).env.cells.lookup z = some c → z = "__class__" ∧ c = cc := fun z c e => by
    have e : ([("__class__", cc)] : List (Str × Addr)).lookup z = some c := e
    simp only [List.lookup] at e
    split at e
    · rename_i h
      exact ⟨by simpa using h, (Option.some.inj e).symm⟩
    · cases e
  have look : (supCx CX P w K mg base [("self" : Str), prm] qual scope f cda cc A outer s H E).env.cells.lookup ("__class__" : Str) = some cc := rfl
  obtain ⟨cl, cld, csl, hcc⟩ := cl
  have hb := e0.mod.kin _ _ hcc
  refine ⟨⟨e0.mod, S.kind, rfl, rfl, Nat.le_refl _, fun y z c h1 h2 => (cl1 _ _ h1).1.trans (cl1 _ _ h2).1.symm, fun z hz => ?_, fun y c z _ => Bool.noConfusion z, fun _ => hd, Around.frames_deeper e0.frames, .inr ⟨rfl, rfl⟩, fun b z => absurd z (noA b), e0.bs, e0.bsz, fun b _ _ => noA b, fun b z => absurd z (noA b), e0.funs, e0.frf⟩,
    rfl, e0.bare, Un.kept kp, ⟨_, hns, fun i z v' h1 h2 h3 => ?_⟩, fun z c h => ?_, e0.hok.fresh (Nat.le_refl _), fun z c h => ?_, fun p hp => absurd (show p ∈ ([] : List (Addr × Obj)) from hp) (by simp), e0.hok.kept kp, rfl⟩
  · have hz : scope.names.lookup z = some .cell ∨ scope.names.lookup z = some .free := hz
    rcases hz with hz | hz
    · exact absurd rfl (S.noCell _ (PySem.mem_of_lookup hz))
    · rw [show z = "__class__" from S.free _ (PySem.mem_of_lookup hz) rfl]
      exact ⟨cc, look⟩
  · match i, h1, h2 with
    | 0, h1, h2 =>
      cases (Option.some.inj h1)
      cases (Option.some.inj (Option.some.inj h2))
      refine ⟨u, rx, .inl ⟨S.ka, ?_⟩⟩
      show ([(prm, v), (("self" : Str), u)]).lookup ("self" : Str) = some u
      have : (("self" : Str) == prm) = false := by simpa using S.ne
      simp [List.lookup, this]
    | 1, h1, h2 =>
      cases (Option.some.inj h1)
      cases (Option.some.inj (Option.some.inj h2))
      refine ⟨v, ry, .inl ⟨S.kp, ?_⟩⟩
      show ([(prm, v), (("self" : Str), u)]).lookup prm = some v
      simp [List.lookup]
  · obtain ⟨_, rfl⟩ := cl1 _ _ h
    exact ⟨_, _, kp _ _ (e0.bs _ _ hb).1, rfl⟩
  · obtain ⟨_, rfl⟩ := cl1 _ _ h
    exact (e0.bs _ _ hb).2
def sp_sup (C : Addr) (fld : Str) : Sp := fun vs H Q _ => ∃ (a : Addr) (y : V), vs = [.ref a, y] ∧ H a = some (exo a C none) ∧ ∀ dx, H dx = none → dx ≠ a → Q .non (upd (upd H dx (exd dx [(fld, y)])) a (exo a C (some dx)))
theorem mw_call {A : Around} {E : Value → Shared → Prop} {h : Heap} {g : Array GenState} {d : Drawn} {t : Nat} {os : OsState} {nm q : Str} {C N : Addr} {bs bm : List Value} {hdct : Bool} {sn : List Str} {sub : List Value} {ab : Bool} {col : Option Bool} {dd : Option Addr} {k0 k1 k2 k3 k5 : Option Value} {u e t0 : Addr} {rest : List Value} {Q : Value → Shared → Prop}
    (hC : h.get? C = some (excClassObj nm q C N bs bm hdct sn sub ab col dd k0 k1 k2 k3 k5 "ValueError.__new__")) (he : h.get? e = some (HandSPX.excO C t0)) (hu : h.get? u = some (PySem.W.kxs_mw "ValueError.__init__" e)) (hrest : rest.length ≤ sizeLine)
    (hq : ∀ h' t1, (∀ b o, b ≠ e → h.get? b = some o → h'.get? b = some o) → h'.get? e = some (HandSPX.excO C t1) → Q .none ⟨h', g, d, t, os⟩) :
    wpAny (model P w) A (call (.ref u) rest) Q E ⟨h, g, d, t, os⟩ := by
  refine wpAny_call (codeAny_of_tree ?_)
  show wpAny _ A.in1 (callAny (.ref u) ⟨rest, []⟩) _ _ _
  simp only [callAny]
  refine wpAny_bind (wpAny_load hu ?_)
  simp only [PySem.W.kxs_mw, show (Value.type "method-wrapper" == Value.type "method" || Value.type "method-wrapper" == Value.type "builtin_function_or_method" || Value.type "method-wrapper" == Value.type "method-wrapper") = true by decide, if_true]
  refine PySem.W.KFB.if_so (by decide) ?_
  refine wpAny_bind (PySem.W.check_bound_init F.excBase_ValueError.toExcCallFacts hC he rfl ?_)
  refine wpAny_bind (wpAny_pure (wpAny_pure ?_))
  refine ⟨Code.quiet_builtin _ (by decide +kernel), codeAny_builtin F.excBase_ValueError.initEntry ?_⟩
  rw [Around.under_plainId F.excBase_ValueError.init.plain _]
  wp_walk
  refine hq _ h.objs.size (fun b o hb ho => ?_) ?_
  · rw [Heap.get?_update_other _ _ (Ne.symm hb)]
    exact Heap.get?_push_of_some _ ho
  · rw [Heap.get?_update_self _ (Heap.get?_push_of_some _ he) rfl]
    rfl
theorem sup_ok {CX : CXT} {k : Nat} {body : List Stmt} (hB : body = supBody fld prm p0 p1 p2 p3 p4 p5 p6 p7 p8 p9)
    (hev : ∀ env : Env, ∃ pl, eval (.Call (.Attribute (.Call (.Name "super" p0) [] [] p1) "__init__" p2) [.Name prm p3] [] p4) env = (do
      let ov ← attributeBase (.Call (.Name "super" p0) [] [] p1) "__init__" env (eval (.Call (.Name "super" p0) [] [] p1) env)
      standAt p2.atName
      let (f, first) ← holding [ov] (getMethod ov "__init__" pl)
      callWith p4 f first (backTo p4 (starEach [.Name prm p3] env)) [])) (hpd : (prm == ("__debug__" : Str)) = false) (hpc : (prm == ("__classdict__" : Str)) = false) (S : SupS prm scope) (D : ExcDef P K mg C f cc cda fld prm name qual params scope body fd) :
    FnOk P w K mg base CX (k + 1) f fd [("self" : Str), prm] (sp_sup C fld) := by
  subst hB
  refine ⟨fun vs H Q E h => ?_, fun A outer s H args us vs Q E hr e0 hb r h => ?_⟩
  · obtain ⟨a, y, rfl, _⟩ := h
    rfl
  obtain ⟨a, y, rfl, ha, q⟩ := h
  obtain ⟨oc, od, dV, kV, doc, pm, an, ct, osl, rfl, lk⟩ := D.fn
  obtain ⟨ccl, cdd, cvs, ccs, file, tf, hco, hvs, hfile⟩ := D.code
  obtain ⟨cl, cld, csl, hcc⟩ := id D.cell
  obtain ⟨ar, hpar, harg⟩ := D.par
  obtain ⟨nm, qn, N', bs, bm, sn, sub, ab, col, dd, k0, k1, k2, k3, k5, hC, hbm⟩ := D.T.cls
  have hcl : PySem.W.clsIn K C = some { name := nm, bases := bs, mro := .ref C :: bm, ns := N', qualname := qn, hasDict := true, slotNames := sn, subclasses := sub, abstract := ab, collection := col, hasDel := false } := by unfold PySem.W.clsIn; rw [hC] <;> rfl
  match us, r with
  | [u, v], .cons (rx : u = Value.ref a) (.cons ry .nil) =>
    subst rx
    have KX : K.In s.heap := e0.mod.kin.keeps fun b o e => (e0.bs b o e).1
    have lim : s.heap.NoLimit := e0.mod.nolimit.keeps fun b o e => (e0.bs b o e).1
    refine PySem.ks_codeAny_call_defAt (fd := PySem.W.ksFn name qual params (supBody fld prm p0 p1 p2 p3 p4 p5 p6 p7 p8 p9) scope dV kV doc pm an (.ref cda) ct cc) (body := supBody fld prm p0 p1 p2 p3 p4 p5 p6 p7 p8 p9) hr.depth (KX _ _ lk) rfl lim (PySem.W.codeRec_of KX D.hcd) rfl hb S.noCell (fun x hx => ?_) (fun h₁ hns kp => ?_) S.co S.gen S.kind
    · have hx : x = (("self" : Str), Value.ref a) ∨ x = (prm, v) := by simpa using hx
      rcases hx with rfl | rfl
      · exact S.ka
      · exact S.kp
    have I := sup_start (CX := CX) (E := E) (qual := qual) (f := f) (cda := cda) (tk := s.toks + ([("self" : Str), prm].zip [Value.ref a, v]).length) S D.cell e0 hr.hd hns kp (show RelV (.ref a) (Value.ref a) from rfl) ry
    have KI := I.kIn
    obtain ⟨mb, hb1, hb2⟩ := I.mod.blt
    obtain ⟨pl, hev⟩ := hev (PySem.W.ksEnv qual scope s.heap.objs.size f (.ref cda) cc)
    refine PySem.ks_wpAt_execs_cons (PySem.ks_wpAt_Expr_any (PySem.ks_wpAt_MethodCall (pl := pl) (PySem.ks_wpAt_super_base S.ks S.kc (by decide) rfl (KI _ _ lk) rfl hpar rfl (KI _ _ hco) rfl hvs hfile D.top ?_) hev) (by unfold interactive; show (scope.kind == ScopeKind.module && _) = false; rw [S.kind]; rfl) (by rfl))
    refine PySem.W.ks_loadName_global S.kind S.ks (Calls.loadGlobal_builtin (s := { s with heap := h₁, toks := s.toks + ([("self" : Str), prm].zip [Value.ref a, v]).length }) (env := PySem.W.ksEnv qual scope s.heap.objs.size f (.ref cda) cc) (mg := mg) (mb := mb) (e0.mod.glob.keeps I.bk) D.noSup (hb1.keeps I.bk) ((hb2 _ (by decide)).trans (show bootBuiltins "super" = some (.type "super") by decide +kernel)) ⟨rfl, ?_⟩)
    refine wpAny_loadName_free S.kind S.kc rfl ⟨_, KI _ _ hcc, rfl⟩ ?_
    rw [harg]
    refine wpAny_loadName_local S.kind S.ka hns (v := .ref a) ?_ ?_
    · show ([(prm, v), (("self" : Str), Value.ref a)]).lookup ("self" : Str) = some (Value.ref a)
      have : (("self" : Str) == prm) = false := by simpa using S.ne
      simp [List.lookup, this]
    obtain ⟨t1, hae⟩ := exo_at I.hok ha
    refine PySem.ks_wpAny_isType_cls (KI _ _ hC) rfl ⟨rfl, ?_⟩
    refine PySem.ks_wpAny_call_super (KI _ _ hC) rfl hae rfl (fun c e => by cases e) (PySem.W.looks_mroIn KI D.sub) (fun h' hso kp' => ?_)
    have I2 := I.kept (h' := h') (t' := s.toks + ([("self" : Str), prm].zip [Value.ref a, v]).length) kp'
    have KI2 := I2.kIn
    have hae2 := kp' _ _ hae
    have hIn : PySem.W.InstAt h' a { cls := .ref C, dict := none, data := .fields #[.ref t1, .none, .none, .none, .bool false, .none] } C none := ⟨hae2, rfl, rfl, trivial⟩
    have hsup : PySem.W.alongIn K "__init__" (((Value.ref C :: bm).dropWhile (· != .ref C)).drop 1) = some (some (.builtin "ValueError.__init__")) := by
      have z := D.sup
      unfold PySem.W.ks_superIn at z
      rw [hcl] at z
      exact z
    refine PySem.W.kxs_getMethod PySem.W.kxs_ValueError hso (PySem.W.looks_opaque KI2 D.tp) (l₀ := .ref C :: bm) ?_ rfl KI2 hsup (hIn.type.andThen (PySem.W.looks_subIn KI2 D.subV)) (PySem.W.ks_ne KI2 hIn hcl) (by decide) ?_
    · exact fun A Q E s k q => wpAny_bind ((PySem.W.looks_clsIn KI2 hcl) A _ E s k (wpAny_pure q))
    have I3 := I2.kept (h' := h'.push (PySem.W.kxs_mw "ValueError.__init__" a)) (t' := s.toks + ([("self" : Str), prm].zip [Value.ref a, v]).length + 1) (fun b o e => Heap.get?_push_of_some _ e)
    have hmw : (h'.push (PySem.W.kxs_mw "ValueError.__init__" a)).get? h'.objs.size = some (PySem.W.kxs_mw "ValueError.__init__" a) := Heap.get?_push_size _ rfl
    have hnu : H h'.objs.size = none := I2.hok.fresh (Nat.le_refl _)
    have I4 := I3.pins_of (pins' := [(h'.objs.size, PySem.W.kxs_mw "ValueError.__init__" a)]) fun p hp => by
      obtain rfl : p = (h'.objs.size, PySem.W.kxs_mw "ValueError.__init__" a) := by simpa using hp
      exact ⟨hmw, hnu, Nat.ne_of_gt I2.lt, I2.nofs (Nat.le_refl _), fun v z => by cases z⟩
    show wpAny _ _ (callWith p4 (.ref h'.objs.size) [] (backTo p4 (starEach [.Name prm p3] _)) []) _ _ _
    refine PySem.W.kxs_callWith (i := "ValueError.__init__") (x := a) (by rfl) (Calls.evalArgs_plain ?_)
    refine thn ((pa_cons (pe_var (X := supCx CX P w K mg base [("self" : Str), prm] qual scope f cda cc A outer s H E) (i := 1) rfl (.inl S.kp) hpd hpc) pa_nil).run p4 _ _ _ H (fun vs H' => vs = [y] ∧ H' = H) I4 ⟨y, rfl, rfl, rfl⟩) fun us s5 ⟨vs, H5, I5, r5, q5⟩ => ?_
    obtain ⟨rfl, rfl⟩ := q5
    have hmw5 : s5.heap.get? h'.objs.size = some (PySem.W.kxs_mw "ValueError.__init__" a) := (I5.pin _ (List.mem_append_right _ (List.mem_singleton.mpr rfl))).1
    refine ⟨hmw5, ?_⟩
    obtain ⟨t5, hae5⟩ := exo_at I5.hok ha
    have hlen : us.length = 1 := by rw [← r5.length]; rfl
    obtain ⟨hp5, g5, d5, tk5, os5⟩ := s5
    refine mw_call (I5.kIn _ _ hC) hae5 hmw5 (by show us.length ≤ sizeLine; rw [hlen]; decide) fun h6 t6 kp6 hx6 => ?_
    have J := I5.write (t' := tk5) (x := a) (e := a) (o := exo a C none) (by rw [ha]; exact True.intro) (.inl rfl) kp6 ⟨_, hx6⟩ (exo_ok hx6)
    have eu : upd H5 a (exo a C none) = H5 := by
      funext b
      by_cases hb : b = a
      · rw [hb, upd_same, ha]
      · rw [upd_ne hb]
    rw [eu] at J
    refine PySem.wpAt_of_wpAny (thn ((pss_one (ps_ost (X := supCx CX P w K mg base [("self" : Str), prm] qual scope f cda cc A outer s H5 E) (pos := p9) (p' := p7) (pe_var (pos := p6) (i := 0) (x := "self") rfl (.inl S.ka)) (pe_var (pos := p8) (i := 1) (x := prm) rfl (.inl S.kp) hpd hpc))).run _ _ _ H5 { nx := fun _ H' => Q .non H', rt := Q } J ?_) fun fl s7 h7 => ?_)
    · exact ⟨y, rfl, .ref a, rfl, a, C, rfl, D.T, D.fldC, .inl ⟨ha, q⟩⟩
    · cases fl with
      | next =>
        obtain ⟨σ', H', J', q'⟩ := h7
        exact ⟨.non, H', J'.os, J'.bare, J'.base, J'.hok, rfl, q'⟩
      | ret u =>
        obtain ⟨v, σ', H', J', rv, q'⟩ := h7
        exact ⟨v, H', J'.os, J'.bare, J'.base, J'.hok, rv, q'⟩
      | brk =>
        obtain ⟨_, _, _, z⟩ := h7
        exact False.elim z
      | cont =>
        obtain ⟨_, _, _, z⟩ := h7
        exact False.elim z
end
end L2
namespace L2
open PySem PySem.Spec PyProof.Rows
/-- an own exception class under its name -/
structure ExCl (P : Program) (w : World) (K : PySem.W.Frag) (mg : Str → Option Value) (base : Heap) (x : Str) (C : Addr) (fld : Str) : Prop where
  T : OexC K C
  m : mg x = some (.ref C)
  fn : ∃ (fI : Addr) (fd : FuncData) (prm : Str), PySem.W.findIn K (.ref C) "__init__" = some (some (.ref fI)) ∧ PySem.W.typeIn K (.ref fI) = some (.type "function") ∧ FnOk P w K mg base (L2.CX P w) 1 fI fd [("self" : Str), prm] (sp_sup C fld) ∧ Binds K fd [("self" : Str), prm] []
section
variable {X : Cx} {j : Nat} {x fld : Str} {C : Addr} {p pos : Pos} {e : Expr} {es : List Expr} {t : TA}
theorem pmk_x (c : ExCl X.prog X.w X.K X.mg X.base x C fld) (hr : Room j X.A) (ha : PA X (e :: es) t) (hk : 2 ≤ j := by decide) (hg : Gl X x := by rfl) (hdb : (x == ("__debug__" : Str)) = false := by decide)
    (he : starEach (e :: es) X.env = (false, eval e X.env) :: starEach es X.env := by rfl) (hpl : (backTo pos (starEach es X.env)).any (·.1) = false := by rfl) :
    PMk X (.Call (.Name x p) (e :: es) [] pos) (tMkO C (sp_sup C fld) [] t) := by
  obtain ⟨fI, fd, prm, h1, h2, h3, h4⟩ := c.fn
  exact pmk_oex c.T h1 h2 h3 (hr.mono hk) h4 .nil passL hg c.m ha hdb he hpl
/-- what is left behind C(e), raised -/
theorem mk_same {H1 : Hp} {a dx : Addr} {y : V} (h : H1 a = none) (hd : upd H1 a (exo a C none) dx = none) (hne : dx ≠ a) :
    Same H1 (upd (del (upd (upd (upd H1 a (exo a C none)) dx (exd dx [(fld, y)])) a (exo a C (some dx))) a) dx (.xd [(fld, y)])) := fun b o e => by
  have e1 : b ≠ a := ne_of_none e h
  have e2 : b ≠ dx := fun z => by
    rw [z] at e
    rw [upd_ne hne] at hd
    rw [hd] at e
    cases e
  rw [upd_ne e2, del_ne e1, upd_ne e1, upd_ne e2, upd_ne e1]
  exact e
end
/-! ### a polynomial, or what is none -/
def asTup : PyData → PyData
  | .list ds => .tuple ds
  | d => d
def DpS (K : PySem.W.Frag) (H : Hp) (v : V) (d : PyData) : Prop := Dp K H v d ∧ SeqAt.shaped d = true ∧ SeqAt.shaped (asTup d) = true ∧ ∀ ds, asTup d = .tuple ds → ds.length ≤ 10000
theorem DpS.same {K : PySem.W.Frag} {H H' : Hp} {v : V} {d : PyData} (h : DpS K H v d) (e : Same H H') : DpS K H' v d := ⟨e.dp d v h.1, h.2⟩
theorem dps_tup {K : PySem.W.Frag} {H : Hp} {a : Addr} {ns : List Int} (h : TpI K H a ns) (l : ns.length ≤ 10000) : DpS K H (.ref a) (.tuple (dInts ns)) :=
  ⟨dp_tup h, shaped_tup ns, shaped_tup ns, fun ds e => by cases e; rw [dInts, List.length_map]; exact l⟩
theorem dps_lst {K : PySem.W.Frag} {H : Hp} {a : Addr} {ns : List Int} (h : LsI K H a ns) (l : ns.length ≤ 10000) : DpS K H (.ref a) (.list (dInts ns)) :=
  ⟨dp_lst h, shaped_lst ns, shaped_tup ns, fun ds e => by cases e; rw [dInts, List.length_map]; exact l⟩
theorem dInts_inj {ns ms : List Int} (h : dInts ns = dInts ms) : ns = ms := by
  have := eqv_all ns ms
  rw [h] at this
  have z := eqv_all ms ms
  rw [this] at z
  simpa using z
theorem dp_tup_inv {K : PySem.W.Frag} {H : Hp} {v : V} {ns : List Int} (h : Dp K H v (.tuple (dInts ns))) : ∃ a, v = .ref a ∧ TpI K H a ns := by
  cases h with
  | tup hs ha =>
    obtain ⟨ms, e1, e2⟩ := dp_all_ints _ _ ha (dInts_all ns)
    rw [dInts_inj e1]
    refine ⟨_, rfl, ?_⟩
    rw [e2] at hs
    exact hs
/-- a refusal: the part is told -/
def ErrP (H : Hp) (CB : Addr) (pt : Str) (E : XK) : Prop := ∀ H' dd, Same H H' → H' dd = some (.xd [(("part" : Str), .str pt)]) → E (.ref CB) (some dd) H'
theorem ErrP.same {H H' : Hp} {CB : Addr} {pt : Str} {E : XK} (h : ErrP H CB pt E) (e : Same H H') : ErrP H' CB pt E := fun H2 dd s z => h H2 dd (e.trans s) z
end L2

set_option Elab.async false
set_option linter.all false
set_option maxRecDepth 100000
set_option maxHeartbeats 4000000
/-! A caught exception kept beyond its suite; isinstance and fields of it. -/
namespace L2
open PySem PySem.Spec PyProof.Rows
/-- at a: an exception of the class cls, its dict at d -/
def ExH (cls : Value) (d : Option Addr) (a : Addr) : HO := .ext fun h => ∃ (oe : Obj) (vs : Array Value), h.get? a = some oe ∧ Zc cls d oe ∧ oe.data = .fields vs
theorem exH_ok {P : Program} {w : World} {H : Hp} {h : Heap} {a : Addr} {cls : Value} {d : Option Addr} {oe : Obj} {vs : Array Value} (e : h.get? a = some oe) (z : Zc cls d oe) (hd : oe.data = .fields vs) : ObjOk P w H h a (ExH cls d a) :=
  ⟨⟨oe, vs, e, z, hd⟩, ⟨oe, e⟩, fun _ _ ⟨o, v, q, r⟩ k => ⟨o, v, k o q, r⟩⟩
theorem exH_at {P : Program} {w : World} {H : Hp} {h : Heap} {a : Addr} {cls : Value} {d : Option Addr} (hok : HOk P w H h) (e : H a = some (ExH cls d a)) : ∃ (oe : Obj) (vs : Array Value), h.get? a = some oe ∧ Zc cls d oe ∧ oe.data = .fields vs := by
  have x : ObjOk P w H h a (.ext fun h => ∃ (oe : Obj) (vs : Array Value), h.get? a = some oe ∧ Zc cls d oe ∧ oe.data = .fields vs) := hok a _ e
  exact x.1
section
variable {X : Cx} {pins : List (Addr × Obj)} {σ : St} {H : Hp} {s : Shared}
/-- an object that was made since the entry is tracked from now on -/
theorem Inv.track {a : Addr} {o : HO} (I : Inv X pins σ H s) (na : H a = none) (n0 : X.s_0.heap.get? a = none) (nL : a ≠ X.env.locals) (nC : ∀ x c, X.env.cells.lookup x = some c → c ≠ a) (nP : ∀ p ∈ X.pn ++ pins, p.1 ≠ a)
    (new : ObjOk X.prog X.w (upd H a o) s.heap a o) : Inv X pins σ (upd H a o) s := by
  have old : ∀ {b : Addr} {u : Obj}, X.s_0.heap.get? b = some u → b ≠ a := fun {b u} e z => by rw [z, n0] at e; cases e
  have now : ∀ {b : Addr} {u : HO}, H b = some u → upd H a o b = some u := fun {b u} e => by rw [upd_ne (ne_of_none e na)]; exact e
  exact ⟨I.ok, I.os, I.bare,
    { keep := I.base.keep
      slot := I.base.slot
      free := fun b u e n hx => by rw [upd_ne (old e)]; exact I.base.free b u e n hx
      there := I.base.there
      tups := fun b xs e => now (I.base.tups b xs e)
      frzs := fun b u xs e => now (I.base.frzs b u xs e)
      tbls := fun b ps e => by
        obtain ⟨m, q⟩ := I.base.tbls b ps e
        exact ⟨m, now q⟩ },
    I.loc, I.cell, by rw [upd_ne (Ne.symm nL)]; exact I.free, fun x c e => by rw [upd_ne (nC x c e)]; exact I.freeC x c e,
    fun p hp => by
      obtain ⟨e, n, ne, nf, d⟩ := I.pin p hp
      exact ⟨e, by rw [upd_ne (nP p hp)]; exact n, ne, nf, d⟩,
    fun b u e => by
      by_cases hb : b = a
      · rw [hb, upd_same] at e
        cases e
        rw [hb]
        exact new
      · rw [upd_ne hb] at e
        exact (I.hok b u e).stay (fun _ _ _ q => q) (fun _ q => now q) fun _ _ q => now q, I.len⟩
end
/-- what 'except x as n: m = n' wishes of an exception of the body: it stands in m's slot behind it -/
def wKp (K : PySem.W.Frag) (c : Value) (i j : Nat) (D : Ends) : WX := fun cls d σ H =>
  PySem.W.exmOne K cls c = some true ∧ ∀ a, H a = none → D.nx (((σ.set i (some (.ref a))).set j (some (.ref a))).set i none) (upd H a (ExH cls d a))
section
variable {X : Cx} {x n m : Str} {c : Value} {i j : Nat} {body : List Stmt} {np q1 q2 q3 pos pos' : Pos} {tb : WX → TS}
theorem ps_try_keep (hex : X.ex = []) (hs : X.stack = X.env :: X.outer) (hf : X.env.frame = some X.env.locals) (hN : X.N.Nodup) (hi : X.N[i]? = some n) (hj : X.N[j]? = some m) (hij : i ≠ j) (hln : X.env.kindOf n = some .local) (hlm : X.env.kindOf m = some .local) (hc : Names X x c) (hdn : (n == ("__debug__" : Str)) = false) (hcn : (n == ("__classdict__" : Str)) = false)
    (hb : ∀ (W : WX) (pn : List (Addr × Obj)) (xe : Value → Shared → Prop), Takes (X.tr pn xe) W → PassesOwn (model X.prog X.w) X.A X.env xe → PSs (X.tr pn xe) body (tb W)) :
    PS X (.Try body [.ExceptHandler (some (.Name x np)) (some n) [.Assign [.Name m q1] (.Name n q2) q3] pos'] [] [] pos) (fun D σ H => tb (wKp X.K c i j D) D σ H) := by
  refine ⟨fun pins s σ H D I h => ?_⟩
  have ok := I.ok
  have hfr : X.A.frames = some (X.env :: X.outer) := by rw [ok.frames, hs]
  refine wpAny_Try_except ?_
  refine wpAny_mono ((hb (wKp X.K c i j D) (X.pn ++ pins) (fun e s₁ => wpAny (model X.prog X.w) X.A (noteFrame e X.env) (fun _ s₂ => wpAny (model X.prog X.w) X.A (setFlight e none) (fun _ s₃ =>
    wpAny (model X.prog X.w) X.A (handleBy e X.env [.ExceptHandler (some (.Name x np)) (some n) [.Assign [.Name m q1] (.Name n q2) q3] pos']) (SP X pins D) X.xe s₃) X.xe s₂) X.xe s₁) (fun u s' xx => ?_) PassesOwn.looking).run [] s σ H D (I.toTry _) h) (fun f s1 hsp => ?_) (fun e s1 he => he)
  · obtain ⟨a, B, sI, pins', σ', H', cls, d, rfl, J', nb, up, sky, na, os, ag, hb1, hyes⟩ := xx
    have J : Inv X pins σ' H' sI := J'.ofTry ok
    have sky' : Sky B (X.env :: X.outer) a (Zc cls d) X.env.locals s'.heap := by rw [← hs]; exact sky
    show wpAny (model X.prog X.w) X.A (noteFrame (.ref a) X.env) _ _ _
    refine Sky.land Zc.steady hfr hf sky' fun h3 fl3 up3 => ?_
    have J3 : Inv X pins σ' H' { s' with heap := h3 } := J.landed nb fl3.1 (up.trans up3) os ag
    obtain ⟨oe3, vs3, he3, hz3, hd3⟩ := fl3.there
    have nfr : a ∉ frs (X.env :: X.outer) := fun hm => by
      obtain ⟨_, o', e', hnf⟩ := fl3.2.2.1.mem hm
      rw [he3] at e'
      cases e'
      exact hnf _ hd3
    have nL : a ≠ X.env.locals := fun z => nfr (List.mem_filterMap.mpr ⟨X.env, List.mem_cons_self, by rw [hf, z]⟩)
    have nF : a ∉ X.fs := fun hm => by
      obtain ⟨e, he, q⟩ := List.mem_filterMap.mp hm
      exact nfr (List.mem_filterMap.mpr ⟨e, List.mem_cons_of_mem _ he, q⟩)
    have nI : ∀ o, sI.heap.get? a ≠ some o := fun o z => by
      have z2 := nb a o z (by rw [hs]; exact nfr)
      rw [fl3.2.1] at z2
      cases z2
    have S3 := J3.suite he3 hd3 na nL nF
    refine wpAny_handleBy_cons (codeAny_handlers_test ?_) (by intro q; cases q)
    have LT : PySem.W.Looks (model X.prog X.w) h3 (typeOf (.ref a)) cls := fun A Q E s k q => wpAny_typeOf_ref (k _ _ he3) (by rw [hz3.1]; exact q)
    have LM := PySem.W.exm_one (M := model X.prog X.w) (J3.kIn) LT hb1
    have test : ∀ {Q : Value → Shared → Prop} {E : Value → Shared → Prop}, Q c { s' with heap := h3 } → wpAny (model X.prog X.w) (X.A.mark (some (.ref a))) (eval (.Name x np) X.env) Q E { s' with heap := h3 } := fun {Q E} q => by
      obtain ⟨hg, hdbg, hm | ⟨hm, hv, hnn⟩⟩ := hc
      · exact ld_glob (X := X.suite a ((a, oe3) :: (X.pn ++ pins))) S3 hg hm q hdbg
      · exact ld_blt (X := X.suite a ((a, oe3) :: (X.pn ++ pins))) S3 hg hm hv q hnn hdbg
    refine test (LM.here ?_)
    refine codeAny_handlers_suite_as ?_
    refine HandSPX.lands_againZ fl3 fun h4 fl4 up4 => ?_
    have J4 : Inv X pins σ' H' { s' with heap := h4 } := J.landed nb fl4.1 ((up.trans up3).trans up4) os ag
    obtain ⟨oe4, vs4, he4, hz4, hd4⟩ := fl4.there
    have S4 := J4.suite he4 hd4 na nL nF
    refine store_ok (X := X.suite a ((a, oe4) :: (X.pn ++ pins))) (v := .ref a) S4 hN hi (.inl hln) rfl (fun s5 S5 => ?_) (.inr hln)
    have hlen : i < σ'.length := by
      rw [J.len]
      exact (List.getElem?_eq_some_iff.mp hi).1
    refine wpAny_mono ((pss_one (ps_set (X := X.suite a ((a, oe4) :: (X.pn ++ pins))) (i := j) hN hj (.inl hlm) (pe_var (i := i) hi (.inl hln) hdn hcn) (by rfl) (.inr hlm))).run [] s5 _ H' { nx := fun σ6 H6 => σ6 = (σ'.set i (some (.ref a))).set j (some (.ref a)) ∧ H6 = H', rt := fun _ _ => False } S5 ⟨.ref a, by rw [List.getElem?_set_self hlen], rfl, rfl⟩) (fun f s6 hsp => ?_) (fun _ _ z => False.elim z)
    cases f with
    | next =>
      obtain ⟨σ6, H6, S6, e6, e7⟩ := hsp
      subst e6 e7
      have h6 : s6.heap.get? a = some oe4 := (S6.pin (a, oe4) (List.mem_append_left _ List.mem_cons_self)).1
      have U6 := S6.unsuite ok
      have n0 : X.s_0.heap.get? a = none := by
        cases e : X.s_0.heap.get? a with
        | none => rfl
        | some o =>
          obtain ⟨o', q⟩ := J.base.there a o e (fun hm => by rw [hex] at hm; cases hm)
          exact absurd q (nI o')
      have T6 := U6.track (o := ExH cls d a) na n0 nL (fun y cc e z => by
          obtain ⟨v, o, ho, _⟩ := J.cell y cc e
          rw [z] at ho
          exact nI _ ho) (fun p hp z => by
          have := (J.pin p hp).1
          rw [z] at this
          exact nI _ this) (exH_ok h6 hz4 hd4)
      exact gone_ok T6 hN hi hln fun s7 J7 => ⟨_, _, J7, hyes a na⟩
    | brk =>
      obtain ⟨_, _, _, z⟩ := hsp
      exact z.elim
    | cont =>
      obtain ⟨_, _, _, z⟩ := hsp
      exact z.elim
    | ret u =>
      obtain ⟨_, _, _, _, _, z⟩ := hsp
      exact z.elim
  · cases f with
    | next =>
      obtain ⟨σ', H', J', q⟩ := hsp
      exact wpAny_execs_nil ⟨σ', H', J'.ofTry ok, q⟩
    | brk =>
      obtain ⟨σ', H', J', q⟩ := hsp
      exact ⟨σ', H', J'.ofTry ok, q⟩
    | cont =>
      obtain ⟨σ', H', J', q⟩ := hsp
      exact ⟨σ', H', J'.ofTry ok, q⟩
    | ret u =>
      obtain ⟨v, σ', H', J', r, q⟩ := hsp
      exact ⟨v, σ', H', J'.ofTry ok, r, q⟩
end
end L2
namespace L2
open PySem PySem.Spec PySem.Calls PyProof.Rows
section
variable {prog : Program} {w : World} {A : Around} {E : Value → Shared → Prop} {s : Shared} {K : PySem.W.Frag} {x D : Addr} {ox : Obj} {od : Option Obj}
/-- an exception's __class__, with a dict or without -/
theorem classH {Q : Option Value → Shared → Prop} (C : ExcC K D) (X : K.In s.heap) (I : PySem.W.InstAt s.heap x ox D od) (h : Q (some (.ref D)) { s with toks := s.toks + 1 }) : wpAny (model prog w) A (getAttr? (.ref x) "__class__") Q E s := by
  have hf : PySem.W.findObj K D od "__class__" = some (.bind (.builtin "getset_descriptor.__get__") (.builtin "object.__class__")) := by
    obtain ⟨cd, hc, _⟩ := PySem.W.any_some C.hd
    unfold PySem.W.findObj
    rw [hc, Option.bind_some, C.ha, Option.bind_some]
    simp [C.hn, C.ht]
  obtain ⟨hp, g, d, t, os⟩ := s
  have L0 := I.type (M := model prog w)
  have L1 := PySem.W.looks_findIn (M := model prog w) X C.hg
  have L2' := PySem.W.looks_findIn (M := model prog w) X C.hk
  have L3 := PySem.W.looks_find (M := model prog w) X I hf
  have sub : PySem.W.Looks (model prog w) hp (isInstance (.ref x) (.type "BaseException")) true := L0.andThen (PySem.W.looks_subIn X C.hs)
  have e2 : (Value.builtin "BaseException.__getattribute__" == Value.builtin "object.__getattribute__") = false := by decide +kernel
  have e1 : (onTheHeap (Value.ref D) && Value.builtin "BaseException.__getattribute__" == Value.builtin "object.__getattribute__") = false := by rw [e2]; rfl
  unfold getAttr? getAttrBy? getAttrBy
  refine wpAny_bind (wpAny_mkText (wpAny_bind (wpAny_attempt (wpAny_holding (wpAny_bind (L0.at (wpAny_bind (L1.at ?_))))))))
  show wpAny _ _ (if (onTheHeap (Value.ref D) && Value.builtin "BaseException.__getattribute__" == Value.builtin "object.__getattribute__") = true then _ else _) _ _ _
  rw [e1, if_neg Bool.false_ne_true]
  unfold getAttrByItsOwn hookBefore
  refine wpAny_bind ?_
  rw [if_pos (show onTheHeap (Value.ref D) = true from rfl)]
  refine L2'.at ?_
  refine wpAny_bind (wpAny_attempt (wpAny_holding ?_))
  unfold callGetattribute
  rw [show (false && onTheHeap (Value.builtin "BaseException.__getattribute__")) = false from rfl, if_neg Bool.false_ne_true]
  unfold boundAndCalled
  rw [PySem.F.excAttr_ValueError.ga.bind (.ref x)]
  refine wpAny_bind (wpAny_pure ?_)
  show wpAny _ _ (call (.builtin "BaseException.__getattribute__") [.ref x, .str "__class__" t]) _ _ _
  refine wpAny_call (codeAny_call_builtin PySem.F.excAttr_ValueError.ga.plain PySem.F.entry_bexc_ga ?_)
  refine @PySem.W.check_slot (model prog w) _ _ ⟨hp, g, d, t + 1, os⟩ "BaseException.__getattribute__" "BaseException" "__getattribute__" (.ref x) [.str "__class__" t] [] _ (by decide +kernel) (by decide +kernel) sub (PySem.F.args_bexc_ga (.ref x) (.str "__class__" t)) ?_
  unfold Builtin.«object.__getattribute__»
  refine wpAny_bind (wpAny_of_eq (a := ((Value.ref x : Value), [Value.str "__class__" t])) (by first | rfl | (simp only [slotArgs]; rfl)) ?_)
  refine wpAny_bind (wpAny_pure (wpAny_bind (L0.at (wpAny_bind (L3.at ?_)))))
  show wpAny _ _ (holding [Value.builtin "object.__class__"] (call (.builtin "getset_descriptor.__get__") [.builtin "object.__class__", .ref x, .ref D]) >>= ret) _ _ _
  refine wpAny_bind (wpAny_holding (wpAny_call (PySem.W.class_get (s := ⟨hp, g, d, t + 1, os⟩) (ox := ox) (od := od) X I C.hm ?_)))
  refine wpAny_pure ?_
  show wpAny _ _ (handedOut (.ref D)) _ _ _
  rw [PySem.W.handedOut_of (v := .ref D) rfl]
  first
    | exact wpAny_pure (wpAny_pure h)
    | exact wpAny_pure h
    | exact wpAny_pure (wpAny_bind (wpAny_pure (wpAny_pure h)))
theorem kitH (C : ExcC K D) : PySem.W.KitX K (.ref x) (.ref D) (fun h => PySem.W.InstAt h x ox D od) where
  ty := fun _ _ _ I => I.type
  it := fun _ _ X _ => by
    obtain ⟨cdD, hcD, _⟩ := PySem.W.any_some C.hd
    unfold PySem.W.clsIn at hcD
    split at hcD
    · rename_i c' d' cd' sl' ho
      intro A' Q' E' s' k q
      unfold isType loadHead
      exact wpAny_bind (wpAny_loadPart (k _ _ (X _ _ ho)) (wpAny_pure q))
    · cases hcD
  ne := fun h tp dd its n sl X htp => by
    obtain ⟨cdD, hcD, _⟩ := PySem.W.any_some C.hd
    refine Bool.eq_false_iff.mpr fun q => ?_
    have e : D = tp := Value.ref.inj (beq_iff_eq.mp q)
    subst e
    unfold PySem.W.clsIn at hcD
    split at hcD
    · rename_i c' d' cd' sl' ho
      have z := (X _ _ ho).symm.trans htp
      cases z
    · cases hcD
  ca := fun X I k => classH C X I k
end
/-- the tracked exception as an instance -/
theorem instH {X : Cx} {pins : List (Addr × Obj)} {σ : St} {H : Hp} {s : Shared} {a D dd : Addr} {fs : List (Str × V)} (I : Inv X pins σ H s) (ha : H a = some (ExH (.ref D) (some dd) a)) (hd : H dd = some (.xd fs)) :
    ∃ oe od mA, PySem.W.InstAt s.heap a oe D (some od) ∧ s.heap.Ns1 dd mA ∧ s.heap.get? dd = some od ∧ ∀ f, RelO (fs.lookup f) (mA f) := by
  obtain ⟨oe, vs, he, hz, hv⟩ := exH_at I.hok ha
  have hx : ObjOk X.prog X.w H s.heap dd (.xd fs) := I.hok dd _ hd
  obtain ⟨mA, hns, hr⟩ := hx
  obtain ⟨od, es, ep, ho, r⟩ := id hns
  exact ⟨oe, od, mA, ⟨he, hz.1, by unfold PySem.W.notCls; rw [hv] <;> rfl, by rw [hz.2]; exact ho⟩, hns, ho, hr⟩
/-- isinstance(e, C) of a tracked exception -/
def rIsH (K : PySem.W.Frag) : List V → Hp → VK → Prop := fun xs H Q => ∃ (a D dd C : Addr) (fs : List (Str × V)) (b : Bool), xs = [.ref a, .ref C] ∧ H a = some (ExH (.ref D) (some dd) a) ∧ H dd = some (.xd fs) ∧ ExcC K D ∧ PySem.W.kitOne K (.ref D) (.ref C) = some b ∧ Q (.bl b) H
theorem call_isH {X : Cx} : CallR X (.builtin "isinstance") (rIsH X.K) := by
  intro pins s σ H xs us Q I r h
  obtain ⟨a, D, dd, C, fs, b, rfl, ha, hd, T, e, q⟩ := h
  match us, r with
  | [u, v], .cons (rx : u = Value.ref a) (.cons (ry : v = Value.ref C) .nil) =>
    subst rx ry
    obtain ⟨oe, od, mA, J, _⟩ := instH I ha hd
    exact PySem.W.kia_one (kitH T) I.kIn J e (fun z => nomatch z) fun tk => ⟨.bl b, H, I.kept (t' := tk) fun _ _ z => z, rfl, q⟩
/-- a field of a tracked exception -/
def tXh (K : PySem.W.Frag) (f : Str) (te : TE) : TE := fun σ H Q => te σ H fun x H1 => ∃ (a D dd : Addr) (fs : List (Str × V)) (v : V), x = .ref a ∧ H1 a = some (ExH (.ref D) (some dd) a) ∧ H1 dd = some (.xd fs) ∧ XfC K D ∧ PySem.W.findIn K (.ref D) f = some none ∧ fs.lookup f = some v ∧ Q v H1
theorem pe_xh {X : Cx} {e : Expr} {te : TE} {pos : Pos} {n : Str} (he : PE X e te) (hb : attributeBase e n X.env (eval e X.env) = eval e X.env := by rfl) : PE X (.Attribute e n pos) (tXh X.K n te) := by
  refine ⟨fun pins s σ H Q I h => ?_⟩
  refine attr_of hb (thn (he.run pins s σ H _ I h) fun u s1 hh => ?_)
  obtain ⟨x, H1, I1, rx, a, D, dd, fs, v, ex, ha, hd, T, hno, l, q⟩ := hh
  subst ex
  obtain rfl : u = Value.ref a := rx
  obtain ⟨oe, od, mA, J, hns, ho, hr⟩ := instH I1 ha hd
  obtain ⟨od2, ho2, hl⟩ := lookIn_ns hns
  obtain rfl : od = od2 := Option.some.inj (ho.symm.trans ho2)
  obtain ⟨u, hu, ru⟩ := RelO.some_of (v := v) (o := mA n) (by rw [← l]; exact hr n)
  exact HandSPX.exc_get I1.kIn J T.ga T.gg T.exC (PySem.W.findObj_own T.hdC hno rfl (by rw [hl, hu])) (handed_of ru) ⟨v, H1, I1.tok _, ru, q⟩
end L2
namespace L2
open PySem PySem.Spec PyProof.Rows
/-- [w for w, b in pairs if b] -/
theorem lc_pairs {K : PySem.W.Frag} {a : Addr} {k1 k2 : Nat} {vs : List Nat} {σ : L2.St} {tt : TT} {te : TE} (ps : List (Addr × Str × Bool)) (hl : ps.length < 1000) {H1 : Hp} {D : Addr} {Qd : Hp → Prop} (nD : H1 D = none) (hS : SqL K H1 a (ps.map fun p => V.ref p.1))
    (hT : ∀ p ∈ ps, SqT K H1 p.1 [.str p.2.1, .bl p.2.2]) (hw : ∀ x y, wipe (((wipe σ vs).set k1 (some x)).set k2 (some y)) vs = wipe σ vs) (htt : ∀ x b H Q, Q b H → tt (((wipe σ vs).set k1 (some x)).set k2 (some (.bl b))) H Q)
    (hte : ∀ x b H (Q : VK), Q x H → te (((wipe σ vs).set k1 (some x)).set k2 (some b)) H Q) (hd : ∀ H, Same H1 H → H D = some (.lst ((ps.filter fun p => p.2.2).map fun p => V.str p.2.1)) → Qd H) :
    ∃ W : Nat → Nat → Hp → Prop, (∃ m, W 0 m (upd H1 D (.lst []))) ∧ ∀ i m H, W i m H →
      ((Itl K a).stop i H ∧ Qd H) ∨ ((Itl K a).go i H ∧ ∃ Nx : Hp → Prop, (∀ H', Nx H' → ∃ m', m' < m ∧ W (i + 1) m' H') ∧ ∀ x H', (Itl K a).yld i H x H' → gTup K 2 (gCons (gName k1) (gCons (gName k2) gNil)) x (wipe σ vs) H' fun σ2 H2 => wipe σ2 vs = wipe σ vs ∧ tt σ2 H2 fun b H3 =>
        if b = true then te σ2 H3 fun y H4 => ∃ acc, H4 D = some (.lst acc) ∧ acc.length < sizeLine ∧ Nx (upd H4 D (.lst (acc ++ [y]))) else Nx H3) := by
  have w := walk_list (K := K) (a := a) (xs := ps.map fun p => V.ref p.1)
  rw [List.length_map] at w
  refine ⟨fun i m H => m = ps.length - i ∧ i ≤ ps.length ∧ Same H1 H ∧ H D = some (.lst (((ps.take i).filter fun p => p.2.2).map fun p => V.str p.2.1)), ⟨ps.length, by simp, Nat.zero_le _, same_upd nD, upd_same⟩, ?_⟩
  rintro i m H ⟨rfl, hi, sm, hD⟩
  have q := sm.seq hS
  by_cases hlt : i < ps.length
  · refine .inr ⟨w.goes i H hlt q, fun H' => Same H1 H' ∧ H' D = some (.lst (((ps.take (i + 1)).filter fun p => p.2.2).map fun p => V.str p.2.1)), fun H' p' => ⟨ps.length - (i + 1), by omega, rfl, hlt, p'.1, p'.2⟩, fun x H' y => ?_⟩
    obtain ⟨e1, e2⟩ := w.yields i H x H' hlt q y
    subst e1
    rw [List.getElem?_map, List.getElem?_eq_getElem hlt] at e2
    obtain rfl : V.ref ps[i].1 = x := Option.some.inj e2
    have ht := sm.tup (hT ps[i] (List.getElem_mem hlt))
    have et : ps.take (i + 1) = ps.take i ++ [ps[i]] := by rw [List.take_add_one, List.getElem?_eq_getElem hlt]; rfl
    refine ⟨ps[i].1, _, rfl, ht, rfl, _, _, rfl, _, _, rfl, rfl, hw _ _, htt _ _ _ _ ?_⟩
    cases hb : ps[i].2.2 with
    | true =>
      refine iteT (hte _ _ _ _ ⟨_, hD, ?_, sm.mut nD, ?_⟩)
      · have h1 := List.length_filter_le (fun p : Addr × Str × Bool => p.2.2) (ps.take i)
        rw [List.length_map]
        rw [List.length_take] at h1
        exact smallL (by omega)
      · rw [upd_same, et, List.filter_append, List.map_append]
        simp [hb]
    | false =>
      refine iteF ⟨sm, ?_⟩
      rw [hD, et, List.filter_append, List.map_append]
      simp [hb]
  · have e : i = ps.length := by omega
    subst e
    rw [List.take_length] at hD
    exact .inl ⟨w.stops H q, hd H sm hD⟩
end L2

set_option Elab.async false
set_option linter.all false
set_option maxRecDepth 100000
set_option maxHeartbeats 4000000
/-! A lambda with or without a default, handed to a def that calls it. -/
namespace L2
open PySem PySem.Spec PyProof.Rows LamX
/-- no name of the maker's is the lambda's own -/
structure LamP (sc scope : Scope) (N ps : List Str) : Prop where
  kind : scope.kind = .function
  co : scope.isCoroutine = false
  gen : scope.isGenerator = false
  noCell : ∀ y ∈ scope.names, y.2 ≠ .cell
  own : ∀ y ∈ scope.names, y.2 = .local → y.1 ∉ N
  par : ∀ p ∈ ps, scope.names.lookup p = some .local
  free : ∀ y ∈ scope.names, y.2 = .free → sc.names.lookup y.1 = some .cell ∨ sc.names.lookup y.1 = some .free
def lamPB (sc scope : Scope) (N ps : List Str) : Bool :=
  decide (scope.kind = .function) && !scope.isCoroutine && !scope.isGenerator && (scope.names.all fun y => !decide (y.2 = .cell) && (!decide (y.2 = .local) || !decide (y.1 ∈ N)) && (!decide (y.2 = .free) || decide (sc.names.lookup y.1 = some .cell) || decide (sc.names.lookup y.1 = some .free))) && ps.all fun p => decide (scope.names.lookup p = some .local)
theorem lamP_by {sc scope : Scope} {N ps : List Str} (h : lamPB sc scope N ps = true) : LamP sc scope N ps := by
  unfold lamPB at h
  simp only [Bool.and_eq_true, Bool.or_eq_true, Bool.not_eq_true', decide_eq_true_eq, decide_eq_false_iff_not, List.all_eq_true] at h
  obtain ⟨⟨⟨⟨h1, h2⟩, h3⟩, h4⟩, h5⟩ := h
  refine ⟨h1, h2, h3, fun y hy => (h4 y hy).1.1, fun y hy e => ?_, h5, fun y hy e => ?_⟩
  · rcases (h4 y hy).1.2 with z | z
    · exact absurd e z
    · exact z
  · rcases (h4 y hy).2 with (z | z) | z
    · exact absurd e z
    · exact .inl z
    · exact .inr z
section
variable {X : Cx} {pins : List (Addr × Obj)} {σ : L2.St} {H HZ : Hp} {s s1 : Shared} {ps : List Str}
theorem LamP.has {scope : Scope} (L : LamP X.env.scope scope X.N ps) (ok : X.Ok) : ∀ y ∈ scope.names, y.2 = .free → ∃ c, X.env.cells.lookup y.1 = some c := fun y hy e => (L.free y hy e).elim (fun k => ok.has _ (.inl k)) fun k => ok.has _ (.inr k)
theorem lam_begin {A : Around} {outer : List Env} {E : XK} {scope : Scope} {f c' : Addr} {h₁ : Heap} {tk : Nat} {m : Str → Option Value} (I : Inv X pins σ H s) (L : LamP X.env.scope scope X.N ps) (e0 : Env0 X.prog X.w X.K X.mg X.base A outer s1 HZ) (hd : A.handled = none)
    (un : Un (frs X.stack) [] H HZ s.heap s1.heap) (hns : h₁.Ns s1.heap.objs.size m) (kp : ∀ b o, s1.heap.get? b = some o → h₁.get? b = some o) :
    Inv (lamCx X A outer s1 HZ E scope f c') [] σ HZ { s1 with heap := h₁, toks := tk } := by
  have hfree := L.has I.ok
  have cm : ∀ {y c}, (cloFrom X.env.cells scope.names []).lookup y = some c → X.env.cells.lookup y = some c := fun {y c} e => by
    rcases cloFrom_mem (PySem.mem_of_lookup e) with hm | ⟨h1, h2⟩
    · cases hm
    · obtain ⟨c1, hc⟩ := hfree _ h1 rfl
      have hc : X.env.cells.lookup y = some c1 := hc
      have e2 : c = c1 := by rw [h2, hc] <;> rfl
      rw [e2]
      exact hc
  have look : ∀ {y}, scope.names.lookup y = some .free → ∃ c, (cloFrom X.env.cells scope.names []).lookup y = some c := fun {y} hl => mem_lookup (cloFrom_has (cells := X.env.cells) (acc := []) (PySem.mem_of_lookup hl))
  have cellK : ∀ {c : Addr} {v : Option Value}, H c = none → s.heap.IsCell c v → h₁.IsCell c v := fun {c v} n ⟨o, ho, hd⟩ => by
    obtain ⟨sl, q⟩ := un.any ho n (by simp)
    exact ⟨_, kp _ _ q, hd⟩
  have noA : ∀ b : Addr, b ∉ (lamCx X A outer s1 HZ E scope f c').ex := fun b z => absurd (show b ∈ ([] : List Addr) from z) (by simp)
  refine ⟨⟨e0.mod, L.kind, rfl, rfl, Nat.le_refl _, fun y z c e1 e2 => I.ok.inj y z c (cm e1) (cm e2), fun y hy => ?_, fun y c z _ => Bool.noConfusion z, fun _ => hd, Around.frames_deeper e0.frames, .inr ⟨rfl, rfl⟩, fun b z => absurd z (noA b), e0.bs, e0.bsz, fun b _ _ => noA b,
      fun b z => absurd z (noA b), e0.funs, e0.frf⟩,
    rfl, e0.bare, Un.kept kp, ⟨_, hns, fun i y v e1 e2 e3 => ?_⟩, fun y c e => ?_, e0.hok.fresh (Nat.le_refl _), fun y c e => ?_, fun q hq => absurd (show q ∈ ([] : List (Addr × Obj)) ++ [] from hq) (by simp), e0.hok.kept kp, I.len⟩
  · have hy : scope.names.lookup y = some .cell ∨ scope.names.lookup y = some .free := hy
    rcases hy with hy | hy
    · exact absurd rfl (L.noCell _ (PySem.mem_of_lookup hy))
    · exact look hy
  · have e3 : Vis scope y := e3
    have e1 : X.N[i]? = some y := e1
    rcases e3 with k | k | k
    · exact absurd (List.mem_of_getElem? e1) (L.own _ (PySem.mem_of_lookup k) rfl)
    · exact absurd rfl (L.noCell _ (PySem.mem_of_lookup k))
    · obtain ⟨m, hn, hl⟩ := I.loc
      have fr := L.free _ (PySem.mem_of_lookup k) rfl
      obtain ⟨w', r, q⟩ := hl i y v e1 e2 (fr.elim (fun k => .inr (.inl k)) (fun k => .inr (.inr k)))
      obtain ⟨c2, h2⟩ := look k
      refine ⟨w', r, .inr ⟨.inr k, c2, h2, ?_⟩⟩
      have c1 := cm h2
      rcases q with ⟨k', _⟩ | ⟨_, c3, e', z⟩
      · have k' : X.env.scope.names.lookup y = some .local := k'
        rcases fr with k2 | k2 <;> rw [show X.env.scope.names.lookup y = _ from k2] at k' <;> cases k'
      · rw [c1] at e'
        cases e'
        exact cellK (I.freeC y _ c1) z
  · obtain ⟨w', z⟩ := I.cell y c (cm e)
    exact ⟨w', cellK (I.freeC y c (cm e)) z⟩
  · obtain ⟨v, o, ho, _⟩ := I.cell y c (cm e)
    exact un.free c o ho (I.freeC y c (cm e)) (by simp)
/-- the lambda's function object, its defaults at dV -/
abbrev lamObj (X : Cx) (params : Arguments) (body : Expr) (scope : Scope) (dV doc pm : Value) (c' : Addr) (ctv : Value) : Obj := PySem.W.kdv_obj "<lambda>" (X.env.qual ++ "<lambda>") params (.expr body) scope (cloFrom X.env.cells scope.names []) dV doc pm c' ctv
/-- its code object is new, or found in the table -/
theorem lam_tail {T : List (Addr × Str)} {c P : Addr} {params : Arguments} {body : Expr} {scope : Scope} {pos : Pos} {E : Value → Shared → Prop} {Q : Value → Shared → Prop} {dV : Value} (I : Inv X pins σ H s) (TB : TabB X.base X.mg c P) (hcode : X.env.code = .ref c)
    (hm : (P, X.env.qual ++ "<lambda>") ∈ T) (hu : ∀ p ∈ T, p.1 = P → p.2 = X.env.qual ++ "<lambda>") (hT : Tabs T H) (hfree : ∀ y ∈ scope.names, y.2 = .free → ∃ c, X.env.cells.lookup y.1 = some c)
    (h : ∀ (f c' : Addr) (doc pm ctv : Value) (H1 : Hp) (s' : Shared), Inv X pins σ H1 s' → ExtN H H1 → Tabs T H1 → s'.heap.get? f = some (lamObj X params body scope dV doc pm c' ctv) → H1 f = none → f ∉ frs X.stack → H1 c' = some (CodeO c' (X.env.qual ++ "<lambda>")) → Q (.ref f) s') :
    wpAny (model X.prog X.w) X.A (makeTail "<lambda>" (X.env.qual ++ "<lambda>") params (.expr body) scope X.env dV .none none pos pos.line) Q E s := by
  obtain ⟨tb, hP, ht, ha⟩ := hT _ hm
  have bP : s.heap.BuiltinsAt X.mg P := TB.bm.keeps I.bk
  have hP' : s.heap.get? P = some { cls := .none, data := .fields tb } := I.hok P _ hP
  have nofr : ∀ f, s.heap.objs.size ≤ f → f ∉ frs X.stack := fun f hf z => by
    rcases List.mem_cons.mp (I.stkSub _ z) with e | e
    · have h1 := I.lt
      rw [← e] at h1
      exact Nat.lt_irrefl _ (Nat.lt_of_lt_of_le h1 hf)
    · exact I.nofs hf e
  cases hc : codeAmong pos tb.toList with
  | none =>
    refine PySem.W.kdv_makeTail (mg := X.mg) (c := c) (P := P) (ps := tb) (closure_ok hfree) I.ok.glob (I.mod.glob.keeps I.bk) hcode (TB.code.keeps I.bk) hP' ht hc TB.gP bP fun c' ctv doc h' tk hx hge hlt hrec htb => ?_
    obtain ⟨c2, oc, vs, t, e2, hoc, hd, hv⟩ := hrec
    cases e2
    have hsz : s.heap.objs.size ≤ h'.objs.size := Nat.le_trans hge (Nat.le_of_lt hlt)
    have nC : H c' = none := I.hok.fresh hge
    have I1 := inv_table (t' := tk) (more := #[rawInt pos.line, rawInt pos.col, .ref c']) (h' := h'.push (lamObj X params body scope dV doc ((X.mg "__name__").getD .none) c' ctv)) I hP
      (fun b o hb e => Heap.get?_push_of_some _ (hx b o hb e)) (Heap.get?_push_of_some _ htb) hge ⟨oc, vs, t, Heap.get?_push_of_some _ hoc, hd, hv⟩
    have hE : ExtN H (upd (upd H P (.tbl (tb ++ #[rawInt pos.line, rawInt pos.col, .ref c']))) c' (CodeO c' (X.env.qual ++ "<lambda>"))) := fun b o e n => by
      rw [upd_ne (ne_of_none e nC), upd_ne (fun z => n tb (Option.some.inj (e.symm.trans (by rw [z]; exact hP))))]
      exact e
    have eL : (tb ++ #[rawInt pos.line, rawInt pos.col, .ref c']).toList = tb.toList ++ [rawInt pos.line, rawInt pos.col, .ref c'] := by simp
    refine h h'.objs.size c' doc ((X.mg "__name__").getD .none) ctv _ _ I1 hE (fun p hp => ?_) (Heap.get?_push_size _ rfl) ?_ (nofr _ hsz) upd_same
    · by_cases hb : p.1 = P
      · rw [hu p hp hb, hb]
        refine ⟨_, by rw [upd_ne (ne_of_none hP nC), upd_same], by rw [eL]; exact PySem.TriplesOk_snoc _ _ _ _ ht, fun p' cv hcv => ?_⟩
        rw [eL] at hcv
        rcases among_app _ ht hcv with z | z
        · obtain ⟨c0, e1, e2⟩ := ha p' cv z
          exact ⟨c0, e1, hE _ _ e2 codeO_ne⟩
        · exact ⟨c', z, upd_same⟩
      · obtain ⟨tb', a1, a2, a3⟩ := hT p hp
        refine ⟨tb', by rw [upd_ne (ne_of_none a1 nC), upd_ne hb]; exact a1, a2, fun p' cv hcv => ?_⟩
        obtain ⟨c0, e1, e2⟩ := a3 p' cv hcv
        exact ⟨c0, e1, hE _ _ e2 codeO_ne⟩
    · rw [upd_ne (Nat.ne_of_gt hlt), upd_ne (Nat.ne_of_gt (Nat.lt_of_lt_of_le (Heap.lt_size hP') hsz))]
      exact I.hok.fresh hsz
  | some cv =>
    obtain ⟨c', e, hco⟩ := ha pos cv hc
    subst e
    refine PySem.W.kdv_makeTailHit (mg := X.mg) (c := c) (P := P) (ps := tb) (closure_ok hfree) I.ok.glob (I.mod.glob.keeps I.bk) hcode (TB.code.keeps I.bk) hP' ht hc bP fun ctv doc h' tk hx hsz => ?_
    have I1 : Inv X pins σ H { s with heap := h'.push (lamObj X params body scope dV doc ((X.mg "__name__").getD .none) c' ctv), toks := tk } := I.kept fun b o e => Heap.get?_push_of_some _ (hx b o e)
    exact h h'.objs.size c' doc ((X.mg "__name__").getD .none) ctv H _ I1 (ExtN.refl H) hT (Heap.get?_push_size _ rfl) (I.hok.fresh hsz) (nofr _ hsz) hco
end
end L2
namespace L2
open PySem PySem.Spec PyProof.Rows LamX
abbrev noP : Arguments := ⟨[], [], none, [], [], none, []⟩
abbrev oneP (a : Str) (ap : Pos) (n : Int) (j : Nat) (dp : Pos) : Arguments := ⟨[], [⟨a, none, ap⟩], none, [], [], none, [.Constant (.int n) j dp]⟩
/-- the lambda's parameters: none, or one with an int as its default -/
inductive ParS : Arguments → List Str → Prop
  | no : ParS noP []
  | one (a : Str) (ap : Pos) (n : Int) (j : Nat) (dp : Pos) : ParS (oneP a ap n j dp) [a]
/-- its defaults as they stand -/
def DefV (params : Arguments) (dV : Value) (H : Hp) : Prop := (params = noP ∧ dV = .none) ∨ ∃ a ap n j dp t, params = oneP a ap n j dp ∧ dV = .ref t ∧ H t = some (.tup [.int n])
theorem DefV.ext {params : Arguments} {dV : Value} {H H' : Hp} (d : DefV params dV H) (e : ExtN H H') : DefV params dV H' := by
  rcases d with d | ⟨a, ap, n, j, dp, t, h1, h2, h3⟩
  · exact .inl d
  · exact .inr ⟨a, ap, n, j, dp, t, h1, h2, e _ _ h3 fun ps z => by cases z⟩
theorem DefV.same {params : Arguments} {dV : Value} {H H' : Hp} (d : DefV params dV H) (e : Same H H') : DefV params dV H' := d.ext fun b o h _ => e b o h
section
variable {X : Cx} {pins : List (Addr × Obj)} {σ : L2.St} {H HZ : Hp} {s s1 : Shared} {ps : List Str}
theorem lam_new {T : List (Addr × Str)} {c P : Addr} {params : Arguments} {body : Expr} {scope : Scope} {pos : Pos} {E : Value → Shared → Prop} {Q : Value → Shared → Prop} (PS : ParS params ps) (I : Inv X pins σ H s) (TB : TabB X.base X.mg c P) (hcode : X.env.code = .ref c)
    (hm : (P, X.env.qual ++ "<lambda>") ∈ T) (hu : ∀ p ∈ T, p.1 = P → p.2 = X.env.qual ++ "<lambda>") (hT : Tabs T H) (hfree : ∀ y ∈ scope.names, y.2 = .free → ∃ c, X.env.cells.lookup y.1 = some c) (hxe : E = X.xe)
    (h : ∀ (f c' : Addr) (dV doc pm ctv : Value) (H1 : Hp) (s' : Shared), Inv X pins σ H1 s' → ExtN H H1 → Tabs T H1 → s'.heap.get? f = some (lamObj X params body scope dV doc pm c' ctv) → H1 f = none → f ∉ frs X.stack → H1 c' = some (CodeO c' (X.env.qual ++ "<lambda>")) → DefV params dV H1 → Q (.ref f) s') :
    wpAny (model X.prog X.w) X.A (eval (.Lambda params body scope pos) X.env) Q E s := by
  subst hxe
  cases PS with
  | no =>
    refine PySem.W.kla_eval rfl ?_
    rw [makeFunction_eq]
    simp only [List.zip_nil_right, List.filterMap_nil, List.isEmpty_nil, if_true, pure_bind]
    exact lam_tail I TB hcode hm hu hT hfree fun f c' doc pm ctv H1 s' I1 e1 t1 h1 h2 h3 h4 => h f c' .none doc pm ctv H1 s' I1 e1 t1 h1 h2 h3 h4 (.inl ⟨rfl, rfl⟩)
  | one a ap n j dp =>
    refine PySem.W.kdv_lam rfl rfl (PySem.W.kdv_all1 (thn ((pe_int (X := X)).run pins s σ H (fun v H' => v = .int n ∧ H' = H) I ⟨rfl, rfl⟩) fun u s1 ⟨v, H1, I1, r1, q1⟩ => ?_))
    obtain ⟨rfl, rfl⟩ := q1
    refine PySem.W.kdv_all0 ?_
    rw [makeFunction_eq]
    simp only [List.zip_nil_right, List.filterMap_nil, List.isEmpty_nil, if_true, pure_bind, List.isEmpty_cons, Bool.false_eq_true, if_false]
    refine wpAny_bind (wpAny_newTextTuple ?_)
    have hf : H1 s1.heap.objs.size = none := I1.hok.fresh (Nat.le_refl _)
    have I2 : Inv X pins σ (upd H1 s1.heap.objs.size (.tup [.int n])) { s1 with heap := s1.heap.push { cls := .type "tuple", data := .seq [u].toArray } } := I1.laid (t' := s1.toks) (fun b u e => Heap.get?_push_of_some _ e) (Nat.le_refl _)
      ⟨by show 1 ≤ sizeLine; decide, [u], .cons r1 .nil, ⟨_, Heap.get?_push_size _ rfl, rfl, _, rfl⟩⟩
    have e0 : ExtN H1 (upd H1 s1.heap.objs.size (.tup [.int n])) := ExtN.of (same_upd hf)
    refine lam_tail I2 TB hcode hm hu (hT.ext (same_upd hf)) hfree fun f c' doc pm ctv H2 s' I3 e1 t1 h1 h2 h3 h4 => h f c' (.ref s1.heap.objs.size) doc pm ctv H2 s' I3 (e0.trans e1) t1 h1 h2 h3 h4 (.inr ⟨a, ap, n, j, dp, _, rfl, rfl, e1 _ _ upd_same fun ps z => by cases z⟩)
/-- what a call without arguments binds -/
theorem lam_binds {params : Arguments} {body : Expr} {scope : Scope} {q : Str} {cl : List (Str × Addr)} {dV doc pm cv ctv : Value} (PS : ParS params ps) (hok : HOk X.prog X.w HZ s1.heap) (d : DefV params dV HZ) :
    ∃ binds, (∀ y ∈ binds, y.1 ∈ ps) ∧ BindsTo s1 (PySem.W.kdv_fn "<lambda>" q params (.expr body) scope cl dV doc pm cv ctv) ⟨[], []⟩ binds := by
  cases PS with
  | no =>
    refine ⟨[], by simp, .of_eq ?_⟩
    rcases d with ⟨_, rfl⟩ | ⟨_, _, _, _, _, _, z, _⟩
    · rfl
    · exact absurd (congrArg Arguments.args z) (by simp)
  | one a ap n j dp =>
    rcases d with ⟨z, _⟩ | ⟨a', ap', n', j', dp', t, z, rfl, ht⟩
    · exact absurd (congrArg Arguments.args z) (by simp)
    · have hx : ObjOk X.prog X.w HZ s1.heap t (.tup [.int n']) := hok t _ ht
      obtain ⟨_, us, r, o, ho, hcl, m, hd⟩ := hx
      cases r with
      | @cons _ u0 _ ur ra rr =>
        cases rr
        refine ⟨[(a, u0)], by simp, ?_⟩
        refine BindsTo.of_defaults (T := t) (items := #[u0]) rfl ho hd (k := ?_) ?_ ?_
        rotate_left
        · rfl
        · simp [List.lookup]
end
end L2
namespace L2
open PySem PySem.Spec PyProof.Rows LamX
section
variable {X : Cx} {pins : List (Addr × Obj)} {σ : L2.St} {H : Hp} {s : Shared} {ps : List Str}
/-- ask(), in the def that got the lambda, entered at s -/
theorem pe_ask {CXg : CXT} {Eg : XK} {Ng : List Str} {qg : Str} {sg : Scope} {g f c' : Addr} {cdg dV doc pm ctv : Value} {params : Arguments} {body : Expr} {scope : Scope} {k i : Nat} {a : Str} {pn : List (Addr × Obj)} {xe : Value → Shared → Prop} {W : WX} {E : XK} {tb : TE} {p1 p2 : Pos}
    (PS : ParS params ps) (I : Inv X pins σ H s) (L : LamP X.env.scope scope X.N ps) (hf : s.heap.get? f = some (lamObj X params body scope dV doc pm c' ctv)) (hfn : H f = none) (hfr : f ∉ frs X.stack)
    (tk : Takes ((cxOf CXg X.prog X.w X.K X.mg X.base Ng qg sg g cdg X.A X.stack s H Eg).tr pn xe) W) (hr : Room (k + 1) (X.A.deeper (envOfC qg sg s.heap.objs.size g cdg)))
    (hbody : ∀ (A : Around) (outer : List Env) (s : Shared) (H : Hp), Room k (A.deeper (lamEnv X scope s.heap.objs.size f c')) → PE (lamCx X A outer s H E scope f c') body tb)
    (hN : Ng[i]? = some a) (hv : Vis sg a) (hd : (a == ("__debug__" : Str)) = false := by decide) (hcd : (a == ("__classdict__" : Str)) = false := by decide) :
    PE ((cxOf CXg X.prog X.w X.K X.mg X.base Ng qg sg g cdg X.A X.stack s H Eg).tr pn xe) (.Call (.Name a p1) [] [] p2)
      (fun σZ HZ Q => σZ[i]? = some (some (.ref f)) ∧ HZ c' = some (CodeO c' (X.env.qual ++ "<lambda>")) ∧ (∀ cls d H', E cls d H' → W cls d σZ H') ∧ DefV params dV HZ ∧ tb σ HZ Q) := by
  refine ⟨fun pinsZ sZ σZ HZ Q IZ h => ?_⟩
  obtain ⟨hs, hc, hW, hdv, ht⟩ := h
  refine wpAny_Call_Name_kw (thn ((pe_var (pos := p1) (i := i) hN hv hd hcd).run pinsZ sZ σZ HZ (fun v H1 => v = .ref f ∧ H1 = HZ) IZ ⟨.ref f, hs, rfl, rfl⟩) fun u s1 ⟨v, H1, I1, r1, q1⟩ => ?_)
  obtain ⟨ev, eH⟩ := q1
  subst ev
  rw [eH] at I1
  obtain rfl : u = Value.ref f := r1
  have of1 : s1.heap.get? f = some (lamObj X params body scope dV doc pm c' ctv) := I1.base.keep f _ hf hfn hfr (fun z => nomatch (show f ∈ ([] : List Addr) from z))
  refine PySem.W.callWith_F0 ⟨_, _, _, _, of1⟩ ?_
  have un : Un (frs X.stack) [] H HZ s.heap s1.heap := I1.base
  obtain ⟨⟨oc, vs, t, hoc, hdc, hvc⟩, _, _⟩ := I1.hok c' _ hc
  obtain ⟨binds, hb1, hb2⟩ := lam_binds (body := body) (scope := scope) (q := X.env.qual ++ "<lambda>") (cl := cloFrom X.env.cells scope.names []) (doc := doc) (pm := pm) (cv := .ref c') (ctv := ctv) PS I1.hok hdv
  have rc : codeAny (model X.prog X.w) (X.A.deeper (envOfC qg sg s.heap.objs.size g cdg)) (.call (.ref f) ⟨[], []⟩) (CR (L2.CX X.prog X.w) (envOfC qg sg s.heap.objs.size g cdg :: X.stack) X.prog X.w HZ s1 Q E) s1 := by
    refine PySem.W.kla_callFunE hr.depth of1 rfl L.co L.gen rfl ⟨c', oc, vs, t, rfl, hoc, hdc, hvc⟩ ?_
    refine hb2 _ _ _ _ ?_
    refine wpAny_newFunctionEnv L.noCell (fun y hy => L.par _ (hb1 y hy)) (fun h₁ hns hsb => ⟨I1.nolimit.fresh _ hsb, ?_⟩) L.kind
    show codeAny _ _ (.expr body (lamEnv X scope s1.heap.objs.size f c')) _ _
    have kp : ∀ b o, s1.heap.get? b = some o → h₁.get? b = some o := fun b o e => hsb.extBut b o (Nat.ne_of_lt (Heap.lt_size e)) (Heap.get?_push_of_some _ e)
    have J : Inv (lamCx X (X.A.deeper (envOfC qg sg s.heap.objs.size g cdg)) (envOfC qg sg s.heap.objs.size g cdg :: X.stack) s1 HZ E scope f c') [] σ HZ { s1 with heap := h₁, toks := s1.toks + binds.length } :=
      lam_begin I L I1.env0 hr.hd un hns kp
    refine PySem.W.kla_codeExpr (wpAny_mono ((hbody _ _ s1 HZ (hr.deeper _)).run [] _ _ HZ Q J ht) (fun v s' hq => ?_) fun e s' hq => hq)
    obtain ⟨w', H', J', rv, q⟩ := hq
    exact ⟨w', H', J'.os, J'.bare, J'.base, J'.hok, rv, q⟩
  refine wpAny_call (codeAny_mono rc fun r s' hq => ?_)
  cases r with
  | error e => exact tk e s' (XE.of_call I1 (fun cls d H' h => hW cls d H' h) hq)
  | ok fl =>
    cases fl with
    | ret u => exact I1.after hq
    | next => exact False.elim hq
    | brk => exact False.elim hq
    | cont => exact False.elim hq
/-- the def that calls what it got, its wishes told of the very slots; TT: what it makes of the lambda's reading -/
def Gives2 (X : Cx) (Ng : List Str) (x : Str) (sg : Scope) (g : Addr) (cdg : Value) (bg : List Stmt) (a : Str) (q : Str) (TT : (XK → Hp → VK → Prop) → Hp → VK → Prop) : Prop :=
  ∀ (f c' : Addr) (s : Shared) (H : Hp) (Q : VK) (tl : XK → Hp → VK → Prop),
    (∀ (W : WX) (pn : List (Addr × Obj)) (xe : Value → Shared → Prop) (E : XK) (p1 p2 : Pos), Takes ((cxOf C8.CX0 X.prog X.w X.K X.mg X.base Ng x sg g cdg X.A X.stack s H C8.E0).tr pn xe) W →
      PE ((cxOf C8.CX0 X.prog X.w X.K X.mg X.base Ng x sg g cdg X.A X.stack s H C8.E0).tr pn xe) (.Call (.Name a p1) [] [] p2) (fun σZ HZ Q => σZ[0]? = some (some (.ref f)) ∧ HZ c' = some (CodeO c' q) ∧ (∀ cls d H', E cls d H' → W cls d σZ H') ∧ tl E HZ Q)) →
    H c' = some (CodeO c' q) → TT tl H Q →
    ∃ t, PSs (cxOf C8.CX0 X.prog X.w X.K X.mg X.base Ng x sg g cdg X.A X.stack s H C8.E0).nox bg t ∧ t { nx := fun _ H' => Q .non H', rt := Q } (L2.start Ng [.ref f]) H
/-- x(lambda: body), x a def that calls what it got -/
theorem pe_lamX {T : List (Addr × Str)} {TT : (XK → Hp → VK → Prop) → Hp → VK → Prop} {x a : Str} {g c P : Addr} {k : Nat} {pg : Arguments} {bg : List Stmt} {sg : Scope} {dV kV doc pm cdv ct oc : Value} {an od : Option Addr} {osl : Array (Option Value)} {Ng : List Str}
    {params : Arguments} {body : Expr} {scope : Scope} {t : XK → TE} {p lpos pos : Pos} (PS : ParS params ps) (hg : Gl X x) (hm : X.mg x = some (.ref g)) (hk : PySem.W.keepIn X.K (.ref g) = true)
    (lk : X.K.lookup g = some ⟨oc, od, .func (PySem.W.fnOf x x pg bg sg dV kV doc pm an cdv ct), osl⟩) (hcg : PySem.W.codeIn X.K cdv x = true) (hb : L2.Binds X.K (PySem.W.fnOf x x pg bg sg dV kV doc pm an cdv ct) [a] []) (Sg : FnScope Ng [a] sg) (hNg : Ng[0]? = some a) (hva : Vis sg a)
    (hG : Gives2 X Ng x sg g cdv bg a (X.env.qual ++ "<lambda>") TT) (hTT : ∀ (Z : Hp → Prop) tl H Q, (∀ H', Same H H' → Z H') → TT tl H Q → TT (fun E H' Q' => Z H' ∧ tl E H' Q') H Q)
    (TB : TabB X.base X.mg c P) (hcode : X.env.code = .ref c) (hmT : (P, X.env.qual ++ "<lambda>") ∈ T) (hu : ∀ p ∈ T, p.1 = P → p.2 = X.env.qual ++ "<lambda>") (hr : Room (k + 2) X.A) (L : LamP X.env.scope scope X.N ps)
    (hbody : ∀ (A : Around) (outer : List Env) (s : Shared) (H : Hp) (E : XK) (f c' : Addr), Room k (A.deeper (lamEnv X scope s.heap.objs.size f c')) → PE (lamCx X A outer s H E scope f c') body (t E))
    (hdb : (x == ("__debug__" : Str)) = false := by decide) (hd : (a == ("__debug__" : Str)) = false := by decide) (hcd : (a == ("__classdict__" : Str)) = false := by decide) :
    PE X (.Call (.Name x p) [.Lambda params body scope lpos] [] pos) (tLam T TT t) := by
  refine ⟨fun pins s σ H Q I h => ?_⟩
  obtain ⟨hT, h⟩ := h
  refine wpAny_Call_Name_kw (ld_glob I hg hm ?_ hdb)
  refine PySem.W.callWith_K (h₀ := X.base) I.ok.mod.kin hk ?_ (by rfl) (by rfl)
  show wpAny _ _ (spliced ((false, eval (.Lambda params body scope lpos) X.env) :: backTo pos (starEach [] X.env))) _ _ s
  refine Calls.spliced_cons (lam_new PS I TB hcode hmT hu hT (L.has I.ok) rfl fun f c' dv doc' pm' ctv H1 s' I1 eN T1 hf hfn hfr hco hdv => ?_)
  refine Calls.spliced_nil ⟨I1.kIn, ?_⟩
  have rc : codeAny (model X.prog X.w) X.A (.call (.ref g) ⟨[.ref f], []⟩) (CR C8.CX0 X.stack X.prog X.w H1 s' Q C8.E0) s' := by
    refine run_ofS (N := Ng) (ps := [a]) (us := [.ref f]) (vs := [.ref f]) lk hcg Sg hr I1.env0 (hb s' [.ref f] I1.kIn rfl) (.cons rfl .nil) rfl fun hr' => ?_
    obtain ⟨t', ht', hq'⟩ := hG f c' s' H1 Q (fun E H' Q' => DefV params dv H' ∧ t E σ H' Q') (fun W pn xe E p1 p2 tk => pe_ask (i := 0) PS I1 L hf hfn hfr tk hr' (fun A outer s H hr2 => hbody A outer s H E f c' hr2) hNg hva hd hcd) hco (hTT _ _ _ _ (fun H' e => hdv.same e) (h H1 eN T1))
    exact ⟨t', ht'.nox, hq'⟩
  refine wpAny_call (codeAny_mono rc fun r s2 hq => ?_)
  cases r with
  | error e => exact (show False from hq).elim
  | ok fl =>
    cases fl with
    | ret u => exact I1.after hq
    | next => exact False.elim hq
    | brk => exact False.elim hq
    | cont => exact False.elim hq
end
end L2

set_option Elab.async false
set_option linter.all false
set_option maxRecDepth 100000
namespace AT
open PySem PySem.Spec PyProof.Rows L2
def topS (i : Nat) : Stmt := PySem.Challenge.pw_anytower_k50_polynomials.main.body.getD i (.Pass ⟨0, 0, 0, 0⟩)
/-- the built-ins' names are the built-ins' still -/
structure Bl (mg : Str → Option Value) : Prop where
  z_len : mg "len" = none
  z_tuple : mg "tuple" = none
  z_list : mg "list" = none
  z_int : mg "int" = none
  z_bool : mg "bool" = none
  z_abs : mg "abs" = none
  z_max : mg "max" = none
  z_isinstance : mg "isinstance" = none
  z_all : mg "all" = none
  z_enumerate : mg "enumerate" = none
  z_range : mg "range" = none
end AT

set_option Elab.async false
set_option linter.all false
set_option maxRecDepth 100000
set_option maxHeartbeats 4000000
namespace AT
open PySem PySem.Spec PyProof.Rows L2
section
variable {P : Program} {w : World} {K : PySem.W.Frag} {mg : Str → Option Value} {base : Heap}
abbrev scut : Stmt := topS 23
abbrev ncut : List Str := ["numbers", "many"]
theorem sccut : FnScope ncut ["numbers"] (defScope scut) := ⟨rfl, rfl, rfl, by decide +kernel, rfl, by decide +kernel, by decide +kernel⟩
def sp_cut (K : PySem.W.Frag) : Sp := fun vs H Q _ => ∃ a ns, vs = [.ref a] ∧ LsI K H a ns ∧ ns.length ≤ 1000000 ∧ ∀ H' p, Same H H' → TpI K H' p (PM.cut ns) → Q (.ref p) H'
theorem ok_cut (T : Bl mg) (D : Df K mg "cut" scut) : Cl P w K mg base 1 "cut" ["numbers"] (sp_cut K) := by
  refine cl_of0 (N := ncut) D sccut (fun vs H Q E h => ?_) (fun _ _ _ _ _ _ us hl => match us, hl with | [_], _ => rfl) fun f cdv A outer s H vs Q E hr h => ?_
  · obtain ⟨a, ns, rfl, _⟩ := h
    rfl
  · obtain ⟨a, ns, rfl, hS, hl, q⟩ := h
    refine ⟨_, (pss_cons (ps_set (i := 1) sccut.nd rfl (.inl rfl) (pe_callB call_len_seq (by rfl) T.z_len (by decide +kernel) (pa_cons (pv 0) pa_nil)))
  (pss_cons (ps_while PassesOwn.never (PW.pt (pw_and (pt_cmpR op_gt (pv 1) pe_int (nomark _)) (pw_and1 (pt_cmpR op_eq (pe_ix ix_list (pv 0) (pe_op op_sub (pv 1) pe_int) (fun _ _ => rfl)) pe_int (nomark _))))) (pss_one (ps_set (i := 1) sccut.nd rfl (.inl rfl) (pe_op op_sub (pv 1) pe_int))))
  (pss_one (ps_ret (pe_callTy call_tuple_of (by rfl) T.z_tuple (by decide +kernel) (pa_cons (pe_slice sl_list (pv 0) po_none (po_some (pv 1))) pa_nil)))))), ?_⟩
    refine ⟨.ref a, rfl, a, vInts ns, rfl, .inl hS, ?_⟩
    refine while_go (fun n σ H' => ∃ m : Nat, n = m ∧ σ = [some (.ref a), some (.int (m : Int))] ∧ H' = H ∧ m ≤ ns.length ∧ ∀ i, m ≤ i → i < ns.length → PM.cf ns i = 0)
      ns.length ⟨ns.length, rfl, by simp [L2.start], rfl, Nat.le_refl _, fun i h1 h2 => absurd h1 (by omega)⟩ ?_
    rintro n σ H' ⟨m, rfl, rfl, rfl, hm, hz⟩
    have fin : (n = 0 ∨ PM.cf ns (n - 1) ≠ 0) → tRet (tCB (fun xs H Q => ∃ p ys, xs = [.ref p] ∧ ((SqL K H p ys ∧ ∀ l, H l = none → Q (.ref l) (upd H l (.tup ys))) ∨ (SqT K H p ys ∧ Q (.ref p) H))) (tCons (tSl (rSlL K) (tVar 0) tNoPart (tPart (tVar 1))) tNil)) { nx := fun _ H' => Q .non H', rt := Q } [some (.ref a), some (.int (n : Int))] H' := fun hc => by
      refine ⟨_, rfl, _, rfl, _, rfl, a, vInts ns, rfl, hS, fun c nc => ?_⟩
      rw [cut_all, ← List.map_take, PM.cut_take ns n hm hz hc]
      refine ⟨c, _, rfl, .inl ⟨li_upd, fun l nl => ?_⟩⟩
      exact q _ l ((same_upd nc).new nl) ti_upd
    refine ⟨_, rfl, _, _, rfl, rfl, _, rfl, ?_⟩
    by_cases h0 : 0 < n
    · rw [decide_eq_true (show (0 : Int) < (n : Int) by omega)]
      refine iteT ?_
      have em : (n : Int) - 1 = ((n - 1 : Nat) : Int) := by omega
      refine ⟨_, rfl, _, rfl, _, _, rfl, rfl, _, _, _, _, rfl, rfl, hS, vInts_at' em (by omega), rfl, _, rfl, ?_⟩
      by_cases hc : PM.cf ns (n - 1) = 0
      · rw [hc, decide_eq_true rfl]
        refine iteT ⟨_, fun _ _ h => h, ?_⟩
        refine ⟨_, rfl, _, _, rfl, rfl, n - 1, by omega, n - 1, rfl, congrArg (fun z => [some (V.ref a), some (V.int z)]) em, rfl, by omega, fun i h1 h2 => ?_⟩
        by_cases e : i = n - 1
        · rw [e]; exact hc
        · exact hz i (by omega) h2
      · rw [decide_eq_false (fun e => hc (V.int.inj e))]
        exact iteF (fin (.inr hc))
    · rw [decide_eq_false (show ¬ (0 : Int) < (n : Int) by omega)]
      exact iteF (iteF (fin (.inl (by omega))))
abbrev sat_power : Stmt := topS 25
abbrev nat_power : List Str := ["poly", "power"]
theorem scat_power : FnScope nat_power ["poly", "power"] (defScope sat_power) := ⟨rfl, rfl, rfl, by decide +kernel, rfl, by decide +kernel, by decide +kernel⟩
def sp_at_power (K : PySem.W.Frag) : Sp := fun vs H Q _ => ∃ (a : Addr) (ns : List Int) (i : Nat), vs = [.ref a, .int (i : Int)] ∧ TpI K H a ns ∧ Q (.int (PM.cf ns i)) H
theorem ok_at_power (T : Bl mg) (D : Df K mg "at_power" sat_power) : Cl P w K mg base 1 "at_power" ["poly", "power"] (sp_at_power K) := by
  refine cl_of0 (N := nat_power) D scat_power (fun vs H Q E h => ?_) (fun _ _ _ _ _ _ us hl => match us, hl with | [_, _], _ => rfl) fun f cdv A outer s H vs Q E hr h => ?_
  · obtain ⟨a, ns, i, rfl, _⟩ := h
    rfl
  · obtain ⟨a, ns, i, rfl, hS, q⟩ := h
    refine ⟨_, (pss_one (ps_ret (pe_ifExp (pt_cmpR op_lt (pv 1) (pe_callB call_len_seq (by rfl) T.z_len (by decide +kernel) (pa_cons (pv 0) pa_nil)) (nomark _)) (pe_ix ix_tup (pv 0) (pv 1) (fun _ _ => rfl)) pe_int))), ?_⟩
    refine ⟨_, rfl, _, rfl, a, vInts ns, rfl, .inr hS, _, _, rfl, rfl, _, rfl, ?_⟩
    by_cases h : i < ns.length
    · rw [decide_eq_true (show (i : Int) < ((vInts ns).length : Int) by rw [List.length_map]; omega)]
      exact iteT ⟨_, rfl, _, rfl, _, _, _, _, rfl, rfl, hS, vInts_at h, q⟩
    · rw [decide_eq_false (show ¬ (i : Int) < ((vInts ns).length : Int) by rw [List.length_map]; omega)]
      rw [PM.cf_big (by omega)] at q
      exact iteF q
abbrev ssum_of : Stmt := topS 24
abbrev nsum_of : List Str := ["one", "other", "size", "at"]
theorem scsum_of : FnScope nsum_of ["one", "other"] (defScope ssum_of) := ⟨rfl, rfl, rfl, by decide +kernel, rfl, by decide +kernel, by decide +kernel⟩
def sp_sum_of (K : PySem.W.Frag) : Sp := fun vs H Q _ => ∃ a b ns ms, vs = [.ref a, .ref b] ∧ TpI K H a ns ∧ TpI K H b ms ∧ ns.length ≤ 100000 ∧ ms.length ≤ 100000 ∧ ∀ H' p, Same H H' → TpI K H' p (PM.sumL ns ms) → Q (.ref p) H'
theorem ok_sum_of (T : Bl mg) (C_cut : Cl P w K mg base 1 "cut" ["numbers"] (sp_cut K)) (C_at_power : Cl P w K mg base 1 "at_power" ["poly", "power"] (sp_at_power K)) (D : Df K mg "sum_of" ssum_of) : Cl P w K mg base 2 "sum_of" ["one", "other"] (sp_sum_of K) := by
  refine cl_of0 (N := nsum_of) D scsum_of (fun vs H Q E h => ?_) (fun _ _ _ _ _ _ us hl => match us, hl with | [_, _], _ => rfl) fun f cdv A outer s H vs Q E hr h => ?_
  · obtain ⟨a, b, ns, ms, rfl, _⟩ := h
    rfl
  · obtain ⟨a, b, ns, ms, rfl, hA, hB, l1, l2, q⟩ := h
    refine ⟨_, (pss_cons (ps_set (i := 2) scsum_of.nd rfl (.inl rfl) (pe_callB (call_max2 rfl) (by rfl) T.z_max (by decide +kernel) (pa_cons (pe_callB call_len_seq (by rfl) T.z_len (by decide +kernel) (pa_cons (pv 0) pa_nil)) (pa_cons (pe_callB call_len_seq (by rfl) T.z_len (by decide +kernel) (pa_cons (pv 1) pa_nil)) pa_nil))))
  (pss_one (ps_ret (pe_f C_cut hr (pa_cons (pe_lc (own := [("at", 3)]) (g := (gName 3)) (tt := tYes) rfl scsum_of.nd (pi_range1 (by rfl) T.z_range (pa_cons (pv 2) pa_nil)) (blkOk_by (own := [("at", 3)]) (N := nsum_of) (sc := defScope ssum_of) (by decide +kernel)) (fun _ _ _ _ _ => (pg_name (i := 3) scsum_of.nd rfl (.inl rfl))) (fun _ _ _ _ _ => pts_nil) (fun _ _ _ _ _ => (pe_op op_add (pe_f C_at_power hr (pa_cons (pv 0) (pa_cons (pv 3) pa_nil))) (pe_f C_at_power hr (pa_cons (pv 1) (pa_cons (pv 3) pa_nil)))))) pa_nil))))), ?_⟩
    refine ⟨_, rfl, a, vInts ns, rfl, .inr hA, _, rfl, b, vInts ms, rfl, .inr hB, _, _, rfl, ?_⟩
    have es : (if ((vInts ms).length : Int) > ((vInts ns).length : Int) then ((vInts ms).length : Int) else ((vInts ns).length : Int)) = ((max ns.length ms.length : Nat) : Int) := by
      rw [List.length_map, List.length_map]
      split <;> omega
    rw [es]
    refine ⟨_, rfl, ((max ns.length ms.length : Nat) : Int), rfl, by omega, by omega, fun D nD => ?_⟩
    refine lcm (n := max ns.length ms.length) (walk_range (lo := 0)) (fun i => .int (PM.cf ns i + PM.cf ms i)) (fun _ _ => trivial) nD (fun _ => rfl) (smallL (by omega)) (fun i H4 R hi sm hR => ?_) (fun H4 sm hD => ?_)
    · refine ⟨_, rfl, _, rfl, a, ns, i, ?_, sm.ti hA, _, rfl, _, rfl, b, ms, i, ?_, sm.ti hB, _, _, rfl, rfl, hR _ (Same.refl _)⟩
      · rw [Int.zero_add]; rfl
      · rw [Int.zero_add]; rfl
    · rw [map_ints (ms := PM.add ns ms) (PM.add_len ns ms) (fun i _ => PM.add_get ns ms i)] at hD
      exact ⟨D, _, rfl, SqL.of hD, by rw [PM.add_len]; omega, fun H5 p s5 hp => q H5 p (sm.trans s5) hp⟩
abbrev sscaled : Stmt := topS 26
abbrev nscaled : List Str := ["poly", "number", "one"]
theorem scscaled : FnScope nscaled ["poly", "number"] (defScope sscaled) := ⟨rfl, rfl, rfl, by decide +kernel, rfl, by decide +kernel, by decide +kernel⟩
def sp_scaled (K : PySem.W.Frag) : Sp := fun vs H Q _ => ∃ (a : Addr) (ns : List Int) (n : Int), vs = [.ref a, .int n] ∧ TpI K H a ns ∧ ns.length ≤ 100000 ∧ (∀ i, IntMulOk (PM.cf ns i) n) ∧ ∀ H' p, Same H H' → TpI K H' p (PM.scaledL ns n) → Q (.ref p) H'
theorem ok_scaled (T : Bl mg) (C_cut : Cl P w K mg base 1 "cut" ["numbers"] (sp_cut K)) (D : Df K mg "scaled" sscaled) : Cl P w K mg base 2 "scaled" ["poly", "number"] (sp_scaled K) := by
  refine cl_of0 (N := nscaled) D scscaled (fun vs H Q E h => ?_) (fun _ _ _ _ _ _ us hl => match us, hl with | [_, _], _ => rfl) fun f cdv A outer s H vs Q E hr h => ?_
  · obtain ⟨a, ns, n, rfl, _⟩ := h
    rfl
  · obtain ⟨a, ns, n, rfl, hA, l1, hm, q⟩ := h
    refine ⟨_, (pss_one (ps_ret (pe_f C_cut hr (pa_cons (pe_lc (own := [("one", 2)]) (g := (gName 2)) (tt := tYes) rfl scscaled.nd (pi_tup (pv 0)) (blkOk_by (own := [("one", 2)]) (N := nscaled) (sc := defScope sscaled) (by decide +kernel)) (fun _ _ _ _ _ => (pg_name (i := 2) scscaled.nd rfl (.inl rfl))) (fun _ _ _ _ _ => pts_nil) (fun _ _ _ _ _ => (pe_op op_mulK (pv 2) (pv 1)))) pa_nil)))), ?_⟩
    refine ⟨_, rfl, a, rfl, ⟨_, hA⟩, fun D nD => ?_⟩
    refine lcm (n := ns.length) (walkT (K := K) (a := a) (ns := ns)) (fun i => .int (PM.cf ns i * n)) (fun _ sm => sm.ti hA) nD (fun _ => rfl) (smallL (by omega)) (fun i H4 R hi sm hR => ?_) (fun H4 sm hD => ?_)
    · exact ⟨_, rfl, _, rfl, _, _, rfl, rfl, hm i, hR _ (Same.refl _)⟩
    · rw [map_ints (ms := PM.sc ns n) (PM.sc_len ns n) (fun i _ => PM.sc_get ns n i)] at hD
      exact ⟨D, _, rfl, SqL.of hD, by rw [PM.sc_len]; omega, fun H5 p s5 hp => q H5 p (sm.trans s5) hp⟩
abbrev sless : Stmt := topS 27
abbrev nless : List Str := ["one", "other"]
theorem scless : FnScope nless ["one", "other"] (defScope sless) := ⟨rfl, rfl, rfl, by decide +kernel, rfl, by decide +kernel, by decide +kernel⟩
def sp_less (K : PySem.W.Frag) : Sp := fun vs H Q _ => ∃ a b ns ms, vs = [.ref a, .ref b] ∧ TpI K H a ns ∧ TpI K H b ms ∧ ns.length ≤ 100000 ∧ ms.length ≤ 100000 ∧ ∀ H' p, Same H H' → TpI K H' p (PM.lessL ns ms) → Q (.ref p) H'
theorem ok_less (T : Bl mg) (C_sum_of : Cl P w K mg base 2 "sum_of" ["one", "other"] (sp_sum_of K)) (C_scaled : Cl P w K mg base 2 "scaled" ["poly", "number"] (sp_scaled K)) (D : Df K mg "less" sless) : Cl P w K mg base 3 "less" ["one", "other"] (sp_less K) := by
  refine cl_of0 (N := nless) D scless (fun vs H Q E h => ?_) (fun _ _ _ _ _ _ us hl => match us, hl with | [_, _], _ => rfl) fun f cdv A outer s H vs Q E hr h => ?_
  · obtain ⟨a, b, ns, ms, rfl, _⟩ := h
    rfl
  · obtain ⟨a, b, ns, ms, rfl, hA, hB, l1, l2, q⟩ := h
    refine ⟨_, (pss_one (ps_ret (pe_f C_sum_of hr (pa_cons (pv 0) (pa_cons (pe_f C_scaled hr (pa_cons (pv 1) (pa_cons (pe_un un_neg pe_int) pa_nil))) pa_nil))))), ?_⟩
    refine ⟨_, rfl, _, rfl, _, rfl, b, ms, -1, rfl, hB, l2, fun i => mulk_one _, fun H1 p s1 hp => ?_⟩
    refine ⟨a, p, ns, _, rfl, s1.ti hA, hp, l1, ?_, fun H2 p2 s2 hp2 => q H2 p2 (s1.trans s2) hp2⟩
    have h1 := PM.cut_len (PM.sc ms (-1))
    rw [PM.sc_len] at h1
    show (PM.cut (PM.sc ms (-1))).length ≤ 100000
    omega
abbrev sdivisor : Stmt := topS 29
abbrev ndivisor : List Str := ["one", "other"]
theorem scdivisor : FnScope ndivisor ["one", "other"] (defScope sdivisor) := ⟨rfl, rfl, rfl, by decide +kernel, rfl, by decide +kernel, by decide +kernel⟩
def sp_divisor : Sp := fun vs H Q _ => ∃ a b : Int, vs = [.int a, .int b] ∧ Q (.int (Int.gcd a b : Int)) H
theorem ok_divisor (T : Bl mg) (D : Df K mg "divisor" sdivisor) : Cl P w K mg base 1 "divisor" ["one", "other"] sp_divisor := by
  refine cl_of0 (N := ndivisor) D scdivisor (fun vs H Q E h => ?_) (fun _ _ _ _ _ _ us hl => match us, hl with | [_, _], _ => rfl) fun f cdv A outer s H vs Q E hr h => ?_
  · obtain ⟨a, b, rfl, _⟩ := h
    rfl
  · obtain ⟨a, b, rfl, q⟩ := h
    refine ⟨_, (pss_cons (ps_par (i := 0) (j := 1) (by rfl) scdivisor.nd rfl rfl (by decide) rfl rfl (pa_cons (pe_callB call_abs (by rfl) T.z_abs (by decide +kernel) (pa_cons (pv 0) pa_nil)) (pa_cons (pe_callB call_abs (by rfl) T.z_abs (by decide +kernel) (pa_cons (pv 1) pa_nil)) pa_nil)) (by rfl))
  (pss_cons (ps_while PassesOwn.never (pt_cmpR op_ne (pv 1) pe_int (nomark _)) (pss_one (ps_par (i := 0) (j := 1) (by rfl) scdivisor.nd rfl rfl (by decide) rfl rfl (pa_cons (pv 1) (pa_cons (pe_op op_mod (pv 0) (pv 1)) pa_nil)) (by rfl))))
  (pss_one (ps_ret (pv 0))))), ?_⟩
    refine ⟨_, rfl, a, rfl, _, rfl, b, rfl, _, _, rfl, ?_⟩
    have ab : ∀ z : Int, (if z < 0 then -z else z) = (z.natAbs : Int) := fun z => by split <;> omega
    rw [ab, ab]
    refine while_go (fun n σ H' => ∃ x y : Nat, n = y ∧ σ = [some (.int (x : Int)), some (.int (y : Int))] ∧ H' = H ∧ Nat.gcd x y = Int.gcd a b) b.natAbs ⟨a.natAbs, b.natAbs, rfl, rfl, rfl, rfl⟩ ?_
    rintro n σ H' ⟨x, y, rfl, rfl, rfl, hg⟩
    refine ⟨_, rfl, rfl, _, rfl, ?_⟩
    by_cases h0 : n = 0
    · subst h0
      rw [show (!decide (V.int ((0 : Nat) : Int) = V.int 0)) = false from rfl]
      refine iteF ⟨_, rfl, ?_⟩
      rw [← hg, Nat.gcd_zero_right] at q
      exact q
    · have e : (!decide (V.int (n : Int) = V.int 0)) = true := by
        rw [decide_eq_false (fun z => h0 (by have := V.int.inj z; omega))]
        rfl
      rw [e]
      refine iteT ⟨_, fun _ _ h => h, ?_⟩
      have hn : 0 < n := by omega
      refine ⟨_, rfl, _, rfl, _, rfl, _, _, rfl, rfl, by omega, _, _, rfl, x % n, Nat.mod_lt _ hn, n, x % n, rfl, rfl, rfl, ?_⟩
      rw [← hg, Nat.gcd_comm n, ← Nat.gcd_rec, Nat.gcd_comm]
abbrev scontent : Stmt := topS 30
abbrev ncontent : List Str := ["poly", "found", "number"]
theorem sccontent : FnScope ncontent ["poly"] (defScope scontent) := ⟨rfl, rfl, rfl, by decide +kernel, rfl, by decide +kernel, by decide +kernel⟩
def sp_content (K : PySem.W.Frag) : Sp := fun vs H Q _ => ∃ a ns, vs = [.ref a] ∧ TpI K H a ns ∧ Q (.int (PM.content ns)) H
theorem ok_content (T : Bl mg) (C_divisor : Cl P w K mg base 1 "divisor" ["one", "other"] sp_divisor) (D : Df K mg "content" scontent) : Cl P w K mg base 2 "content" ["poly"] (sp_content K) := by
  refine cl_of0 (N := ncontent) D sccontent (fun vs H Q E h => ?_) (fun _ _ _ _ _ _ us hl => match us, hl with | [_], _ => rfl) fun f cdv A outer s H vs Q E hr h => ?_
  · obtain ⟨a, ns, rfl, _⟩ := h
    rfl
  · obtain ⟨a, ns, rfl, hA, q⟩ := h
    refine ⟨_, (pss_cons (ps_set (i := 1) sccontent.nd rfl (.inl rfl) pe_int)
  (pss_cons (ps_for PassesOwn.never rfl (pi_tup (pv 0)) (pg_name (i := 2) sccontent.nd rfl (.inl rfl)) (pss_one (ps_set (i := 1) sccontent.nd rfl (.inl rfl) (pe_f C_divisor hr (pa_cons (pv 1) (pa_cons (pv 2) pa_nil))))))
  (pss_one (ps_ret (pv 1))))), ?_⟩
    refine ⟨_, rfl, a, rfl, ⟨_, hA⟩, ?_⟩
    refine for_it (walkT (K := K) (a := a) (ns := ns)) (fun i σ H' => H' = H ∧ ∃ v, σ = [some (.ref a), some (.int (PM.content (ns.take i))), v]) ⟨rfl, none, rfl⟩ (fun i σ H' _ h => by rw [h.1]; exact hA) (fun i x σ H1 H2 hi hP hY => ?_) (fun σ H' h => ?_)
    · obtain ⟨rfl, v, rfl⟩ := hP
      obtain ⟨rfl, rfl⟩ := hY
      refine ⟨_, rfl, _, rfl, _, _, rfl, rfl, some (.int (PM.cf ns i)), ?_⟩
      rw [take_cf hi]
      unfold PM.content
      rw [List.foldl_append]
      rfl
    · obtain ⟨rfl, v, rfl⟩ := h
      rw [List.take_length]
      exact ⟨_, rfl, q⟩
abbrev sdivided : Stmt := topS 31
abbrev ndivided : List Str := ["poly", "number", "one"]
theorem scdivided : FnScope ndivided ["poly", "number"] (defScope sdivided) := ⟨rfl, rfl, rfl, by decide +kernel, rfl, by decide +kernel, by decide +kernel⟩
def sp_divided (K : PySem.W.Frag) : Sp := fun vs H Q _ => ∃ (a : Addr) (ns : List Int) (n : Int), vs = [.ref a, .int n] ∧ TpI K H a ns ∧ ns.length ≤ 100000 ∧ (∀ i, i < ns.length → CDivP (PM.cf ns i) n) ∧ ∀ H' p, Same H H' → TpI K H' p (ns.map (· / n)) → Q (.ref p) H'
theorem ok_divided (T : Bl mg) (D : Df K mg "divided" sdivided) : Cl P w K mg base 1 "divided" ["poly", "number"] (sp_divided K) := by
  refine cl_of0 (N := ndivided) D scdivided (fun vs H Q E h => ?_) (fun _ _ _ _ _ _ us hl => match us, hl with | [_, _], _ => rfl) fun f cdv A outer s H vs Q E hr h => ?_
  · obtain ⟨a, ns, n, rfl, _⟩ := h
    rfl
  · obtain ⟨a, ns, n, rfl, hA, l1, hm, q⟩ := h
    refine ⟨_, (pss_one (ps_ret (pe_callTy call_tuple_of (by rfl) T.z_tuple (by decide +kernel) (pa_cons (pe_lc (own := [("one", 2)]) (g := (gName 2)) (tt := tYes) rfl scdivided.nd (pi_tup (pv 0)) (blkOk_by (own := [("one", 2)]) (N := ndivided) (sc := defScope sdivided) (by decide +kernel)) (fun _ _ _ _ _ => (pg_name (i := 2) scdivided.nd rfl (.inl rfl))) (fun _ _ _ _ _ => pts_nil) (fun _ _ _ _ _ => (pe_op op_fdivP (pv 2) (pv 1)))) pa_nil)))), ?_⟩
    refine ⟨_, rfl, a, rfl, ⟨_, hA⟩, fun D nD => ?_⟩
    refine lcm (n := ns.length) (walkT (K := K) (a := a) (ns := ns)) (fun i => .int (PM.cf ns i / n)) (fun _ sm => sm.ti hA) nD (fun _ => rfl) (smallL (by omega)) (fun i H4 R hi sm hR => ?_) (fun H4 sm hD => ?_)
    · exact ⟨_, rfl, _, rfl, _, _, rfl, rfl, hm i hi, hR _ (Same.refl _)⟩
    · rw [map_ints (ms := ns.map (· / n)) (by simp) (fun i _ => PM.map_div_get ns n i)] at hD
      exact ⟨D, _, rfl, .inl ⟨SqL.of hD, fun l nl => q _ l (sm.new nl) ti_upd⟩⟩
end
end AT

set_option Elab.async false
set_option linter.all false
set_option maxRecDepth 100000
set_option maxHeartbeats 4000000
namespace AT
open PySem PySem.Spec PyProof.Rows L2
section
variable {P : Program} {w : World} {K : PySem.W.Frag} {mg : Str → Option Value} {base : Heap}
abbrev sis_integer : Stmt := topS 1
abbrev nis_integer : List Str := ["value"]
theorem scis_integer : FnScope nis_integer ["value"] (defScope sis_integer) := ⟨rfl, rfl, rfl, by decide +kernel, rfl, by decide +kernel, by decide +kernel⟩
def sp_is_integer (K : PySem.W.Frag) : Sp := fun vs H Q _ => ∃ v d, vs = [v] ∧ Dp K H v d ∧ Q (.bl (dIsInt d)) H
theorem ok_is_integer (T : Bl mg) (D : Df K mg "is_integer" sis_integer) : Cl P w K mg base 1 "is_integer" ["value"] (sp_is_integer K) := by
  refine cl_of0 (N := nis_integer) D scis_integer (fun vs H Q E h => ?_) (fun _ _ _ _ _ _ us hl => match us, hl with | [_], _ => rfl) fun f cdv A outer s H vs Q E hr h => ?_
  · obtain ⟨v, d, rfl, _⟩ := h
    rfl
  · obtain ⟨v, d, rfl, hd, q⟩ := h
    refine ⟨_, (pss_one (ps_ret (pe_and (pe_callB call_isi (by rfl) T.z_isinstance (by decide +kernel) (pa_cons (pv 0) (pa_cons (pe_bltn (v := .ty "int") (by rfl) T.z_int (by decide +kernel) rfl) pa_nil))) (pe_one (pe_not (pe_callB call_isi (by rfl) T.z_isinstance (by decide +kernel) (pa_cons (pv 0) (pa_cons (pe_bltn (v := .ty "bool") (by rfl) T.z_bool (by decide +kernel) rfl) pa_nil)))))))), ?_⟩
    have ty := dp_ty hd
    have no : ∀ {t : String}, kitB t "int" = some false → TyX K H v (.type t) → Q (.bl false) H →
        tRet (tAndV (tCB (rIsi K) (tCons (tVar 0) (tCons (tC (.ty "int")) tNil))) (tNotV (tCB (rIsi K) (tCons (tVar 0) (tCons (tC (.ty "bool")) tNil))))) { nx := fun _ H' => Q .non H', rt := Q } (L2.start nis_integer [v]) H := fun {t} hk hy q =>
      ⟨_, rfl, v, .ty "int", _, _, false, rfl, .ty _, hy, kit_ty hk, false, rfl, iteF q⟩
    cases d with
    | int i => exact ⟨_, rfl, v, .ty "int", _, _, true, rfl, .ty _, ty, kit_ty kb_ii, true, rfl, iteT ⟨_, rfl, v, .ty "bool", _, _, false, rfl, .ty _, ty, kit_ty kb_ib, false, rfl, q⟩⟩
    | bool b => exact ⟨_, rfl, v, .ty "int", _, _, true, rfl, .ty _, ty, kit_ty kb_bi, true, rfl, iteT ⟨_, rfl, v, .ty "bool", _, _, true, rfl, .ty _, ty, kit_ty kb_bb, true, rfl, q⟩⟩
    | none => exact no kb_ni ty q
    | str x => exact no kb_si ty q
    | list ds => exact no kb_li ty q
    | tuple ds => exact no kb_ti ty q
    | dict ds => cases hd
abbrev sis_poly : Stmt := topS 21
abbrev nis_poly : List Str := ["value", "one"]
theorem scis_poly : FnScope nis_poly ["value"] (defScope sis_poly) := ⟨rfl, rfl, rfl, by decide +kernel, rfl, by decide +kernel, by decide +kernel⟩
def sp_is_poly (K : PySem.W.Frag) : Sp := fun vs H Q _ => ∃ v d, vs = [v] ∧ Dp K H v d ∧ SeqAt.shaped d = true ∧ (∀ ds, d = .tuple ds → ds.length ≤ 100000) ∧ ∀ H', Same H H' → Q (.bl (dPoly d)) H'
theorem ok_is_poly (T : Bl mg) (C_is_integer : Cl P w K mg base 1 "is_integer" ["value"] (sp_is_integer K)) (D : Df K mg "is_poly" sis_poly) : Cl P w K mg base 2 "is_poly" ["value"] (sp_is_poly K) := by
  refine cl_of0 (N := nis_poly) D scis_poly (fun vs H Q E h => ?_) (fun _ _ _ _ _ _ us hl => match us, hl with | [_], _ => rfl) fun f cdv A outer s H vs Q E hr h => ?_
  · obtain ⟨v, d, rfl, _⟩ := h
    rfl
  · obtain ⟨v, d, rfl, hd, hsh, hlen, q⟩ := h
    refine ⟨_, (pss_cons (ps_if (PW.pt (pw_or (pt_not (pt_val (pe_callB call_isi (by rfl) T.z_isinstance (by decide +kernel) (pa_cons (pv 0) (pa_cons (pe_bltn (v := .ty "tuple") (by rfl) T.z_tuple (by decide +kernel) rfl) pa_nil))))) (pw_or1 (pt_not (pt_val (pe_callB (cr_all rfl) (by rfl) T.z_all (by decide +kernel) (pa_cons (pe_lc (own := [("one", 1)]) (g := (gName 1)) (tt := tYes) rfl scis_poly.nd (pi_tup (pv 0)) (blkOk_by (own := [("one", 1)]) (N := nis_poly) (sc := defScope sis_poly) (by decide +kernel)) (fun _ _ _ _ _ => (pg_name (i := 1) scis_poly.nd rfl (.inl rfl))) (fun _ _ _ _ _ => pts_nil) (fun _ _ _ _ _ => (pe_f C_is_integer hr (pa_cons (pv 1) pa_nil)))) pa_nil))))))) (pss_one (ps_ret pe_bl)) pss_nil)
  (pss_one (ps_ret (pe_or (pe_cmpR (op_eqD hr.units) (pv 0) (pe_tup pa_nil) (nomark _)) (pe_one (pe_cmpR op_ne (pe_ix ix_tup (pv 0) (pe_un un_neg pe_int) (fun _ _ => rfl)) pe_int (nomark _))))))), ?_⟩
    have ty := dp_ty hd
    by_cases ht : dTy d = "tuple"
    · obtain ⟨a, xs, ds, rfl, rfl, hs, ha⟩ : ∃ a xs ds, v = .ref a ∧ d = .tuple ds ∧ SqT K H a xs ∧ DpAll K H xs ds := by
        cases hd with
        | tup hs ha => exact ⟨_, _, _, rfl, rfl, hs, ha⟩
        | non => exact absurd ht (show ¬ "NoneType" = "tuple" by decide)
        | bl b => exact absurd ht (show ¬ "bool" = "tuple" by decide)
        | int i => exact absurd ht (show ¬ "int" = "tuple" by decide)
        | str x => exact absurd ht (show ¬ "str" = "tuple" by decide)
        | lst _ _ => exact absurd ht (show ¬ "list" = "tuple" by decide)
      have hl := hlen ds rfl
      have exl := dpAll_len ds xs ha
      refine ⟨_, rfl, .ref a, .ty "tuple", _, _, true, rfl, .ty _, ty, kit_ty kb_tt, true, rfl, iteF ?_⟩
      refine ⟨_, rfl, a, rfl, ⟨_, hs⟩, fun D nD => ?_⟩
      refine lcm (n := xs.length) (walkTV (K := K) (a := a) (xs := xs)) (fun i => .bl (dIsInt (ds.getD i .none))) (fun _ sm => sm.tup hs) nD (fun _ => rfl) (smallL (by omega)) (fun i H4 R hi sm hR => ?_) (fun H4 sm hD => ?_)
      · have e1 : xs[i]? = some (xs.getD i .non) := by rw [List.getD_eq_getElem?_getD, List.getElem?_eq_getElem hi]; rfl
        obtain ⟨di, e2, h2⟩ := dpAll_get ds xs ha i _ e1
        have e3 : ds.getD i .none = di := by rw [List.getD_eq_getElem?_getD, e2]; rfl
        rw [e3] at hR
        exact ⟨_, rfl, _, di, rfl, sm.dp di _ h2, hR _ (Same.refl _)⟩
      · have e1 : (List.range xs.length).map (fun i => V.bl (dIsInt (ds.getD i .none))) = (ds.map dIsInt).map V.bl := by
          apply List.ext_getElem
          · simp [exl]
          · intro i h1 h2
            have h3 : i < ds.length := by simpa using h2
            simp [List.getD_eq_getElem?_getD, List.getElem?_eq_getElem h3]
        rw [e1] at hD
        refine ⟨D, _, rfl, SqL.of hD, _, rfl, ?_⟩
        have e2 : (ds.map dIsInt).all id = ds.all dIsInt := by
          rw [List.all_map]
          rfl
        rw [e2]
        cases hall : ds.all dIsInt with
        | false =>
          refine iteT ?_
          have := q H4 sm
          rw [dPoly_not hall] at this
          exact this
        | true =>
          refine iteF ?_
          obtain ⟨ns, rfl, rfl⟩ := dp_all_ints ds xs ha hall
          have q' := fun H' (s5 : Same H H') => (show Q (.bl (decide (PM.Tr ns))) H' by
            have := q H' s5
            rw [dPoly_ints] at this
            exact this)
          refine ⟨_, rfl, by show 0 ≤ sizeLine; decide, fun p np => ?_⟩
          have s5 := sm.new (o := .tup []) np
          refine ⟨_, _, s5.dp _ _ hd, dp_tup (ns := []) ti_nil, hsh, shaped_tup [], _, rfl, ?_⟩
          rw [eqv_tup]
          by_cases hn : ns = []
          · subst hn
            rw [decide_eq_true rfl]
            refine iteT ?_
            have := q' _ s5
            rw [decide_eq_true (show PM.Tr [] by simp [PM.Tr])] at this
            exact this
          · rw [decide_eq_false hn]
            refine iteF ⟨_, rfl, 1, rfl, a, _, -1, _, rfl, rfl, s5.tup hs, vInts_last hn, rfl, ?_⟩
            have := q' _ s5
            have e4 : (!decide (V.int (PM.lead ns) = V.int 0)) = decide (PM.Tr ns) := by
              have h5 := PM.tr_iff hn
              by_cases h6 : PM.lead ns = 0
              · rw [h6, decide_eq_true rfl, decide_eq_false (fun z => (h5.mp z) h6)]
                rfl
              · rw [decide_eq_false (fun z => h6 (V.int.inj z)), decide_eq_true (h5.mpr h6)]
                rfl
            rw [e4]
            exact this
    · have hk : kitB (dTy d) "tuple" = some false ∧ dPoly d = false := by
        cases d with
        | tuple ds => exact absurd rfl ht
        | none => exact ⟨kb_nt, rfl⟩
        | bool b => exact ⟨kb_bt, rfl⟩
        | int i => exact ⟨kb_it, rfl⟩
        | str x => exact ⟨kb_st, rfl⟩
        | list ds => exact ⟨kb_lt, rfl⟩
        | dict ds => cases hd
      have := q H (Same.refl H)
      rw [hk.2] at this
      exact ⟨_, rfl, v, .ty "tuple", _, _, false, rfl, .ty _, ty, kit_ty hk.1, false, rfl, iteT (iteT this)⟩
abbrev sprimitive : Stmt := topS 32
abbrev nprimitive : List Str := ["poly"]
theorem scprimitive : FnScope nprimitive ["poly"] (defScope sprimitive) := ⟨rfl, rfl, rfl, by decide +kernel, rfl, by decide +kernel, by decide +kernel⟩
def sp_primitive (K : PySem.W.Frag) : Sp := fun vs H Q _ => ∃ a ns, vs = [.ref a] ∧ TpI K H a ns ∧ ns.length ≤ 100000 ∧ PM.Tr ns ∧ PM.PrOk ns ∧ ∀ H' p, Same H H' → TpI K H' p (PM.prim ns) → Q (.ref p) H'
theorem ok_primitive (T : Bl mg) (C_divided : Cl P w K mg base 1 "divided" ["poly", "number"] (sp_divided K)) (C_content : Cl P w K mg base 2 "content" ["poly"] (sp_content K)) (D : Df K mg "primitive" sprimitive) : Cl P w K mg base 3 "primitive" ["poly"] (sp_primitive K) := by
  refine cl_of0 (N := nprimitive) D scprimitive (fun vs H Q E h => ?_) (fun _ _ _ _ _ _ us hl => match us, hl with | [_], _ => rfl) fun f cdv A outer s H vs Q E hr h => ?_
  · obtain ⟨a, ns, rfl, _⟩ := h
    rfl
  · obtain ⟨a, ns, rfl, hA, hl, tr, hp, q⟩ := h
    refine ⟨_, (pss_one (ps_ret (pe_ifExp (pt_cmpR (op_neD hr.units) (pv 0) (pe_tup pa_nil) (nomark _)) (pe_f C_divided hr (pa_cons (pv 0) (pa_cons (pe_f C_content hr (pa_cons (pv 0) pa_nil)) pa_nil))) (pe_tup pa_nil)))), ?_⟩
    refine ⟨_, rfl, by show 0 ≤ sizeLine; decide, fun p np => ?_⟩
    have s1 := same_upd (o := .tup []) np
    refine ⟨_, _, dp_tup (s1.ti hA), dp_tup (ns := []) ti_nil, shaped_tup _, shaped_tup [], _, rfl, ?_⟩
    rw [eqv_tup]
    by_cases hn : ns = []
    · rw [decide_eq_true hn]
      refine iteF ⟨by show 0 ≤ sizeLine; decide, fun p2 np2 => q _ p2 (s1.new np2) ?_⟩
      rw [hn]
      exact ti_nil
    · rw [decide_eq_false hn]
      refine iteT ⟨_, rfl, _, rfl, a, ns, rfl, s1.ti hA, a, ns, _, rfl, s1.ti hA, hl, prok_div tr hn hp, fun H2 p2 s2 h2 => q _ p2 (s1.trans s2) ?_⟩
      unfold PM.prim
      rw [if_neg hn]
      exact h2
abbrev sshifted : Stmt := topS 33
abbrev nshifted : List Str := ["poly", "many"]
theorem scshifted : FnScope nshifted ["poly", "many"] (defScope sshifted) := ⟨rfl, rfl, rfl, by decide +kernel, rfl, by decide +kernel, by decide +kernel⟩
def sp_shifted (K : PySem.W.Frag) : Sp := fun vs H Q _ => ∃ (a : Addr) (ns : List Int) (m : Nat), vs = [.ref a, .int (m : Int)] ∧ TpI K H a ns ∧ ns.length ≤ 100000 ∧ m ≤ 100000 ∧ ∀ H' p, Same H H' → TpI K H' p (PM.shiftedL ns m) → Q (.ref p) H'
theorem ok_shifted (T : Bl mg) (D : Df K mg "shifted" sshifted) : Cl P w K mg base 1 "shifted" ["poly", "many"] (sp_shifted K) := by
  refine cl_of0 (N := nshifted) D scshifted (fun vs H Q E h => ?_) (fun _ _ _ _ _ _ us hl => match us, hl with | [_, _], _ => rfl) fun f cdv A outer s H vs Q E hr h => ?_
  · obtain ⟨a, ns, m, rfl, _⟩ := h
    rfl
  · obtain ⟨a, ns, m, rfl, hA, hl, hm, q⟩ := h
    refine ⟨_, (pss_one (ps_ret (pe_ifExp (pt_cmpR (op_neD hr.units) (pv 0) (pe_tup pa_nil) (nomark _)) (pe_tup (StX.pa_star (pe_op op_rep (pe_lst (pa_cons pe_int pa_nil)) (pv 1)) (StX.pa_star (pv 0) pa_nil))) (pe_tup pa_nil)))), ?_⟩
    refine ⟨_, rfl, by show 0 ≤ sizeLine; decide, fun p np => ?_⟩
    have s1 := same_upd (o := .tup []) np
    refine ⟨_, _, dp_tup (s1.ti hA), dp_tup (ns := []) ti_nil, shaped_tup _, shaped_tup [], _, rfl, ?_⟩
    rw [eqv_tup]
    by_cases hn : ns = []
    · rw [decide_eq_true hn]
      refine iteF ⟨by show 0 ≤ sizeLine; decide, fun p2 np2 => q _ p2 (s1.new np2) ?_⟩
      rw [hn]
      exact ti_nil
    · rw [decide_eq_false hn]
      refine iteT ⟨by show 1 ≤ sizeLine; decide, fun l nl => ?_⟩
      have s2 := s1.new (o := .lst [.int 0]) nl
      refine ⟨_, rfl, l, _, _, rfl, rfl, upd_same, by omega, by omega, small (by simp; omega), fun l2 nl2 => ?_⟩
      have s3 := s2.new (o := .lst (List.replicate (m : Int).toNat [V.int 0]).flatten) nl2
      have e : (List.replicate (m : Int).toNat [V.int 0]).flatten = vInts (List.replicate m 0) := by
        rw [Int.toNat_natCast]
        clear s3 nl2 hm q s2 nl
        induction m with
        | zero => rfl
        | succ m ih => rw [List.replicate_succ, List.flatten_cons, ih]; rfl
      refine ⟨l2, _, rfl, .inr (SqL.of upd_same), _, rfl, a, _, rfl, .inl (s3.ti hA), ?_⟩
      rw [e] at s3
      dsimp only [tNil]
      rw [e, List.append_nil, ← List.map_append]
      refine ⟨small (by simp; omega), fun p4 np4 => q _ p4 (s3.new np4) ?_⟩
      unfold PM.shiftedL PM.sh
      rw [if_neg hn]
      exact ti_upd
end
end AT

set_option Elab.async false
set_option linter.all false
set_option maxRecDepth 100000
set_option maxHeartbeats 4000000
namespace AT
open PySem PySem.Spec PyProof.Rows L2
section
variable {P : Program} {w : World} {K : PySem.W.Frag} {mg : Str → Option Value} {base : Heap}
abbrev sproduct : Stmt := topS 28
abbrev nproduct : List Str := ["one", "other", "found", "at", "mine", "spot", "its"]
theorem scproduct : FnScope nproduct ["one", "other"] (defScope sproduct) := ⟨rfl, rfl, rfl, by decide +kernel, rfl, by decide +kernel, by decide +kernel⟩
def sp_product (K : PySem.W.Frag) : Sp := fun vs H Q _ => ∃ a b ns ms, vs = [.ref a, .ref b] ∧ TpI K H a ns ∧ TpI K H b ms ∧ ns.length ≤ 10000 ∧ ms.length ≤ 10000 ∧ (∀ i j, IntMulOk (PM.cf ns i) (PM.cf ms j)) ∧ ∀ H' p, Same H H' → TpI K H' p (PM.prodL ns ms) → Q (.ref p) H'
theorem ok_product (T : Bl mg) (C_cut : Cl P w K mg base 1 "cut" ["numbers"] (sp_cut K)) (D : Df K mg "product" sproduct) : Cl P w K mg base 2 "product" ["one", "other"] (sp_product K) := by
  refine cl_of0 (N := nproduct) D scproduct (fun vs H Q E h => ?_) (fun _ _ _ _ _ _ us hl => match us, hl with | [_, _], _ => rfl) fun f cdv A outer s H vs Q E hr h => ?_
  · obtain ⟨a, b, ns, ms, rfl, _⟩ := h
    rfl
  · obtain ⟨a, b, ns, ms, rfl, hA, hB, l1, l2, hm, q⟩ := h
    refine ⟨_, (pss_cons (ps_if (PW.pt (pw_or (pt_cmpR (op_eqD hr.units) (pv 0) (pe_tup pa_nil) (nomark _)) (pw_or1 (pt_cmpR (op_eqD hr.units) (pv 1) (pe_tup pa_nil) (nomark _))))) (pss_one (ps_ret (pe_tup pa_nil))) pss_nil)
  (pss_cons (ps_set (i := 2) scproduct.nd rfl (.inl rfl) (pe_op op_rep (pe_lst (pa_cons pe_int pa_nil)) (pe_op op_sub (pe_op op_add (pe_callB call_len_seq (by rfl) T.z_len (by decide +kernel) (pa_cons (pv 0) pa_nil)) (pe_callB call_len_seq (by rfl) T.z_len (by decide +kernel) (pa_cons (pv 1) pa_nil))) pe_int)))
  (pss_cons (ps_for PassesOwn.never rfl (pi_enumT (by rfl) T.z_enumerate (pa_cons (pv 0) pa_nil)) (pg_tup rfl (pgs_cons (pg_name (i := 3) scproduct.nd rfl (.inl rfl)) (pgs_cons (pg_name (i := 4) scproduct.nd rfl (.inl rfl)) pgs_nil))) (pss_one (ps_for PassesOwn.never rfl (pi_enumT (by rfl) T.z_enumerate (pa_cons (pv 1) pa_nil)) (pg_tup rfl (pgs_cons (pg_name (i := 5) scproduct.nd rfl (.inl rfl)) (pgs_cons (pg_name (i := 6) scproduct.nd rfl (.inl rfl)) pgs_nil))) (pss_one (ps_augS (pv 2) (pe_op op_add (pv 3) (pv 5)) pget_list (pe_op op_mulK (pv 4) (pv 6)) ip_add set_list)))))
  (pss_one (ps_ret (pe_f C_cut hr (pa_cons (pv 2) pa_nil))))))), ?_⟩
    refine ⟨_, rfl, by show 0 ≤ sizeLine; decide, fun p1 np1 => ?_⟩
    have s1 := same_upd (o := .tup []) np1
    refine ⟨_, _, dp_tup (s1.ti hA), dp_tup (ns := []) ti_nil, shaped_tup _, shaped_tup [], _, rfl, ?_⟩
    rw [eqv_tup]
    have none_ : ∀ H1, Same H H1 → (ns = [] ∨ ms = []) → ∀ p, H1 p = none → Q (.ref p) (upd H1 p (.tup [])) := fun H1 sm hn p np => q _ p (sm.new np) (by
      unfold PM.prodL
      rw [if_pos hn]
      exact ti_nil)
    by_cases hn : ns = []
    · rw [decide_eq_true hn]
      exact iteT (iteT ⟨by show 0 ≤ sizeLine; decide, fun p np => none_ _ s1 (.inl hn) p np⟩)
    rw [decide_eq_false hn]
    refine iteF ⟨_, rfl, by show 0 ≤ sizeLine; decide, fun p2 np2 => ?_⟩
    have s2 := s1.new (o := .tup []) np2
    refine ⟨_, _, dp_tup (s2.ti hB), dp_tup (ns := []) ti_nil, shaped_tup _, shaped_tup [], _, rfl, ?_⟩
    rw [eqv_tup]
    by_cases hn2 : ms = []
    · rw [decide_eq_true hn2]
      exact iteT ⟨by show 0 ≤ sizeLine; decide, fun p np => none_ _ s2 (.inr hn2) p np⟩
    rw [decide_eq_false hn2]
    have p1 : 0 < ns.length := List.length_pos_iff.mpr hn
    have p2 : 0 < ms.length := List.length_pos_iff.mpr hn2
    refine iteF ⟨by show 1 ≤ sizeLine; decide, fun l nl => ?_⟩
    have s3 := s2.new (o := .lst [.int 0]) nl
    have ez : ((vInts ns).length : Int) + ((vInts ms).length : Int) - 1 = ((ns.length + ms.length - 1 : Nat) : Int) := by
      rw [List.length_map, List.length_map]
      omega
    refine ⟨_, rfl, a, vInts ns, rfl, .inr (s3.ti hA), _, rfl, b, vInts ms, rfl, .inr (s3.ti hB), _, _, rfl, rfl, _, _, rfl, rfl, l, _, _, rfl, rfl, upd_same, ?_⟩
    dsimp only
    rw [ez, Int.toNat_natCast, zeros]
    refine ⟨by omega, by omega, small (by simp; omega), fun fnd nf => ?_⟩
    have nfH : H fnd = none := s3.free nf
    have s4 := s3.new (o := .lst (vInts (List.replicate (ns.length + ms.length - 1) 0))) nf
    refine ⟨_, rfl, a, _, rfl, s4.ti hA, ?_⟩
    -- the rows
    refine for_it (by have := walk_enumT (K := K) (a := a) (xs := vInts ns); rw [List.length_map] at this; exact this) (fun i σ H' => ∃ x3 x4 x5 x6 acc, σ = [some (.ref a), some (.ref b), some (.ref fnd), x3, x4, x5, x6] ∧ Same H H' ∧ H' fnd = some (.lst (vInts acc)) ∧ acc.length = ns.length + ms.length - 1 ∧ ∀ k, PM.cf acc k = PM.cf (PM.mul (ns.take i) ms) k)
      ⟨none, none, none, none, _, rfl, s4, upd_same, by simp, fun k => by rw [cf_zeros]; rfl⟩ (fun i σ H' _ h => by obtain ⟨_, _, _, _, _, _, sm, _⟩ := h; exact sm.ti hA) (fun i x σ H1 H2 hi hP hY => ?_) (fun σ H' h => ?_)
    · obtain ⟨x3, x4, x5, x6, acc, rfl, sm, hf, ha, hc⟩ := hP
      obtain ⟨T1, y1, y2, rfl, nT, rfl, e1, e2⟩ := hY
      obtain rfl := (Option.some.inj e1).symm
      obtain rfl := (vInts_item e2).2
      have sm2 := sm.new (o := .tup [.int (i : Int), .int (PM.cf ns i)]) nT
      have nTf : fnd ≠ T1 := ne_of_none hf nT
      refine ⟨T1, _, rfl, .inl (.inl upd_same), rfl, _, _, rfl, _, _, rfl, rfl, ?_⟩
      refine ⟨_, rfl, b, _, rfl, sm2.ti hB, ?_⟩
      refine for_it (by have := walk_enumT (K := K) (a := b) (xs := vInts ms); rw [List.length_map] at this; exact this) (fun j σ H' => ∃ x5 x6 acc, σ = [some (.ref a), some (.ref b), some (.ref fnd), some (.int (i : Int)), some (.int (PM.cf ns i)), x5, x6] ∧ Same H H' ∧ H' fnd = some (.lst (vInts acc)) ∧ acc.length = ns.length + ms.length - 1 ∧ ∀ k, PM.cf acc k = rowG ns ms i j k)
        ⟨x5, x6, acc, rfl, sm2, by rw [upd_ne nTf]; exact hf, ha, fun k => by rw [rowG_zero]; exact hc k⟩ (fun j σ H' _ h => by obtain ⟨_, _, _, _, sm, _⟩ := h; exact sm.ti hB) (fun j x σ H3 H4 hj hP hY => ?_) (fun σ H' h => ?_)
      · obtain ⟨z5, z6, acc, rfl, sm3, hf, ha, hc⟩ := hP
        obtain ⟨T2, w1, w2, rfl, nT2, rfl, e3, e4⟩ := hY
        obtain rfl := (Option.some.inj e3).symm
        obtain rfl := (vInts_item e4).2
        have sm4 := sm3.new (o := .tup [.int (j : Int), .int (PM.cf ms j)]) nT2
        have nT2f : fnd ≠ T2 := ne_of_none hf nT2
        have hf2 : (upd H3 T2 (.tup [.int (j : Int), .int (PM.cf ms j)])) fnd = some (.lst (vInts acc)) := by rw [upd_ne nT2f]; exact hf
        have hlt : i + j < acc.length := by omega
        refine ⟨T2, _, rfl, .inl (.inl upd_same), rfl, _, _, rfl, _, _, rfl, rfl, ?_⟩
        refine ⟨_, rfl, _, rfl, _, rfl, _, _, rfl, rfl, fnd, _, i + j, _, rfl, by show V.int ((i : Int) + (j : Int)) = _; rw [Int.natCast_add], SqL.of hf2, vInts_get hlt, _, rfl, _, rfl, _, _, rfl, rfl, hm i j, _, _, rfl, rfl, fnd, _, _, i + j, rfl, rfl, hf2, ixN_nat (Int.natCast_add i j).symm (by rw [List.length_map]; exact hlt), ?_⟩
        refine ⟨_, _, acc.set (i + j) (PM.cf acc (i + j) + PM.cf ns i * PM.cf ms j), rfl, sm4.mut nfH, ?_, by rw [List.length_set]; exact ha, fun k => ?_⟩
        · rw [upd_same, vInts_set]
        · rw [cf_set _ _ _ hlt, rowG_next, hc, hc]
      · obtain ⟨z5, z6, acc, rfl, sm3, hf, ha, hc⟩ := h
        exact ⟨_, _, _, _, acc, rfl, sm3, hf, ha, fun k => by rw [hc k, rowG_end ns ms i k hi]⟩
    · obtain ⟨x3, x4, x5, x6, acc, rfl, sm, hf, ha, hc⟩ := h
      have e : acc = PM.mul ns ms := by
        apply PM.ext_cf
        · rw [ha, PM.mul_len ns ms hn hn2]
        · intro k _
          rw [hc k, List.take_length]
      refine ⟨_, rfl, fnd, acc, rfl, SqL.of hf, by omega, fun H5 p s5 hp => q H5 p (sm.trans s5) ?_⟩
      unfold PM.prodL
      rw [if_neg (by rintro (z | z); exact hn z; exact hn2 z), ← e]
      exact hp
end
end AT

set_option Elab.async false
set_option linter.all false
set_option maxRecDepth 100000
set_option maxHeartbeats 4000000
namespace AT
open PySem PySem.Spec PyProof.Rows L2
section
variable {P : Program} {w : World} {K : PySem.W.Frag} {mg : Str → Option Value} {base : Heap}
abbrev sparted : Stmt := topS 34
abbrev nparted : List Str := ["one", "other", "factor", "quotient", "rest", "lead", "many", "top"]
theorem scparted : FnScope nparted ["one", "other"] (defScope sparted) := ⟨rfl, rfl, rfl, by decide +kernel, rfl, by decide +kernel, by decide +kernel⟩
/-- a triple of a division -/
def TrI (K : PySem.W.Frag) (H : Hp) (p : Addr) (s : PM.Trip) : Prop := ∃ pq pr, SqT K H p [.int s.1, .ref pq, .ref pr] ∧ TpI K H pq s.2.1 ∧ TpI K H pr s.2.2
def sp_parted (K : PySem.W.Frag) : Sp := fun vs H Q _ => ∃ a b ns ms, vs = [.ref a, .ref b] ∧ TpI K H a ns ∧ TpI K H b ms ∧ ns.length ≤ 10000 ∧ ms.length ≤ 10000 ∧ PM.Tr ns ∧ PM.Tr ms ∧ ms ≠ [] ∧ PM.PdOk ns ms ∧
  ∀ H' p, Same H H' → TrI K H' p (PM.pd ns ms) → Q (.ref p) H'
theorem ok_parted (T : Bl mg) (C_sum_of : Cl P w K mg base 2 "sum_of" ["one", "other"] (sp_sum_of K)) (C_scaled : Cl P w K mg base 2 "scaled" ["poly", "number"] (sp_scaled K)) (C_shifted : Cl P w K mg base 1 "shifted" ["poly", "many"] (sp_shifted K))
    (C_less : Cl P w K mg base 3 "less" ["one", "other"] (sp_less K)) (D : Df K mg "parted" sparted) : Cl P w K mg base 4 "parted" ["one", "other"] (sp_parted K) := by
  refine cl_of0 (N := nparted) D scparted (fun vs H Q E h => ?_) (fun _ _ _ _ _ _ us hl => match us, hl with | [_, _], _ => rfl) fun f cdv A outer s H vs Q E hr h => ?_
  · obtain ⟨a, b, ns, ms, rfl, _⟩ := h
    rfl
  · obtain ⟨a, b, ns, ms, rfl, hA, hB, l1, l2, t1, t2, hb, ⟨n, m, b1, b2, hnm⟩, q⟩ := h
    refine ⟨_, (pss_cons (ps_par3 (i := 2) (j := 3) (l := 4) (by rfl) scparted.nd rfl rfl rfl (by decide) (by decide) (by decide) rfl rfl rfl (pa_cons pe_int (pa_cons (pe_tup pa_nil) (pa_cons (pv 0) pa_nil))) (by rfl))
  (pss_cons (ps_set (i := 5) scparted.nd rfl (.inl rfl) (pe_ix ix_tup (pv 1) (pe_un un_neg pe_int) (fun _ _ => rfl)))
  (pss_cons (ps_while PassesOwn.never (pt_cmpR op_ge (pe_callB call_len_seq (by rfl) T.z_len (by decide +kernel) (pa_cons (pv 4) pa_nil)) (pe_callB call_len_seq (by rfl) T.z_len (by decide +kernel) (pa_cons (pv 1) pa_nil)) (nomark _)) (pss_cons (ps_par (i := 6) (j := 7) (by rfl) scparted.nd rfl rfl (by decide) rfl rfl (pa_cons (pe_op op_sub (pe_callB call_len_seq (by rfl) T.z_len (by decide +kernel) (pa_cons (pv 4) pa_nil)) (pe_callB call_len_seq (by rfl) T.z_len (by decide +kernel) (pa_cons (pv 1) pa_nil))) (pa_cons (pe_ix ix_tup (pv 4) (pe_un un_neg pe_int) (fun _ _ => rfl)) pa_nil)) (by rfl))
  (pss_cons (ps_set (i := 3) scparted.nd rfl (.inl rfl) (pe_f C_sum_of hr (pa_cons (pe_f C_scaled hr (pa_cons (pv 3) (pa_cons (pv 5) pa_nil))) (pa_cons (pe_f C_shifted hr (pa_cons (pe_tup (pa_cons (pv 7) pa_nil)) (pa_cons (pv 6) pa_nil))) pa_nil))))
  (pss_cons (ps_set (i := 4) scparted.nd rfl (.inl rfl) (pe_f C_less hr (pa_cons (pe_f C_scaled hr (pa_cons (pv 4) (pa_cons (pv 5) pa_nil))) (pa_cons (pe_f C_shifted hr (pa_cons (pe_f C_scaled hr (pa_cons (pv 1) (pa_cons (pv 7) pa_nil))) (pa_cons (pv 6) pa_nil))) pa_nil))))
  (pss_one (ps_set (i := 2) scparted.nd rfl (.inl rfl) (pe_op op_mulK (pv 2) (pv 5))))))))
  (pss_one (ps_ret (pe_tup (pa_cons (pv 2) (pa_cons (pv 3) (pa_cons (pv 4) pa_nil))))))))), ?_⟩
    refine ⟨by show 0 ≤ sizeLine; decide, fun pq npq => ?_⟩
    have s1 := same_upd (o := .tup []) npq
    refine ⟨_, rfl, _, _, _, rfl, ?_⟩
    refine ⟨_, rfl, 1, rfl, b, _, -1, _, rfl, rfl, s1.ti hB, vInts_last hb, ?_⟩
    refine while_go (fun k σ H' => ∃ (t : PM.Trip) (j : Nat) (pq pr : Addr) (x6 x7 : Option V), k = t.2.2.length ∧ σ = [some (.ref a), some (.ref b), some (.int t.1), some (.ref pq), some (.ref pr), some (.int (PM.lead ms)), x6, x7] ∧ Same H H' ∧ TpI K H' pq t.2.1 ∧ TpI K H' pr t.2.2 ∧ PM.PSt n m ns ms t j)
      ns.length ⟨(1, [], ns), 0, pq, a, none, none, rfl, rfl, s1, ti_nil, s1.ti hA, PM.PSt.start t1 b1⟩ ?_
    rintro k σ H' ⟨t, j, pq, pr, x6, x7, rfl, rfl, sm, hq, hr2, st⟩
    refine ⟨_, rfl, pr, _, rfl, .inr hr2, _, rfl, b, _, rfl, .inr (sm.ti hB), _, _, rfl, rfl, _, rfl, ?_⟩
    by_cases hl : t.2.2.length < ms.length
    · rw [decide_eq_false (show ¬ ((vInts ms).length : Int) ≤ ((vInts t.2.2).length : Int) by rw [List.length_map, List.length_map]; omega)]
      refine iteF ⟨_, rfl, _, rfl, _, rfl, by show 3 ≤ sizeLine; decide, fun p np => ?_⟩
      have e := st.en
      rw [PM.pend_stop hl] at e
      refine q _ p (sm.new np) ?_
      rw [← e]
      have s2 := same_upd (o := .tup [.int t.1, .ref pq, .ref pr]) np
      exact ⟨pq, pr, .inl (.inl upd_same), s2.ti hq, s2.ti hr2⟩
    · rw [decide_eq_true (show ((vInts ms).length : Int) ≤ ((vInts t.2.2).length : Int) by rw [List.length_map, List.length_map]; omega)]
      refine iteT ⟨_, fun _ _ h => h, ?_⟩
      obtain ⟨r1, r2, r3⟩ := st.room hnm
      have h0 : ms.length ≠ 0 := by simpa using hb
      have nr : t.2.2 ≠ [] := by
        intro e
        rw [e] at hl
        exact hl (by simp; omega)
      have len1 := st.le
      have len2 := st.lq
      refine ⟨_, rfl, pr, _, rfl, .inr hr2, _, rfl, b, _, rfl, .inr (sm.ti hB), _, _, rfl, rfl, _, rfl, 1, rfl, pr, _, -1, _, rfl, rfl, hr2, vInts_last nr, _, _, rfl, ?_⟩
      have em : ((vInts t.2.2).length : Int) - ((vInts ms).length : Int) = ((t.2.2.length - ms.length : Nat) : Int) := by
        rw [List.length_map, List.length_map]
        omega
      dsimp only
      rw [em]
      -- quotient
      refine ⟨_, rfl, _, rfl, pq, t.2.1, PM.lead ms, rfl, hq, by omega, fun i => mulk_bd (st.bq i) b2.lead (by omega), fun H1 p1 s1' h1 => ?_⟩
      refine ⟨_, rfl, by show 1 ≤ sizeLine; decide, fun p2 np2 => ?_⟩
      have s2' := s1'.new (o := .tup [.int (PM.lead t.2.2)]) np2
      have s2a := same_upd (o := .tup [.int (PM.lead t.2.2)]) np2
      refine ⟨_, rfl, p2, [PM.lead t.2.2], t.2.2.length - ms.length, rfl, .inl (.inl upd_same), by show 1 ≤ 100000; decide, by omega, fun H3 p3 s3' h3 => ?_⟩
      have cl1 := PM.cut_len (PM.sc t.2.1 (PM.lead ms))
      rw [PM.sc_len] at cl1
      refine ⟨p1, p3, _, _, rfl, (s2a.trans s3').ti h1, h3, by show (PM.cut _).length ≤ _; omega, ?_, fun H4 p4 s4' h4 => ?_⟩
      · unfold PM.shiftedL
        rw [if_neg (by simp), PM.sh_len]
        simp only [List.length_cons, List.length_nil]
        omega
      have sA : Same H' H4 := (s2'.trans s3').trans s4'
      -- rest
      refine ⟨_, rfl, _, rfl, pr, t.2.2, PM.lead ms, rfl, sA.ti hr2, by omega, fun i => mulk_bd (st.br i) b2.lead (by omega), fun H5 p5 s5' h5 => ?_⟩
      refine ⟨_, rfl, _, rfl, b, ms, PM.lead t.2.2, rfl, s5'.ti (sA.ti (sm.ti hB)), by omega, fun i => mulk_bd (b2 i) st.br.lead (by omega), fun H6 p6 s6' h6 => ?_⟩
      have cl2 := PM.cut_len (PM.sc t.2.2 (PM.lead ms))
      rw [PM.sc_len] at cl2
      have cl3 := PM.cut_len (PM.sc ms (PM.lead t.2.2))
      rw [PM.sc_len] at cl3
      refine ⟨_, rfl, p6, _, t.2.2.length - ms.length, rfl, h6, by show (PM.cut _).length ≤ _; omega, by omega, fun H7 p7 s7' h7 => ?_⟩
      refine ⟨p5, p7, _, _, rfl, (s6'.trans s7').ti h5, h7, by show (PM.cut _).length ≤ _; omega, ?_, fun H8 p8 s8' h8 => ?_⟩
      · unfold PM.shiftedL
        split
        · simp
        · rw [PM.sh_len]
          show _ + (PM.cut _).length ≤ _
          omega
      have sB : Same H4 H8 := ((s5'.trans s6').trans s7').trans s8'
      -- factor
      refine ⟨_, rfl, _, rfl, _, _, rfl, rfl, mulk_bd st.bf b2.lead (by omega), ?_⟩
      have en := PM.pnext_eq (f := t.1) (q := t.2.1) st.inv.tr t2 nr hb
      have e8 : PM.pnext ms t = (t.1 * PM.lead ms, PM.sumL (PM.scaledL t.2.1 (PM.lead ms)) (PM.shiftedL [PM.lead t.2.2] (t.2.2.length - ms.length)), PM.lessL (PM.scaledL t.2.2 (PM.lead ms)) (PM.shiftedL (PM.scaledL ms (PM.lead t.2.2)) (t.2.2.length - ms.length))) := en
      have st' := st.next hb b2 hl
      refine ⟨_, ?_, PM.pnext ms t, j + 1, p4, p8, some (.int ((t.2.2.length - ms.length : Nat) : Int)), some (.int (PM.lead t.2.2)), rfl, ?_, (sm.trans sA).trans sB, ?_, ?_, st'⟩
      · exact PM.pstep_len hb (by omega)
      · rw [e8]
        rfl
      · rw [e8]
        exact sB.ti h4
      · rw [e8]
        exact h8
abbrev scommon : Stmt := topS 35
abbrev ncommon : List Str := ["one", "other"]
theorem sccommon : FnScope ncommon ["one", "other"] (defScope scommon) := ⟨rfl, rfl, rfl, by decide +kernel, rfl, by decide +kernel, by decide +kernel⟩
def sp_common (K : PySem.W.Frag) : Sp := fun vs H Q _ => ∃ a b ns ms, vs = [.ref a, .ref b] ∧ TpI K H a ns ∧ TpI K H b ms ∧ ns.length ≤ 10000 ∧ ms.length ≤ 10000 ∧ PM.Tr ns ∧ PM.Tr ms ∧ PM.PrOk ns ∧ PM.PrOk ms ∧ (∃ k, PM.CoOk k (PM.prim ns) (PM.prim ms)) ∧
  ∀ H' p, Same H H' → TpI K H' p (PM.common ns ms) → Q (.ref p) H'
theorem ok_common (T : Bl mg) (C_primitive : Cl P w K mg base 3 "primitive" ["poly"] (sp_primitive K)) (C_parted : Cl P w K mg base 4 "parted" ["one", "other"] (sp_parted K)) (D : Df K mg "common" scommon) : Cl P w K mg base 5 "common" ["one", "other"] (sp_common K) := by
  refine cl_of0 (N := ncommon) D sccommon (fun vs H Q E h => ?_) (fun _ _ _ _ _ _ us hl => match us, hl with | [_, _], _ => rfl) fun f cdv A outer s H vs Q E hr h => ?_
  · obtain ⟨a, b, ns, ms, rfl, _⟩ := h
    rfl
  · obtain ⟨a, b, ns, ms, rfl, hA, hB, l1, l2, t1, t2, o1, o2, ⟨k0, ck⟩, q⟩ := h
    refine ⟨_, (pss_cons (ps_par (i := 0) (j := 1) (by rfl) sccommon.nd rfl rfl (by decide) rfl rfl (pa_cons (pe_f C_primitive hr (pa_cons (pv 0) pa_nil)) (pa_cons (pe_f C_primitive hr (pa_cons (pv 1) pa_nil)) pa_nil)) (by rfl))
  (pss_cons (ps_while PassesOwn.never (pt_cmpR (op_neD hr.units) (pv 1) (pe_tup pa_nil) (nomark _)) (pss_one (ps_par (i := 0) (j := 1) (by rfl) sccommon.nd rfl rfl (by decide) rfl rfl (pa_cons (pv 1) (pa_cons (pe_f C_primitive hr (pa_cons (pe_ix ix_tup (pe_f C_parted hr (pa_cons (pv 0) (pa_cons (pv 1) pa_nil))) pe_int (fun _ _ => rfl)) pa_nil)) pa_nil)) (by rfl))))
  (pss_one (ps_ret (pv 0))))), ?_⟩
    refine ⟨_, rfl, a, ns, rfl, hA, by omega, t1, o1, fun H1 p1 s1 h1 => ?_⟩
    refine ⟨_, rfl, b, ms, rfl, s1.ti hB, by omega, t2, o2, fun H2 p2 s2 h2 => ?_⟩
    refine ⟨_, _, rfl, ?_⟩
    refine while_go (fun z σ H' => ∃ (x y : List Int) (pa pb : Addr) (k : Nat), z = y.length ∧ σ = [some (.ref pa), some (.ref pb)] ∧ Same H H' ∧ TpI K H' pa x ∧ TpI K H' pb y ∧ PM.Tr x ∧ PM.Tr y ∧ x.length ≤ 10000 ∧ y.length ≤ 10000 ∧ PM.CoOk k x y ∧ PM.com x y = PM.common ns ms)
      (PM.prim ms).length ⟨PM.prim ns, PM.prim ms, p1, p2, k0, rfl, rfl, s1.trans s2, s2.ti h1, h2, PM.prim_tr t1, PM.prim_tr t2, by rw [PM.prim_len]; exact l1, by rw [PM.prim_len]; exact l2, ck, rfl⟩ ?_
    rintro z σ H' ⟨x, y, pa, pb, k, rfl, rfl, sm, hx, hy, tx, ty, lx, ly, co, ec⟩
    refine ⟨_, rfl, by show 0 ≤ sizeLine; decide, fun p np => ?_⟩
    have s3 := same_upd (o := .tup []) np
    refine ⟨_, _, dp_tup (s3.ti hy), dp_tup (ns := []) ti_nil, shaped_tup _, shaped_tup [], _, rfl, ?_⟩
    rw [eqv_tup]
    by_cases hn : y = []
    · rw [decide_eq_true hn]
      refine iteF ⟨_, rfl, q _ pa (sm.trans s3) ?_⟩
      rw [← ec, hn]
      exact s3.ti hx
    · rw [decide_eq_false hn]
      refine iteT ⟨_, fun _ _ h => h, ?_⟩
      cases k with
      | zero => exact absurd co hn
      | succ k =>
        rcases co with co | ⟨c1, c2, c3⟩
        · exact absurd co hn
        have ml := PM.pmod_len tx hn
        refine ⟨_, rfl, _, rfl, _, rfl, pa, pb, x, y, rfl, s3.ti hx, s3.ti hy, lx, ly, tx, ty, hn, c1, fun H4 p4 s4 h4 => ?_⟩
        obtain ⟨pq, pr, h5, h6, h7⟩ := h4
        refine ⟨p4, _, 2, _, rfl, rfl, h5, rfl, pr, _, rfl, h7, by show (PM.pmod x y).length ≤ _; omega, PM.pmod_tr tx hn, c2, fun H8 p8 s8 h8 => ?_⟩
        have sA := (s3.trans s4).trans s8
        refine ⟨_, _, rfl, ?_⟩
        refine ⟨_, ?_, y, PM.prim (PM.pmod x y), pb, p8, k, rfl, rfl, sm.trans sA, sA.ti hy, h8, ty, PM.prim_tr (PM.pmod_tr tx hn), ly, by rw [PM.prim_len]; omega, c3, ?_⟩
        · rw [PM.prim_len]
          exact ml
        · rw [← PM.com_next tx ty hn]
          exact ec
end
end AT

set_option Elab.async false
set_option linter.all false
set_option maxRecDepth 100000
set_option maxHeartbeats 4000000
namespace AT
open PySem PySem.Spec PyProof.Rows L2
section
variable {P : Program} {w : World} {K : PySem.W.Frag} {mg : Str → Option Value} {base : Heap}
theorem pen_put {H H' : Hp} {p : Addr} {C : Addr × List Int} {n m t t' : Nat} {r r' : Int} (h : PenAt K H p n C.1 C.2 t r) (e : SameX p H H') (h' : H' p = some (.lst [.ref C.1, .int (t' : Int), .int r'])) (l : t' ≤ m) : Pen K H' p C m :=
  ⟨t', r', h', e.seq h.2.2.1 h.2.1, h.2.2.1, l, h.2.2.2.2⟩
abbrev s_law_pen : Stmt := topS 40
abbrev n_law_pen : List Str := ["script", "cell"]
theorem sc_law_pen : FnScope n_law_pen ["script"] (defScope s_law_pen) := ⟨rfl, rfl, rfl, by decide +kernel, rfl, by decide +kernel, by decide +kernel⟩
def sp_pen (K : PySem.W.Frag) : Sp := fun vs H Q _ => ∃ a ns, vs = [.ref a] ∧ LsI K H a ns ∧ ns.length ≤ 63 ∧ ∀ H' p C, Same H H' → H p = none → Pen K H' p C 0 → Q (.ref p) H'
theorem ok_pen (T : Bl mg) (D : Df K mg "_law_pen" s_law_pen) : Cl P w K mg base 1 "_law_pen" ["script"] (sp_pen K) := by
  refine cl_of0 (N := n_law_pen) D sc_law_pen (fun vs H Q E h => ?_) (fun _ _ _ _ _ _ us hl => match us, hl with | [_], _ => rfl) fun f cdv A outer s H vs Q E hr h => ?_
  · obtain ⟨a, ns, rfl, _⟩ := h
    rfl
  · obtain ⟨a, ns, rfl, hS, hl, q⟩ := h
    refine ⟨_, (pss_one (ps_ret (pe_lst (pa_cons (pe_lc (own := [("cell", 1)]) (g := (gName 1)) (tt := tYes) rfl sc_law_pen.nd (pi_list (pe_slice sl_list (pv 0) po_none (po_some pe_int))) (blkOk_by (own := [("cell", 1)]) (N := n_law_pen) (sc := defScope s_law_pen) (by decide +kernel)) (fun _ _ _ _ _ => (pg_name (i := 1) sc_law_pen.nd rfl (.inl rfl))) (fun _ _ _ _ _ => pts_nil) (fun _ _ _ _ _ => (pe_callTy call_int1 (by rfl) T.z_int (by decide +kernel) (pa_cons (pv 1) pa_nil)))) (pa_cons pe_int (pa_cons pe_int pa_nil)))))), ?_⟩
    refine ⟨_, rfl, _, rfl, a, vInts ns, rfl, hS, fun c nc => ?_⟩
    have e1 : cutV (vInts ns) none (some 63) = vInts ns := by
      rw [show (63 : Int) = ((63 : Nat) : Int) from rfl, cut_all, List.take_of_length_le (by rw [List.length_map]; exact hl)]
    rw [e1]
    have s1 := same_upd (o := .lst (vInts ns)) nc
    refine ⟨c, rfl, ⟨_, .inl (.inl upd_same)⟩, fun D nD => ?_⟩
    have hc : LsI K (upd H c (.lst (vInts ns))) c ns := li_upd
    refine lcm (n := ns.length) (walkL (K := K) (a := c) (ns := ns)) (fun i => .int (PM.cf ns i)) (fun _ sm => sm.li hc) nD (fun _ => rfl) (smallL (by omega)) (fun i H4 R hi sm hR => ?_) (fun H4 sm hD => ?_)
    · exact ⟨_, rfl, .inl ⟨_, rfl, hR _ (Same.refl _)⟩⟩
    · rw [map_ints (ms := ns) rfl (fun i _ => rfl)] at hD
      refine ⟨by show 3 ≤ sizeLine; decide, fun p np => ?_⟩
      have sA := s1.trans sm
      have dp : D ≠ p := ne_of_none hD np
      exact q _ p (D, ns) (sA.new np) (sA.free np) ⟨0, 0, upd_same, SqL.of (by rw [upd_ne dp]; exact hD), dp, Nat.le_refl _, hl⟩
abbrev s_law_draw : Stmt := topS 41
abbrev n_law_draw : List Str := ["pen", "many", "rest", "turn", "cell", "mixed"]
theorem sc_law_draw : FnScope n_law_draw ["pen", "many"] (defScope s_law_draw) := ⟨rfl, rfl, rfl, by decide +kernel, rfl, by decide +kernel, by decide +kernel⟩
def sp_draw (K : PySem.W.Frag) : Sp := fun vs H Q _ => ∃ (p : Addr) (C : Addr × List Int) (n : Nat) (M : Int), vs = [.ref p, .int M] ∧ Pen K H p C n ∧ n ≤ 1000000 ∧ 0 < M ∧ M < 1073741824 ∧ ∀ v H', 0 ≤ v → v < M → SameX p H H' → Pen K H' p C (n + 1) → Q (.int v) H'
theorem ok_draw (T : Bl mg) (D : Df K mg "_law_draw" s_law_draw) : Cl P w K mg base 1 "_law_draw" ["pen", "many"] (sp_draw K) := by
  refine cl_of0 (N := n_law_draw) D sc_law_draw (fun vs H Q E h => ?_) (fun _ _ _ _ _ _ us hl => match us, hl with | [_, _], _ => rfl) fun f cdv A outer s H vs Q E hr h => ?_
  · obtain ⟨p, C, n, M, rfl, _⟩ := h
    rfl
  · obtain ⟨p, ⟨c, ns⟩, n, M, rfl, ⟨t, r, hp⟩, hn, h0, h1, q⟩ := h
    refine ⟨_, (pss_cons (ps_if (pt_cmpR op_gt (pe_ix ix_list (pv 0) pe_int (fun _ _ => rfl)) pe_int (nomark _)) (pss_cons (ps_set (i := 2) sc_law_draw.nd rfl (.inl rfl) (pe_callTy call_int1 (by rfl) T.z_int (by decide +kernel) (pa_cons (pe_ix ix_list (pv 0) pe_int (fun _ _ => rfl)) pa_nil)))
  (pss_cons (ps_asg (pe_op op_fdivP (pv 2) (pv 1)) (pg_sub (pv 0) pe_int set_list))
  (pss_one (ps_ret (pe_op op_mod (pe_callTy call_int1 (by rfl) T.z_int (by decide +kernel) (pa_cons (pv 2) pa_nil)) (pv 1)))))) pss_nil)
  (pss_cons (ps_set (i := 3) sc_law_draw.nd rfl (.inl rfl) (pe_ix ix_list (pv 0) pe_int (fun _ _ => rfl)))
  (pss_cons (ps_asg (pe_op op_add (pv 3) pe_int) (pg_sub (pv 0) pe_int set_list))
  (pss_cons (ps_set (i := 4) sc_law_draw.nd rfl (.inl rfl) (pe_op op_add (pe_op op_mulK pe_int (pv 3)) pe_int))
  (C8.pss_cut (ps_if (pt_cmpR (op_neD hr.units) (pe_ix ix_list (pv 0) pe_int (fun _ _ => rfl)) (pe_lst pa_nil) (nomark _)) (pss_one (ps_set (i := 4) sc_law_draw.nd rfl (.inl rfl) (pe_ix ix_list (pe_ix ix_list (pv 0) pe_int (fun _ _ => rfl)) (pe_op op_mod (pe_callTy call_int1 (by rfl) T.z_int (by decide +kernel) (pa_cons (pv 3) pa_nil)) (pe_callB call_len_seq (by rfl) T.z_len (by decide +kernel) (pa_cons (pe_ix ix_list (pv 0) pe_int (fun _ _ => rfl)) pa_nil))) (fun _ _ => rfl)))) pss_nil)
  (C8.pss_cut (ps_if (PW.pt (pw_and (pt_cmpR op_lt (pv 3) (pe_callB call_len_seq (by rfl) T.z_len (by decide +kernel) (pa_cons (pe_ix ix_list (pv 0) pe_int (fun _ _ => rfl)) pa_nil)) (nomark _)) (pw_and1 (pt_cmpR op_ge (pe_callB call_abs (by rfl) T.z_abs (by decide +kernel) (pa_cons (pv 4) pa_nil)) (pe_op op_pow pe_int pe_int) (nomark _))))) (pss_cons (ps_set (i := 2) sc_law_draw.nd rfl (.inl rfl) (pe_op op_add (pe_op op_mulK pe_int (pe_op op_sub (pe_callB call_abs (by rfl) T.z_abs (by decide +kernel) (pa_cons (pv 4) pa_nil)) (pe_op op_pow pe_int pe_int))) (pe_callTy call_int1 (by rfl) T.z_int (by decide +kernel) (pa_cons (pe_cmpR op_lt (pv 4) pe_int (nomark _)) pa_nil))))
  (pss_cons (ps_asg (pe_op op_fdivP (pe_callTy call_int1 (by rfl) T.z_int (by decide +kernel) (pa_cons (pv 2) pa_nil)) (pv 1)) (pg_sub (pv 0) pe_int set_list))
  (pss_one (ps_ret (pe_op op_mod (pe_callTy call_int1 (by rfl) T.z_int (by decide +kernel) (pa_cons (pv 2) pa_nil)) (pv 1)))))) pss_nil)
  (pss_cons (ps_set (i := 5) sc_law_draw.nd rfl (.inl rfl) (pe_op op_mod (pe_callTy call_int1 (by rfl) T.z_int (by decide +kernel) (pa_cons (pe_op op_pow (pe_op op_add (pe_op op_add (pe_op op_mod (pe_callTy call_int1 (by rfl) T.z_int (by decide +kernel) (pa_cons (pv 4) pa_nil)) pe_int) (pe_op op_mulK pe_int (pv 3))) pe_int) pe_int) pa_nil)) pe_int))
  (pss_cons (ps_set (i := 5) sc_law_draw.nd rfl (.inl rfl) (pe_op op_mod (pe_callTy call_int1 (by rfl) T.z_int (by decide +kernel) (pa_cons (pe_op op_pow (pe_op op_add (pe_op op_add (pe_op op_mulK (pv 5) (pe_op op_add (pe_op op_mulK pe_int (pv 3)) pe_int)) (pe_op op_mulK (pe_op op_mulK pe_int (pv 3)) (pv 3))) pe_int) pe_int) pa_nil)) pe_int))
  (pss_one (ps_ret (pe_op op_mod (pe_callTy call_int1 (by rfl) T.z_int (by decide +kernel) (pa_cons (pe_op op_fdivP (pv 5) pe_int) pa_nil)) (pv 1)))))))))))), ?_⟩
    obtain ⟨hp1, hp2, hp3, hp4, hp5⟩ := id hp
    have fin : ∀ (z : Int) (H' : Hp) (t' : Nat) (r' : Int), SameX p H H' → H' p = some (.lst [.ref c, .int (t' : Int), .int r']) → t' ≤ n + 1 → Q (.int (z % M)) H' := fun z H' t' r' sx e l => q _ H' (Int.emod_nonneg _ (by omega)) (Int.emod_lt_of_pos _ h0) sx (pen_put hp sx e l)
    refine ⟨_, rfl, p, _, 2, .int r, rfl, rfl, SqL.of hp1, rfl, _, _, rfl, rfl, _, rfl, ?_⟩
    by_cases hr0 : 0 < r
    · rw [decide_eq_true hr0]
      refine iteT ⟨_, rfl, p, _, 2, .int r, rfl, rfl, SqL.of hp1, rfl, .inl ⟨r, rfl, ?_⟩⟩
      refine ⟨_, rfl, _, rfl, r, M, rfl, rfl, cdiv_small h0 h1, _, rfl, p, _, 2, 2, rfl, rfl, hp1, rfl, ?_⟩
      exact ⟨_, rfl, .inl ⟨_, rfl, _, rfl, _, _, rfl, rfl, h0, fin r _ t (r / M) (sameX_upd (SameX.refl p H)) upd_same (by omega)⟩⟩
    rw [decide_eq_false hr0]
    refine iteF ?_
    refine ⟨_, rfl, p, _, 1, .int (t : Int), rfl, rfl, SqL.of hp1, rfl, ?_⟩
    refine ⟨_, rfl, _, _, rfl, rfl, _, rfl, p, _, 1, 1, rfl, rfl, hp1, rfl, ?_⟩
    have sx1 : SameX p H (upd H p (.lst [.ref c, .int ((t + 1 : Nat) : Int), .int r])) := sameX_upd (SameX.refl p H)
    refine ⟨_, rfl, _, _, rfl, rfl, mulk_l (by decide) (by decide), _, _, rfl, rfl, ?_⟩
    refine ⟨fun σ H' => ∃ z, σ = [some (.ref p), some (.int M), none, some (.int (t : Int)), some (.int z), none] ∧ SameX p H H' ∧ H' p = some (.lst [.ref c, .int ((t + 1 : Nat) : Int), .int r]) ∧ LsI K H' c ns, ?_, ?_⟩
    · refine ⟨_, rfl, p, _, 0, .ref c, rfl, rfl, SqL.of upd_same, rfl, by show 0 ≤ sizeLine; decide, fun l nl => ?_⟩
      have hc2 : LsI K (upd H p (.lst [.ref c, .int ((t + 1 : Nat) : Int), .int r])) c ns := sx1.seq hp3 hp2
      have s2 := same_upd (o := .lst []) nl
      have sx2 := sx1.new (o := .lst []) nl
      have hpp := s2 p _ (upd_same (H := H) (o := .lst [.ref c, .int ((t + 1 : Nat) : Int), .int r]))
      refine ⟨_, _, dp_lst (s2.li hc2), dp_lst (ns := []) (.inl (.inl upd_same)), shaped_lst _, shaped_lst [], _, rfl, ?_⟩
      rw [eqv_lst]
      by_cases hn : ns = []
      · rw [decide_eq_true hn]
        exact iteF ⟨_, rfl, sx2, hpp, s2.li hc2⟩
      · rw [decide_eq_false hn]
        have hpos : 0 < ns.length := List.length_pos_iff.mpr hn
        have em : (t : Int) % ((vInts ns).length : Int) = ((t % ns.length : Nat) : Int) := by rw [List.length_map]; rfl
        exact iteT ⟨_, rfl, p, _, 0, .ref c, rfl, rfl, SqL.of hpp, rfl, _, rfl, .inl ⟨_, rfl, _, rfl, p, _, 0, .ref c, rfl, rfl, SqL.of hpp, rfl, c, vInts ns, rfl, .inl (s2.li hc2), _, _, rfl, rfl, by rw [List.length_map]; omega, c, vInts ns, _, _, rfl, rfl, s2.li hc2, vInts_at' em (Nat.mod_lt _ hpos), _, rfl, sx2, hpp, s2.li hc2⟩⟩
    · rintro σ H' ⟨z, rfl, sx, hpp, hc⟩
      refine ⟨fun σ H1 => σ = [some (.ref p), some (.int M), none, some (.int (t : Int)), some (.int z), none] ∧ H1 = H', ?_, ?_⟩
      · refine ⟨_, rfl, _, rfl, p, _, 0, .ref c, rfl, rfl, SqL.of hpp, rfl, c, vInts ns, rfl, .inl hc, _, _, rfl, rfl, _, rfl, ?_⟩
        by_cases h3 : (t : Int) < ((vInts ns).length : Int)
        · rw [decide_eq_true h3]
          refine iteT ⟨_, rfl, z, rfl, _, _, rfl, rfl, ⟨by decide, by decide, by decide⟩, _, _, rfl, rfl, _, rfl, ?_⟩
          by_cases h4 : (10 : Int) ^ (18 : Int).toNat ≤ (if z < 0 then -z else z)
          · rw [decide_eq_true h4]
            refine iteT ⟨_, rfl, z, rfl, _, _, rfl, rfl, ⟨by decide, by decide, by decide⟩, _, _, rfl, rfl, _, _, rfl, rfl, mulk_l (by decide) (by decide), _, rfl, _, _, rfl, rfl, .inr ⟨_, rfl, _, _, rfl, rfl, ?_⟩⟩
            refine ⟨_, rfl, .inl ⟨_, rfl, _, rfl, _, M, rfl, rfl, cdiv_small h0 h1, _, rfl, p, _, 2, 2, rfl, rfl, hpp, rfl, ?_⟩⟩
            exact ⟨_, rfl, .inl ⟨_, rfl, _, rfl, _, _, rfl, rfl, h0, fin _ _ (t + 1) _ (sameX_upd sx) upd_same (by omega)⟩⟩
          · rw [decide_eq_false h4]
            exact iteF ⟨rfl, rfl⟩
        · rw [decide_eq_false h3]
          exact iteF ⟨rfl, rfl⟩
      · rintro σ H1 ⟨rfl, rfl⟩
        have b1 := Int.emod_nonneg z (show (2147483549 : Int) ≠ 0 by decide)
        have b2 := Int.emod_lt_of_pos z (show (0 : Int) < 2147483549 by decide)
        have e : (2 : Nat) ^ 64 = 18446744073709551616 := by decide
        refine ⟨_, rfl, .inl ⟨_, rfl, _, _, rfl, rfl, show (0 : Int) < 2147483549 by decide, _, rfl, _, _, rfl, rfl, mulk_l (by decide) (by decide), _, _, rfl, rfl, _, _, rfl, rfl, _, _, rfl, rfl, ⟨by decide, by decide, by omega⟩, .inl ⟨_, rfl, _, _, rfl, rfl, show (0 : Int) < 2147483629 by decide, ?_⟩⟩⟩
        have b3 : 0 ≤ ((z % 2147483549 + 95203 * (t : Int) + 13127) ^ (5 : Int).toNat % 2147483629) := Int.emod_nonneg _ (by decide)
        have b4 : ((z % 2147483549 + 95203 * (t : Int) + 13127) ^ (5 : Int).toNat % 2147483629) < 2147483629 := Int.emod_lt_of_pos _ (by decide)
        have t0 : (0 : Int) ≤ (t : Int) := Int.natCast_nonneg t
        have t1 : (t : Int) ≤ 1000000 := by omega
        have g1 : ((z % 2147483549 + 95203 * (t : Int) + 13127) ^ (5 : Int).toNat % 2147483629) * (2 * (t : Int) + 7193) ≤ 2147483629 * 2007193 := Int.mul_le_mul (by omega) (by omega) (by omega) (by decide)
        have g0 : 0 ≤ ((z % 2147483549 + 95203 * (t : Int) + 13127) ^ (5 : Int).toNat % 2147483629) * (2 * (t : Int) + 7193) := Int.mul_nonneg b3 (by omega)
        have g2 : 38011 * (t : Int) * (t : Int) ≤ 38011000000 * 1000000 := Int.mul_le_mul (by omega) t1 t0 (by decide)
        have g3 : 0 ≤ 38011 * (t : Int) * (t : Int) := Int.mul_nonneg (by omega) t0
        refine ⟨_, rfl, _, rfl, _, _, rfl, rfl, mulk_l (by decide) (by decide), _, _, rfl, rfl, _, _, rfl, rfl, mulk_l (by omega) (by omega), _, rfl, _, _, rfl, rfl, mulk_l (by decide) (by decide), _, rfl, _, _, rfl, rfl, mulk_r (by omega) (by omega), _, _, rfl, rfl, _, _, rfl, rfl, _, _, rfl, rfl, ⟨by decide, by decide, by omega⟩, .inl ⟨_, rfl, _, _, rfl, rfl, show (0 : Int) < 2147483587 by decide, ?_⟩⟩
        exact ⟨_, rfl, _, _, rfl, rfl, cdiv_small (by decide) (by decide), .inl ⟨_, rfl, _, rfl, _, _, rfl, rfl, h0, fin _ _ (t + 1) r sx hpp (by omega)⟩⟩
abbrev s_law_pick : Stmt := topS 42
abbrev n_law_pick : List Str := ["pen", "some"]
theorem sc_law_pick : FnScope n_law_pick ["pen", "some"] (defScope s_law_pick) := ⟨rfl, rfl, rfl, by decide +kernel, rfl, by decide +kernel, by decide +kernel⟩
def sp_pick (K : PySem.W.Frag) : Sp := fun vs H Q _ => ∃ (p b : Addr) (C : Addr × List Int) (n : Nat) (xs : List V), vs = [.ref p, .ref b] ∧ Pen K H p C n ∧ n ≤ 1000000 ∧ SqL K H b xs ∧ b ≠ p ∧ xs ≠ [] ∧ xs.length ≤ 1000000 ∧ ∀ i H', i < xs.length → SameX p H H' → Pen K H' p C (n + 1) → Q (xs.getD i .non) H'
theorem ok_pick (T : Bl mg) (C__law_draw : Cl P w K mg base 1 "_law_draw" ["pen", "many"] (sp_draw K)) (D : Df K mg "_law_pick" s_law_pick) : Cl P w K mg base 2 "_law_pick" ["pen", "some"] (sp_pick K) := by
  refine cl_of0 (N := n_law_pick) D sc_law_pick (fun vs H Q E h => ?_) (fun _ _ _ _ _ _ us hl => match us, hl with | [_, _], _ => rfl) fun f cdv A outer s H vs Q E hr h => ?_
  · obtain ⟨p, b, C, n, xs, rfl, _⟩ := h
    rfl
  · obtain ⟨p, b, C, n, xs, rfl, hp, hn, hb, hbp, h0, hl, q⟩ := h
    refine ⟨_, (pss_one (ps_ret (pe_ix ix_list (pv 1) (pe_f C__law_draw hr (pa_cons (pv 0) (pa_cons (pe_callB call_len_seq (by rfl) T.z_len (by decide +kernel) (pa_cons (pv 1) pa_nil)) pa_nil))) (fun _ _ => rfl)))), ?_⟩
    have hpos : 0 < xs.length := List.length_pos_iff.mpr h0
    refine ⟨_, rfl, _, rfl, _, rfl, b, xs, rfl, .inl hb, p, C, n, _, rfl, hp, hn, by omega, by omega, fun v H' v0 v1 sx hp' => ?_⟩
    obtain ⟨i, rfl⟩ := Int.eq_ofNat_of_zero_le v0
    have hi : i < xs.length := by omega
    refine ⟨b, xs, _, xs.getD i .non, rfl, rfl, sx.seq hbp hb, atI_nat ?_, q i H' hi sx hp'⟩
    rw [List.getD_eq_getElem?_getD, List.getElem?_eq_getElem hi]
    rfl
abbrev s_law_gr_value : Stmt := topS 44
abbrev n_law_gr_value : List Str := ["poly", "point", "found", "one"]
theorem sc_law_gr_value : FnScope n_law_gr_value ["poly", "point"] (defScope s_law_gr_value) := ⟨rfl, rfl, rfl, by decide +kernel, rfl, by decide +kernel, by decide +kernel⟩
def sp_value (K : PySem.W.Frag) : Sp := fun vs H Q _ => ∃ (a : Addr) (ns : List Int) (x : Int), vs = [.ref a, .int x] ∧ TpI K H a ns ∧ ns.length ≤ 100000 ∧ -(2 ^ 64) < x ∧ x < 2 ^ 64 ∧ ∀ H', Same H H' → Q (.int (PM.ev ns x)) H'
theorem ok_value (T : Bl mg) (D : Df K mg "_law_gr_value" s_law_gr_value) : Cl P w K mg base 1 "_law_gr_value" ["poly", "point"] (sp_value K) := by
  refine cl_of0 (N := n_law_gr_value) D sc_law_gr_value (fun vs H Q E h => ?_) (fun _ _ _ _ _ _ us hl => match us, hl with | [_, _], _ => rfl) fun f cdv A outer s H vs Q E hr h => ?_
  · obtain ⟨a, ns, x, rfl, _⟩ := h
    rfl
  · obtain ⟨a, ns, x, rfl, hA, hl, x0, x1, q⟩ := h
    refine ⟨_, (pss_cons (ps_set (i := 2) sc_law_gr_value.nd rfl (.inl rfl) pe_int)
  (pss_cons (ps_for PassesOwn.never rfl (pi_tup (pe_sliceT3 (pv 0) po_none po_none (po_some (pe_un un_neg pe_int)))) (pg_name (i := 3) sc_law_gr_value.nd rfl (.inl rfl)) (pss_one (ps_set (i := 2) sc_law_gr_value.nd rfl (.inl rfl) (pe_op op_add (pe_op op_mulK (pv 2) (pv 1)) (pv 3)))))
  (pss_one (ps_ret (pv 2))))), ?_⟩
    refine ⟨_, rfl, 1, rfl, _, rfl, a, vInts ns, -1, rfl, hA, rfl, by decide, by decide, ?_⟩
    rw [stepV_rev, ← List.map_reverse]
    refine ⟨small (by rw [List.length_map, List.length_reverse]; omega), fun p np => ⟨p, rfl, ⟨_, .inl (.inl upd_same)⟩, ?_⟩⟩
    have s1 := same_upd (o := .tup (vInts ns.reverse)) np
    have hp : TpI K (upd H p (.tup (vInts ns.reverse))) p ns.reverse := ti_upd
    refine for_it (walkT (K := K) (a := p) (ns := ns.reverse)) (fun i σ H' => H' = upd H p (.tup (vInts ns.reverse)) ∧ ∃ v, σ = [some (.ref a), some (.int x), some (.int ((ns.reverse.take i).foldl (fun f c => f * x + c) 0)), v]) ⟨rfl, none, rfl⟩ (fun i σ H' _ h => by rw [h.1]; exact hp) (fun i x σ H1 H2 hi hP hY => ?_) (fun σ H' h => ?_)
    · obtain ⟨rfl, v, rfl⟩ := hP
      obtain ⟨rfl, rfl⟩ := hY
      refine ⟨_, rfl, _, rfl, _, _, rfl, rfl, mulk_r x0 x1, _, rfl, _, _, rfl, rfl, rfl, some (.int (PM.cf ns.reverse i)), ?_⟩
      rw [take_cf hi, List.foldl_append]
      rfl
    · obtain ⟨rfl, v, rfl⟩ := h
      rw [List.take_length]
      have := PM.horner_ev ns x
      unfold PM.horner at this
      rw [this]
      exact ⟨_, rfl, q _ s1⟩
/-- comprehensions that change what is there -/
theorem lcmX {J : It} {n : Nat} {G : Hp → Prop} {v : Nat → V} (w : Walk J n G (YFn v)) {k : Nat} {te : TE} {vs : List Nat} {σ : L2.St} {H1 : Hp} {D : Addr} {Qd : Hp → Prop} (Pv : Nat → List V → Hp → Prop) (hG : ∀ i acc H, Pv i acc H → G H)
    (h0 : Pv 0 [] (upd H1 D (.lst []))) (hw : ∀ x, wipe ((wipe σ vs).set k (some x)) vs = wipe σ vs) (hn : n < sizeLine)
    (hs : ∀ i acc H (Q : VK), i < n → acc.length = i → H D = some (.lst acc) → Pv i acc H → (∀ y H4, H4 D = some (.lst acc) → Pv (i + 1) (acc ++ [y]) (upd H4 D (.lst (acc ++ [y]))) → Q y H4) → te ((wipe σ vs).set k (some (v i))) H Q)
    (hd : ∀ acc H, acc.length = n → H D = some (.lst acc) → Pv n acc H → Qd H) :
    ∃ W : Nat → Nat → Hp → Prop, (∃ m, W 0 m (upd H1 D (.lst []))) ∧ ∀ i m H, W i m H →
      (J.stop i H ∧ Qd H) ∨ (J.go i H ∧ ∃ Nx : Hp → Prop, (∀ H', Nx H' → ∃ m', m' < m ∧ W (i + 1) m' H') ∧ ∀ x H', J.yld i H x H' → gName k x (wipe σ vs) H' fun σ2 H2 => wipe σ2 vs = wipe σ vs ∧ tYes σ2 H2 fun b H3 =>
        if b = true then te σ2 H3 fun y H4 => ∃ acc, H4 D = some (.lst acc) ∧ acc.length < sizeLine ∧ Nx (upd H4 D (.lst (acc ++ [y]))) else Nx H3) := by
  refine ⟨fun i m H => m = n - i ∧ i ≤ n ∧ ∃ acc, H D = some (.lst acc) ∧ acc.length = i ∧ Pv i acc H, ⟨n, by simp, Nat.zero_le _, [], upd_same, rfl, h0⟩, ?_⟩
  rintro i m H ⟨rfl, hi, acc, hD, hl, hP⟩
  have q := hG i acc H hP
  by_cases hlt : i < n
  · refine .inr ⟨w.goes i H hlt q, fun H' => ∃ acc, H' D = some (.lst acc) ∧ acc.length = i + 1 ∧ Pv (i + 1) acc H', fun H' p' => ⟨n - (i + 1), by omega, rfl, hlt, p'⟩, fun x H' y => ?_⟩
    obtain ⟨e1, e2⟩ := w.yields i H x H' hlt q y
    subst e1 e2
    refine ⟨hw _, ?_⟩
    dsimp only [tYes]
    rw [if_pos rfl]
    exact hs i acc H' _ hlt hl hD hP fun y H4 h1 h2 => ⟨acc, h1, by omega, acc ++ [y], upd_same, by simp [hl], h2⟩
  · have e : i = n := by omega
    subst e
    exact .inl ⟨w.stops H q, hd acc H hl hD hP⟩
/-- what the law draws as a polynomial -/
structure PolyG (m : Nat) (ns : List Int) : Prop where
  tr : PM.Tr ns
  len : ns.length ≤ m
  bd : PM.Bd 40 ns
  lead : (PM.lead ns).natAbs ≤ 35
def sp_gr_poly (K : PySem.W.Frag) : Sp := fun vs H Q _ => ∃ (p : Addr) (C : Addr × List Int) (m n : Nat), vs = [.ref p, .int (m : Int)] ∧ Pen K H p C n ∧ n ≤ 900000 ∧ m ≤ 6 ∧ ∀ H' a ns, SameX p H H' → Pen K H' p C (n + 20) → TpI K H' a ns → PolyG m ns → Q (.ref a) H'
abbrev s_law_gr_poly : Stmt := topS 45
abbrev n_law_gr_poly : List Str := ["pen", "most", "some", "turn"]
theorem sc_law_gr_poly : FnScope n_law_gr_poly ["pen", "most"] (defScope s_law_gr_poly) := ⟨rfl, rfl, rfl, by decide +kernel, rfl, by decide +kernel, by decide +kernel⟩
theorem ok_gr_poly (T : Bl mg) (C__law_draw : Cl P w K mg base 1 "_law_draw" ["pen", "many"] (sp_draw K)) (C__law_pick : Cl P w K mg base 2 "_law_pick" ["pen", "some"] (sp_pick K)) (D : Df K mg "_law_gr_poly" s_law_gr_poly) : Cl P w K mg base 3 "_law_gr_poly" ["pen", "most"] (sp_gr_poly K) := by
  refine cl_of0 (N := n_law_gr_poly) D sc_law_gr_poly (fun vs H Q E h => ?_) (fun _ _ _ _ _ _ us hl => match us, hl with | [_, _], _ => rfl) fun f cdv A outer s H vs Q E hr h => ?_
  · obtain ⟨p, C, m, n, rfl, _⟩ := h
    rfl
  · obtain ⟨p, C, m, n, rfl, hp, hn, hm, q⟩ := h
    refine ⟨_, (pss_cons (ps_setLc (i := 2) (own := [("turn", 3)]) (g := (gName 3)) (tt := tYes) rfl sc_law_gr_poly.nd rfl rfl (sw_true rfl rfl rfl (by decide +kernel)) (pi_range1 (by rfl) T.z_range (pa_cons (pe_f C__law_draw hr (pa_cons (pv 0) (pa_cons (pe_op op_add (pv 1) pe_int) pa_nil))) pa_nil)) (blkOk_by (own := [("turn", 3)]) (N := n_law_gr_poly) (sc := defScope s_law_gr_poly) (by decide +kernel)) (fun _ _ _ _ _ => (pg_name (i := 3) sc_law_gr_poly.nd rfl (.inl rfl))) (fun _ _ _ _ _ => pts_nil) (fun _ _ _ _ _ => (pe_f C__law_pick hr (pa_cons (pv 0) (pa_cons (pe_lst (pa_cons pe_int (pa_cons pe_int (pa_cons (pe_un un_neg pe_int) (pa_cons pe_int (pa_cons (pe_un un_neg pe_int) (pa_cons pe_int (pa_cons pe_int (pa_cons (pe_un un_neg pe_int) (pa_cons (pe_op op_add (pe_op op_pow pe_int pe_int) (pe_f C__law_draw hr (pa_cons (pv 0) (pa_cons pe_int pa_nil)))) pa_nil)))))))))) pa_nil)))))
  (pss_one (ps_ret (pe_ifExp (pt_cmpR (op_neD hr.units) (pv 2) (pe_lst pa_nil) (nomark _)) (pe_callTy call_tuple_of (by rfl) T.z_tuple (by decide +kernel) (pa_cons (pe_op op_cat (pe_slice sl_list (pv 2) po_none (po_some (pe_un un_neg pe_int))) (pe_lst (pa_cons (pe_f C__law_pick hr (pa_cons (pv 0) (pa_cons (pe_lst (pa_cons pe_int (pa_cons (pe_un un_neg pe_int) (pa_cons pe_int (pa_cons (pe_un un_neg pe_int) (pa_cons pe_int pa_nil)))))) pa_nil))) pa_nil))) pa_nil)) (pe_tup pa_nil))))), ?_⟩
    refine ⟨_, rfl, _, rfl, _, _, rfl, rfl, p, C, n, _, rfl, hp, by omega, by omega, by omega, fun v H1 v0 v1 sx1 hp1 => ?_⟩
    obtain ⟨l, rfl⟩ := Int.eq_ofNat_of_zero_le v0
    have hlm : l ≤ m := by omega
    refine ⟨_, rfl, by omega, by omega, fun D nD => ?_⟩
    have hDp := hp1.ne nD
    have hDn := sx1.none hDp nD
    refine lcmX (n := l) (walk_range (lo := 0)) (fun i acc H' => SameX p H H' ∧ Pen K H' p C (n + 1 + 2 * i) ∧ ∃ ns : List Int, acc = vInts ns ∧ ∀ c ∈ ns, c.natAbs < 2 ^ 40) (fun _ _ _ _ => trivial) ⟨sx1.new nD, hp1.same (same_upd nD), [], rfl, by simp⟩ (fun _ => rfl) (smallL (by omega)) (fun i acc H2 R hi hl hD hP hR => ?_) (fun acc H2 hl hD hP => ?_)
    · obtain ⟨sx2, hp2, ns, rfl, hb⟩ := hP
      refine ⟨_, rfl, 1, rfl, 3, rfl, 7, rfl, _, _, rfl, rfl, ⟨by decide, by decide, by decide⟩, _, rfl, p, C, n + 1 + 2 * i, 9, rfl, hp2, by omega, by decide, by decide, fun v H3 v0 v1 sx3 hp3 => ?_⟩
      refine ⟨_, _, rfl, rfl, by show 9 ≤ sizeLine; decide, fun lp nl => ?_⟩
      have e1 : (10 : Int) ^ (12 : Int).toNat = 1000000000000 := by decide
      rw [e1]
      have s4 := same_upd (o := .lst (vInts [0, 1, -1, 2, -3, 5, 12, -7, 1000000000000 + v])) nl
      refine ⟨p, lp, C, n + 1 + 2 * i + 1, vInts [0, 1, -1, 2, -3, 5, 12, -7, 1000000000000 + v], rfl, hp3.same s4, by omega, SqL.of upd_same, hp3.ne nl, by simp [vInts], by show 9 ≤ 1000000; decide, fun j H5 hj sx5 hp5 => ?_⟩
      have e2 : (vInts [0, 1, -1, 2, -3, 5, 12, -7, 1000000000000 + v]).getD j .non = .int (PM.cf [0, 1, -1, 2, -3, 5, 12, -7, 1000000000000 + v] j) := by
        rw [List.getD_eq_getElem?_getD, vInts_get (by simpa [vInts] using hj)]
        rfl
      have hbd : PM.Bd 40 [0, 1, -1, 2, -3, 5, 12, -7, 1000000000000 + v] := PM.Bd.of fun c hc => by
        have e40 : (2 : Nat) ^ 40 = 1099511627776 := by decide
        simp only [List.mem_cons, List.not_mem_nil, or_false] at hc
        omega
      rw [e2]
      have sx6 : SameX p H2 H5 := (sx3.trans (s4.x p)).trans sx5
      refine hR _ H5 (sx6 D _ hDp hD) ⟨(sx2.trans sx6).mut hDn, hp1.mut nD (hp5.mono (by omega)), ns ++ [PM.cf [0, 1, -1, 2, -3, 5, 12, -7, 1000000000000 + v] j], by simp [vInts], fun c hc => ?_⟩
      rcases List.mem_append.mp hc with hc | hc
      · exact hb c hc
      · rw [List.mem_singleton.mp hc]
        exact hbd j
    · obtain ⟨sx2, hp2, ns, rfl, hb⟩ := hP
      rw [List.length_map] at hl
      refine ⟨_, rfl, by show 0 ≤ sizeLine; decide, fun l2 nl2 => ?_⟩
      have s3 := same_upd (o := .lst []) nl2
      have hD3 := s3 _ _ hD
      refine ⟨_, _, dp_lst (ns := ns) (SqL.of hD3), dp_lst (ns := []) (.inl (.inl upd_same)), shaped_lst _, shaped_lst [], _, rfl, ?_⟩
      rw [eqv_lst]
      have sx3 := sx2.trans (s3.x p)
      have hp3 := hp2.same s3
      by_cases hn0 : ns = []
      · rw [decide_eq_true hn0]
        refine iteF ⟨by show 0 ≤ sizeLine; decide, fun a na => ?_⟩
        exact q _ a [] (sx3.new na) ((hp3.same (same_upd na)).mono (by omega)) ti_nil ⟨PM.tr_nil, by simp, PM.Bd.nil _, by decide⟩
      · rw [decide_eq_false hn0]
        have ecut : cutV (vInts ns) none (some (-1)) = vInts ns.dropLast := by
          unfold cutV
          rw [HT.sIx_none]
          have e : HT.sIx (vInts ns).length (vInts ns).length (some (-1)) = ns.length - 1 := by
            show (if (-1 : Int) < 0 then ((-1 : Int) + ((vInts ns).length : Int)).toNat else min (-1 : Int).toNat (vInts ns).length) = _
            rw [if_pos (by decide), List.length_map]
            omega
          rw [e, List.drop_zero, Nat.sub_zero, ← List.map_take, List.dropLast_eq_take]
        refine iteT ⟨_, rfl, 1, rfl, _, rfl, D, _, rfl, SqL.of hD3, fun l4 nl4 => ?_⟩
        rw [ecut]
        have s4 := same_upd (o := .lst (vInts ns.dropLast)) nl4
        have hp4 := hp3.same s4
        refine ⟨_, rfl, 1, rfl, 6, rfl, by show 5 ≤ sizeLine; decide, fun l5 nl5 => ?_⟩
        have s5 := same_upd (o := .lst (vInts [1, -1, 2, -6, 35])) nl5
        refine ⟨p, l5, C, n + 1 + 2 * l, vInts [1, -1, 2, -6, 35], rfl, hp4.same s5, by omega, SqL.of upd_same, hp4.ne nl5, by simp [vInts], by show 5 ≤ 1000000; decide, fun j H6 hj sx6 hp6 => ?_⟩
        have hj5 : j < 5 := by simpa [vInts] using hj
        have e2 : (vInts [1, -1, 2, -6, 35]).getD j .non = .int (PM.cf [1, -1, 2, -6, 35] j) := by
          rw [List.getD_eq_getElem?_getD, vInts_get (by simpa [vInts] using hj)]
          rfl
        have el : PM.cf [1, -1, 2, -6, 35] j ≠ 0 ∧ (PM.cf [1, -1, 2, -6, 35] j).natAbs ≤ 35 := by
          match j, hj5 with
          | 0, _ => decide
          | 1, _ => decide
          | 2, _ => decide
          | 3, _ => decide
          | 4, _ => decide
        rw [e2]
        generalize PM.cf [1, -1, 2, -6, 35] j = lc at el
        have h4p : l4 ≠ p := hp3.ne nl4
        have h4 : H6 l4 = some (.lst (vInts ns.dropLast)) := sx6 _ _ h4p (s5 _ _ upd_same)
        refine ⟨by show 1 ≤ sizeLine; decide, fun l6 nl6 => ?_⟩
        have s7 := same_upd (o := .lst [.int lc]) nl6
        refine ⟨l4, l6, _, _, rfl, rfl, s7 _ _ h4, upd_same, small (by simp; omega), fun l7 nl7 => ⟨l7, _, rfl, .inl ⟨SqL.of upd_same, fun a na => ?_⟩⟩⟩
        have e3 : vInts ns.dropLast ++ [V.int lc] = vInts (ns.dropLast ++ [lc]) := by simp [vInts]
        rw [e3]
        have s8 := same_upd (o := .lst (vInts (ns.dropLast ++ [lc]))) nl7
        have sA := s7.trans s8
        rw [e3] at na
        have s9 := same_upd (o := .tup (vInts (ns.dropLast ++ [lc]))) na
        refine q _ a (ns.dropLast ++ [lc]) ((((sx3.trans ((s4.trans s5).x p)).trans sx6).trans (sA.x p)).new na) (((hp6.same sA).same s9).mono (by omega)) ti_upd ⟨?_, ?_, ?_, ?_⟩
        · unfold PM.Tr
          rw [List.getLast?_concat]
          exact fun z => el.1 (Option.some.inj z)
        · have := List.length_pos_iff.mpr hn0
          rw [List.length_append, List.length_dropLast, List.length_singleton]
          omega
        · refine PM.Bd.of fun c hc => ?_
          rcases List.mem_append.mp hc with hc | hc
          · exact hb c (List.dropLast_subset _ hc)
          · rw [List.mem_singleton.mp hc]
            exact Nat.lt_of_le_of_lt el.2 (by decide)
        · have h1 : PM.lead (ns.dropLast ++ [lc]) = lc := by
            have h2 := PM.last_get (p := ns.dropLast ++ [lc]) (by simp)
            rw [List.getLast?_concat] at h2
            exact (Option.some.inj h2).symm
          rw [h1]
          exact el.2
end
end AT

set_option Elab.async false
set_option linter.all false
set_option maxRecDepth 100000
set_option maxHeartbeats 4000000
namespace AT
open PySem PySem.Spec PyProof.Rows L2
section
variable {P : Program} {w : World} {K : PySem.W.Frag} {mg : Str → Option Value} {base : Heap}
abbrev s_law_gr_times : Stmt := topS 46
abbrev n_law_gr_times : List Str := ["one", "other", "found", "at", "mine", "spot", "its"]
theorem sc_law_gr_times : FnScope n_law_gr_times ["one", "other"] (defScope s_law_gr_times) := ⟨rfl, rfl, rfl, by decide +kernel, rfl, by decide +kernel, by decide +kernel⟩
def sp_gr_times (K : PySem.W.Frag) : Sp := fun vs H Q _ => ∃ a b ns ms, vs = [.ref a, .ref b] ∧ TpI K H a ns ∧ TpI K H b ms ∧ ns.length ≤ 10000 ∧ ms.length ≤ 10000 ∧ (∀ i j, IntMulOk (PM.cf ns i) (PM.cf ms j)) ∧ ∀ H' p, Same H H' → TpI K H' p (PM.grT ns ms) → Q (.ref p) H'
theorem ok_gr_times (T : Bl mg) (D : Df K mg "_law_gr_times" s_law_gr_times) : Cl P w K mg base 1 "_law_gr_times" ["one", "other"] (sp_gr_times K) := by
  refine cl_of0 (N := n_law_gr_times) D sc_law_gr_times (fun vs H Q E h => ?_) (fun _ _ _ _ _ _ us hl => match us, hl with | [_, _], _ => rfl) fun f cdv A outer s H vs Q E hr h => ?_
  · obtain ⟨a, b, ns, ms, rfl, _⟩ := h
    rfl
  · obtain ⟨a, b, ns, ms, rfl, hA, hB, l1, l2, hm, q⟩ := h
    refine ⟨_, (C8.pss_cut (ps_set (i := 2) sc_law_gr_times.nd rfl (.inl rfl) (pe_ifExp (PW.pt (pw_and (pt_cmpR (op_neD hr.units) (pv 0) (pe_tup pa_nil) (nomark _)) (pw_and1 (pt_cmpR (op_neD hr.units) (pv 1) (pe_tup pa_nil) (nomark _))))) (pe_op op_rep (pe_lst (pa_cons pe_int pa_nil)) (pe_op op_sub (pe_op op_add (pe_callB call_len_seq (by rfl) T.z_len (by decide +kernel) (pa_cons (pv 0) pa_nil)) (pe_callB call_len_seq (by rfl) T.z_len (by decide +kernel) (pa_cons (pv 1) pa_nil))) pe_int)) (pe_lst pa_nil)))
  (pss_cons (ps_for PassesOwn.never rfl (pi_enumT (by rfl) T.z_enumerate (pa_cons (pv 0) pa_nil)) (pg_tup rfl (pgs_cons (pg_name (i := 3) sc_law_gr_times.nd rfl (.inl rfl)) (pgs_cons (pg_name (i := 4) sc_law_gr_times.nd rfl (.inl rfl)) pgs_nil))) (pss_one (ps_for PassesOwn.never rfl (pi_enumT (by rfl) T.z_enumerate (pa_cons (pv 1) pa_nil)) (pg_tup rfl (pgs_cons (pg_name (i := 5) sc_law_gr_times.nd rfl (.inl rfl)) (pgs_cons (pg_name (i := 6) sc_law_gr_times.nd rfl (.inl rfl)) pgs_nil))) (pss_one (ps_asg (pe_op op_add (pe_ix ix_list (pv 2) (pe_op op_add (pv 3) (pv 5)) (fun _ _ => rfl)) (pe_op op_mulK (pv 4) (pv 6))) (pg_sub (pv 2) (pe_op op_add (pv 3) (pv 5)) set_list))))))
  (pss_one (ps_ret (pe_callTy call_tuple_of (by rfl) T.z_tuple (by decide +kernel) (pa_cons (pv 2) pa_nil)))))), ?_⟩
    let Mid : L2.St → Hp → Prop := fun σ H0 => ∃ fnd z, σ = [some (.ref a), some (.ref b), some (.ref fnd), none, none, none, none] ∧ Same H H0 ∧ H fnd = none ∧ H0 fnd = some (.lst (vInts (List.replicate z 0))) ∧ (if ns = [] ∨ ms = [] then z = 0 else z = ns.length + ms.length - 1)
    refine ⟨Mid, ?_, ?_⟩
    rotate_left
    · rintro σ H0 ⟨fnd, z, rfl, s4, nfH, hf0, hz⟩
      refine ⟨_, rfl, a, _, rfl, s4.ti hA, ?_⟩
      refine for_it (by have := walk_enumT (K := K) (a := a) (xs := vInts ns); rw [List.length_map] at this; exact this) (fun i σ H' => ∃ x3 x4 x5 x6 acc, σ = [some (.ref a), some (.ref b), some (.ref fnd), x3, x4, x5, x6] ∧ Same H H' ∧ H' fnd = some (.lst (vInts acc)) ∧ acc.length = z ∧ ∀ k, PM.cf acc k = PM.cf (PM.mul (ns.take i) ms) k)
        ⟨none, none, none, none, _, rfl, s4, hf0, by simp, fun k => by rw [cf_zeros]; rfl⟩ (fun i σ H' _ h => by obtain ⟨_, _, _, _, _, _, sm, _⟩ := h; exact sm.ti hA) (fun i x σ H1 H2 hi hP hY => ?_) (fun σ H' h => ?_)
      · obtain ⟨x3, x4, x5, x6, acc, rfl, sm, hf, ha, hc⟩ := hP
        obtain ⟨T1, y1, y2, rfl, nT, rfl, e1, e2⟩ := hY
        obtain rfl := (Option.some.inj e1).symm
        obtain rfl := (vInts_item e2).2
        have sm2 := sm.new (o := .tup [.int (i : Int), .int (PM.cf ns i)]) nT
        have nTf : fnd ≠ T1 := ne_of_none hf nT
        refine ⟨T1, _, rfl, .inl (.inl upd_same), rfl, _, _, rfl, _, _, rfl, rfl, ?_⟩
        refine ⟨_, rfl, b, _, rfl, sm2.ti hB, ?_⟩
        refine for_it (by have := walk_enumT (K := K) (a := b) (xs := vInts ms); rw [List.length_map] at this; exact this) (fun j σ H' => ∃ x5 x6 acc, σ = [some (.ref a), some (.ref b), some (.ref fnd), some (.int (i : Int)), some (.int (PM.cf ns i)), x5, x6] ∧ Same H H' ∧ H' fnd = some (.lst (vInts acc)) ∧ acc.length = z ∧ ∀ k, PM.cf acc k = rowG ns ms i j k)
          ⟨x5, x6, acc, rfl, sm2, by rw [upd_ne nTf]; exact hf, ha, fun k => by rw [rowG_zero]; exact hc k⟩ (fun j σ H' _ h => by obtain ⟨_, _, _, _, sm, _⟩ := h; exact sm.ti hB) (fun j x σ H3 H4 hj hP hY => ?_) (fun σ H' h => ?_)
        · obtain ⟨z5, z6, acc, rfl, sm3, hf, ha, hc⟩ := hP
          obtain ⟨T2, w1, w2, rfl, nT2, rfl, e3, e4⟩ := hY
          obtain rfl := (Option.some.inj e3).symm
          obtain rfl := (vInts_item e4).2
          have sm4 := sm3.new (o := .tup [.int (j : Int), .int (PM.cf ms j)]) nT2
          have nT2f : fnd ≠ T2 := ne_of_none hf nT2
          have hf2 : (upd H3 T2 (.tup [.int (j : Int), .int (PM.cf ms j)])) fnd = some (.lst (vInts acc)) := by rw [upd_ne nT2f]; exact hf
          have hne : ¬ (ns = [] ∨ ms = []) := by
            rintro (e | e)
            · rw [e] at hi; simp at hi
            · rw [e] at hj; simp at hj
          rw [if_neg hne] at hz
          have hlt : i + j < acc.length := by omega
          have es : (i : Int) + (j : Int) = ((i + j : Nat) : Int) := rfl
          refine ⟨T2, _, rfl, .inl (.inl upd_same), rfl, _, _, rfl, _, _, rfl, rfl, ?_⟩
          refine ⟨_, rfl, _, rfl, _, rfl, _, _, rfl, rfl, fnd, _, _, _, rfl, rfl, SqL.of hf2, vInts_at' es hlt, _, rfl, _, rfl, _, _, rfl, rfl, hm i j, _, _, rfl, rfl, _, rfl, _, rfl, _, rfl, _, _, rfl, rfl, fnd, _, _, i + j, rfl, rfl, hf2, ixN_nat es (by rw [List.length_map]; exact hlt), ?_⟩
          refine ⟨_, _, acc.set (i + j) (PM.cf acc (i + j) + PM.cf ns i * PM.cf ms j), rfl, sm4.mut nfH, ?_, by rw [List.length_set]; exact ha, fun k => ?_⟩
          · rw [upd_same, vInts_set]
          · rw [cf_set _ _ _ hlt, rowG_next, hc, hc]
        · obtain ⟨z5, z6, acc, rfl, sm3, hf, ha, hc⟩ := h
          exact ⟨_, _, _, _, acc, rfl, sm3, hf, ha, fun k => by rw [hc k, rowG_end ns ms i k hi]⟩
      · obtain ⟨x3, x4, x5, x6, acc, rfl, sm, hf, ha, hc⟩ := h
        have e : acc = PM.grT ns ms := by
          unfold PM.grT
          split
          · rename_i h
            rw [if_pos h] at hz
            exact List.eq_nil_of_length_eq_zero (by omega)
          · rename_i h
            rw [if_neg h] at hz
            apply PM.ext_cf
            · rw [ha, PM.mul_len ns ms (fun e => h (.inl e)) (fun e => h (.inr e)), hz]
            · intro k _
              rw [hc k, List.take_length]
        exact ⟨_, rfl, fnd, _, rfl, .inl ⟨SqL.of hf, fun l nl => by
          rw [e]
          exact q _ l (sm.new nl) ti_upd⟩⟩
    have empty : ∀ H0, Same H H0 → (ns = [] ∨ ms = []) → ∀ fnd, H0 fnd = none → Mid [some (.ref a), some (.ref b), some (.ref fnd), none, none, none, none] (upd H0 fnd (.lst [])) := fun H0 s hn fnd nf =>
      ⟨fnd, 0, rfl, s.new nf, s.free nf, upd_same, by rw [if_pos hn]⟩
    refine ⟨_, rfl, by show 0 ≤ sizeLine; decide, fun p1 np1 => ?_⟩
    have s1 := same_upd (o := .tup []) np1
    refine ⟨_, _, dp_tup (s1.ti hA), dp_tup (ns := []) ti_nil, shaped_tup _, shaped_tup [], _, rfl, ?_⟩
    rw [eqv_tup]
    by_cases hn : ns = []
    · rw [decide_eq_true hn]
      exact iteF ⟨by show 0 ≤ sizeLine; decide, fun l nl => empty _ s1 (.inl hn) l nl⟩
    rw [decide_eq_false hn]
    refine iteT ⟨_, rfl, by show 0 ≤ sizeLine; decide, fun p2 np2 => ?_⟩
    have s2 := s1.new (o := .tup []) np2
    refine ⟨_, _, dp_tup (s2.ti hB), dp_tup (ns := []) ti_nil, shaped_tup _, shaped_tup [], _, rfl, ?_⟩
    rw [eqv_tup]
    by_cases hn2 : ms = []
    · rw [decide_eq_true hn2]
      exact iteF ⟨by show 0 ≤ sizeLine; decide, fun l nl => empty _ s2 (.inr hn2) l nl⟩
    rw [decide_eq_false hn2]
    have p1 : 0 < ns.length := List.length_pos_iff.mpr hn
    have p2 : 0 < ms.length := List.length_pos_iff.mpr hn2
    refine iteT ⟨by show 1 ≤ sizeLine; decide, fun l nl => ?_⟩
    have s3 := s2.new (o := .lst [.int 0]) nl
    have ez : ((vInts ns).length : Int) + ((vInts ms).length : Int) - 1 = ((ns.length + ms.length - 1 : Nat) : Int) := by
      rw [List.length_map, List.length_map]
      omega
    refine ⟨_, rfl, a, vInts ns, rfl, .inr (s3.ti hA), _, rfl, b, vInts ms, rfl, .inr (s3.ti hB), _, _, rfl, rfl, _, _, rfl, rfl, l, _, _, rfl, rfl, upd_same, ?_⟩
    dsimp only
    rw [ez, Int.toNat_natCast, zeros]
    exact ⟨by omega, by omega, small (by simp; omega), fun fnd nf => ⟨fnd, _, rfl, s3.new nf, s3.free nf, upd_same, by rw [if_neg (by rintro (z | z); exact hn z; exact hn2 z)]⟩⟩
end
end AT

set_option Elab.async false
set_option linter.all false
set_option maxRecDepth 100000
set_option maxHeartbeats 4000000
namespace AT
open PySem PySem.Spec PyProof.Rows L2
section
variable {P : Program} {w : World} {K : PySem.W.Frag} {mg : Str → Option Value} {base : Heap}
abbrev s_law_gr_left : Stmt := topS 47
abbrev n_law_gr_left : List Str := ["one", "other", "rest", "lead", "many", "number", "at", "its"]
theorem sc_law_gr_left : FnScope n_law_gr_left ["one", "other"] (defScope s_law_gr_left) := ⟨rfl, rfl, rfl, by decide +kernel, rfl, by decide +kernel, by decide +kernel⟩
def sp_gr_left (K : PySem.W.Frag) : Sp := fun vs H Q _ => ∃ a b ns ms, vs = [.ref a, .ref b] ∧ TpI K H a ns ∧ TpI K H b ms ∧ ns.length ≤ 10000 ∧ ms.length ≤ 10000 ∧ PM.Tr ns ∧ PM.Tr ms ∧ ms ≠ [] ∧ PM.PdOk ns ms ∧ ∀ H' p, Same H H' → TpI K H' p (PM.pmod ns ms) → Q (.ref p) H'
theorem ok_gr_left (T : Bl mg) (D : Df K mg "_law_gr_left" s_law_gr_left) : Cl P w K mg base 1 "_law_gr_left" ["one", "other"] (sp_gr_left K) := by
  refine cl_of0 (N := n_law_gr_left) D sc_law_gr_left (fun vs H Q E h => ?_) (fun _ _ _ _ _ _ us hl => match us, hl with | [_, _], _ => rfl) fun f cdv A outer s H vs Q E hr h => ?_
  · obtain ⟨a, b, ns, ms, rfl, _⟩ := h
    rfl
  · obtain ⟨a, b, ns, ms, rfl, hA, hB, l1, l2, t1, t2, hb, ⟨n, m, b1, b2, hnm⟩, q⟩ := h
    refine ⟨_, (pss_cons (ps_set (i := 2) sc_law_gr_left.nd rfl (.inl rfl) (pe_callTy call_list_of (by rfl) T.z_list (by decide +kernel) (pa_cons (pv 0) pa_nil)))
  (pss_cons (ps_while PassesOwn.never (pt_cmpR op_ge (pe_callB call_len_seq (by rfl) T.z_len (by decide +kernel) (pa_cons (pv 2) pa_nil)) (pe_callB call_len_seq (by rfl) T.z_len (by decide +kernel) (pa_cons (pv 1) pa_nil)) (nomark _)) (pss_cons (ps_par (i := 3) (j := 4) (by rfl) sc_law_gr_left.nd rfl rfl (by decide) rfl rfl (pa_cons (pe_ix ix_list (pv 2) (pe_un un_neg pe_int) (fun _ _ => rfl)) (pa_cons (pe_op op_sub (pe_callB call_len_seq (by rfl) T.z_len (by decide +kernel) (pa_cons (pv 2) pa_nil)) (pe_callB call_len_seq (by rfl) T.z_len (by decide +kernel) (pa_cons (pv 1) pa_nil))) pa_nil)) (by rfl))
  (C8.pss_cut (ps_setLc (i := 2) (own := [("number", 5)]) (g := (gName 5)) (tt := tYes) rfl sc_law_gr_left.nd rfl rfl (sw_true rfl rfl rfl (by decide +kernel)) (pi_list (pv 2)) (blkOk_by (own := [("number", 5)]) (N := n_law_gr_left) (sc := defScope s_law_gr_left) (by decide +kernel)) (fun _ _ _ _ _ => (pg_name (i := 5) sc_law_gr_left.nd rfl (.inl rfl))) (fun _ _ _ _ _ => pts_nil) (fun _ _ _ _ _ => (pe_op op_mulK (pv 5) (pe_ix (show IxR _ (rIxT K) from ix_tup) (pv 1) (pe_un un_neg pe_int) (fun _ _ => rfl)))))
  (pss_cons (ps_for PassesOwn.never rfl (pi_enumT (by rfl) T.z_enumerate (pa_cons (pv 1) pa_nil)) (pg_tup rfl (pgs_cons (pg_name (i := 6) sc_law_gr_left.nd rfl (.inl rfl)) (pgs_cons (pg_name (i := 7) sc_law_gr_left.nd rfl (.inl rfl)) pgs_nil))) (pss_one (ps_asg (pe_op op_sub (pe_ix ix_list (pv 2) (pe_op op_add (pv 4) (pv 6)) (fun _ _ => rfl)) (pe_op op_mulK (pv 3) (pv 7))) (pg_sub (pv 2) (pe_op op_add (pv 4) (pv 6)) set_list))))
  (pss_one (ps_while PassesOwn.never (PW.pt (pw_and (pt_cmpR (op_neD hr.units) (pv 2) (pe_lst pa_nil) (nomark _)) (pw_and1 (pt_cmpR op_eq (pe_ix ix_list (pv 2) (pe_un un_neg pe_int) (fun _ _ => rfl)) pe_int (nomark _))))) (pss_one (ps_expr (pe_bm0 PySem.F.plainAttrs_list PySem.F.slot_list_pop PySem.F.type_list_pop mt_pop (pv 2))))))))))
  (pss_one (ps_ret (pe_callTy call_tuple_of (by rfl) T.z_tuple (by decide +kernel) (pa_cons (pv 2) pa_nil)))))), ?_⟩
    refine ⟨_, rfl, a, _, rfl, .inr hA, fun l0 nl0 => ?_⟩
    refine while_go (fun k σ H' => ∃ (t : PM.Trip) (j : Nat) (pr : Addr) (x3 x4 x5 x6 x7 : Option V), k = t.2.2.length ∧ σ = [some (.ref a), some (.ref b), some (.ref pr), x3, x4, x5, x6, x7] ∧ Same H H' ∧ H pr = none ∧ H' pr = some (.lst (vInts t.2.2)) ∧ PM.PSt n m ns ms t j)
      ns.length ⟨(1, [], ns), 0, l0, none, none, none, none, none, rfl, rfl, same_upd nl0, nl0, upd_same, PM.PSt.start t1 b1⟩ ?_
    rintro k σ H' ⟨t, j, pr, x3, x4, x5, x6, x7, rfl, rfl, sm, npr, hr2, st⟩
    refine ⟨_, rfl, pr, _, rfl, .inl (SqL.of hr2), _, rfl, b, _, rfl, .inr (sm.ti hB), _, _, rfl, rfl, _, rfl, ?_⟩
    by_cases hl : t.2.2.length < ms.length
    · rw [decide_eq_false (show ¬ ((vInts ms).length : Int) ≤ ((vInts t.2.2).length : Int) by rw [List.length_map, List.length_map]; omega)]
      refine iteF ⟨_, rfl, pr, _, rfl, .inl ⟨SqL.of hr2, fun p np => ?_⟩⟩
      have e := st.en
      rw [PM.pend_stop hl] at e
      refine q _ p (sm.new np) ?_
      unfold PM.pmod
      rw [← e]
      exact ti_upd
    · rw [decide_eq_true (show ((vInts ms).length : Int) ≤ ((vInts t.2.2).length : Int) by rw [List.length_map, List.length_map]; omega)]
      refine iteT ⟨_, fun _ _ h => h, ?_⟩
      obtain ⟨r1, r2, r3⟩ := st.room hnm
      have h0 : ms.length ≠ 0 := by simpa using hb
      have nr : t.2.2 ≠ [] := by
        intro e
        rw [e] at hl
        exact hl (by simp; omega)
      have len1 := st.le
      refine ⟨_, rfl, 1, rfl, pr, _, -1, _, rfl, rfl, SqL.of hr2, vInts_last nr, _, rfl, pr, _, rfl, .inl (SqL.of hr2), _, rfl, b, _, rfl, .inr (sm.ti hB), _, _, rfl, rfl, _, _, rfl, ?_⟩
      have em : ((vInts t.2.2).length : Int) - ((vInts ms).length : Int) = ((t.2.2.length - ms.length : Nat) : Int) := by
        rw [List.length_map, List.length_map]
        omega
      dsimp only
      rw [em]
      refine ⟨fun σ H1 => ∃ pr1 x5, σ = [some (.ref a), some (.ref b), some (.ref pr1), some (.int (PM.lead t.2.2)), some (.int ((t.2.2.length - ms.length : Nat) : Int)), x5, x6, x7] ∧ Same H H1 ∧ H pr1 = none ∧ H1 pr1 = some (.lst (vInts (PM.sc t.2.2 (PM.lead ms)))), ?_, ?_⟩
      · refine ⟨_, rfl, pr, rfl, ⟨_, SqL.of hr2⟩, fun D nD => ?_⟩
        refine lcm (n := t.2.2.length) (walkL (K := K) (a := pr) (ns := t.2.2)) (fun i => .int (PM.cf t.2.2 i * PM.lead ms)) (fun H5 s5 => s5.li (SqL.of hr2)) nD (fun _ => rfl) (smallL (by omega)) (fun i H4 R hi s4 hR => ?_) (fun H4 s4 hD => ?_)
        · exact ⟨_, rfl, _, rfl, 1, rfl, b, _, -1, _, rfl, rfl, s4.ti (sm.ti hB), vInts_last hb, _, _, rfl, rfl, mulk_bd (st.br i) b2.lead (by omega), hR _ (Same.refl _)⟩
        · rw [map_ints (ms := PM.sc t.2.2 (PM.lead ms)) (PM.sc_len _ _) (fun i _ => PM.sc_get _ _ i)] at hD
          exact ⟨D, _, rfl, sm.trans s4, sm.free nD, hD⟩
      rintro σ H1 ⟨pr1, y5, rfl, sm1, npr1, hd1⟩
      refine ⟨_, rfl, b, _, rfl, sm1.ti hB, ?_⟩
      refine for_it (by have := walk_enumT (K := K) (a := b) (xs := vInts ms); rw [List.length_map] at this; exact this) (fun i σ H' => ∃ x6 x7 acc, σ = [some (.ref a), some (.ref b), some (.ref pr1), some (.int (PM.lead t.2.2)), some (.int ((t.2.2.length - ms.length : Nat) : Int)), y5, x6, x7] ∧ Same H H' ∧ H' pr1 = some (.lst (vInts acc)) ∧ acc.length = t.2.2.length ∧ ∀ k, PM.cf acc k = PM.leftG t.2.2 ms (t.2.2.length - ms.length) i k)
        ⟨x6, x7, _, rfl, sm1, hd1, PM.sc_len _ _, fun k => by rw [PM.leftG_zero]⟩ (fun i σ H' _ h => by obtain ⟨_, _, _, _, s, _⟩ := h; exact s.ti hB) (fun i x σ H2 H3 hi hP hY => ?_) (fun σ H2 h => ?_)
      · obtain ⟨z6, z7, acc, rfl, s2, hf, ha, hc⟩ := hP
        obtain ⟨T1, y1, y2, rfl, nT, rfl, e1, e2⟩ := hY
        obtain rfl := (Option.some.inj e1).symm
        obtain rfl := (vInts_item e2).2
        have s3 := s2.new (o := .tup [.int (i : Int), .int (PM.cf ms i)]) nT
        have hf2 : (upd H2 T1 (.tup [.int (i : Int), .int (PM.cf ms i)])) pr1 = some (.lst (vInts acc)) := by rw [upd_ne (ne_of_none hf nT)]; exact hf
        have hlt : t.2.2.length - ms.length + i < acc.length := by omega
        have es : ((t.2.2.length - ms.length : Nat) : Int) + (i : Int) = ((t.2.2.length - ms.length + i : Nat) : Int) := rfl
        refine ⟨T1, _, rfl, .inl (.inl upd_same), rfl, _, _, rfl, _, _, rfl, rfl, ?_⟩
        refine ⟨_, rfl, _, rfl, _, rfl, _, _, rfl, rfl, pr1, _, _, _, rfl, rfl, SqL.of hf2, vInts_at' es hlt, _, rfl, _, rfl, _, _, rfl, rfl, mulk_bd st.br.lead (b2 i) (by omega), _, _, rfl, rfl, _, rfl, _, rfl, _, rfl, _, _, rfl, rfl, pr1, _, _, t.2.2.length - ms.length + i, rfl, rfl, hf2, ixN_nat es (by rw [List.length_map]; exact hlt), ?_⟩
        refine ⟨_, _, acc.set (t.2.2.length - ms.length + i) (PM.cf acc (t.2.2.length - ms.length + i) - PM.lead t.2.2 * PM.cf ms i), rfl, s3.mut npr1, ?_, by rw [List.length_set]; exact ha, fun k => ?_⟩
        · rw [upd_same, vInts_set]
        · rw [cf_set _ _ _ hlt, PM.leftG_next, hc, hc]
      · obtain ⟨z6, z7, acc, rfl, s2, hf, ha, hc⟩ := h
        have ep := PM.left_end (by omega) ha hc
        have e8 : (PM.pnext ms t).2.2 = PM.cut acc := ep.symm
        have st' := st.next hb b2 hl
        refine while_go (fun z σ H' => ∃ xs, z = xs.length ∧ σ = [some (.ref a), some (.ref b), some (.ref pr1), some (.int (PM.lead t.2.2)), some (.int ((t.2.2.length - ms.length : Nat) : Int)), y5, z6, z7] ∧ Same H H' ∧ H' pr1 = some (.lst (vInts xs)) ∧ PM.cut xs = PM.cut acc) acc.length ⟨acc, rfl, rfl, s2, hf, rfl⟩ ?_
        rintro z σ H5 ⟨xs, rfl, rfl, s5, h5, ec⟩
        refine ⟨_, rfl, by show 0 ≤ sizeLine; decide, fun le nle => ?_⟩
        have s6 := same_upd (o := .lst []) nle
        have h6 := s6 _ _ h5
        have sA := s5.trans s6
        refine ⟨_, _, dp_lst (ns := xs) (SqL.of h6), dp_lst (ns := []) (.inl (.inl upd_same)), shaped_lst _, shaped_lst [], _, rfl, ?_⟩
        rw [eqv_lst]
        have fin : PM.Tr xs → _ := fun tx => show ∃ m', m' < t.2.2.length ∧ ∃ (t' : PM.Trip) (j : Nat) (pr : Addr) (x3 x4 x5 x6 x7 : Option V), m' = t'.2.2.length ∧ [some (V.ref a), some (.ref b), some (.ref pr1), some (.int (PM.lead t.2.2)), some (.int ((t.2.2.length - ms.length : Nat) : Int)), y5, z6, z7] = [some (.ref a), some (.ref b), some (.ref pr), x3, x4, x5, x6, x7] ∧ Same H (upd H5 le (.lst [])) ∧ H pr = none ∧ (upd H5 le (.lst [])) pr = some (.lst (vInts t'.2.2)) ∧ PM.PSt n m ns ms t' j from by
          refine ⟨_, ?_, PM.pnext ms t, j + 1, pr1, _, _, _, _, _, rfl, rfl, sA, npr1, ?_, st'⟩
          · exact PM.pstep_len hb (by omega)
          · rw [e8, ← ec, PM.cut_of_tr tx]
            exact h6
        by_cases hx : xs = []
        · rw [decide_eq_true hx]
          exact iteF (fin (by rw [hx]; exact PM.tr_nil))
        · rw [decide_eq_false hx]
          refine iteT ⟨_, rfl, 1, rfl, pr1, _, -1, _, rfl, rfl, SqL.of h6, vInts_last hx, rfl, _, rfl, ?_⟩
          by_cases hz : PM.lead xs = 0
          · rw [hz, decide_eq_true rfl]
            refine iteT ⟨_, fun _ _ h => h, ?_⟩
            refine ⟨_, rfl, .inl ⟨rfl, _, SqL.of h6⟩, pr1, vInts xs, .int (PM.cf xs (xs.length - 1)), rfl, rfl, h6, ?_, ?_⟩
            · rw [List.length_map]
              exact vInts_get (by have := List.length_pos_iff.mpr hx; omega)
            · refine ⟨xs.dropLast.length, ?_, xs.dropLast, rfl, rfl, sA.mut npr1, ?_, by rw [PM.cut_pop hx hz]; exact ec⟩
              · have := List.length_pos_iff.mpr hx
                rw [List.length_dropLast]
                omega
              · rw [upd_same]
                show some (HO.lst (xs.map V.int).dropLast) = some (HO.lst (xs.dropLast.map V.int))
                rw [List.dropLast_eq_take, List.dropLast_eq_take, List.map_take, List.length_map]
          · rw [decide_eq_false (fun z => hz (V.int.inj z))]
            exact iteF (fin ((PM.tr_iff hx).mpr hz))
end
end AT

set_option Elab.async false
set_option linter.all false
set_option maxRecDepth 100000
set_option maxHeartbeats 4000000
namespace AT
open PySem PySem.Spec PyProof.Rows L2
section
variable {P : Program} {w : World} {K : PySem.W.Frag} {mg : Str → Option Value} {base : Heap} {CB : Addr}
abbrev sneed_poly : Stmt := topS 22
abbrev nneed_poly : List Str := ["value", "part", "told"]
theorem scneed_poly : FnScope nneed_poly ["value", "part"] (defScope sneed_poly) := ⟨rfl, rfl, rfl, by decide +kernel, rfl, by decide +kernel, by decide +kernel⟩
def sp_need (K : PySem.W.Frag) (CB : Addr) : Sp := fun vs H Q E => ∃ v d pt, vs = [v, .str pt] ∧ DpS K H v d ∧ (dPoly (asTup d) = false → ErrP H CB pt E) ∧ ∀ ns, asTup d = .tuple (dInts ns) → PM.Tr ns → ∀ H' p, Same H H' → TpI K H' p ns → Q (.ref p) H'
theorem ok_need (T : Bl mg) (C_is_poly : Cl P w K mg base 2 "is_poly" ["value"] (sp_is_poly K)) (X_BadValue : ExCl P w K mg base "BadValue" CB "part") (D : Df K mg "need_poly" sneed_poly) : Cl P w K mg base 3 "need_poly" ["value", "part"] (sp_need K CB) := by
  refine cl_of (N := nneed_poly) D scneed_poly (fun vs H Q E h => ?_) (fun _ _ _ _ _ _ us hl => match us, hl with | [_, _], _ => rfl) fun f cdv A outer s H vs Q E hr h => ?_
  · obtain ⟨v, d, pt, rfl, _⟩ := h
    rfl
  · obtain ⟨v, d, pt, rfl, hd, he, q⟩ := h
    refine ⟨_, (C8.pss_cut (ps_set (i := 2) scneed_poly.nd rfl (.inl rfl) (pe_ifExp (pt_val (pe_callB call_isi (by rfl) T.z_isinstance (by decide +kernel) (pa_cons (pv 0) (pa_cons (pe_bltn (v := .ty "list") (by rfl) T.z_list (by decide +kernel) rfl) pa_nil)))) (pe_callTy call_tuple_of (by rfl) T.z_tuple (by decide +kernel) (pa_cons (pv 0) pa_nil)) (pv 0)))
  (pss_cons (ps_if (pt_not (pt_val (pe_f C_is_poly hr (pa_cons (pv 2) pa_nil)))) (pss_one (ps_raise rfl (takes_of rfl rfl rfl rfl) (pmk_x X_BadValue hr (pa_cons (pv 1) pa_nil)))) pss_nil)
  (pss_one (ps_ret (pv 2))))), ?_⟩
    obtain ⟨hdp, hsh, hsh2, hlen⟩ := id hd
    refine ⟨fun σ H1 => ∃ u, σ = [some v, some (.str pt), some u] ∧ Same H H1 ∧ Dp K H1 u (asTup d), ?_, ?_⟩
    · have ty := dp_ty hdp
      cases d with
      | list ds =>
        obtain ⟨a, xs, rfl, hs, ha⟩ : ∃ a xs, v = .ref a ∧ SqL K H a xs ∧ DpAll K H xs ds := by
          cases hdp with
          | lst hs ha => exact ⟨_, _, rfl, hs, ha⟩
        refine ⟨_, rfl, .ref a, .ty "list", _, _, true, rfl, .ty _, ty, kit_ty kb_ll, true, rfl, iteT ⟨_, rfl, a, xs, rfl, .inl ⟨hs, fun l nl => ⟨.ref l, rfl, same_upd nl, ?_⟩⟩⟩⟩
        exact .tup (.inl (.inl upd_same)) (Same.dpAll (same_upd nl) ds xs ha)
      | tuple ds => exact ⟨_, rfl, v, .ty "list", _, _, false, rfl, .ty _, ty, kit_ty kb_tl, false, rfl, iteF ⟨_, rfl, v, rfl, Same.refl H, hdp⟩⟩
      | int i => exact ⟨_, rfl, v, .ty "list", _, _, false, rfl, .ty _, ty, kit_ty kb_il, false, rfl, iteF ⟨_, rfl, v, rfl, Same.refl H, hdp⟩⟩
      | bool i => exact ⟨_, rfl, v, .ty "list", _, _, false, rfl, .ty _, ty, kit_ty kb_bl, false, rfl, iteF ⟨_, rfl, v, rfl, Same.refl H, hdp⟩⟩
      | none => exact ⟨_, rfl, v, .ty "list", _, _, false, rfl, .ty _, ty, kit_ty kb_nl, false, rfl, iteF ⟨_, rfl, v, rfl, Same.refl H, hdp⟩⟩
      | str i => exact ⟨_, rfl, v, .ty "list", _, _, false, rfl, .ty _, ty, kit_ty kb_sl, false, rfl, iteF ⟨_, rfl, v, rfl, Same.refl H, hdp⟩⟩
      | dict ds => cases hdp
    · rintro σ H1 ⟨u, rfl, s1, hu⟩
      refine ⟨_, rfl, u, asTup d, rfl, hu, hsh2, fun ds e => Nat.le_trans (hlen ds e) (by decide), fun H2 s2 => ?_⟩
      have s12 := s1.trans s2
      cases hP : dPoly (asTup d) with
      | false =>
        refine ⟨_, rfl, iteT ⟨_, rfl, by show 1 ≤ 1000; decide, fun a na => ⟨a, _, rfl, upd_same, fun dx nd hne => ⟨rfl, dx, [(("part" : Str), .str pt)], upd_same, ?_, ?_, ?_⟩⟩⟩⟩
        · rw [upd_ne hne, upd_same]
        · rw [upd_ne hne] at nd
          exact nd
        · exact he hP _ dx (s12.trans (mk_same na nd hne)) upd_same
      | true =>
        refine ⟨_, rfl, iteF ⟨_, rfl, ?_⟩⟩
        obtain ⟨ds, hds⟩ : ∃ ds, asTup d = .tuple ds := by
          cases hz : asTup d with
          | tuple ds => exact ⟨ds, rfl⟩
          | none => rw [hz] at hP; cases hP
          | bool b => rw [hz] at hP; cases hP
          | int b => rw [hz] at hP; cases hP
          | str b => rw [hz] at hP; cases hP
          | list b => rw [hz] at hP; cases hP
          | dict b => rw [hz] at hP; cases hP
        rw [hds] at hP hu
        have hall : ds.all dIsInt = true := by
          cases hz : ds.all dIsInt with
          | true => rfl
          | false => rw [dPoly_not hz] at hP; cases hP
        cases hu with
        | tup hs ha =>
          obtain ⟨ns, rfl, rfl⟩ := dp_all_ints _ _ ha hall
          rw [dPoly_ints] at hP
          exact q ns hds (of_decide_eq_true hP) _ _ s12 (s2.ti hs)
def sp_two (K : PySem.W.Frag) (CB : Addr) (R : List Int → List Int → Hp → VK → Prop) : Sp := fun vs H Q E => ∃ v1 d1 v2 d2, vs = [v1, v2] ∧ DpS K H v1 d1 ∧ DpS K H v2 d2 ∧ (dPoly (asTup d1) = false → ErrP H CB "one" E) ∧ (dPoly (asTup d1) = true → dPoly (asTup d2) = false → ErrP H CB "other" E) ∧
  ∀ ns ms, asTup d1 = .tuple (dInts ns) → asTup d2 = .tuple (dInts ms) → PM.Tr ns → PM.Tr ms → R ns ms H Q
def R_plus (K : PySem.W.Frag) : List Int → List Int → Hp → VK → Prop := fun ns ms H Q => ∀ H' p, Same H H' → TpI K H' p (PM.sumL ns ms) → Q (.ref p) H'
def R_times (K : PySem.W.Frag) : List Int → List Int → Hp → VK → Prop := fun ns ms H Q => (∀ i j, IntMulOk (PM.cf ns i) (PM.cf ms j)) ∧ ∀ H' p, Same H H' → TpI K H' p (PM.prodL ns ms) → Q (.ref p) H'
def R_cdv (K : PySem.W.Frag) : List Int → List Int → Hp → VK → Prop := fun ns ms H Q => PM.PrOk ns ∧ PM.PrOk ms ∧ (∃ k, PM.CoOk k (PM.prim ns) (PM.prim ms)) ∧ ∀ H' p, Same H H' → TpI K H' p (PM.cdv ns ms) → Q (.ref p) H'
theorem poly_true {d : PyData} {ns : List Int} (e : asTup d = .tuple (dInts ns)) (t : PM.Tr ns) : dPoly (asTup d) = true := by
  rw [e, dPoly_ints]
  exact decide_eq_true t
theorem dps_len {H : Hp} {v : V} {d : PyData} {ns : List Int} (h : DpS K H v d) (e : asTup d = .tuple (dInts ns)) : ns.length ≤ 10000 := by
  have := h.2.2.2 _ e
  rw [dInts, List.length_map] at this
  exact this
abbrev splus : Stmt := topS 36
abbrev nplus : List Str := ["one", "other"]
theorem scplus : FnScope nplus ["one", "other"] (defScope splus) := ⟨rfl, rfl, rfl, by decide +kernel, rfl, by decide +kernel, by decide +kernel⟩
theorem ok_plus (T : Bl mg) (C_sum_of : Cl P w K mg base 2 "sum_of" ["one", "other"] (sp_sum_of K)) (C_need_poly : Cl P w K mg base 3 "need_poly" ["value", "part"] (sp_need K CB)) (D : Df K mg "plus" splus) : Cl P w K mg base 4 "plus" ["one", "other"] (sp_two K CB (R_plus K)) := by
  refine cl_of (N := nplus) D scplus (fun vs H Q E h => ?_) (fun _ _ _ _ _ _ us hl => match us, hl with | [_, _], _ => rfl) fun f cdv A outer s H vs Q E hr h => ?_
  · obtain ⟨v1, d1, v2, d2, rfl, _⟩ := h
    rfl
  · obtain ⟨v1, d1, v2, d2, rfl, h1, h2, e1, e2, q⟩ := h
    refine ⟨_, (pss_one (ps_ret (pe_f C_sum_of hr (pa_cons (pe_fX C_need_poly hr (passes_call (takes_of rfl rfl rfl rfl) (fun _ _ _ _ h => h)) (pa_cons (pv 0) (pa_cons pe_str pa_nil))) (pa_cons (pe_fX C_need_poly hr (passes_call (takes_of rfl rfl rfl rfl) (fun _ _ _ _ h => h)) (pa_cons (pv 1) (pa_cons pe_str pa_nil))) pa_nil))))), ?_⟩
    refine ⟨_, rfl, v1, d1, "one", rfl, h1, e1, fun ns a1 t1 H1 p1 s1 i1 => ⟨_, rfl, v2, d2, "other", rfl, h2.same s1, fun z => (e2 (poly_true a1 t1) z).same s1, fun ms a2 t2 H2 p2 s2 i2 => ?_⟩⟩
    have l1 := dps_len h1 a1
    have l2 := dps_len h2 a2
    exact ⟨p1, p2, ns, ms, rfl, s2.ti i1, i2, by omega, by omega, fun H3 p3 s3 i3 => q ns ms a1 a2 t1 t2 H3 p3 ((s1.trans s2).trans s3) i3⟩
abbrev stimes : Stmt := topS 37
abbrev ntimes : List Str := ["one", "other"]
theorem sctimes : FnScope ntimes ["one", "other"] (defScope stimes) := ⟨rfl, rfl, rfl, by decide +kernel, rfl, by decide +kernel, by decide +kernel⟩
theorem ok_times (T : Bl mg) (C_product : Cl P w K mg base 2 "product" ["one", "other"] (sp_product K)) (C_need_poly : Cl P w K mg base 3 "need_poly" ["value", "part"] (sp_need K CB)) (D : Df K mg "times" stimes) : Cl P w K mg base 4 "times" ["one", "other"] (sp_two K CB (R_times K)) := by
  refine cl_of (N := ntimes) D sctimes (fun vs H Q E h => ?_) (fun _ _ _ _ _ _ us hl => match us, hl with | [_, _], _ => rfl) fun f cdv A outer s H vs Q E hr h => ?_
  · obtain ⟨v1, d1, v2, d2, rfl, _⟩ := h
    rfl
  · obtain ⟨v1, d1, v2, d2, rfl, h1, h2, e1, e2, q⟩ := h
    refine ⟨_, (pss_one (ps_ret (pe_f C_product hr (pa_cons (pe_fX C_need_poly hr (passes_call (takes_of rfl rfl rfl rfl) (fun _ _ _ _ h => h)) (pa_cons (pv 0) (pa_cons pe_str pa_nil))) (pa_cons (pe_fX C_need_poly hr (passes_call (takes_of rfl rfl rfl rfl) (fun _ _ _ _ h => h)) (pa_cons (pv 1) (pa_cons pe_str pa_nil))) pa_nil))))), ?_⟩
    refine ⟨_, rfl, v1, d1, "one", rfl, h1, e1, fun ns a1 t1 H1 p1 s1 i1 => ⟨_, rfl, v2, d2, "other", rfl, h2.same s1, fun z => (e2 (poly_true a1 t1) z).same s1, fun ms a2 t2 H2 p2 s2 i2 => ?_⟩⟩
    exact ⟨p1, p2, ns, ms, rfl, s2.ti i1, i2, dps_len h1 a1, dps_len h2 a2, (q ns ms a1 a2 t1 t2).1, fun H3 p3 s3 i3 => (q ns ms a1 a2 t1 t2).2 H3 p3 ((s1.trans s2).trans s3) i3⟩
abbrev scommon_divisor : Stmt := topS 38
abbrev ncommon_divisor : List Str := ["one", "other", "found"]
theorem sccommon_divisor : FnScope ncommon_divisor ["one", "other"] (defScope scommon_divisor) := ⟨rfl, rfl, rfl, by decide +kernel, rfl, by decide +kernel, by decide +kernel⟩
theorem ok_cdv (T : Bl mg) (C_scaled : Cl P w K mg base 2 "scaled" ["poly", "number"] (sp_scaled K)) (C_common : Cl P w K mg base 5 "common" ["one", "other"] (sp_common K)) (C_need_poly : Cl P w K mg base 3 "need_poly" ["value", "part"] (sp_need K CB)) (D : Df K mg "common_divisor" scommon_divisor) : Cl P w K mg base 6 "common_divisor" ["one", "other"] (sp_two K CB (R_cdv K)) := by
  refine cl_of (N := ncommon_divisor) D sccommon_divisor (fun vs H Q E h => ?_) (fun _ _ _ _ _ _ us hl => match us, hl with | [_, _], _ => rfl) fun f cdv A outer s H vs Q E hr h => ?_
  · obtain ⟨v1, d1, v2, d2, rfl, _⟩ := h
    rfl
  · obtain ⟨v1, d1, v2, d2, rfl, h1, h2, e1, e2, q⟩ := h
    refine ⟨_, (pss_cons (ps_set (i := 2) sccommon_divisor.nd rfl (.inl rfl) (pe_f C_common hr (pa_cons (pe_fX C_need_poly hr (passes_call (takes_of rfl rfl rfl rfl) (fun _ _ _ _ h => h)) (pa_cons (pv 0) (pa_cons pe_str pa_nil))) (pa_cons (pe_fX C_need_poly hr (passes_call (takes_of rfl rfl rfl rfl) (fun _ _ _ _ h => h)) (pa_cons (pv 1) (pa_cons pe_str pa_nil))) pa_nil))))
  (pss_one (ps_ret (pe_ifExp (PW.pt (pw_and (pt_cmpR (op_neD hr.units) (pv 2) (pe_tup pa_nil) (nomark _)) (pw_and1 (pt_cmpR op_lt (pe_ix ix_tup (pv 2) (pe_un un_neg pe_int) (fun _ _ => rfl)) pe_int (nomark _))))) (pe_f C_scaled hr (pa_cons (pv 2) (pa_cons (pe_un un_neg pe_int) pa_nil))) (pv 2))))), ?_⟩
    refine ⟨_, rfl, v1, d1, "one", rfl, h1, e1, fun ns a1 t1 H1 p1 s1 i1 => ⟨_, rfl, v2, d2, "other", rfl, h2.same s1, fun z => (e2 (poly_true a1 t1) z).same s1, fun ms a2 t2 H2 p2 s2 i2 => ?_⟩⟩
    obtain ⟨q1, q2, q3, q⟩ := q ns ms a1 a2 t1 t2
    have I := PM.common_inv t1 t2
    refine ⟨p1, p2, ns, ms, rfl, s2.ti i1, i2, dps_len h1 a1, dps_len h2 a2, t1, t2, q1, q2, q3, fun H3 p3 s3 i3 => ?_⟩
    have sA := (s1.trans s2).trans s3
    refine ⟨_, rfl, by show 0 ≤ sizeLine; decide, fun p np => ?_⟩
    have s4 := same_upd (o := .tup []) np
    refine ⟨_, _, dp_tup (s4.ti i3), dp_tup (ns := []) ti_nil, shaped_tup _, shaped_tup [], _, rfl, ?_⟩
    rw [eqv_tup]
    have i4 := s4.ti i3
    have sB := sA.trans s4
    unfold PM.cdv at q
    by_cases hn : PM.common ns ms = []
    · rw [decide_eq_true hn]
      rw [if_neg (fun z => z.1 hn)] at q
      exact iteF ⟨_, rfl, q _ p3 sB i4⟩
    · rw [decide_eq_false hn]
      refine iteT ⟨_, rfl, 1, rfl, p3, _, -1, _, rfl, rfl, i4, vInts_last hn, _, _, rfl, rfl, _, rfl, ?_⟩
      by_cases hz : PM.lead (PM.common ns ms) < 0
      · rw [decide_eq_true hz]
        rw [if_pos ⟨hn, hz⟩] at q
        refine iteT ⟨_, rfl, 1, rfl, p3, _, -1, rfl, i4, ?_, fun i => mulk_one _, fun H5 p5 s5 i5 => q _ p5 (sB.trans s5) i5⟩
        by_cases n0 : ns = []
        · by_cases m0 : ms = []
          · rw [n0, m0] at hn
            exact absurd rfl hn
          · have := PM.Dv.len I.r I.tr t2 hn m0
            have := dps_len h2 a2
            omega
        · have := PM.Dv.len I.l I.tr t1 hn n0
          have := dps_len h1 a1
          omega
      · rw [decide_eq_false hz]
        rw [if_neg (fun z => hz z.2)] at q
        exact iteF ⟨_, rfl, q _ p3 sB i4⟩
end
end AT

set_option Elab.async false
set_option linter.all false
set_option maxRecDepth 100000
set_option maxHeartbeats 4000000
namespace AT
open PySem PySem.Spec PyProof.Rows L2 LamX
theorem pss_dead {X : Cx} {ss : List Stmt} : PSs X ss (fun _ _ _ => False) := ⟨fun _ _ _ _ _ _ h => h.elim⟩
/-- the error classes -/
structure Ex (K : PySem.W.Frag) (mg : Str → Option Value) (CB : Addr) (ca : String → Addr) : Prop extends Bl mg where
  g_TowerError : mg "TowerError" = some (.ref (ca "TowerError"))
  exm : PySem.W.exmOne K (.ref CB) (.ref (ca "TowerError")) = some true
  exC : ExcC K CB
  xf : XfC K CB
  fld : PySem.W.findIn K (.ref CB) "part" = some none
  g_BadValue : mg "BadValue" = some (.ref CB)
  k_BadValue : PySem.W.kitOne K (.ref CB) (.ref CB) = some true
  g_TooMany : mg "TooMany" = some (.ref (ca "TooMany"))
  k_TooMany : PySem.W.kitOne K (.ref CB) (.ref (ca "TooMany")) = some false
  g_BadText : mg "BadText" = some (.ref (ca "BadText"))
  k_BadText : PySem.W.kitOne K (.ref CB) (.ref (ca "BadText")) = some false
  g_BadWord : mg "BadWord" = some (.ref (ca "BadWord"))
  k_BadWord : PySem.W.kitOne K (.ref CB) (.ref (ca "BadWord")) = some false
  g_BadName : mg "BadName" = some (.ref (ca "BadName"))
  k_BadName : PySem.W.kitOne K (.ref CB) (.ref (ca "BadName")) = some false
  g_NoName : mg "NoName" = some (.ref (ca "NoName"))
  k_NoName : PySem.W.kitOne K (.ref CB) (.ref (ca "NoName")) = some false
  g_Nothing : mg "Nothing" = some (.ref (ca "Nothing"))
  k_Nothing : PySem.W.kitOne K (.ref CB) (.ref (ca "Nothing")) = some false
  g_BadNumber : mg "BadNumber" = some (.ref (ca "BadNumber"))
  k_BadNumber : PySem.W.kitOne K (.ref CB) (.ref (ca "BadNumber")) = some false
  g_BadKind : mg "BadKind" = some (.ref (ca "BadKind"))
  k_BadKind : PySem.W.kitOne K (.ref CB) (.ref (ca "BadKind")) = some false
  g_BadKit : mg "BadKit" = some (.ref (ca "BadKit"))
  k_BadKit : PySem.W.kitOne K (.ref CB) (.ref (ca "BadKit")) = some false
  g_BadTower : mg "BadTower" = some (.ref (ca "BadTower"))
  k_BadTower : PySem.W.kitOne K (.ref CB) (.ref (ca "BadTower")) = some false
  g_BadFrame : mg "BadFrame" = some (.ref (ca "BadFrame"))
  k_BadFrame : PySem.W.kitOne K (.ref CB) (.ref (ca "BadFrame")) = some false
  g_BadPlan : mg "BadPlan" = some (.ref (ca "BadPlan"))
  k_BadPlan : PySem.W.kitOne K (.ref CB) (.ref (ca "BadPlan")) = some false
  g_BadSite : mg "BadSite" = some (.ref (ca "BadSite"))
  k_BadSite : PySem.W.kitOne K (.ref CB) (.ref (ca "BadSite")) = some false
  g_BadPaper : mg "BadPaper" = some (.ref (ca "BadPaper"))
  k_BadPaper : PySem.W.kitOne K (.ref CB) (.ref (ca "BadPaper")) = some false
  g_Misfit : mg "Misfit" = some (.ref (ca "Misfit"))
  k_Misfit : PySem.W.kitOne K (.ref CB) (.ref (ca "Misfit")) = some false
theorem upd_at {H : Hp} {p : Addr} {o : HO} (_ : H p = none) : upd H p o p = some o := upd_same
section
variable {X : Cx} {CB : Addr} {ca : String → Addr}
abbrev s_law_at_heard : Stmt := topS 43
abbrev n_law_at_heard : List Str := ["ask", "found", "caught", "error", "some", "words", "word", "is_one"]
theorem sc_law_at_heard : FnScope n_law_at_heard ["ask"] (defScope s_law_at_heard) := ⟨rfl, rfl, rfl, by decide +kernel, rfl, by decide +kernel, by decide +kernel⟩
/-- an asking that ends with BadValue(part) -/
def TErr (K : PySem.W.Frag) (CB : Addr) : (XK → Hp → VK → Prop) → Hp → VK → Prop := fun tl H Q =>
  ∀ (H1 : Hp) (Qf : VK), Same H H1 → tl (fun cls d H' => cls = .ref CB ∧ ∃ dd pt, d = some dd ∧ H' dd = some (.xd [(("part" : Str), .str pt)]) ∧ ∀ H'' l, Same H' H'' → SqT K H'' l [.str "value", .str pt] → Q (.ref l) H'') H1 Qf
theorem heard_gives {g : Addr} {cdg : Value} {q : Str} (T : Ex X.K X.mg CB ca) : Gives2 X n_law_at_heard "_law_at_heard" (defScope s_law_at_heard) g cdg (defBody s_law_at_heard) "ask" q (TErr X.K CB) := by
  intro f c' s H Q tl act hc h
  refine ⟨_, (pss_cons (ps_asg (pe_tup (pa_cons pe_non (pa_cons pe_non pa_nil))) (pg_tup rfl (pgs_cons (pg_name (i := 1) sc_law_at_heard.nd rfl (.inl rfl)) (pgs_cons (pg_name (i := 2) sc_law_at_heard.nd rfl (.inl rfl)) pgs_nil))))
  (pss_cons (ps_try_keep (i := 3) (j := 2) (c := .ref (ca "TowerError")) (tb := fun W D σ H => ∃ Ech : XK, (∀ cls d H', Ech cls d H' → W cls d σ H') ∧ σ[0]? = some (some (.ref f)) ∧ H c' = some (CodeO c' q) ∧ tl Ech H (fun v H' => D.nx (σ.set 1 (some v)) H')) rfl rfl rfl sc_law_at_heard.nd rfl rfl (by decide) rfl rfl ⟨by rfl, by decide, .inl T.g_TowerError⟩ (by decide) (by decide) (fun W pn xe tk _ => ⟨fun pins s' σ H' D I h' => by obtain ⟨Ech, hW, h1, h2, h3⟩ := h'; exact (pss_one (ps_set (i := 1) sc_law_at_heard.nd rfl (.inl rfl) (act W pn xe Ech _ _ tk))).run pins s' σ H' D I ⟨h1, h2, hW, h3⟩⟩))
  (pss_cons (ps_if (pt_cmpR op_isN (pv 2) pe_non (nomark _)) pss_dead pss_nil)
  (pss_cons (ps_if (pt_val (pe_callB call_isH (by rfl) T.z_isinstance (by decide +kernel) (pa_cons (pv 2) (pa_cons (pe_glob (v := .ref _) (by rfl) T.g_TooMany rfl) pa_nil)))) pss_dead pss_nil)
  (pss_cons (ps_if (pt_val (pe_callB call_isH (by rfl) T.z_isinstance (by decide +kernel) (pa_cons (pv 2) (pa_cons (pe_glob (v := .ref _) (by rfl) T.g_BadText rfl) pa_nil)))) pss_dead pss_nil)
  (pss_cons (ps_if (pt_val (pe_callB call_isH (by rfl) T.z_isinstance (by decide +kernel) (pa_cons (pv 2) (pa_cons (pe_glob (v := .ref _) (by rfl) T.g_BadWord rfl) pa_nil)))) pss_dead pss_nil)
  (pss_cons (ps_if (pt_val (pe_callB call_isH (by rfl) T.z_isinstance (by decide +kernel) (pa_cons (pv 2) (pa_cons (pe_glob (v := .ref _) (by rfl) T.g_BadName rfl) pa_nil)))) pss_dead pss_nil)
  (pss_cons (ps_if (pt_val (pe_callB call_isH (by rfl) T.z_isinstance (by decide +kernel) (pa_cons (pv 2) (pa_cons (pe_glob (v := .ref _) (by rfl) T.g_NoName rfl) pa_nil)))) pss_dead pss_nil)
  (pss_cons (ps_if (pt_val (pe_callB call_isH (by rfl) T.z_isinstance (by decide +kernel) (pa_cons (pv 2) (pa_cons (pe_glob (v := .ref _) (by rfl) T.g_Nothing rfl) pa_nil)))) pss_dead pss_nil)
  (pss_cons (ps_set (i := 4) sc_law_at_heard.nd rfl (.inl rfl) (pe_lst (pa_cons (pe_tup (pa_cons pe_str (pa_cons (pe_callB call_isH (by rfl) T.z_isinstance (by decide +kernel) (pa_cons (pv 2) (pa_cons (pe_glob (v := .ref _) (by rfl) T.g_BadValue rfl) pa_nil))) pa_nil))) (pa_cons (pe_tup (pa_cons pe_str (pa_cons (pe_callB call_isH (by rfl) T.z_isinstance (by decide +kernel) (pa_cons (pv 2) (pa_cons (pe_glob (v := .ref _) (by rfl) T.g_BadNumber rfl) pa_nil))) pa_nil))) (pa_cons (pe_tup (pa_cons pe_str (pa_cons (pe_callB call_isH (by rfl) T.z_isinstance (by decide +kernel) (pa_cons (pv 2) (pa_cons (pe_glob (v := .ref _) (by rfl) T.g_BadKind rfl) pa_nil))) pa_nil))) (pa_cons (pe_tup (pa_cons pe_str (pa_cons (pe_callB call_isH (by rfl) T.z_isinstance (by decide +kernel) (pa_cons (pv 2) (pa_cons (pe_glob (v := .ref _) (by rfl) T.g_BadKit rfl) pa_nil))) pa_nil))) pa_nil))))))
  (pss_cons (ps_set (i := 4) sc_law_at_heard.nd rfl (.inl rfl) (pe_op op_cat (pv 4) (pe_lst (pa_cons (pe_tup (pa_cons pe_str (pa_cons (pe_callB call_isH (by rfl) T.z_isinstance (by decide +kernel) (pa_cons (pv 2) (pa_cons (pe_glob (v := .ref _) (by rfl) T.g_BadTower rfl) pa_nil))) pa_nil))) (pa_cons (pe_tup (pa_cons pe_str (pa_cons (pe_callB call_isH (by rfl) T.z_isinstance (by decide +kernel) (pa_cons (pv 2) (pa_cons (pe_glob (v := .ref _) (by rfl) T.g_BadFrame rfl) pa_nil))) pa_nil))) (pa_cons (pe_tup (pa_cons pe_str (pa_cons (pe_callB call_isH (by rfl) T.z_isinstance (by decide +kernel) (pa_cons (pv 2) (pa_cons (pe_glob (v := .ref _) (by rfl) T.g_BadPlan rfl) pa_nil))) pa_nil))) (pa_cons (pe_tup (pa_cons pe_str (pa_cons (pe_callB call_isH (by rfl) T.z_isinstance (by decide +kernel) (pa_cons (pv 2) (pa_cons (pe_glob (v := .ref _) (by rfl) T.g_BadSite rfl) pa_nil))) pa_nil))) pa_nil)))))))
  (pss_cons (ps_set (i := 4) sc_law_at_heard.nd rfl (.inl rfl) (pe_op op_cat (pv 4) (pe_lst (pa_cons (pe_tup (pa_cons pe_str (pa_cons (pe_callB call_isH (by rfl) T.z_isinstance (by decide +kernel) (pa_cons (pv 2) (pa_cons (pe_glob (v := .ref _) (by rfl) T.g_BadPaper rfl) pa_nil))) pa_nil))) (pa_cons (pe_tup (pa_cons pe_str (pa_cons (pe_callB call_isH (by rfl) T.z_isinstance (by decide +kernel) (pa_cons (pv 2) (pa_cons (pe_glob (v := .ref _) (by rfl) T.g_Misfit rfl) pa_nil))) pa_nil))) pa_nil)))))
  (pss_cons (ps_setLc (i := 5) (own := [("word", 6), ("is_one", 7)]) (g := (gTup X.K 2 (gCons (gName 6) (gCons (gName 7) gNil)))) rfl sc_law_at_heard.nd rfl rfl (sw_true rfl rfl rfl (by decide +kernel)) (pi_list (pv 4)) (blkOk_by (own := [("word", 6), ("is_one", 7)]) (N := n_law_at_heard) (sc := defScope s_law_at_heard) (by decide +kernel)) (fun _ _ _ _ _ => (pg_tup rfl (pgs_cons (pg_name (i := 6) sc_law_at_heard.nd rfl (.inl rfl)) (pgs_cons (pg_name (i := 7) sc_law_at_heard.nd rfl (.inl rfl)) pgs_nil)))) (fun _ _ _ _ _ => (pts_one (pt_val (pv 7)))) (fun _ _ _ _ _ => (pv 6)))
  (pss_one (ps_ret (pe_ifExp (pt_cmpR op_eq (pe_callB call_len_seq (by rfl) T.z_len (by decide +kernel) (pa_cons (pv 5) pa_nil)) pe_int (nomark _)) (pe_tup (pa_cons (pe_ix ix_list (pv 5) pe_int (fun _ _ => rfl)) (pa_cons (pe_xh (pv 2)) pa_nil))) (pe_tup (pa_cons pe_str pa_nil)))))))))))))))))), ?_⟩
  refine ⟨by show 2 ≤ sizeLine; decide, fun p np => ?_⟩
  have s1 := same_upd (o := .tup [.non, .non]) np
  refine ⟨p, _, rfl, .inl (.inl upd_same), rfl, _, _, rfl, _, _, rfl, rfl, ?_⟩
  refine ⟨_, ?_, rfl, s1 _ _ hc, h _ _ s1⟩
  rintro cls d H1 ⟨rfl, dd, pt, rfl, hd, hq⟩
  refine ⟨T.exm, fun a na => ?_⟩
  have s2 := same_upd (o := ExH (.ref CB) (some dd) a) na
  have ha : (upd H1 a (ExH (.ref CB) (some dd) a)) a = some (ExH (.ref CB) (some dd) a) := upd_same
  have hd2 := s2 _ _ hd
  refine ⟨_, rfl, rfl, _, rfl, ?_⟩
  rw [decide_eq_false (show ¬ (V.ref a = V.non) from fun z => by cases z)]
  refine iteF ?_
  refine ⟨_, rfl, a, CB, dd, _, _, false, rfl, ha, hd2, T.exC, T.k_TooMany, false, rfl, iteF ?_⟩
  refine ⟨_, rfl, a, CB, dd, _, _, false, rfl, ha, hd2, T.exC, T.k_BadText, false, rfl, iteF ?_⟩
  refine ⟨_, rfl, a, CB, dd, _, _, false, rfl, ha, hd2, T.exC, T.k_BadWord, false, rfl, iteF ?_⟩
  refine ⟨_, rfl, a, CB, dd, _, _, false, rfl, ha, hd2, T.exC, T.k_BadName, false, rfl, iteF ?_⟩
  refine ⟨_, rfl, a, CB, dd, _, _, false, rfl, ha, hd2, T.exC, T.k_NoName, false, rfl, iteF ?_⟩
  refine ⟨_, rfl, a, CB, dd, _, _, false, rfl, ha, hd2, T.exC, T.k_Nothing, false, rfl, iteF ?_⟩
  refine ⟨_, rfl, a, CB, dd, _, _, true, rfl, ha, hd2, T.exC, T.k_BadValue, by show 2 ≤ sizeLine; decide, fun t1 n1 => ?_⟩
  have S := same_upd (o := .tup [.str "value", .bl true]) n1
  have ha := S _ _ ha
  have hd2 := S _ _ hd2
  have s2 := s2.trans S
  have f1 := upd_at (o := .tup [.str "value", .bl true]) n1
  refine ⟨_, rfl, a, CB, dd, _, _, false, rfl, ha, hd2, T.exC, T.k_BadNumber, by show 2 ≤ sizeLine; decide, fun t2 n2 => ?_⟩
  have S := same_upd (o := .tup [.str "number", .bl false]) n2
  have ha := S _ _ ha
  have hd2 := S _ _ hd2
  have s2 := s2.trans S
  have f1 := S _ _ f1
  have f2 := upd_at (o := .tup [.str "number", .bl false]) n2
  refine ⟨_, rfl, a, CB, dd, _, _, false, rfl, ha, hd2, T.exC, T.k_BadKind, by show 2 ≤ sizeLine; decide, fun t3 n3 => ?_⟩
  have S := same_upd (o := .tup [.str "kind", .bl false]) n3
  have ha := S _ _ ha
  have hd2 := S _ _ hd2
  have s2 := s2.trans S
  have f1 := S _ _ f1
  have f2 := S _ _ f2
  have f3 := upd_at (o := .tup [.str "kind", .bl false]) n3
  refine ⟨_, rfl, a, CB, dd, _, _, false, rfl, ha, hd2, T.exC, T.k_BadKit, by show 2 ≤ sizeLine; decide, fun t4 n4 => ?_⟩
  have S := same_upd (o := .tup [.str "kit", .bl false]) n4
  have ha := S _ _ ha
  have hd2 := S _ _ hd2
  have s2 := s2.trans S
  have f1 := S _ _ f1
  have f2 := S _ _ f2
  have f3 := S _ _ f3
  have f4 := upd_at (o := .tup [.str "kit", .bl false]) n4
  refine ⟨by show 4 ≤ sizeLine; decide, fun l1 m1 => ?_⟩
  have S := same_upd (o := .lst [.ref t1, .ref t2, .ref t3, .ref t4]) m1
  have ha := S _ _ ha
  have hd2 := S _ _ hd2
  have s2 := s2.trans S
  have f1 := S _ _ f1
  have f2 := S _ _ f2
  have f3 := S _ _ f3
  have f4 := S _ _ f4
  have g1 := upd_at (o := .lst [.ref t1, .ref t2, .ref t3, .ref t4]) m1
  refine ⟨_, rfl, ?_⟩
  refine ⟨_, rfl, a, CB, dd, _, _, false, rfl, ha, hd2, T.exC, T.k_BadTower, by show 2 ≤ sizeLine; decide, fun t5 n5 => ?_⟩
  have S := same_upd (o := .tup [.str "tower", .bl false]) n5
  have ha := S _ _ ha
  have hd2 := S _ _ hd2
  have s2 := s2.trans S
  have f1 := S _ _ f1
  have f2 := S _ _ f2
  have f3 := S _ _ f3
  have f4 := S _ _ f4
  have g1 := S _ _ g1
  have f5 := upd_at (o := .tup [.str "tower", .bl false]) n5
  refine ⟨_, rfl, a, CB, dd, _, _, false, rfl, ha, hd2, T.exC, T.k_BadFrame, by show 2 ≤ sizeLine; decide, fun t6 n6 => ?_⟩
  have S := same_upd (o := .tup [.str "frame", .bl false]) n6
  have ha := S _ _ ha
  have hd2 := S _ _ hd2
  have s2 := s2.trans S
  have f1 := S _ _ f1
  have f2 := S _ _ f2
  have f3 := S _ _ f3
  have f4 := S _ _ f4
  have g1 := S _ _ g1
  have f5 := S _ _ f5
  have f6 := upd_at (o := .tup [.str "frame", .bl false]) n6
  refine ⟨_, rfl, a, CB, dd, _, _, false, rfl, ha, hd2, T.exC, T.k_BadPlan, by show 2 ≤ sizeLine; decide, fun t7 n7 => ?_⟩
  have S := same_upd (o := .tup [.str "plan", .bl false]) n7
  have ha := S _ _ ha
  have hd2 := S _ _ hd2
  have s2 := s2.trans S
  have f1 := S _ _ f1
  have f2 := S _ _ f2
  have f3 := S _ _ f3
  have f4 := S _ _ f4
  have g1 := S _ _ g1
  have f5 := S _ _ f5
  have f6 := S _ _ f6
  have f7 := upd_at (o := .tup [.str "plan", .bl false]) n7
  refine ⟨_, rfl, a, CB, dd, _, _, false, rfl, ha, hd2, T.exC, T.k_BadSite, by show 2 ≤ sizeLine; decide, fun t8 n8 => ?_⟩
  have S := same_upd (o := .tup [.str "site", .bl false]) n8
  have ha := S _ _ ha
  have hd2 := S _ _ hd2
  have s2 := s2.trans S
  have f1 := S _ _ f1
  have f2 := S _ _ f2
  have f3 := S _ _ f3
  have f4 := S _ _ f4
  have g1 := S _ _ g1
  have f5 := S _ _ f5
  have f6 := S _ _ f6
  have f7 := S _ _ f7
  have f8 := upd_at (o := .tup [.str "site", .bl false]) n8
  refine ⟨by show 4 ≤ sizeLine; decide, fun l2 m2 => ?_⟩
  have S := same_upd (o := .lst [.ref t5, .ref t6, .ref t7, .ref t8]) m2
  have ha := S _ _ ha
  have hd2 := S _ _ hd2
  have s2 := s2.trans S
  have f1 := S _ _ f1
  have f2 := S _ _ f2
  have f3 := S _ _ f3
  have f4 := S _ _ f4
  have g1 := S _ _ g1
  have f5 := S _ _ f5
  have f6 := S _ _ f6
  have f7 := S _ _ f7
  have f8 := S _ _ f8
  have g2 := upd_at (o := .lst [.ref t5, .ref t6, .ref t7, .ref t8]) m2
  refine ⟨l1, l2, _, _, rfl, rfl, g1, g2, by show 8 ≤ sizeLine; decide, fun l3 m3 => ?_⟩
  have S := same_upd (o := .lst [.ref t1, .ref t2, .ref t3, .ref t4, .ref t5, .ref t6, .ref t7, .ref t8]) m3
  have ha := S _ _ ha
  have hd2 := S _ _ hd2
  have s2 := s2.trans S
  have f1 := S _ _ f1
  have f2 := S _ _ f2
  have f3 := S _ _ f3
  have f4 := S _ _ f4
  have g1 := S _ _ g1
  have f5 := S _ _ f5
  have f6 := S _ _ f6
  have f7 := S _ _ f7
  have f8 := S _ _ f8
  have g2 := S _ _ g2
  have g3 := upd_at (o := .lst [.ref t1, .ref t2, .ref t3, .ref t4, .ref t5, .ref t6, .ref t7, .ref t8]) m3
  refine ⟨_, rfl, ?_⟩
  refine ⟨_, rfl, a, CB, dd, _, _, false, rfl, ha, hd2, T.exC, T.k_BadPaper, by show 2 ≤ sizeLine; decide, fun t9 n9 => ?_⟩
  have S := same_upd (o := .tup [.str "paper", .bl false]) n9
  have ha := S _ _ ha
  have hd2 := S _ _ hd2
  have s2 := s2.trans S
  have f1 := S _ _ f1
  have f2 := S _ _ f2
  have f3 := S _ _ f3
  have f4 := S _ _ f4
  have g1 := S _ _ g1
  have f5 := S _ _ f5
  have f6 := S _ _ f6
  have f7 := S _ _ f7
  have f8 := S _ _ f8
  have g2 := S _ _ g2
  have g3 := S _ _ g3
  have f9 := upd_at (o := .tup [.str "paper", .bl false]) n9
  refine ⟨_, rfl, a, CB, dd, _, _, false, rfl, ha, hd2, T.exC, T.k_Misfit, by show 2 ≤ sizeLine; decide, fun t10 n10 => ?_⟩
  have S := same_upd (o := .tup [.str "misfit", .bl false]) n10
  have ha := S _ _ ha
  have hd2 := S _ _ hd2
  have s2 := s2.trans S
  have f1 := S _ _ f1
  have f2 := S _ _ f2
  have f3 := S _ _ f3
  have f4 := S _ _ f4
  have g1 := S _ _ g1
  have f5 := S _ _ f5
  have f6 := S _ _ f6
  have f7 := S _ _ f7
  have f8 := S _ _ f8
  have g2 := S _ _ g2
  have g3 := S _ _ g3
  have f9 := S _ _ f9
  have f10 := upd_at (o := .tup [.str "misfit", .bl false]) n10
  refine ⟨by show 2 ≤ sizeLine; decide, fun l4 m4 => ?_⟩
  have S := same_upd (o := .lst [.ref t9, .ref t10]) m4
  have ha := S _ _ ha
  have hd2 := S _ _ hd2
  have s2 := s2.trans S
  have f1 := S _ _ f1
  have f2 := S _ _ f2
  have f3 := S _ _ f3
  have f4 := S _ _ f4
  have g1 := S _ _ g1
  have f5 := S _ _ f5
  have f6 := S _ _ f6
  have f7 := S _ _ f7
  have f8 := S _ _ f8
  have g2 := S _ _ g2
  have g3 := S _ _ g3
  have f9 := S _ _ f9
  have f10 := S _ _ f10
  have g4 := upd_at (o := .lst [.ref t9, .ref t10]) m4
  refine ⟨l3, l4, _, _, rfl, rfl, g3, g4, by show 10 ≤ sizeLine; decide, fun l5 m5 => ?_⟩
  have S := same_upd (o := .lst [.ref t1, .ref t2, .ref t3, .ref t4, .ref t5, .ref t6, .ref t7, .ref t8, .ref t9, .ref t10]) m5
  have ha := S _ _ ha
  have hd2 := S _ _ hd2
  have s2 := s2.trans S
  have f1 := S _ _ f1
  have f2 := S _ _ f2
  have f3 := S _ _ f3
  have f4 := S _ _ f4
  have g1 := S _ _ g1
  have f5 := S _ _ f5
  have f6 := S _ _ f6
  have f7 := S _ _ f7
  have f8 := S _ _ f8
  have g2 := S _ _ g2
  have g3 := S _ _ g3
  have f9 := S _ _ f9
  have f10 := S _ _ f10
  have g4 := S _ _ g4
  have g5 := upd_at (o := .lst [.ref t1, .ref t2, .ref t3, .ref t4, .ref t5, .ref t6, .ref t7, .ref t8, .ref t9, .ref t10]) m5
  refine ⟨_, rfl, l5, rfl, ⟨_, SqL.of g5⟩, fun D nD => ?_⟩
  refine lc_pairs [(t1, "value", true), (t2, "number", false), (t3, "kind", false), (t4, "kit", false), (t5, "tower", false), (t6, "frame", false), (t7, "plan", false), (t8, "site", false), (t9, "paper", false), (t10, "misfit", false)] (by show 10 < 1000; decide) nD (SqL.of g5) (fun p hp => ?_) (fun _ _ => rfl) (fun x b H Q q => ⟨_, rfl, b, rfl, q⟩) (fun x b H Q q => ⟨_, rfl, q⟩) (fun H4 sm hD => ?_)
  · simp only [List.mem_cons, List.not_mem_nil, or_false] at hp
    rcases hp with rfl | rfl | rfl | rfl | rfl | rfl | rfl | rfl | rfl | rfl
    · exact .inl (.inl f1)
    · exact .inl (.inl f2)
    · exact .inl (.inl f3)
    · exact .inl (.inl f4)
    · exact .inl (.inl f5)
    · exact .inl (.inl f6)
    · exact .inl (.inl f7)
    · exact .inl (.inl f8)
    · exact .inl (.inl f9)
    · exact .inl (.inl f10)
  · have hD : H4 D = some (.lst [.str "value"]) := hD
    refine ⟨_, rfl, D, _, rfl, .inl (SqL.of hD), rfl, _, rfl, iteT ?_⟩
    refine ⟨_, rfl, D, _, 0, _, rfl, rfl, SqL.of hD, rfl, _, rfl, a, CB, dd, _, .str pt, rfl, sm _ _ ha, sm _ _ hd2, T.xf, T.fld, rfl, by show 2 ≤ sizeLine; decide, fun z nz => ?_⟩
    exact hq _ z ((s2.trans sm).new nz) (.inl (.inl upd_same))
end
end AT

set_option Elab.async false
set_option linter.all false
set_option maxRecDepth 100000
set_option maxHeartbeats 4000000
namespace AT
open PySem PySem.Spec PyProof.Rows L2 LamX
section
variable {X : Cx} {ps : List Str} {params : Arguments} {body : Expr} {scope : Scope} {t : XK → TE} {CB c P : Addr} {ca : String → Addr} {p lpos pos : Pos}
theorem pe_heard (DH : Df X.K X.mg "_law_at_heard" s_law_at_heard) (T : Ex X.K X.mg CB ca) (TB : TabB X.base X.mg c P) (hcode : X.env.code = .ref c) (PS : ParS params ps) (L : LamP X.env.scope scope X.N ps) (hr : Room 8 X.A)
    (hbody : ∀ (A : Around) (outer : List Env) (s : Shared) (H : Hp) (E : XK) (f c' : Addr), Room 6 (A.deeper (lamEnv X scope s.heap.objs.size f c')) → PE (lamCx X A outer s H E scope f c') body (t E)) (hg : Gl X "_law_at_heard" := by rfl) :
    PE X (.Call (.Name "_law_at_heard" p) [.Lambda params body scope lpos] [] pos) (tLam [(P, X.env.qual ++ "<lambda>")] (TErr X.K CB) t) := by
  obtain ⟨f, fd, F, m⟩ := DH.ex
  have hb := F.binds (ps := ["ask"]) (fun _ _ _ _ _ _ us hl => match us, hl with | [_], _ => rfl)
  have kp := F.kp
  obtain ⟨oc, od, kV, doc, pm, an, cdv, ct, osl, rfl, lk, hcd⟩ := F.ex
  exact pe_lamX PS hg m kp lk hcd hb sc_law_at_heard rfl (.inl rfl) (heard_gives T) (fun Z tl H Q hZ h H1 Qf s1 => ⟨hZ H1 s1, h H1 Qf s1⟩) TB hcode (by simp) (fun p hp _ => by rw [List.mem_singleton.mp hp]) hr L hbody
end
/-! ### calls by two polynomials -/
theorem poly_no {ns : List Int} {H : Hp} {CB : Addr} {pt : Str} {E : XK} (t : PM.Tr ns) (h : dPoly (.tuple (dInts ns)) = false) : ErrP H CB pt E := by
  rw [dPoly_ints, decide_eq_true t] at h
  cases h
section
variable {K : PySem.W.Frag} {CB : Addr} {R : List Int → List Int → Hp → VK → Prop} {H : Hp} {a b : Addr} {ns ms : List Int} {Q : VK} {E : XK}
theorem two_tt (hA : TpI K H a ns) (hB : TpI K H b ms) (l1 : ns.length ≤ 10000) (l2 : ms.length ≤ 10000) (t1 : PM.Tr ns) (t2 : PM.Tr ms) (q : R ns ms H Q) : sp_two K CB R [.ref a, .ref b] H Q E :=
  ⟨_, _, _, _, rfl, dps_tup hA l1, dps_tup hB l2, fun h => poly_no t1 h, fun _ h => poly_no t2 h, fun ns' ms' e1 e2 _ _ => by
    have z1 := dInts_inj (PyData.tuple.inj e1)
    have z2 := dInts_inj (PyData.tuple.inj e2)
    subst z1 z2
    exact q⟩
theorem two_tl (hA : TpI K H a ns) (hB : LsI K H b ms) (l1 : ns.length ≤ 10000) (l2 : ms.length ≤ 10000) (t1 : PM.Tr ns) (t2 : PM.Tr ms) (q : R ns ms H Q) : sp_two K CB R [.ref a, .ref b] H Q E :=
  ⟨_, _, _, _, rfl, dps_tup hA l1, dps_lst hB l2, fun h => poly_no t1 h, fun _ h => poly_no t2 h, fun ns' ms' e1 e2 _ _ => by
    have z1 := dInts_inj (PyData.tuple.inj e1)
    have z2 := dInts_inj (PyData.tuple.inj e2)
    subst z1 z2
    exact q⟩
/-- the first one is no polynomial -/
theorem two_e1 {v1 v2 : V} {d1 d2 : PyData} (h1 : DpS K H v1 d1) (h2 : DpS K H v2 d2) (n1 : dPoly (asTup d1) = false) (e : ErrP H CB "one" E) : sp_two K CB R [v1, v2] H Q E :=
  ⟨_, _, _, _, rfl, h1, h2, fun _ => e, fun z => absurd (n1.symm.trans z) (by decide), fun ns ms e1 _ t1 _ => by
    rw [e1, dPoly_ints, decide_eq_true t1] at n1
    cases n1⟩
/-- the second one is none -/
theorem two_e2 {v2 : V} {d2 : PyData} (h1 : TpI K H a ns) (l1 : ns.length ≤ 10000) (t1 : PM.Tr ns) (h2 : DpS K H v2 d2) (n2 : dPoly (asTup d2) = false) (e : ErrP H CB "other" E) : sp_two K CB R [.ref a, v2] H Q E :=
  ⟨_, _, _, _, rfl, dps_tup h1 l1, h2, fun h => poly_no t1 h, fun _ _ => e, fun ns ms _ e2 _ t2 => by
    rw [e2, dPoly_ints, decide_eq_true t2] at n2
    cases n2⟩
end
/-! ### comprehensions with a test -/
theorem lcF {J : It} {n : Nat} {G : Hp → Prop} {v : Nat → V} (w : Walk J n G (YFn v)) {k : Nat} {tt : TT} {te : TE} {vs : List Nat} {σ : L2.St} {H1 : Hp} {D : Addr} {Qd : Hp → Prop} (pr : Nat → Bool) (f : Nat → V) (hG : ∀ H, Same H1 H → G H) (nD : H1 D = none)
    (hw : ∀ x, wipe ((wipe σ vs).set k (some x)) vs = wipe σ vs) (hn : n < sizeLine) (ht : ∀ i H (Q : Bool → Hp → Prop), i < n → Same H1 H → (∀ H4, Same H H4 → Q (pr i) H4) → tt ((wipe σ vs).set k (some (v i))) H Q)
    (hs : ∀ i H (Q : VK), i < n → Same H1 H → Q (f i) H → te ((wipe σ vs).set k (some (v i))) H Q) (hd : ∀ H, Same H1 H → H D = some (.lst (((List.range n).filter pr).map f)) → Qd H) :
    ∃ W : Nat → Nat → Hp → Prop, (∃ m, W 0 m (upd H1 D (.lst []))) ∧ ∀ i m H, W i m H →
      (J.stop i H ∧ Qd H) ∨ (J.go i H ∧ ∃ Nx : Hp → Prop, (∀ H', Nx H' → ∃ m', m' < m ∧ W (i + 1) m' H') ∧ ∀ x H', J.yld i H x H' → gName k x (wipe σ vs) H' fun σ2 H2 => wipe σ2 vs = wipe σ vs ∧ tt σ2 H2 fun b H3 =>
        if b = true then te σ2 H3 fun y H4 => ∃ acc, H4 D = some (.lst acc) ∧ acc.length < sizeLine ∧ Nx (upd H4 D (.lst (acc ++ [y]))) else Nx H3) := by
  refine ⟨fun i m H => m = n - i ∧ i ≤ n ∧ Same H1 H ∧ H D = some (.lst (((List.range i).filter pr).map f)), ⟨n, by simp, Nat.zero_le _, same_upd nD, upd_same⟩, ?_⟩
  rintro i m H ⟨rfl, hi, sm, hD⟩
  have q := hG H sm
  by_cases hlt : i < n
  · refine .inr ⟨w.goes i H hlt q, fun H' => Same H1 H' ∧ H' D = some (.lst (((List.range (i + 1)).filter pr).map f)), fun H' p' => ⟨n - (i + 1), by omega, rfl, hlt, p'.1, p'.2⟩, fun x H' y => ?_⟩
    obtain ⟨e1, e2⟩ := w.yields i H x H' hlt q y
    subst e1 e2
    refine ⟨hw _, ht i H' _ hlt sm fun H4 s4 => ?_⟩
    cases hb : pr i with
    | true =>
      refine iteT (hs i H4 _ hlt (sm.trans s4) ⟨_, s4 _ _ hD, ?_, (sm.trans s4).mut nD, ?_⟩)
      · have h1 := List.length_filter_le pr (List.range i)
        rw [List.length_range] at h1
        rw [List.length_map]
        omega
      · rw [upd_same, List.range_succ, List.filter_append, List.map_append]
        simp [hb]
    | false =>
      refine iteF ⟨sm.trans s4, ?_⟩
      rw [s4 _ _ hD, List.range_succ, List.filter_append, List.map_append]
      simp [hb]
  · have e : i = n := by omega
    subst e
    exact .inl ⟨w.stops H q, hd H sm hD⟩
theorem _root_.LamX.ExtN.tup {K : PySem.W.Frag} {H H' : Hp} {a : Addr} {xs : List V} (e : ExtN H H') (h : SqT K H a xs) : SqT K H' a xs := by
  rcases h with (h | ⟨o, h⟩) | h
  · exact .inl (.inl (e _ _ h fun ps z => by cases z))
  · exact .inl (.inr ⟨o, e _ _ h fun ps z => by cases z⟩)
  · exact .inr h
theorem _root_.LamX.ExtN.seq {K : PySem.W.Frag} {H H' : Hp} {a : Addr} {xs : List V} (e : ExtN H H') (h : SqL K H a xs) : SqL K H' a xs := by
  rcases h with (h | ⟨o, h⟩) | h
  · exact .inl (.inl (e _ _ h fun ps z => by cases z))
  · exact .inl (.inr ⟨o, e _ _ h fun ps z => by cases z⟩)
  · exact .inr h
mutual
theorem _root_.LamX.ExtN.dp {K : PySem.W.Frag} {H H' : Hp} (e : ExtN H H') : ∀ (d : PyData) (v : V), Dp K H v d → Dp K H' v d
  | .none, _, h => by cases h; exact .non
  | .bool b, _, h => by cases h; exact .bl b
  | .int i, _, h => by cases h; exact .int i
  | .str x, _, h => by cases h; exact .str x
  | .list ds, _, h => by
    cases h with
    | lst hs ha => exact .lst (e.seq hs) (LamX.ExtN.dpAll e ds _ ha)
  | .tuple ds, _, h => by
    cases h with
    | tup hs ha => exact .tup (e.tup hs) (LamX.ExtN.dpAll e ds _ ha)
  | .dict _, _, h => by cases h
theorem _root_.LamX.ExtN.dpAll {K : PySem.W.Frag} {H H' : Hp} (e : ExtN H H') : ∀ (ds : List PyData) (vs : List V), DpAll K H vs ds → DpAll K H' vs ds
  | [], _, h => by cases h; exact .nil
  | d :: ds, _, h => by
    cases h with
    | cons h1 h2 => exact .cons (LamX.ExtN.dp e d _ h1) (LamX.ExtN.dpAll e ds _ h2)
end
theorem _root_.L2.DpS.extN {K : PySem.W.Frag} {H H' : Hp} {v : V} {d : PyData} (h : DpS K H v d) (e : ExtN H H') : DpS K H' v d := ⟨e.dp d v h.1, h.2⟩
theorem at_lst {K : PySem.W.Frag} {H : Hp} {p : Addr} (xs : List V) (_ : H p = none) : SqL K (upd H p (.lst xs)) p xs := .inl (.inl upd_same)
theorem at_tup {K : PySem.W.Frag} {H : Hp} {p : Addr} (xs : List V) (_ : H p = none) : SqT K (upd H p (.tup xs)) p xs := .inl (.inl upd_same)
theorem at_ti {K : PySem.W.Frag} {H : Hp} {p : Addr} (ns : List Int) (_ : H p = none) : TpI K (upd H p (.tup (vInts ns))) p ns := ti_upd
theorem at_li {K : PySem.W.Frag} {H : Hp} {p : Addr} (ns : List Int) (_ : H p = none) : LsI K (upd H p (.lst (vInts ns))) p ns := li_upd
theorem at_obj {H : Hp} {p : Addr} (xs : List V) (_ : H p = none) : upd H p (.lst xs) p = some (.lst xs) := upd_same
/-- two texts in a tuple -/
def Two (K : PySem.W.Frag) (H : Hp) (r : Addr) (x y : Str) : Prop := SqT K H r [.str x, .str y]
theorem Two.dp {K : PySem.W.Frag} {H : Hp} {r : Addr} {x y : Str} (h : Two K H r x y) : Dp K H (.ref r) (.tuple [.str x, .str y]) := .tup h (.cons (.str x) (.cons (.str y) .nil))
theorem dps_int (K : PySem.W.Frag) (H : Hp) (i : Int) : DpS K H (.int i) (.int i) := ⟨.int i, rfl, rfl, fun ds e => by cases e⟩
theorem left_by {l : List Int} (h1 : decide (PM.Tr l) = true) (h2 : l.length ≤ 8) (h3 : (l.all fun c => decide (c.natAbs < 2 ^ 86)) = true) (h4 : (PM.lead l).natAbs < 2 ^ 11) : PM.LeftG l :=
  ⟨of_decide_eq_true h1, h2, PM.Bd.of fun c hc => of_decide_eq_true (List.all_eq_true.mp h3 c hc), h4⟩
theorem left_a : PM.LeftG [4, 0, -4] := left_by (by decide) (by decide) (by decide) (by decide)
theorem left_b : PM.LeftG [6, 6] := left_by (by decide) (by decide) (by decide) (by decide)
theorem left_c : PM.LeftG [5] := left_by (by decide) (by decide) (by decide) (by decide)
theorem left_d : PM.LeftG [] := left_by (by decide) (by decide) (by decide) (by decide)
theorem cdv_ab : PM.cdv [4, 0, -4] [6, 6] = [1, 1] := by decide +kernel
theorem cdv_cd : PM.cdv [5] [] = [1] := by decide +kernel
end AT

set_option Elab.async false
set_option linter.all false
set_option maxRecDepth 100000
set_option maxHeartbeats 8000000
namespace AT
open PySem PySem.Spec PyProof.Rows L2 LamX
section
variable {P : Program} {w : World} {K : PySem.W.Frag} {mg : Str → Option Value} {base : Heap} {CB c Pt : Addr} {ca : String → Addr}
abbrev slaw : Stmt := topS 48
abbrev nlaw : List Str := ["script", "pen", "turn", "one", "other", "total", "product_v", "point", "mine", "its", "factor", "left", "right", "both", "number", "bad", "heard"]
theorem sclaw : FnScope nlaw ["script"] (defScope slaw) := ⟨rfl, rfl, rfl, by decide +kernel, rfl, by decide +kernel, by decide +kernel⟩
def sp_law (K : PySem.W.Frag) (Pt : Addr) : Sp := fun vs H Q _ => ∃ a ns, vs = [.ref a] ∧ LsI K H a ns ∧ ns.length ≤ 63 ∧ H Pt = some (.tbl #[]) ∧ ∀ H', Q (.bl true) H'
theorem law_body (T : Ex K mg CB ca) (C__law_pen : Cl P w K mg base 1 "_law_pen" ["script"] (sp_pen K)) (C__law_pick : Cl P w K mg base 2 "_law_pick" ["pen", "some"] (sp_pick K)) (C__law_gr_value : Cl P w K mg base 1 "_law_gr_value" ["poly", "point"] (sp_value K))
    (C__law_gr_poly : Cl P w K mg base 3 "_law_gr_poly" ["pen", "most"] (sp_gr_poly K)) (C__law_gr_times : Cl P w K mg base 1 "_law_gr_times" ["one", "other"] (sp_gr_times K)) (C__law_gr_left : Cl P w K mg base 1 "_law_gr_left" ["one", "other"] (sp_gr_left K))
    (C_plus : Cl P w K mg base 4 "plus" ["one", "other"] (sp_two K CB (R_plus K))) (C_times : Cl P w K mg base 4 "times" ["one", "other"] (sp_two K CB (R_times K))) (C_common_divisor : Cl P w K mg base 6 "common_divisor" ["one", "other"] (sp_two K CB (R_cdv K)))
    (KW_plus : KwB K mg "plus" "one" "other") (KW_times : KwB K mg "times" "one" "other") (KW_common_divisor : KwB K mg "common_divisor" "one" "other") (DH : Df K mg "_law_at_heard" s_law_at_heard) (TB : TabB base mg c Pt)
    {f : Addr} {A : Around} {outer : List Env} {s : Shared} {H : Hp} {vs : List V} {Q : VK} {E : XK} (hr : Room 8 (A.deeper (envOfC "law" (defScope slaw) s.heap.objs.size f (.ref c)))) (h : sp_law K Pt vs H Q E) :
    ∃ t, PSs (cxOf CX0 P w K mg base nlaw "law" (defScope slaw) f (.ref c) A outer s H E).nox (defBody slaw) t ∧ t { nx := fun _ H' => Q .non H', rt := Q } (L2.start nlaw vs) H := by
  obtain ⟨a, ns, rfl, hS, hl, hT, q⟩ := h
  refine ⟨_, (pss_cons (ps_set (i := 1) sclaw.nd rfl (.inl rfl) (pe_f C__law_pen hr (pa_cons (pv 0) pa_nil)))
  (pss_cons (ps_for PassesOwn.never rfl (pi_range1 (by rfl) T.z_range (pa_cons pe_int pa_nil)) (pg_name (i := 2) sclaw.nd rfl (.inl rfl)) (pss_cons (ps_par (i := 3) (j := 4) (by rfl) sclaw.nd rfl rfl (by decide) rfl rfl (pa_cons (pe_f C__law_gr_poly hr (pa_cons (pv 1) (pa_cons pe_int pa_nil))) (pa_cons (pe_f C__law_gr_poly hr (pa_cons (pv 1) (pa_cons pe_int pa_nil))) pa_nil)) (by rfl))
  (pss_cons (ps_par (i := 5) (j := 6) (by rfl) sclaw.nd rfl rfl (by decide) rfl rfl (pa_cons (pe_f C_plus hr (pa_cons (pv 3) (pa_cons (pv 4) pa_nil))) (pa_cons (pe_f C_times hr (pa_cons (pv 3) (pa_cons (pv 4) pa_nil))) pa_nil)) (by rfl))
  (pss_cons (ps_for PassesOwn.never rfl (pi_range2 (by rfl) T.z_range (pa_cons (pe_un un_neg pe_int) (pa_cons pe_int pa_nil))) (pg_name (i := 7) sclaw.nd rfl (.inl rfl)) (pss_cons (ps_par (i := 8) (j := 9) (by rfl) sclaw.nd rfl rfl (by decide) rfl rfl (pa_cons (pe_f C__law_gr_value hr (pa_cons (pv 3) (pa_cons (pv 7) pa_nil))) (pa_cons (pe_f C__law_gr_value hr (pa_cons (pv 4) (pa_cons (pv 7) pa_nil))) pa_nil)) (by rfl))
  (pss_one (ps_if (PW.pt (pw_or (pt_cmpR op_ne (pe_f C__law_gr_value hr (pa_cons (pv 5) (pa_cons (pv 7) pa_nil))) (pe_op op_add (pv 8) (pv 9)) (nomark _)) (pw_or1 (pt_cmpR op_ne (pe_f C__law_gr_value hr (pa_cons (pv 6) (pa_cons (pv 7) pa_nil))) (pe_op op_mulK (pv 8) (pv 9)) (nomark _))))) (pss_one (ps_ret pe_bl)) pss_nil))))
  (C8.pss_cut (ps_if (PW.pt (pw_or (pt_cmpR (op_neD hr.units) (pv 6) (pe_f C__law_gr_times hr (pa_cons (pv 3) (pa_cons (pv 4) pa_nil))) (nomark _)) (pw_or (pt_cmpR (op_neD hr.units) (pe_fK2 C_plus KW_plus hr (pk_cons (pe_callTy call_list_of (by rfl) T.z_list (by decide +kernel) (pa_cons (pv 4) pa_nil)) (pk_cons (pv 3) pk_nil))) (pv 5) (nomark _)) (pw_or (pt_cmpR (op_neD hr.units) (pe_fK2 C_times KW_times hr (pk_cons (pv 4) (pk_cons (pv 3) pk_nil))) (pv 6) (nomark _)) (pw_or1 (PW.pt (pw_and (pt_cmpR (op_neD hr.units) (pv 5) (pe_tup pa_nil) (nomark _)) (pw_and1 (pt_cmpR op_eq (pe_ix ix_tup (pv 5) (pe_un un_neg pe_int) (fun _ _ => rfl)) pe_int (nomark _)))))))))) (pss_one (ps_ret pe_bl)) pss_nil)
  (pss_cons (ps_set (i := 10) sclaw.nd rfl (.inl rfl) (pe_f C__law_gr_poly hr (pa_cons (pv 1) (pa_cons pe_int pa_nil))))
  (pss_cons (ps_par (i := 11) (j := 12) (by rfl) sclaw.nd rfl rfl (by decide) rfl rfl (pa_cons (pe_f C__law_gr_times hr (pa_cons (pv 3) (pa_cons (pv 10) pa_nil))) (pa_cons (pe_f C__law_gr_times hr (pa_cons (pv 4) (pa_cons (pv 10) pa_nil))) pa_nil)) (by rfl))
  (pss_cons (ps_set (i := 13) sclaw.nd rfl (.inr rfl) (pe_f C_common_divisor hr (pa_cons (pv 11) (pa_cons (pv 12) pa_nil))))
  (C8.pss_cut (ps_if (PW.pt (pw_and (pt_cmpR (op_eqD hr.units) (pv 11) (pe_tup pa_nil) (nomark _)) (pw_and1 (pt_cmpR (op_eqD hr.units) (pv 12) (pe_tup pa_nil) (nomark _))))) (pss_cons (ps_if (pt_cmpR (op_neD hr.units) (pv 13) (pe_tup pa_nil) (nomark _)) (pss_one (ps_ret pe_bl)) pss_nil)
  (pss_one ps_continue)) pss_nil)
  (C8.pss_cut (ps_if (PW.pt (pw_or (pt_not (pt_val (pe_callB call_isi (by rfl) T.z_isinstance (by decide +kernel) (pa_cons (pv 13) (pa_cons (pe_bltn (v := .ty "tuple") (by rfl) T.z_tuple (by decide +kernel) rfl) pa_nil))))) (pw_or (pt_cmpR (op_eqD hr.units) (pv 13) (pe_tup pa_nil) (nomark _)) (pw_or (pt_cmpR op_lt (pe_ix ix_tup (pv 13) (pe_un un_neg pe_int) (fun _ _ => rfl)) pe_int (nomark _)) (pw_or (pt_cmpR (op_neD hr.units) (pe_f C__law_gr_left hr (pa_cons (pv 11) (pa_cons (pv 13) pa_nil))) (pe_tup pa_nil) (nomark _)) (pw_or (pt_cmpR (op_neD hr.units) (pe_f C__law_gr_left hr (pa_cons (pv 12) (pa_cons (pv 13) pa_nil))) (pe_tup pa_nil) (nomark _)) (pw_or1 (PW.pt (pw_and (pt_cmpR (op_neD hr.units) (pv 10) (pe_tup pa_nil) (nomark _)) (pw_and1 (pt_cmpR (op_neD hr.units) (pe_f C__law_gr_left hr (pa_cons (pv 13) (pa_cons (pv 10) pa_nil))) (pe_tup pa_nil) (nomark _)))))))))))) (pss_one (ps_ret pe_bl)) pss_nil)
  (pss_one (ps_if (PW.pt (pw_or (pt_cmpR (op_neD hr.units) (pe_lc (own := [("number", 14)]) (g := (gName 14)) rfl sclaw.nd (pi_tup (pe_tup (pa_cons pe_int (pa_cons pe_int (pa_cons pe_int (pa_cons pe_int pa_nil)))))) (blkOk_by (own := [("number", 14)]) (N := nlaw) (sc := defScope slaw) (by decide +kernel)) (fun _ _ _ _ _ => (pg_name (i := 14) sclaw.nd rfl (.inr rfl))) (fun _ _ _ _ _ => (pts_one (pt_cmpR (show OpR _ _ (rEqD K) from op_eqD hr.units) (pe_lc (own := [("its", 9)]) (g := (gName 9)) rfl sclaw.nd (show PI _ _ _ (iTup K _) from pi_tup (pv 13)) (blkOk_by (own := [("its", 9)]) (N := nlaw) (sc := relS { kind := .function, names := [((".0" : Str), .local), (("number" : Str), .cell), (("both" : Str), .free)], isGenerator := false, isCoroutine := false } (defScope slaw)) (by decide +kernel)) (fun _ _ _ _ _ => (pg_name (i := 9) sclaw.nd rfl (.inl rfl))) (fun _ _ _ _ _ => (pts_one (pt_cmpR op_ne (pe_op op_mod (pe_callTy call_int1 (by rfl) T.z_int (by decide +kernel) (pa_cons (pv 9) pa_nil)) (pv 14)) pe_int (nomark _)))) (fun _ _ _ _ _ => pe_int)) (pe_lst pa_nil) (nomark _)))) (fun _ _ _ _ _ => (pv 14))) (pe_lst pa_nil) (nomark _)) (pw_or1 (pt_cmpR (op_neD hr.units) (pe_fK2 C_common_divisor KW_common_divisor hr (pk_cons (pv 12) (pk_cons (pv 11) pk_nil))) (pv 13) (nomark _))))) (pss_one (ps_ret pe_bl)) pss_nil))))))))))))
  (pss_cons (ps_set (i := 15) sclaw.nd rfl (.inr rfl) (pe_f C__law_pick hr (pa_cons (pv 1) (pa_cons (pe_lst (pa_cons pe_non (pa_cons pe_int (pa_cons pe_str (pa_cons (pe_lst (pa_cons pe_int (pa_cons pe_int pa_nil))) (pa_cons (pe_tup (pa_cons pe_int (pa_cons pe_int pa_nil))) (pa_cons (pe_tup (pa_cons pe_bl pa_nil)) (pa_cons (pe_tup (pa_cons pe_non pa_nil)) (pa_cons (pe_tup (pa_cons pe_str pa_nil)) (pa_cons (pe_tup (pa_cons pe_int pa_nil)) (pa_cons (pe_tup (pa_cons (pe_tup (pa_cons pe_int pa_nil)) pa_nil)) pa_nil))))))))))) pa_nil))))
  (pss_cons (ps_set (i := 16) sclaw.nd rfl (.inl rfl) (pe_lst (pa_cons (pe_heard DH T TB (by rfl) .no (lamP_by (sc := defScope slaw) (N := nlaw) (by decide +kernel)) hr (fun A outer s H E f c' hr2 => (pe_fX C_plus hr2 (passes_call (takes_of rfl rfl rfl rfl) (fun _ _ _ _ h => h)) (pa_cons (pv 15) (pa_cons (pv 15) pa_nil))))) (pa_cons (pe_heard DH T TB (by rfl) (.one _ _ _ _ _) (lamP_by (sc := defScope slaw) (N := nlaw) (by decide +kernel)) hr (fun A outer s H E f c' hr2 => (pe_fX C_plus hr2 (passes_call (takes_of rfl rfl rfl rfl) (fun _ _ _ _ h => h)) (pa_cons (pe_tup pa_nil) (pa_cons (pv 15) pa_nil))))) (pa_cons (pe_heard DH T TB (by rfl) (.one _ _ _ _ _) (lamP_by (sc := defScope slaw) (N := nlaw) (by decide +kernel)) hr (fun A outer s H E f c' hr2 => (pe_fX C_times hr2 (passes_call (takes_of rfl rfl rfl rfl) (fun _ _ _ _ h => h)) (pa_cons (pv 15) (pa_cons (pe_tup pa_nil) pa_nil))))) (pa_cons (pe_heard DH T TB (by rfl) (.one _ _ _ _ _) (lamP_by (sc := defScope slaw) (N := nlaw) (by decide +kernel)) hr (fun A outer s H E f c' hr2 => (pe_fX C_times hr2 (passes_call (takes_of rfl rfl rfl rfl) (fun _ _ _ _ h => h)) (pa_cons (pe_tup (pa_cons pe_int pa_nil)) (pa_cons (pv 15) pa_nil))))) pa_nil))))))
  (pss_cons (ps_set (i := 16) sclaw.nd rfl (.inl rfl) (pe_op op_cat (pv 16) (pe_lst (pa_cons (pe_heard DH T TB (by rfl) .no (lamP_by (sc := defScope slaw) (N := nlaw) (by decide +kernel)) hr (fun A outer s H E f c' hr2 => (pe_fX C_common_divisor hr2 (passes_call (takes_of rfl rfl rfl rfl) (fun _ _ _ _ h => h)) (pa_cons (pv 15) (pa_cons pe_int pa_nil))))) (pa_cons (pe_heard DH T TB (by rfl) (.one _ _ _ _ _) (lamP_by (sc := defScope slaw) (N := nlaw) (by decide +kernel)) hr (fun A outer s H E f c' hr2 => (pe_fX C_common_divisor hr2 (passes_call (takes_of rfl rfl rfl rfl) (fun _ _ _ _ h => h)) (pa_cons (pe_tup (pa_cons pe_int pa_nil)) (pa_cons (pv 15) pa_nil))))) pa_nil)))))
  (pss_one (ps_ret (pe_and (pe_cmpR (op_eqD hr.units) (pv 16) (pe_op op_rep (pe_lst (pa_cons (pe_tup (pa_cons pe_str (pa_cons pe_str pa_nil))) (pa_cons (pe_tup (pa_cons pe_str (pa_cons pe_str pa_nil))) pa_nil))) pe_int) (nomark _)) (pe_and (pe_cmpR (op_eqD hr.units) (pe_f C_common_divisor hr (pa_cons (pe_tup (pa_cons pe_int (pa_cons pe_int (pa_cons (pe_un un_neg pe_int) pa_nil)))) (pa_cons (pe_tup (pa_cons pe_int (pa_cons pe_int pa_nil))) pa_nil))) (pe_tup (pa_cons pe_int (pa_cons pe_int pa_nil))) (nomark _)) (pe_one (pe_cmpR (op_eqD hr.units) (pe_f C_common_divisor hr (pa_cons (pe_tup (pa_cons pe_int pa_nil)) (pa_cons (pe_tup pa_nil) pa_nil))) (pe_tup (pa_cons pe_int pa_nil)) (nomark _)))))))))))), ?_⟩
  refine ⟨_, rfl, a, ns, rfl, hS, hl, fun H1 p C s1 np hp => ?_⟩
  obtain ⟨zp, hzp⟩ := hp.lst
  have hne : Pt ≠ p := fun e => by
    have := s1 _ _ hT
    rw [e, hzp] at this
    cases this
  have hT := s1 _ _ hT
  refine ⟨12, rfl, by decide, by decide, ?_⟩
  refine for_it (walk_range (lo := 0)) (fun i σ H' => ∃ x2 x3 x4 x5 x6 x7 x8 x9 x10 x11 x12 x13 x14 x15 x16, σ = [some (.ref a), some (.ref p), x2, x3, x4, x5, x6, x7, x8, x9, x10, x11, x12, x13, x14, x15, x16] ∧ Pen K H' p C (60 * i) ∧ H' Pt = some (.tbl #[]))
    ⟨none, none, none, none, none, none, none, none, none, none, none, none, none, none, none, rfl, hp, hT⟩ (fun _ _ _ _ _ => trivial) (fun i x σ H2 H2' hi hP hY => ?_) (fun σ H2 h => ?_)
  · obtain ⟨x2, x3, x4, x5, x6, x7, x8, x9, x10, x11, x12, x13, x14, x15, x16, rfl, hp, hT⟩ := hP
    obtain ⟨rfl, rfl⟩ := hY
    refine ⟨_, rfl, p, C, 6, 60 * i, rfl, hp, by omega, by decide, fun H3 a1 ns sx hp h1 g1 => ?_⟩
    have hT := sx _ _ hne hT
    refine ⟨_, rfl, p, C, 6, 60 * i + 20, rfl, hp, by omega, by decide, fun H4 a2 ms sx hp' h2 g2 => ?_⟩
    have hT := sx _ _ hne hT
    have h1 := sx.t hp h1
    have hp := hp'
    refine ⟨_, _, rfl, ?_⟩
    obtain ⟨t1, l1, b1, d1⟩ := g1
    obtain ⟨t2, l2, b2, d2⟩ := g2
    have mo : ∀ i j, IntMulOk (PM.cf ns i) (PM.cf ms j) := fun i j => mulk_bd (b1 i) (b2 j) (by decide)
    refine ⟨_, rfl, _, rfl, two_tt h1 h2 (by omega) (by omega) t1 t2 fun H5 at_ S ht => ?_⟩
    have hT := S _ _ hT
    have h1 := S.ti h1
    have h2 := S.ti h2
    have hp := hp.same S
    refine ⟨_, rfl, _, rfl, two_tt h1 h2 (by omega) (by omega) t1 t2 ⟨mo, fun H6 ap S hq => ?_⟩⟩
    have hT := S _ _ hT
    have h1 := S.ti h1
    have h2 := S.ti h2
    have hp := hp.same S
    have ht := S.ti ht
    rw [PM.prod_grT t1 t2] at hq
    refine ⟨_, _, rfl, ?_⟩
    have ltot : (PM.sumL ns ms).length ≤ 6 := by
      have := PM.cut_len (PM.add ns ms)
      rw [PM.add_len] at this
      show (PM.cut _).length ≤ 6
      omega
    have lpro : (PM.grT ns ms).length ≤ 12 := by
      unfold PM.grT
      split
      · simp
      · rename_i z
        rw [PM.mul_len ns ms (fun e => z (.inl e)) fun e => z (.inr e)]
        omega
    refine ⟨7, rfl, -7, 8, rfl, by decide, ?_⟩
    refine for_it (walk_range (lo := -7) (n := 15)) (fun j σ H' => ∃ x7 x8 x9, σ = [some (.ref a), some (.ref p), some (.int (0 + (i : Int))), some (.ref a1), some (.ref a2), some (.ref at_), some (.ref ap), x7, x8, x9, x10, x11, x12, x13, x14, x15, x16] ∧ Same H6 H') ⟨x7, x8, x9, rfl, Same.refl _⟩ (fun _ _ _ _ _ => trivial) (fun j y σ H7 H7' hj hP hY => ?_) (fun σ H7 h => ?_)
    · obtain ⟨y7, y8, y9, rfl, S0⟩ := hP
      obtain ⟨rfl, rfl⟩ := hY
      have xb : -(2 ^ 64) < (-7 + (j : Int)) ∧ (-7 + (j : Int)) < 2 ^ 64 := ⟨by omega, by omega⟩
      have hT := S0 _ _ hT
      have h1 := S0.ti h1
      have h2 := S0.ti h2
      have hp := hp.same S0
      have ht := S0.ti ht
      have hq := S0.ti hq
      refine ⟨_, rfl, _, rfl, a1, ns, _, rfl, h1, by omega, xb.1, xb.2, fun H8 S => ?_⟩
      have hT := S _ _ hT
      have h1 := S.ti h1
      have h2 := S.ti h2
      have hp := hp.same S
      have ht := S.ti ht
      have hq := S.ti hq
      have S0 := S0.trans S
      refine ⟨_, rfl, _, rfl, a2, ms, _, rfl, h2, by omega, xb.1, xb.2, fun H8 S => ⟨_, _, rfl, ?_⟩⟩
      have hT := S _ _ hT
      have h1 := S.ti h1
      have h2 := S.ti h2
      have hp := hp.same S
      have ht := S.ti ht
      have hq := S.ti hq
      have S0 := S0.trans S
      refine ⟨_, rfl, _, rfl, at_, _, _, rfl, ht, by omega, xb.1, xb.2, fun H8 S => ?_⟩
      have hT := S _ _ hT
      have h1 := S.ti h1
      have h2 := S.ti h2
      have hp := hp.same S
      have ht := S.ti ht
      have hq := S.ti hq
      have S0 := S0.trans S
      refine ⟨_, rfl, _, rfl, _, _, rfl, rfl, rfl, _, rfl, ?_⟩
      rw [PM.ev_sumL, decide_eq_true rfl]
      refine iteF ⟨_, rfl, _, rfl, ap, _, _, rfl, hq, by omega, xb.1, xb.2, fun H8 S => ?_⟩
      have hT := S _ _ hT
      have h1 := S.ti h1
      have h2 := S.ti h2
      have hp := hp.same S
      have ht := S.ti ht
      have hq := S.ti hq
      have S0 := S0.trans S
      have eb : (PM.ev ns (-7 + (j : Int))).natAbs < 2 ^ 58 := Nat.lt_of_lt_of_le (PM.ev_bd (n := 40) (by omega) b1) (by
        have := Nat.pow_le_pow_right (show 0 < 8 by decide) l1
        have e1 : 2 ^ 40 * 8 ^ 6 = 2 ^ 58 := by decide
        rw [← e1]
        exact Nat.mul_le_mul_left _ this)
      have e58 : (2 : Nat) ^ 58 = 288230376151711744 := by decide
      refine ⟨_, rfl, _, rfl, _, _, rfl, rfl, mulk_l (by omega) (by omega), rfl, _, rfl, ?_⟩
      rw [PM.ev_grT, decide_eq_true rfl]
      exact iteF ⟨_, _, _, rfl, S0⟩
    · obtain ⟨x7, x8, x9, rfl, S0⟩ := h
      have hT := S0 _ _ hT
      have h1 := S0.ti h1
      have h2 := S0.ti h2
      have hp := hp.same S0
      have ht := S0.ti ht
      have hq := S0.ti hq
      refine ⟨fun σ' H' => σ' = [some (.ref a), some (.ref p), some (.int (0 + (i : Int))), some (.ref a1), some (.ref a2), some (.ref at_), some (.ref ap), x7, x8, x9, x10, x11, x12, x13, x14, x15, x16] ∧ Same H7 H', ?_, ?_⟩
      · have S0 := Same.refl H7
        refine ⟨_, rfl, _, rfl, _, rfl, a1, a2, ns, ms, rfl, h1, h2, by omega, by omega, mo, fun H8 a3 S h3 => ?_⟩
        have hT := S _ _ hT
        have h1 := S.ti h1
        have h2 := S.ti h2
        have hp := hp.same S
        have ht := S.ti ht
        have hq := S.ti hq
        have S0 := S0.trans S
        refine ⟨_, _, dp_tup hq, dp_tup h3, shaped_tup _, shaped_tup _, _, rfl, ?_⟩
        rw [eqv_tup, decide_eq_true rfl]
        refine iteF ⟨_, rfl, a2, _, rfl, .inr h2, fun l nl => ?_⟩
        have S := same_upd (o := .lst (vInts ms)) nl
        have hT := S _ _ hT
        have h1 := S.ti h1
        have h2 := S.ti h2
        have hp := hp.same S
        have ht := S.ti ht
        have hq := S.ti hq
        have S0 := S0.trans S
        refine ⟨_, rfl, two_tl h1 li_upd (by omega) (by omega) t1 t2 fun H9 a4 S h4 => ?_⟩
        have hT := S _ _ hT
        have h1 := S.ti h1
        have h2 := S.ti h2
        have hp := hp.same S
        have ht := S.ti ht
        have hq := S.ti hq
        have S0 := S0.trans S
        refine ⟨_, rfl, _, _, dp_tup h4, dp_tup ht, shaped_tup _, shaped_tup _, _, rfl, ?_⟩
        rw [eqv_tup, decide_eq_true rfl]
        refine iteF ⟨_, rfl, _, rfl, two_tt h1 h2 (by omega) (by omega) t1 t2 ⟨mo, fun H10 a5 S h5 => ?_⟩⟩
        have hT := S _ _ hT
        have h1 := S.ti h1
        have h2 := S.ti h2
        have hp := hp.same S
        have ht := S.ti ht
        have hq := S.ti hq
        have S0 := S0.trans S
        rw [PM.prod_grT t1 t2] at h5
        refine ⟨_, rfl, _, _, dp_tup h5, dp_tup hq, shaped_tup _, shaped_tup _, _, rfl, ?_⟩
        rw [eqv_tup, decide_eq_true rfl]
        refine iteF ⟨_, rfl, by show 0 ≤ sizeLine; decide, fun e ne => ?_⟩
        have S := same_upd (o := .tup []) ne
        have hT := S _ _ hT
        have h1 := S.ti h1
        have h2 := S.ti h2
        have hp := hp.same S
        have ht := S.ti ht
        have hq := S.ti hq
        have S0 := S0.trans S
        refine ⟨_, _, dp_tup ht, dp_tup (ns := []) ti_nil, shaped_tup _, shaped_tup [], _, rfl, ?_⟩
        rw [eqv_tup]
        by_cases hz : PM.sumL ns ms = []
        · rw [decide_eq_true hz]
          exact iteF ⟨rfl, S0⟩
        · rw [decide_eq_false hz]
          refine iteT ⟨_, rfl, 1, rfl, at_, _, -1, _, rfl, rfl, ht, vInts_last hz, rfl, _, rfl, ?_⟩
          have lz : ¬ (V.int (PM.lead (PM.sumL ns ms)) = V.int 0) := fun z => PM.lead_ne (PM.tr_cut _) hz (V.int.inj z)
          rw [decide_eq_false lz]
          exact iteF ⟨rfl, S0⟩
      rintro σ' H8 ⟨rfl, S⟩
      have hT := S _ _ hT
      have h1 := S.ti h1
      have h2 := S.ti h2
      have hp := hp.same S
      have ht := S.ti ht
      have hq := S.ti hq
      refine ⟨_, rfl, p, C, 3, 60 * i + 40, rfl, hp, by omega, by decide, fun H9 a5 fs sx hp' h5 g5 => ?_⟩
      have hT := sx _ _ hne hT
      have h1 := sx.t hp h1
      have h2 := sx.t hp h2
      have ht := sx.t hp ht
      have hq := sx.t hp hq
      have hp := hp'
      obtain ⟨t5, l5, b5, d5⟩ := g5
      have A := PM.left_g t1 t5 l1 l5 b1 b5 d1 d5
      have B := PM.left_g t2 t5 l2 l5 b2 b5 d2 d5
      have c := PM.cdv_ok A.tr B.tr
      have lA := A.len
      have lB := B.len
      have lc := PM.cdv_len A B
      refine ⟨_, rfl, _, rfl, a1, a5, ns, fs, rfl, h1, h5, by omega, by omega, fun i j => mulk_bd (b1 i) (b5 j) (by decide), fun H10 aL S hL => ?_⟩
      have hT := S _ _ hT
      have h1 := S.ti h1
      have h2 := S.ti h2
      have hp := hp.same S
      have ht := S.ti ht
      have hq := S.ti hq
      have h5 := S.ti h5
      refine ⟨_, rfl, _, rfl, a2, a5, ms, fs, rfl, h2, h5, by omega, by omega, fun i j => mulk_bd (b2 i) (b5 j) (by decide), fun H11 aR S hR => ?_⟩
      have hT := S _ _ hT
      have h1 := S.ti h1
      have h2 := S.ti h2
      have hp := hp.same S
      have ht := S.ti ht
      have hq := S.ti hq
      have h5 := S.ti h5
      have hL := S.ti hL
      refine ⟨_, _, rfl, ?_⟩
      refine ⟨_, rfl, _, rfl, two_tt hL hR (by omega) (by omega) A.tr B.tr ⟨A.pr, B.pr, ⟨11, PM.cdv_co A B⟩, fun H12 ab S hb => ?_⟩⟩
      have hT := S _ _ hT
      have h1 := S.ti h1
      have h2 := S.ti h2
      have hp := hp.same S
      have ht := S.ti ht
      have hq := S.ti hq
      have h5 := S.ti h5
      have hL := S.ti hL
      have hR := S.ti hR
      refine ⟨fun σ' H' => σ' = [some (.ref a), some (.ref p), some (.int (0 + (i : Int))), some (.ref a1), some (.ref a2), some (.ref at_), some (.ref ap), x7, x8, x9, some (.ref a5), some (.ref aL), some (.ref aR), some (.ref ab), x14, x15, x16] ∧ Same H12 H' ∧ (PM.grT ns fs ≠ [] ∨ PM.grT ms fs ≠ []), ?_, ?_⟩
      · have S0 := Same.refl H12
        refine ⟨_, rfl, by show 0 ≤ sizeLine; decide, fun e ne => ?_⟩
        have S := same_upd (o := .tup []) ne
        have hT := S _ _ hT
        have h1 := S.ti h1
        have h2 := S.ti h2
        have hp := hp.same S
        have ht := S.ti ht
        have hq := S.ti hq
        have h5 := S.ti h5
        have hL := S.ti hL
        have hR := S.ti hR
        have hb := S.ti hb
        have S0 := S0.trans S
        refine ⟨_, _, dp_tup hL, dp_tup (ns := []) ti_nil, shaped_tup _, shaped_tup [], _, rfl, ?_⟩
        rw [eqv_tup]
        by_cases z1 : PM.grT ns fs = []
        · rw [decide_eq_true z1]
          refine iteT ?_
          refine ⟨_, rfl, by show 0 ≤ sizeLine; decide, fun e ne => ?_⟩
          have S := same_upd (o := .tup []) ne
          have hT := S _ _ hT
          have h1 := S.ti h1
          have h2 := S.ti h2
          have hp := hp.same S
          have ht := S.ti ht
          have hq := S.ti hq
          have h5 := S.ti h5
          have hL := S.ti hL
          have hR := S.ti hR
          have hb := S.ti hb
          have S0 := S0.trans S
          refine ⟨_, _, dp_tup hR, dp_tup (ns := []) ti_nil, shaped_tup _, shaped_tup [], _, rfl, ?_⟩
          rw [eqv_tup]
          by_cases z2 : PM.grT ms fs = []
          · rw [decide_eq_true z2]
            refine iteT ?_
            refine ⟨_, rfl, by show 0 ≤ sizeLine; decide, fun e ne => ?_⟩
            have S := same_upd (o := .tup []) ne
            have hT := S _ _ hT
            have h1 := S.ti h1
            have h2 := S.ti h2
            have hp := hp.same S
            have ht := S.ti ht
            have hq := S.ti hq
            have h5 := S.ti h5
            have hL := S.ti hL
            have hR := S.ti hR
            have hb := S.ti hb
            have S0 := S0.trans S
            refine ⟨_, _, dp_tup hb, dp_tup (ns := []) ti_nil, shaped_tup _, shaped_tup [], _, rfl, ?_⟩
            rw [eqv_tup]
            rw [decide_eq_true (show PM.cdv (PM.grT ns fs) (PM.grT ms fs) = [] by rw [z1, z2]; rfl)]
            exact iteF ⟨_, _, _, _, _, _, _, _, _, _, _, _, _, _, _, rfl, hp.mono (by omega), hT⟩
          · rw [decide_eq_false z2]
            exact iteF ⟨rfl, S0, .inr z2⟩
        · rw [decide_eq_false z1]
          exact iteF ⟨rfl, S0, .inl z1⟩
      rintro σ' H13 ⟨rfl, S, hz⟩
      have hT := S _ _ hT
      have h1 := S.ti h1
      have h2 := S.ti h2
      have hp := hp.same S
      have ht := S.ti ht
      have hq := S.ti hq
      have h5 := S.ti h5
      have hL := S.ti hL
      have hR := S.ti hR
      have hb := S.ti hb
      have gne := c.ne hz
      refine ⟨fun σ' H' => σ' = [some (.ref a), some (.ref p), some (.int (0 + (i : Int))), some (.ref a1), some (.ref a2), some (.ref at_), some (.ref ap), x7, x8, x9, some (.ref a5), some (.ref aL), some (.ref aR), some (.ref ab), x14, x15, x16] ∧ Same H13 H', ?_, ?_⟩
      · have S0 := Same.refl H13
        refine ⟨_, rfl, .ref ab, .ty "tuple", _, _, true, rfl, .ty _, dp_ty (dp_tup hb), kit_ty kb_tt, true, rfl, iteF ?_⟩
        refine ⟨_, rfl, by show 0 ≤ sizeLine; decide, fun e ne => ?_⟩
        have S := same_upd (o := .tup []) ne
        have hT := S _ _ hT
        have h1 := S.ti h1
        have h2 := S.ti h2
        have hp := hp.same S
        have ht := S.ti ht
        have hq := S.ti hq
        have h5 := S.ti h5
        have hL := S.ti hL
        have hR := S.ti hR
        have hb := S.ti hb
        have S0 := S0.trans S
        refine ⟨_, _, dp_tup hb, dp_tup (ns := []) ti_nil, shaped_tup _, shaped_tup [], _, rfl, ?_⟩
        rw [eqv_tup]
        rw [decide_eq_false gne]
        refine iteF ⟨_, rfl, 1, rfl, ab, _, -1, _, rfl, rfl, hb, vInts_last gne, _, _, rfl, rfl, _, rfl, ?_⟩
        rw [decide_eq_false (show ¬ PM.lead (PM.cdv (PM.grT ns fs) (PM.grT ms fs)) < 1 by have := c.pos gne; omega)]
        refine iteF ⟨_, rfl, _, rfl, aL, ab, _, _, rfl, hL, hb, by omega, by omega, A.tr, c.tr, gne, PM.pd_lg A B, fun H14 az S hz1 => ?_⟩
        have hT := S _ _ hT
        have h1 := S.ti h1
        have h2 := S.ti h2
        have hp := hp.same S
        have ht := S.ti ht
        have hq := S.ti hq
        have h5 := S.ti h5
        have hL := S.ti hL
        have hR := S.ti hR
        have hb := S.ti hb
        have S0 := S0.trans S
        rw [PM.pmod_nil A.tr c.tr gne c.l] at hz1
        refine ⟨by show 0 ≤ sizeLine; decide, fun e ne => ?_⟩
        have S := same_upd (o := .tup []) ne
        have hT := S _ _ hT
        have h1 := S.ti h1
        have h2 := S.ti h2
        have hp := hp.same S
        have ht := S.ti ht
        have hq := S.ti hq
        have h5 := S.ti h5
        have hL := S.ti hL
        have hR := S.ti hR
        have hb := S.ti hb
        have hz1 := S.ti hz1
        have S0 := S0.trans S
        refine ⟨_, _, dp_tup hz1, dp_tup (ns := []) ti_nil, shaped_tup _, shaped_tup [], _, rfl, ?_⟩
        rw [eqv_tup]
        rw [decide_eq_true rfl]
        refine iteF ⟨_, rfl, _, rfl, aR, ab, _, _, rfl, hR, hb, by omega, by omega, B.tr, c.tr, gne, PM.pd_rg A B, fun H15 ay S hz2 => ?_⟩
        have hT := S _ _ hT
        have h1 := S.ti h1
        have h2 := S.ti h2
        have hp := hp.same S
        have ht := S.ti ht
        have hq := S.ti hq
        have h5 := S.ti h5
        have hL := S.ti hL
        have hR := S.ti hR
        have hb := S.ti hb
        have hz1 := S.ti hz1
        have S0 := S0.trans S
        rw [PM.pmod_nil B.tr c.tr gne c.r] at hz2
        refine ⟨by show 0 ≤ sizeLine; decide, fun e ne => ?_⟩
        have S := same_upd (o := .tup []) ne
        have hT := S _ _ hT
        have h1 := S.ti h1
        have h2 := S.ti h2
        have hp := hp.same S
        have ht := S.ti ht
        have hq := S.ti hq
        have h5 := S.ti h5
        have hL := S.ti hL
        have hR := S.ti hR
        have hb := S.ti hb
        have hz1 := S.ti hz1
        have hz2 := S.ti hz2
        have S0 := S0.trans S
        refine ⟨_, _, dp_tup hz2, dp_tup (ns := []) ti_nil, shaped_tup _, shaped_tup [], _, rfl, ?_⟩
        rw [eqv_tup]
        rw [decide_eq_true rfl]
        refine iteF ?_
        refine ⟨_, rfl, by show 0 ≤ sizeLine; decide, fun e ne => ?_⟩
        have S := same_upd (o := .tup []) ne
        have hT := S _ _ hT
        have h1 := S.ti h1
        have h2 := S.ti h2
        have hp := hp.same S
        have ht := S.ti ht
        have hq := S.ti hq
        have h5 := S.ti h5
        have hL := S.ti hL
        have hR := S.ti hR
        have hb := S.ti hb
        have hz1 := S.ti hz1
        have hz2 := S.ti hz2
        have S0 := S0.trans S
        refine ⟨_, _, dp_tup h5, dp_tup (ns := []) ti_nil, shaped_tup _, shaped_tup [], _, rfl, ?_⟩
        rw [eqv_tup]
        by_cases z5 : fs = []
        · rw [decide_eq_true z5]
          exact iteF ⟨rfl, S0⟩
        rw [decide_eq_false z5]
        refine iteT ⟨_, rfl, _, rfl, ab, a5, _, _, rfl, hb, h5, by omega, by omega, c.tr, t5, z5, PM.pd_gf A B b5, fun H16 ax S hz3 => ?_⟩
        have hT := S _ _ hT
        have h1 := S.ti h1
        have h2 := S.ti h2
        have hp := hp.same S
        have ht := S.ti ht
        have hq := S.ti hq
        have h5 := S.ti h5
        have hL := S.ti hL
        have hR := S.ti hR
        have hb := S.ti hb
        have hz1 := S.ti hz1
        have hz2 := S.ti hz2
        have S0 := S0.trans S
        rw [PM.pmod_nil c.tr t5 z5 (c.most fs (PM.dv_grT ns fs) (PM.dv_grT ms fs))] at hz3
        refine ⟨by show 0 ≤ sizeLine; decide, fun e ne => ?_⟩
        have S := same_upd (o := .tup []) ne
        have hT := S _ _ hT
        have h1 := S.ti h1
        have h2 := S.ti h2
        have hp := hp.same S
        have ht := S.ti ht
        have hq := S.ti hq
        have h5 := S.ti h5
        have hL := S.ti hL
        have hR := S.ti hR
        have hb := S.ti hb
        have hz1 := S.ti hz1
        have hz2 := S.ti hz2
        have hz3 := S.ti hz3
        have S0 := S0.trans S
        refine ⟨_, _, dp_tup hz3, dp_tup (ns := []) ti_nil, shaped_tup _, shaped_tup [], _, rfl, ?_⟩
        rw [eqv_tup]
        rw [decide_eq_true rfl]
        exact iteF ⟨rfl, S0⟩
      rintro σ' H17 ⟨rfl, S⟩
      have hT := S _ _ hT
      have h1 := S.ti h1
      have h2 := S.ti h2
      have hp := hp.same S
      have ht := S.ti ht
      have hq := S.ti hq
      have h5 := S.ti h5
      have hL := S.ti hL
      have hR := S.ti hR
      have hb := S.ti hb
      refine ⟨by show 4 ≤ sizeLine; decide, fun z nz => ⟨z, rfl, ⟨_, .inl (.inl upd_same)⟩, fun D nD => ?_⟩⟩
      have S := same_upd (o := .tup [.int 2, .int 3, .int 5, .int 7]) nz
      have hT := S _ _ hT
      have h1 := S.ti h1
      have h2 := S.ti h2
      have hp := hp.same S
      have ht := S.ti ht
      have hq := S.ti hq
      have h5 := S.ti h5
      have hL := S.ti hL
      have hR := S.ti hR
      have hb := S.ti hb
      have hz4 : TpI K (upd H17 z (.tup [.int 2, .int 3, .int 5, .int 7])) z [2, 3, 5, 7] := .inl (.inl upd_same)
      refine lcF (n := 4) (walkT (K := K) (a := z) (ns := [2, 3, 5, 7])) (fun _ => false) (fun i => .int (PM.cf [2, 3, 5, 7] i)) (fun _ sm => sm.ti hz4) nD (fun _ => rfl) (by decide) (fun j H18 R hj sm hRq => ?_) (fun j H18 R hj sm hRq => ⟨_, rfl, hRq⟩) (fun H18 sm hD => ?_)
      · have S0 := Same.refl H18
        have hT := sm _ _ hT
        have h1 := sm.ti h1
        have h2 := sm.ti h2
        have hp := hp.same sm
        have ht := sm.ti ht
        have hq := sm.ti hq
        have h5 := sm.ti h5
        have hL := sm.ti hL
        have hR := sm.ti hR
        have hb := sm.ti hb
        have hz4 := sm.ti hz4
        have m1 : 1 < PM.cf [2, 3, 5, 7] j := by
          match j, hj with
          | 0, _ => decide
          | 1, _ => decide
          | 2, _ => decide
          | 3, _ => decide
        refine ⟨_, rfl, ab, rfl, ⟨_, hb⟩, fun D2 nD2 => ?_⟩
        refine lcF (n := (PM.cdv (PM.grT ns fs) (PM.grT ms fs)).length) (walkT (K := K) (a := ab) (ns := PM.cdv (PM.grT ns fs) (PM.grT ms fs))) (fun k => !decide (V.int (PM.cf (PM.cdv (PM.grT ns fs) (PM.grT ms fs)) k % PM.cf [2, 3, 5, 7] j) = V.int 0)) (fun _ => .int 1) (fun _ s => s.ti hb) nD2 (fun _ => rfl) (smallL (by omega)) (fun k H19 R2 hk s2 hR2 => ?_) (fun k H19 R2 hk s2 q2 => q2) (fun H19 s2 hD2 => ?_)
        · exact ⟨_, rfl, .inl ⟨_, rfl, _, rfl, _, _, rfl, rfl, (show 0 < _ by omega), rfl, _, rfl, hR2 _ (Same.refl _)⟩⟩
        · refine ⟨by show 0 ≤ sizeLine; decide, fun e ne => ?_⟩
          have S := same_upd (o := .lst []) ne
          have ev : (((List.range (PM.cdv (PM.grT ns fs) (PM.grT ms fs)).length).filter fun k => !decide (V.int (PM.cf (PM.cdv (PM.grT ns fs) (PM.grT ms fs)) k % PM.cf [2, 3, 5, 7] j) = V.int 0)).map fun _ => V.int 1) = vInts (((List.range (PM.cdv (PM.grT ns fs) (PM.grT ms fs)).length).filter fun k => !decide (V.int (PM.cf (PM.cdv (PM.grT ns fs) (PM.grT ms fs)) k % PM.cf [2, 3, 5, 7] j) = V.int 0)).map fun _ => 1) := by
            unfold vInts
            rw [List.map_map]
            rfl
          rw [ev] at hD2
          have hD3 := S _ _ hD2
          refine ⟨_, _, dp_lst (SqL.of hD3), dp_lst (ns := []) (.inl (.inl upd_same)), shaped_lst _, shaped_lst [], _, rfl, ?_⟩
          rw [eqv_lst]
          obtain ⟨k, hk, hkr⟩ := PM.some_rest c.pr gne m1
          have hnil : ¬ ((((List.range (PM.cdv (PM.grT ns fs) (PM.grT ms fs)).length).filter fun k => !decide (V.int (PM.cf (PM.cdv (PM.grT ns fs) (PM.grT ms fs)) k % PM.cf [2, 3, 5, 7] j) = V.int 0)).map fun _ => (1 : Int)) = []) := fun z => by
            have z2 := List.map_eq_nil_iff.mp z
            have z3 : k ∈ (List.range (PM.cdv (PM.grT ns fs) (PM.grT ms fs)).length).filter fun k => !decide (V.int (PM.cf (PM.cdv (PM.grT ns fs) (PM.grT ms fs)) k % PM.cf [2, 3, 5, 7] j) = V.int 0) := List.mem_filter.mpr ⟨List.mem_range.mpr hk, by
              rw [decide_eq_false (fun y => hkr (V.int.inj y))]
              rfl⟩
            rw [z2] at z3
            cases z3
          rw [decide_eq_false hnil]
          exact hRq _ (s2.trans S)
      · have hD : H18 D = some (.lst (vInts [])) := hD
        have hT := sm _ _ hT
        have h1 := sm.ti h1
        have h2 := sm.ti h2
        have hp := hp.same sm
        have ht := sm.ti ht
        have hq := sm.ti hq
        have h5 := sm.ti h5
        have hL := sm.ti hL
        have hR := sm.ti hR
        have hb := sm.ti hb
        have hz4 := sm.ti hz4
        refine ⟨by show 0 ≤ sizeLine; decide, fun e ne => ?_⟩
        have S := same_upd (o := .lst []) ne
        have hD := S _ _ hD
        have hT := S _ _ hT
        have h1 := S.ti h1
        have h2 := S.ti h2
        have hp := hp.same S
        have ht := S.ti ht
        have hq := S.ti hq
        have h5 := S.ti h5
        have hL := S.ti hL
        have hR := S.ti hR
        have hb := S.ti hb
        have hz4 := S.ti hz4
        refine ⟨_, _, dp_lst (ns := []) (SqL.of hD), dp_lst (ns := []) (.inl (.inl upd_same)), shaped_lst [], shaped_lst [], _, rfl, ?_⟩
        rw [eqv_lst, decide_eq_true rfl]
        refine iteF ⟨_, rfl, _, rfl, two_tt hL hR (by omega) (by omega) A.tr B.tr ⟨A.pr, B.pr, ⟨11, PM.cdv_co A B⟩, fun H20 aw S hb2 => ?_⟩⟩
        have hT := S _ _ hT
        have h1 := S.ti h1
        have h2 := S.ti h2
        have hp := hp.same S
        have ht := S.ti ht
        have hq := S.ti hq
        have h5 := S.ti h5
        have hL := S.ti hL
        have hR := S.ti hR
        have hb := S.ti hb
        have hz4 := S.ti hz4
        refine ⟨_, rfl, _, _, dp_tup hb2, dp_tup hb, shaped_tup _, shaped_tup _, _, rfl, ?_⟩
        rw [eqv_tup, decide_eq_true rfl]
        exact iteF ⟨_, _, _, _, _, _, _, _, _, _, _, _, _, _, _, rfl, hp.mono (by omega), hT⟩
  · obtain ⟨x2, x3, x4, x5, x6, x7, x8, x9, x10, x11, x12, x13, x14, x15, x16, rfl, hp, hT⟩ := h
    refine ⟨_, rfl, ?_⟩
    refine ⟨by show 2 ≤ sizeLine; decide, fun v1 nv1 => ?_⟩
    have hpv1 := hp.ne nv1
    have S := same_upd (o := .lst [.int 1, .int 0]) nv1
    have hT := S _ _ hT
    have hp := hp.same S
    have fv1 := at_li (K := K) [1, 0] nv1
    refine ⟨by show 2 ≤ sizeLine; decide, fun v2 nv2 => ?_⟩
    have hpv2 := hp.ne nv2
    have S := same_upd (o := .tup [.int (1), .int (0)]) nv2
    have hT := S _ _ hT
    have hp := hp.same S
    have fv1 := S.li fv1
    have fv2 := at_ti (K := K) [1, 0] nv2
    refine ⟨by show 1 ≤ sizeLine; decide, fun v3 nv3 => ?_⟩
    have hpv3 := hp.ne nv3
    have S := same_upd (o := .tup [.bl true]) nv3
    have hT := S _ _ hT
    have hp := hp.same S
    have fv1 := S.li fv1
    have fv2 := S.ti fv2
    have fv3 := at_tup (K := K) [.bl true] nv3
    refine ⟨by show 1 ≤ sizeLine; decide, fun v4 nv4 => ?_⟩
    have hpv4 := hp.ne nv4
    have S := same_upd (o := .tup [.non]) nv4
    have hT := S _ _ hT
    have hp := hp.same S
    have fv1 := S.li fv1
    have fv2 := S.ti fv2
    have fv3 := S.tup fv3
    have fv4 := at_tup (K := K) [.non] nv4
    refine ⟨by show 1 ≤ sizeLine; decide, fun v5 nv5 => ?_⟩
    have hpv5 := hp.ne nv5
    have S := same_upd (o := .tup [.str "1"]) nv5
    have hT := S _ _ hT
    have hp := hp.same S
    have fv1 := S.li fv1
    have fv2 := S.ti fv2
    have fv3 := S.tup fv3
    have fv4 := S.tup fv4
    have fv5 := at_tup (K := K) [.str "1"] nv5
    refine ⟨by show 1 ≤ sizeLine; decide, fun v6 nv6 => ?_⟩
    have hpv6 := hp.ne nv6
    have S := same_upd (o := .tup [.int (0)]) nv6
    have hT := S _ _ hT
    have hp := hp.same S
    have fv1 := S.li fv1
    have fv2 := S.ti fv2
    have fv3 := S.tup fv3
    have fv4 := S.tup fv4
    have fv5 := S.tup fv5
    have fv6 := at_ti (K := K) [0] nv6
    refine ⟨by show 1 ≤ sizeLine; decide, fun v7 nv7 => ?_⟩
    have hpv7 := hp.ne nv7
    have S := same_upd (o := .tup [.int (1)]) nv7
    have hT := S _ _ hT
    have hp := hp.same S
    have fv1 := S.li fv1
    have fv2 := S.ti fv2
    have fv3 := S.tup fv3
    have fv4 := S.tup fv4
    have fv5 := S.tup fv5
    have fv6 := S.ti fv6
    have fv7 := at_ti (K := K) [1] nv7
    refine ⟨by show 1 ≤ sizeLine; decide, fun v8 nv8 => ?_⟩
    have hpv8 := hp.ne nv8
    have S := same_upd (o := .tup [.ref v7]) nv8
    have hT := S _ _ hT
    have hp := hp.same S
    have fv1 := S.li fv1
    have fv2 := S.ti fv2
    have fv3 := S.tup fv3
    have fv4 := S.tup fv4
    have fv5 := S.tup fv5
    have fv6 := S.ti fv6
    have fv7 := S.ti fv7
    have fv8 := at_tup (K := K) [.ref v7] nv8
    refine ⟨by show 10 ≤ sizeLine; decide, fun vL nvL => ?_⟩
    have hpvL := hp.ne nvL
    have S := same_upd (o := .lst [.non, .int 5, .str "1", .ref v1, .ref v2, .ref v3, .ref v4, .ref v5, .ref v6, .ref v8]) nvL
    have hT := S _ _ hT
    have hp := hp.same S
    have fv1 := S.li fv1
    have fv2 := S.ti fv2
    have fv3 := S.tup fv3
    have fv4 := S.tup fv4
    have fv5 := S.tup fv5
    have fv6 := S.ti fv6
    have fv7 := S.ti fv7
    have fv8 := S.tup fv8
    have fvL := at_lst (K := K) [.non, .int 5, .str "1", .ref v1, .ref v2, .ref v3, .ref v4, .ref v5, .ref v6, .ref v8] nvL
    refine ⟨p, vL, C, 60 * 12, [.non, .int 5, .str "1", .ref v1, .ref v2, .ref v3, .ref v4, .ref v5, .ref v6, .ref v8], rfl, hp, by omega, fvL, hpvL, by simp, by show 10 ≤ 1000000; decide, fun j H3 hj sx hp' => ?_⟩
    have hT := sx _ _ hne hT
    have fv1 := sx.seq hpv1 fv1
    have fv2 := sx.t hp fv2
    have fv3 := sx.tup (Classical.choose_spec hp.lst) fv3
    have fv4 := sx.tup (Classical.choose_spec hp.lst) fv4
    have fv5 := sx.tup (Classical.choose_spec hp.lst) fv5
    have fv6 := sx.t hp fv6
    have fv7 := sx.t hp fv7
    have fv8 := sx.tup (Classical.choose_spec hp.lst) fv8
    have hbad : ∃ d, DpS K H3 (([.non, .int 5, .str "1", .ref v1, .ref v2, .ref v3, .ref v4, .ref v5, .ref v6, .ref v8] : List V).getD j .non) d ∧ dPoly (asTup d) = false := by
      have hj : j < 10 := hj
      match j, hj with
      | 0, _ => exact ⟨.none, ⟨.non, by decide +kernel, by decide +kernel, fun ds e => by cases e⟩, rfl⟩
      | 1, _ => exact ⟨.int 5, ⟨.int 5, by decide +kernel, by decide +kernel, fun ds e => by cases e⟩, rfl⟩
      | 2, _ => exact ⟨.str "1", ⟨.str _, by decide +kernel, by decide +kernel, fun ds e => by cases e⟩, rfl⟩
      | 3, _ => exact ⟨.list (dInts [1, 0]), dps_lst fv1 (by decide), by decide⟩
      | 4, _ => exact ⟨.tuple (dInts [1, 0]), dps_tup fv2 (by decide), by decide⟩
      | 5, _ => exact ⟨.tuple [.bool true], ⟨.tup fv3 (.cons (.bl true) .nil), by decide +kernel, by decide +kernel, fun ds e => by cases e; decide⟩, by decide⟩
      | 6, _ => exact ⟨.tuple [.none], ⟨.tup fv4 (.cons .non .nil), by decide +kernel, by decide +kernel, fun ds e => by cases e; decide⟩, by decide⟩
      | 7, _ => exact ⟨.tuple [.str "1"], ⟨.tup fv5 (.cons (.str _) .nil), by decide +kernel, by decide +kernel, fun ds e => by cases e; decide⟩, by decide⟩
      | 8, _ => exact ⟨.tuple (dInts [0]), dps_tup fv6 (by decide), by decide⟩
      | 9, _ => exact ⟨.tuple [.tuple (dInts [1])], ⟨.tup fv8 (.cons (dp_tup fv7) .nil), by decide +kernel, by decide +kernel, fun ds e => by cases e; decide⟩, by decide⟩
    obtain ⟨d, hv, nv⟩ := hbad
    generalize ([.non, .int 5, .str "1", .ref v1, .ref v2, .ref v3, .ref v4, .ref v5, .ref v6, .ref v8] : List V).getD j .non = v at hv
    have tb : Tabs [(Pt, (cxOf CX0 P w K mg base nlaw "law" (defScope slaw) f (.ref c) A outer s H E).nox.env.qual ++ "<lambda>")] H3 := fun z hz => by
      rw [List.mem_singleton.mp hz]
      exact TabS.nil hT
    refine ⟨tb, fun G1 eN tb => fun K1 Qf1 S => ?_⟩
    have hv := hv.extN eN
    have hv := hv.same S
    have tb := tb.ext S
    refine ⟨_, rfl, _, rfl, two_e1 hv hv nv fun I1 dd S hdd => ⟨rfl, dd, "one", rfl, hdd, fun J1 r1 S2 fr1 => ?_⟩⟩
    have hv := hv.same S
    have tb := tb.ext S
    have hv := hv.same S2
    have tb := tb.ext S2
    refine ⟨tb, fun G2 eN tb => fun K2 Qf2 S => ?_⟩
    have hv := hv.extN eN
    have fr1 := eN.tup fr1
    have hv := hv.same S
    have tb := tb.ext S
    have fr1 := S.tup fr1
    refine ⟨by show 0 ≤ sizeLine; decide, fun e ne => ?_⟩
    have S := same_upd (o := .tup []) ne
    have hv := hv.same S
    have tb := tb.ext S
    have fr1 := S.tup fr1
    have fe := at_ti (K := K) [] ne
    refine ⟨_, rfl, two_e2 fe (by decide) PM.tr_nil hv nv fun I2 dd S hdd => ⟨rfl, dd, "other", rfl, hdd, fun J2 r2 S2 fr2 => ?_⟩⟩
    have hv := hv.same S
    have tb := tb.ext S
    have fr1 := S.tup fr1
    have hv := hv.same S2
    have tb := tb.ext S2
    have fr1 := S2.tup fr1
    refine ⟨tb, fun G3 eN tb => fun K3 Qf3 S => ?_⟩
    have hv := hv.extN eN
    have fr1 := eN.tup fr1
    have fr2 := eN.tup fr2
    have hv := hv.same S
    have tb := tb.ext S
    have fr1 := S.tup fr1
    have fr2 := S.tup fr2
    refine ⟨_, rfl, by show 0 ≤ sizeLine; decide, fun e ne => ?_⟩
    have S := same_upd (o := .tup []) ne
    have hv := hv.same S
    have tb := tb.ext S
    have fr1 := S.tup fr1
    have fr2 := S.tup fr2
    have fe := at_ti (K := K) [] ne
    refine two_e1 hv (dps_tup fe (by decide)) nv fun I3 dd S hdd => ⟨rfl, dd, "one", rfl, hdd, fun J3 r3 S2 fr3 => ?_⟩
    have hv := hv.same S
    have tb := tb.ext S
    have fr1 := S.tup fr1
    have fr2 := S.tup fr2
    have hv := hv.same S2
    have tb := tb.ext S2
    have fr1 := S2.tup fr1
    have fr2 := S2.tup fr2
    refine ⟨tb, fun G4 eN tb => fun K4 Qf4 S => ?_⟩
    have hv := hv.extN eN
    have fr1 := eN.tup fr1
    have fr2 := eN.tup fr2
    have fr3 := eN.tup fr3
    have hv := hv.same S
    have tb := tb.ext S
    have fr1 := S.tup fr1
    have fr2 := S.tup fr2
    have fr3 := S.tup fr3
    refine ⟨by show 1 ≤ sizeLine; decide, fun e ne => ?_⟩
    have S := same_upd (o := .tup [.int 1]) ne
    have hv := hv.same S
    have tb := tb.ext S
    have fr1 := S.tup fr1
    have fr2 := S.tup fr2
    have fr3 := S.tup fr3
    have fe := at_ti (K := K) [1] ne
    refine ⟨_, rfl, two_e2 fe (by decide) (by decide) hv nv fun I4 dd S hdd => ⟨rfl, dd, "other", rfl, hdd, fun J4 r4 S2 fr4 => ?_⟩⟩
    have hv := hv.same S
    have tb := tb.ext S
    have fr1 := S.tup fr1
    have fr2 := S.tup fr2
    have fr3 := S.tup fr3
    have hv := hv.same S2
    have tb := tb.ext S2
    have fr1 := S2.tup fr1
    have fr2 := S2.tup fr2
    have fr3 := S2.tup fr3
    refine ⟨by show 4 ≤ sizeLine; decide, fun L1 nL1 => ?_⟩
    have S := same_upd (o := .lst [.ref r1, .ref r2, .ref r3, .ref r4]) nL1
    have hv := hv.same S
    have tb := tb.ext S
    have fr1 := S.tup fr1
    have fr2 := S.tup fr2
    have fr3 := S.tup fr3
    have fr4 := S.tup fr4
    have fL1 := at_obj [.ref r1, .ref r2, .ref r3, .ref r4] nL1
    refine ⟨_, rfl, ?_⟩
    refine ⟨tb, fun G5 eN tb => fun K5 Qf5 S => ?_⟩
    have hv := hv.extN eN
    have fr1 := eN.tup fr1
    have fr2 := eN.tup fr2
    have fr3 := eN.tup fr3
    have fr4 := eN.tup fr4
    have fL1 := eN _ _ fL1 (fun ps z => by cases z)
    have hv := hv.same S
    have tb := tb.ext S
    have fr1 := S.tup fr1
    have fr2 := S.tup fr2
    have fr3 := S.tup fr3
    have fr4 := S.tup fr4
    have fL1 := S _ _ fL1
    refine ⟨_, rfl, two_e1 hv (dps_int K _ 5) nv fun I5 dd S hdd => ⟨rfl, dd, "one", rfl, hdd, fun J5 r5 S2 fr5 => ?_⟩⟩
    have hv := hv.same S
    have tb := tb.ext S
    have fr1 := S.tup fr1
    have fr2 := S.tup fr2
    have fr3 := S.tup fr3
    have fr4 := S.tup fr4
    have fL1 := S _ _ fL1
    have hv := hv.same S2
    have tb := tb.ext S2
    have fr1 := S2.tup fr1
    have fr2 := S2.tup fr2
    have fr3 := S2.tup fr3
    have fr4 := S2.tup fr4
    have fL1 := S2 _ _ fL1
    refine ⟨tb, fun G6 eN tb => fun K6 Qf6 S => ?_⟩
    have hv := hv.extN eN
    have fr1 := eN.tup fr1
    have fr2 := eN.tup fr2
    have fr3 := eN.tup fr3
    have fr4 := eN.tup fr4
    have fL1 := eN _ _ fL1 (fun ps z => by cases z)
    have fr5 := eN.tup fr5
    have hv := hv.same S
    have tb := tb.ext S
    have fr1 := S.tup fr1
    have fr2 := S.tup fr2
    have fr3 := S.tup fr3
    have fr4 := S.tup fr4
    have fL1 := S _ _ fL1
    have fr5 := S.tup fr5
    refine ⟨by show 1 ≤ sizeLine; decide, fun e ne => ?_⟩
    have S := same_upd (o := .tup [.int 2]) ne
    have hv := hv.same S
    have tb := tb.ext S
    have fr1 := S.tup fr1
    have fr2 := S.tup fr2
    have fr3 := S.tup fr3
    have fr4 := S.tup fr4
    have fL1 := S _ _ fL1
    have fr5 := S.tup fr5
    have fe := at_ti (K := K) [2] ne
    refine ⟨_, rfl, two_e2 fe (by decide) (by decide) hv nv fun I6 dd S hdd => ⟨rfl, dd, "other", rfl, hdd, fun J6 r6 S2 fr6 => ?_⟩⟩
    have hv := hv.same S
    have tb := tb.ext S
    have fr1 := S.tup fr1
    have fr2 := S.tup fr2
    have fr3 := S.tup fr3
    have fr4 := S.tup fr4
    have fL1 := S _ _ fL1
    have fr5 := S.tup fr5
    have hv := hv.same S2
    have tb := tb.ext S2
    have fr1 := S2.tup fr1
    have fr2 := S2.tup fr2
    have fr3 := S2.tup fr3
    have fr4 := S2.tup fr4
    have fL1 := S2 _ _ fL1
    have fr5 := S2.tup fr5
    refine ⟨by show 2 ≤ sizeLine; decide, fun L2 nL2 => ?_⟩
    have S := same_upd (o := .lst [.ref r5, .ref r6]) nL2
    have hv := hv.same S
    have tb := tb.ext S
    have fr1 := S.tup fr1
    have fr2 := S.tup fr2
    have fr3 := S.tup fr3
    have fr4 := S.tup fr4
    have fL1 := S _ _ fL1
    have fr5 := S.tup fr5
    have fr6 := S.tup fr6
    have fL2 := at_obj [.ref r5, .ref r6] nL2
    refine ⟨L1, L2, _, _, rfl, rfl, fL1, fL2, by show 6 ≤ sizeLine; decide, fun L3 nL3 => ?_⟩
    have S := same_upd (o := .lst [.ref r1, .ref r2, .ref r3, .ref r4, .ref r5, .ref r6]) nL3
    have hv := hv.same S
    have tb := tb.ext S
    have fr1 := S.tup fr1
    have fr2 := S.tup fr2
    have fr3 := S.tup fr3
    have fr4 := S.tup fr4
    have fL1 := S _ _ fL1
    have fr5 := S.tup fr5
    have fr6 := S.tup fr6
    have fL2 := S _ _ fL2
    have fL3 := at_obj [.ref r1, .ref r2, .ref r3, .ref r4, .ref r5, .ref r6] nL3
    refine ⟨_, rfl, ?_⟩
    refine ⟨by show 2 ≤ sizeLine; decide, fun ta nta => ?_⟩
    have S := same_upd (o := .tup [.str "value", .str "one"]) nta
    have hv := hv.same S
    have tb := tb.ext S
    have fr1 := S.tup fr1
    have fr2 := S.tup fr2
    have fr3 := S.tup fr3
    have fr4 := S.tup fr4
    have fL1 := S _ _ fL1
    have fr5 := S.tup fr5
    have fr6 := S.tup fr6
    have fL2 := S _ _ fL2
    have fL3 := S _ _ fL3
    have fta := at_tup (K := K) [.str "value", .str "one"] nta
    refine ⟨by show 2 ≤ sizeLine; decide, fun tc ntc => ?_⟩
    have S := same_upd (o := .tup [.str "value", .str "other"]) ntc
    have hv := hv.same S
    have tb := tb.ext S
    have fr1 := S.tup fr1
    have fr2 := S.tup fr2
    have fr3 := S.tup fr3
    have fr4 := S.tup fr4
    have fL1 := S _ _ fL1
    have fr5 := S.tup fr5
    have fr6 := S.tup fr6
    have fL2 := S _ _ fL2
    have fL3 := S _ _ fL3
    have fta := S.tup fta
    have ftc := at_tup (K := K) [.str "value", .str "other"] ntc
    refine ⟨by show 2 ≤ sizeLine; decide, fun L4 nL4 => ?_⟩
    have S := same_upd (o := .lst [.ref ta, .ref tc]) nL4
    have hv := hv.same S
    have tb := tb.ext S
    have fr1 := S.tup fr1
    have fr2 := S.tup fr2
    have fr3 := S.tup fr3
    have fr4 := S.tup fr4
    have fL1 := S _ _ fL1
    have fr5 := S.tup fr5
    have fr6 := S.tup fr6
    have fL2 := S _ _ fL2
    have fL3 := S _ _ fL3
    have fta := S.tup fta
    have ftc := S.tup ftc
    have fL4 := at_obj [.ref ta, .ref tc] nL4
    refine ⟨L4, 3, _, rfl, rfl, fL4, by decide, by decide, by show 6 ≤ sizeLine; decide, fun L5 nL5 => ?_⟩
    have S := same_upd (o := .lst [.ref ta, .ref tc, .ref ta, .ref tc, .ref ta, .ref tc]) nL5
    have hv := hv.same S
    have tb := tb.ext S
    have fr1 := S.tup fr1
    have fr2 := S.tup fr2
    have fr3 := S.tup fr3
    have fr4 := S.tup fr4
    have fL1 := S _ _ fL1
    have fr5 := S.tup fr5
    have fr6 := S.tup fr6
    have fL2 := S _ _ fL2
    have fL3 := S _ _ fL3
    have fta := S.tup fta
    have ftc := S.tup ftc
    have fL4 := S _ _ fL4
    have fL5 := at_obj [.ref ta, .ref tc, .ref ta, .ref tc, .ref ta, .ref tc] nL5
    refine ⟨.list [.tuple [.str "value", .str "one"], .tuple [.str "value", .str "other"], .tuple [.str "value", .str "one"], .tuple [.str "value", .str "other"], .tuple [.str "value", .str "one"], .tuple [.str "value", .str "other"]], .list [.tuple [.str "value", .str "one"], .tuple [.str "value", .str "other"], .tuple [.str "value", .str "one"], .tuple [.str "value", .str "other"], .tuple [.str "value", .str "one"], .tuple [.str "value", .str "other"]], .lst (SqL.of fL3) (.cons (Two.dp fr1) (.cons (Two.dp fr2) (.cons (Two.dp fr3) (.cons (Two.dp fr4) (.cons (Two.dp fr5) (.cons (Two.dp fr6) .nil)))))), .lst (SqL.of fL5) (.cons (Two.dp fta) (.cons (Two.dp ftc) (.cons (Two.dp fta) (.cons (Two.dp ftc) (.cons (Two.dp fta) (.cons (Two.dp ftc) .nil)))))), by decide +kernel, by decide +kernel, ?_⟩
    rw [show PyData.eqv (.list [.tuple [.str "value", .str "one"], .tuple [.str "value", .str "other"], .tuple [.str "value", .str "one"], .tuple [.str "value", .str "other"], .tuple [.str "value", .str "one"], .tuple [.str "value", .str "other"]]) (.list [.tuple [.str "value", .str "one"], .tuple [.str "value", .str "other"], .tuple [.str "value", .str "one"], .tuple [.str "value", .str "other"], .tuple [.str "value", .str "one"], .tuple [.str "value", .str "other"]]) = true by decide +kernel]
    refine ⟨true, rfl, iteT ?_⟩
    refine ⟨4, rfl, by show 3 ≤ sizeLine; decide, fun tA nA => ?_⟩
    have fA := at_ti (K := K) [4, 0, -4] nA
    refine ⟨by show 2 ≤ sizeLine; decide, fun tB nB => ?_⟩
    have S := same_upd (o := .tup (vInts [6, 6])) nB
    have fA := S.ti fA
    have fB := at_ti (K := K) [6, 6] nB
    refine two_tt fA fB (by decide) (by decide) left_a.tr left_b.tr ⟨left_a.pr, left_b.pr, ⟨11, PM.cdv_co left_a left_b⟩, fun HA tC S fC => ?_⟩
    rw [cdv_ab] at fC
    refine ⟨by show 2 ≤ sizeLine; decide, fun tD nD => ?_⟩
    have S := same_upd (o := .tup (vInts [1, 1])) nD
    have fC := S.ti fC
    have fD := at_ti (K := K) [1, 1] nD
    refine ⟨_, _, dp_tup fC, dp_tup fD, shaped_tup _, shaped_tup _, ?_⟩
    rw [eqv_tup, decide_eq_true rfl]
    refine ⟨true, rfl, iteT ?_⟩
    refine ⟨by show 1 ≤ sizeLine; decide, fun tE nE => ?_⟩
    have fE := at_ti (K := K) [5] nE
    refine ⟨by show 0 ≤ sizeLine; decide, fun tF nF => ?_⟩
    have S := same_upd (o := .tup (vInts [])) nF
    have fE := S.ti fE
    have fF := at_ti (K := K) [] nF
    refine two_tt fE fF (by decide) (by decide) left_c.tr left_d.tr ⟨left_c.pr, left_d.pr, ⟨11, PM.cdv_co left_c left_d⟩, fun HB tG S fG => ?_⟩
    rw [cdv_cd] at fG
    refine ⟨by show 1 ≤ sizeLine; decide, fun tI nI => ?_⟩
    have S := same_upd (o := .tup (vInts [1])) nI
    have fG := S.ti fG
    have fI := at_ti (K := K) [1] nI
    refine ⟨_, _, dp_tup fG, dp_tup fI, shaped_tup _, shaped_tup _, ?_⟩
    rw [eqv_tup, decide_eq_true rfl]
    exact q _
end
end AT

set_option Elab.async false
set_option linter.all false
set_option maxRecDepth 100000
set_option maxHeartbeats 4000000
namespace AT
open PySem PySem.Spec PyProof.Rows L2 LamX
/-- a def of the top, by what the written part says -/
theorem df_mk {K : PySem.W.Frag} {h : Heap} {mg : Str → Option Value} (X : K.In h) (G : h.Ns mainGlobals mg) {x : Str} {st : Stmt} {f : Addr} {oc : Value} {od an : Option Addr} {osl : Array (Option Value)} {kV doc pm cdv ct : Value} (a : PySem.W.nsIn K mainGlobals x = some (some (.ref f)))
    (l : K.lookup f = some ⟨oc, od, .func (PySem.W.fnOf x x (defArgs st) (defBody st) (defScope st) .none kV doc pm an cdv ct), osl⟩) (c : PySem.W.codeIn K cdv x = true) (k : PySem.W.keepIn K (.ref f) = true) : Df K mg x st := ⟨f, _, fun_mk l c k, PySem.W.mg_of X G a⟩
structure Defs (K : PySem.W.Frag) (mg : Str → Option Value) : Prop where
  d_is_integer : Df K mg "is_integer" sis_integer
  d_is_poly : Df K mg "is_poly" sis_poly
  d_need_poly : Df K mg "need_poly" sneed_poly
  d_cut : Df K mg "cut" scut
  d_sum_of : Df K mg "sum_of" ssum_of
  d_at_power : Df K mg "at_power" sat_power
  d_scaled : Df K mg "scaled" sscaled
  d_less : Df K mg "less" sless
  d_product : Df K mg "product" sproduct
  d_divisor : Df K mg "divisor" sdivisor
  d_content : Df K mg "content" scontent
  d_divided : Df K mg "divided" sdivided
  d_primitive : Df K mg "primitive" sprimitive
  d_shifted : Df K mg "shifted" sshifted
  d_parted : Df K mg "parted" sparted
  d_common : Df K mg "common" scommon
  d_plus : Df K mg "plus" splus
  d_times : Df K mg "times" stimes
  d_common_divisor : Df K mg "common_divisor" scommon_divisor
  d__law_pen : Df K mg "_law_pen" s_law_pen
  d__law_draw : Df K mg "_law_draw" s_law_draw
  d__law_pick : Df K mg "_law_pick" s_law_pick
  d__law_at_heard : Df K mg "_law_at_heard" s_law_at_heard
  d__law_gr_value : Df K mg "_law_gr_value" s_law_gr_value
  d__law_gr_poly : Df K mg "_law_gr_poly" s_law_gr_poly
  d__law_gr_times : Df K mg "_law_gr_times" s_law_gr_times
  d__law_gr_left : Df K mg "_law_gr_left" s_law_gr_left
def sInit : Stmt := (C8.clsBody (topS 4)).getD 0 (.Pass ⟨0, 0, 0, 0⟩)
/-- the error class's own text -/
theorem sup_s : SupS "part" (C8.fnScope sInit) where
  kind := rfl
  co := rfl
  gen := rfl
  noCell := by decide +kernel
  free := by decide +kernel
  ks := by decide +kernel
  kc := by decide +kernel
  ka := by decide +kernel
  kp := by decide +kernel
  ne := by decide +kernel
theorem exc_cl {P : Program} {w : World} {K : PySem.W.Frag} {mg : Str → Option Value} {base : Heap} {CB f cc cda : Addr} {fd : FuncData} (D : ExcDef P K mg CB f cc cda "part" "part" "__init__" "BadValue.__init__" (C8.fnArgs sInit) (C8.fnScope sInit) (C8.fnBody sInit) fd) (g : mg "BadValue" = some (.ref CB))
    (iC : PySem.W.findIn K (.ref CB) "__init__" = some (some (.ref f))) (tI : PySem.W.typeIn K (.ref f) = some (.type "function")) (df : fd.defaults = .none) (dk : fd.kwdefaults = .none) : ExCl P w K mg base "BadValue" CB "part" := by
  refine ⟨D.T, g, f, fd, "part", iC, tI, sup_ok (hB := rfl) (fun env => ?_) (by decide) (by decide) sup_s D, ?_⟩
  · refine ⟨?_, ?_⟩
    rotate_left
    · rfl
  · obtain ⟨oc, od, dV, kV, doc, pm, an, ct, osl, rfl, lk⟩ := D.fn
    have e1 : dV = .none := df
    have e2 : kV = .none := dk
    subst e1 e2
    exact .all fun us hl => match us, hl with | [_, _], _ => rfl
section
variable {P : Program} {w : World} {K : PySem.W.Frag} {mg : Str → Option Value} {base : Heap} {CB c Pt : Addr} {ca : String → Addr}
theorem law_all (T : Ex K mg CB ca) (D : Defs K mg) (X_BadValue : ExCl P w K mg base "BadValue" CB "part") (TB : TabB base mg c Pt) {fa : Addr} {oc : Value} {od an : Option Addr} {osl : Array (Option Value)} {kV doc pm ct : Value}
    (lk : K.lookup fa = some ⟨oc, od, .func (PySem.W.fnOf "law" "law" (defArgs slaw) (defBody slaw) (defScope slaw) .none kV doc pm an (.ref c) ct), osl⟩) (hcd : PySem.W.codeIn K (.ref c) "law" = true) :
    FnOk P w K mg base CX0 9 fa (PySem.W.fnOf "law" "law" (defArgs slaw) (defBody slaw) (defScope slaw) .none kV doc pm an (.ref c) ct) ["script"] (sp_law K Pt) := by
  have B := T.toBl
  have C_cut := ok_cut (P := P) (w := w) (base := base) B D.d_cut
  have C_at_power := ok_at_power (P := P) (w := w) (base := base) B D.d_at_power
  have C_sum_of := ok_sum_of B C_cut C_at_power D.d_sum_of
  have C_scaled := ok_scaled B C_cut D.d_scaled
  have C_less := ok_less B C_sum_of C_scaled D.d_less
  have C_product := ok_product B C_cut D.d_product
  have C_divisor := ok_divisor (P := P) (w := w) (base := base) B D.d_divisor
  have C_content := ok_content B C_divisor D.d_content
  have C_divided := ok_divided (P := P) (w := w) (base := base) B D.d_divided
  have C_is_integer := ok_is_integer (P := P) (w := w) (base := base) B D.d_is_integer
  have C_is_poly := ok_is_poly B C_is_integer D.d_is_poly
  have C_primitive := ok_primitive B C_divided C_content D.d_primitive
  have C_shifted := ok_shifted (P := P) (w := w) (base := base) B D.d_shifted
  have C_parted := ok_parted B C_sum_of C_scaled C_shifted C_less D.d_parted
  have C_common := ok_common B C_primitive C_parted D.d_common
  have C_need := ok_need B C_is_poly X_BadValue D.d_need_poly
  have C_plus := ok_plus B C_sum_of C_need D.d_plus
  have C_times := ok_times B C_product C_need D.d_times
  have C_cdv := ok_cdv B C_scaled C_common C_need D.d_common_divisor
  have C_pen := ok_pen (P := P) (w := w) (base := base) B D.d__law_pen
  have C_draw := ok_draw (P := P) (w := w) (base := base) B D.d__law_draw
  have C_pick := ok_pick B C_draw D.d__law_pick
  have C_value := ok_value (P := P) (w := w) (base := base) B D.d__law_gr_value
  have C_gpoly := ok_gr_poly B C_draw C_pick D.d__law_gr_poly
  have C_gtimes := ok_gr_times (P := P) (w := w) (base := base) B D.d__law_gr_times
  have C_gleft := ok_gr_left (P := P) (w := w) (base := base) B D.d__law_gr_left
  refine fn_of lk hcd sclaw (fun vs H Q E h => ?_) fun A outer s H vs Q E hr hsp => ?_
  · obtain ⟨a, ns, rfl, _⟩ := h
    rfl
  · obtain ⟨t, ht, hq⟩ := law_body T C_pen C_pick C_value C_gpoly C_gtimes C_gleft C_plus C_times C_cdv (D.d_plus.kw fun _ _ _ _ _ _ _ _ => rfl) (D.d_times.kw fun _ _ _ _ _ _ _ _ => rfl) (D.d_common_divisor.kw fun _ _ _ _ _ _ _ _ => rfl) D.d__law_at_heard TB hr hsp
    exact ⟨t, ht.nox, hq⟩
end
/-! ### the end -/
theorem walk_top {l : PySem.W.OpenLaw} {n k : Nat} {q : Program} {loose : List Str} {XP : (Str → Option Value) → Heap → Prop} {YP : World → Heap → Prop} {d : DefRec} {K : Params → PySem.W.Frag} {x : Str}
    (hn : l.most = some n) (hn2 : n ≤ sizeLine) (hdf : d.params.defaults = []) (hr : Room k callerA) (hY : ∀ (w : World) (h : Heap), YP w h → (K w.params).In h)
    (hd : d ∈ recsOf q) (hnt : ∀ w : World, PySem.W.noTabs (K w.params) = true)
    (F : ∀ (w : World) (mg : Str → Option Value) (fa : Addr) (h : Heap), YP w h → (K w.params).In h → h.Ns mainGlobals mg → mg d.name = some (.ref fa) → ∃ (fd : FuncData) (c : Addr) (sp : Addr → Sp), fd.code = .ref c ∧ (∃ (oc : Value) (od : Option Addr) (osl : Array (Option Value)), (K w.params).lookup fa = some ⟨oc, od, .func fd, osl⟩) ∧
      (∀ (s : Shared) (u : Value), BindsTo s fd ⟨[u], []⟩ [(x, u)]) ∧ (∀ (Pt : Addr) (H : Hp) (a : Addr) (ns : List Int), ns.length ≤ n → H Pt = some (.tbl #[]) → SqL (K w.params) H a (ns.map V.int) → sp Pt [.ref a] H (fun v _ => v = .bl true) fun _ _ _ => False) ∧
      ∀ (Pt : Addr) (base : Heap), (K w.params).In base → base.Ns mainGlobals mg → TabB base mg c Pt → FnOk l.prog w (K w.params) mg base CX0 k fa fd [x] (sp Pt)) :
    PySem.W.WalkO q loose XP YP l.row.toRowW d [] (fun f vs => PySem.call f vs) := by
  refine Att.attach_callB hn hdf fun w s₀ s₁ mg mb fa o pm cd doc a vs ns G Y ho hdd hcd hmg hobj hints hlen hbits hg => ?_
  have KX := hY w _ Y
  obtain ⟨fd, c, sp, hc, ⟨oc, od, osl, hl⟩, hb, hsp, hF⟩ := F w mg fa _ Y KX G.T.g hmg
  obtain ⟨a', o', fd', c', P', h1, h2, h3, h4, h5, h6⟩ := G.T.tab d hd
  rw [hmg] at h1
  cases h1
  have e := KX _ _ hl
  rw [h2] at e
  cases e
  cases h3
  rw [h4] at hc
  cases hc
  have tK : (K w.params).lookup P' = none := by
    cases z : (K w.params).lookup P' with
    | none => rfl
    | some u =>
      have z2 := KX _ _ z
      rw [h6.2] at z2
      have h2 := List.all_eq_true.mp (hnt w) (P', u) (PySem.W.mem_of_lookupK z)
      cases z2
      exact absurd (show false = true from h2) Bool.false_ne_true
  exact law_callTs (cs := [(c, P')]) (sp := sp P') KX G.T.g G.T.b G.T.builtins G.T.nolimit hg (fun p hp => by rw [List.mem_singleton.mp hp]; exact h6.2) (fun p hp => by rw [List.mem_singleton.mp hp]; exact tK) (fun p hp => by rw [List.mem_singleton.mp hp]; exact PySem.W.CodeHd.of h5 h6) G.T.bmain hobj hints (Nat.le_trans hlen hn2) hr
    (fun base hK hN hTB => hF P' base hK hN (hTB _ (List.mem_singleton.mpr rfl))) hb (fun H hH hS => hsp P' H a ns hlen (hH _ (List.mem_singleton.mpr rfl)) hS) fun H e s' z => z
end AT

set_option Elab.async false
set_option linter.all false
set_option maxRecDepth 100000
namespace AT
open PySem PySem.Spec PyProof.Rows L2 LamX
/-- where the classes stand -/
def caOf (l : List (String × Addr)) (x : String) : Addr := (l.lookup x).getD 0
theorem law_at {l : PySem.W.OpenLaw} {w : World} {K : PySem.W.Frag} {h : Heap} {mg : Str → Option Value} {fa : Addr}
    {f_is_integer : Addr} {oc_is_integer kV_is_integer doc_is_integer pm_is_integer cd_is_integer ct_is_integer : Value} {od_is_integer an_is_integer : Option Addr} {sl_is_integer : Array (Option Value)} {f_is_poly : Addr} {oc_is_poly kV_is_poly doc_is_poly pm_is_poly cd_is_poly ct_is_poly : Value} {od_is_poly an_is_poly : Option Addr} {sl_is_poly : Array (Option Value)} {f_need_poly : Addr} {oc_need_poly kV_need_poly doc_need_poly pm_need_poly cd_need_poly ct_need_poly : Value} {od_need_poly an_need_poly : Option Addr} {sl_need_poly : Array (Option Value)} {f_cut : Addr} {oc_cut kV_cut doc_cut pm_cut cd_cut ct_cut : Value} {od_cut an_cut : Option Addr} {sl_cut : Array (Option Value)} {f_sum_of : Addr} {oc_sum_of kV_sum_of doc_sum_of pm_sum_of cd_sum_of ct_sum_of : Value} {od_sum_of an_sum_of : Option Addr} {sl_sum_of : Array (Option Value)} {f_at_power : Addr} {oc_at_power kV_at_power doc_at_power pm_at_power cd_at_power ct_at_power : Value} {od_at_power an_at_power : Option Addr} {sl_at_power : Array (Option Value)} {f_scaled : Addr} {oc_scaled kV_scaled doc_scaled pm_scaled cd_scaled ct_scaled : Value} {od_scaled an_scaled : Option Addr} {sl_scaled : Array (Option Value)} {f_less : Addr} {oc_less kV_less doc_less pm_less cd_less ct_less : Value} {od_less an_less : Option Addr} {sl_less : Array (Option Value)} {f_product : Addr} {oc_product kV_product doc_product pm_product cd_product ct_product : Value} {od_product an_product : Option Addr} {sl_product : Array (Option Value)} {f_divisor : Addr} {oc_divisor kV_divisor doc_divisor pm_divisor cd_divisor ct_divisor : Value} {od_divisor an_divisor : Option Addr} {sl_divisor : Array (Option Value)} {f_content : Addr} {oc_content kV_content doc_content pm_content cd_content ct_content : Value} {od_content an_content : Option Addr} {sl_content : Array (Option Value)} {f_divided : Addr} {oc_divided kV_divided doc_divided pm_divided cd_divided ct_divided : Value} {od_divided an_divided : Option Addr} {sl_divided : Array (Option Value)} {f_primitive : Addr} {oc_primitive kV_primitive doc_primitive pm_primitive cd_primitive ct_primitive : Value} {od_primitive an_primitive : Option Addr} {sl_primitive : Array (Option Value)} {f_shifted : Addr} {oc_shifted kV_shifted doc_shifted pm_shifted cd_shifted ct_shifted : Value} {od_shifted an_shifted : Option Addr} {sl_shifted : Array (Option Value)} {f_parted : Addr} {oc_parted kV_parted doc_parted pm_parted cd_parted ct_parted : Value} {od_parted an_parted : Option Addr} {sl_parted : Array (Option Value)} {f_common : Addr} {oc_common kV_common doc_common pm_common cd_common ct_common : Value} {od_common an_common : Option Addr} {sl_common : Array (Option Value)} {f_plus : Addr} {oc_plus kV_plus doc_plus pm_plus cd_plus ct_plus : Value} {od_plus an_plus : Option Addr} {sl_plus : Array (Option Value)} {f_times : Addr} {oc_times kV_times doc_times pm_times cd_times ct_times : Value} {od_times an_times : Option Addr} {sl_times : Array (Option Value)} {f_common_divisor : Addr} {oc_common_divisor kV_common_divisor doc_common_divisor pm_common_divisor cd_common_divisor ct_common_divisor : Value} {od_common_divisor an_common_divisor : Option Addr} {sl_common_divisor : Array (Option Value)} {f_law_pen : Addr} {oc_law_pen kV_law_pen doc_law_pen pm_law_pen cd_law_pen ct_law_pen : Value} {od_law_pen an_law_pen : Option Addr} {sl_law_pen : Array (Option Value)} {f_law_draw : Addr} {oc_law_draw kV_law_draw doc_law_draw pm_law_draw cd_law_draw ct_law_draw : Value} {od_law_draw an_law_draw : Option Addr} {sl_law_draw : Array (Option Value)} {f_law_pick : Addr} {oc_law_pick kV_law_pick doc_law_pick pm_law_pick cd_law_pick ct_law_pick : Value} {od_law_pick an_law_pick : Option Addr} {sl_law_pick : Array (Option Value)} {f_law_at_heard : Addr} {oc_law_at_heard kV_law_at_heard doc_law_at_heard pm_law_at_heard cd_law_at_heard ct_law_at_heard : Value} {od_law_at_heard an_law_at_heard : Option Addr} {sl_law_at_heard : Array (Option Value)} {f_law_gr_value : Addr} {oc_law_gr_value kV_law_gr_value doc_law_gr_value pm_law_gr_value cd_law_gr_value ct_law_gr_value : Value} {od_law_gr_value an_law_gr_value : Option Addr} {sl_law_gr_value : Array (Option Value)} {f_law_gr_poly : Addr} {oc_law_gr_poly kV_law_gr_poly doc_law_gr_poly pm_law_gr_poly cd_law_gr_poly ct_law_gr_poly : Value} {od_law_gr_poly an_law_gr_poly : Option Addr} {sl_law_gr_poly : Array (Option Value)} {f_law_gr_times : Addr} {oc_law_gr_times kV_law_gr_times doc_law_gr_times pm_law_gr_times cd_law_gr_times ct_law_gr_times : Value} {od_law_gr_times an_law_gr_times : Option Addr} {sl_law_gr_times : Array (Option Value)} {f_law_gr_left : Addr} {oc_law_gr_left kV_law_gr_left doc_law_gr_left pm_law_gr_left cd_law_gr_left ct_law_gr_left : Value} {od_law_gr_left an_law_gr_left : Option Addr} {sl_law_gr_left : Array (Option Value)}
    {cT CB fI cc cda c f_law N c_TooMany c_BadText c_BadWord c_BadName c_NoName c_Nothing c_BadNumber c_BadKind c_BadKit c_BadTower c_BadFrame c_BadPlan c_BadSite c_BadPaper c_Misfit : Addr} {nm qn file : Str} {tf : Tok} {bs sub : List Value} {sn : List Str} {ab : Bool} {col : Option Bool} {dd odI anI cdd czd od an : Option Addr} {m0 m1 m2 m3 m5 : Option Value}
    {ocI docI pmI ctI ccl czl oc kV doc pm ct : Value} {slI ccs czs osl : Array (Option Value)} {cvs : Array Value}
    (KX : K.In h) (G : h.Ns mainGlobals mg) (hmg : mg "law" = some (.ref fa))
    (z_len : PySem.W.nsIn K mainGlobals "len" = some none)
    (z_tuple : PySem.W.nsIn K mainGlobals "tuple" = some none)
    (z_list : PySem.W.nsIn K mainGlobals "list" = some none)
    (z_int : PySem.W.nsIn K mainGlobals "int" = some none)
    (z_bool : PySem.W.nsIn K mainGlobals "bool" = some none)
    (z_abs : PySem.W.nsIn K mainGlobals "abs" = some none)
    (z_max : PySem.W.nsIn K mainGlobals "max" = some none)
    (z_isinstance : PySem.W.nsIn K mainGlobals "isinstance" = some none)
    (z_all : PySem.W.nsIn K mainGlobals "all" = some none)
    (z_enumerate : PySem.W.nsIn K mainGlobals "enumerate" = some none)
    (z_range : PySem.W.nsIn K mainGlobals "range" = some none)
    (z_super : PySem.W.nsIn K mainGlobals "super" = some none)
    (a_is_integer : PySem.W.nsIn K mainGlobals "is_integer" = some (some (.ref f_is_integer)))
    (l_is_integer : K.lookup f_is_integer = some ⟨oc_is_integer, od_is_integer, .func (PySem.W.fnOf "is_integer" "is_integer" (defArgs sis_integer) (defBody sis_integer) (defScope sis_integer) .none kV_is_integer doc_is_integer pm_is_integer an_is_integer cd_is_integer ct_is_integer), sl_is_integer⟩)
    (c_is_integer : PySem.W.codeIn K cd_is_integer "is_integer" = true)
    (k_is_integer : PySem.W.keepIn K (.ref f_is_integer) = true)
    (a_is_poly : PySem.W.nsIn K mainGlobals "is_poly" = some (some (.ref f_is_poly)))
    (l_is_poly : K.lookup f_is_poly = some ⟨oc_is_poly, od_is_poly, .func (PySem.W.fnOf "is_poly" "is_poly" (defArgs sis_poly) (defBody sis_poly) (defScope sis_poly) .none kV_is_poly doc_is_poly pm_is_poly an_is_poly cd_is_poly ct_is_poly), sl_is_poly⟩)
    (c_is_poly : PySem.W.codeIn K cd_is_poly "is_poly" = true)
    (k_is_poly : PySem.W.keepIn K (.ref f_is_poly) = true)
    (a_need_poly : PySem.W.nsIn K mainGlobals "need_poly" = some (some (.ref f_need_poly)))
    (l_need_poly : K.lookup f_need_poly = some ⟨oc_need_poly, od_need_poly, .func (PySem.W.fnOf "need_poly" "need_poly" (defArgs sneed_poly) (defBody sneed_poly) (defScope sneed_poly) .none kV_need_poly doc_need_poly pm_need_poly an_need_poly cd_need_poly ct_need_poly), sl_need_poly⟩)
    (c_need_poly : PySem.W.codeIn K cd_need_poly "need_poly" = true)
    (k_need_poly : PySem.W.keepIn K (.ref f_need_poly) = true)
    (a_cut : PySem.W.nsIn K mainGlobals "cut" = some (some (.ref f_cut)))
    (l_cut : K.lookup f_cut = some ⟨oc_cut, od_cut, .func (PySem.W.fnOf "cut" "cut" (defArgs scut) (defBody scut) (defScope scut) .none kV_cut doc_cut pm_cut an_cut cd_cut ct_cut), sl_cut⟩)
    (c_cut : PySem.W.codeIn K cd_cut "cut" = true)
    (k_cut : PySem.W.keepIn K (.ref f_cut) = true)
    (a_sum_of : PySem.W.nsIn K mainGlobals "sum_of" = some (some (.ref f_sum_of)))
    (l_sum_of : K.lookup f_sum_of = some ⟨oc_sum_of, od_sum_of, .func (PySem.W.fnOf "sum_of" "sum_of" (defArgs ssum_of) (defBody ssum_of) (defScope ssum_of) .none kV_sum_of doc_sum_of pm_sum_of an_sum_of cd_sum_of ct_sum_of), sl_sum_of⟩)
    (c_sum_of : PySem.W.codeIn K cd_sum_of "sum_of" = true)
    (k_sum_of : PySem.W.keepIn K (.ref f_sum_of) = true)
    (a_at_power : PySem.W.nsIn K mainGlobals "at_power" = some (some (.ref f_at_power)))
    (l_at_power : K.lookup f_at_power = some ⟨oc_at_power, od_at_power, .func (PySem.W.fnOf "at_power" "at_power" (defArgs sat_power) (defBody sat_power) (defScope sat_power) .none kV_at_power doc_at_power pm_at_power an_at_power cd_at_power ct_at_power), sl_at_power⟩)
    (c_at_power : PySem.W.codeIn K cd_at_power "at_power" = true)
    (k_at_power : PySem.W.keepIn K (.ref f_at_power) = true)
    (a_scaled : PySem.W.nsIn K mainGlobals "scaled" = some (some (.ref f_scaled)))
    (l_scaled : K.lookup f_scaled = some ⟨oc_scaled, od_scaled, .func (PySem.W.fnOf "scaled" "scaled" (defArgs sscaled) (defBody sscaled) (defScope sscaled) .none kV_scaled doc_scaled pm_scaled an_scaled cd_scaled ct_scaled), sl_scaled⟩)
    (c_scaled : PySem.W.codeIn K cd_scaled "scaled" = true)
    (k_scaled : PySem.W.keepIn K (.ref f_scaled) = true)
    (a_less : PySem.W.nsIn K mainGlobals "less" = some (some (.ref f_less)))
    (l_less : K.lookup f_less = some ⟨oc_less, od_less, .func (PySem.W.fnOf "less" "less" (defArgs sless) (defBody sless) (defScope sless) .none kV_less doc_less pm_less an_less cd_less ct_less), sl_less⟩)
    (c_less : PySem.W.codeIn K cd_less "less" = true)
    (k_less : PySem.W.keepIn K (.ref f_less) = true)
    (a_product : PySem.W.nsIn K mainGlobals "product" = some (some (.ref f_product)))
    (l_product : K.lookup f_product = some ⟨oc_product, od_product, .func (PySem.W.fnOf "product" "product" (defArgs sproduct) (defBody sproduct) (defScope sproduct) .none kV_product doc_product pm_product an_product cd_product ct_product), sl_product⟩)
    (c_product : PySem.W.codeIn K cd_product "product" = true)
    (k_product : PySem.W.keepIn K (.ref f_product) = true)
    (a_divisor : PySem.W.nsIn K mainGlobals "divisor" = some (some (.ref f_divisor)))
    (l_divisor : K.lookup f_divisor = some ⟨oc_divisor, od_divisor, .func (PySem.W.fnOf "divisor" "divisor" (defArgs sdivisor) (defBody sdivisor) (defScope sdivisor) .none kV_divisor doc_divisor pm_divisor an_divisor cd_divisor ct_divisor), sl_divisor⟩)
    (c_divisor : PySem.W.codeIn K cd_divisor "divisor" = true)
    (k_divisor : PySem.W.keepIn K (.ref f_divisor) = true)
    (a_content : PySem.W.nsIn K mainGlobals "content" = some (some (.ref f_content)))
    (l_content : K.lookup f_content = some ⟨oc_content, od_content, .func (PySem.W.fnOf "content" "content" (defArgs scontent) (defBody scontent) (defScope scontent) .none kV_content doc_content pm_content an_content cd_content ct_content), sl_content⟩)
    (c_content : PySem.W.codeIn K cd_content "content" = true)
    (k_content : PySem.W.keepIn K (.ref f_content) = true)
    (a_divided : PySem.W.nsIn K mainGlobals "divided" = some (some (.ref f_divided)))
    (l_divided : K.lookup f_divided = some ⟨oc_divided, od_divided, .func (PySem.W.fnOf "divided" "divided" (defArgs sdivided) (defBody sdivided) (defScope sdivided) .none kV_divided doc_divided pm_divided an_divided cd_divided ct_divided), sl_divided⟩)
    (c_divided : PySem.W.codeIn K cd_divided "divided" = true)
    (k_divided : PySem.W.keepIn K (.ref f_divided) = true)
    (a_primitive : PySem.W.nsIn K mainGlobals "primitive" = some (some (.ref f_primitive)))
    (l_primitive : K.lookup f_primitive = some ⟨oc_primitive, od_primitive, .func (PySem.W.fnOf "primitive" "primitive" (defArgs sprimitive) (defBody sprimitive) (defScope sprimitive) .none kV_primitive doc_primitive pm_primitive an_primitive cd_primitive ct_primitive), sl_primitive⟩)
    (c_primitive : PySem.W.codeIn K cd_primitive "primitive" = true)
    (k_primitive : PySem.W.keepIn K (.ref f_primitive) = true)
    (a_shifted : PySem.W.nsIn K mainGlobals "shifted" = some (some (.ref f_shifted)))
    (l_shifted : K.lookup f_shifted = some ⟨oc_shifted, od_shifted, .func (PySem.W.fnOf "shifted" "shifted" (defArgs sshifted) (defBody sshifted) (defScope sshifted) .none kV_shifted doc_shifted pm_shifted an_shifted cd_shifted ct_shifted), sl_shifted⟩)
    (c_shifted : PySem.W.codeIn K cd_shifted "shifted" = true)
    (k_shifted : PySem.W.keepIn K (.ref f_shifted) = true)
    (a_parted : PySem.W.nsIn K mainGlobals "parted" = some (some (.ref f_parted)))
    (l_parted : K.lookup f_parted = some ⟨oc_parted, od_parted, .func (PySem.W.fnOf "parted" "parted" (defArgs sparted) (defBody sparted) (defScope sparted) .none kV_parted doc_parted pm_parted an_parted cd_parted ct_parted), sl_parted⟩)
    (c_parted : PySem.W.codeIn K cd_parted "parted" = true)
    (k_parted : PySem.W.keepIn K (.ref f_parted) = true)
    (a_common : PySem.W.nsIn K mainGlobals "common" = some (some (.ref f_common)))
    (l_common : K.lookup f_common = some ⟨oc_common, od_common, .func (PySem.W.fnOf "common" "common" (defArgs scommon) (defBody scommon) (defScope scommon) .none kV_common doc_common pm_common an_common cd_common ct_common), sl_common⟩)
    (c_common : PySem.W.codeIn K cd_common "common" = true)
    (k_common : PySem.W.keepIn K (.ref f_common) = true)
    (a_plus : PySem.W.nsIn K mainGlobals "plus" = some (some (.ref f_plus)))
    (l_plus : K.lookup f_plus = some ⟨oc_plus, od_plus, .func (PySem.W.fnOf "plus" "plus" (defArgs splus) (defBody splus) (defScope splus) .none kV_plus doc_plus pm_plus an_plus cd_plus ct_plus), sl_plus⟩)
    (c_plus : PySem.W.codeIn K cd_plus "plus" = true)
    (k_plus : PySem.W.keepIn K (.ref f_plus) = true)
    (a_times : PySem.W.nsIn K mainGlobals "times" = some (some (.ref f_times)))
    (l_times : K.lookup f_times = some ⟨oc_times, od_times, .func (PySem.W.fnOf "times" "times" (defArgs stimes) (defBody stimes) (defScope stimes) .none kV_times doc_times pm_times an_times cd_times ct_times), sl_times⟩)
    (c_times : PySem.W.codeIn K cd_times "times" = true)
    (k_times : PySem.W.keepIn K (.ref f_times) = true)
    (a_common_divisor : PySem.W.nsIn K mainGlobals "common_divisor" = some (some (.ref f_common_divisor)))
    (l_common_divisor : K.lookup f_common_divisor = some ⟨oc_common_divisor, od_common_divisor, .func (PySem.W.fnOf "common_divisor" "common_divisor" (defArgs scommon_divisor) (defBody scommon_divisor) (defScope scommon_divisor) .none kV_common_divisor doc_common_divisor pm_common_divisor an_common_divisor cd_common_divisor ct_common_divisor), sl_common_divisor⟩)
    (c_common_divisor : PySem.W.codeIn K cd_common_divisor "common_divisor" = true)
    (k_common_divisor : PySem.W.keepIn K (.ref f_common_divisor) = true)
    (a_law_pen : PySem.W.nsIn K mainGlobals "_law_pen" = some (some (.ref f_law_pen)))
    (l_law_pen : K.lookup f_law_pen = some ⟨oc_law_pen, od_law_pen, .func (PySem.W.fnOf "_law_pen" "_law_pen" (defArgs s_law_pen) (defBody s_law_pen) (defScope s_law_pen) .none kV_law_pen doc_law_pen pm_law_pen an_law_pen cd_law_pen ct_law_pen), sl_law_pen⟩)
    (c_law_pen : PySem.W.codeIn K cd_law_pen "_law_pen" = true)
    (k_law_pen : PySem.W.keepIn K (.ref f_law_pen) = true)
    (a_law_draw : PySem.W.nsIn K mainGlobals "_law_draw" = some (some (.ref f_law_draw)))
    (l_law_draw : K.lookup f_law_draw = some ⟨oc_law_draw, od_law_draw, .func (PySem.W.fnOf "_law_draw" "_law_draw" (defArgs s_law_draw) (defBody s_law_draw) (defScope s_law_draw) .none kV_law_draw doc_law_draw pm_law_draw an_law_draw cd_law_draw ct_law_draw), sl_law_draw⟩)
    (c_law_draw : PySem.W.codeIn K cd_law_draw "_law_draw" = true)
    (k_law_draw : PySem.W.keepIn K (.ref f_law_draw) = true)
    (a_law_pick : PySem.W.nsIn K mainGlobals "_law_pick" = some (some (.ref f_law_pick)))
    (l_law_pick : K.lookup f_law_pick = some ⟨oc_law_pick, od_law_pick, .func (PySem.W.fnOf "_law_pick" "_law_pick" (defArgs s_law_pick) (defBody s_law_pick) (defScope s_law_pick) .none kV_law_pick doc_law_pick pm_law_pick an_law_pick cd_law_pick ct_law_pick), sl_law_pick⟩)
    (c_law_pick : PySem.W.codeIn K cd_law_pick "_law_pick" = true)
    (k_law_pick : PySem.W.keepIn K (.ref f_law_pick) = true)
    (a_law_at_heard : PySem.W.nsIn K mainGlobals "_law_at_heard" = some (some (.ref f_law_at_heard)))
    (l_law_at_heard : K.lookup f_law_at_heard = some ⟨oc_law_at_heard, od_law_at_heard, .func (PySem.W.fnOf "_law_at_heard" "_law_at_heard" (defArgs s_law_at_heard) (defBody s_law_at_heard) (defScope s_law_at_heard) .none kV_law_at_heard doc_law_at_heard pm_law_at_heard an_law_at_heard cd_law_at_heard ct_law_at_heard), sl_law_at_heard⟩)
    (c_law_at_heard : PySem.W.codeIn K cd_law_at_heard "_law_at_heard" = true)
    (k_law_at_heard : PySem.W.keepIn K (.ref f_law_at_heard) = true)
    (a_law_gr_value : PySem.W.nsIn K mainGlobals "_law_gr_value" = some (some (.ref f_law_gr_value)))
    (l_law_gr_value : K.lookup f_law_gr_value = some ⟨oc_law_gr_value, od_law_gr_value, .func (PySem.W.fnOf "_law_gr_value" "_law_gr_value" (defArgs s_law_gr_value) (defBody s_law_gr_value) (defScope s_law_gr_value) .none kV_law_gr_value doc_law_gr_value pm_law_gr_value an_law_gr_value cd_law_gr_value ct_law_gr_value), sl_law_gr_value⟩)
    (c_law_gr_value : PySem.W.codeIn K cd_law_gr_value "_law_gr_value" = true)
    (k_law_gr_value : PySem.W.keepIn K (.ref f_law_gr_value) = true)
    (a_law_gr_poly : PySem.W.nsIn K mainGlobals "_law_gr_poly" = some (some (.ref f_law_gr_poly)))
    (l_law_gr_poly : K.lookup f_law_gr_poly = some ⟨oc_law_gr_poly, od_law_gr_poly, .func (PySem.W.fnOf "_law_gr_poly" "_law_gr_poly" (defArgs s_law_gr_poly) (defBody s_law_gr_poly) (defScope s_law_gr_poly) .none kV_law_gr_poly doc_law_gr_poly pm_law_gr_poly an_law_gr_poly cd_law_gr_poly ct_law_gr_poly), sl_law_gr_poly⟩)
    (c_law_gr_poly : PySem.W.codeIn K cd_law_gr_poly "_law_gr_poly" = true)
    (k_law_gr_poly : PySem.W.keepIn K (.ref f_law_gr_poly) = true)
    (a_law_gr_times : PySem.W.nsIn K mainGlobals "_law_gr_times" = some (some (.ref f_law_gr_times)))
    (l_law_gr_times : K.lookup f_law_gr_times = some ⟨oc_law_gr_times, od_law_gr_times, .func (PySem.W.fnOf "_law_gr_times" "_law_gr_times" (defArgs s_law_gr_times) (defBody s_law_gr_times) (defScope s_law_gr_times) .none kV_law_gr_times doc_law_gr_times pm_law_gr_times an_law_gr_times cd_law_gr_times ct_law_gr_times), sl_law_gr_times⟩)
    (c_law_gr_times : PySem.W.codeIn K cd_law_gr_times "_law_gr_times" = true)
    (k_law_gr_times : PySem.W.keepIn K (.ref f_law_gr_times) = true)
    (a_law_gr_left : PySem.W.nsIn K mainGlobals "_law_gr_left" = some (some (.ref f_law_gr_left)))
    (l_law_gr_left : K.lookup f_law_gr_left = some ⟨oc_law_gr_left, od_law_gr_left, .func (PySem.W.fnOf "_law_gr_left" "_law_gr_left" (defArgs s_law_gr_left) (defBody s_law_gr_left) (defScope s_law_gr_left) .none kV_law_gr_left doc_law_gr_left pm_law_gr_left an_law_gr_left cd_law_gr_left ct_law_gr_left), sl_law_gr_left⟩)
    (c_law_gr_left : PySem.W.codeIn K cd_law_gr_left "_law_gr_left" = true)
    (k_law_gr_left : PySem.W.keepIn K (.ref f_law_gr_left) = true)
    (aT : PySem.W.nsIn K mainGlobals "TowerError" = some (some (.ref cT)))
    (aB : PySem.W.nsIn K mainGlobals "BadValue" = some (some (.ref CB)))
    (x_TooMany : PySem.W.nsIn K mainGlobals "TooMany" = some (some (.ref c_TooMany)))
    (x_BadText : PySem.W.nsIn K mainGlobals "BadText" = some (some (.ref c_BadText)))
    (x_BadWord : PySem.W.nsIn K mainGlobals "BadWord" = some (some (.ref c_BadWord)))
    (x_BadName : PySem.W.nsIn K mainGlobals "BadName" = some (some (.ref c_BadName)))
    (x_NoName : PySem.W.nsIn K mainGlobals "NoName" = some (some (.ref c_NoName)))
    (x_Nothing : PySem.W.nsIn K mainGlobals "Nothing" = some (some (.ref c_Nothing)))
    (x_BadNumber : PySem.W.nsIn K mainGlobals "BadNumber" = some (some (.ref c_BadNumber)))
    (x_BadKind : PySem.W.nsIn K mainGlobals "BadKind" = some (some (.ref c_BadKind)))
    (x_BadKit : PySem.W.nsIn K mainGlobals "BadKit" = some (some (.ref c_BadKit)))
    (x_BadTower : PySem.W.nsIn K mainGlobals "BadTower" = some (some (.ref c_BadTower)))
    (x_BadFrame : PySem.W.nsIn K mainGlobals "BadFrame" = some (some (.ref c_BadFrame)))
    (x_BadPlan : PySem.W.nsIn K mainGlobals "BadPlan" = some (some (.ref c_BadPlan)))
    (x_BadSite : PySem.W.nsIn K mainGlobals "BadSite" = some (some (.ref c_BadSite)))
    (x_BadPaper : PySem.W.nsIn K mainGlobals "BadPaper" = some (some (.ref c_BadPaper)))
    (x_Misfit : PySem.W.nsIn K mainGlobals "Misfit" = some (some (.ref c_Misfit)))
    (eT : PySem.W.subIn K (.ref cT) (.type "BaseException") = some true)
    (hT : PySem.W.hasDictIn K cT = true)
    (yT : PySem.W.typeIn K (.ref cT) = some (.type "type"))
    (sT : PySem.W.subIn K (.ref CB) (.ref cT) = some true)
    (xL : K.lookup CB = some (excClassObj nm qn CB N bs [.ref cT, .type "ValueError", .type "Exception", .type "BaseException", .type "object"] true sn sub ab col dd m0 m1 m2 m3 m5 "ValueError.__new__"))
    (sa : PySem.W.findIn K (.ref CB) "__setattr__" = some (some (.builtin "object.__setattr__")))
    (ga : PySem.W.findIn K (.ref CB) "__getattribute__" = some (some (.builtin "BaseException.__getattribute__")))
    (gg : PySem.W.findIn K (.ref CB) "__getattr__" = some none)
    (nb : PySem.W.findIn K (.ref CB) "part" = some none)
    (gc : PySem.W.findIn K (.ref CB) "__class__" = some (some (.builtin "object.__class__")))
    (sg : PySem.W.specialIn K (.builtin "object.__class__") "__get__" = some (some (.builtin "getset_descriptor.__get__")))
    (tg : PySem.W.takesIn K (.builtin "object.__class__") = some true)
    (mo : PySem.W.mroIn K CB (.type "object") = some true)
    (iC : PySem.W.findIn K (.ref CB) "__init__" = some (some (.ref fI)))
    (tI : PySem.W.typeIn K (.ref fI) = some (.type "function"))
    (lI : K.lookup fI = some ⟨ocI, odI, .func (PySem.W.ksFn "__init__" "BadValue.__init__" (C8.fnArgs sInit) (C8.fnBody sInit) (C8.fnScope sInit) .none .none docI pmI anI (.ref cda) ctI cc), slI⟩)
    (cI : PySem.W.codeIn K (.ref cda) "BadValue.__init__" = true)
    (lc : K.lookup cda = some ⟨ccl, cdd, .fields cvs, ccs⟩)
    (vf : cvs[2]? = some (.str file tf))
    (pf : ((l.prog.main.file : Str) == file) = true)
    (lz : K.lookup cc = some ⟨czl, czd, .cell (some (.ref CB)), czs⟩)
    (kC : PySem.W.keepIn K (.ref CB) = true)
    (eC : PySem.W.subIn K (.ref CB) (.type "BaseException") = some true)
    (tC : PySem.W.typeIn K (.ref CB) = some (.type "type"))
    (hC : PySem.W.hasDictIn K CB = true)
    (mC : PySem.W.mroIn K CB (.ref CB) = some true)
    (vC : PySem.W.subIn K (.ref CB) (.type "ValueError") = some true)
    (tp : PySem.W.nsIn K cStatics "thirdparty.any" = some none)
    (su : PySem.W.ks_superIn K CB CB "__init__" = some (some (.builtin "ValueError.__init__")))
    (ts : (l.prog.main.scope.names.lookup ("super" : Str)).isSome = false)
    (kB : PySem.W.kitOne K (.ref CB) (.ref CB) = some true)
    (y_TooMany : PySem.W.kitOne K (.ref CB) (.ref c_TooMany) = some false)
    (y_BadText : PySem.W.kitOne K (.ref CB) (.ref c_BadText) = some false)
    (y_BadWord : PySem.W.kitOne K (.ref CB) (.ref c_BadWord) = some false)
    (y_BadName : PySem.W.kitOne K (.ref CB) (.ref c_BadName) = some false)
    (y_NoName : PySem.W.kitOne K (.ref CB) (.ref c_NoName) = some false)
    (y_Nothing : PySem.W.kitOne K (.ref CB) (.ref c_Nothing) = some false)
    (y_BadNumber : PySem.W.kitOne K (.ref CB) (.ref c_BadNumber) = some false)
    (y_BadKind : PySem.W.kitOne K (.ref CB) (.ref c_BadKind) = some false)
    (y_BadKit : PySem.W.kitOne K (.ref CB) (.ref c_BadKit) = some false)
    (y_BadTower : PySem.W.kitOne K (.ref CB) (.ref c_BadTower) = some false)
    (y_BadFrame : PySem.W.kitOne K (.ref CB) (.ref c_BadFrame) = some false)
    (y_BadPlan : PySem.W.kitOne K (.ref CB) (.ref c_BadPlan) = some false)
    (y_BadSite : PySem.W.kitOne K (.ref CB) (.ref c_BadSite) = some false)
    (y_BadPaper : PySem.W.kitOne K (.ref CB) (.ref c_BadPaper) = some false)
    (y_Misfit : PySem.W.kitOne K (.ref CB) (.ref c_Misfit) = some false)
    (a_law : PySem.W.nsIn K mainGlobals "law" = some (some (.ref f_law)))
    (l_law : K.lookup f_law = some ⟨oc, od, .func (PySem.W.fnOf "law" "law" (defArgs slaw) (defBody slaw) (defScope slaw) .none kV doc pm an (.ref c) ct), osl⟩)
    (c_law : PySem.W.codeIn K (.ref c) "law" = true)
    : ∃ (fd : FuncData) (c : Addr) (sp : Addr → Sp), fd.code = .ref c ∧ (∃ (oc : Value) (od : Option Addr) (osl : Array (Option Value)), K.lookup fa = some ⟨oc, od, .func fd, osl⟩) ∧
      (∀ (s : Shared) (u : Value), BindsTo s fd ⟨[u], []⟩ [("script", u)]) ∧ (∀ (Pt : Addr) (H : Hp) (a : Addr) (ns : List Int), ns.length ≤ 63 → H Pt = some (.tbl #[]) → SqL K H a (ns.map V.int) → sp Pt [.ref a] H (fun v _ => v = .bl true) fun _ _ _ => False) ∧
      ∀ (Pt : Addr) (base : Heap), K.In base → base.Ns mainGlobals mg → TabB base mg c Pt → FnOk l.prog w K mg base CX0 9 fa fd ["script"] (sp Pt) := by
  have g : ∀ {x : Str} {v : Value}, PySem.W.nsIn K mainGlobals x = some (some v) → mg x = some v := fun e => PySem.W.mg_of KX G e
  have z : ∀ {x : Str}, PySem.W.nsIn K mainGlobals x = some none → mg x = none := fun e => PySem.W.mg_none_of KX G e
  have e := hmg.symm.trans (g a_law)
  cases e
  have D : Defs K mg := {
    d_is_integer := df_mk KX G a_is_integer l_is_integer c_is_integer k_is_integer
    d_is_poly := df_mk KX G a_is_poly l_is_poly c_is_poly k_is_poly
    d_need_poly := df_mk KX G a_need_poly l_need_poly c_need_poly k_need_poly
    d_cut := df_mk KX G a_cut l_cut c_cut k_cut
    d_sum_of := df_mk KX G a_sum_of l_sum_of c_sum_of k_sum_of
    d_at_power := df_mk KX G a_at_power l_at_power c_at_power k_at_power
    d_scaled := df_mk KX G a_scaled l_scaled c_scaled k_scaled
    d_less := df_mk KX G a_less l_less c_less k_less
    d_product := df_mk KX G a_product l_product c_product k_product
    d_divisor := df_mk KX G a_divisor l_divisor c_divisor k_divisor
    d_content := df_mk KX G a_content l_content c_content k_content
    d_divided := df_mk KX G a_divided l_divided c_divided k_divided
    d_primitive := df_mk KX G a_primitive l_primitive c_primitive k_primitive
    d_shifted := df_mk KX G a_shifted l_shifted c_shifted k_shifted
    d_parted := df_mk KX G a_parted l_parted c_parted k_parted
    d_common := df_mk KX G a_common l_common c_common k_common
    d_plus := df_mk KX G a_plus l_plus c_plus k_plus
    d_times := df_mk KX G a_times l_times c_times k_times
    d_common_divisor := df_mk KX G a_common_divisor l_common_divisor c_common_divisor k_common_divisor
    d__law_pen := df_mk KX G a_law_pen l_law_pen c_law_pen k_law_pen
    d__law_draw := df_mk KX G a_law_draw l_law_draw c_law_draw k_law_draw
    d__law_pick := df_mk KX G a_law_pick l_law_pick c_law_pick k_law_pick
    d__law_at_heard := df_mk KX G a_law_at_heard l_law_at_heard c_law_at_heard k_law_at_heard
    d__law_gr_value := df_mk KX G a_law_gr_value l_law_gr_value c_law_gr_value k_law_gr_value
    d__law_gr_poly := df_mk KX G a_law_gr_poly l_law_gr_poly c_law_gr_poly k_law_gr_poly
    d__law_gr_times := df_mk KX G a_law_gr_times l_law_gr_times c_law_gr_times k_law_gr_times
    d__law_gr_left := df_mk KX G a_law_gr_left l_law_gr_left c_law_gr_left k_law_gr_left
  }
  have TB : OexC K CB := ⟨⟨nm, qn, N, bs, _, sn, sub, ab, col, dd, m0, m1, m2, m3, m5, xL, rfl⟩, sa, eC, tC, kC⟩
  have B : ExcDef l.prog K mg CB fI cc cda "part" "part" "__init__" "BadValue.__init__" (C8.fnArgs sInit) (C8.fnScope sInit) (C8.fnBody sInit) (PySem.W.ksFn "__init__" "BadValue.__init__" (C8.fnArgs sInit) (C8.fnBody sInit) (C8.fnScope sInit) .none .none docI pmI anI (.ref cda) ctI cc) :=
    ⟨⟨_, _, _, _, _, _, _, _, _, rfl, lI⟩, cI, ⟨_, _, _, _, _, _, lc, vf, pf⟩, ⟨_, _, _, lz⟩, TB, mC, su, vC, tp, ts, z z_super, nb, ⟨_, rfl, rfl⟩⟩
  have T : Ex K mg CB (caOf [("TowerError", cT), ("TooMany", c_TooMany), ("BadText", c_BadText), ("BadWord", c_BadWord), ("BadName", c_BadName), ("NoName", c_NoName), ("Nothing", c_Nothing), ("BadNumber", c_BadNumber), ("BadKind", c_BadKind), ("BadKit", c_BadKit), ("BadTower", c_BadTower), ("BadFrame", c_BadFrame), ("BadPlan", c_BadPlan), ("BadSite", c_BadSite), ("BadPaper", c_BadPaper), ("Misfit", c_Misfit)]) := {
    z_len := z z_len
    z_tuple := z z_tuple
    z_list := z z_list
    z_int := z z_int
    z_bool := z z_bool
    z_abs := z z_abs
    z_max := z z_max
    z_isinstance := z z_isinstance
    z_all := z z_all
    z_enumerate := z z_enumerate
    z_range := z z_range
    g_TowerError := g aT
    exm := PySem.W.exm_ref eT hT yT sT
    exC := ⟨ga, gg, eC, hC, gc, sg, tg, mo⟩
    xf := ⟨ga, gg, eC, hC⟩
    fld := nb
    g_BadValue := g aB
    k_BadValue := kB
    g_TooMany := g x_TooMany
    k_TooMany := y_TooMany
    g_BadText := g x_BadText
    k_BadText := y_BadText
    g_BadWord := g x_BadWord
    k_BadWord := y_BadWord
    g_BadName := g x_BadName
    k_BadName := y_BadName
    g_NoName := g x_NoName
    k_NoName := y_NoName
    g_Nothing := g x_Nothing
    k_Nothing := y_Nothing
    g_BadNumber := g x_BadNumber
    k_BadNumber := y_BadNumber
    g_BadKind := g x_BadKind
    k_BadKind := y_BadKind
    g_BadKit := g x_BadKit
    k_BadKit := y_BadKit
    g_BadTower := g x_BadTower
    k_BadTower := y_BadTower
    g_BadFrame := g x_BadFrame
    k_BadFrame := y_BadFrame
    g_BadPlan := g x_BadPlan
    k_BadPlan := y_BadPlan
    g_BadSite := g x_BadSite
    k_BadSite := y_BadSite
    g_BadPaper := g x_BadPaper
    k_BadPaper := y_BadPaper
    g_Misfit := g x_Misfit
    k_Misfit := y_Misfit
  }
  exact ⟨_, c, sp_law K, rfl, ⟨_, _, _, l_law⟩, fun s u => .of_eq rfl, fun Pt H a ns hl hT hS => ⟨a, ns, rfl, hS, hl, hT, fun _ => rfl⟩, fun Pt base _ _ tb => law_all T D (exc_cl B T.g_BadValue iC tI rfl rfl) tb l_law c_law⟩
end AT

set_option Elab.async false
set_option linter.all false
set_option maxRecDepth 100000
open PySem PySem.W PyProof.Rows
set_option maxHeartbeats 0
theorem PySem.Challenge.cw_anytower_k50_polynomials_holds : PySem.Challenge.rw_anytower_k50_polynomials.Holds := by
  w_on; o_law; k_head; (case hw => w_witness2)
  k_fill
  refine AT.walk_top (n := 63) (k := 9) (x := "script") rfl (by decide) rfl ⟨rfl, by decide, by decide⟩ (fun w h Y => PySem.W.km_in_of Y) (List.mem_of_find?_eq_some (p := fun e : DefRec => e.name == ("law" : Str)) (by kernel_rfl)) (fun w => by kernel_rfl) ?_
  intro w mg fa h Y KX G hmg
  refine' AT.law_at KX G hmg ?z_len ?z_tuple ?z_list ?z_int ?z_bool ?z_abs ?z_max ?z_isinstance ?z_all ?z_enumerate ?z_range ?z_super ?a_is_integer ?l_is_integer ?c_is_integer ?k_is_integer ?a_is_poly ?l_is_poly ?c_is_poly ?k_is_poly ?a_need_poly ?l_need_poly ?c_need_poly ?k_need_poly ?a_cut ?l_cut ?c_cut ?k_cut ?a_sum_of ?l_sum_of ?c_sum_of ?k_sum_of ?a_at_power ?l_at_power ?c_at_power ?k_at_power ?a_scaled ?l_scaled ?c_scaled ?k_scaled ?a_less ?l_less ?c_less ?k_less ?a_product ?l_product ?c_product ?k_product ?a_divisor ?l_divisor ?c_divisor ?k_divisor ?a_content ?l_content ?c_content ?k_content ?a_divided ?l_divided ?c_divided ?k_divided ?a_primitive ?l_primitive ?c_primitive ?k_primitive ?a_shifted ?l_shifted ?c_shifted ?k_shifted ?a_parted ?l_parted ?c_parted ?k_parted ?a_common ?l_common ?c_common ?k_common ?a_plus ?l_plus ?c_plus ?k_plus ?a_times ?l_times ?c_times ?k_times ?a_common_divisor ?l_common_divisor ?c_common_divisor ?k_common_divisor ?a_law_pen ?l_law_pen ?c_law_pen ?k_law_pen ?a_law_draw ?l_law_draw ?c_law_draw ?k_law_draw ?a_law_pick ?l_law_pick ?c_law_pick ?k_law_pick ?a_law_at_heard ?l_law_at_heard ?c_law_at_heard ?k_law_at_heard ?a_law_gr_value ?l_law_gr_value ?c_law_gr_value ?k_law_gr_value ?a_law_gr_poly ?l_law_gr_poly ?c_law_gr_poly ?k_law_gr_poly ?a_law_gr_times ?l_law_gr_times ?c_law_gr_times ?k_law_gr_times ?a_law_gr_left ?l_law_gr_left ?c_law_gr_left ?k_law_gr_left ?aT ?aB ?x_TooMany ?x_BadText ?x_BadWord ?x_BadName ?x_NoName ?x_Nothing ?x_BadNumber ?x_BadKind ?x_BadKit ?x_BadTower ?x_BadFrame ?x_BadPlan ?x_BadSite ?x_BadPaper ?x_Misfit ?eT ?hT ?yT ?sT ?xL ?sa ?ga ?gg ?nb ?gc ?sg ?tg ?mo ?iC ?tI ?lI ?cI ?lc ?vf ?pf ?lz ?kC ?eC ?tC ?hC ?mC ?vC ?tp ?su ?ts ?kB ?y_TooMany ?y_BadText ?y_BadWord ?y_BadName ?y_NoName ?y_Nothing ?y_BadNumber ?y_BadKind ?y_BadKit ?y_BadTower ?y_BadFrame ?y_BadPlan ?y_BadSite ?y_BadPaper ?y_Misfit ?a_law ?l_law ?c_law
  (case z_len => k_is)
  (case z_tuple => k_is)
  (case z_list => k_is)
  (case z_int => k_is)
  (case z_bool => k_is)
  (case z_abs => k_is)
  (case z_max => k_is)
  (case z_isinstance => k_is)
  (case z_all => k_is)
  (case z_enumerate => k_is)
  (case z_range => k_is)
  (case z_super => k_is)
  (case a_is_integer => k_is)
  (case l_is_integer => k_is)
  (case c_is_integer => k_is)
  (case k_is_integer => k_is)
  (case a_is_poly => k_is)
  (case l_is_poly => k_is)
  (case c_is_poly => k_is)
  (case k_is_poly => k_is)
  (case a_need_poly => k_is)
  (case l_need_poly => k_is)
  (case c_need_poly => k_is)
  (case k_need_poly => k_is)
  (case a_cut => k_is)
  (case l_cut => k_is)
  (case c_cut => k_is)
  (case k_cut => k_is)
  (case a_sum_of => k_is)
  (case l_sum_of => k_is)
  (case c_sum_of => k_is)
  (case k_sum_of => k_is)
  (case a_at_power => k_is)
  (case l_at_power => k_is)
  (case c_at_power => k_is)
  (case k_at_power => k_is)
  (case a_scaled => k_is)
  (case l_scaled => k_is)
  (case c_scaled => k_is)
  (case k_scaled => k_is)
  (case a_less => k_is)
  (case l_less => k_is)
  (case c_less => k_is)
  (case k_less => k_is)
  (case a_product => k_is)
  (case l_product => k_is)
  (case c_product => k_is)
  (case k_product => k_is)
  (case a_divisor => k_is)
  (case l_divisor => k_is)
  (case c_divisor => k_is)
  (case k_divisor => k_is)
  (case a_content => k_is)
  (case l_content => k_is)
  (case c_content => k_is)
  (case k_content => k_is)
  (case a_divided => k_is)
  (case l_divided => k_is)
  (case c_divided => k_is)
  (case k_divided => k_is)
  (case a_primitive => k_is)
  (case l_primitive => k_is)
  (case c_primitive => k_is)
  (case k_primitive => k_is)
  (case a_shifted => k_is)
  (case l_shifted => k_is)
  (case c_shifted => k_is)
  (case k_shifted => k_is)
  (case a_parted => k_is)
  (case l_parted => k_is)
  (case c_parted => k_is)
  (case k_parted => k_is)
  (case a_common => k_is)
  (case l_common => k_is)
  (case c_common => k_is)
  (case k_common => k_is)
  (case a_plus => k_is)
  (case l_plus => k_is)
  (case c_plus => k_is)
  (case k_plus => k_is)
  (case a_times => k_is)
  (case l_times => k_is)
  (case c_times => k_is)
  (case k_times => k_is)
  (case a_common_divisor => k_is)
  (case l_common_divisor => k_is)
  (case c_common_divisor => k_is)
  (case k_common_divisor => k_is)
  (case a_law_pen => k_is)
  (case l_law_pen => k_is)
  (case c_law_pen => k_is)
  (case k_law_pen => k_is)
  (case a_law_draw => k_is)
  (case l_law_draw => k_is)
  (case c_law_draw => k_is)
  (case k_law_draw => k_is)
  (case a_law_pick => k_is)
  (case l_law_pick => k_is)
  (case c_law_pick => k_is)
  (case k_law_pick => k_is)
  (case a_law_at_heard => k_is)
  (case l_law_at_heard => k_is)
  (case c_law_at_heard => k_is)
  (case k_law_at_heard => k_is)
  (case a_law_gr_value => k_is)
  (case l_law_gr_value => k_is)
  (case c_law_gr_value => k_is)
  (case k_law_gr_value => k_is)
  (case a_law_gr_poly => k_is)
  (case l_law_gr_poly => k_is)
  (case c_law_gr_poly => k_is)
  (case k_law_gr_poly => k_is)
  (case a_law_gr_times => k_is)
  (case l_law_gr_times => k_is)
  (case c_law_gr_times => k_is)
  (case k_law_gr_times => k_is)
  (case a_law_gr_left => k_is)
  (case l_law_gr_left => k_is)
  (case c_law_gr_left => k_is)
  (case k_law_gr_left => k_is)
  (case aT => k_is)
  (case aB => k_is)
  (case x_TooMany => k_is)
  (case x_BadText => k_is)
  (case x_BadWord => k_is)
  (case x_BadName => k_is)
  (case x_NoName => k_is)
  (case x_Nothing => k_is)
  (case x_BadNumber => k_is)
  (case x_BadKind => k_is)
  (case x_BadKit => k_is)
  (case x_BadTower => k_is)
  (case x_BadFrame => k_is)
  (case x_BadPlan => k_is)
  (case x_BadSite => k_is)
  (case x_BadPaper => k_is)
  (case x_Misfit => k_is)
  (case eT => k_is)
  (case hT => k_is)
  (case yT => k_is)
  (case sT => k_is)
  (case xL => k_is)
  (case sa => k_is)
  (case ga => k_is)
  (case gg => k_is)
  (case nb => k_is)
  (case gc => k_is)
  (case sg => k_is)
  (case tg => k_is)
  (case mo => k_is)
  (case iC => k_is)
  (case tI => k_is)
  (case lI => k_is)
  (case cI => k_is)
  (case lc => k_is)
  (case vf => rfl)
  (case pf => first | rfl | decide +kernel)
  (case lz => k_is)
  (case kC => k_is)
  (case eC => k_is)
  (case tC => k_is)
  (case hC => k_is)
  (case mC => k_is)
  (case vC => k_is)
  (case tp => k_is)
  (case su => first | ks_is | kernel_rfl)
  (case ts => first | rfl | decide +kernel)
  (case kB => kernel_rfl)
  (case y_TooMany => kernel_rfl)
  (case y_BadText => kernel_rfl)
  (case y_BadWord => kernel_rfl)
  (case y_BadName => kernel_rfl)
  (case y_NoName => kernel_rfl)
  (case y_Nothing => kernel_rfl)
  (case y_BadNumber => kernel_rfl)
  (case y_BadKind => kernel_rfl)
  (case y_BadKit => kernel_rfl)
  (case y_BadTower => kernel_rfl)
  (case y_BadFrame => kernel_rfl)
  (case y_BadPlan => kernel_rfl)
  (case y_BadSite => kernel_rfl)
  (case y_BadPaper => kernel_rfl)
  (case y_Misfit => kernel_rfl)
  (case a_law => k_is)
  (case l_law => k_is)
  (case c_law => k_is)
