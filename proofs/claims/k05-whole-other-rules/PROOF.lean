import PyProof.Rows.All
import Wide.All
import OpenK.AllK
import Wide.FinOn
import HandS.ForMost
import HandS.Wide
import HandS.IsInst
import HandS.More
import HandS.Style
import HandS.Walk
import HandS.Codes
import PySem.Challenge.RW_shortheld_k05_whole_other_rules
set_option Elab.async false
set_option maxRecDepth 100000
set_option maxHeartbeats 4000000
/-! The mathematics of texts told by rules: no program here. -/
namespace Sh

/-- k times u -/
def rep (k : Nat) (u : List Nat) : List Nat := (List.replicate k u).flatten
/-- the letters from a up to b -/
def slice (t : List Nat) (a b : Nat) : List Nat := (t.drop a).take (b - a)

theorem rep_zero (u : List Nat) : rep 0 u = [] := rfl
theorem rep_succ (k : Nat) (u : List Nat) : rep (k + 1) u = u ++ rep k u := by
  unfold rep
  rw [List.replicate_succ, List.flatten_cons]
theorem rep_one (u : List Nat) : rep 1 u = u := by
  rw [rep_succ, rep_zero, List.append_nil]
theorem rep_add (a b : Nat) (u : List Nat) : rep (a + b) u = rep a u ++ rep b u := by
  induction a with
  | zero => rw [Nat.zero_add, rep_zero, List.nil_append]
  | succ n ih => rw [Nat.succ_add, rep_succ, rep_succ, ih, List.append_assoc]
theorem rep_mul (a b : Nat) (u : List Nat) : rep (a * b) u = rep a (rep b u) := by
  induction a with
  | zero => rw [Nat.zero_mul, rep_zero, rep_zero]
  | succ n ih => rw [Nat.succ_mul, Nat.add_comm, rep_add, rep_succ, ih]
theorem rep_length (k : Nat) (u : List Nat) : (rep k u).length = k * u.length := by
  induction k with
  | zero => rw [rep_zero, Nat.zero_mul]; rfl
  | succ n ih => rw [rep_succ, List.length_append, ih, Nat.succ_mul, Nat.add_comm]
theorem rep_nil (k : Nat) : rep k [] = [] := by
  have h := rep_length k []
  rw [List.length_nil, Nat.mul_zero] at h
  exact List.eq_nil_of_length_eq_zero h
theorem rep_shift (p q : List Nat) : ∀ n : Nat, p ++ (rep n (q ++ p) ++ q) = rep (n + 1) (p ++ q)
  | 0 => by rw [rep_zero, List.nil_append, rep_one]
  | n + 1 => by
    rw [rep_succ (n + 1) (p ++ q), ← rep_shift p q n, rep_succ]
    simp only [List.append_assoc]

theorem slice_length {t : List Nat} {a b : Nat} (hb : b ≤ t.length) : (slice t a b).length = b - a := by
  unfold slice
  rw [List.length_take, List.length_drop]
  omega
theorem slice_self (t : List Nat) (a : Nat) : slice t a a = [] := by
  unfold slice
  rw [Nat.sub_self, List.take_zero]
theorem slice_empty (t : List Nat) {a b : Nat} (h : b ≤ a) : slice t a b = [] := by
  unfold slice
  rw [Nat.sub_eq_zero_of_le h, List.take_zero]
theorem slice_all (t : List Nat) : slice t 0 t.length = t := by
  unfold slice
  rw [List.drop_zero, Nat.sub_zero, List.take_length]
theorem slice_append (t : List Nat) {a c b : Nat} (h1 : a ≤ c) (h2 : c ≤ b) : slice t a c ++ slice t c b = slice t a b := by
  unfold slice
  have e : b - a = (c - a) + (b - c) := by omega
  rw [e, List.take_add, List.drop_drop]
  have e2 : a + (c - a) = c := by omega
  rw [e2]
theorem slice_slice (t : List Nat) {s e a b : Nat} (h : b ≤ e - s) : slice (slice t s e) a b = slice t (a + s) (b + s) := by
  unfold slice
  rw [List.drop_take, List.take_take, List.drop_drop]
  have e1 : s + a = a + s := Nat.add_comm _ _
  have e2 : min (b - a) (e - s - a) = b + s - (a + s) := by omega
  rw [e1, e2]
theorem slice_get {t : List Nat} {a b p : Nat} (h : p < b - a) : (slice t a b)[p]? = t[p + a]? := by
  unfold slice
  rw [List.getElem?_take_of_lt h, List.getElem?_drop, Nat.add_comm]
theorem slice_cut (t : List Nat) {c : Nat} (h : c ≤ t.length) : slice t 0 c ++ slice t c t.length = t := by
  rw [slice_append t (Nat.zero_le _) h, slice_all]
theorem slice_reverse {t : List Nat} {a b : Nat} (hab : a ≤ b) (hb : b ≤ t.length) : (slice t (t.length - b) (t.length - a)).reverse = slice t.reverse a b := by
  apply List.ext_getElem?
  intro i
  have hl : (slice t (t.length - b) (t.length - a)).length = b - a := by
    rw [slice_length (Nat.sub_le _ _)]
    omega
  by_cases hi : i < b - a
  · rw [List.getElem?_reverse (by rw [hl]; exact hi), hl, slice_get (by omega), slice_get hi, List.getElem?_reverse (by omega)]
    congr 1
    omega
  · rw [List.getElem?_eq_none (by rw [List.length_reverse, hl]; omega), List.getElem?_eq_none (by rw [slice_length (by rw [List.length_reverse]; exact hb)]; omega)]
theorem slice_left (u v : List Nat) {a b : Nat} (hb : b ≤ u.length) : slice (u ++ v) a b = slice u a b := by
  unfold slice
  by_cases h : a ≤ u.length
  · rw [List.drop_append_of_le_length h, List.take_append_of_le_length (by rw [List.length_drop]; omega)]
  · rw [Nat.sub_eq_zero_of_le (by omega), List.take_zero, List.take_zero]
theorem slice_right (u v : List Nat) {a b : Nat} (ha : u.length ≤ a) : slice (u ++ v) a b = slice v (a - u.length) (b - u.length) := by
  unfold slice
  rw [List.drop_append, List.drop_eq_nil_of_le ha, List.nil_append]
  congr 1
  omega
theorem rep_slice (u : List Nat) {k q x y : Nat} (hq : q < k) (hy : y ≤ u.length) : slice (rep k u) (q * u.length + x) (q * u.length + y) = slice u x y := by
  have e : k = q + (1 + (k - q - 1)) := by omega
  rw [e, rep_add, rep_add, rep_one]
  have hl := rep_length q u
  by_cases h : x ≤ y
  · rw [slice_right _ _ (by omega), hl]
    have e1 : q * u.length + x - q * u.length = x := by omega
    have e2 : q * u.length + y - q * u.length = y := by omega
    rw [e1, e2, slice_left _ _ hy]
  · rw [slice_empty _ (by omega), slice_empty _ (by omega)]
theorem rep_get (u : List Nat) {k p : Nat} (hp : p < k * u.length) : (rep k u)[p]? = u[p % u.length]? ∧ p % u.length < u.length := by
  have hm : 0 < u.length := by
    rcases Nat.eq_zero_or_pos u.length with h | h
    · rw [h, Nat.mul_zero] at hp
      omega
    · exact h
  have hr := Nat.mod_lt p hm
  have hd : p / u.length < k := Nat.div_lt_of_lt_mul (by rw [Nat.mul_comm]; exact hp)
  refine ⟨?_, hr⟩
  have e : k = p / u.length + (1 + (k - p / u.length - 1)) := by omega
  have hl := rep_length (p / u.length) u
  have hdm : p = p / u.length * u.length + p % u.length := by
    rw [Nat.mul_comm]
    exact (Nat.div_add_mod p u.length).symm
  rw [e, rep_add, rep_add, rep_one, List.getElem?_append_right (by rw [hl]; omega), hl]
  have e3 : p - p / u.length * u.length = p % u.length := by omega
  rw [e3, List.getElem?_append_left hr]

/-! ### rules -/
inductive R where
  | lit (z : List Nat)
  | join (i j : Nat)
  | pow (i k : Nat)
  | part (i a b : Nat)
  | back (i : Nat)

/-- the rule r, number i, makes t, where ts are what all rules make -/
def RuleAt (L : List Nat) (ts : List (List Nat)) (i : Nat) : R → List Nat → Prop
  | .lit z, t => t = z ∧ z.length ≤ 64 ∧ ∀ c ∈ z, c ∈ L
  | .join j k, t => ∃ u v, j < i ∧ k < i ∧ ts[j]? = some u ∧ ts[k]? = some v ∧ t = u ++ v
  | .pow j k, t => ∃ u, j < i ∧ ts[j]? = some u ∧ k ≤ 1000000000000 ∧ t = rep k u
  | .part j a b, t => ∃ u, j < i ∧ ts[j]? = some u ∧ a ≤ b ∧ b ≤ u.length ∧ t = slice u a b
  | .back j, t => ∃ u, j < i ∧ ts[j]? = some u ∧ t = u.reverse

structure WF (L : List Nat) (rs : List R) (ts : List (List Nat)) : Prop where
  len : rs.length = ts.length
  at_ : ∀ (i : Nat) (r : R), rs[i]? = some r → ∃ t, ts[i]? = some t ∧ t.length ≤ 1000000000000 ∧ RuleAt L ts i r t

theorem get_app {α : Type} {ts us : List α} {i : Nat} {u : α} (h : ts[i]? = some u) : (ts ++ us)[i]? = some u := by
  rw [List.getElem?_append_left (List.getElem?_eq_some_iff.mp h).1]
  exact h
theorem get_end {α : Type} (ts us : List α) (k : Nat) : (ts ++ us)[ts.length + k]? = us[k]? := by
  rw [List.getElem?_append_right (Nat.le_add_right _ _), Nat.add_sub_cancel_left]

theorem RuleAt.mono {L : List Nat} {ts us : List (List Nat)} {i : Nat} {r : R} {t : List Nat} (h : RuleAt L ts i r t) : RuleAt L (ts ++ us) i r t := by
  cases r with
  | lit z => exact h
  | join j k =>
    obtain ⟨u, v, h1, h2, h3, h4, h5⟩ := h
    exact ⟨u, v, h1, h2, get_app h3, get_app h4, h5⟩
  | pow j k =>
    obtain ⟨u, h1, h2, h3⟩ := h
    exact ⟨u, h1, get_app h2, h3⟩
  | part j a b =>
    obtain ⟨u, h1, h2, h3⟩ := h
    exact ⟨u, h1, get_app h2, h3⟩
  | back j =>
    obtain ⟨u, h1, h2, h3⟩ := h
    exact ⟨u, h1, get_app h2, h3⟩

theorem WF.nil (L : List Nat) : WF L [] [] := ⟨rfl, fun i r h => by simp at h⟩
theorem WF.app {L : List Nat} {rs qs : List R} {ts us : List (List Nat)} (w : WF L rs ts) (hl : qs.length = us.length)
    (h : ∀ (k : Nat) (r : R), qs[k]? = some r → ∃ t, us[k]? = some t ∧ t.length ≤ 1000000000000 ∧ RuleAt L (ts ++ us) (ts.length + k) r t) : WF L (rs ++ qs) (ts ++ us) := by
  refine ⟨by rw [List.length_append, List.length_append, w.len, hl], fun i r hr => ?_⟩
  by_cases hi : i < rs.length
  · rw [List.getElem?_append_left hi] at hr
    obtain ⟨t, h1, h2, h3⟩ := w.at_ i r hr
    exact ⟨t, get_app h1, h2, h3.mono⟩
  · obtain ⟨k, rfl⟩ : ∃ k, i = rs.length + k := ⟨i - rs.length, by omega⟩
    rw [get_end] at hr
    obtain ⟨t, h1, h2, h3⟩ := h k r hr
    rw [w.len]
    exact ⟨t, by rw [get_end]; exact h1, h2, h3⟩
theorem WF.snoc {L : List Nat} {rs : List R} {ts : List (List Nat)} {r : R} {t : List Nat} (w : WF L rs ts) (ht : t.length ≤ 1000000000000) (h : RuleAt L ts ts.length r t) : WF L (rs ++ [r]) (ts ++ [t]) := by
  refine w.app rfl fun k r' hk => ?_
  cases k with
  | zero =>
    have e : r' = r := (Option.some.inj hk).symm
    subst e
    exact ⟨t, rfl, ht, h.mono⟩
  | succ k => simp at hk

/-! ### the two other texts -/
def grownR (n cut size times first : Nat) : List R :=
  [.part n 0 cut, .part n cut size, .back (n + 2), .back (n + 1), .join (n + 3) (n + 4), .back (n + 5), .pow (n + 6) first, .pow (n + 7) (times / first), .pow (n + 6) (times - times / first * first), .join (n + 8) (n + 9)]
def shiftedR (n cut size times : Nat) : List R :=
  [.part n 0 cut, .part n cut size, .join (n + 2) (n + 1), .pow (n + 3) (times - 1), .join (n + 1) (n + 4), .join (n + 5) (n + 2)]
def grownT (t : List Nat) (cut times first : Nat) : List (List Nat) :=
  [slice t 0 cut, slice t cut t.length, (slice t cut t.length).reverse, (slice t 0 cut).reverse, t.reverse, t, rep first t, rep (times / first * first) t, rep (times - times / first * first) t, rep times t]
def shiftedT (t : List Nat) (cut times : Nat) : List (List Nat) :=
  [slice t 0 cut, slice t cut t.length, slice t cut t.length ++ slice t 0 cut, rep (times - 1) (slice t cut t.length ++ slice t 0 cut), slice t 0 cut ++ rep (times - 1) (slice t cut t.length ++ slice t 0 cut), rep times t]

theorem le_mul_of {a b n m : Nat} (h : n * m ≤ b) (ha : a ≤ n) : a * m ≤ b := Nat.le_trans (Nat.mul_le_mul_right m ha) h

theorem one_ok {L : List Nat} {rs : List R} {ts : List (List Nat)} {t : List Nat} {n times : Nat} (w : WF L rs ts) (hn : ts.length = n + 1) (ht : ts[n]? = some t)
    (hk : times ≤ 1000000000000) (hm : times * t.length ≤ 1000000000000) : WF L (rs ++ [.pow n times]) (ts ++ [rep times t]) :=
  w.snoc (by rw [rep_length]; exact hm) ⟨t, by omega, ht, hk, rfl⟩

theorem look {ts us : List (List Nat)} {n k : Nat} {u : List Nat} (hn : ts.length = n + 1) (h : us[k]? = some u) : (ts ++ us)[n + (k + 1)]? = some u := by
  have e : n + (k + 1) = ts.length + k := by omega
  rw [e, get_end]
  exact h

theorem grown_ok {L : List Nat} {rs : List R} {ts : List (List Nat)} {t : List Nat} {n cut times first : Nat} (w : WF L rs ts) (hn : ts.length = n + 1) (ht : ts[n]? = some t)
    (hc : cut ≤ t.length) (h1 : 1 ≤ first) (hf : first ≤ times) (hk : times ≤ 1000000000000) (hm : times * t.length ≤ 1000000000000) :
    WF L (rs ++ grownR n cut t.length times first) (ts ++ grownT t cut times first) := by
  have hd : times / first * first ≤ times := Nat.div_mul_le_self _ _
  have hq : times / first ≤ times := Nat.div_le_self _ _
  have ht1 : t.length ≤ times * t.length := Nat.le_mul_of_pos_left _ (by omega)
  have L1 : (slice t 0 cut).length ≤ 1000000000000 := by rw [slice_length hc]; omega
  have L2 : (slice t cut t.length).length ≤ 1000000000000 := by rw [slice_length (Nat.le_refl _)]; omega
  have ht0 : (ts ++ grownT t cut times first)[n]? = some t := get_app ht
  refine w.app rfl fun k r hr => ?_
  match k, hr with
  | 0, hr =>
    cases (Option.some.inj hr)
    exact ⟨slice t 0 cut, rfl, L1, t, by omega, ht0, Nat.zero_le _, hc, rfl⟩
  | 1, hr =>
    cases (Option.some.inj hr)
    exact ⟨slice t cut t.length, rfl, L2, t, by omega, ht0, hc, Nat.le_refl _, rfl⟩
  | 2, hr =>
    cases (Option.some.inj hr)
    exact ⟨_, rfl, by rw [List.length_reverse]; exact L2, _, by omega, look (k := 1) hn rfl, rfl⟩
  | 3, hr =>
    cases (Option.some.inj hr)
    exact ⟨_, rfl, by rw [List.length_reverse]; exact L1, _, by omega, look (k := 0) hn rfl, rfl⟩
  | 4, hr =>
    cases (Option.some.inj hr)
    refine ⟨_, rfl, by rw [List.length_reverse]; omega, _, _, by omega, by omega, look (k := 2) hn rfl, look (k := 3) hn rfl, ?_⟩
    rw [← List.reverse_append, slice_cut t hc]
  | 5, hr =>
    cases (Option.some.inj hr)
    exact ⟨_, rfl, by omega, _, by omega, look (k := 4) hn rfl, by rw [List.reverse_reverse]⟩
  | 6, hr =>
    cases (Option.some.inj hr)
    exact ⟨_, rfl, by rw [rep_length]; exact le_mul_of hm hf, _, by omega, look (k := 5) hn rfl, by omega, rfl⟩
  | 7, hr =>
    cases (Option.some.inj hr)
    exact ⟨_, rfl, by rw [rep_length]; exact le_mul_of hm hd, _, by omega, look (k := 6) hn rfl, by omega, by rw [rep_mul]⟩
  | 8, hr =>
    cases (Option.some.inj hr)
    exact ⟨_, rfl, by rw [rep_length]; exact le_mul_of hm (Nat.sub_le _ _), _, by omega, look (k := 5) hn rfl, by omega, rfl⟩
  | 9, hr =>
    cases (Option.some.inj hr)
    refine ⟨_, rfl, by rw [rep_length]; exact hm, _, _, by omega, by omega, look (k := 7) hn rfl, look (k := 8) hn rfl, ?_⟩
    rw [← rep_add]
    congr 1
    omega
  | k + 10, hr => simp [grownR] at hr

theorem shifted_ok {L : List Nat} {rs : List R} {ts : List (List Nat)} {t : List Nat} {n cut times : Nat} (w : WF L rs ts) (hn : ts.length = n + 1) (ht : ts[n]? = some t)
    (hc : cut ≤ t.length) (h1 : 1 ≤ times) (hk : times ≤ 1000000000000) (hm : times * t.length ≤ 1000000000000) :
    WF L (rs ++ shiftedR n cut t.length times) (ts ++ shiftedT t cut times) := by
  have ht1 : t.length ≤ times * t.length := Nat.le_mul_of_pos_left _ (by omega)
  have l1 : (slice t 0 cut).length = cut := slice_length hc
  have l2 : (slice t cut t.length).length = t.length - cut := slice_length (Nat.le_refl _)
  have l3 : (slice t cut t.length ++ slice t 0 cut).length = t.length := by rw [List.length_append, l1, l2]; omega
  have l4 : (rep (times - 1) (slice t cut t.length ++ slice t 0 cut)).length = (times - 1) * t.length := by rw [rep_length, l3]
  have m1 : times * t.length = (times - 1) * t.length + t.length := by
    obtain ⟨k, rfl⟩ : ∃ k, times = k + 1 := ⟨times - 1, by omega⟩
    rw [Nat.add_sub_cancel, Nat.succ_mul]
  have ht0 : (ts ++ shiftedT t cut times)[n]? = some t := get_app ht
  refine w.app rfl fun k r hr => ?_
  match k, hr with
  | 0, hr =>
    cases (Option.some.inj hr)
    exact ⟨slice t 0 cut, rfl, by omega, t, by omega, ht0, Nat.zero_le _, hc, rfl⟩
  | 1, hr =>
    cases (Option.some.inj hr)
    exact ⟨slice t cut t.length, rfl, by omega, t, by omega, ht0, hc, Nat.le_refl _, rfl⟩
  | 2, hr =>
    cases (Option.some.inj hr)
    exact ⟨_, rfl, by omega, _, _, by omega, by omega, look (k := 1) hn rfl, look (k := 0) hn rfl, rfl⟩
  | 3, hr =>
    cases (Option.some.inj hr)
    exact ⟨_, rfl, by omega, _, by omega, look (k := 2) hn rfl, by omega, rfl⟩
  | 4, hr =>
    cases (Option.some.inj hr)
    exact ⟨_, rfl, by rw [List.length_append]; omega, _, _, by omega, by omega, look (k := 0) hn rfl, look (k := 3) hn rfl, rfl⟩
  | 5, hr =>
    cases (Option.some.inj hr)
    refine ⟨_, rfl, by rw [rep_length]; exact hm, _, _, by omega, by omega, look (k := 4) hn rfl, look (k := 1) hn rfl, ?_⟩
    rw [List.append_assoc, rep_shift, slice_cut t hc]
    congr 1
    omega
  | k + 6, hr => simp [shiftedR] at hr

/-! ### one letter: the place in the rule inside -/
theorem place_join {u v : List Nat} {p : Nat} : (u ++ v)[p]? = if p < u.length then u[p]? else v[p - u.length]? := by
  by_cases h : p < u.length
  · rw [if_pos h, List.getElem?_append_left h]
  · rw [if_neg h, List.getElem?_append_right (by omega)]
theorem place_back {u : List Nat} {p : Nat} (h : p < u.length) : u.reverse[p]? = u[u.length - 1 - p]? := List.getElem?_reverse h

/-! ### segments waiting -/
structure Seg where
  n : Nat
  a : Nat
  b : Nat
  f : Bool
def segOf (ts : List (List Nat)) (e : Seg) : List Nat := if e.f = true then (slice (ts.getD e.n []) e.a e.b).reverse else slice (ts.getD e.n []) e.a e.b
/-- a part of what rule e.n makes -/
def SegOk (ts : List (List Nat)) (e : Seg) : Prop := e.a < e.b ∧ ∃ u, ts[e.n]? = some u ∧ e.b ≤ u.length
theorem getD_of {ts : List (List Nat)} {n : Nat} {u : List Nat} (h : ts[n]? = some u) : ts.getD n [] = u := by
  rw [List.getD_eq_getElem?_getD, h]
  rfl
theorem segOf_length {ts : List (List Nat)} {e : Seg} (h : SegOk ts e) : (segOf ts e).length = e.b - e.a := by
  obtain ⟨_, u, h2, h3⟩ := h
  unfold segOf
  rw [getD_of h2]
  split
  · rw [List.length_reverse, slice_length h3]
  · rw [slice_length h3]
structure Parts (ts : List (List Nat)) (i : Nat) (s : List Nat) (ps : List Seg) : Prop where
  ok : ∀ e ∈ ps, e.n < i ∧ SegOk ts e
  fl : (ps.map (segOf ts)).flatten = s

def weigh : List Seg → Nat
  | [] => 0
  | e :: r => (e.b - e.a) * (e.n + 1) + weigh r
theorem weigh_append (x y : List Seg) : weigh (x ++ y) = weigh x + weigh y := by
  induction x with
  | nil => rw [List.nil_append]; show _ = 0 + _; omega
  | cons e r ih => show _ + weigh (r ++ y) = (_ + weigh r) + weigh y; rw [ih]; omega
theorem weigh_reverse (x : List Seg) : weigh x.reverse = weigh x := by
  induction x with
  | nil => rfl
  | cons e r ih => rw [List.reverse_cons, weigh_append, ih]; show _ + (_ + 0) = _ + _; omega
theorem weigh_flip (x : List Seg) (g : Seg → Bool) : weigh (x.map fun e => { e with f := g e }) = weigh x := by
  induction x with
  | nil => rfl
  | cons e r ih => show _ + weigh (r.map _) = _ + _; rw [ih]
theorem weigh_le {ts : List (List Nat)} {i : Nat} : ∀ {ps : List Seg}, (∀ e ∈ ps, e.n < i ∧ SegOk ts e) → weigh ps ≤ ((ps.map (segOf ts)).flatten).length * i
  | [], _ => Nat.zero_le _
  | e :: r, h => by
    have ih := weigh_le (ps := r) fun x hx => h x (List.mem_cons_of_mem _ hx)
    obtain ⟨h1, h2⟩ := h e (List.mem_cons_self)
    rw [List.map_cons, List.flatten_cons, List.length_append, segOf_length h2, Nat.add_mul]
    have := Nat.mul_le_mul_left (e.b - e.a) (show e.n + 1 ≤ i by omega)
    show (e.b - e.a) * (e.n + 1) + weigh r ≤ _
    omega
theorem count_le {ts : List (List Nat)} : ∀ {ps : List Seg}, (∀ e ∈ ps, SegOk ts e) → ps.length ≤ ((ps.map (segOf ts)).flatten).length
  | [], _ => Nat.zero_le _
  | e :: r, h => by
    have ih := count_le (ps := r) fun x hx => h x (List.mem_cons_of_mem _ hx)
    have h2 := h e (List.mem_cons_self)
    rw [List.map_cons, List.flatten_cons, List.length_append, segOf_length h2, List.length_cons]
    have := h2.1
    omega
theorem segOf_flip (ts : List (List Nat)) (e : Seg) : segOf ts { e with f := !e.f } = (segOf ts e).reverse := by
  obtain ⟨n, a, b, f⟩ := e
  cases f
  · rfl
  · show slice (ts.getD n []) a b = (slice (ts.getD n []) a b).reverse.reverse
    rw [List.reverse_reverse]
/-- the parts behind one another, turned round -/
theorem flat_turned (ts : List (List Nat)) : ∀ ps : List Seg, ((ps.reverse.map fun e => segOf ts { e with f := !e.f }).flatten) = ((ps.map (segOf ts)).flatten).reverse
  | [] => rfl
  | e :: r => by
    have e1 : ((e :: r).map (segOf ts)).flatten = segOf ts e ++ (r.map (segOf ts)).flatten := rfl
    rw [List.reverse_cons, List.map_append, List.flatten_append, flat_turned ts r, e1, List.reverse_append, List.map_cons, List.map_nil, List.flatten_cons, List.flatten_nil, List.append_nil, segOf_flip]

/-- pieces of a power -/
def piece (inner m a b q : Nat) : Seg := ⟨inner, a - q * m, min (b - q * m) m, false⟩
def pieces (inner m a b q0 : Nat) : Nat → List Seg
  | 0 => []
  | j + 1 => pieces inner m a b q0 j ++ [piece inner m a b (q0 + j)]
theorem pieces_ok {ts : List (List Nat)} {u : List Nat} {inner i a b k : Nat} (hi : inner < i) (hu : ts[inner]? = some u) (hab : a < b) (hb : b ≤ k * u.length) :
    ∀ j : Nat, a / u.length + j ≤ (b - 1) / u.length + 1 → Parts ts i (slice (rep k u) a (min b ((a / u.length + j) * u.length))) (pieces inner u.length a b (a / u.length) j) := by
  have hm : 0 < u.length := by
    rcases Nat.eq_zero_or_pos u.length with h | h
    · rw [h, Nat.mul_zero] at hb
      omega
    · exact h
  have hq0 : a / u.length * u.length ≤ a := Nat.div_mul_le_self _ _
  intro j
  induction j with
  | zero =>
    intro _
    refine ⟨fun e he => by simp [pieces] at he, ?_⟩
    rw [slice_empty _ (by rw [Nat.add_zero]; omega)]
    rfl
  | succ j ih =>
    intro hj
    obtain ⟨ok, fl⟩ := ih (by omega)
    have hqb : (a / u.length + j) * u.length ≤ b - 1 := by
      have h1 : a / u.length + j ≤ (b - 1) / u.length := by omega
      exact Nat.le_trans (Nat.mul_le_mul_right _ h1) (Nat.div_mul_le_self _ _)
    have hqk : a / u.length + j < k := by
      apply Nat.lt_of_mul_lt_mul_right (a := u.length)
      omega
    have hq1 : a < (a / u.length + j + 1) * u.length := by
      have h1 : a < (a / u.length + 1) * u.length := by
        have := Nat.lt_mul_div_succ a hm
        rw [Nat.mul_comm]
        exact this
      exact Nat.lt_of_lt_of_le h1 (Nat.mul_le_mul_right _ (by omega))
    have hs : (a / u.length + j + 1) * u.length = (a / u.length + j) * u.length + u.length := Nat.succ_mul _ _
    generalize hQ : (a / u.length + j) * u.length = Q at *
    have hsl : SegOk ts (piece inner u.length a b (a / u.length + j)) := by
      refine ⟨?_, u, hu, ?_⟩
      · show a - (a / u.length + j) * u.length < min (b - (a / u.length + j) * u.length) u.length
        rw [hQ]
        omega
      · show min _ _ ≤ _
        omega
    refine ⟨fun e he => ?_, ?_⟩
    · rcases List.mem_append.mp he with h | h
      · exact ok e h
      · rw [List.mem_singleton.mp h]
        exact ⟨hi, hsl⟩
    · show ((pieces inner u.length a b (a / u.length) j ++ [_]).map _).flatten = _
      rw [List.map_append, List.flatten_append, fl]
      have e1 : (List.map (segOf ts) [piece inner u.length a b (a / u.length + j)]).flatten = slice u (a - Q) (min (b - Q) u.length) := by
        show segOf ts _ ++ [] = _
        rw [List.append_nil]
        unfold segOf piece
        show slice (ts.getD inner []) (a - (a / u.length + j) * u.length) (min (b - (a / u.length + j) * u.length) u.length) = _
        rw [getD_of hu, hQ]
      rw [e1, ← rep_slice u hqk (Nat.min_le_right _ _), hQ]
      have e2 : a / u.length + (j + 1) = a / u.length + j + 1 := rfl
      rw [e2, hs]
      by_cases haQ : a ≤ Q
      · have e3 : Q + (a - Q) = Q := by omega
        have e4 : min b Q = Q := by omega
        have e5 : Q + min (b - Q) u.length = min b (Q + u.length) := by omega
        rw [e3, e4, e5, slice_append _ haQ (by omega)]
      · have e3 : Q + (a - Q) = a := by omega
        have e4 : slice (rep k u) a (min b Q) = [] := slice_empty _ (by omega)
        have e5 : Q + min (b - Q) u.length = min b (Q + u.length) := by omega
        rw [e3, e4, e5, List.nil_append]
theorem pieces_all {ts : List (List Nat)} {u : List Nat} {inner i a b k : Nat} (hi : inner < i) (hu : ts[inner]? = some u) (hab : a < b) (hb : b ≤ k * u.length) :
    Parts ts i (slice (rep k u) a b) (pieces inner u.length a b (a / u.length) ((b - 1) / u.length + 1 - a / u.length)) := by
  have hm : 0 < u.length := by
    rcases Nat.eq_zero_or_pos u.length with h | h
    · rw [h, Nat.mul_zero] at hb
      omega
    · exact h
  have hle : a / u.length ≤ (b - 1) / u.length := Nat.div_le_div_right (by omega)
  have h := pieces_ok hi hu hab hb ((b - 1) / u.length + 1 - a / u.length) (by omega)
  have e : a / u.length + ((b - 1) / u.length + 1 - a / u.length) = (b - 1) / u.length + 1 := by omega
  rw [e] at h
  have h2 : b - 1 < ((b - 1) / u.length + 1) * u.length := by
    have := Nat.lt_mul_div_succ (b - 1) hm
    rw [Nat.mul_comm]
    exact this
  rw [Nat.min_eq_left (by omega)] at h
  exact h
theorem parts_part {ts : List (List Nat)} {u : List Nat} {inner i s e a b : Nat} (hi : inner < i) (hu : ts[inner]? = some u) (he : e ≤ u.length) (hab : a < b) (hb : b ≤ e - s) :
    Parts ts i (slice (slice u s e) a b) [⟨inner, a + s, b + s, false⟩] := by
  refine ⟨fun x hx => ?_, ?_⟩
  · rw [List.mem_singleton.mp hx]
    exact ⟨hi, by show a + s < b + s; omega, u, hu, by show b + s ≤ u.length; omega⟩
  · show segOf ts _ ++ [] = _
    rw [List.append_nil, slice_slice _ hb]
    show slice (ts.getD inner []) _ _ = _
    rw [getD_of hu]
theorem parts_back {ts : List (List Nat)} {u : List Nat} {inner i a b : Nat} (hi : inner < i) (hu : ts[inner]? = some u) (hab : a < b) (hb : b ≤ u.length) :
    Parts ts i (slice u.reverse a b) [⟨inner, u.length - b, u.length - a, true⟩] := by
  refine ⟨fun x hx => ?_, ?_⟩
  · rw [List.mem_singleton.mp hx]
    exact ⟨hi, by show u.length - b < u.length - a; omega, u, hu, by show u.length - a ≤ u.length; omega⟩
  · show segOf ts _ ++ [] = _
    rw [List.append_nil, ← slice_reverse (by omega) hb]
    show (slice (ts.getD inner []) _ _).reverse = _
    rw [getD_of hu]
theorem parts_join {ts : List (List Nat)} {u v : List Nat} {j k i a b : Nat} (hj : j < i) (hk : k < i) (hu : ts[j]? = some u) (hv : ts[k]? = some v) (hab : a < b) (hb : b ≤ u.length + v.length) :
    Parts ts i (slice (u ++ v) a b) ((if a < u.length then [⟨j, a, min b u.length, false⟩] else []) ++ (if u.length < b then [⟨k, a - u.length, b - u.length, false⟩] else [])) := by
  refine ⟨fun x hx => ?_, ?_⟩
  · rcases List.mem_append.mp hx with h | h
    · split at h
      · rw [List.mem_singleton.mp h]
        exact ⟨hj, by show a < min b u.length; omega, u, hu, by show min b u.length ≤ u.length; omega⟩
      · simp at h
    · split at h
      · rw [List.mem_singleton.mp h]
        exact ⟨hk, by show a - u.length < b - u.length; omega, v, hv, by show b - u.length ≤ v.length; omega⟩
      · simp at h
  · have s1 : ∀ x y : Nat, segOf ts ⟨j, x, y, false⟩ = slice u x y := fun x y => by
      show slice (ts.getD j []) _ _ = _
      rw [getD_of hu]
    have s2 : ∀ x y : Nat, segOf ts ⟨k, x, y, false⟩ = slice v x y := fun x y => by
      show slice (ts.getD k []) _ _ = _
      rw [getD_of hv]
    rw [List.map_append, List.flatten_append]
    by_cases h1 : a < u.length
    · rw [if_pos h1, List.map_cons, List.map_nil, List.flatten_cons, List.flatten_nil, List.append_nil, s1]
      by_cases h2 : u.length < b
      · rw [if_pos h2, List.map_cons, List.map_nil, List.flatten_cons, List.flatten_nil, List.append_nil, s2, Nat.min_eq_right (by omega), ← slice_left u v (Nat.le_refl _)]
        have e1 : slice v (a - u.length) (b - u.length) = slice (u ++ v) u.length b := by
          rw [slice_right u v (Nat.le_refl _)]
          congr 1
          omega
        rw [e1, slice_append _ (by omega) (by omega)]
      · rw [if_neg h2, List.map_nil, List.flatten_nil, List.append_nil, Nat.min_eq_left (by omega), slice_left u v (by omega)]
    · rw [if_neg h1, if_pos (by omega), List.map_nil, List.flatten_nil, List.nil_append, List.map_cons, List.map_nil, List.flatten_cons, List.flatten_nil, List.append_nil, s2, slice_right u v (by omega)]
end Sh
/-! Rules of my own over the hand layer: text * int, text[::-1], key not in a written dict, a chain of three comparisons. -/
namespace ShR
open PySem PySem.Spec PyProof.Rows L2
section
variable {X : Cx}

theorem yes {σ : L2.St} {H : Hp} {Q : Bool → Hp → Prop} (h : Q true H) : tYes σ H Q := h
/-! ### names of the module -/
theorem pe_glI {x : Str} {i : Int} {t : Tok} {pos : Pos} (hm : X.mg x = some (.int i t)) (hg : Gl X x := by rfl) (hd : (x == ("__debug__" : Str)) = false := by decide) : PE X (.Name x pos) (tC (.int i)) := pe_glob hg hm ⟨_, rfl⟩ hd
theorem pe_glS {x : Str} {z : Str} {t : Tok} {pos : Pos} (hm : X.mg x = some (.str z t)) (hg : Gl X x := by rfl) (hd : (x == ("__debug__" : Str)) = false := by decide) : PE X (.Name x pos) (tC (.str z)) := pe_glob hg hm ⟨_, rfl⟩ hd
theorem pe_glR {x : Str} {a : Addr} {pos : Pos} (hm : X.mg x = some (.ref a)) (hg : Gl X x := by rfl) (hd : (x == ("__debug__" : Str)) = false := by decide) : PE X (.Name x pos) (tC (.ref a)) := pe_glob hg hm rfl hd
/-- len of a list or tuple, the written part named from outside (within a comprehension) -/
theorem call_lenK (K : PySem.W.Frag) (hK : X.K = K) : CallR X (.builtin "len") (fun xs H Q => ∃ (p : Addr) (ys : List V), xs = [.ref p] ∧ (SqL K H p ys ∨ SqT K H p ys) ∧ Q (.int (ys.length : Nat)) H) := by
  subst hK
  exact call_len_seq
theorem ix_tupK (K : PySem.W.Frag) (hK : X.K = K) : IxR X (fun x y H Q => ∃ (p : Addr) (xs : List V) (i : Int) (v : V), x = .ref p ∧ y = .int i ∧ SqT K H p xs ∧ atI xs i = some v ∧ Q v H) := by
  subst hK
  exact ix_tup
theorem call_tupleK (K : PySem.W.Frag) (hK : X.K = K) : CallR X (.type "tuple") (fun xs H Q => ∃ p ys, xs = [.ref p] ∧ ((SqL K H p ys ∧ ∀ l, H l = none → Q (.ref l) (upd H l (.tup ys))) ∨ (SqT K H p ys ∧ Q (.ref p) H))) := by
  subst hK
  exact call_tuple_of
theorem atI_neg1 {α : Type} {xs : List α} {v : α} (h : xs[xs.length - 1]? = some v) : atI xs (-1) = some v := by
  have hl := (List.getElem?_eq_some_iff.mp h).1
  have e : ixN xs.length (-1) = some (xs.length - 1) := by
    unfold ixN
    rw [if_neg (by decide), if_pos (by omega)]
    congr 1
    omega
  unfold atI
  rw [e]
  exact h
/-! ### word not in a dict of the module -/
theorem op_notInK : OpR X (compareOp .NotIn) (fun x y H Q => ∃ (p : Addr) (z : Str) (v : V), x = .str z ∧ y = .ref p ∧ KDct X.K X.w p z v ∧ (p == sysModules) = false ∧ Q (.bl false) H) := by
  intro pins s σ H x y v u Q I rx ry h
  obtain ⟨p, z, v0, rfl, rfl, ⟨es, n, u0, hl, hk, e, ru⟩, hs, q⟩ := h
  obtain ⟨t, rfl⟩ := rx
  obtain rfl : u = Value.ref p := ry
  have hm := PySem.W.mapOf_K (prog := X.prog) (w := X.w) I.kIn hl hk
  refine wpAny_notIn_of (strKind_is X.prog X.w z t) hs hm ?_
  rw [PySem.W.find_K hl e]
  exact ⟨.bl false, H, I.tok _, rfl, q⟩

/-! ### text * int -/
def timesS (z : Str) (k : Nat) : Str := ⟨(List.replicate k z.cps.toList).flatten.toArray⟩
theorem fold_rep (a : Array Nat) : ∀ (k : Nat) (acc : Array Nat), List.foldl (fun x1 x2 => x1 ++ x2) acc (List.replicate k a) = acc ++ (List.replicate k a.toList).flatten.toArray
  | 0, acc => by simp
  | k + 1, acc => by
    rw [List.replicate_succ, List.foldl_cons, fold_rep a k, List.replicate_succ, List.flatten_cons]
    apply Array.toList_inj.mp
    simp
theorem fold_times (z : Str) (k : Nat) : (⟨(List.replicate k z.cps).foldl (· ++ ·) #[]⟩ : Str) = timesS z k := by
  unfold timesS
  rw [fold_rep]
  simp
theorem timesS_length (z : Str) (k : Nat) : (timesS z k).length = k * z.length := by
  show ((List.replicate k z.cps.toList).flatten.toArray).size = k * z.cps.size
  rw [List.size_toArray, List.length_flatten, List.map_replicate, List.sum_replicate_nat, Array.length_toList]
theorem op_mulS : OpR X (binaryOp .Mult) (fun x y H Q => ∃ (z : Str) (k : Int), x = .str z ∧ y = .int k ∧ 0 ≤ k ∧ k < 2 ^ 63 ∧ z.length * k.toNat ≤ sizeLine ∧ z.length ≤ 1000 ∧ k ≤ 1000 ∧ Q (.str (timesS z k.toNat)) H) := by
  intro pins s σ H x y v u Q I rx ry h
  obtain ⟨z, k, rfl, rfl, h0, h1, hz, hs1, hs2, q⟩ := h
  obtain ⟨t, rfl⟩ := rx
  obtain ⟨t', rfl⟩ := ry
  have hl : Builtin.Str.tooLong (z.length * k.toNat) = false := by
    unfold Builtin.Str.tooLong
    exact decide_eq_false (by omega)
  refine P.mul_str ?_ (fun h2 _ => ?_) (fun _ _ => hl) ?_
  · rw [decide_eq_false (by omega), decide_eq_false (by omega)]
    rfl
  · have h3 : (1 : Int) ≤ k := by omega
    have h4 : (1000 : Int) ≤ (2 ^ 63 - 1) / k := by
      apply (Int.le_ediv_iff_mul_le (by omega)).mpr
      have : 1000 * k ≤ 1000 * 1000 := Int.mul_le_mul_of_nonneg_left hs2 (by decide)
      omega
    omega
  · by_cases h2 : k < 1
    · rw [if_pos h2]
      have e : k = 0 := by omega
      subst e
      refine ⟨by decide, .str Str.empty, H, I.tok _, ⟨_, rfl⟩, ?_⟩
      exact q
    · rw [if_neg h2]
      by_cases h3 : (k == 1 || z.length == 0) = true
      · rw [if_pos h3]
        have e : timesS z k.toNat = z := by
          rcases Bool.or_eq_true_iff.mp h3 with e | e
          · have e' : k = 1 := by simpa using e
            subst e'
            unfold timesS
            show (⟨((List.replicate 1 z.cps.toList).flatten).toArray⟩ : Str) = z
            simp
          · have e' : z.cps.size = 0 := by
              have : z.length = 0 := by simpa using e
              exact this
            have e2 : z.cps = #[] := Array.eq_empty_of_size_eq_zero e'
            obtain ⟨c⟩ := z
            simp only at e2
            subst e2
            unfold timesS
            simp
        rw [e] at q
        exact ⟨.str z, H, I, ⟨t, rfl⟩, q⟩
      · rw [if_neg h3, fold_times]
        exact ⟨by rw [timesS_length, Nat.mul_comm]; exact hz, .str _, H, I.tok _, ⟨_, rfl⟩, q⟩

/-! ### text[::-1] -/
def backS (z : Str) : Str := ⟨z.cps.toList.reverse.toArray⟩
theorem back_pick (z : Str) : (Builtin.Str.strSliceIndices none none (-1) z.length).filterMap (z.cps[·]?) = z.cps.toList.reverse := by
  have e : Builtin.Str.strSliceIndices none none (-1) z.length = sliceRange ((z.length : Int) - 1) (-1) (-1) := by
    first
    | rfl
    | simp [Builtin.Str.strSliceIndices]
  rw [e, PySem.W.krv_sliceRange, PySem.W.krv_range, List.filterMap_reverse]
  show (List.filterMap (fun x => z.cps[x]?) (List.range z.cps.size)).reverse = _
  rw [PySem.W.krv_all]
def tRevS (te : TE) : TE := fun σ H Q => te σ H fun x H1 => ∃ z, x = .str z ∧ z.length ≤ sizeLine ∧ Q (.str (backS z)) H1
theorem pe_revS {e : Expr} {te : TE} {k : Nat} {p1 p2 p3 pos : Pos} (he : PE X e te) : PE X (.Subscript e (.Slice none none (some (.UnaryOp .USub (.Constant (.int 1) k p1) p2)) p3) pos) (tRevS te) := by
  refine ⟨fun pins s σ H Q I h => ?_⟩
  refine Subscript_ (thn (he.run pins s σ H _ I h) fun v s1 ⟨x, H1, I1, r1, q1⟩ => ?_)
  obtain ⟨z, ex, hz, q⟩ := q1
  subst ex
  obtain ⟨t, rfl⟩ := r1
  have hst : PO X (some (.UnaryOp .USub (.Constant (.int 1) k p1) p2)) (tPart (tUn (rU fun i => .int (-i)) (tC (.int 1)))) := po_some (pe_un un_neg pe_int)
  refine wpAny_Slice (thn (po_none.run pins s1 σ H1 (fun o H2 => o = none ∧ H2 = H1) I1 ⟨rfl, rfl⟩) fun vl s2 ⟨l, H2, I2, pl, el, e2⟩ => ?_)
  subst el e2
  refine thn (po_none.run pins s2 σ H2 (fun o H3 => o = none ∧ H3 = H2) I2 ⟨rfl, rfl⟩) fun vu s3 ⟨u, H3, I3, pu, eu, e3⟩ => ?_
  subst eu e3
  refine thn (hst.run pins s3 σ H3 (fun o H4 => o = some (-1) ∧ H4 = H3) I3 ⟨1, rfl, -1, rfl, rfl, rfl⟩) fun vs s4 ⟨o, H4, I4, ps, eo, e4⟩ => ?_
  subst eo e4
  have I5 : Inv X pins σ H4 { s4 with heap := s4.heap.push { cls := .type "slice", data := .fields #[vl, vu, vs] } } := I4.kept (t' := s4.toks) fun b ob q => Heap.get?_push_of_some _ q
  show wpAny (model X.prog X.w) X.A (subscriptTail e (.Slice none none (some (.UnaryOp .USub (.Constant (.int 1) k p1) p2)) p3) (.str z t) (.ref s4.heap.objs.size)) (EP X pins σ Q) X.xe { s4 with heap := s4.heap.push { cls := .type "slice", data := .fields #[vl, vu, vs] } }
  obtain ⟨l, rfl, e1⟩ := IsPart.raw pl
  obtain ⟨u, rfl, e2⟩ := IsPart.raw pu
  obtain ⟨r, rfl, e3⟩ := IsPart.raw ps
  refine tail_any (ops := [.str z t, .ref s4.heap.objs.size]) (typeIs_str _ _ _) (F.slot_str_getitem.lookup) ?_ (by with_unfolding_all rfl)
  refine wpAny_getItem_str_slice (l := l) (u := u) (st := r) ⟨_, Heap.get?_push_size _ rfl, rfl, rfl⟩ ?_ ?_
  · rw [e3]
    rfl
  · have hc : ((r.map (·.1)).getD 1 == 1 && (slicePicked z l u r).length == z.length) = false := by
      rw [e3]
      rfl
    have hp : (slicePicked z l u r).filterMap (z.cps[·]?) = z.cps.toList.reverse := by
      unfold slicePicked
      rw [e1, e2, e3]
      exact back_pick z
    unfold sliceMade
    rw [hc, if_neg Bool.false_ne_true, hp]
    refine ⟨?_, .str _, H4, I5.tok _, ⟨_, rfl⟩, q⟩
    show (z.cps.toList.reverse.toArray).size ≤ sizeLine
    rw [List.size_toArray, List.length_reverse, Array.length_toList]
    exact hz

/-! ### a op1 b op2 c op3 d -/
def tChain3 (r r' r'' : R2) (ta tb tc td : TE) : TE := fun σ H Q => ta σ H fun x H1 => tb σ H1 fun y H2 => r x y H2 fun z H3 => ∃ k, z = .bl k ∧
  (if k = true then tc σ H3 fun w' H4 => r' y w' H4 fun z' H5 => ∃ k', z' = .bl k' ∧ (if k' = true then td σ H5 fun d' H6 => r'' w' d' H6 Q else Q (.bl false) H5) else Q (.bl false) H3)
theorem pt_chain3 {op op' op'' : CmpOp} {r r' r'' : R2} {a b c d : Expr} {ta tb tc td : TE} {pos : Pos} (ho : OpR X (compareOp op) r) (ho' : OpR X (compareOp op') r') (ho'' : OpR X (compareOp op'') r'') (ha : PE X a ta) (hb : PE X b tb) (hc : PE X c tc) (hd : PE X d td)
    (hm : lastMarks [op, op', op''] [b, c, d] = false := by with_unfolding_all rfl) : PT X (.Compare a [op, op', op''] [b, c, d] pos) (tTest (tChain3 r r' r'' ta tb tc td)) := by
  refine ⟨fun pins s σ H Q I h => ?_⟩
  refine isTrue_chain (thn (ha.run pins s σ H _ I h) fun v s1 ⟨x, H1, I1, r1, q1⟩ => test_link (thn (hb.run pins s1 σ H1 _ I1 q1) fun u s2 ⟨y, H2, I2, r2, q2⟩ =>
    thn (ho pins s2 σ H2 x y v u _ I2 r1 r2 q2) fun d s3 ⟨z, H3, I3, r3, k, e, q3⟩ => ?_)) hm
  subst e
  cases r3
  refine wpAny_truthy_bool ?_
  cases k with
  | false =>
    obtain ⟨k', e', q'⟩ := q3
    cases e'
    exact ite_ff ⟨H3, I3, q'⟩
  | true =>
    refine ite_tt (test_link (thn (hc.run pins s3 σ H3 _ I3 q3) fun w' s4 ⟨z', H4, I4, r4, q4⟩ => thn (ho' pins s4 σ H4 y z' u w' _ I4 r2 r4 q4) fun d2 s5 ⟨z2, H5, I5, r5, k2, e2, q5⟩ => ?_))
    subst e2
    cases r5
    refine wpAny_truthy_bool ?_
    cases k2 with
    | false =>
      obtain ⟨k', e', q'⟩ := q5
      cases e'
      exact ite_ff ⟨H5, I5, q'⟩
    | true =>
      refine ite_tt (test_last (thn (hd.run pins s5 σ H5 _ I5 q5) fun w3 s6 ⟨z3, H6, I6, r6, q6⟩ => thn (ho'' pins s6 σ H6 z' z3 w' w3 _ I6 r4 r6 q6) fun d3 s7 ⟨z4, H7, I7, r7, k3, e3, q7⟩ => ?_))
      subst e3
      cases r7
      exact wpAny_truthy_bool ⟨H7, I7, q7⟩
end
end ShR
namespace Sh
open PySem L2 ShR
/-! ### the data of the walks -/
def lettersS : Str := PySem.Str.ofString " !\"#$&'()*+,-./0123456789:;<=>?@ABCDEFGHIJKLMNOPQRSTUVWXYZ[\\]^_`abcdefghijklmnopqrstuvwxyz{|}~"
def L94 : List Nat := lettersS.cps.toList
def tx (z : List Nat) : Str := ⟨z.toArray⟩
theorem tx_list (z : List Nat) : (tx z).cps.toList = z := rfl
theorem tx_len (z : List Nat) : (tx z).length = z.length := rfl
/-- the values of a rule's tuple -/
def ruleVs : R → List V
  | .lit z => [.str "letters", .str (tx z)]
  | .join i j => [.str "join", .int (i : Nat), .int (j : Nat)]
  | .pow i k => [.str "power", .int (i : Nat), .int (k : Nat)]
  | .part i a b => [.str "part", .int (i : Nat), .int (a : Nat), .int (b : Nat)]
  | .back i => [.str "back", .int (i : Nat)]
def wordOf : R → Str
  | .lit _ => "letters"
  | .join _ _ => "join"
  | .pow _ _ => "power"
  | .part _ _ _ => "part"
  | .back _ => "back"
def lensV (ts : List (List Nat)) : List V := ts.map fun t => V.int (t.length : Nat)
def txsV (ts : List (List Nat)) : List V := ts.map fun t => V.str (tx t)
def refsV (ps : List Addr) : List V := ps.map V.ref
def segVs (e : Seg) : List V := [.int (e.n : Nat), .int (e.a : Nat), .int (e.b : Nat), .bl e.f]
theorem lensV_length (ts : List (List Nat)) : (lensV ts).length = ts.length := List.length_map _
theorem txsV_length (ts : List (List Nat)) : (txsV ts).length = ts.length := List.length_map _
theorem refsV_length (ps : List Addr) : (refsV ps).length = ps.length := List.length_map _
theorem lensV_get {ts : List (List Nat)} {i : Nat} {t : List Nat} (h : ts[i]? = some t) : (lensV ts)[i]? = some (.int (t.length : Nat)) := by
  unfold lensV
  rw [List.getElem?_map, h]
  rfl
theorem txsV_get {ts : List (List Nat)} {i : Nat} {t : List Nat} (h : ts[i]? = some t) : (txsV ts)[i]? = some (.str (tx t)) := by
  unfold txsV
  rw [List.getElem?_map, h]
  rfl
theorem refsV_get {ps : List Addr} {i : Nat} {p : Addr} (h : ps[i]? = some p) : (refsV ps)[i]? = some (.ref p) := by
  unfold refsV
  rw [List.getElem?_map, h]
  rfl
theorem lensV_app (ts us : List (List Nat)) : lensV (ts ++ us) = lensV ts ++ lensV us := List.map_append
theorem txsV_app (ts us : List (List Nat)) : txsV (ts ++ us) = txsV ts ++ txsV us := List.map_append
theorem refsV_app (ts us : List Addr) : refsV (ts ++ us) = refsV ts ++ refsV us := List.map_append
/-- the things of a list stand at the addresses, one by one -/
def AllAt {α : Type} (f : α → List V) (H : Hp) (ps : List Addr) (rs : List α) : Prop := ps.length = rs.length ∧ ∀ (i : Nat) (r : α), rs[i]? = some r → ∃ p, ps[i]? = some p ∧ H p = some (.tup (f r))
abbrev RulesAt := AllAt ruleVs
abbrev SegsAt := AllAt segVs
section
variable {α : Type} {f : α → List V} {H H' : Hp} {ps qs : List Addr} {rs us : List α}
theorem AllAt.same (h : AllAt f H ps rs) (s : ∀ b xs, H b = some (.tup xs) → H' b = some (.tup xs)) : AllAt f H' ps rs :=
  ⟨h.1, fun i r e => let ⟨p, h1, h2⟩ := h.2 i r e; ⟨p, h1, s p _ h2⟩⟩
theorem AllAt.nil : AllAt f H [] [] := ⟨rfl, fun i r h => by simp at h⟩
theorem AllAt.snoc {p : Addr} {r : α} (h : AllAt f H ps rs) (e : H p = some (.tup (f r))) : AllAt f H (ps ++ [p]) (rs ++ [r]) := by
  refine ⟨by rw [List.length_append, List.length_append, h.1]; rfl, fun i r' hr => ?_⟩
  by_cases hi : i < rs.length
  · rw [List.getElem?_append_left hi] at hr
    obtain ⟨q, h1, h2⟩ := h.2 i r' hr
    exact ⟨q, get_app h1, h2⟩
  · obtain ⟨k, rfl⟩ : ∃ k, i = rs.length + k := ⟨i - rs.length, by omega⟩
    rw [get_end] at hr
    cases k with
    | zero =>
      cases (Option.some.inj hr)
      rw [← h.1]
      exact ⟨p, by rw [get_end]; rfl, e⟩
    | succ k => simp at hr
theorem AllAt.app (h : AllAt f H ps rs) (h2 : AllAt f H qs us) : AllAt f H (ps ++ qs) (rs ++ us) := by
  refine ⟨by rw [List.length_append, List.length_append, h.1, h2.1], fun i r' hr => ?_⟩
  by_cases hi : i < rs.length
  · rw [List.getElem?_append_left hi] at hr
    obtain ⟨q, h1, h3⟩ := h.2 i r' hr
    exact ⟨q, get_app h1, h3⟩
  · obtain ⟨k, rfl⟩ : ∃ k, i = rs.length + k := ⟨i - rs.length, by omega⟩
    rw [get_end] at hr
    obtain ⟨q, h1, h3⟩ := h2.2 k r' hr
    rw [← h.1]
    exact ⟨q, by rw [get_end]; exact h1, h3⟩
theorem AllAt.cons {p : Addr} {r : α} (e : H p = some (.tup (f r))) (h : AllAt f H ps rs) : AllAt f H (p :: ps) (r :: rs) :=
  AllAt.app (ps := [p]) (rs := [r]) (AllAt.snoc (ps := []) (rs := []) AllAt.nil e) h
theorem AllAt.reverse (h : AllAt f H ps rs) : AllAt f H ps.reverse rs.reverse := by
  refine ⟨by rw [List.length_reverse, List.length_reverse, h.1], fun i r' hr => ?_⟩
  have hi : i < rs.length := by
    have := (List.getElem?_eq_some_iff.mp hr).1
    rwa [List.length_reverse] at this
  rw [List.getElem?_reverse hi] at hr
  obtain ⟨q, h1, h3⟩ := h.2 _ r' hr
  exact ⟨q, by rw [List.getElem?_reverse (by rw [h.1]; exact hi), h.1]; exact h1, h3⟩
/-- from a list of things: of an address -/
theorem AllAt.at (h : AllAt f H ps rs) {i : Nat} {x : V} (hx : (refsV ps)[i]? = some x) : ∃ p r, x = .ref p ∧ ps[i]? = some p ∧ rs[i]? = some r ∧ H p = some (.tup (f r)) := by
  have hi : i < rs.length := by
    have := (List.getElem?_eq_some_iff.mp hx).1
    rw [refsV_length, h.1] at this
    exact this
  obtain ⟨p, h1, h2⟩ := h.2 i rs[i] (List.getElem?_eq_getElem hi)
  rw [refsV_get h1] at hx
  exact ⟨p, _, (Option.some.inj hx).symm, h1, List.getElem?_eq_getElem hi, h2⟩
end

/-! ### heaps -/
/-- all but p is as it was -/
def But (p : Addr) (H H' : Hp) : Prop := ∀ b o, H b = some o → b ≠ p → H' b = some o
theorem But.of {H H' : Hp} {p : Addr} (s : Same H H') : But p H H' := fun b o e _ => s b o e
theorem But.refl (p : Addr) (H : Hp) : But p H H := fun _ _ e _ => e
theorem But.trans {H H1 H2 : Hp} {p : Addr} (a : But p H H1) (b : But p H1 H2) : But p H H2 := fun c o e n => b c o (a c o e n) n
theorem But.then {H H1 H2 : Hp} {p : Addr} (a : But p H H1) (b : Same H1 H2) : But p H H2 := fun c o e n => b c o (a c o e n)
theorem Same.but {H H1 H2 : Hp} {p : Addr} (a : Same H H1) (b : But p H1 H2) : But p H H2 := fun c o e n => b c o (a c o e) n
theorem But.upd {H : Hp} {p : Addr} {o : HO} : But p H (upd H p o) := fun b u e n => by rw [upd_ne n]; exact e
/-- p was not there: all is as it was -/
theorem But.same {H H' : Hp} {p : Addr} (h : But p H H') (n : H p = none) : Same H H' := fun b o e => h b o e (ne_of_none e n)
theorem Same.new {H : Hp} {p : Addr} {o : HO} (n : H p = none) : Same H (upd H p o) := fun b u e => by rw [upd_ne (ne_of_none e n)]; exact e
theorem Same.new2 {H H1 : Hp} {p : Addr} {o : HO} (s : Same H H1) (n : H p = none) : Same H (upd H1 p o) := fun b u e => by rw [upd_ne (ne_of_none e n)]; exact s b u e
theorem Same.ofBut {H H1 H2 : Hp} {p : Addr} (s : Same H H1) (n : H p = none) (h : But p H1 H2) : Same H H2 := fun b u e => h b u (s b u e) (ne_of_none e n)
theorem some_ne {H : Hp} {p : Addr} {o : HO} (h : H p = some o) : ¬ H p = none := fun e => by rw [h] at e; cases e

/-! ### the pool -/
def PoolAt (H : Hp) (p c : Addr) : Prop := ∃ (cells : List Int) (pos spare seed : Int), H p = some (.lst [.ref c, .int pos, .int spare, .int seed]) ∧ H c = some (.lst (cells.map V.int)) ∧ (∀ x ∈ cells, 0 ≤ x) ∧ cells.length ≤ 63 ∧
  0 ≤ pos ∧ 0 ≤ spare ∧ 0 ≤ seed ∧ seed < 2147483647
theorem pool_apart {c : Addr} {cells : List Int} {xs : List V} : (HO.lst (V.ref c :: xs)) ≠ HO.lst (cells.map V.int) := by
  intro e
  cases cells with
  | nil => cases e
  | cons a r => cases e
theorem PoolAt.keep {H H' : Hp} {p c : Addr} (h : PoolAt H p c) (s : Same H H') : PoolAt H' p c := by
  obtain ⟨cells, pos, spare, seed, h1, h2, h3⟩ := h
  exact ⟨cells, pos, spare, seed, s _ _ h1, s _ _ h2, h3⟩
theorem PoolAt.ne {H : Hp} {p c b : Addr} {o : HO} (h : PoolAt H p c) (e : H b = some o) (d : ∀ c xs, o ≠ .lst (V.ref c :: xs)) : b ≠ p := by
  obtain ⟨cells, pos, spare, seed, h1, _⟩ := h
  exact ne_of e h1 (d _ _)
theorem PoolAt.neT {H : Hp} {p c b : Addr} {xs : List V} (h : PoolAt H p c) (e : H b = some (.tup xs)) : b ≠ p := h.ne e fun _ _ q => by cases q
theorem PoolAt.neX {H : Hp} {p c b : Addr} {ts : List (List Nat)} (h : PoolAt H p c) (e : H b = some (.lst (txsV ts))) : b ≠ p := h.ne e fun _ _ q => by
  cases ts with
  | nil => cases q
  | cons a r => cases q
/-- a new object is neither the pool nor its cells -/
theorem PoolAt.new {H : Hp} {p c D : Addr} (h : PoolAt H p c) (hD : H D = none) : D ≠ p ∧ D ≠ c := by
  obtain ⟨cells, pos, spare, seed, h1, h2, _⟩ := h
  exact ⟨(ne_of_none h1 hD).symm, (ne_of_none h2 hD).symm⟩
theorem PoolAt.upd {H : Hp} {p c D : Addr} {o : HO} (h : PoolAt H p c) (n : D ≠ p ∧ D ≠ c) : PoolAt (upd H D o) p c := by
  obtain ⟨cells, pos, spare, seed, h1, h2, h3⟩ := h
  exact ⟨cells, pos, spare, seed, by rw [upd_ne n.1.symm]; exact h1, by rw [upd_ne n.2.symm]; exact h2, h3⟩
theorem AllAt.but {α : Type} {f : α → List V} {H H' : Hp} {p c : Addr} {ps : List Addr} {rs : List α} (h : AllAt f H ps rs) (P : PoolAt H p c) (s : But p H H') : AllAt f H' ps rs := h.same fun b _ e => s b _ e (P.neT e)
theorem AllAt.keep {α : Type} {f : α → List V} {H H' : Hp} {ps : List Addr} {rs : List α} (h : AllAt f H ps rs) (s : Same H H') : AllAt f H' ps rs := h.same fun b _ e => s b _ e
/-- D was not there at first: a store to it changes nothing of what was -/
theorem But.new2 {H H1 : Hp} {p D : Addr} {o : HO} (b : But p H H1) (n : H D = none) : But p H (L2.upd H1 D o) := fun x u e m => by rw [upd_ne (ne_of_none e n)]; exact b x u e m

/-! ### a Text -/
theorem ne_rl : ¬ (("rules" : Str) = "lengths") := by decide +kernel
theorem ne_rn : ¬ (("rules" : Str) = "length") := by decide +kernel
theorem ne_ln : ¬ (("lengths" : Str) = "length") := by decide +kernel
def tf (pr pl : Addr) (n : Int) : List (Str × V) := putF "length" (.int n) (putF "lengths" (.ref pl) (putF "rules" (.ref pr) []))
theorem tf_rules (pr pl : Addr) (n : Int) : (tf pr pl n).lookup ("rules" : Str) = some (.ref pr) := by
  unfold tf
  rw [lookup_putF, if_neg ne_rn, lookup_putF, if_neg ne_rl, lookup_putF, if_pos rfl]
theorem tf_lengths (pr pl : Addr) (n : Int) : (tf pr pl n).lookup ("lengths" : Str) = some (.ref pl) := by
  unfold tf
  rw [lookup_putF, if_neg ne_ln, lookup_putF, if_pos rfl]
theorem tf_length (pr pl : Addr) (n : Int) : (tf pr pl n).lookup ("length" : Str) = some (.int n) := by
  unfold tf
  rw [lookup_putF, if_pos rfl]
theorem tf_no (pr pl : Addr) (n : Int) {m : Str} (h1 : ¬ m = "length") (h2 : ¬ m = "lengths") (h3 : ¬ m = "rules") : (tf pr pl n).lookup m = none := by
  unfold tf
  rw [lookup_putF, if_neg h1, lookup_putF, if_neg h2, lookup_putF, if_neg h3]
  all_goals rfl
/-- a Text stands at x: its rules are rs, ts are what they make, t is the last of them -/
def TextAt (C : Addr) (H : Hp) (x : Addr) (rs : List R) (ts : List (List Nat)) (t : List Nat) : Prop := ∃ (dx pr pl : Addr) (ps : List Addr), H x = some (.ins C dx (tf pr pl (t.length : Nat))) ∧ H pr = some (.tup (refsV ps)) ∧ RulesAt H ps rs ∧
  H pl = some (.tup (lensV ts)) ∧ WF L94 rs ts ∧ ts[ts.length - 1]? = some t
theorem TextAt.keep {C : Addr} {H H' : Hp} {x : Addr} {rs : List R} {ts : List (List Nat)} {t : List Nat} (h : TextAt C H x rs ts t) (s : Same H H') : TextAt C H' x rs ts t := by
  obtain ⟨dx, pr, pl, ps, h1, h2, h3, h4, h5⟩ := h
  exact ⟨dx, pr, pl, ps, s _ _ h1, s _ _ h2, h3.keep s, s _ _ h4, h5⟩
theorem TextAt.but {C p c : Addr} {H H' : Hp} {x : Addr} {rs : List R} {ts : List (List Nat)} {t : List Nat} (h : TextAt C H x rs ts t) (P : PoolAt H p c) (s : But p H H') : TextAt C H' x rs ts t := by
  obtain ⟨dx, pr, pl, ps, h1, h2, h3, h4, h5⟩ := h
  exact ⟨dx, pr, pl, ps, s _ _ h1 (P.ne h1 fun _ _ q => by cases q), s _ _ h2 (P.neT h2), h3.but P s, s _ _ h4 (P.neT h4), h5⟩

/-! ### ifs whose test is known -/
theorem ifT {c : Bool} {A B : Prop} (hc : c = true) (h : A) : if c = true then A else B := by rw [if_pos hc]; exact h
theorem ifF {c : Bool} {A B : Prop} (hc : c = false) (h : B) : if c = true then A else B := by rw [hc, if_neg Bool.false_ne_true]; exact h
theorem RuleAt.take {L : List Nat} {ts : List (List Nat)} {i : Nat} {r : R} {t : List Nat} (h : RuleAt L ts i r t) : RuleAt L (ts.take i) i r t := by
  have g : ∀ {j : Nat} {u : List Nat}, j < i → ts[j]? = some u → (ts.take i)[j]? = some u := fun hj hu => by rw [List.getElem?_take_of_lt hj]; exact hu
  cases r with
  | lit z => exact h
  | join j k =>
    obtain ⟨u, v, h1, h2, h3, h4, h5⟩ := h
    exact ⟨u, v, h1, h2, g h1 h3, g h2 h4, h5⟩
  | pow j k =>
    obtain ⟨u, h1, h2, h3⟩ := h
    exact ⟨u, h1, g h1 h2, h3⟩
  | part j a b =>
    obtain ⟨u, h1, h2, h3⟩ := h
    exact ⟨u, h1, g h1 h2, h3⟩
  | back j =>
    obtain ⟨u, h1, h2, h3⟩ := h
    exact ⟨u, h1, g h1 h2, h3⟩

/-! ### the promises -/
def spRL : Sp := fun vs H Q _ => ∃ (p l : Addr) (r : R) (ts : List (List Nat)) (t : List Nat), vs = [.ref p, .ref l] ∧ H p = some (.tup (ruleVs r)) ∧ H l = some (.lst (lensV ts)) ∧ RuleAt L94 ts ts.length r t ∧ Q (.int (t.length : Nat)) H
def earlierVs : R → List V
  | .lit _ => []
  | .join i j => [.int (i : Nat), .int (j : Nat)]
  | .pow i _ => [.int (i : Nat)]
  | .part i _ _ => [.int (i : Nat)]
  | .back i => [.int (i : Nat)]
def spEA : Sp := fun vs H Q _ => ∃ (p : Addr) (r : R), vs = [.ref p] ∧ H p = some (.tup (ruleVs r)) ∧ ∀ (H' : Hp) (q : Addr), Same H H' → H' q = some (.tup (earlierVs r)) → Q (.ref q) H'
def spFA : Sp := fun vs H Q _ => ∃ (p l : Addr) (r : R) (ts : List (List Nat)) (t : List Nat), vs = [.ref p, .ref l] ∧ H p = some (.tup (ruleVs r)) ∧ H l = some (.lst (lensV ts)) ∧ RuleAt L94 ts ts.length r t ∧ t.length ≤ 1000000000000 ∧ ts.length ≤ 60 ∧
  ∀ H' : Hp, Same H H' → Q .non H'
def spLO : Sp := fun vs H Q _ => ∃ (q : Addr) (ps : List Addr) (rs : List R) (ts : List (List Nat)), vs = [.ref q] ∧ H q = some (.tup (refsV ps)) ∧ RulesAt H ps rs ∧ WF L94 rs ts ∧ rs.length ≤ 60 ∧
  ∀ (H' : Hp) (p : Addr), Same H H' → H' p = some (.tup (lensV ts)) → Q (.ref p) H'
def spCR : Sp := fun vs H Q _ => ∃ (q : Addr) (ps : List Addr) (rs : List R) (ts : List (List Nat)), vs = [.ref q] ∧ H q = some (.lst (refsV ps)) ∧ RulesAt H ps rs ∧ WF L94 rs ts ∧ 1 ≤ rs.length ∧ rs.length ≤ 60 ∧ ∀ H' : Hp, Same H H' → Q .non H'
def spInit (C : Addr) : Sp := fun vs H Q _ => ∃ (p dx q : Addr) (ps : List Addr) (rs : List R) (ts : List (List Nat)) (t : List Nat), vs = [.ref p, .ref q] ∧ H p = some (.ins C dx []) ∧ H q = some (.lst (refsV ps)) ∧ RulesAt H ps rs ∧ WF L94 rs ts ∧
  1 ≤ rs.length ∧ rs.length ≤ 60 ∧ ts[ts.length - 1]? = some t ∧ ∀ H' : Hp, But p H H' → TextAt C H' p rs ts t → Q .non H'
def NotLit : R → Prop
  | .lit _ => False
  | _ => True
def spIP : Sp := fun vs H Q _ => ∃ (p l : Addr) (r : R) (i : Nat) (ts : List (List Nat)) (t : List Nat) (pl c : Nat), vs = [.ref p, .ref l, .int (pl : Nat)] ∧ H p = some (.tup (ruleVs r)) ∧ H l = some (.tup (lensV ts)) ∧ RuleAt L94 ts i r t ∧ NotLit r ∧
  t[pl]? = some c ∧ t.length ≤ 1000000000000 ∧ ∀ (H' : Hp) (q : Addr) (m pl' : Nat) (u : List Nat), Same H H' → H' q = some (.tup [.int (m : Nat), .int (pl' : Nat)]) → m < i → ts[m]? = some u → u[pl']? = some c → Q (.ref q) H'
def spL (C : Addr) : Sp := fun vs H Q _ => ∃ (x : Addr) (rs : List R) (ts : List (List Nat)) (t : List Nat) (pl c : Nat), vs = [.ref x, .int (pl : Nat)] ∧ TextAt C H x rs ts t ∧ t[pl]? = some c ∧ ∀ H' : Hp, Same H H' → Q (.str ⟨#[c]⟩) H'
def spCk (C : Addr) : Sp := fun vs H Q _ => ∃ (x : Addr) (rs : List R) (ts : List (List Nat)) (t : List Nat) (a b : Nat), vs = [.ref x, .int (a : Nat), .int (b : Nat)] ∧ TextAt C H x rs ts t ∧ a ≤ b ∧ b ≤ t.length ∧ Q .non H
def spIQ : Sp := fun vs H Q _ => ∃ (p l : Addr) (r : R) (i : Nat) (ts : List (List Nat)) (t : List Nat) (a b : Nat), vs = [.ref p, .ref l, .int (a : Nat), .int (b : Nat)] ∧ H p = some (.tup (ruleVs r)) ∧ H l = some (.tup (lensV ts)) ∧ RuleAt L94 ts i r t ∧ NotLit r ∧
  a < b ∧ b ≤ t.length ∧ b - a ≤ 1000 ∧ t.length ≤ 1000000000000 ∧ ∀ (H' : Hp) (q : Addr) (qs : List Addr) (ss : List Seg), Same H H' → H q = none → H' q = some (.lst (refsV qs)) → SegsAt H' qs ss → Parts ts i (slice t a b) ss → Q (.ref q) H'
def spM (C : Addr) : Sp := fun vs H Q _ => ∃ (x : Addr) (rs : List R) (ts : List (List Nat)) (t : List Nat) (a b : Nat), vs = [.ref x, .int (a : Nat), .int (b : Nat)] ∧ TextAt C H x rs ts t ∧ a < b ∧ b ≤ t.length ∧ b - a ≤ 1000 ∧
  ∀ H' : Hp, Same H H' → Q (.str (tx (slice t a b))) H'
def spPO (K : PySem.W.Frag) : Sp := fun vs H Q _ => ∃ (a : Addr) (ns : List Int), vs = [.ref a] ∧ SqL K H a (ns.map V.int) ∧ ns.length ≤ 63 ∧ ∀ (H' : Hp) (p c : Addr), Same H H' → H p = none → PoolAt H' p c → Q (.ref p) H'
/-- take: a number below many -/
def spTA : Sp := fun vs H Q _ => ∃ (p c : Addr) (many : Nat), vs = [.ref p, .int (many : Nat)] ∧ PoolAt H p c ∧ 1 ≤ many ∧ many ≤ 1000000000000 ∧ ∀ (H' : Hp) (d : Nat), But p H H' → PoolAt H' p c → d < many → Q (.int (d : Nat)) H'
/-- take, while a spare number is left: no second call -/
def spTA1 : Sp := fun vs H Q _ => ∃ (p c : Addr) (cells : List Int) (pos spare seed : Int) (many : Nat), vs = [.ref p, .int (many : Nat)] ∧ H p = some (.lst [.ref c, .int pos, .int spare, .int seed]) ∧ 0 < spare ∧ 1 ≤ many ∧ many ≤ 1000000000000 ∧
  ∀ (H' : Hp) (d : Nat) (spare' : Int), H' = upd H p (.lst [.ref c, .int pos, .int spare', .int seed]) → 0 ≤ spare' → d < many → Q (.int (d : Nat)) H'
def spWR : Sp := fun vs H Q _ => ∃ (p c : Addr), vs = [.ref p] ∧ PoolAt H p c ∧ ∀ (H' : Hp) (z : List Nat), But p H H' → PoolAt H' p c → z.length ≤ 64 → (∀ c ∈ z, c ∈ L94) → Q (.str (tx z)) H'
def spNE : Sp := fun vs H Q _ => ∃ (p c l : Addr) (ts : List (List Nat)), vs = [.ref p, .ref l, .int 400] ∧ PoolAt H p c ∧ H l = some (.lst (txsV ts)) ∧ (∀ t ∈ ts, t.length ≤ 400) ∧ ts.length ≤ 60 ∧
  ∀ (H' : Hp) (q : Addr) (r : R) (t : List Nat), But p H H' → PoolAt H' p c → H' q = some (.tup (ruleVs r)) → RuleAt L94 ts ts.length r t → t.length ≤ 400 → Q (.ref q) H'
def spMA : Sp := fun vs H Q _ => ∃ (l q : Addr) (ts : List (List Nat)) (r : R) (t : List Nat), vs = [.ref l, .ref q] ∧ H l = some (.lst (txsV ts)) ∧ H q = some (.tup (ruleVs r)) ∧ RuleAt L94 ts ts.length r t ∧ t.length ≤ 400 ∧ (∀ u ∈ ts, u.length ≤ 400) ∧ Q (.str (tx t)) H
def spRU : Sp := fun vs H Q _ => ∃ (p c : Addr), vs = [.ref p, .int 400] ∧ PoolAt H p c ∧ ∀ (H' : Hp) (q a b : Addr) (ps : List Addr) (rs : List R) (ts : List (List Nat)), But p H H' → PoolAt H' p c → H' q = some (.tup [.ref a, .ref b]) → H' a = some (.lst (refsV ps)) → a ≠ p → RulesAt H' ps rs →
  H' b = some (.lst (txsV ts)) → WF L94 rs ts → 1 ≤ rs.length → rs.length ≤ 20 → (∀ t ∈ ts, t.length ≤ 400) → Q (.ref q) H'
def spII : Sp := fun vs H Q _ => ∃ n : Int, vs = [.int n] ∧ Q (.bl true) H
def spSA : Sp := fun vs H Q _ => ((∃ n : Int, vs = [.int n, .int n]) ∨ ∃ z : Str, vs = [.str z, .str z]) ∧ Q (.bl true) H
def spGR : Sp := fun vs H Q _ => ∃ (a b : Addr) (ps : List Addr) (rs : List R) (ts : List (List Nat)) (t : List Nat) (n cut times first : Nat), vs = [.ref a, .ref b, .int (cut : Nat), .int (times : Nat), .int (first : Nat)] ∧ H a = some (.lst (refsV ps)) ∧ RulesAt H ps rs ∧ H b = some (.lst (txsV ts)) ∧
  rs.length = n + 1 ∧ ts.length = n + 1 ∧ n ≤ 100 ∧ ts[n]? = some t ∧ t.length ≤ 400 ∧ 1 ≤ first ∧ first ≤ 1000000 ∧ times ≤ 1000000000000 ∧
  ∀ (H' : Hp) (q : Addr) (qs : List Addr), Same H H' → H q = none → H' q = some (.lst (refsV qs)) → RulesAt H' qs (rs ++ grownR n cut t.length times first) → Q (.ref q) H'
def spSH : Sp := fun vs H Q _ => ∃ (a : Addr) (ps : List Addr) (rs : List R) (n size cut times : Nat), vs = [.ref a, .int (size : Nat), .int (cut : Nat), .int (times : Nat)] ∧ H a = some (.lst (refsV ps)) ∧ RulesAt H ps rs ∧ rs.length = n + 1 ∧ n ≤ 100 ∧ 1 ≤ times ∧
  ∀ (H' : Hp) (q : Addr) (qs : List Addr), Same H H' → H q = none → H' q = some (.lst (refsV qs)) → RulesAt H' qs (rs ++ shiftedR n cut size times) → Q (.ref q) H'
abbrev lawLevel : Nat := 7
def spLaw (K : PySem.W.Frag) : Sp := fun vs H Q _ => ∃ (a : Addr) (ns : List Int), vs = [.ref a] ∧ SqL K H a (ns.map V.int) ∧ ns.length ≤ 63 ∧ ∀ H', Q (.bl true) H'
/-! ### a def of the module, or a method, as its callers see it -/
def Cal (P : Program) (w : World) (K : PySem.W.Frag) (mg : Str → Option Value) (base : Heap) (x : Str) (k : Nat) (ps : List Str) (sp : Sp) : Prop :=
  ∃ (f : Addr) (fd : FuncData), FnOk P w K mg base CX0 k f fd ps sp ∧ mg x = some (.ref f) ∧ PySem.W.keepIn K (.ref f) = true ∧ Binds K fd ps []
def CalM (P : Program) (w : World) (K : PySem.W.Frag) (mg : Str → Option Value) (base : Heap) (C : Addr) (x : Str) (k : Nat) (ps : List Str) (sp : Sp) : Prop :=
  ∃ (f : Addr) (fd : FuncData), FnOk P w K mg base CX0 k f fd ps sp ∧ Meth K C x f ∧ Binds K fd ps []
/-! ### texts joined -/
theorem txs_snoc (fs : List (List Nat)) (z : List Nat) : txsV fs ++ [.str (tx z)] = txsV (fs ++ [z]) := by rw [txsV_app]; rfl
theorem len_flat : ∀ fs : List (List Nat), (∀ z ∈ fs, 0 < z.length) → fs.length ≤ fs.flatten.length
  | [], _ => Nat.zero_le _
  | z :: r, h => by
    have ih := len_flat r fun x hx => h x (List.mem_cons_of_mem _ hx)
    have := h z List.mem_cons_self
    rw [List.flatten_cons, List.length_append, List.length_cons]
    omega
theorem joinL_flat : ∀ ys : List (List Nat), TL.joinL [] ys = ys.flatten
  | [] => rfl
  | [p] => by
    show p = _
    rw [List.flatten_cons, List.flatten_nil, List.append_nil]
  | p :: q :: r => by
    show p ++ ([] ++ TL.joinL [] (q :: r)) = _
    rw [List.nil_append, joinL_flat (q :: r)]
    rfl
theorem map_tx_tl : ∀ l : List (List Nat), (l.map tx).map TL.tl = l
  | [] => rfl
  | x :: l => congrArg (fun z => x :: z) (map_tx_tl l)
theorem empty_tx : ("" : Str) = tx [] := by decide +kernel
theorem join_tx (fs : List (List Nat)) : Txt.join ("" : Str) (fs.map tx) = tx fs.flatten := by
  rw [empty_tx]
  have e := TL.tl_join (tx []) (fs.map tx)
  rw [map_tx_tl] at e
  have e2 : TL.joinL (TL.tl (tx [])) fs = fs.flatten := joinL_flat fs
  rw [e2] at e
  exact TL.ext_tl ((congrArg TL.tl (TL.join_eq (tx []) (fs.map tx))).trans e)
theorem sum_lens (fs : List (List Nat)) : ((fs.map tx).map (·.length)).sum = fs.flatten.length := by
  rw [List.length_flatten, List.map_map]
  rfl
theorem lens94 : L94.length = 94 := by decide +kernel
theorem cps_ab : (("ab" : Str).cps.toList) = [97, 98] := by decide +kernel
theorem in97 : 97 ∈ L94 := by decide +kernel
theorem in98 : 98 ∈ L94 := by decide +kernel
theorem fmod_nat (z : Int) {m : Nat} (hm : 1 ≤ m) : ∃ d : Nat, z.fmod ((m : Nat) : Int) = ((d : Nat) : Int) ∧ d < m := by
  have h1 : (0 : Int) < ((m : Nat) : Int) := by omega
  rw [Int.fmod_eq_emod_of_nonneg z (by omega)]
  have h2 := Int.emod_nonneg z (show ((m : Nat) : Int) ≠ 0 by omega)
  have h3 := Int.emod_lt_of_pos z h1
  exact ⟨(z % ((m : Nat) : Int)).toNat, by omega, by omega⟩
theorem cutS_slice' (z : List Nat) {a b : Nat} (h1 : a ≤ b) (h2 : b ≤ z.length) : cutS (tx z) (some ((a : Nat) : Int)) (some ((b : Nat) : Int)) = tx (slice z a b) := by
  unfold cutS
  rw [HT.sIx_nat, HT.sIx_nat]
  have e1 : min a (tx z).length = a := by
    rw [tx_len]
    omega
  have e2 : min b (tx z).length = b := by
    rw [tx_len]
    omega
  rw [e1, e2]
  rfl
theorem backS_tx (z : List Nat) : backS (tx z) = tx z.reverse := rfl
theorem tx_app (u v : List Nat) : tx u ++ tx v = tx (u ++ v) := by
  show (⟨u.toArray ++ v.toArray⟩ : Str) = ⟨(u ++ v).toArray⟩
  rw [List.append_toArray]
theorem timesS_tx (u : List Nat) (m : Nat) : timesS (tx u) m = tx (rep m u) := rfl

def top (i : Nat) : Stmt := PySem.Challenge.pw_shortheld_k05_whole_other_rules.main.body.getD i (.Pass ⟨0, 0, 0, 0⟩)
abbrev sRL : Stmt := top 14
abbrev sEA : Stmt := top 15
abbrev sFA : Stmt := top 16
abbrev sLO : Stmt := top 17
abbrev sCR : Stmt := top 18
abbrev sIP : Stmt := top 19
abbrev sIQ : Stmt := top 20
abbrev sPO : Stmt := top 23
abbrev sTA : Stmt := top 24
abbrev sWR : Stmt := top 25
abbrev sNU : Stmt := top 26
abbrev sNE : Stmt := top 27
abbrev sMA : Stmt := top 28
abbrev sRU : Stmt := top 29
abbrev sII : Stmt := top 30
abbrev sSA : Stmt := top 31
abbrev sGR : Stmt := top 32
abbrev sSH : Stmt := top 33
abbrev sLA : Stmt := top 34
abbrev smI : Stmt := inClass (top 21) 0
abbrev smL : Stmt := inClass (top 21) 3
abbrev smC : Stmt := inClass (top 21) 4
abbrev smM : Stmt := inClass (top 21) 5
/-- the facts of the top that the walks ask -/
structure Txt (K : PySem.W.Frag) (w : World) (mg : Str → Option Value) (C : Addr) : Prop where
  cl : Cls K C
  mgC : mg "Text" = some (.ref C)
  n_rules : NoAttr K C "rules"
  n_lengths : NoAttr K C "lengths"
  n_length : NoAttr K C "length"
  b_len : mg "len" = none
  b_all : mg "all" = none
  b_tuple : mg "tuple" = none
  b_enumerate : mg "enumerate" = none
  b_range : mg "range" = none
  b_max : mg "max" = none
  b_min : mg "min" = none
  b_int : mg "int" = none
  b_isinstance : mg "isinstance" = none
  b_bool : mg "bool" = none
  b_str : mg "str" = none
  b_list : mg "list" = none
  LETTERS : ∃ t, mg "LETTERS" = some (.str lettersS t)
  MOST_RULES : ∃ t, mg "MOST_RULES" = some (.int 60 t)
  MOST_WRITTEN : ∃ t, mg "MOST_WRITTEN" = some (.int 64 t)
  MOST_LETTERS : ∃ t, mg "MOST_LETTERS" = some (.int 1000000000000 t)
  MOST_TOLD : ∃ t, mg "MOST_TOLD" = some (.int 1000 t)
  SIZES : ∃ d, mg "SIZES" = some (.ref d) ∧ (d == sysModules) = false ∧ KDct K w d "letters" (.int 2) ∧ KDct K w d "join" (.int 3) ∧ KDct K w d "power" (.int 3) ∧ KDct K w d "part" (.int 4) ∧ KDct K w d "back" (.int 2)
section
variable {P : Program} {w : World} {K : PySem.W.Frag} {mg : Str → Option Value} {base : Heap} {C : Addr}
/-! ### rule_length, earlier -/
theorem scRL : FnScope ["rule", "lengths", "word"] ["rule", "lengths"] (defScope sRL) := ⟨rfl, rfl, rfl, by decide +kernel, rfl, by decide +kernel, by decide +kernel⟩
theorem ok_RL {f : Addr} {fd : FuncData} (F : Fun K "rule_length" "rule_length" sRL f fd) (T : Txt K w mg C) : FnOk P w K mg base CX0 1 f fd ["rule", "lengths"] spRL := by
  refine F.ok scRL (fun vs H Q E h => ?_) (fun cdv A outer s H vs Q E hr h => ?_)
  · obtain ⟨p, l, r, ts, t, rfl, _⟩ := h
    rfl
  · obtain ⟨p, l, r, ts, t, rfl, hp, hl, hR, k⟩ := h
    refine ⟨_, pss_cons (ps_set (i := 2) scRL.nd rfl (Or.inl rfl) (pe_ix ix_tup (pv 0) pe_int (fun _ _ => rfl)))
      (pss_cons (ps_if (pt_cmpR op_eq (pv 2) pe_str (nomark _)) (pss_one (ps_ret (pe_callB call_len_str (by rfl) T.b_len PySem.boot_len (pa_cons (pe_ix ix_tup (pv 0) pe_int (fun _ _ => rfl)) pa_nil)))) pss_nil)
      (pss_cons (ps_if (pt_cmpR op_eq (pv 2) pe_str (nomark _)) (pss_one (ps_ret (pe_op op_add (pe_ix ix_list (pv 1) (pe_ix ix_tup (pv 0) pe_int (fun _ _ => rfl)) (fun _ _ => rfl)) (pe_ix ix_list (pv 1) (pe_ix ix_tup (pv 0) pe_int (fun _ _ => rfl)) (fun _ _ => rfl))))) pss_nil)
      (pss_cons (ps_if (pt_cmpR op_eq (pv 2) pe_str (nomark _)) (pss_one (ps_ret (pe_op op_mul (pe_ix ix_list (pv 1) (pe_ix ix_tup (pv 0) pe_int (fun _ _ => rfl)) (fun _ _ => rfl)) (pe_ix ix_tup (pv 0) pe_int (fun _ _ => rfl))))) pss_nil)
      (pss_cons (ps_if (pt_cmpR op_eq (pv 2) pe_str (nomark _)) (pss_one (ps_ret (pe_op op_sub (pe_ix ix_tup (pv 0) pe_int (fun _ _ => rfl)) (pe_ix ix_tup (pv 0) pe_int (fun _ _ => rfl))))) pss_nil)
      (pss_one (ps_ret (pe_ix ix_list (pv 1) (pe_ix ix_tup (pv 0) pe_int (fun _ _ => rfl)) (fun _ _ => rfl)))))))), ?_⟩
    cases r with
    | lit z =>
      obtain ⟨rfl, hz, _⟩ := hR
      refine ⟨_, rfl, p, _, _, _, rfl, rfl, SqT.of hp, at_of (j := 0) rfl rfl, _, rfl, rfl, _, rfl, ifT (by decide +kernel) ?_⟩
      refine ⟨_, rfl, p, _, _, _, rfl, rfl, SqT.of hp, at_of (j := 1) rfl rfl, _, rfl, ?_, ?_⟩
      · rw [tx_len, sizeLine_eq]
        omega
      · exact k
    | join i j =>
      obtain ⟨u, v, _, _, hu, hv, rfl⟩ := hR
      refine ⟨_, rfl, p, _, _, _, rfl, rfl, SqT.of hp, at_of (j := 0) rfl rfl, _, rfl, rfl, _, rfl, ifF (by decide +kernel) ?_⟩
      refine ⟨_, rfl, rfl, _, rfl, ifT (by decide +kernel) ?_⟩
      refine ⟨_, rfl, _, rfl, p, _, _, _, rfl, rfl, SqT.of hp, at_of (j := 1) rfl rfl, l, _, _, _, rfl, rfl, SqL.of hl, at_of (j := i) rfl (lensV_get hu), _, rfl, _, rfl, p, _, _, _, rfl, rfl, SqT.of hp, at_of (j := 2) rfl rfl, l, _, _, _, rfl, rfl, SqL.of hl, at_of (j := j) rfl (lensV_get hv), _, _, rfl, rfl, ?_⟩
      have e : (((u ++ v).length : Nat) : Int) = ((u.length : Nat) : Int) + ((v.length : Nat) : Int) := by
        rw [List.length_append]
        omega
      rw [e] at k
      exact k
    | pow i j =>
      obtain ⟨u, _, hu, hj, rfl⟩ := hR
      refine ⟨_, rfl, p, _, _, _, rfl, rfl, SqT.of hp, at_of (j := 0) rfl rfl, _, rfl, rfl, _, rfl, ifF (by decide +kernel) ?_⟩
      refine ⟨_, rfl, rfl, _, rfl, ifF (by decide +kernel) ?_⟩
      refine ⟨_, rfl, rfl, _, rfl, ifT (by decide +kernel) ?_⟩
      refine ⟨_, rfl, _, rfl, p, _, _, _, rfl, rfl, SqT.of hp, at_of (j := 1) rfl rfl, l, _, _, _, rfl, rfl, SqL.of hl, at_of (j := i) rfl (lensV_get hu), _, rfl, p, _, _, _, rfl, rfl, SqT.of hp, at_of (j := 2) rfl rfl, _, _, rfl, rfl, .inr ⟨by omega, by omega⟩, ?_⟩
      have e : (((rep j u).length : Nat) : Int) = ((u.length : Nat) : Int) * ((j : Nat) : Int) := by
        rw [rep_length, Nat.mul_comm]
        exact Int.natCast_mul _ _
      rw [e] at k
      exact k
    | part i a b =>
      obtain ⟨u, _, hu, hab, hb, rfl⟩ := hR
      refine ⟨_, rfl, p, _, _, _, rfl, rfl, SqT.of hp, at_of (j := 0) rfl rfl, _, rfl, rfl, _, rfl, ifF (by decide +kernel) ?_⟩
      refine ⟨_, rfl, rfl, _, rfl, ifF (by decide +kernel) ?_⟩
      refine ⟨_, rfl, rfl, _, rfl, ifF (by decide +kernel) ?_⟩
      refine ⟨_, rfl, rfl, _, rfl, ifT (by decide +kernel) ?_⟩
      refine ⟨_, rfl, p, _, _, _, rfl, rfl, SqT.of hp, at_of (j := 3) rfl rfl, _, rfl, p, _, _, _, rfl, rfl, SqT.of hp, at_of (j := 2) rfl rfl, _, _, rfl, rfl, ?_⟩
      have e : (((slice u a b).length : Nat) : Int) = ((b : Nat) : Int) - ((a : Nat) : Int) := by
        rw [slice_length hb]
        omega
      rw [e] at k
      exact k
    | back i =>
      obtain ⟨u, _, hu, rfl⟩ := hR
      refine ⟨_, rfl, p, _, _, _, rfl, rfl, SqT.of hp, at_of (j := 0) rfl rfl, _, rfl, rfl, _, rfl, ifF (by decide +kernel) ?_⟩
      refine ⟨_, rfl, rfl, _, rfl, ifF (by decide +kernel) ?_⟩
      refine ⟨_, rfl, rfl, _, rfl, ifF (by decide +kernel) ?_⟩
      refine ⟨_, rfl, rfl, _, rfl, ifF (by decide +kernel) ?_⟩
      refine ⟨_, rfl, _, rfl, p, _, _, _, rfl, rfl, SqT.of hp, at_of (j := 1) rfl rfl, l, _, _, _, rfl, rfl, SqL.of hl, at_of (j := i) rfl (lensV_get hu), ?_⟩
      rw [List.length_reverse] at k
      exact k

theorem scEA : FnScope ["rule"] ["rule"] (defScope sEA) := ⟨rfl, rfl, rfl, by decide +kernel, rfl, by decide +kernel, by decide +kernel⟩
theorem ok_EA {f : Addr} {fd : FuncData} (F : Fun K "earlier" "earlier" sEA f fd) : FnOk P w K mg base CX0 1 f fd ["rule"] spEA := by
  refine F.ok scEA (fun vs H Q E h => ?_) (fun cdv A outer s H vs Q E hr h => ?_)
  · obtain ⟨p, r, rfl, _⟩ := h
    rfl
  · obtain ⟨p, r, rfl, hp, k⟩ := h
    refine ⟨_, pss_cons (ps_if (pt_cmpR op_eq (pe_ix ix_tup (pv 0) pe_int (fun _ _ => rfl)) pe_str (nomark _)) (pss_one (ps_ret (pe_tup pa_nil))) pss_nil)
      (pss_one (ps_ret (pe_ifExp (pt_cmpR op_eq (pe_ix ix_tup (pv 0) pe_int (fun _ _ => rfl)) pe_str (nomark _)) (pe_slice sl_tup (pv 0) (po_some pe_int) (po_some pe_int)) (pe_slice sl_tup (pv 0) (po_some pe_int) (po_some pe_int))))), ?_⟩
    have h0 : (ruleVs r)[0]? = some (.str (wordOf r)) := by cases r <;> rfl
    cases r with
    | lit z =>
      refine ⟨_, rfl, p, _, _, _, rfl, rfl, SqT.of hp, at_of (j := 0) rfl rfl, rfl, _, rfl, ifT (by decide +kernel) ?_⟩
      exact ⟨Nat.zero_le _, fun q hq => k _ q (Same.new hq) upd_same⟩
    | join i j =>
      refine ⟨_, rfl, p, _, _, _, rfl, rfl, SqT.of hp, at_of (j := 0) rfl rfl, rfl, _, rfl, ifF (by decide +kernel) ?_⟩
      refine ⟨_, rfl, p, _, _, _, rfl, rfl, SqT.of hp, at_of (j := 0) rfl rfl, rfl, _, rfl, ifT (by decide +kernel) ?_⟩
      exact ⟨_, rfl, _, rfl, _, rfl, p, _, rfl, SqT.of hp, (by show ¬ (HT.sIx 3 0 (some 1) = 0 ∧ HT.sIx 3 3 (some 3) = 3); decide), fun q hq => k _ q (Same.new hq) upd_same⟩
    | pow i j =>
      refine ⟨_, rfl, p, _, _, _, rfl, rfl, SqT.of hp, at_of (j := 0) rfl rfl, rfl, _, rfl, ifF (by decide +kernel) ?_⟩
      refine ⟨_, rfl, p, _, _, _, rfl, rfl, SqT.of hp, at_of (j := 0) rfl rfl, rfl, _, rfl, ifF (by decide +kernel) ?_⟩
      exact ⟨_, rfl, _, rfl, _, rfl, p, _, rfl, SqT.of hp, (by show ¬ (HT.sIx 3 0 (some 1) = 0 ∧ HT.sIx 3 3 (some 2) = 3); decide), fun q hq => k _ q (Same.new hq) upd_same⟩
    | part i a b =>
      refine ⟨_, rfl, p, _, _, _, rfl, rfl, SqT.of hp, at_of (j := 0) rfl rfl, rfl, _, rfl, ifF (by decide +kernel) ?_⟩
      refine ⟨_, rfl, p, _, _, _, rfl, rfl, SqT.of hp, at_of (j := 0) rfl rfl, rfl, _, rfl, ifF (by decide +kernel) ?_⟩
      exact ⟨_, rfl, _, rfl, _, rfl, p, _, rfl, SqT.of hp, (by show ¬ (HT.sIx 4 0 (some 1) = 0 ∧ HT.sIx 4 4 (some 2) = 4); decide), fun q hq => k _ q (Same.new hq) upd_same⟩
    | back i =>
      refine ⟨_, rfl, p, _, _, _, rfl, rfl, SqT.of hp, at_of (j := 0) rfl rfl, rfl, _, rfl, ifF (by decide +kernel) ?_⟩
      refine ⟨_, rfl, p, _, _, _, rfl, rfl, SqT.of hp, at_of (j := 0) rfl rfl, rfl, _, rfl, ifF (by decide +kernel) ?_⟩
      exact ⟨_, rfl, _, rfl, _, rfl, p, _, rfl, SqT.of hp, (by show ¬ (HT.sIx 2 0 (some 1) = 0 ∧ HT.sIx 2 2 (some 2) = 2); decide), fun q hq => k _ q (Same.new hq) upd_same⟩

/-! ### fault: no rule here is wrong -/
def sizeOf' : R → Int
  | .lit _ => 2
  | .join _ _ => 3
  | .pow _ _ => 3
  | .part _ _ _ => 4
  | .back _ => 2
theorem ruleVs_len (r : R) : (((ruleVs r).length : Nat) : Int) = sizeOf' r := by cases r <;> rfl
theorem ruleVs_0 (r : R) : (ruleVs r)[0]? = some (.str (wordOf r)) := by cases r <;> rfl
theorem ruleVs_ne (r : R) : (ruleVs r).isEmpty = false := by cases r <;> rfl
abbrev nmFA : List Str := ["rule", "lengths", "word", "is_allowed", "letter", "number"]
theorem scFA : FnScope nmFA ["rule", "lengths"] (defScope sFA) := ⟨rfl, rfl, rfl, by decide +kernel, rfl, by decide +kernel, by decide +kernel⟩
theorem all_true (n : Nat) : (List.replicate n true).all id = true := by
  induction n with
  | zero => rfl
  | succ n ih => rw [List.replicate_succ, List.all_cons, ih]; rfl
theorem rep_snoc (n : Nat) : List.replicate n (V.bl true) ++ [V.bl true] = List.replicate (n + 1) (V.bl true) := by
  rw [List.replicate_succ', ]
theorem word_ne : ∀ r : R, NotLit r → decide (V.str (wordOf r) = V.str "letters") = false
  | .lit _, h => h.elim
  | .join _ _, _ => by show decide (V.str "join" = V.str "letters") = false; decide +kernel
  | .pow _ _, _ => by show decide (V.str "power" = V.str "letters") = false; decide +kernel
  | .part _ _ _, _ => by show decide (V.str "part" = V.str "letters") = false; decide +kernel
  | .back _, _ => by show decide (V.str "back" = V.str "letters") = false; decide +kernel
theorem earlier_lt {L : List Nat} {ts : List (List Nat)} {r : R} {t : List Nat} (h : RuleAt L ts ts.length r t) {i : Nat} {x : V} (hx : (earlierVs r)[i]? = some x) : ∃ j : Nat, x = .int (j : Nat) ∧ j < ts.length := by
  have hm := List.mem_of_getElem? hx
  cases r with
  | lit z => simp [earlierVs] at hm
  | join j k =>
    obtain ⟨u, v, h1, h2, _⟩ := h
    rcases List.mem_cons.mp hm with e | e
    · exact ⟨j, e, h1⟩
    · exact ⟨k, List.mem_singleton.mp e, h2⟩
  | pow j k =>
    obtain ⟨u, h1, _⟩ := h
    exact ⟨j, List.mem_singleton.mp hm, h1⟩
  | part j a b =>
    obtain ⟨u, h1, _⟩ := h
    exact ⟨j, List.mem_singleton.mp hm, h1⟩
  | back j =>
    obtain ⟨u, h1, _⟩ := h
    exact ⟨j, List.mem_singleton.mp hm, h1⟩
theorem ok_FA {f : Addr} {fd : FuncData} (F : Fun K "fault" "fault" sFA f fd) (T : Txt K w mg C) (DE : Cal P w K mg base "earlier" 1 ["rule"] spEA) (DR : Cal P w K mg base "rule_length" 1 ["rule", "lengths"] spRL) :
    FnOk P w K mg base CX0 2 f fd ["rule", "lengths"] spFA := by
  obtain ⟨fE, fdE, GE, mE, kE, bE⟩ := DE
  obtain ⟨fR, fdR, GR, mR, kR, bR⟩ := DR
  obtain ⟨tL, mL⟩ := T.LETTERS
  obtain ⟨tW, mW⟩ := T.MOST_WRITTEN
  obtain ⟨tM, mM⟩ := T.MOST_LETTERS
  obtain ⟨dS, mS, oS, z1, z2, z3, z4, z5⟩ := T.SIZES
  refine F.ok scFA (fun vs H Q E h => ?_) (fun cdv A outer s H vs Q E hr h => ?_)
  · obtain ⟨p, l, r, ts, t, rfl, _⟩ := h
    rfl
  · obtain ⟨p, l, r, ts, t, rfl, hp, hl, hR, ht, hn, k⟩ := h
    refine ⟨_, pss_cons (ps_set (i := 2) scFA.nd rfl (Or.inl rfl) (pe_ifExp (pt_truth (pv 0) (by intro _; rfl)) (pe_ix ix_tup (pv 0) pe_int (fun _ _ => rfl)) pe_str))
      (pss_cons (ps_if (pt_cmpR op_notInK (pv 2) (pe_glR mS) (by rfl)) pss_never pss_nil)
      (pss_cons (ps_if (pt_cmpR op_ne (pe_callB call_len_seq (by rfl) T.b_len PySem.boot_len (pa_cons (pv 0) pa_nil)) (pe_ix ix_kdict (pe_glR mS) (pv 2) (fun _ _ => rfl)) (nomark _)) pss_never pss_nil)
      (pss_cons (ps_if (pt_cmpR op_eq (pv 2) pe_str (nomark _))
        (pss_cons (ps_set (i := 3) scFA.nd rfl (Or.inl rfl) (pe_and (pe_cmpR op_le (pe_callB call_len_str (by rfl) T.b_len PySem.boot_len (pa_cons (pe_ix ix_tup (pv 0) pe_int (fun _ _ => rfl)) pa_nil)) (pe_glI mW) (nomark _))
            (pe_one (pe_callB (cr_all rfl) (by rfl) T.b_all (by decide +kernel) (pa_cons (pe_lc (own := [("letter", 4)]) (g := gName 4) (tt := tYes) rfl scFA.nd (pi_str (pe_ix ix_tup (pv 0) pe_int (fun _ _ => rfl))) (blkOk_by (N := nmFA) (sc := defScope sFA) (by decide +kernel))
              (fun _ _ _ _ _ => pg_name (i := 4) scFA.nd rfl (Or.inl rfl)) (fun _ _ _ _ _ => pts_nil) (fun _ _ _ _ _ => pe_cmpR op_in_sign (pv 4) (pe_glS mL) (by rfl))) pa_nil)))))
          (pss_one (ps_ret (pe_ifExp (pt_val (pv 3)) pe_non pe_str)))) pss_nil)
      (pss_cons (ps_if (pt_not (pt_val (pe_callB (cr_all rfl) (by rfl) T.b_all (by decide +kernel) (pa_cons (pe_lc (own := [("number", 5)]) (g := gName 5) (tt := tYes) rfl scFA.nd (pi_tup (pe_call GE hr rfl mE kE bE .nil pass0 (pa_cons (pv 0) pa_nil))) (blkOk_by (N := nmFA) (sc := defScope sFA) (by decide +kernel))
              (fun _ _ _ _ _ => pg_name (i := 5) scFA.nd rfl (Or.inl rfl)) (fun _ _ _ _ _ => pts_nil) (fun _ _ _ _ _ => pe_chain op_le op_lt pe_int (pv 5) (pe_callB (call_lenK K rfl) (by rfl) T.b_len PySem.boot_len (pa_cons (pv 1) pa_nil)))) pa_nil)))) pss_never pss_nil)
      (pss_cons (ps_if (PW.pt (pw_and (pt_cmpR op_eq (pv 2) pe_str (nomark _)) (pw_and1 (pt_not (pt_chain op_le op_le pe_int (pe_ix ix_tup (pv 0) pe_int (fun _ _ => rfl)) (pe_glI mM)))))) pss_never pss_nil)
      (pss_cons (ps_if (PW.pt (pw_and (pt_cmpR op_eq (pv 2) pe_str (nomark _)) (pw_and1 (pt_not (pt_chain3 op_le op_le op_le pe_int (pe_ix ix_tup (pv 0) pe_int (fun _ _ => rfl)) (pe_ix ix_tup (pv 0) pe_int (fun _ _ => rfl)) (pe_ix ix_list (pv 1) (pe_ix ix_tup (pv 0) pe_int (fun _ _ => rfl)) (fun _ _ => rfl))))))) pss_never pss_nil)
      (pss_one (ps_ret (pe_ifExp (pt_cmpR op_gt (pe_call GR hr rfl mR kR bR .nil pass0 (pa_cons (pv 0) (pa_cons (pv 1) pa_nil))) (pe_glI mM) (nomark _)) pe_str pe_non))))))))), ?_⟩
    have hk : KDct K w dS (wordOf r) (.int (sizeOf' r)) := by
      cases r
      · exact z1
      · exact z2
      · exact z3
      · exact z4
      · exact z5
    -- word = rule[0] if rule else ''; if word not in SIZES; if len(rule) != SIZES[word]
    refine ⟨_, rfl, true, .inr (.inl ⟨_, SqT.of hp, by rw [ruleVs_ne]; rfl⟩), iteT ⟨_, rfl, p, _, _, _, rfl, rfl, SqT.of hp, at_of (j := 0) rfl (ruleVs_0 r), ?_⟩⟩
    refine ⟨_, rfl, dS, wordOf r, .int (sizeOf' r), rfl, rfl, hk, oS, _, rfl, ifF rfl ?_⟩
    refine ⟨_, rfl, p, _, rfl, .inr (SqT.of hp), _, rfl, dS, wordOf r, .int (sizeOf' r), rfl, rfl, hk, rfl, _, rfl, iteNS (by rw [ruleVs_len]) ?_⟩
    by_cases hlit : NotLit r
    · refine ⟨_, rfl, rfl, _, rfl, ifF (word_ne r hlit) ?_⟩
      -- if not all([0 <= number < len(lengths) for number in earlier(rule)])
      refine ⟨_, rfl, p, r, rfl, hp, fun H1 q s1 hq => ⟨q, rfl, ⟨_, SqT.of hq⟩, fun D hD => lc_tup (K := K) (a := q) (xs := earlierVs r) (fun i H' => H' = upd H1 D (.lst (List.replicate i (V.bl true)))) rfl (fun i H' _ e => ?_) ?_ ?_⟩⟩
      · rw [e]
        exact SqT.of (by rw [upd_ne (ne_of_none hq hD)]; exact hq)
      · rintro i x H' hx rfl
        obtain ⟨j, rfl, hj⟩ := earlier_lt hR hx
        refine ⟨rfl, yes (iteT ?_)⟩
        refine ⟨_, rfl, _, _, rfl, rfl, _, rfl, ifT (decide_eq_true (by omega)) ?_⟩
        refine ⟨_, rfl, l, lensV ts, rfl, .inl (SqL.of (by rw [upd_ne (ne_of_none (s1 _ _ hl) hD)]; exact s1 _ _ hl)), _, _, rfl, rfl, List.replicate i (V.bl true), upd_same, ?_, ?_⟩
        · have hi := (List.getElem?_eq_some_iff.mp hx).1
          rw [List.length_replicate, sizeLine_eq]
          have : (earlierVs r).length ≤ 2 := by cases r <;> simp [earlierVs]
          omega
        · have ev : decide (((j : Nat) : Int) < (((lensV ts).length : Nat) : Int)) = true := decide_eq_true (by rw [lensV_length]; omega)
          show upd (upd H1 D (.lst (List.replicate i (V.bl true)))) D (.lst (List.replicate i (V.bl true) ++ [V.bl (decide (((j : Nat) : Int) < (((lensV ts).length : Nat) : Int)))])) = _
          rw [ev, rep_snoc, upd_upd]
      · rintro H' rfl
        refine ⟨D, List.replicate (earlierVs r).length true, rfl, SqL.of (by rw [List.map_replicate]; exact upd_same), _, rfl, ifF (by rw [all_true]; rfl) ?_⟩
        have s2 : Same H (upd H1 D (.lst (List.replicate (earlierVs r).length (V.bl true)))) := s1.trans (Same.new hD)
        generalize upd H1 D (.lst (List.replicate (earlierVs r).length (V.bl true))) = H2 at s2 ⊢
        have hp2 := s2 _ _ hp
        have hl2 := s2 _ _ hl
        have hl2' : H2 l = some (.lst (lensV ts)) := hl2
        -- the end: return 'large' if rule_length(rule, lengths) > MOST_LETTERS else None
        cases r with
        | lit z => exact hlit.elim
        | join a b =>
          refine ⟨_, rfl, rfl, _, rfl, ifF (by show decide (V.str "join" = V.str "power") = false; decide +kernel) (ifF rfl ?_)⟩
          refine ⟨_, rfl, rfl, _, rfl, ifF (by show decide (V.str "join" = V.str "part") = false; decide +kernel) (ifF rfl ?_)⟩
          exact ⟨_, rfl, _, rfl, p, l, _, ts, t, rfl, hp2, hl2, hR, _, _, rfl, rfl, _, rfl, ifF (decide_eq_false (by omega)) (k _ s2)⟩
        | pow a b =>
          have hb : b ≤ 1000000000000 := by
            obtain ⟨u, _, _, h3, _⟩ := hR
            exact h3
          refine ⟨_, rfl, rfl, _, rfl, ifT (by show decide (V.str "power" = V.str "power") = true; decide +kernel) ?_⟩
          refine ⟨_, rfl, p, _, _, _, rfl, rfl, SqT.of hp2, at_of (j := 2) rfl rfl, _, _, rfl, rfl, _, rfl, ifT (decide_eq_true (by omega)) ?_⟩
          refine ⟨_, _, rfl, rfl, _, rfl, ifF (by rw [decide_eq_true (by omega)]; rfl) ?_⟩
          refine ⟨_, rfl, rfl, _, rfl, ifF (by show decide (V.str "power" = V.str "part") = false; decide +kernel) (ifF rfl ?_)⟩
          exact ⟨_, rfl, _, rfl, p, l, _, ts, t, rfl, hp2, hl2, hR, _, _, rfl, rfl, _, rfl, ifF (decide_eq_false (by omega)) (k _ s2)⟩
        | part i a b =>
          obtain ⟨u, hi, hu, hab, hb, et⟩ := id hR
          refine ⟨_, rfl, rfl, _, rfl, ifF (by show decide (V.str "part" = V.str "power") = false; decide +kernel) (ifF rfl ?_)⟩
          refine ⟨_, rfl, rfl, _, rfl, ifT (by show decide (V.str "part" = V.str "part") = true; decide +kernel) ?_⟩
          refine ⟨_, rfl, p, _, _, _, rfl, rfl, SqT.of hp2, at_of (j := 2) rfl rfl, _, _, rfl, rfl, _, rfl, ifT (decide_eq_true (by omega)) ?_⟩
          refine ⟨_, rfl, p, _, _, _, rfl, rfl, SqT.of hp2, at_of (j := 3) rfl rfl, _, _, rfl, rfl, _, rfl, ifT (decide_eq_true (by omega)) ?_⟩
          refine ⟨_, rfl, _, rfl, p, _, _, _, rfl, rfl, SqT.of hp2, at_of (j := 1) rfl rfl, l, _, _, _, rfl, rfl, SqL.of hl2, at_of (j := i) rfl (lensV_get hu), _, _, rfl, rfl, _, rfl, ifF (by rw [decide_eq_true (by omega)]; rfl) ?_⟩
          exact ⟨_, rfl, _, rfl, p, l, _, ts, t, rfl, hp2, hl2, hR, _, _, rfl, rfl, _, rfl, ifF (decide_eq_false (by omega)) (k _ s2)⟩
        | back a =>
          refine ⟨_, rfl, rfl, _, rfl, ifF (by show decide (V.str "back" = V.str "power") = false; decide +kernel) (ifF rfl ?_)⟩
          refine ⟨_, rfl, rfl, _, rfl, ifF (by show decide (V.str "back" = V.str "part") = false; decide +kernel) (ifF rfl ?_)⟩
          exact ⟨_, rfl, _, rfl, p, l, _, ts, t, rfl, hp2, hl2, hR, _, _, rfl, rfl, _, rfl, ifF (decide_eq_false (by omega)) (k _ s2)⟩
    · obtain ⟨z, rfl⟩ : ∃ z, r = .lit z := by
        cases r with
        | lit z => exact ⟨z, rfl⟩
        | _ => exact absurd trivial hlit
      obtain ⟨rfl, hz, hc⟩ := hR
      refine ⟨_, rfl, rfl, _, rfl, ifT (by show decide (V.str "letters" = V.str "letters") = true; decide +kernel) ?_⟩
      refine ⟨_, rfl, p, _, _, _, rfl, rfl, SqT.of hp, at_of (j := 1) rfl rfl, _, rfl, by rw [tx_len, sizeLine_eq]; omega, _, _, rfl, rfl, _, rfl, ifT (decide_eq_true (by rw [tx_len]; omega)) ?_⟩
      refine ⟨_, rfl, p, _, _, _, rfl, rfl, SqT.of hp, at_of (j := 1) rfl rfl, _, rfl, fun D hD => lc_it walk_str (fun i H' => H' = upd H D (.lst (List.replicate i (V.bl true)))) rfl (fun _ _ _ _ => trivial) ?_ ?_⟩
      · rintro i x H' H'' hi rfl ⟨rfl, c, hcc, rfl⟩
        refine ⟨rfl, yes (iteT ?_)⟩
        refine ⟨_, rfl, c, lettersS, rfl, rfl, List.replicate i (V.bl true), upd_same, ?_, ?_⟩
        · have hi' : i < t.length := hi
          rw [List.length_replicate, sizeLine_eq]
          omega
        · have hm : c ∈ t := by
            rw [← Array.getElem?_toList] at hcc
            exact List.mem_of_getElem? hcc
          rw [decide_eq_true (show c ∈ lettersS.cps.toList from hc c hm), rep_snoc, upd_upd]
      · rintro H' rfl
        refine ⟨D, List.replicate _ true, rfl, SqL.of (by rw [List.map_replicate]; exact upd_same), _, rfl, _, rfl, ifT (all_true _) ?_⟩
        exact k _ (Same.new hD)

/-! ### lengths_of, check_rules, inner_place -/
theorem take_lens {ts : List (List Nat)} {i : Nat} {t : List Nat} (h : ts[i]? = some t) : lensV (ts.take i) ++ [.int (t.length : Nat)] = lensV (ts.take (i + 1)) := by
  rw [List.take_add_one, h, lensV_app]
  rfl
theorem take_len {ts : List (List Nat)} {i : Nat} {t : List Nat} (h : ts[i]? = some t) : (ts.take i).length = i := by
  have := (List.getElem?_eq_some_iff.mp h).1
  rw [List.length_take]
  omega
theorem RuleAt.taken {L : List Nat} {ts : List (List Nat)} {i : Nat} {r : R} {t : List Nat} (h : RuleAt L ts i r t) (ht : ts[i]? = some t) : RuleAt L (ts.take i) (ts.take i).length r t := by
  rw [take_len ht]
  exact h.take
theorem scLO : FnScope ["rules", "lengths", "rule"] ["rules"] (defScope sLO) := ⟨rfl, rfl, rfl, by decide +kernel, rfl, by decide +kernel, by decide +kernel⟩
theorem ok_LO {f : Addr} {fd : FuncData} (F : Fun K "lengths_of" "lengths_of" sLO f fd) (T : Txt K w mg C) (DR : Cal P w K mg base "rule_length" 1 ["rule", "lengths"] spRL) : FnOk P w K mg base CX0 2 f fd ["rules"] spLO := by
  obtain ⟨fR, fdR, GR, mR, kR, bR⟩ := DR
  refine F.ok scLO (fun vs H Q E h => ?_) (fun cdv A outer s H vs Q E hr h => ?_)
  · obtain ⟨q, ps, rs, ts, rfl, _⟩ := h
    rfl
  · obtain ⟨q, ps, rs, ts, rfl, hq, hA, hW, hn, k⟩ := h
    refine ⟨_, pss_cons (ps_set (i := 1) scLO.nd rfl (Or.inl rfl) (pe_lst pa_nil))
      (pss_cons (ps_for PassesOwn.never rfl (pi_tup (pv 0)) (pg_name (i := 2) scLO.nd rfl (Or.inl rfl)) (pss_one (ps_expr (pe_bm PySem.F.plainAttrs_list PySem.F.slot_list_append PySem.F.type_list_append mt_append (pv 1) (pa_cons (pe_call GR hr rfl mR kR bR .nil pass0 (pa_cons (pv 2) (pa_cons (pv 1) pa_nil))) pa_nil)))))
      (pss_one (ps_ret (pe_callTy call_tuple_of (by rfl) T.b_tuple (by decide +kernel) (pa_cons (pv 1) pa_nil))))), ?_⟩
    refine ⟨Nat.zero_le _, fun D hD => ?_⟩
    refine ⟨_, rfl, q, rfl, ⟨_, SqT.of (Same.new hD _ _ hq)⟩, for_tup (K := K) (a := q) (xs := refsV ps) (fun i σ H' => ∃ v, σ = [some (.ref q), some (.ref D), v] ∧ Same H H' ∧ H' D = some (.lst (lensV (ts.take i))))
      ⟨none, rfl, Same.new hD, upd_same⟩ (fun i σ H' _ ⟨_, _, s1, _⟩ => SqT.of (s1 _ _ hq)) ?_ ?_⟩
    · rintro i x σ H' hx ⟨v, rfl, s1, hL⟩
      obtain ⟨p, r, rfl, h1, h2, h3⟩ := (hA.keep s1).at hx
      obtain ⟨t, ht, hlen, hR⟩ := hW.at_ i r h2
      refine ⟨_, rfl, .inl ⟨rfl, _, SqL.of hL⟩, _, rfl, _, rfl, p, D, r, ts.take i, t, rfl, h3, hL, hR.taken ht, D, _, _, rfl, rfl, hL, ?_, ?_⟩
      · rw [lensV_length, take_len ht, sizeLine_eq]
        have := (List.getElem?_eq_some_iff.mp ht).1
        have := hW.len
        omega
      · exact ⟨_, rfl, Same.new2 s1 hD, by rw [upd_same, take_lens ht]⟩
    · rintro σ H' ⟨v, rfl, s1, hL⟩
      have e : ts.take (refsV ps).length = ts := List.take_of_length_le (by rw [refsV_length, hA.1, hW.len]; exact Nat.le_refl _)
      rw [e] at hL
      exact ⟨_, rfl, D, _, rfl, .inl ⟨SqL.of hL, fun l hl => k _ l (s1.trans (Same.new hl)) upd_same⟩⟩

abbrev nmCR : List Str := ["rules", "lengths", "number", "rule", "reason"]
theorem scCR : FnScope nmCR ["rules"] (defScope sCR) := ⟨rfl, rfl, rfl, by decide +kernel, rfl, by decide +kernel, by decide +kernel⟩
theorem ok_CR {f : Addr} {fd : FuncData} (F : Fun K "check_rules" "check_rules" sCR f fd) (T : Txt K w mg C) (DF : Cal P w K mg base "fault" 2 ["rule", "lengths"] spFA) (DR : Cal P w K mg base "rule_length" 1 ["rule", "lengths"] spRL) :
    FnOk P w K mg base CX0 3 f fd ["rules"] spCR := by
  obtain ⟨fR, fdR, GR, mR, kR, bR⟩ := DR
  obtain ⟨fF, fdF, GF, mF, kF, bF⟩ := DF
  obtain ⟨tM, mM⟩ := T.MOST_RULES
  refine F.ok scCR (fun vs H Q E h => ?_) (fun cdv A outer s H vs Q E hr h => ?_)
  · obtain ⟨q, ps, rs, ts, rfl, _⟩ := h
    rfl
  · obtain ⟨q, ps, rs, ts, rfl, hq, hA, hW, h1, h60, k⟩ := h
    have hr1 : Room 1 _ := hr.mono (by decide)
    refine ⟨_, pss_cons (ps_if (pt_not (pt_chain op_le op_le pe_int (pe_callB call_len_seq (by rfl) T.b_len PySem.boot_len (pa_cons (pv 0) pa_nil)) (pe_glI mM))) pss_never pss_nil)
      (pss_cons (ps_set (i := 1) scCR.nd rfl (Or.inl rfl) (pe_lst pa_nil))
      (pss_one (ps_for PassesOwn.never rfl (pi_enum (by rfl) T.b_enumerate (pa_cons (pv 0) pa_nil)) (pg_tup rfl (pgs_cons (pg_name (i := 2) scCR.nd rfl (Or.inl rfl)) (pgs_cons (pg_name (i := 3) scCR.nd rfl (Or.inl rfl)) pgs_nil)))
        (pss_cons (ps_set (i := 4) scCR.nd rfl (Or.inl rfl) (pe_call GF hr rfl mF kF bF .nil pass0 (pa_cons (pv 3) (pa_cons (pv 1) pa_nil))))
        (pss_cons (ps_if (pt_cmpR op_notN (pv 4) pe_non (nomark _)) pss_never pss_nil)
        (pss_one (ps_expr (pe_bm PySem.F.plainAttrs_list PySem.F.slot_list_append PySem.F.type_list_append mt_append (pv 1) (pa_cons (pe_call GR hr1 rfl mR kR bR .nil pass0 (pa_cons (pv 3) (pa_cons (pv 1) pa_nil))) pa_nil))))))))), ?_⟩
    have hlen : (refsV ps).length = rs.length := by rw [refsV_length, hA.1]
    refine ⟨_, rfl, q, _, rfl, .inl (SqL.of hq), _, _, rfl, rfl, _, rfl, ifT (decide_eq_true (by omega)) ?_⟩
    refine ⟨_, _, rfl, rfl, _, rfl, ifF (by rw [decide_eq_true (by omega)]; rfl) ?_⟩
    refine ⟨Nat.zero_le _, fun D hD => ?_⟩
    refine ⟨_, rfl, q, _, rfl, SqL.of (Same.new hD _ _ hq), for_it walk_enum (fun i σ H' => ∃ v2 v3 v4, σ = [some (.ref q), some (.ref D), v2, v3, v4] ∧ Same H H' ∧ H' D = some (.lst (lensV (ts.take i))))
      ⟨none, none, none, rfl, Same.new hD, upd_same⟩ (fun i σ H' _ ⟨_, _, _, _, s1, _⟩ => SqL.of (s1 _ _ hq)) ?_ ?_⟩
    · rintro i x σ H' H'' hi ⟨v2, v3, v4, rfl, s1, hL⟩ ⟨T', a, b, rfl, nT, rfl, e1, e2⟩
      have s2 : Same H (upd H' T' (.tup [a, b])) := s1.trans (Same.new nT)
      have hL2 : (upd H' T' (.tup [a, b])) D = some (.lst (lensV (ts.take i))) := Same.new nT _ _ hL
      have hT2 : (upd H' T' (.tup [a, b])) T' = some (.tup [a, b]) := upd_same
      generalize upd H' T' (.tup [a, b]) = H2 at s2 hL2 hT2 ⊢
      obtain ⟨p, r, rfl, g1, g2, g3⟩ := (hA.keep s2).at e2
      obtain ⟨t, ht, htl, hR⟩ := hW.at_ i r g2
      have hti := (List.getElem?_eq_some_iff.mp ht).1
      have hwl := hW.len
      refine ⟨T', _, rfl, SqT.of hT2, rfl, _, _, rfl, _, _, rfl, rfl, ?_⟩
      refine ⟨_, rfl, _, rfl, p, D, r, ts.take i, t, rfl, g3, hL2, hR.taken ht, htl, by rw [take_len ht]; omega, fun H3 s3 => ?_⟩
      refine ⟨_, rfl, rfl, _, rfl, ifF (by decide) ?_⟩
      refine ⟨_, rfl, .inl ⟨rfl, _, SqL.of (s3 _ _ hL2)⟩, _, rfl, _, rfl, p, D, r, ts.take i, t, rfl, s3 _ _ g3, s3 _ _ hL2, hR.taken ht, D, _, _, rfl, rfl, s3 _ _ hL2, ?_, ?_⟩
      · rw [lensV_length, take_len ht, sizeLine_eq]
        omega
      · exact ⟨_, _, _, rfl, Same.new2 (s2.trans s3) hD, by rw [upd_same, take_lens ht]⟩
    · rintro σ H' ⟨v2, v3, v4, rfl, s1, hL⟩
      exact k _ s1

abbrev nmIP : List Str := ["rule", "lengths", "place", "word", "first", "many"]
theorem scIP : FnScope nmIP ["rule", "lengths", "place"] (defScope sIP) := ⟨rfl, rfl, rfl, by decide +kernel, rfl, by decide +kernel, by decide +kernel⟩
theorem ok_IP {f : Addr} {fd : FuncData} (F : Fun K "inner_place" "inner_place" sIP f fd) : FnOk P w K mg base CX0 1 f fd ["rule", "lengths", "place"] spIP := by
  refine F.ok scIP (fun vs H Q E h => ?_) (fun cdv A outer s H vs Q E hr h => ?_)
  · obtain ⟨p, l, r, i, ts, t, pl, c, rfl, _⟩ := h
    rfl
  · obtain ⟨p, l, r, i, ts, t, pl, c, rfl, hp, hl, hR, hN, hc, ht, k⟩ := h
    have hpl := (List.getElem?_eq_some_iff.mp hc).1
    refine ⟨_, pss_cons (ps_set (i := 3) scIP.nd rfl (Or.inl rfl) (pe_ix ix_tup (pv 0) pe_int (fun _ _ => rfl)))
      (pss_cons (ps_if (pt_cmpR op_eq (pv 3) pe_str (nomark _))
        (pss_cons (ps_set (i := 4) scIP.nd rfl (Or.inl rfl) (pe_ix ix_tup (pv 1) (pe_ix ix_tup (pv 0) pe_int (fun _ _ => rfl)) (fun _ _ => rfl)))
        (pss_one (ps_ret (pe_ifExp (pt_cmpR op_lt (pv 2) (pv 4) (nomark _)) (pe_tup (pa_cons (pe_ix ix_tup (pv 0) pe_int (fun _ _ => rfl)) (pa_cons (pv 2) pa_nil))) (pe_tup (pa_cons (pe_ix ix_tup (pv 0) pe_int (fun _ _ => rfl)) (pa_cons (pe_op op_sub (pv 2) (pv 4)) pa_nil))))))) pss_nil)
      (pss_cons (ps_if (pt_cmpR op_eq (pv 3) pe_str (nomark _))
        (pss_cons (ps_set (i := 5) scIP.nd rfl (Or.inl rfl) (pe_ix ix_tup (pv 1) (pe_ix ix_tup (pv 0) pe_int (fun _ _ => rfl)) (fun _ _ => rfl)))
        (pss_one (ps_ret (pe_tup (pa_cons (pe_ix ix_tup (pv 0) pe_int (fun _ _ => rfl)) (pa_cons (pe_op op_sub (pv 2) (pe_op op_mul (pv 5) (pe_op op_fdivW (pv 2) (pv 5)))) pa_nil)))))) pss_nil)
      (pss_cons (ps_if (pt_cmpR op_eq (pv 3) pe_str (nomark _))
        (pss_one (ps_ret (pe_tup (pa_cons (pe_ix ix_tup (pv 0) pe_int (fun _ _ => rfl)) (pa_cons (pe_op op_add (pv 2) (pe_ix ix_tup (pv 0) pe_int (fun _ _ => rfl))) pa_nil))))) pss_nil)
      (pss_one (ps_ret (pe_tup (pa_cons (pe_ix ix_tup (pv 0) pe_int (fun _ _ => rfl)) (pa_cons (pe_op op_sub (pe_op op_sub (pe_ix ix_tup (pv 1) (pe_ix ix_tup (pv 0) pe_int (fun _ _ => rfl)) (fun _ _ => rfl)) pe_int) (pv 2)) pa_nil)))))))), ?_⟩
    cases r with
    | lit z => exact hN.elim
    | join a b =>
      obtain ⟨u, v, ha, hb, hu, hv, rfl⟩ := hR
      refine ⟨_, rfl, p, _, _, _, rfl, rfl, SqT.of hp, at_of (j := 0) rfl rfl, _, rfl, rfl, _, rfl, ifT (by decide +kernel) ?_⟩
      refine ⟨_, rfl, _, rfl, p, _, _, _, rfl, rfl, SqT.of hp, at_of (j := 1) rfl rfl, l, _, _, _, rfl, rfl, SqT.of hl, at_of (j := a) rfl (lensV_get hu), _, rfl, _, rfl, _, _, rfl, rfl, _, rfl, ?_⟩
      rw [place_join] at hc
      by_cases hlt : pl < u.length
      · rw [if_pos hlt] at hc
        refine ifT (decide_eq_true (by omega)) ?_
        exact ⟨_, rfl, p, _, _, _, rfl, rfl, SqT.of hp, at_of (j := 1) rfl rfl, _, rfl, (by show 2 ≤ sizeLine; decide), fun q hq => k _ q a pl u (Same.new hq) upd_same ha hu hc⟩
      · rw [if_neg hlt] at hc
        refine ifF (decide_eq_false (by omega)) ?_
        refine ⟨_, rfl, p, _, _, _, rfl, rfl, SqT.of hp, at_of (j := 2) rfl rfl, _, rfl, _, rfl, _, _, rfl, rfl, (by show 2 ≤ sizeLine; decide), fun q hq => k _ q b (pl - u.length) v (Same.new hq) ?_ hb hv hc⟩
        rw [upd_same]
        have e : ((pl : Nat) : Int) - ((u.length : Nat) : Int) = ((pl - u.length : Nat) : Int) := by omega
        rw [← e]
    | pow a b =>
      obtain ⟨u, ha, hu, hb, rfl⟩ := hR
      rw [rep_length] at hpl ht
      have hum : 0 < u.length := by
        rcases Nat.eq_zero_or_pos u.length with h | h
        · rw [h, Nat.mul_zero] at hpl
          omega
        · exact h
      have hb0 : 0 < b := by
        rcases Nat.eq_zero_or_pos b with h | h
        · rw [h, Nat.zero_mul] at hpl
          omega
        · exact h
      have hul : u.length ≤ 1000000000000 := Nat.le_trans (Nat.le_mul_of_pos_left _ hb0) ht
      obtain ⟨g1, g2⟩ := rep_get u hpl
      rw [g1] at hc
      refine ⟨_, rfl, p, _, _, _, rfl, rfl, SqT.of hp, at_of (j := 0) rfl rfl, _, rfl, rfl, _, rfl, ifF (by decide +kernel) ?_⟩
      refine ⟨_, rfl, rfl, _, rfl, ifT (by decide +kernel) ?_⟩
      refine ⟨_, rfl, _, rfl, p, _, _, _, rfl, rfl, SqT.of hp, at_of (j := 1) rfl rfl, l, _, _, _, rfl, rfl, SqT.of hl, at_of (j := a) rfl (lensV_get hu), ?_⟩
      refine ⟨_, rfl, p, _, _, _, rfl, rfl, SqT.of hp, at_of (j := 1) rfl rfl, _, rfl, _, rfl, _, rfl, _, rfl, _, _, rfl, rfl, wide_div (b := 64) (by omega) (by omega) (by decide) (by decide), _, _, rfl, rfl, .inl ⟨by omega, by omega⟩, _, _, rfl, rfl, (by show 2 ≤ sizeLine; decide), fun q hq => k _ q a (pl % u.length) u (Same.new hq) ?_ ha hu hc⟩
      rw [upd_same]
      have e : ((pl : Nat) : Int) - ((u.length : Nat) : Int) * (((pl : Nat) : Int) / ((u.length : Nat) : Int)) = ((pl % u.length : Nat) : Int) := by
        have h1 := Int.emod_def ((pl : Nat) : Int) ((u.length : Nat) : Int)
        rw [← h1]
        exact (Int.natCast_emod pl u.length).symm
      rw [← e]
    | part a b d =>
      obtain ⟨u, ha, hu, hbd, hd, rfl⟩ := hR
      rw [slice_length hd] at hpl
      rw [slice_get hpl] at hc
      refine ⟨_, rfl, p, _, _, _, rfl, rfl, SqT.of hp, at_of (j := 0) rfl rfl, _, rfl, rfl, _, rfl, ifF (by decide +kernel) ?_⟩
      refine ⟨_, rfl, rfl, _, rfl, ifF (by decide +kernel) ?_⟩
      refine ⟨_, rfl, rfl, _, rfl, ifT (by decide +kernel) ?_⟩
      exact ⟨_, rfl, p, _, _, _, rfl, rfl, SqT.of hp, at_of (j := 1) rfl rfl, _, rfl, _, rfl, p, _, _, _, rfl, rfl, SqT.of hp, at_of (j := 2) rfl rfl, _, _, rfl, rfl, (by show 2 ≤ sizeLine; decide), fun q hq => k _ q a (pl + b) u (Same.new hq) upd_same ha hu hc⟩
    | back a =>
      obtain ⟨u, ha, hu, rfl⟩ := hR
      rw [List.length_reverse] at hpl
      rw [place_back hpl] at hc
      refine ⟨_, rfl, p, _, _, _, rfl, rfl, SqT.of hp, at_of (j := 0) rfl rfl, _, rfl, rfl, _, rfl, ifF (by decide +kernel) ?_⟩
      refine ⟨_, rfl, rfl, _, rfl, ifF (by decide +kernel) ?_⟩
      refine ⟨_, rfl, rfl, _, rfl, ifF (by decide +kernel) ?_⟩
      refine ⟨_, rfl, p, _, _, _, rfl, rfl, SqT.of hp, at_of (j := 1) rfl rfl, _, rfl, _, rfl, p, _, _, _, rfl, rfl, SqT.of hp, at_of (j := 1) rfl rfl, l, _, _, _, rfl, rfl, SqT.of hl, at_of (j := a) rfl (lensV_get hu), _, _, rfl, rfl, _, rfl, _, _, rfl, rfl, (by show 2 ≤ sizeLine; decide), fun q hq => k _ q a (u.length - 1 - pl) u (Same.new hq) ?_ ha hu hc⟩
      rw [upd_same]
      have e : ((u.length : Nat) : Int) - 1 - ((pl : Nat) : Int) = ((u.length - 1 - pl : Nat) : Int) := by omega
      rw [← e]

/-! ### Text.__init__, letter, check_part -/
abbrev nmIn : List Str := ["self", "rules", "rule"]
theorem scIn : FnScope nmIn ["self", "rules"] (defScope smI) := ⟨rfl, rfl, rfl, by decide +kernel, rfl, by decide +kernel, by decide +kernel⟩
theorem ok_Init {f : Addr} {fd : FuncData} (F : Fun K "__init__" "Text.__init__" smI f fd) (T : Txt K w mg C) (DC : Cal P w K mg base "check_rules" 3 ["rules"] spCR) (DL : Cal P w K mg base "lengths_of" 2 ["rules"] spLO) :
    FnOk P w K mg base CX0 4 f fd ["self", "rules"] (spInit C) := by
  obtain ⟨fC, fdC, GC, mC, kC, bC⟩ := DC
  obtain ⟨fL, fdL, GL, mL, kL, bL⟩ := DL
  refine F.ok scIn (fun vs H Q E h => ?_) (fun cdv A outer s H vs Q E hr h => ?_)
  · obtain ⟨p, dx, q, ps, rs, ts, t, rfl, _⟩ := h
    rfl
  · obtain ⟨p, dx, q, ps, rs, ts, t, rfl, hp, hq, hA, hW, h1, h60, ht, k⟩ := h
    have hr2 : Room 2 _ := hr.mono (by decide)
    refine ⟨_, pss_cons (ps_expr (pe_call GC hr rfl mC kC bC .nil pass0 (pa_cons (pv 1) pa_nil)))
      (pss_cons (ps_fld (pv 0) (pe_callTy call_tuple_of (by rfl) T.b_tuple (by decide +kernel) (pa_cons (pe_lc (own := [("rule", 2)]) (g := gName 2) (tt := tYes) rfl scIn.nd (pi_list (pv 1)) (blkOk_by (N := nmIn) (sc := defScope smI) (by decide +kernel))
          (fun _ _ _ _ _ => pg_name (i := 2) scIn.nd rfl (Or.inl rfl)) (fun _ _ _ _ _ => pts_nil) (fun _ _ _ _ _ => pe_callTy (call_tupleK K rfl) (by rfl) T.b_tuple (by decide +kernel) (pa_cons (pv 2) pa_nil))) pa_nil)) rfl)
      (pss_cons (ps_fld (pv 0) (pe_call GL hr2 rfl mL kL bL .nil pass0 (pa_cons (pe_fld (pv 0) rfl) pa_nil)) rfl)
      (pss_one (ps_fld (pv 0) (pe_ix ix_tup (pe_fld (pv 0) rfl) (pe_un un_neg pe_int) (fun _ _ => rfl)) rfl)))), ?_⟩
    refine ⟨_, rfl, q, ps, rs, ts, rfl, hq, hA, hW, h1, h60, fun H1 s1 => ?_⟩
    -- self.rules = tuple([tuple(rule) for rule in rules])
    refine ⟨_, rfl, q, rfl, ⟨_, SqL.of (s1 _ _ hq)⟩, fun D hD => lc_list (K := K) (a := q) (xs := refsV ps) (fun i H' => H' = upd H1 D (.lst ((refsV ps).take i))) rfl (fun i H' _ e => ?_) ?_ ?_⟩
    · rw [e]
      exact SqL.of (by rw [upd_ne (ne_of_none (s1 _ _ hq) hD)]; exact s1 _ _ hq)
    · rintro i x H' hx rfl
      obtain ⟨a, r, rfl, g1, g2, g3⟩ := (hA.keep s1).at hx
      refine ⟨rfl, yes (iteT ?_)⟩
      refine ⟨_, rfl, a, _, rfl, .inr ⟨SqT.of (Same.new hD _ _ g3), (refsV ps).take i, upd_same, ?_, ?_⟩⟩
      · have hl := hA.1
        rw [List.length_take, refsV_length, sizeLine_eq]
        omega
      · rw [upd_upd, List.take_add_one, hx]
        rfl
    · rintro H' rfl
      rw [List.take_length]
      refine ⟨D, _, rfl, .inl ⟨SqL.of upd_same, fun l hl => ?_⟩⟩
      have s2 : Same H1 (upd (upd H1 D (.lst (refsV ps))) l (.tup (refsV ps))) := (Same.new hD).trans (Same.new hl)
      have hL2 : (upd (upd H1 D (.lst (refsV ps))) l (.tup (refsV ps))) l = some (.tup (refsV ps)) := upd_same
      have s3 := s1.trans s2
      generalize upd (upd H1 D (.lst (refsV ps))) l (.tup (refsV ps)) = H2 at s2 s3 hL2 ⊢
      have nlp : l ≠ p := ne_of hL2 (s3 _ _ hp) (by intro e; cases e)
      refine ⟨_, rfl, p, C, dx, [], rfl, s3 _ _ hp, T.cl, T.n_rules, (by show 0 < 1000; decide), ?_⟩
      -- self.lengths = lengths_of(self.rules)
      have b1 : But p H (upd H2 p (.ins C dx (putF "rules" (.ref l) []))) := Same.but s3 But.upd
      have hA3 : RulesAt (upd H2 p (.ins C dx (putF "rules" (.ref l) []))) ps rs := (hA.keep s3).same fun b xs e => by
        rw [upd_ne (ne_of e (s3 _ _ hp) (by intro e; cases e))]
        exact e
      refine ⟨_, rfl, p, C, dx, _, _, rfl, upd_same, T.cl, T.n_rules, by rw [lookup_putF, if_pos rfl], l, ps, rs, ts, rfl, by rw [upd_ne nlp]; exact hL2, hA3, hW, h60, fun H3 m s4 hm => ?_⟩
      have hp3 := s4 _ _ (upd_same (H := H2) (a := p) (o := .ins C dx (putF "rules" (.ref l) [])))
      have hl3 := s4 l _ (by rw [upd_ne nlp]; exact hL2)
      have hA4 := hA3.keep s4
      have b2 := But.then b1 s4
      have nmp : m ≠ p := ne_of hm hp3 (by intro e; cases e)
      refine ⟨_, rfl, p, C, dx, _, rfl, hp3, T.cl, T.n_lengths, (by show 1 < 1000; decide), ?_⟩
      -- self.length = self.lengths[-1]
      refine ⟨_, rfl, p, C, dx, _, _, rfl, upd_same, T.cl, T.n_lengths, by rw [lookup_putF, if_pos rfl], _, rfl, m, _, _, _, rfl, rfl, SqT.of (by rw [upd_ne nmp]; exact hm), atI_neg1 (v := .int (t.length : Nat)) (by rw [lensV_length]; exact lensV_get ht), ?_⟩
      refine ⟨_, rfl, p, C, dx, _, rfl, upd_same, T.cl, T.n_length, ?_, ?_⟩
      · show (putF "lengths" (V.ref m) (putF "rules" (V.ref l) [])).length < 1000
        have e : (putF "lengths" (V.ref m) (putF "rules" (V.ref l) [])) = ([("rules", V.ref l), ("lengths", V.ref m)] : List (Str × V)) := by
          show (if ("rules" : Str) = "lengths" then _ else (("rules" : Str), V.ref l) :: putF "lengths" (V.ref m) []) = ([("rules", V.ref l), ("lengths", V.ref m)] : List (Str × V))
          rw [if_neg ne_rl]
          all_goals rfl
        rw [e]
        show 2 < 1000
        decide
      · refine k _ (But.trans (But.trans b2 But.upd) But.upd) ⟨dx, l, m, ps, upd_same, ?_, ?_, ?_, hW, ht⟩
        · rw [upd_ne nlp, upd_ne nlp]
          exact hl3
        · exact hA4.same fun b xs e => by
            have nb : b ≠ p := ne_of e hp3 (by intro e; cases e)
            rw [upd_ne nb, upd_ne nb]
            exact e
        · rw [upd_ne nmp, upd_ne nmp]
          exact hm

abbrev nmL : List Str := ["self", "place", "rule", "number"]
theorem scLe : FnScope nmL ["self", "place"] (defScope smL) := ⟨rfl, rfl, rfl, by decide +kernel, rfl, by decide +kernel, by decide +kernel⟩
theorem ok_L {f : Addr} {fd : FuncData} (F : Fun K "letter" "Text.letter" smL f fd) (T : Txt K w mg C) (DI : Cal P w K mg base "inner_place" 1 ["rule", "lengths", "place"] spIP) :
    FnOk P w K mg base CX0 2 f fd ["self", "place"] (spL C) := by
  obtain ⟨fI, fdI, GI, mI, kI, bI⟩ := DI
  refine F.ok scLe (fun vs H Q E h => ?_) (fun cdv A outer s H vs Q E hr h => ?_)
  · obtain ⟨x, rs, ts, t, pl, c, rfl, _⟩ := h
    rfl
  · obtain ⟨x, rs, ts, t, pl, c, rfl, ⟨dx, pr, pl', ps, hx, hpr, hA, hpl, hW, ht⟩, hc, k⟩ := h
    have hlt := (List.getElem?_eq_some_iff.mp hc).1
    refine ⟨_, pss_cons (ps_if (pt_not (pt_chain op_le op_lt pe_int (pv 1) (pe_fld (pv 0) rfl))) pss_never pss_nil)
      (pss_cons (ps_set (i := 2) scLe.nd rfl (Or.inl rfl) (pe_ix ix_tup (pe_fld (pv 0) rfl) (pe_un un_neg pe_int) (fun _ _ => rfl)))
      (pss_cons (ps_while PassesOwn.never (pt_cmpR op_ne (pe_ix ix_tup (pv 2) pe_int (fun _ _ => rfl)) pe_str (nomark _))
        (pss_cons (ps_asg (pe_call GI hr rfl mI kI bI .nil pass0 (pa_cons (pv 2) (pa_cons (pe_fld (pv 0) rfl) (pa_cons (pv 1) pa_nil)))) (pg_tup rfl (pgs_cons (pg_name (i := 3) scLe.nd rfl (Or.inl rfl)) (pgs_cons (pg_name (i := 1) scLe.nd rfl (Or.inl rfl)) pgs_nil))))
        (pss_one (ps_set (i := 2) scLe.nd rfl (Or.inl rfl) (pe_ix ix_tup (pe_fld (pv 0) rfl) (pv 3) (fun _ _ => rfl))))))
      (pss_one (ps_ret (pe_ix ix_str (pe_ix ix_tup (pv 2) pe_int (fun _ _ => rfl)) (pv 1) (fun _ _ => rfl)))))), ?_⟩
    refine ⟨_, rfl, _, _, rfl, rfl, _, rfl, ifT (decide_eq_true (by omega)) ?_⟩
    refine ⟨_, rfl, x, C, dx, _, _, rfl, hx, T.cl, T.n_length, tf_length _ _ _, _, _, rfl, rfl, _, rfl, ifF (by rw [decide_eq_true (by omega)]; rfl) ?_⟩
    have hlen := hW.len
    have htl := (List.getElem?_eq_some_iff.mp ht).1
    obtain ⟨r0, hr0⟩ : ∃ r0, rs[ts.length - 1]? = some r0 := ⟨_, List.getElem?_eq_getElem (by omega)⟩
    obtain ⟨p0, hp0, hp0'⟩ := hA.2 _ r0 hr0
    refine ⟨_, rfl, x, C, dx, _, _, rfl, hx, T.cl, T.n_rules, tf_rules _ _ _, _, rfl, pr, _, _, _, rfl, rfl, SqT.of hpr, atI_neg1 (v := .ref p0) (by rw [refsV_length, hA.1, hlen]; exact refsV_get hp0), ?_⟩
    refine ⟨fun i σ H' => ∃ (pl : Nat) (r : R) (u : List Nat) (p : Addr) (v3 : Option V), σ = [some (.ref x), some (.int (pl : Nat)), some (.ref p), v3] ∧ Same H H' ∧ rs[i]? = some r ∧ H' p = some (.tup (ruleVs r)) ∧ ts[i]? = some u ∧ u[pl]? = some c,
      ⟨ts.length - 1, pl, r0, t, p0, none, rfl, Same.refl _, hr0, hp0', ht, hc⟩, ?_⟩
    rintro i σ H' ⟨pl, r, u, p, v3, rfl, s1, hri, hp, hu, hc⟩
    obtain ⟨u', hu', hul, hR⟩ := hW.at_ i r hri
    have eu : u' = u := Option.some.inj (hu'.symm.trans hu)
    subst eu
    have h0 : (ruleVs r)[0]? = some (.str (wordOf r)) := by cases r <;> rfl
    refine ⟨_, rfl, p, _, _, _, rfl, rfl, SqT.of hp, at_of (j := 0) rfl h0, rfl, _, rfl, ?_⟩
    by_cases hN : NotLit r
    · have hw : (!decide (V.str (wordOf r) = V.str "letters")) = true := by
        cases r with
        | lit z => exact hN.elim
        | join _ _ => show (!decide (V.str "join" = V.str "letters")) = true; decide +kernel
        | pow _ _ => show (!decide (V.str "power" = V.str "letters")) = true; decide +kernel
        | part _ _ _ => show (!decide (V.str "part" = V.str "letters")) = true; decide +kernel
        | back _ => show (!decide (V.str "back" = V.str "letters")) = true; decide +kernel
      refine ifT hw ⟨fun σ' H'' => ∃ m', m' < i ∧ ∃ (pl : Nat) (r : R) (u : List Nat) (p : Addr) (v3 : Option V), σ' = [some (.ref x), some (.int (pl : Nat)), some (.ref p), v3] ∧ Same H H'' ∧ rs[m']? = some r ∧ H'' p = some (.tup (ruleVs r)) ∧ ts[m']? = some u ∧ u[pl]? = some c, fun _ _ h => h, ?_⟩
      refine ⟨_, rfl, _, rfl, x, C, dx, _, _, rfl, s1 _ _ hx, T.cl, T.n_lengths, tf_lengths _ _ _, _, rfl, p, pl', r, i, ts, u', pl, c, rfl, hp, s1 _ _ hpl, hR, hN, hc, hul, fun H2 q m pl2 v s2 hq hmi hv hcv => ?_⟩
      refine ⟨q, _, rfl, SqT.of hq, rfl, _, _, rfl, _, _, rfl, rfl, ?_⟩
      have hm2 := (List.getElem?_eq_some_iff.mp hv).1
      obtain ⟨r2, hr2⟩ : ∃ r2, rs[m]? = some r2 := ⟨_, List.getElem?_eq_getElem (by omega)⟩
      obtain ⟨p2, hp2, hp2'⟩ := hA.2 _ r2 hr2
      refine ⟨_, rfl, x, C, dx, _, _, rfl, s2 _ _ (s1 _ _ hx), T.cl, T.n_rules, tf_rules _ _ _, _, rfl, pr, _, _, _, rfl, rfl, SqT.of (s2 _ _ (s1 _ _ hpr)), at_of (j := m) rfl (refsV_get hp2), ?_⟩
      exact ⟨m, hmi, pl2, r2, v, p2, _, rfl, s1.trans s2, hr2, s2 _ _ (s1 _ _ hp2'), hv, hcv⟩
    · obtain ⟨z, rfl⟩ : ∃ z, r = .lit z := by
        cases r with
        | lit z => exact ⟨z, rfl⟩
        | _ => exact absurd trivial hN
      obtain ⟨rfl, hz, _⟩ := hR
      refine ifF (by show (!decide (V.str "letters" = V.str "letters")) = false; decide +kernel) ?_
      refine ⟨_, rfl, p, _, _, _, rfl, rfl, SqT.of hp, at_of (j := 1) rfl rfl, _, rfl, _, _, c, rfl, rfl, by rw [tx_len, sizeLine_eq]; omega, atI_nat (by exact hc), k _ s1⟩

theorem scCk : FnScope ["self", "start", "stop"] ["self", "start", "stop"] (defScope smC) := ⟨rfl, rfl, rfl, by decide +kernel, rfl, by decide +kernel, by decide +kernel⟩
theorem ok_Ck {f : Addr} {fd : FuncData} (F : Fun K "check_part" "Text.check_part" smC f fd) (T : Txt K w mg C) : FnOk P w K mg base CX0 1 f fd ["self", "start", "stop"] (spCk C) := by
  refine F.ok scCk (fun vs H Q E h => ?_) (fun cdv A outer s H vs Q E hr h => ?_)
  · obtain ⟨x, rs, ts, t, a, b, rfl, _⟩ := h
    rfl
  · obtain ⟨x, rs, ts, t, a, b, rfl, ⟨dx, pr, pl', ps, hx, hpr, hA, hpl, hW, ht⟩, hab, hb, k⟩ := h
    refine ⟨_, pss_one (ps_if (pt_not (pt_chain3 op_le op_le op_le pe_int (pv 1) (pv 2) (pe_fld (pv 0) rfl))) pss_never pss_nil), ?_⟩
    refine ⟨_, rfl, _, _, rfl, rfl, _, rfl, ifT (decide_eq_true (by omega)) ?_⟩
    refine ⟨_, rfl, _, _, rfl, rfl, _, rfl, ifT (decide_eq_true (by omega)) ?_⟩
    exact ⟨_, rfl, x, C, dx, _, _, rfl, hx, T.cl, T.n_length, tf_length _ _ _, _, _, rfl, rfl, _, rfl, ifF (by rw [decide_eq_true (by omega)]; rfl) k⟩

/-! ### inner_parts -/
theorem pieces_length (inner m a b q0 : Nat) : ∀ j : Nat, (pieces inner m a b q0 j).length = j
  | 0 => rfl
  | j + 1 => by
    show (pieces inner m a b q0 j ++ [_]).length = j + 1
    rw [List.length_append, pieces_length inner m a b q0 j]
    rfl
theorem tupEq {n a b : Nat} {f : Bool} {A B : Int} (ha : A = ((a : Nat) : Int)) (hb : B = ((b : Nat) : Int)) : some (HO.tup [V.int (n : Nat), V.int A, V.int B, V.bl f]) = some (HO.tup (segVs ⟨n, a, b, f⟩)) := by
  subst ha hb
  rfl
abbrev nmIQ : List Str := ["rule", "lengths", "start", "stop", "word", "inner", "many", "found", "number", "first"]
theorem scIQ : FnScope nmIQ ["rule", "lengths", "start", "stop"] (defScope sIQ) := ⟨rfl, rfl, rfl, by decide +kernel, rfl, by decide +kernel, by decide +kernel⟩
theorem ok_IQ {f : Addr} {fd : FuncData} (F : Fun K "inner_parts" "inner_parts" sIQ f fd) (T : Txt K w mg C) : FnOk P w K mg base CX0 1 f fd ["rule", "lengths", "start", "stop"] spIQ := by
  refine F.ok scIQ (fun vs H Q E h => ?_) (fun cdv A outer s H vs Q E hr h => ?_)
  · obtain ⟨p, l, r, i, ts, t, a, b, rfl, _⟩ := h
    rfl
  · obtain ⟨p, l, r, i, ts, t, a, b, rfl, hp, hl, hR, hN, hab, hb, hd, ht, k⟩ := h
    refine ⟨_, pss_cons (ps_set (i := 4) scIQ.nd rfl (Or.inl rfl) (pe_ix ix_tup (pv 0) pe_int (fun _ _ => rfl)))
      (pss_cons (ps_set (i := 5) scIQ.nd rfl (Or.inl rfl) (pe_ix ix_tup (pv 0) pe_int (fun _ _ => rfl)))
      (pss_cons (ps_set (i := 6) scIQ.nd rfl (Or.inl rfl) (pe_ix ix_tup (pv 1) (pv 5) (fun _ _ => rfl)))
      (pss_cons (ps_if (pt_cmpR op_eq (pv 4) pe_str (nomark _))
        (pss_one (ps_ret (pe_lst (pa_cons (pe_tup (pa_cons (pv 5) (pa_cons (pe_op op_add (pv 2) (pe_ix ix_tup (pv 0) pe_int (fun _ _ => rfl))) (pa_cons (pe_op op_add (pv 3) (pe_ix ix_tup (pv 0) pe_int (fun _ _ => rfl))) (pa_cons pe_bl pa_nil))))) pa_nil)))) pss_nil)
      (pss_cons (ps_if (pt_cmpR op_eq (pv 4) pe_str (nomark _))
        (pss_one (ps_ret (pe_lst (pa_cons (pe_tup (pa_cons (pv 5) (pa_cons (pe_op op_sub (pv 6) (pv 3)) (pa_cons (pe_op op_sub (pv 6) (pv 2)) (pa_cons pe_bl pa_nil))))) pa_nil)))) pss_nil)
      (pss_cons (ps_if (pt_cmpR op_eq (pv 4) pe_str (nomark _))
        (pss_cons (ps_set (i := 7) scIQ.nd rfl (Or.inl rfl) (pe_lst pa_nil))
        (pss_cons (ps_for PassesOwn.never rfl (pi_range2 (by rfl) T.b_range (pa_cons (pe_op op_fdivW (pv 2) (pv 6)) (pa_cons (pe_op op_add (pe_op op_fdivW (pe_op op_sub (pv 3) pe_int) (pv 6)) pe_int) pa_nil))) (pg_name (i := 8) scIQ.nd rfl (Or.inl rfl))
          (pss_cons (ps_set (i := 9) scIQ.nd rfl (Or.inl rfl) (pe_op op_mul (pv 8) (pv 6)))
          (pss_one (ps_expr (pe_bm PySem.F.plainAttrs_list PySem.F.slot_list_append PySem.F.type_list_append mt_append (pv 7) (pa_cons (pe_tup (pa_cons (pv 5)
            (pa_cons (pe_callB (call_max2 rfl) (by rfl) T.b_max (by decide +kernel) (pa_cons (pe_op op_sub (pv 2) (pv 9)) (pa_cons pe_int pa_nil)))
            (pa_cons (pe_callB (call_min2 rfl) (by rfl) T.b_min (by decide +kernel) (pa_cons (pe_op op_sub (pv 3) (pv 9)) (pa_cons (pv 6) pa_nil))) (pa_cons pe_bl pa_nil))))) pa_nil))))))
        (pss_one (ps_ret (pv 7))))) pss_nil)
      (pss_cons (ps_set (i := 7) scIQ.nd rfl (Or.inl rfl) (pe_lst pa_nil))
      (pss_cons (ps_if (pt_cmpR op_lt (pv 2) (pv 6) (nomark _))
        (pss_one (ps_expr (pe_bm PySem.F.plainAttrs_list PySem.F.slot_list_append PySem.F.type_list_append mt_append (pv 7) (pa_cons (pe_tup (pa_cons (pv 5) (pa_cons (pv 2)
            (pa_cons (pe_callB (call_min2 rfl) (by rfl) T.b_min (by decide +kernel) (pa_cons (pv 3) (pa_cons (pv 6) pa_nil))) (pa_cons pe_bl pa_nil))))) pa_nil)))) pss_nil)
      (pss_cons (ps_if (pt_cmpR op_gt (pv 3) (pv 6) (nomark _))
        (pss_one (ps_expr (pe_bm PySem.F.plainAttrs_list PySem.F.slot_list_append PySem.F.type_list_append mt_append (pv 7) (pa_cons (pe_tup (pa_cons (pe_ix ix_tup (pv 0) pe_int (fun _ _ => rfl))
            (pa_cons (pe_callB (call_max2 rfl) (by rfl) T.b_max (by decide +kernel) (pa_cons (pe_op op_sub (pv 2) (pv 6)) (pa_cons pe_int pa_nil)))
            (pa_cons (pe_op op_sub (pv 3) (pv 6)) (pa_cons pe_bl pa_nil))))) pa_nil)))) pss_nil)
      (pss_one (ps_ret (pv 7))))))))))), ?_⟩
    cases r with
    | lit z => exact hN.elim
    | join j m =>
      obtain ⟨u, v, hj, hm, hu, hv, rfl⟩ := hR
      rw [List.length_append] at hb ht
      have hPt := parts_join hj hm hu hv hab hb
      refine ⟨_, rfl, p, _, _, _, rfl, rfl, SqT.of hp, at_of (j := 0) rfl rfl, _, rfl, p, _, _, _, rfl, rfl, SqT.of hp, at_of (j := 1) rfl rfl, _, rfl, _, rfl, l, _, _, _, rfl, rfl, SqT.of hl, at_of (j := j) rfl (lensV_get hu), ?_⟩
      refine ⟨_, rfl, rfl, _, rfl, ifF (by decide +kernel) ?_⟩
      refine ⟨_, rfl, rfl, _, rfl, ifF (by decide +kernel) ?_⟩
      refine ⟨_, rfl, rfl, _, rfl, ifF (by decide +kernel) ?_⟩
      refine ⟨Nat.zero_le _, fun D hD => ?_⟩
      have sD : Same H (upd H D (.lst [])) := Same.new hD
      refine ⟨_, rfl, _, rfl, _, _, rfl, rfl, _, rfl, ?_⟩
      by_cases h1 : a < u.length
      · refine ifT (decide_eq_true (by omega)) ?_
        rw [if_pos h1] at hPt
        refine ⟨_, rfl, .inl ⟨rfl, _, SqL.of upd_same⟩, _, rfl, _, rfl, _, rfl, _, rfl, _, _, rfl, (by show 4 ≤ sizeLine; decide), fun T1 hT1 => ?_⟩
        have n1 : D ≠ T1 := ne_of_none upd_same hT1
        refine ⟨D, [], _, rfl, rfl, by rw [upd_ne n1]; exact upd_same, (by show 0 < sizeLine; decide), ?_⟩
        refine ⟨_, rfl, _, rfl, _, _, rfl, rfl, _, rfl, ?_⟩
        by_cases h2 : u.length < b
        · rw [if_pos h2] at hPt
          refine ifT (decide_eq_true (by omega)) ?_
          refine ⟨_, rfl, .inl ⟨rfl, _, SqL.of upd_same⟩, _, rfl, p, _, _, _, rfl, rfl, SqT.of (Same.new2 (sD.trans (Same.new hT1)) hD _ _ hp), at_of (j := 2) rfl rfl, _, rfl, _, rfl, _, _, rfl, rfl, _, _, rfl, _, rfl, _, rfl, _, _, rfl, rfl, (by show 4 ≤ sizeLine; decide), fun T2 hT2 => ?_⟩
          have n2 : D ≠ T2 := ne_of_none upd_same hT2
          have n12 : T1 ≠ T2 := ne_of_none (by rw [upd_ne n1.symm, upd_same]) hT2
          refine ⟨D, _, _, rfl, rfl, by rw [upd_ne n2]; exact upd_same, (by show 1 < sizeLine; decide), ?_⟩
          refine ⟨_, rfl, k _ D [T1, T2] _ (Same.new2 ((Same.new2 (sD.trans (Same.new hT1)) hD).trans (Same.new hT2)) hD) hD upd_same (AllAt.cons ?_ (AllAt.cons ?_ AllAt.nil)) hPt⟩
          · rw [upd_ne n1.symm, upd_ne n12, upd_ne n1.symm, upd_same]
            exact tupEq (by omega) (by split <;> omega)
          · rw [upd_ne n2.symm, upd_same]
            exact tupEq (by split <;> omega) (by omega)
        · rw [if_neg h2, List.append_nil] at hPt
          refine ifF (decide_eq_false (by omega)) ?_
          refine ⟨_, rfl, k _ D [T1] _ (Same.new2 (sD.trans (Same.new hT1)) hD) hD upd_same (AllAt.cons ?_ AllAt.nil) hPt⟩
          rw [upd_ne n1.symm, upd_same]
          exact tupEq (by omega) (by split <;> omega)
      · refine ifF (decide_eq_false (by omega)) ?_
        rw [if_neg h1, if_pos (by omega), List.nil_append] at hPt
        refine ⟨_, rfl, _, rfl, _, _, rfl, rfl, _, rfl, ifT (decide_eq_true (by omega)) ?_⟩
        refine ⟨_, rfl, .inl ⟨rfl, _, SqL.of upd_same⟩, _, rfl, p, _, _, _, rfl, rfl, SqT.of (sD _ _ hp), at_of (j := 2) rfl rfl, _, rfl, _, rfl, _, _, rfl, rfl, _, _, rfl, _, rfl, _, rfl, _, _, rfl, rfl, (by show 4 ≤ sizeLine; decide), fun T1 hT1 => ?_⟩
        have n1 : D ≠ T1 := ne_of_none upd_same hT1
        refine ⟨D, [], _, rfl, rfl, by rw [upd_ne n1]; exact upd_same, (by show 0 < sizeLine; decide), ?_⟩
        refine ⟨_, rfl, k _ D [T1] _ (Same.new2 (sD.trans (Same.new hT1)) hD) hD upd_same (AllAt.cons ?_ AllAt.nil) hPt⟩
        rw [upd_ne n1.symm, upd_same]
        exact tupEq (by split <;> omega) (by omega)
    | pow j m =>
      obtain ⟨u, hj, hu, hm, rfl⟩ := hR
      rw [rep_length] at hb ht
      have hm0 : 0 < u.length := by
        rcases Nat.eq_zero_or_pos u.length with h | h
        · rw [h, Nat.mul_zero] at hb
          omega
        · exact h
      have hmm : 0 < m := by
        rcases Nat.eq_zero_or_pos m with h | h
        · rw [h, Nat.zero_mul] at hb
          omega
        · exact h
      have hul : u.length ≤ 1000000000000 := Nat.le_trans (Nat.le_mul_of_pos_left _ hmm) ht
      have hPall := pieces_all (i := i) hj hu hab hb
      have hok := fun jj => pieces_ok (i := i) hj hu hab hb jj
      have hle : a / u.length ≤ (b - 1) / u.length := Nat.div_le_div_right (by omega)
      have hba : (b - 1) / u.length ≤ b - 1 := Nat.div_le_self _ _
      have e1 : ((a : Nat) : Int) / ((u.length : Nat) : Int) = ((a / u.length : Nat) : Int) := (Int.natCast_ediv _ _).symm
      have e2 : (((b : Nat) : Int) - 1) / ((u.length : Nat) : Int) + 1 = (((b - 1) / u.length + 1 : Nat) : Int) := by
        have e3 : ((b : Nat) : Int) - 1 = ((b - 1 : Nat) : Int) := by omega
        rw [e3, ← Int.natCast_ediv]
        rfl
      refine ⟨_, rfl, p, _, _, _, rfl, rfl, SqT.of hp, at_of (j := 0) rfl rfl, _, rfl, p, _, _, _, rfl, rfl, SqT.of hp, at_of (j := 1) rfl rfl, _, rfl, _, rfl, l, _, _, _, rfl, rfl, SqT.of hl, at_of (j := j) rfl (lensV_get hu), ?_⟩
      refine ⟨_, rfl, rfl, _, rfl, ifF (by decide +kernel) ?_⟩
      refine ⟨_, rfl, rfl, _, rfl, ifF (by decide +kernel) ?_⟩
      refine ⟨_, rfl, rfl, _, rfl, ifT (by decide +kernel) ?_⟩
      refine ⟨Nat.zero_le _, fun D hD => ?_⟩
      generalize hq0 : a / u.length = q0 at *
      generalize hq1 : (b - 1) / u.length = q1 at *
      refine ⟨_, rfl, _, rfl, _, _, rfl, rfl, wide_div (b := 64) (by omega) (by omega) (by decide) (by decide), _, rfl, _, _, rfl, rfl, _, rfl, _, _, rfl, rfl, wide_div (b := 64) (by omega) (by omega) (by decide) (by decide), _, _, rfl, rfl,
        ((q0 : Nat) : Int), ((q1 + 1 : Nat) : Int), ?_, ⟨by omega, by omega, by omega, by omega⟩,
        for_range (lo := ((q0 : Nat) : Int)) (n := (((q1 + 1 : Nat) : Int) - ((q0 : Nat) : Int)).toNat) (fun jj σ H' => ∃ (v8 v9 : Option V) (qs : List Addr), σ = [some (.ref p), some (.ref l), some (.int (a : Nat)), some (.int (b : Nat)), some (.str "power"), some (.int (j : Nat)), some (.int (u.length : Nat)), some (.ref D), v8, v9] ∧
          Same H H' ∧ H' D = some (.lst (refsV qs)) ∧ SegsAt H' qs (pieces j u.length a b q0 jj)) ⟨none, none, [], rfl, Same.new hD, upd_same, AllAt.nil⟩ ?_ ?_⟩
      · show [V.int (((a : Nat) : Int) / ((u.length : Nat) : Int)), V.int ((((b : Nat) : Int) - 1) / ((u.length : Nat) : Int) + 1)] = [V.int ((q0 : Nat) : Int), V.int ((q1 + 1 : Nat) : Int)]
        rw [e1, e2]
      · rintro jj σ H' hjj ⟨v8, v9, qs, rfl, s1, hL, hS⟩
        have hcnt : jj ≤ 1000 := by
          have h := hok jj (by omega)
          have hc := count_le fun e he => (h.ok e he).2
          rw [pieces_length, h.fl, slice_length (by rw [rep_length]; omega)] at hc
          omega
        have eF : (((q0 : Nat) : Int) + ((jj : Nat) : Int)) * ((u.length : Nat) : Int) = (((q0 + jj) * u.length : Nat) : Int) := by
          rw [← Int.natCast_add, ← Int.natCast_mul]
        have hF : (q0 + jj) * u.length ≤ b - 1 := by
          have h1 : q0 + jj ≤ q1 := by omega
          rw [← hq1] at h1
          exact Nat.le_trans (Nat.mul_le_mul_right _ h1) (Nat.div_mul_le_self _ _)
        refine ⟨_, rfl, _, rfl, _, _, rfl, rfl, .inr ⟨by omega, by omega⟩, ?_⟩
        refine ⟨_, rfl, .inl ⟨rfl, _, SqL.of hL⟩, _, rfl, _, rfl, _, rfl, _, _, rfl, rfl, _, _, rfl, _, rfl, _, rfl, _, _, rfl, rfl, _, rfl, _, _, rfl, (by show 4 ≤ sizeLine; decide), fun T1 hT1 => ?_⟩
        have n1 : D ≠ T1 := ne_of_none hL hT1
        refine ⟨D, _, _, rfl, rfl, by rw [upd_ne n1]; exact hL, ?_, ?_⟩
        · rw [refsV_length, hS.1, pieces_length, sizeLine_eq]
          omega
        · refine ⟨_, _, qs ++ [T1], rfl, Same.new2 (s1.trans (Same.new hT1)) hD, by rw [upd_same, refsV_app]; rfl, AllAt.snoc (hS.same fun b' xs e => ?_) ?_⟩
          · have nb1 : b' ≠ T1 := ne_of_none e hT1
            have nb2 : b' ≠ D := ne_of e hL (by intro q; cases q)
            rw [upd_ne nb2, upd_ne nb1]
            exact e
          · rw [upd_ne n1.symm, upd_same]
            refine tupEq ?_ ?_
            · rw [eF]
              split <;> omega
            · rw [eF]
              split <;> omega
      · rintro σ H' ⟨v8, v9, qs, rfl, s1, hL, hS⟩
        have eN : (((q1 + 1 : Nat) : Int) - ((q0 : Nat) : Int)).toNat = q1 + 1 - q0 := by omega
        rw [eN] at hS
        exact ⟨_, rfl, k _ D qs _ s1 hD hL hS hPall⟩
    | part j c d =>
      obtain ⟨u, hj, hu, hcd, hd', rfl⟩ := hR
      rw [slice_length hd'] at hb
      refine ⟨_, rfl, p, _, _, _, rfl, rfl, SqT.of hp, at_of (j := 0) rfl rfl, _, rfl, p, _, _, _, rfl, rfl, SqT.of hp, at_of (j := 1) rfl rfl, _, rfl, _, rfl, l, _, _, _, rfl, rfl, SqT.of hl, at_of (j := j) rfl (lensV_get hu), ?_⟩
      refine ⟨_, rfl, rfl, _, rfl, ifT (by decide +kernel) ?_⟩
      refine ⟨_, rfl, _, rfl, _, rfl, p, _, _, _, rfl, rfl, SqT.of hp, at_of (j := 2) rfl rfl, _, _, rfl, rfl, _, rfl, _, rfl, p, _, _, _, rfl, rfl, SqT.of hp, at_of (j := 2) rfl rfl, _, _, rfl, rfl, (by show 4 ≤ sizeLine; decide), fun T1 hT1 => ⟨(by show 1 ≤ sizeLine; decide), fun D hD => ?_⟩⟩
      have n1 : T1 ≠ D := ne_of_none upd_same hD
      exact k _ D [T1] _ ((Same.new hT1).trans (Same.new hD)) ((Same.new hT1).free hD) upd_same (AllAt.cons (by rw [upd_ne n1, upd_same]; rfl) AllAt.nil) (parts_part hj hu hd' hab hb)
    | back j =>
      obtain ⟨u, hj, hu, rfl⟩ := hR
      rw [List.length_reverse] at hb
      refine ⟨_, rfl, p, _, _, _, rfl, rfl, SqT.of hp, at_of (j := 0) rfl rfl, _, rfl, p, _, _, _, rfl, rfl, SqT.of hp, at_of (j := 1) rfl rfl, _, rfl, _, rfl, l, _, _, _, rfl, rfl, SqT.of hl, at_of (j := j) rfl (lensV_get hu), ?_⟩
      refine ⟨_, rfl, rfl, _, rfl, ifF (by decide +kernel) ?_⟩
      refine ⟨_, rfl, rfl, _, rfl, ifT (by decide +kernel) ?_⟩
      refine ⟨_, rfl, _, rfl, _, rfl, _, _, rfl, rfl, _, rfl, _, rfl, _, _, rfl, rfl, (by show 4 ≤ sizeLine; decide), fun T1 hT1 => ⟨(by show 1 ≤ sizeLine; decide), fun D hD => ?_⟩⟩
      have n1 : T1 ≠ D := ne_of_none upd_same hD
      refine k _ D [T1] _ ((Same.new hT1).trans (Same.new hD)) ((Same.new hT1).free hD) upd_same (AllAt.cons ?_ AllAt.nil) (parts_back hj hu hab hb)
      rw [upd_ne n1, upd_same]
      have e1 : ((u.length : Nat) : Int) - ((b : Nat) : Int) = ((u.length - b : Nat) : Int) := by omega
      have e2 : ((u.length : Nat) : Int) - ((a : Nat) : Int) = ((u.length - a : Nat) : Int) := by omega
      show some (HO.tup [V.int (j : Nat), V.int (((u.length : Nat) : Int) - ((b : Nat) : Int)), V.int (((u.length : Nat) : Int) - ((a : Nat) : Int)), V.bl true]) = _
      rw [e1, e2]
      rfl

/-! ### letters -/
/-- what is put on the pile for a segment e: the parts ss, turned if e is -/
def ordered (f : Bool) (ss : List Seg) : List Seg := if f = true then ss else ss.reverse
def flipIf (f : Bool) (e : Seg) : Seg := { e with f := !decide (V.bl e.f = V.bl f) }
theorem flipIf_false (e : Seg) : flipIf false e = e := by
  obtain ⟨n, a, b, g⟩ := e
  cases g <;> rfl
theorem flipIf_true (e : Seg) : flipIf true e = { e with f := !e.f } := by
  obtain ⟨n, a, b, g⟩ := e
  cases g <;> rfl
theorem ordered_ok {ts : List (List Nat)} {u : List Nat} {e : Seg} {ss : List Seg} (hu : ts[e.n]? = some u) (h : Parts ts e.n (slice u e.a e.b) ss) :
    ((((ordered e.f ss).map (flipIf e.f)).reverse.map (segOf ts)).flatten = segOf ts e) ∧ (∀ x ∈ (ordered e.f ss).map (flipIf e.f), SegOk ts x) ∧ weigh ((ordered e.f ss).map (flipIf e.f)) = weigh ss ∧ (ordered e.f ss).length = ss.length := by
  have hok : ∀ x, SegOk ts x → SegOk ts (flipIf e.f x) := fun x hx => hx
  refine ⟨?_, fun x hx => ?_, ?_, ?_⟩
  · obtain ⟨n, a, b, f⟩ := e
    cases f with
    | false =>
      have e1 : (ordered false ss).map (flipIf false) = ss.reverse := by
        have e2 : flipIf false = id := funext flipIf_false
        rw [e2, List.map_id]
        rfl
      show (((ordered false ss).map (flipIf false)).reverse.map (segOf ts)).flatten = slice (ts.getD n []) a b
      rw [e1, List.reverse_reverse, h.fl, getD_of hu]
    | true =>
      show (((ordered true ss).map (flipIf true)).reverse.map (segOf ts)).flatten = (slice (ts.getD n []) a b).reverse
      have e1 : (((ordered true ss).map (flipIf true)).reverse.map (segOf ts)) = ss.reverse.map fun e => segOf ts { e with f := !e.f } := by
        rw [← List.map_reverse, List.map_map]
        show List.map _ ss.reverse = _
        apply List.map_congr_left
        intro x _
        show segOf ts (flipIf true x) = _
        rw [flipIf_true]
      rw [e1, flat_turned, h.fl, getD_of hu]
  · obtain ⟨y, hy, rfl⟩ := List.mem_map.mp hx
    refine hok y (h.ok y ?_).2
    unfold ordered at hy
    split at hy
    · exact hy
    · exact List.mem_reverse.mp hy
  · have e1 : weigh ((ordered e.f ss).map (flipIf e.f)) = weigh (ordered e.f ss) := weigh_flip _ _
    rw [e1]
    unfold ordered
    split
    · rfl
    · exact weigh_reverse ss
  · unfold ordered
    split
    · rfl
    · exact List.length_reverse
theorem nil_or_snoc {α : Type} (l : List α) : l = [] ∨ ∃ (L : List α) (b : α), l = L ++ [b] := by
  rcases List.eq_nil_or_concat l with h | ⟨L, b, h⟩
  · exact .inl h
  · exact .inr ⟨L, b, by rw [h, List.concat_eq_append]⟩
theorem AllAt.unsnoc {α : Type} {f : α → List V} {H : Hp} {ps : List Addr} {rs : List α} {p : Addr} {r : α} (h : AllAt f H (ps ++ [p]) (rs ++ [r])) : AllAt f H ps rs ∧ H p = some (.tup (f r)) := by
  have hl := h.1
  rw [List.length_append, List.length_append] at hl
  have hl' : ps.length = rs.length := by
    have e1 : [p].length = 1 := rfl
    have e2 : [r].length = 1 := rfl
    omega
  refine ⟨⟨hl', fun i r' hr => ?_⟩, ?_⟩
  · obtain ⟨q, h1, h2⟩ := h.2 i r' (get_app hr)
    have hi := (List.getElem?_eq_some_iff.mp hr).1
    rw [List.getElem?_append_left (by omega)] at h1
    exact ⟨q, h1, h2⟩
  · obtain ⟨q, h1, h2⟩ := h.2 (rs.length + 0) r (by rw [get_end]; rfl)
    rw [← hl', get_end] at h1
    cases (Option.some.inj h1)
    exact h2
theorem refs_last (qs : List Addr) (p : Addr) : (refsV (qs ++ [p]))[(refsV (qs ++ [p])).length - 1]? = some (.ref p) := by
  rw [refsV_length, List.length_append]
  have e : (qs.length + [p].length) - 1 = qs.length + 0 := by
    have : [p].length = 1 := rfl
    omega
  rw [e]
  exact refsV_get (by rw [get_end]; rfl)
theorem refs_drop (qs : List Addr) (p : Addr) : (refsV (qs ++ [p])).dropLast = refsV qs := by
  rw [refsV_app]
  exact List.dropLast_concat
abbrev nmM : List Str := ["self", "start", "stop", "found", "waiting", "number", "first", "last", "is_turned", "rule", "letters", "parts", "inner", "low", "high", "turns"]
theorem scM : FnScope nmM ["self", "start", "stop"] (defScope smM) := ⟨rfl, rfl, rfl, by decide +kernel, rfl, by decide +kernel, by decide +kernel⟩

theorem ok_M {f : Addr} {fd : FuncData} (F : Fun K "letters" "Text.letters" smM f fd) (T : Txt K w mg C) (DI : Cal P w K mg base "inner_parts" 1 ["rule", "lengths", "start", "stop"] spIQ)
    (DC : CalM P w K mg base C "check_part" 1 ["self", "start", "stop"] (spCk C)) : FnOk P w K mg base CX0 2 f fd ["self", "start", "stop"] (spM C) := by
  obtain ⟨fI, fdI, GI, mI, kI, bI⟩ := DI
  obtain ⟨fC, fdC, GC, mC, bC⟩ := DC
  obtain ⟨tM, mM⟩ := T.MOST_TOLD
  refine F.ok scM (fun vs H Q E h => ?_) (fun cdv A outer s H vs Q E hr h => ?_)
  · obtain ⟨x, rs, ts, t, a, b, rfl, _⟩ := h
    rfl
  · obtain ⟨x, rs, ts, t, a, b, rfl, hT, hab, hb, hd, k⟩ := h
    obtain ⟨dx, pr, pl, ps, hx, hpr, hA, hpl, hW, ht⟩ := id hT
    have hlen := hW.len
    have htl := (List.getElem?_eq_some_iff.mp ht).1
    have noC : (tf pr pl ((t.length : Nat) : Int)).lookup ("check_part" : Str) = none := tf_no _ _ _ (by decide +kernel) (by decide +kernel) (by decide +kernel)
    refine ⟨_, pss_cons (ps_expr (pe_meth (pv 0) T.cl mC GC hr bC .nil pass0 (pa_cons (pv 1) (pa_cons (pv 2) pa_nil))))
      (pss_cons (ps_if (pt_cmpR op_gt (pe_op op_sub (pv 2) (pv 1)) (pe_glI mM) (nomark _)) pss_never pss_nil)
      (pss_cons (ps_set (i := 3) scM.nd rfl (Or.inl rfl) (pe_lst pa_nil))
      (pss_cons (ps_set (i := 4) scM.nd rfl (Or.inl rfl) (pe_lst (pa_cons (pe_tup (pa_cons (pe_op op_sub (pe_callB call_len_seq (by rfl) T.b_len PySem.boot_len (pa_cons (pe_fld (pv 0) rfl) pa_nil)) pe_int) (pa_cons (pv 1) (pa_cons (pv 2) (pa_cons pe_bl pa_nil))))) pa_nil)))
      (pss_cons (ps_while PassesOwn.never (pt_truth (pv 4) (by intro _; rfl))
        (pss_cons (ps_asg (pe_bm0 PySem.F.plainAttrs_list PySem.F.slot_list_pop PySem.F.type_list_pop mt_pop (pv 4)) (pg_tup rfl (pgs_cons (pg_name (i := 5) scM.nd rfl (Or.inl rfl)) (pgs_cons (pg_name (i := 6) scM.nd rfl (Or.inl rfl)) (pgs_cons (pg_name (i := 7) scM.nd rfl (Or.inl rfl)) (pgs_cons (pg_name (i := 8) scM.nd rfl (Or.inl rfl)) pgs_nil))))))
        (pss_cons (ps_set (i := 9) scM.nd rfl (Or.inl rfl) (pe_ix ix_tup (pe_fld (pv 0) rfl) (pv 5) (fun _ _ => rfl)))
        (pss_one (ps_if (PW.pt (pw_and (pt_cmpR op_lt (pv 6) (pv 7) (nomark _)) (pw_and1 (pt_cmpR op_eq (pe_ix ix_tup (pv 9) pe_int (fun _ _ => rfl)) pe_str (nomark _)))))
          (pss_cons (ps_set (i := 10) scM.nd rfl (Or.inl rfl) (pe_slice sl_str (pe_ix ix_tup (pv 9) pe_int (fun _ _ => rfl)) (po_some (pv 6)) (po_some (pv 7))))
          (pss_one (ps_expr (pe_bm PySem.F.plainAttrs_list PySem.F.slot_list_append PySem.F.type_list_append mt_append (pv 3) (pa_cons (pe_ifExp (pt_val (pv 8)) (pe_revS (pv 10)) (pv 10)) pa_nil)))))
          (pss_one (ps_if (pt_cmpR op_lt (pv 6) (pv 7) (nomark _))
            (pss_cons (ps_set (i := 11) scM.nd rfl (Or.inl rfl) (pe_call GI hr rfl mI kI bI .nil pass0 (pa_cons (pv 9) (pa_cons (pe_fld (pv 0) rfl) (pa_cons (pv 6) (pa_cons (pv 7) pa_nil))))))
            (pss_cons (ps_if (pt_not (pt_val (pv 8))) (pss_one (ps_expr (pe_bm0 PySem.F.plainAttrs_list PySem.F.slot_list_reverse PySem.F.type_list_reverse mt_reverse (pv 11)))) pss_nil)
            (pss_one (ps_for PassesOwn.never rfl (pi_list (pv 11)) (pg_tup rfl (pgs_cons (pg_name (i := 12) scM.nd rfl (Or.inl rfl)) (pgs_cons (pg_name (i := 13) scM.nd rfl (Or.inl rfl)) (pgs_cons (pg_name (i := 14) scM.nd rfl (Or.inl rfl)) (pgs_cons (pg_name (i := 15) scM.nd rfl (Or.inl rfl)) pgs_nil)))))
              (pss_one (ps_expr (pe_bm PySem.F.plainAttrs_list PySem.F.slot_list_append PySem.F.type_list_append mt_append (pv 4) (pa_cons (pe_tup (pa_cons (pv 12) (pa_cons (pv 13) (pa_cons (pv 14) (pa_cons (pe_cmpR op_ne (pv 15) (pv 8) (nomark _)) pa_nil))))) pa_nil))))))))
            pss_nil)))))))
      (pss_one (ps_ret (pe_join pe_str (pv 3)))))))), ?_⟩
    refine ⟨_, rfl, x, dx, _, rfl, hx, noC, _, rfl, _, rfl, x, rs, ts, t, a, b, rfl, hT, Nat.le_of_lt hab, hb, ?_⟩
    refine ⟨_, rfl, _, rfl, _, _, rfl, rfl, _, _, rfl, rfl, _, rfl, ifF (decide_eq_false (by omega)) ?_⟩
    refine ⟨Nat.zero_le _, fun Fd hF => ?_⟩
    refine ⟨_, rfl, x, C, dx, _, _, rfl, Same.new hF _ _ hx, T.cl, T.n_rules, tf_rules _ _ _, pr, _, rfl, .inr (SqT.of (Same.new hF _ _ hpr)), _, _, rfl, rfl, _, rfl, _, rfl, (by show 4 ≤ sizeLine; decide), fun T1 hT1 => ⟨(by show 1 ≤ sizeLine; decide), fun Wd hWd => ?_⟩⟩
    have nFT : Fd ≠ T1 := ne_of_none upd_same hT1
    have nFW : Fd ≠ Wd := ne_of_none (by rw [upd_ne nFT]; exact upd_same) hWd
    have nTW : T1 ≠ Wd := ne_of_none upd_same hWd
    have hW0 : H Wd = none := ((Same.new hF).trans (Same.new hT1)).free hWd
    refine ⟨fun m σ H' => ∃ (fs : List (List Nat)) (ss : List Seg) (qs : List Addr) (v5 v6 v7 v8 v9 v10 v11 v12 v13 v14 v15 : Option V),
        σ = [some (.ref x), some (.int (a : Nat)), some (.int (b : Nat)), some (.ref Fd), some (.ref Wd), v5, v6, v7, v8, v9, v10, v11, v12, v13, v14, v15] ∧ Same H H' ∧ H' Fd = some (.lst (txsV fs)) ∧ H' Wd = some (.lst (refsV qs)) ∧ SegsAt H' qs ss ∧
        (∀ e ∈ ss, SegOk ts e) ∧ (∀ z ∈ fs, 0 < z.length) ∧ fs.flatten ++ (ss.reverse.map (segOf ts)).flatten = slice t a b ∧ m = weigh ss, ⟨_, [], [⟨ts.length - 1, a, b, false⟩], [T1], none, none, none, none, none, none, none, none, none, none, none, rfl,
          ((Same.new hF).trans (Same.new hT1)).trans (Same.new hWd), by rw [upd_ne nFW, upd_ne nFT]; exact upd_same, upd_same, AllAt.cons ?_ AllAt.nil, ?_, fun z hz => by simp at hz, ?_, rfl⟩, ?_⟩
    · rw [upd_ne nTW, upd_same]
      have e : (((refsV ps).length : Nat) : Int) - 1 = ((ts.length - 1 : Nat) : Int) := by
        rw [refsV_length, hA.1, hlen]
        omega
      show some (HO.tup [V.int ((((refsV ps).length : Nat) : Int) - 1), V.int (a : Nat), V.int (b : Nat), V.bl false]) = _
      rw [e]
      rfl
    · intro e he
      rw [List.mem_singleton.mp he]
      exact ⟨hab, t, ht, hb⟩
    · show slice (ts.getD (ts.length - 1) []) a b ++ [] = slice t a b
      rw [List.append_nil, getD_of ht]
    rintro m σ H' ⟨fs, ss, qs, v5, v6, v7, v8, v9, v10, v11, v12, v13, v14, v15, rfl, s1, hFl, hWl, hS, hok, hpos, hfl, rfl⟩
    have hcount : fs.length ≤ 1000 ∧ ss.length ≤ 1000 := by
      have h1 := len_flat fs hpos
      have h2 := count_le (ts := ts) (ps := ss.reverse) fun e he => hok e (List.mem_reverse.mp he)
      have h3 := congrArg List.length hfl
      rw [List.length_append, slice_length hb] at h3
      rw [List.length_reverse] at h2
      omega
    refine ⟨_, rfl, _, .inl ⟨_, SqL.of hWl, rfl⟩, ?_⟩
    rcases nil_or_snoc ss with rfl | ⟨ss', e, rfl⟩
    · -- nothing waits
      have hq0 : qs = [] := List.eq_nil_of_length_eq_zero hS.1
      subst hq0
      refine ifF rfl ?_
      refine ⟨⟨_, rfl⟩, _, rfl, _, Fd, fs.map tx, rfl, rfl, .inl (SqL.of ?_), ?_, ?_⟩
      · rw [List.map_map]
        exact hFl
      · rw [sum_lens]
        have h3 := congrArg List.length hfl
        rw [List.length_append, slice_length hb] at h3
        have e0 : ("" : Str).length = 0 := by decide +kernel
        rw [e0]
        omega
      · rw [join_tx]
        have e3 : fs.flatten = slice t a b := by
          rw [← hfl]
          show _ = fs.flatten ++ []
          rw [List.append_nil]
        rw [e3]
        exact k _ s1
    · -- one is taken from the pile
      rcases nil_or_snoc qs with rfl | ⟨qs', p, rfl⟩
      · have := hS.1
        rw [List.length_append] at this
        have e1 : [e].length = 1 := rfl
        have e2 : ([] : List Addr).length = 0 := rfl
        omega
      obtain ⟨hS', hp⟩ := hS.unsnoc
      obtain ⟨hlt, u, hu, hbu⟩ := hok e (List.mem_append_right _ (List.mem_singleton.mpr rfl))
      have hok' : ∀ e ∈ ss', SegOk ts e := fun e he => hok e (List.mem_append_left _ he)
      have hfl' : fs.flatten ++ (segOf ts e ++ (ss'.reverse.map (segOf ts)).flatten) = slice t a b := by
        rw [← hfl, List.reverse_append, List.map_append, List.flatten_append]
        show _ = _ ++ ((segOf ts e ++ []) ++ _)
        rw [List.append_nil]
      have hsl : (segOf ts e).length = e.b - e.a := segOf_length ⟨hlt, u, hu, hbu⟩
      have hw : weigh (ss' ++ [e]) = weigh ss' + (e.b - e.a) * (e.n + 1) := by
        rw [weigh_append]
        rfl
      have hpw : (e.b - e.a) * e.n < (e.b - e.a) * (e.n + 1) := Nat.mul_lt_mul_of_pos_left (Nat.lt_succ_self _) (by omega)
      have hle : e.b - e.a ≤ 1000 := by
        have h3 := congrArg List.length hfl'
        rw [List.length_append, List.length_append, hsl, slice_length hb] at h3
        omega
      have hem : (!(refsV (qs' ++ [p])).isEmpty) = true := by
        rw [refsV_app]
        cases refsV qs' <;> rfl
      refine ifT hem ⟨_, fun _ _ h => h, ?_⟩
      refine ⟨_, rfl, .inl ⟨rfl, _, SqL.of hWl⟩, Wd, _, .ref p, rfl, rfl, hWl, refs_last _ _, ?_⟩
      rw [refs_drop]
      have s2 : Same H (upd H' Wd (.lst (refsV qs'))) := Same.new2 s1 hW0
      have hF1 : (upd H' Wd (.lst (refsV qs'))) Fd = some (.lst (txsV fs)) := by rw [upd_ne nFW]; exact hFl
      have hW1 : (upd H' Wd (.lst (refsV qs'))) Wd = some (.lst (refsV qs')) := upd_same
      have tupW : ∀ b xs, H' b = some (.tup xs) → (upd H' Wd (.lst (refsV qs'))) b = some (.tup xs) := fun b xs h => by
        rw [upd_ne (ne_of h hWl (by intro q; cases q))]
        exact h
      have hS1 := hS'.same tupW
      have hp1 := tupW _ _ hp
      clear tupW
      generalize upd H' Wd (.lst (refsV qs')) = H1 at s2 hF1 hW1 hS1 hp1 ⊢
      refine ⟨p, _, rfl, SqT.of hp1, rfl, _, _, rfl, _, _, rfl, _, _, rfl, _, _, rfl, rfl, ?_⟩
      have hel := (List.getElem?_eq_some_iff.mp hu).1
      obtain ⟨r, hr⟩ : ∃ r, rs[e.n]? = some r := ⟨_, List.getElem?_eq_getElem (by omega)⟩
      obtain ⟨p2, hp2, hp2'⟩ := hA.2 _ r hr
      obtain ⟨u', hu', hul, hR⟩ := hW.at_ _ r hr
      have eu : u' = u := Option.some.inj (hu'.symm.trans hu)
      subst eu
      refine ⟨_, rfl, x, C, dx, _, _, rfl, s2 _ _ hx, T.cl, T.n_rules, tf_rules _ _ _, _, rfl, pr, _, _, _, rfl, rfl, SqT.of (s2 _ _ hpr), at_of (j := e.n) rfl (refsV_get hp2), ?_⟩
      have h0 : (ruleVs r)[0]? = some (.str (wordOf r)) := by cases r <;> rfl
      refine ⟨_, rfl, _, rfl, _, _, rfl, rfl, _, rfl, ifT (decide_eq_true (by omega)) ⟨_, rfl, p2, _, _, _, rfl, rfl, SqT.of (s2 _ _ hp2'), at_of (j := 0) rfl h0, rfl, _, rfl, ?_⟩⟩
      by_cases hN : NotLit r
      · have hwd : decide (V.str (wordOf r) = V.str "letters") = false := by
          cases r with
          | lit z => exact hN.elim
          | join _ _ => show decide (V.str "join" = V.str "letters") = false; decide +kernel
          | pow _ _ => show decide (V.str "power" = V.str "letters") = false; decide +kernel
          | part _ _ _ => show decide (V.str "part" = V.str "letters") = false; decide +kernel
          | back _ => show decide (V.str "back" = V.str "letters") = false; decide +kernel
        refine ifF hwd ?_
        refine ⟨_, rfl, _, rfl, _, _, rfl, rfl, _, rfl, ifT (decide_eq_true (by omega)) ?_⟩
        refine ⟨_, rfl, _, rfl, x, C, dx, _, _, rfl, s2 _ _ hx, T.cl, T.n_lengths, tf_lengths _ _ _, _, rfl, _, rfl, p2, pl, r, e.n, ts, u', e.a, e.b, rfl, s2 _ _ hp2', s2 _ _ hpl, hR, hN, hlt, hbu, hle, hul, fun H2 q qs2 ss2 s3 nq hq hS2 hP => ?_⟩
        obtain ⟨o1, o2, o3, o4⟩ := ordered_ok hu hP
        have nWq : Wd ≠ q := ne_of_none hW1 nq
        have nFq : Fd ≠ q := ne_of_none hF1 nq
        have hwle := weigh_le hP.ok
        rw [hP.fl, slice_length hbu] at hwle
        have hn2 : ss2.length ≤ 1000 := by
          have := count_le fun x hx => (hP.ok x hx).2
          rw [hP.fl, slice_length hbu] at this
          omega
        have hb2 : e.f = true ∨ e.f = false := by cases e.f <;> simp
        refine ⟨_, rfl, e.f, rfl, ?_⟩
        rcases hb2 with hf | hf
        case' inl =>
          refine ifF (by rw [hf]; rfl) ?_
          have s5 : Same H H2 := s2.trans s3
          have hF3 := s3 _ _ hF1
          have hW3 := s3 _ _ hW1
          have hS3 := hS1.keep s3
          have hord : ordered e.f ss2 = ss2 := by rw [hf]; rfl
          have hSo : SegsAt H2 qs2 (ordered e.f ss2) := by rw [hord]; exact hS2
          have hq3 := hq
          obtain ⟨H3, hH3⟩ : ∃ H3, H3 = H2 := ⟨_, rfl⟩
          rw [← hH3] at s5 hF3 hW3 hS3 hSo hq3 ⊢
          obtain ⟨qs3, hqs⟩ : ∃ qs3, qs3 = qs2 := ⟨_, rfl⟩
          rw [← hqs] at hSo hq3
        case' inr =>
          refine ifT (by rw [hf]; rfl) ⟨_, rfl, .inl ⟨rfl, _, SqL.of hq⟩, q, _, rfl, rfl, hq, ?_⟩
          have erv : (refsV qs2).reverse = refsV qs2.reverse := (List.map_reverse).symm
          rw [erv]
          have s5 : Same H (upd H2 q (.lst (refsV qs2.reverse))) := Same.new2 (s2.trans s3) (s2.free nq)
          have hF3 : (upd H2 q (.lst (refsV qs2.reverse))) Fd = some (.lst (txsV fs)) := by rw [upd_ne nFq]; exact s3 _ _ hF1
          have hW3 : (upd H2 q (.lst (refsV qs2.reverse))) Wd = some (.lst (refsV qs')) := by rw [upd_ne nWq]; exact s3 _ _ hW1
          have tq : ∀ b xs, H2 b = some (.tup xs) → (upd H2 q (.lst (refsV qs2.reverse))) b = some (.tup xs) := fun b xs h => by
            rw [upd_ne (ne_of h hq (by intro q; cases q))]
            exact h
          have hS3 := (hS1.keep s3).same tq
          have hord : ordered e.f ss2 = ss2.reverse := by rw [hf]; rfl
          have hSo : SegsAt (upd H2 q (.lst (refsV qs2.reverse))) qs2.reverse (ordered e.f ss2) := by rw [hord]; exact (hS2.reverse).same tq
          have hq3 : (upd H2 q (.lst (refsV qs2.reverse))) q = some (.lst (refsV qs2.reverse)) := upd_same
          clear tq
          generalize upd H2 q (.lst (refsV qs2.reverse)) = H3 at s5 hF3 hW3 hS3 hSo hq3 ⊢
          generalize qs2.reverse = qs3 at hSo hq3
        all_goals
          refine ⟨_, rfl, q, rfl, ⟨_, SqL.of hq3⟩, for_list (K := K) (a := q) (xs := refsV qs3) (fun j σ H4 => ∃ (ws : List Addr) (v12 v13 v14 v15 : Option V),
            σ = [some (.ref x), some (.int (a : Nat)), some (.int (b : Nat)), some (.ref Fd), some (.ref Wd), some (.int (e.n : Nat)), some (.int (e.a : Nat)), some (.int (e.b : Nat)), some (.bl e.f), some (.ref p2), v10, some (.ref q), v12, v13, v14, v15] ∧
            But Wd H3 H4 ∧ H4 Wd = some (.lst (refsV ws)) ∧ SegsAt H4 ws (ss' ++ ((ordered e.f ss2).take j).map (flipIf e.f)))
            ⟨qs', _, _, _, _, rfl, But.refl _ _, hW3, by rw [List.take_zero, List.map_nil, List.append_nil]; exact hS3⟩ (fun j σ H4 _ ⟨_, _, _, _, _, _, bw, _⟩ => SqL.of (bw _ _ hq3 nWq.symm)) ?_ ?_⟩
          · rintro j y σ H4 hy ⟨ws, v12, v13, v14, v15, rfl, bw, hW4, hS4⟩
            obtain ⟨a', e', rfl, g1, g2, g3⟩ := (hSo.same fun b' xs h => bw b' _ h (ne_of h hW3 (by intro q; cases q))).at hy
            have hj := (List.getElem?_eq_some_iff.mp g2).1
            refine ⟨a', _, rfl, SqT.of g3, rfl, _, _, rfl, _, _, rfl, _, _, rfl, _, _, rfl, rfl, ?_⟩
            refine ⟨_, rfl, .inl ⟨rfl, _, SqL.of hW4⟩, _, rfl, _, rfl, _, rfl, _, rfl, _, rfl, rfl, (by show 4 ≤ sizeLine; decide), fun T2 hT2 => ?_⟩
            have nWT : Wd ≠ T2 := ne_of_none hW4 hT2
            refine ⟨Wd, _, _, rfl, rfl, by rw [upd_ne nWT]; exact hW4, ?_, ?_⟩
            · rw [refsV_length, hS4.1, List.length_append, List.length_map, List.length_take, sizeLine_eq]
              have := hcount.2
              rw [List.length_append] at this
              omega
            · refine ⟨ws ++ [T2], _, _, _, _, rfl, But.trans (But.then bw (Same.new hT2)) But.upd, by rw [upd_same, refsV_app]; rfl, ?_⟩
              have et : ss' ++ ((ordered e.f ss2).take (j + 1)).map (flipIf e.f) = (ss' ++ ((ordered e.f ss2).take j).map (flipIf e.f)) ++ [flipIf e.f e'] := by
                rw [List.take_add_one, g2, List.map_append, List.append_assoc]
                rfl
              rw [et]
              refine AllAt.snoc (hS4.same fun b' xs h => ?_) ?_
              · rw [upd_ne (ne_of h hW4 (by intro q; cases q)), upd_ne (ne_of_none h hT2)]
                exact h
              · rw [upd_ne nWT.symm, upd_same]
                rfl
          · rintro σ H4 ⟨ws, v12, v13, v14, v15, rfl, bw, hW4, hS4⟩
            have ete : (ordered e.f ss2).take (refsV qs3).length = ordered e.f ss2 := List.take_of_length_le (by rw [refsV_length, hSo.1]; exact Nat.le_refl _)
            rw [ete] at hS4
            refine ⟨weigh (ss' ++ (ordered e.f ss2).map (flipIf e.f)), ?_, fs, _, ws, _, _, _, _, _, _, _, _, _, _, _, rfl, Same.ofBut s5 hW0 bw, bw _ _ hF3 nFW, hW4, hS4, fun x hx => ?_, hpos, ?_, rfl⟩
            · rw [weigh_append, o3, hw]
              omega
            · rcases List.mem_append.mp hx with h | h
              · exact hok' x h
              · exact o2 x h
            · rw [List.reverse_append, List.map_append, List.flatten_append, o1]
              exact hfl'
      · obtain ⟨z, rfl⟩ : ∃ z, r = .lit z := by
          cases r with
          | lit z => exact ⟨z, rfl⟩
          | _ => exact absurd trivial hN
        obtain ⟨rfl, hz, _⟩ := hR
        refine ifT (by show decide (V.str "letters" = V.str "letters") = true; decide +kernel) ?_
        refine ⟨_, rfl, p2, _, _, _, rfl, rfl, SqT.of (s2 _ _ hp2'), at_of (j := 1) rfl rfl, _, rfl, _, rfl, _, rfl, _, rfl, tx u', rfl, by rw [tx_len, sizeLine_eq]; omega, ?_⟩
        rw [cutS_slice' u' (Nat.le_of_lt hlt) hbu]
        have fin : ∀ (H4 : Hp), H4 = upd H1 Fd (.lst (txsV fs ++ [.str (tx (segOf ts e))])) → Same H H4 ∧ H4 Fd = some (.lst (txsV (fs ++ [segOf ts e]))) ∧ H4 Wd = some (.lst (refsV qs')) ∧ SegsAt H4 qs' ss' := by
          rintro H4 rfl
          refine ⟨Same.new2 s2 hF, by rw [upd_same, txs_snoc], by rw [upd_ne nFW.symm]; exact hW1, hS1.same fun b' xs h => ?_⟩
          rw [upd_ne (ne_of h hF1 (by intro q; cases q))]
          exact h
        have hlf : (txsV fs).length < sizeLine := by
          rw [txsV_length, sizeLine_eq]
          omega
        have hpos2 : ∀ z ∈ fs ++ [segOf ts e], 0 < z.length := fun z hz => by
          rcases List.mem_append.mp hz with h | h
          · exact hpos z h
          · rw [List.mem_singleton.mp h, hsl]
            omega
        have hflat : (fs ++ [segOf ts e]).flatten ++ (ss'.reverse.map (segOf ts)).flatten = slice t a b := by
          rw [List.flatten_append, List.flatten_cons, List.flatten_nil, List.append_nil, List.append_assoc]
          exact hfl'
        have hb2 : e.f = true ∨ e.f = false := by cases e.f <;> simp
        refine ⟨_, rfl, .inl ⟨rfl, _, SqL.of hF1⟩, _, rfl, e.f, rfl, ?_⟩
        rcases hb2 with hf | hf
        · have es : backS (tx (slice u' e.a e.b)) = tx (segOf ts e) := by
            unfold segOf
            rw [hf, if_pos rfl, getD_of hu]
            rfl
          refine ifT hf ⟨_, rfl, tx (slice u' e.a e.b), rfl, by rw [tx_len, slice_length hbu, sizeLine_eq]; omega, Fd, _, _, rfl, rfl, hF1, hlf, ?_⟩
          rw [es]
          obtain ⟨f1, f2, f3, f4⟩ := fin _ rfl
          exact ⟨weigh ss', by rw [hw]; omega, fs ++ [segOf ts e], ss', qs', _, _, _, _, _, _, _, _, _, _, _, rfl, f1, f2, f3, f4, hok', hpos2, hflat, rfl⟩
        · have es : tx (slice u' e.a e.b) = tx (segOf ts e) := by
            unfold segOf
            rw [hf, if_neg Bool.false_ne_true, getD_of hu]
          refine ifF hf ⟨_, rfl, Fd, _, _, rfl, rfl, hF1, hlf, ?_⟩
          rw [es]
          obtain ⟨f1, f2, f3, f4⟩ := fin _ rfl
          exact ⟨weigh ss', by rw [hw]; omega, fs ++ [segOf ts e], ss', qs', _, _, _, _, _, _, _, _, _, _, _, rfl, f1, f2, f3, f4, hok', hpos2, hflat, rfl⟩

/-! ### the law's pool -/
def cellOf (z : Int) : Int := if 0 ≤ z then 2 * z else -2 * z - 1
abbrev nmPO : List Str := ["_law_script", "_law_cell"]
theorem scPO : FnScope nmPO ["_law_script"] (defScope sPO) := ⟨rfl, rfl, rfl, by decide +kernel, rfl, by decide +kernel, by decide +kernel⟩
theorem ok_PO {f : Addr} {fd : FuncData} (F : Fun K "_law_pool" "_law_pool" sPO f fd) : FnOk P w K mg base CX0 1 f fd ["_law_script"] (spPO K) := by
  refine F.ok scPO (fun vs H Q E h => ?_) (fun cdv A outer s H vs Q E hr h => ?_)
  · obtain ⟨a, ns, rfl, _⟩ := h
    rfl
  · obtain ⟨a, ns, rfl, hS, hlen, k⟩ := h
    refine ⟨_, pss_one (ps_ret (pe_lst (pa_cons (pe_lc (own := [("_law_cell", 1)]) (g := gName 1) (tt := tYes) rfl scPO.nd (pi_list (pv 0)) (blkOk_by (N := nmPO) (sc := defScope sPO) (by decide +kernel))
        (fun _ _ _ _ _ => pg_name (i := 1) scPO.nd rfl (Or.inl rfl)) (fun _ _ _ _ _ => pts_nil) (fun _ _ _ _ _ => pe_ifExp (pt_cmpR op_ge (pv 1) pe_int (nomark _)) (pe_op op_mul pe_int (pv 1)) (pe_op op_sub (pe_op op_mul (pe_un un_neg pe_int) (pv 1)) pe_int)))
      (pa_cons pe_int (pa_cons pe_int (pa_cons pe_int pa_nil)))))), ?_⟩
    refine ⟨_, rfl, a, rfl, ⟨_, hS⟩, fun D hD => lc_list (K := K) (a := a) (xs := ns.map V.int) (fun i H' => H' = upd H D (.lst (((ns.take i).map cellOf).map V.int))) rfl (fun i H' _ e => ?_) ?_ ?_⟩
    · rw [e]
      exact (Same.new hD).seq hS
    · rintro i x H' hx rfl
      obtain ⟨z, hz, rfl⟩ : ∃ z, ns[i]? = some z ∧ x = V.int z := by
        rw [List.getElem?_map] at hx
        cases e : ns[i]? with
        | none =>
          rw [e] at hx
          cases hx
        | some z =>
          rw [e] at hx
          exact ⟨z, rfl, (Option.some.inj hx).symm⟩
      have hlt : (((ns.take i).map cellOf).map V.int).length < sizeLine := by
        rw [List.length_map, List.length_map, List.length_take, sizeLine_eq]
        omega
      have et : ((ns.take (i + 1)).map cellOf).map V.int = ((ns.take i).map cellOf).map V.int ++ [V.int (cellOf z)] := by
        rw [List.take_add_one, hz, List.map_append, List.map_append]
        rfl
      refine ⟨rfl, yes (iteT ?_)⟩
      refine ⟨_, rfl, _, _, rfl, rfl, _, rfl, ?_⟩
      by_cases h0 : 0 ≤ z
      · refine ifT (decide_eq_true h0) ⟨_, rfl, _, _, rfl, rfl, .inl ⟨by decide, by decide⟩, _, upd_same, hlt, ?_⟩
        rw [upd_upd, et]
        have e : cellOf z = 2 * z := if_pos h0
        rw [e]
      · refine ifF (decide_eq_false h0) ⟨_, rfl, _, rfl, _, _, rfl, rfl, .inl ⟨by decide, by decide⟩, _, _, rfl, rfl, _, upd_same, hlt, ?_⟩
        rw [upd_upd, et]
        have e : cellOf z = -2 * z - 1 := if_neg h0
        rw [e]
    · rintro H' rfl
      refine ⟨(by show 4 ≤ sizeLine; decide), fun p hp => ?_⟩
      have n1 : D ≠ p := ne_of_none upd_same hp
      refine k _ p D ((Same.new hD).trans (Same.new hp)) ((Same.new hD).free hp) ⟨(ns.take (ns.map V.int).length).map cellOf, 0, 0, 17, upd_same, by rw [upd_ne n1]; exact upd_same, fun x hx => ?_, ?_, by decide, by decide, by decide, by decide⟩
      · obtain ⟨z, _, rfl⟩ := List.mem_map.mp hx
        unfold cellOf
        split <;> omega
      · rw [List.length_map, List.length_take]
        omega

abbrev nmTA : List Str := ["_law_pool_here", "_law_many", "_law_digit", "_law_cell", "_law_mixed"]
theorem scTA : FnScope nmTA ["_law_pool_here", "_law_many"] (defScope sTA) := ⟨rfl, rfl, rfl, by decide +kernel, rfl, by decide +kernel, by decide +kernel⟩
theorem ok_TA1 {f : Addr} {fd : FuncData} (F : Fun K "_law_take" "_law_take" sTA f fd) (T : Txt K w mg C) : FnOk P w K mg base CX0 1 f fd ["_law_pool_here", "_law_many"] spTA1 := by
  refine F.ok scTA (fun vs H Q E h => ?_) (fun cdv A outer s H vs Q E hr h => ?_)
  · obtain ⟨p, c, cells, pos, spare, seed, many, rfl, _⟩ := h
    rfl
  · obtain ⟨p, c, cells, pos, spare, seed, many, rfl, hp, hs, h1, h2, k⟩ := h
    refine ⟨_, pss_cons (ps_if (pt_cmpR op_gt (pe_ix ix_list (pv 0) pe_int (fun _ _ => rfl)) pe_int (nomark _))
      (pss_cons (ps_set (i := 2) scTA.nd rfl (Or.inl rfl) (pe_op op_modN (pe_callTy call_int1 (by rfl) T.b_int (by decide +kernel) (pa_cons (pe_ix ix_list (pv 0) pe_int (fun _ _ => rfl)) pa_nil)) (pv 1)))
      (pss_cons (ps_asg (pe_op op_fdivW (pe_ix ix_list (pv 0) pe_int (fun _ _ => rfl)) (pv 1)) (pg_sub (pv 0) pe_int set_list))
      (pss_one (ps_ret (pv 2))))) pss_nil) pss_never, ?_⟩
    obtain ⟨d, ed, hd⟩ := fmod_nat spare h1
    refine ⟨_, rfl, p, _, _, _, rfl, rfl, SqL.of hp, at_of (j := 2) rfl rfl, _, _, rfl, rfl, _, rfl, ifT (decide_eq_true hs) ?_⟩
    refine ⟨_, rfl, p, _, _, _, rfl, rfl, SqL.of hp, at_of (j := 2) rfl rfl, .inl ⟨_, rfl, _, rfl, _, _, rfl, rfl, by omega, ?_⟩⟩
    refine ⟨_, rfl, p, _, _, _, rfl, rfl, SqL.of hp, at_of (j := 2) rfl rfl, _, rfl, _, _, rfl, rfl, wide_div (b := 64) (by omega) (by omega) (by decide) (by decide), _, rfl, p, _, _, 2, rfl, rfl, hp, rfl, ?_⟩
    have hq : Q (.int ((d : Nat) : Int)) (upd H p (.lst [.ref c, .int pos, .int (spare / ((many : Nat) : Int)), .int seed])) := k _ d _ rfl (Int.ediv_nonneg (by omega) (by omega)) hd
    rw [← ed] at hq
    exact ⟨_, rfl, hq⟩

theorem ok_TA {f : Addr} {fd : FuncData} (F : Fun K "_law_take" "_law_take" sTA f fd) (T : Txt K w mg C) (DT : Cal P w K mg base "_law_take" 1 ["_law_pool_here", "_law_many"] spTA1) : FnOk P w K mg base CX0 2 f fd ["_law_pool_here", "_law_many"] spTA := by
  obtain ⟨fT, fdT, GT, mT, kT, bT⟩ := DT
  refine F.ok scTA (fun vs H Q E h => ?_) (fun cdv A outer s H vs Q E hr h => ?_)
  · obtain ⟨p, c, many, rfl, _⟩ := h
    rfl
  · obtain ⟨p, c, many, rfl, ⟨cells, pos, spare, seed, hp, hc, hcells, hcl, hpos, hspare, hseed, hseed2⟩, h1, h2, k⟩ := h
    have ncp : c ≠ p := (ne_of hp hc pool_apart).symm
    refine ⟨_, pss_cons (ps_if (pt_cmpR op_gt (pe_ix ix_list (pv 0) pe_int (fun _ _ => rfl)) pe_int (nomark _))
      (pss_cons (ps_set (i := 2) scTA.nd rfl (Or.inl rfl) (pe_op op_modN (pe_callTy call_int1 (by rfl) T.b_int (by decide +kernel) (pa_cons (pe_ix ix_list (pv 0) pe_int (fun _ _ => rfl)) pa_nil)) (pv 1)))
      (pss_cons (ps_asg (pe_op op_fdivW (pe_ix ix_list (pv 0) pe_int (fun _ _ => rfl)) (pv 1)) (pg_sub (pv 0) pe_int set_list))
      (pss_one (ps_ret (pv 2))))) pss_nil)
      (pss_cons (ps_set (i := 3) scTA.nd rfl (Or.inl rfl) pe_int)
      (pss_cons (ps_if (pt_cmpR op_lt (pe_ix ix_list (pv 0) pe_int (fun _ _ => rfl)) (pe_callB call_len_seq (by rfl) T.b_len PySem.boot_len (pa_cons (pe_ix ix_list (pv 0) pe_int (fun _ _ => rfl)) pa_nil)) (nomark _))
        (pss_one (ps_set (i := 3) scTA.nd rfl (Or.inl rfl) (pe_ix ix_list (pe_ix ix_list (pv 0) pe_int (fun _ _ => rfl)) (pe_ix ix_list (pv 0) pe_int (fun _ _ => rfl)) (fun _ _ => rfl)))) pss_nil)
      (pss_cons (ps_asg (pe_op op_add (pe_ix ix_list (pv 0) pe_int (fun _ _ => rfl)) pe_int) (pg_sub (pv 0) pe_int set_list))
      (pss_cons (ps_if (pt_cmpR op_ge (pv 3) (pe_op op_pow pe_int pe_int) (nomark _))
        (pss_cons (ps_asg (pe_op op_fdiv (pv 3) pe_int) (pg_sub (pv 0) pe_int set_list))
        (pss_one (ps_ret (pe_call GT hr rfl mT kT bT .nil pass0 (pa_cons (pv 0) (pa_cons (pv 1) pa_nil)))))) pss_nil)
      (pss_cons (ps_asg (pe_op op_modN (pe_callTy call_int1 (by rfl) T.b_int (by decide +kernel) (pa_cons (pe_op op_add (pe_op op_add (pe_op op_mul (pe_ix ix_list (pv 0) pe_int (fun _ _ => rfl)) pe_int) (pe_op op_mul (pv 3) pe_int)) (pe_op op_mul (pe_ix ix_list (pv 0) pe_int (fun _ _ => rfl)) pe_int)) pa_nil)) pe_int) (pg_sub (pv 0) pe_int set_list))
      (pss_cons (ps_set (i := 4) scTA.nd rfl (Or.inl rfl) (pe_op op_modN (pe_callTy call_int1 (by rfl) T.b_int (by decide +kernel) (pa_cons (pe_op op_add (pe_op op_add (pe_op op_mul (pe_ix ix_list (pv 0) pe_int (fun _ _ => rfl)) (pe_ix ix_list (pv 0) pe_int (fun _ _ => rfl))) (pe_op op_mul (pe_ix ix_list (pv 0) pe_int (fun _ _ => rfl)) pe_int)) pe_int) pa_nil)) pe_int))
      (pss_one (ps_ret (pe_op op_modN (pe_callTy call_int1 (by rfl) T.b_int (by decide +kernel) (pa_cons (pe_op op_fdiv (pv 4) pe_int) pa_nil)) (pv 1)))))))))), ?_⟩
    have keep : ∀ {H' : Hp} {pos' spare' seed' : Int}, But p H H' → H' p = some (.lst [.ref c, .int pos', .int spare', .int seed']) → 0 ≤ pos' → 0 ≤ spare' → 0 ≤ seed' → seed' < 2147483647 → PoolAt H' p c :=
      fun b e g1 g2 g3 g4 => ⟨cells, _, _, _, e, b _ _ hc ncp, hcells, hcl, g1, g2, g3, g4⟩
    refine ⟨_, rfl, p, _, _, _, rfl, rfl, SqL.of hp, at_of (j := 2) rfl rfl, _, _, rfl, rfl, _, rfl, ?_⟩
    by_cases hs : spare > 0
    · obtain ⟨d, ed, hd⟩ := fmod_nat spare h1
      refine ifT (decide_eq_true hs) ?_
      refine ⟨_, rfl, p, _, _, _, rfl, rfl, SqL.of hp, at_of (j := 2) rfl rfl, .inl ⟨_, rfl, _, rfl, _, _, rfl, rfl, by omega, ?_⟩⟩
      refine ⟨_, rfl, p, _, _, _, rfl, rfl, SqL.of hp, at_of (j := 2) rfl rfl, _, rfl, _, _, rfl, rfl, wide_div (b := 64) (by omega) (by omega) (by decide) (by decide), _, rfl, p, _, _, 2, rfl, rfl, hp, rfl, ?_⟩
      have hq : Q (.int ((d : Nat) : Int)) (upd H p (.lst [.ref c, .int pos, .int (spare / ((many : Nat) : Int)), .int seed])) := k _ d But.upd (keep But.upd upd_same hpos (Int.ediv_nonneg (by omega) (by omega)) hseed hseed2) hd
      rw [← ed] at hq
      exact ⟨_, rfl, hq⟩
    · refine ifF (decide_eq_false hs) ?_
      refine ⟨_, rfl, p, _, _, _, rfl, rfl, SqL.of hp, at_of (j := 1) rfl rfl, _, rfl, p, _, _, _, rfl, rfl, SqL.of hp, at_of (j := 0) rfl rfl, c, _, rfl, .inl (SqL.of hc), _, _, rfl, rfl, _, rfl, ?_⟩
      rcases (inferInstance : Decidable (pos < (((cells.map V.int).length : Nat) : Int))) with hlt | hlt
      case' isFalse =>
        refine ifF (decide_eq_false hlt) ?_
        obtain ⟨x, hx, hx0⟩ : ∃ x : Int, V.int 0 = V.int x ∧ 0 ≤ x := ⟨0, rfl, Int.le_refl 0⟩
        show (fun v => tSeq _ _ _ [_, _, _, some v, _] _) (V.int 0)
        rw [hx]
      case' isTrue =>
        have hlt' : pos.toNat < cells.length := by
          rw [List.length_map] at hlt
          omega
        have hx0 : 0 ≤ cells[pos.toNat] := hcells _ (List.getElem_mem hlt')
        have hcx : (cells.map V.int)[pos.toNat]? = some (V.int cells[pos.toNat]) := by rw [List.getElem?_map, List.getElem?_eq_getElem hlt']; rfl
        refine ifT (decide_eq_true hlt) ?_
        refine ⟨_, rfl, p, _, _, _, rfl, rfl, SqL.of hp, at_of (j := 0) rfl rfl, _, rfl, p, _, _, _, rfl, rfl, SqL.of hp, at_of (j := 1) rfl rfl, c, _, _, _, rfl, rfl, SqL.of hc, at_of (j := pos.toNat) (by omega) hcx, ?_⟩
        generalize cells[pos.toNat] = x at hx0 ⊢
      all_goals
        refine ⟨_, rfl, p, _, _, _, rfl, rfl, SqL.of hp, at_of (j := 1) rfl rfl, _, _, rfl, rfl, _, rfl, p, _, _, 1, rfl, rfl, hp, rfl, ?_⟩
        refine ⟨_, rfl, _, _, rfl, rfl, ⟨by decide, by decide, by decide⟩, _, _, rfl, rfl, _, rfl, ?_⟩
        rcases (inferInstance : Decidable (x ≥ 10 ^ (18 : Int).toNat)) with hb | hb
        · refine ifF (decide_eq_false hb) ?_
          -- pool[3] = int(..) % 2147483647
          refine ⟨_, rfl, p, _, _, _, rfl, rfl, SqL.of upd_same, at_of (j := 3) rfl rfl, _, _, rfl, rfl, .inr ⟨by decide, by decide⟩, _, rfl, _, _, rfl, rfl, .inr ⟨by decide, by decide⟩, _, _, rfl, rfl, _, rfl, p, _, _, _, rfl, rfl, SqL.of upd_same, at_of (j := 1) rfl rfl, _, _, rfl, rfl, .inr ⟨by decide, by decide⟩, _, _, rfl, rfl,
            .inl ⟨_, rfl, _, _, rfl, rfl, (by show (2147483647 : Int) ≠ 0; decide), _, rfl, p, _, _, 3, rfl, rfl, upd_same, rfl, ?_⟩⟩
          obtain ⟨sd, esd, hsd⟩ := fmod_nat (seed * 48271 + x * 69621 + (pos + 1) * 613) (m := 2147483647) (by decide)
          have esd' : (seed * 48271 + x * 69621 + (pos + 1) * 613).fmod 2147483647 = ((sd : Nat) : Int) := esd
          -- mixed
          refine ⟨_, rfl, p, _, _, _, rfl, rfl, SqL.of upd_same, at_of (j := 3) rfl rfl, _, rfl, p, _, _, _, rfl, rfl, SqL.of upd_same, at_of (j := 3) rfl rfl, _, _, rfl, rfl, .inl ⟨?_, ?_⟩, _, rfl, p, _, _, _, rfl, rfl, SqL.of upd_same, at_of (j := 3) rfl rfl, _, _, rfl, rfl, .inr ⟨by decide, by decide⟩, _, _, rfl, rfl, _, _, rfl, rfl,
            .inl ⟨_, rfl, _, _, rfl, rfl, (by show (1000000007 : Int) ≠ 0; decide), _, rfl, _, _, rfl, rfl, ⟨by decide, by decide⟩, .inl ⟨_, rfl, _, rfl, _, _, rfl, rfl, by omega, ?_⟩⟩⟩
          · show -(2 ^ 64) < (seed * 48271 + x * 69621 + (pos + 1) * 613).fmod 2147483647
            rw [esd']
            omega
          · show (seed * 48271 + x * 69621 + (pos + 1) * 613).fmod 2147483647 < 2 ^ 64
            rw [esd']
            omega
          · obtain ⟨d, ed, hd⟩ := fmod_nat ((((seed * 48271 + x * 69621 + (pos + 1) * 613).fmod 2147483647 * (seed * 48271 + x * 69621 + (pos + 1) * 613).fmod 2147483647 + (seed * 48271 + x * 69621 + (pos + 1) * 613).fmod 2147483647 * 7919 + 104729).fmod 1000000007) / 3) h1
            have hq : Q (.int ((d : Nat) : Int)) (upd (upd H p (.lst [.ref c, .int (pos + 1), .int spare, .int seed])) p (.lst [.ref c, .int (pos + 1), .int spare, .int ((seed * 48271 + x * 69621 + (pos + 1) * 613).fmod 2147483647)])) :=
              k _ d (But.trans But.upd But.upd) (keep (But.trans But.upd But.upd) upd_same (by omega) hspare (by rw [esd']; omega) (by rw [esd']; omega)) hd
            rw [← ed] at hq
            exact hq
        · refine ifT (decide_eq_true hb) ?_
          have hb' : (1000000000000000000 : Int) ≤ x := hb
          refine ⟨_, rfl, _, _, rfl, rfl, ⟨by decide, by decide⟩, _, rfl, p, _, _, 2, rfl, rfl, upd_same, rfl, ?_⟩
          refine ⟨_, rfl, _, rfl, p, c, [], pos + 1, x / 2, seed, many, rfl, upd_same, by omega, h1, h2, fun H' d spare' e h0 hd => ?_⟩
          rw [e]
          exact k _ d (But.trans (But.trans But.upd But.upd) But.upd) (keep (But.trans (But.trans But.upd But.upd) But.upd) upd_same (by omega) h0 hseed hseed2) hd

abbrev nmNU : List Str := ["_law_pool_here", "_law_many"]
theorem scNU : FnScope nmNU nmNU (defScope sNU) := ⟨rfl, rfl, rfl, by decide +kernel, rfl, by decide +kernel, by decide +kernel⟩
theorem ok_NU {f : Addr} {fd : FuncData} (F : Fun K "_law_number" "_law_number" sNU f fd) (DT : Cal P w K mg base "_law_take" 2 ["_law_pool_here", "_law_many"] spTA) : FnOk P w K mg base CX0 3 f fd ["_law_pool_here", "_law_many"] spTA := by
  obtain ⟨fT, fdT, GT, mT, kT, bT⟩ := DT
  refine F.ok scNU (fun vs H Q E h => ?_) (fun cdv A outer s H vs Q E hr h => ?_)
  · obtain ⟨p, c, many, rfl, _⟩ := h
    rfl
  · obtain ⟨p, c, many, rfl, hP, h1, h2, k⟩ := h
    refine ⟨_, pss_cons (ps_if (pt_cmpR op_gt (pe_call GT hr rfl mT kT bT .nil pass0 (pa_cons (pv 0) (pa_cons pe_int pa_nil))) pe_int (nomark _)) (pss_one (ps_ret (pe_op op_sub (pv 1) pe_int))) pss_nil)
      (pss_one (ps_ret (pe_call GT hr rfl mT kT bT .nil pass0 (pa_cons (pv 0) (pa_cons (pv 1) pa_nil))))), ?_⟩
    refine ⟨_, rfl, p, c, 3, rfl, hP, by decide, by decide, fun H1 d b1 P1 hd => ⟨_, _, rfl, rfl, _, rfl, ?_⟩⟩
    rcases (inferInstance : Decidable (((d : Nat) : Int) > 0)) with hc | hc
    · exact ifF (decide_eq_false hc) ⟨_, rfl, _, rfl, p, c, many, rfl, P1, h1, h2, fun H2 d2 b2 P2 hd2 => k _ d2 (But.trans b1 b2) P2 hd2⟩
    · refine ifT (decide_eq_true hc) ⟨_, rfl, _, _, rfl, rfl, ?_⟩
      have hq := k H1 (many - 1) b1 P1 (by omega)
      have e : (((many - 1 : Nat)) : Int) = ((many : Nat) : Int) - 1 := by omega
      rw [e] at hq
      exact hq

abbrev nmWR : List Str := ["_law_pool_here", "_law_signs", "_law_kind", "_law_many", "_law_row", "_law_k"]
theorem scWR : FnScope nmWR ["_law_pool_here"] (defScope sWR) := ⟨rfl, rfl, rfl, by decide +kernel, rfl, by decide +kernel, by decide +kernel⟩
theorem flat_one (zs : List Nat) : (zs.map fun c => [c]).flatten = zs := by
  induction zs with
  | nil => rfl
  | cons c r ih => rw [List.map_cons, List.flatten_cons, ih]; rfl
theorem ok_WR {f : Addr} {fd : FuncData} (F : Fun K "_law_written" "_law_written" sWR f fd) (T : Txt K w mg C) (DT : Cal P w K mg base "_law_take" 2 ["_law_pool_here", "_law_many"] spTA) : FnOk P w K mg base CX0 3 f fd ["_law_pool_here"] spWR := by
  obtain ⟨fT, fdT, GT, mT, kT, bT⟩ := DT
  refine F.ok scWR (fun vs H Q E h => ?_) (fun cdv A outer s H vs Q E hr h => ?_)
  · obtain ⟨p, c, rfl, _⟩ := h
    rfl
  · obtain ⟨p, c, rfl, hP, k⟩ := h
    refine ⟨_, pss_cons (ps_set (i := 1) scWR.nd rfl (Or.inl rfl) pe_str)
      (pss_cons (ps_set (i := 2) scWR.nd rfl (Or.inl rfl) (pe_call GT hr rfl mT kT bT .nil pass0 (pa_cons (pv 0) (pa_cons pe_int pa_nil))))
      (pss_cons (ps_set (i := 3) scWR.nd rfl (Or.inl rfl) (pe_call GT hr rfl mT kT bT .nil pass0 (pa_cons (pv 0) (pa_cons pe_int pa_nil))))
      (pss_cons (ps_if (pt_cmpR op_eq (pv 2) pe_int (nomark _)) (pss_one (ps_set (i := 3) scWR.nd rfl (Or.inl rfl) (pe_call GT hr rfl mT kT bT .nil pass0 (pa_cons (pv 0) (pa_cons pe_int pa_nil))))) pss_nil)
      (pss_cons (ps_set (i := 4) scWR.nd rfl (Or.inl rfl) (pe_lst pa_nil))
      (pss_cons (ps_for PassesOwn.never rfl (pi_range1 (by rfl) T.b_range (pa_cons (pv 3) pa_nil)) (pg_name (i := 5) scWR.nd rfl (Or.inl rfl))
        (pss_one (ps_if (pt_cmpR op_lt (pv 2) pe_int (nomark _))
          (pss_one (ps_expr (pe_bm PySem.F.plainAttrs_list PySem.F.slot_list_append PySem.F.type_list_append mt_append (pv 4) (pa_cons (pe_ix ix_str (pv 1) (pe_call GT hr rfl mT kT bT .nil pass0 (pa_cons (pv 0) (pa_cons pe_int pa_nil))) (fun _ _ => rfl)) pa_nil))))
          (pss_one (ps_expr (pe_bm PySem.F.plainAttrs_list PySem.F.slot_list_append PySem.F.type_list_append mt_append (pv 4) (pa_cons (pe_ix ix_str pe_str (pe_call GT hr rfl mT kT bT .nil pass0 (pa_cons (pv 0) (pa_cons pe_int pa_nil))) (fun _ _ => rfl)) pa_nil)))))))
      (pss_one (ps_ret (pe_join pe_str (pv 4))))))))), ?_⟩
    refine ⟨_, rfl, p, c, 6, rfl, hP, by decide, by decide, fun H1 kind b1 P1 hkind => ?_⟩
    refine ⟨_, rfl, p, c, 6, rfl, P1, by decide, by decide, fun H2 many b2 P2 hmany => ?_⟩
    have b12 := But.trans b1 b2
    refine ⟨_, rfl, rfl, _, rfl, ?_⟩
    rcases (inferInstance : Decidable (V.int ((kind : Nat) : Int) = V.int 0)) with hc | hc
    case' isFalse =>
      refine ifF (decide_eq_false hc) ?_
      obtain ⟨mm, hmm⟩ : ∃ mm, mm = many := ⟨_, rfl⟩
      have hm64 : mm ≤ 64 := by omega
      rw [← hmm]
      obtain ⟨H3, hH3⟩ : ∃ H3, H3 = H2 := ⟨_, rfl⟩
      rw [← hH3]
      rw [← hH3] at b12 P2
    case' isTrue =>
      refine ifT (decide_eq_true hc) ⟨_, rfl, p, c, 65, rfl, P2, by decide, by decide, fun H3 mm b3 P3 hmm => ?_⟩
      have hm64 : mm ≤ 64 := by omega
      replace b12 := But.trans b12 b3
      replace P2 := P3
    all_goals
      refine ⟨Nat.zero_le _, fun D hD => ?_⟩
      have nD := P2.new hD
      have hD0 : ∀ {o : HO}, H D = some o → False := fun {o} e => by
        have := b12 _ _ e nD.1
        rw [hD] at this
        cases this
      refine ⟨_, rfl, _, rfl, by omega, by omega, for_range (lo := 0) (n := mm) (fun i σ H' => ∃ (v5 : Option V) (zs : List Nat), σ = [some (.ref p), some (.str lettersS), some (.int (kind : Nat)), some (.int (mm : Nat)), some (.ref D), v5] ∧
        But p H H' ∧ PoolAt H' p c ∧ H' D = some (.lst (txsV (zs.map fun c => [c]))) ∧ zs.length = i ∧ ∀ c ∈ zs, c ∈ L94) ⟨none, [], rfl, But.then b12 (Same.new hD), P2.keep (Same.new hD), upd_same, rfl, fun c hc => by simp at hc⟩ ?_ ?_⟩
      · rintro i σ H' hi ⟨v5, zs, rfl, bw, PW, hL, hzl, hzs⟩
        have hlt : (txsV (zs.map fun c => [c])).length < sizeLine := by
          rw [txsV_length, List.length_map, hzl, sizeLine_eq]
          omega
        have step : ∀ (H4 : Hp) (g : Nat), But p H' H4 → PoolAt H4 p c → g ∈ L94 → ∃ (v5' : Option V) (zs' : List Nat), [some (V.ref p), some (.str lettersS), some (.int (kind : Nat)), some (.int (mm : Nat)), some (.ref D), some (.int ((0 : Int) + (i : Nat)))] = [some (V.ref p), some (.str lettersS), some (.int (kind : Nat)), some (.int (mm : Nat)), some (.ref D), v5'] ∧
            But p H (upd H4 D (.lst (txsV (zs.map fun c => [c]) ++ [V.str ⟨#[g]⟩]))) ∧ PoolAt (upd H4 D (.lst (txsV (zs.map fun c => [c]) ++ [V.str ⟨#[g]⟩]))) p c ∧ (upd H4 D (.lst (txsV (zs.map fun c => [c]) ++ [V.str ⟨#[g]⟩]))) D = some (.lst (txsV (zs'.map fun c => [c]))) ∧ zs'.length = i + 1 ∧ ∀ c ∈ zs', c ∈ L94 := by
          intro H4 g b4 P4 hcL
          refine ⟨_, zs ++ [g], rfl, fun b o e n => ?_, P4.upd nD, ?_, by rw [List.length_append, hzl]; rfl, fun x hx => ?_⟩
          · rw [upd_ne (fun q => hD0 (by rw [q] at e; exact e))]
            exact b4 _ _ (bw _ _ e n) n
          · rw [upd_same, List.map_append, txsV_app]
            rfl
          · rcases List.mem_append.mp hx with h | h
            · exact hzs x h
            · rw [List.mem_singleton.mp h]
              exact hcL
        refine ⟨_, rfl, _, _, rfl, rfl, _, rfl, ?_⟩
        rcases (inferInstance : Decidable (((kind : Nat) : Int) < 3)) with hk | hk
        · refine ifF (decide_eq_false hk) ?_
          refine ⟨_, rfl, .inl ⟨rfl, _, SqL.of hL⟩, _, rfl, p, c, 2, rfl, PW, by decide, by decide, fun H4 d b4 P4 hd => ?_⟩
          obtain ⟨g, hg, hgL⟩ : ∃ g, ("ab" : Str).cps.toList[d]? = some g ∧ g ∈ L94 := by
            rw [cps_ab]
            match d, hd with
            | 0, _ => exact ⟨97, rfl, in97⟩
            | 1, _ => exact ⟨98, rfl, in98⟩
          refine ⟨_, _, g, rfl, rfl, (by decide +kernel), atI_nat hg, D, _, _, rfl, rfl, b4 _ _ hL nD.1, hlt, ?_⟩
          exact step H4 g b4 P4 hgL
        · refine ifT (decide_eq_true hk) ?_
          refine ⟨_, rfl, .inl ⟨rfl, _, SqL.of hL⟩, _, rfl, _, rfl, p, c, 94, rfl, PW, by decide, by decide, fun H4 d b4 P4 hd => ?_⟩
          have hg : L94[d]? = some (L94[d]'(by rw [lens94]; exact hd)) := List.getElem?_eq_getElem _
          refine ⟨_, _, _, rfl, rfl, (by decide +kernel), atI_nat hg, D, _, _, rfl, rfl, b4 _ _ hL nD.1, hlt, ?_⟩
          exact step H4 _ b4 P4 (List.getElem_mem _)
      · rintro σ H' ⟨v5, zs, rfl, bw, PW, hL, hzl, hzs⟩
        refine ⟨⟨_, rfl⟩, _, rfl, _, D, (zs.map fun c => [c]).map tx, rfl, rfl, .inl (SqL.of ?_), ?_, ?_⟩
        · rw [List.map_map]
          exact hL
        · rw [sum_lens, flat_one]
          have e0 : ("" : Str).length = 0 := by decide +kernel
          rw [e0]
          omega
        · rw [join_tx, flat_one]
          exact k _ zs bw PW (by omega) hzs

/-! ### the law's next rule, and what it makes -/
abbrev nmNE : List Str := ["_law_pool_here", "_law_texts", "_law_most", "_law_kind", "_law_first", "_law_size", "_law_second", "_law_times", "_law_start"]
theorem scNE : FnScope nmNE ["_law_pool_here", "_law_texts", "_law_most"] (defScope sNE) := ⟨rfl, rfl, rfl, by decide +kernel, rfl, by decide +kernel, by decide +kernel⟩
theorem menu {d : Nat} (hd : d < 4) : ∃ tm : Nat, ([V.int 0, V.int 1, V.int 7, V.int (10 ^ (12 : Int).toNat)] : List V)[d]? = some (V.int ((tm : Nat) : Int)) ∧ tm ≤ 1000000000000 := by
  match d, hd with
  | 0, _ => exact ⟨0, rfl, by decide⟩
  | 1, _ => exact ⟨1, rfl, by decide⟩
  | 2, _ => exact ⟨7, rfl, by decide⟩
  | 3, _ => exact ⟨1000000000000, rfl, by decide⟩
theorem ok_NE {f : Addr} {fd : FuncData} (F : Fun K "_law_next" "_law_next" sNE f fd) (T : Txt K w mg C) (DT : Cal P w K mg base "_law_take" 2 ["_law_pool_here", "_law_many"] spTA)
    (DW : Cal P w K mg base "_law_written" 3 ["_law_pool_here"] spWR) (DN : Cal P w K mg base "_law_number" 3 ["_law_pool_here", "_law_many"] spTA) : FnOk P w K mg base CX0 4 f fd ["_law_pool_here", "_law_texts", "_law_most"] spNE := by
  obtain ⟨fT, fdT, GT, mT, kT, bT⟩ := DT
  obtain ⟨fW, fdW, GW, mW, kW, bW⟩ := DW
  obtain ⟨fN, fdN, GN, mN, kN, bN⟩ := DN
  refine F.ok scNE (fun vs H Q E h => ?_) (fun cdv A outer s H vs Q E hr h => ?_)
  · obtain ⟨p, c, l, ts, rfl, _⟩ := h
    rfl
  · obtain ⟨p, c, l, ts, rfl, hP, hl, h400, h60, k⟩ := h
    have hr2 : Room 2 _ := hr.mono (by decide)
    have nlp : l ≠ p := hP.neX hl
    refine ⟨_, pss_cons (ps_set (i := 3) scNE.nd rfl (Or.inl rfl) (pe_call GT hr2 rfl mT kT bT .nil pass0 (pa_cons (pv 0) (pa_cons pe_int pa_nil))))
      (pss_cons (ps_if (PW.pt (pw_or (pt_cmpR op_eq (pv 3) pe_int (nomark _)) (pw_or1 (pt_not (pt_truth (pv 1) (by intro _; rfl))))))
        (pss_one (ps_ret (pe_tup (pa_cons pe_str (pa_cons (pe_call GW hr rfl mW kW bW .nil pass0 (pa_cons (pv 0) pa_nil)) pa_nil))))) pss_nil)
      (pss_cons (ps_set (i := 4) scNE.nd rfl (Or.inl rfl) (pe_call GN hr rfl mN kN bN .nil pass0 (pa_cons (pv 0) (pa_cons (pe_callB call_len_seq (by rfl) T.b_len PySem.boot_len (pa_cons (pv 1) pa_nil)) pa_nil))))
      (pss_cons (ps_set (i := 5) scNE.nd rfl (Or.inl rfl) (pe_callB call_len_str (by rfl) T.b_len PySem.boot_len (pa_cons (pe_ix ix_list (pv 1) (pv 4) (fun _ _ => rfl)) pa_nil)))
      (C8.pss_cut (ps_if (pt_cmpR op_lt (pv 3) pe_int (nomark _))
        (pss_cons (ps_set (i := 6) scNE.nd rfl (Or.inl rfl) (pe_call GT hr2 rfl mT kT bT .nil pass0 (pa_cons (pv 0) (pa_cons (pe_callB call_len_seq (by rfl) T.b_len PySem.boot_len (pa_cons (pv 1) pa_nil)) pa_nil))))
        (C8.pss_cut (ps_if (pt_cmpR op_eq (pe_call GT hr2 rfl mT kT bT .nil pass0 (pa_cons (pv 0) (pa_cons pe_int pa_nil))) pe_int (nomark _))
          (pss_cons (ps_par (i := 4) (j := 6) (by rfl) scNE.nd rfl rfl (by decide) rfl rfl (pa_cons (pv 6) (pa_cons (pv 4) pa_nil)) (by rfl))
          (pss_one (ps_set (i := 5) scNE.nd rfl (Or.inl rfl) (pe_callB call_len_str (by rfl) T.b_len PySem.boot_len (pa_cons (pe_ix ix_list (pv 1) (pv 4) (fun _ _ => rfl)) pa_nil))))) pss_nil)
        (pss_one (ps_if (pt_cmpR op_le (pe_op op_add (pe_callB call_len_str (by rfl) T.b_len PySem.boot_len (pa_cons (pe_ix ix_list (pv 1) (pv 4) (fun _ _ => rfl)) pa_nil)) (pe_callB call_len_str (by rfl) T.b_len PySem.boot_len (pa_cons (pe_ix ix_list (pv 1) (pv 6) (fun _ _ => rfl)) pa_nil))) (pv 2) (nomark _))
          (pss_one (ps_ret (pe_tup (pa_cons pe_str (pa_cons (pv 4) (pa_cons (pv 6) pa_nil)))))) pss_nil)))) pss_nil)
      (C8.pss_cut (ps_if (pt_cmpR op_eq (pv 3) pe_int (nomark _))
        (pss_cons (ps_set (i := 7) scNE.nd rfl (Or.inl rfl) (pe_call GT hr2 rfl mT kT bT .nil pass0 (pa_cons (pv 0) (pa_cons pe_int pa_nil))))
        (C8.pss_cut (ps_if (pt_cmpR op_eq (pv 5) pe_int (nomark _))
          (pss_one (ps_set (i := 7) scNE.nd rfl (Or.inl rfl) (pe_ix ix_tup (pe_tup (pa_cons pe_int (pa_cons pe_int (pa_cons pe_int (pa_cons (pe_op op_pow pe_int pe_int) pa_nil))))) (pe_call GT hr2 rfl mT kT bT .nil pass0 (pa_cons (pv 0) (pa_cons pe_int pa_nil))) (fun _ _ => rfl)))) pss_nil)
        (pss_one (ps_if (pt_cmpR op_le (pe_op op_mul (pv 5) (pv 7)) (pv 2) (nomark _))
          (pss_one (ps_ret (pe_tup (pa_cons pe_str (pa_cons (pv 4) (pa_cons (pv 7) pa_nil)))))) pss_nil)))) pss_nil)
      (pss_cons (ps_if (pt_cmpR op_lt (pv 3) pe_int (nomark _))
        (pss_cons (ps_set (i := 8) scNE.nd rfl (Or.inl rfl) (pe_call GT hr2 rfl mT kT bT .nil pass0 (pa_cons (pv 0) (pa_cons (pe_op op_add (pv 5) pe_int) pa_nil))))
        (pss_one (ps_ret (pe_tup (pa_cons pe_str (pa_cons (pv 4) (pa_cons (pv 8) (pa_cons (pe_op op_add (pv 8) (pe_call GT hr2 rfl mT kT bT .nil pass0 (pa_cons (pv 0) (pa_cons (pe_op op_add (pe_op op_sub (pv 5) (pv 8)) pe_int) pa_nil)))) pa_nil)))))))) pss_nil)
      (pss_one (ps_ret (pe_tup (pa_cons pe_str (pa_cons (pv 4) pa_nil))))))))))), ?_⟩
    -- kind = take(pool, 7)
    refine ⟨_, rfl, p, c, 7, rfl, hP, by decide, by decide, fun H1 kind b1 P1 hkind => ?_⟩
    have hl1 := b1 _ _ hl nlp
    refine ⟨_, rfl, rfl, _, rfl, ?_⟩
    rcases (inferInstance : Decidable (V.int ((kind : Nat) : Int) = V.int 0)) with hk0 | hk0
    case isTrue =>
      refine ifT (decide_eq_true hk0) (ifT rfl ?_)
      refine ⟨_, rfl, p, c, rfl, P1, fun H2 z b2 P2 hz hzL => ⟨(by show 2 ≤ sizeLine; decide), fun q hq => ?_⟩⟩
      exact k _ q (.lit z) z (But.then (But.trans b1 b2) (Same.new hq)) (P2.keep (Same.new hq)) upd_same ⟨rfl, hz, hzL⟩ (by omega)
    refine ifF (decide_eq_false hk0) ?_
    refine ⟨_, rfl, _, .inl ⟨_, SqL.of hl1, rfl⟩, ?_⟩
    by_cases hts : ts = []
    · subst hts
      refine ifT rfl ?_
      refine ⟨_, rfl, p, c, rfl, P1, fun H2 z b2 P2 hz hzL => ⟨(by show 2 ≤ sizeLine; decide), fun q hq => ?_⟩⟩
      exact k _ q (.lit z) z (But.then (But.trans b1 b2) (Same.new hq)) (P2.keep (Same.new hq)) upd_same ⟨rfl, hz, hzL⟩ (by omega)
    have hne : 1 ≤ ts.length := by
      cases ts with
      | nil => exact absurd rfl hts
      | cons a r => simp
    have hem : (!(!(txsV ts).isEmpty)) = false := by
      cases ts with
      | nil => exact absurd rfl hts
      | cons a r => rfl
    refine ifF hem ?_
    -- first = number(pool, len(texts)); size = len(texts[first])
    refine ⟨_, rfl, _, rfl, l, _, rfl, .inl (SqL.of hl1), p, c, ts.length, by rw [txsV_length]; rfl, P1, hne, by omega, fun H2 fi b2 P2 hfi => ?_⟩
    have b12 := But.trans b1 b2
    have hl2 := b12 _ _ hl nlp
    have get : ∀ {i : Nat}, i < ts.length → ∃ u, ts[i]? = some u ∧ u.length ≤ 400 := fun {i} hi => ⟨ts[i], List.getElem?_eq_getElem hi, h400 _ (List.getElem_mem hi)⟩
    obtain ⟨u, hu, hu4⟩ := get hfi
    refine ⟨_, rfl, _, rfl, l, _, _, _, rfl, rfl, SqL.of hl2, at_of (j := fi) rfl (txsV_get hu), _, rfl, by rw [tx_len, sizeLine_eq]; omega, ?_⟩
    -- if kind < 3: ..
    refine ⟨fun σ H' => ∃ (fi : Nat) (u : List Nat) (v6 : Option V), σ = [some (.ref p), some (.ref l), some (.int 400), some (.int (kind : Nat)), some (.int (fi : Nat)), some (.int (u.length : Nat)), v6, none, none] ∧ But p H H' ∧ PoolAt H' p c ∧ ts[fi]? = some u ∧ u.length ≤ 400, ?_, ?_⟩
    · refine ⟨_, rfl, _, _, rfl, rfl, _, rfl, ?_⟩
      rcases (inferInstance : Decidable (((kind : Nat) : Int) < 3)) with hk3 | hk3
      · exact ifF (decide_eq_false hk3) ⟨fi, u, none, rfl, b12, P2, hu, hu4⟩
      refine ifT (decide_eq_true hk3) ?_
      refine ⟨_, rfl, _, rfl, l, _, rfl, .inl (SqL.of hl2), p, c, ts.length, by rw [txsV_length]; rfl, P2, hne, by omega, fun H3 se b3 P3 hse => ?_⟩
      have b13 := But.trans b12 b3
      have hl3 := b13 _ _ hl nlp
      obtain ⟨v, hv, hv4⟩ := get hse
      refine ⟨fun σ H' => ∃ (fi se : Nat) (u v : List Nat), σ = [some (.ref p), some (.ref l), some (.int 400), some (.int (kind : Nat)), some (.int (fi : Nat)), some (.int (u.length : Nat)), some (.int (se : Nat)), none, none] ∧ But p H H' ∧ PoolAt H' p c ∧ ts[fi]? = some u ∧ u.length ≤ 400 ∧ ts[se]? = some v ∧ v.length ≤ 400, ?_, ?_⟩
      · refine ⟨_, rfl, p, c, 2, rfl, P3, by decide, by decide, fun H4 d b4 P4 hd => ⟨rfl, _, rfl, ?_⟩⟩
        have b14 := But.trans b13 b4
        rcases (inferInstance : Decidable (V.int ((d : Nat) : Int) = V.int 1)) with hd1 | hd1
        · exact ifF (decide_eq_false hd1) ⟨fi, se, u, v, rfl, b14, P4, hu, hu4, hv, hv4⟩
        · refine ifT (decide_eq_true hd1) ?_
          refine ⟨_, rfl, _, rfl, _, _, rfl, ?_⟩
          refine ⟨_, rfl, _, rfl, l, _, _, _, rfl, rfl, SqL.of (b14 _ _ hl nlp), at_of (j := se) rfl (txsV_get hv), _, rfl, by rw [tx_len, sizeLine_eq]; omega, ?_⟩
          exact ⟨se, fi, v, u, rfl, b14, P4, hv, hv4, hu, hu4⟩
      · rintro σ H' ⟨fi, se, u, v, rfl, bw, PW, hu, hu4, hv, hv4⟩
        have hlw := bw _ _ hl nlp
        refine ⟨_, rfl, _, rfl, l, _, _, _, rfl, rfl, SqL.of hlw, at_of (j := fi) rfl (txsV_get hu), _, rfl, by rw [tx_len, sizeLine_eq]; omega,
          _, rfl, _, rfl, l, _, _, _, rfl, rfl, SqL.of hlw, at_of (j := se) rfl (txsV_get hv), _, rfl, by rw [tx_len, sizeLine_eq]; omega, _, _, rfl, rfl, _, rfl, _, _, rfl, rfl, _, rfl, ?_⟩
        rcases (inferInstance : Decidable ((((tx u).length : Nat) : Int) + (((tx v).length : Nat) : Int) ≤ 400)) with hle | hle
        · exact ifF (decide_eq_false hle) ⟨fi, u, _, rfl, bw, PW, hu, hu4⟩
        · refine ifT (decide_eq_true hle) ⟨_, rfl, _, rfl, (by show 3 ≤ sizeLine; decide), fun q hq => ?_⟩
          rw [tx_len, tx_len] at hle
          exact k _ q (.join fi se) (u ++ v) (But.then bw (Same.new hq)) (PW.keep (Same.new hq)) upd_same ⟨u, v, (List.getElem?_eq_some_iff.mp hu).1, (List.getElem?_eq_some_iff.mp hv).1, hu, hv, rfl⟩ (by rw [List.length_append]; omega)
    rintro σ H' ⟨fi, u, v6, rfl, bw, PW, hu, hu4⟩
    have hfi := (List.getElem?_eq_some_iff.mp hu).1
    -- if kind == 3: ..
    refine ⟨fun σ H' => ∃ (v7 : Option V), σ = [some (.ref p), some (.ref l), some (.int 400), some (.int (kind : Nat)), some (.int (fi : Nat)), some (.int (u.length : Nat)), v6, v7, none] ∧ But p H H' ∧ PoolAt H' p c, ?_, ?_⟩
    · refine ⟨_, rfl, rfl, _, rfl, ?_⟩
      rcases (inferInstance : Decidable (V.int ((kind : Nat) : Int) = V.int 3)) with hk3 | hk3
      · exact ifF (decide_eq_false hk3) ⟨none, rfl, bw, PW⟩
      refine ifT (decide_eq_true hk3) ?_
      refine ⟨_, rfl, p, c, 6, rfl, PW, by decide, by decide, fun H3 t0 b3 P3 ht0 => ?_⟩
      have b13 := But.trans bw b3
      refine ⟨fun σ H' => ∃ (tm : Nat), σ = [some (.ref p), some (.ref l), some (.int 400), some (.int (kind : Nat)), some (.int (fi : Nat)), some (.int (u.length : Nat)), v6, some (.int (tm : Nat)), none] ∧ tm ≤ 1000000000000 ∧ But p H H' ∧ PoolAt H' p c, ?_, ?_⟩
      · refine ⟨_, rfl, rfl, _, rfl, ?_⟩
        rcases (inferInstance : Decidable (V.int ((u.length : Nat) : Int) = V.int 0)) with hz | hz
        · exact ifF (decide_eq_false hz) ⟨t0, rfl, by omega, b13, P3⟩
        · refine ifT (decide_eq_true hz) ?_
          refine ⟨_, _, rfl, rfl, ⟨by decide, by decide, by decide⟩, (by show 4 ≤ sizeLine; decide), fun T1 hT1 => ?_⟩
          refine ⟨_, rfl, p, c, 4, rfl, P3.keep (Same.new hT1), by decide, by decide, fun H4 d b4 P4 hd => ?_⟩
          obtain ⟨tm, htm, htm2⟩ := menu hd
          have nT := (P3.new hT1).1
          refine ⟨T1, _, _, _, rfl, rfl, SqT.of (b4 _ _ upd_same nT), at_of (j := d) rfl htm, ?_⟩
          exact ⟨tm, rfl, htm2, But.trans (But.then b13 (Same.new hT1)) b4, P4⟩
      · rintro σ H5 ⟨tm, rfl, htm, b5, P5⟩
        refine ⟨_, rfl, _, rfl, _, _, rfl, rfl, .inl ⟨by omega, by omega⟩, _, rfl, _, _, rfl, rfl, _, rfl, ?_⟩
        rcases (inferInstance : Decidable (((u.length : Nat) : Int) * ((tm : Nat) : Int) ≤ 400)) with hle | hle
        · exact ifF (decide_eq_false hle) ⟨_, rfl, b5, P5⟩
        · refine ifT (decide_eq_true hle) ⟨_, rfl, _, rfl, (by show 3 ≤ sizeLine; decide), fun q hq => ?_⟩
          have hle' : tm * u.length ≤ 400 := by
            rw [← Int.natCast_mul, Nat.mul_comm] at hle
            omega
          exact k _ q (.pow fi tm) (rep tm u) (But.then b5 (Same.new hq)) (P5.keep (Same.new hq)) upd_same ⟨u, hfi, hu, htm, rfl⟩ (by rw [rep_length]; exact hle')
    rintro σ H6 ⟨v7, rfl, b6, P6⟩
    -- if kind < 6: ..
    refine ⟨_, rfl, _, _, rfl, rfl, _, rfl, ?_⟩
    rcases (inferInstance : Decidable (((kind : Nat) : Int) < 6)) with hk6 | hk6
    · refine ifF (decide_eq_false hk6) ⟨_, rfl, (by show 2 ≤ sizeLine; decide), fun q hq => ?_⟩
      exact k _ q (.back fi) u.reverse (But.then b6 (Same.new hq)) (P6.keep (Same.new hq)) upd_same ⟨u, hfi, hu, rfl⟩ (by rw [List.length_reverse]; exact hu4)
    · refine ifT (decide_eq_true hk6) ?_
      refine ⟨_, rfl, _, rfl, _, _, rfl, rfl, p, c, u.length + 1, rfl, P6, by omega, by omega, fun H7 st b7 P7 hst => ?_⟩
      have e8 : ((u.length : Nat) : Int) - ((st : Nat) : Int) + 1 = ((u.length - st + 1 : Nat) : Int) := by omega
      refine ⟨_, rfl, _, rfl, _, rfl, _, rfl, _, rfl, _, rfl, _, _, rfl, rfl, _, _, rfl, rfl, p, c, u.length - st + 1, ?_, P7, by omega, by omega, fun H8 ln b8 P8 hln => ?_⟩
      · show [V.ref p, V.int (((u.length : Nat) : Int) - ((st : Nat) : Int) + 1)] = _
        rw [e8]
      · refine ⟨_, _, rfl, rfl, (by show 4 ≤ sizeLine; decide), fun q hq => ?_⟩
        exact k _ q (.part fi st (st + ln)) (slice u st (st + ln)) (But.then (But.trans (But.trans b6 b7) b8) (Same.new hq)) (P8.keep (Same.new hq)) upd_same ⟨u, hfi, hu, by omega, by omega, rfl⟩ (by rw [slice_length (by omega)]; omega)

theorem scMA : FnScope ["_law_texts", "_law_rule"] ["_law_texts", "_law_rule"] (defScope sMA) := ⟨rfl, rfl, rfl, by decide +kernel, rfl, by decide +kernel, by decide +kernel⟩
theorem ok_MA {f : Addr} {fd : FuncData} (F : Fun K "_law_made" "_law_made" sMA f fd) : FnOk P w K mg base CX0 1 f fd ["_law_texts", "_law_rule"] spMA := by
  refine F.ok scMA (fun vs H Q E h => ?_) (fun cdv A outer s H vs Q E hr h => ?_)
  · obtain ⟨l, q, ts, r, t, rfl, _⟩ := h
    rfl
  · obtain ⟨l, q, ts, r, t, rfl, hl, hp, hR, ht, h400, k⟩ := h
    refine ⟨_, pss_cons (ps_if (pt_cmpR op_eq (pe_ix ix_tup (pv 1) pe_int (fun _ _ => rfl)) pe_str (nomark _)) (pss_one (ps_ret (pe_ix ix_tup (pv 1) pe_int (fun _ _ => rfl)))) pss_nil)
      (pss_cons (ps_if (pt_cmpR op_eq (pe_ix ix_tup (pv 1) pe_int (fun _ _ => rfl)) pe_str (nomark _)) (pss_one (ps_ret (pe_op op_add_str (pe_ix ix_list (pv 0) (pe_ix ix_tup (pv 1) pe_int (fun _ _ => rfl)) (fun _ _ => rfl)) (pe_ix ix_list (pv 0) (pe_ix ix_tup (pv 1) pe_int (fun _ _ => rfl)) (fun _ _ => rfl))))) pss_nil)
      (pss_cons (ps_if (pt_cmpR op_eq (pe_ix ix_tup (pv 1) pe_int (fun _ _ => rfl)) pe_str (nomark _))
        (pss_cons (ps_if (pt_cmpR op_eq (pe_ix ix_list (pv 0) (pe_ix ix_tup (pv 1) pe_int (fun _ _ => rfl)) (fun _ _ => rfl)) pe_str (nomark _)) (pss_one (ps_ret pe_str)) pss_nil)
        (pss_one (ps_ret (pe_op op_mulS (pe_ix ix_list (pv 0) (pe_ix ix_tup (pv 1) pe_int (fun _ _ => rfl)) (fun _ _ => rfl)) (pe_ix ix_tup (pv 1) pe_int (fun _ _ => rfl)))))) pss_nil)
      (pss_cons (ps_if (pt_cmpR op_eq (pe_ix ix_tup (pv 1) pe_int (fun _ _ => rfl)) pe_str (nomark _)) (pss_one (ps_ret (pe_slice sl_str (pe_ix ix_list (pv 0) (pe_ix ix_tup (pv 1) pe_int (fun _ _ => rfl)) (fun _ _ => rfl)) (po_some (pe_ix ix_tup (pv 1) pe_int (fun _ _ => rfl))) (po_some (pe_ix ix_tup (pv 1) pe_int (fun _ _ => rfl)))))) pss_nil)
      (pss_one (ps_ret (pe_revS (pe_ix ix_list (pv 0) (pe_ix ix_tup (pv 1) pe_int (fun _ _ => rfl)) (fun _ _ => rfl)))))))), ?_⟩
    have g4 : ∀ {i : Nat} {u : List Nat}, ts[i]? = some u → u.length ≤ 400 := fun hu => h400 _ (List.mem_of_getElem? hu)
    cases r with
    | lit z =>
      obtain ⟨rfl, _⟩ := hR
      refine ⟨_, rfl, q, _, _, _, rfl, rfl, SqT.of hp, at_of (j := 0) rfl rfl, rfl, _, rfl, ifT (by decide +kernel) ?_⟩
      exact ⟨_, rfl, q, _, _, _, rfl, rfl, SqT.of hp, at_of (j := 1) rfl rfl, k⟩
    | join a b =>
      obtain ⟨u, v, _, _, hu, hv, rfl⟩ := hR
      refine ⟨_, rfl, q, _, _, _, rfl, rfl, SqT.of hp, at_of (j := 0) rfl rfl, rfl, _, rfl, ifF (by decide +kernel) ?_⟩
      refine ⟨_, rfl, q, _, _, _, rfl, rfl, SqT.of hp, at_of (j := 0) rfl rfl, rfl, _, rfl, ifT (by decide +kernel) ?_⟩
      refine ⟨_, rfl, _, rfl, q, _, _, _, rfl, rfl, SqT.of hp, at_of (j := 1) rfl rfl, l, _, _, _, rfl, rfl, SqL.of hl, at_of (j := a) rfl (txsV_get hu), _, rfl, _, rfl, q, _, _, _, rfl, rfl, SqT.of hp, at_of (j := 2) rfl rfl, l, _, _, _, rfl, rfl, SqL.of hl, at_of (j := b) rfl (txsV_get hv), _, _, rfl, rfl, ?_, ?_⟩
      · rw [tx_len, tx_len, sizeLine_eq]
        rw [List.length_append] at ht
        omega
      · rw [tx_app]
        exact k
    | pow a m =>
      obtain ⟨u, _, hu, hm, rfl⟩ := hR
      refine ⟨_, rfl, q, _, _, _, rfl, rfl, SqT.of hp, at_of (j := 0) rfl rfl, rfl, _, rfl, ifF (by decide +kernel) ?_⟩
      refine ⟨_, rfl, q, _, _, _, rfl, rfl, SqT.of hp, at_of (j := 0) rfl rfl, rfl, _, rfl, ifF (by decide +kernel) ?_⟩
      refine ⟨_, rfl, q, _, _, _, rfl, rfl, SqT.of hp, at_of (j := 0) rfl rfl, rfl, _, rfl, ifT (by decide +kernel) ?_⟩
      refine ⟨_, rfl, _, rfl, q, _, _, _, rfl, rfl, SqT.of hp, at_of (j := 1) rfl rfl, l, _, _, _, rfl, rfl, SqL.of hl, at_of (j := a) rfl (txsV_get hu), rfl, _, rfl, ?_⟩
      rcases (inferInstance : Decidable (V.str (tx u) = V.str "")) with he | he
      · refine ifF (decide_eq_false he) ?_
        have hu0 : 0 < u.length := by
          rcases Nat.eq_zero_or_pos u.length with h | h
          · refine absurd ?_ he
            rw [List.eq_nil_of_length_eq_zero h, empty_tx]
          · exact h
        rw [rep_length] at ht
        have hm4 : m ≤ 400 := Nat.le_trans (Nat.le_mul_of_pos_right _ hu0) ht
        have := g4 hu
        refine ⟨_, rfl, _, rfl, q, _, _, _, rfl, rfl, SqT.of hp, at_of (j := 1) rfl rfl, l, _, _, _, rfl, rfl, SqL.of hl, at_of (j := a) rfl (txsV_get hu), _, rfl, q, _, _, _, rfl, rfl, SqT.of hp, at_of (j := 2) rfl rfl, _, _, rfl, rfl, by omega, by omega, ?_, by rw [tx_len]; omega, by omega, ?_⟩
        · rw [tx_len, Int.toNat_natCast, Nat.mul_comm, sizeLine_eq]
          omega
        · exact k
      · refine ifT (decide_eq_true he) ?_
        have hu0 : u = [] := by
          rw [empty_tx] at he
          have e2 := congrArg (fun z => match z with | V.str s => s.cps.toList | _ => []) he
          exact e2
        rw [hu0, rep_nil, ← empty_tx] at k
        exact k
    | part a b d =>
      obtain ⟨u, _, hu, hbd, hd, rfl⟩ := hR
      have := g4 hu
      refine ⟨_, rfl, q, _, _, _, rfl, rfl, SqT.of hp, at_of (j := 0) rfl rfl, rfl, _, rfl, ifF (by decide +kernel) ?_⟩
      refine ⟨_, rfl, q, _, _, _, rfl, rfl, SqT.of hp, at_of (j := 0) rfl rfl, rfl, _, rfl, ifF (by decide +kernel) ?_⟩
      refine ⟨_, rfl, q, _, _, _, rfl, rfl, SqT.of hp, at_of (j := 0) rfl rfl, rfl, _, rfl, ifF (by decide +kernel) ?_⟩
      refine ⟨_, rfl, q, _, _, _, rfl, rfl, SqT.of hp, at_of (j := 0) rfl rfl, rfl, _, rfl, ifT (by decide +kernel) ?_⟩
      refine ⟨_, rfl, _, rfl, q, _, _, _, rfl, rfl, SqT.of hp, at_of (j := 1) rfl rfl, l, _, _, _, rfl, rfl, SqL.of hl, at_of (j := a) rfl (txsV_get hu), _, rfl, q, _, _, _, rfl, rfl, SqT.of hp, at_of (j := 2) rfl rfl, _, rfl, _, rfl, q, _, _, _, rfl, rfl, SqT.of hp, at_of (j := 3) rfl rfl, _, rfl, tx u, rfl, by rw [tx_len, sizeLine_eq]; omega, ?_⟩
      rw [cutS_slice' u hbd hd]
      exact k
    | back a =>
      obtain ⟨u, _, hu, rfl⟩ := hR
      have := g4 hu
      refine ⟨_, rfl, q, _, _, _, rfl, rfl, SqT.of hp, at_of (j := 0) rfl rfl, rfl, _, rfl, ifF (by decide +kernel) ?_⟩
      refine ⟨_, rfl, q, _, _, _, rfl, rfl, SqT.of hp, at_of (j := 0) rfl rfl, rfl, _, rfl, ifF (by decide +kernel) ?_⟩
      refine ⟨_, rfl, q, _, _, _, rfl, rfl, SqT.of hp, at_of (j := 0) rfl rfl, rfl, _, rfl, ifF (by decide +kernel) ?_⟩
      refine ⟨_, rfl, q, _, _, _, rfl, rfl, SqT.of hp, at_of (j := 0) rfl rfl, rfl, _, rfl, ifF (by decide +kernel) ?_⟩
      exact ⟨_, rfl, _, rfl, q, _, _, _, rfl, rfl, SqT.of hp, at_of (j := 1) rfl rfl, l, _, _, _, rfl, rfl, SqL.of hl, at_of (j := a) rfl (txsV_get hu), tx u, rfl, by rw [tx_len, sizeLine_eq]; omega, k⟩

/-! ### the law's rules; numbers and texts compared -/
abbrev nmRU : List Str := ["_law_pool_here", "_law_most", "_law_rules_here", "_law_texts", "_law_k", "_law_rule"]
theorem scRU : FnScope nmRU ["_law_pool_here", "_law_most"] (defScope sRU) := ⟨rfl, rfl, rfl, by decide +kernel, rfl, by decide +kernel, by decide +kernel⟩
theorem ok_RU {f : Addr} {fd : FuncData} (F : Fun K "_law_rules" "_law_rules" sRU f fd) (T : Txt K w mg C) (DT : Cal P w K mg base "_law_take" 2 ["_law_pool_here", "_law_many"] spTA)
    (DN : Cal P w K mg base "_law_next" 4 ["_law_pool_here", "_law_texts", "_law_most"] spNE) (DM : Cal P w K mg base "_law_made" 1 ["_law_texts", "_law_rule"] spMA) : FnOk P w K mg base CX0 5 f fd ["_law_pool_here", "_law_most"] spRU := by
  obtain ⟨fT, fdT, GT, mT, kT, bT⟩ := DT
  obtain ⟨fN, fdN, GN, mN, kN, bN⟩ := DN
  obtain ⟨fM, fdM, GM, mM, kM, bM⟩ := DM
  refine F.ok scRU (fun vs H Q E h => ?_) (fun cdv A outer s H vs Q E hr h => ?_)
  · obtain ⟨p, c, rfl, _⟩ := h
    rfl
  · obtain ⟨p, c, rfl, hP, k⟩ := h
    have hr2 : Room 2 _ := hr.mono (by decide)
    have hr1 : Room 1 _ := hr.mono (by decide)
    refine ⟨_, pss_cons (ps_set (i := 2) scRU.nd rfl (Or.inl rfl) (pe_lst pa_nil))
      (pss_cons (ps_set (i := 3) scRU.nd rfl (Or.inl rfl) (pe_lst pa_nil))
      (pss_cons (ps_for PassesOwn.never rfl (pi_range1 (by rfl) T.b_range (pa_cons (pe_op op_add pe_int (pe_call GT hr2 rfl mT kT bT .nil pass0 (pa_cons (pv 0) (pa_cons pe_int pa_nil)))) pa_nil)) (pg_name (i := 4) scRU.nd rfl (Or.inl rfl))
        (pss_cons (ps_set (i := 5) scRU.nd rfl (Or.inl rfl) (pe_call GN hr rfl mN kN bN .nil pass0 (pa_cons (pv 0) (pa_cons (pv 3) (pa_cons (pv 1) pa_nil)))))
        (pss_cons (ps_expr (pe_bm PySem.F.plainAttrs_list PySem.F.slot_list_append PySem.F.type_list_append mt_append (pv 2) (pa_cons (pv 5) pa_nil)))
        (pss_one (ps_expr (pe_bm PySem.F.plainAttrs_list PySem.F.slot_list_append PySem.F.type_list_append mt_append (pv 3) (pa_cons (pe_call GM hr1 rfl mM kM bM .nil pass0 (pa_cons (pv 3) (pa_cons (pv 5) pa_nil))) pa_nil)))))))
      (pss_one (ps_ret (pe_tup (pa_cons (pv 2) (pa_cons (pv 3) pa_nil))))))), ?_⟩
    refine ⟨Nat.zero_le _, fun A1 hA1 => ⟨Nat.zero_le _, fun B1 hB1 => ?_⟩⟩
    have nA := hP.new hA1
    have nB := hP.new ((Same.new hA1).free hB1)
    have nAB : A1 ≠ B1 := ne_of_none upd_same hB1
    have hB0 : H B1 = none := (Same.new hA1).free hB1
    have s1 : Same H (upd (upd H A1 (.lst [])) B1 (.lst [])) := (Same.new hA1).trans (Same.new hB1)
    have hA2 : (upd (upd H A1 (.lst [])) B1 (.lst [])) A1 = some (.lst []) := by rw [upd_ne nAB]; exact upd_same
    have hB2 : (upd (upd H A1 (.lst [])) B1 (.lst [])) B1 = some (.lst []) := upd_same
    generalize upd (upd H A1 (.lst [])) B1 (.lst []) = H1 at s1 hA2 hB2 ⊢
    refine ⟨_, rfl, p, c, 20, rfl, hP.keep s1, by decide, by decide, fun H2 d b2 P2 hd => ?_⟩
    have hn : (1 + ((d : Nat) : Int)).toNat = d + 1 := by omega
    refine ⟨_, _, rfl, rfl, _, rfl, by omega, by omega, ?_⟩
    rw [hn]
    refine for_range (lo := 0) (n := d + 1) (fun i σ H' => ∃ (v4 v5 : Option V) (ps : List Addr) (rs : List R) (ts : List (List Nat)), σ = [some (.ref p), some (.int 400), some (.ref A1), some (.ref B1), v4, v5] ∧ But p H H' ∧ PoolAt H' p c ∧
      H' A1 = some (.lst (refsV ps)) ∧ RulesAt H' ps rs ∧ H' B1 = some (.lst (txsV ts)) ∧ WF L94 rs ts ∧ rs.length = i ∧ ∀ t ∈ ts, t.length ≤ 400)
      ⟨none, none, [], [], [], rfl, Same.but s1 b2, P2, b2 _ _ hA2 nA.1, AllAt.nil, b2 _ _ hB2 nB.1, WF.nil _, rfl, fun t ht => by simp at ht⟩ ?_ ?_
    · rintro i σ H' hi ⟨v4, v5, ps, rs, ts, rfl, bw, PW, hA, hS, hB, hW, hl, h400⟩
      have hwl := hW.len
      refine ⟨_, rfl, _, rfl, _, rfl, p, c, B1, ts, rfl, PW, hB, h400, by omega, fun H3 q r t b3 P3 hq hR ht => ?_⟩
      have hA3 := b3 _ _ hA nA.1
      have hB3 := b3 _ _ hB nB.1
      have hS3 := hS.but PW b3
      have nqA : q ≠ A1 := ne_of hq hA3 (by intro e; cases e)
      have nqB : q ≠ B1 := ne_of hq hB3 (by intro e; cases e)
      refine ⟨_, rfl, .inl ⟨rfl, _, SqL.of hA3⟩, _, rfl, A1, _, _, rfl, rfl, hA3, by rw [refsV_length, hS.1, sizeLine_eq]; omega, ?_⟩
      have hB4 : (upd H3 A1 (.lst (refsV ps ++ [.ref q]))) B1 = some (.lst (txsV ts)) := by rw [upd_ne nAB.symm]; exact hB3
      have hq4 : (upd H3 A1 (.lst (refsV ps ++ [.ref q]))) q = some (.tup (ruleVs r)) := by rw [upd_ne nqA]; exact hq
      refine ⟨_, rfl, .inl ⟨rfl, _, SqL.of hB4⟩, _, rfl, _, rfl, B1, q, ts, r, t, rfl, hB4, hq4, hR, ht, h400, B1, _, _, rfl, rfl, hB4, by rw [txsV_length, sizeLine_eq]; omega, ?_⟩
      refine ⟨_, _, ps ++ [q], rs ++ [r], ts ++ [t], rfl, But.new2 (But.new2 (But.trans bw b3) hA1) hB0, (P3.upd nA).upd nB, ?_, AllAt.snoc (hS3.same fun b xs e => ?_) ?_, ?_, hW.snoc (by omega) hR, by rw [List.length_append, hl]; rfl, fun x hx => ?_⟩
      · rw [upd_ne nAB, upd_same, refsV_app]
        rfl
      · rw [upd_ne (ne_of e hB3 (by intro q; cases q)), upd_ne (ne_of e hA3 (by intro q; cases q))]
        exact e
      · rw [upd_ne nqB]
        exact hq4
      · rw [upd_same, txs_snoc]
      · rcases List.mem_append.mp hx with h | h
        · exact h400 x h
        · rw [List.mem_singleton.mp h]
          exact ht
    · rintro σ H' ⟨v4, v5, ps, rs, ts, rfl, bw, PW, hA, hS, hB, hW, hl, h400⟩
      refine ⟨_, rfl, _, rfl, (by show 2 ≤ sizeLine; decide), fun q hq => ?_⟩
      exact k _ q A1 B1 ps rs ts (But.then bw (Same.new hq)) (PW.keep (Same.new hq)) upd_same (Same.new hq _ _ hA) nA.1 (hS.keep (Same.new hq)) (Same.new hq _ _ hB) hW (by omega) (by omega) h400

theorem scII : FnScope ["_law_actual"] ["_law_actual"] (defScope sII) := ⟨rfl, rfl, rfl, by decide +kernel, rfl, by decide +kernel, by decide +kernel⟩
theorem ok_II {f : Addr} {fd : FuncData} (F : Fun K "_law_is_integer" "_law_is_integer" sII f fd) (T : Txt K w mg C) : FnOk P w K mg base CX0 1 f fd ["_law_actual"] spII := by
  refine F.ok scII (fun vs H Q E h => ?_) (fun cdv A outer s H vs Q E hr h => ?_)
  · obtain ⟨n, rfl, _⟩ := h
    rfl
  · obtain ⟨n, rfl, k⟩ := h
    refine ⟨_, pss_one (ps_ret (pe_and (pe_callB call_isi (by rfl) T.b_isinstance (by decide +kernel) (pa_cons (pv 0) (pa_cons (pe_bltn (v := .ty "int") (u := .type "int") (by rfl) T.b_int (by decide +kernel) rfl) pa_nil)))
      (pe_one (pe_not (pe_callB call_isi (by rfl) T.b_isinstance (by decide +kernel) (pa_cons (pv 0) (pa_cons (pe_bltn (v := .ty "bool") (u := .type "bool") (by rfl) T.b_bool (by decide +kernel) rfl) pa_nil))))))), ?_⟩
    refine ⟨_, rfl, .int n, .ty "int", .type "int", .type "int", true, rfl, .ty "int", .base (.int n), kit_ty (by decide +kernel), _, rfl, ifT rfl ?_⟩
    exact ⟨_, rfl, .int n, .ty "bool", .type "int", .type "bool", false, rfl, .ty "bool", .base (.int n), kit_ty (by decide +kernel), _, rfl, k⟩

abbrev nmSA : List Str := ["_law_actual", "_law_due"]
theorem scSA : FnScope nmSA nmSA (defScope sSA) := ⟨rfl, rfl, rfl, by decide +kernel, rfl, by decide +kernel, by decide +kernel⟩
theorem ok_SA {f : Addr} {fd : FuncData} (F : Fun K "_law_same" "_law_same" sSA f fd) (T : Txt K w mg C) (DI : Cal P w K mg base "_law_is_integer" 1 ["_law_actual"] spII) : FnOk P w K mg base CX0 2 f fd ["_law_actual", "_law_due"] spSA := by
  obtain ⟨fI, fdI, GI, mI, kI, bI⟩ := DI
  refine F.ok scSA (fun vs H Q E h => ?_) (fun cdv A outer s H vs Q E hr h => ?_)
  · obtain ⟨⟨n, rfl⟩ | ⟨z, rfl⟩, _⟩ := h
    · rfl
    · rfl
  · obtain ⟨hv, k⟩ := h
    refine ⟨_, pss_cons (ps_if (pt_val (pe_callB call_isi (by rfl) T.b_isinstance (by decide +kernel) (pa_cons (pv 1) (pa_cons (pe_bltn (v := .ty "tuple") (u := .type "tuple") (by rfl) T.b_tuple (by decide +kernel) rfl) pa_nil)))) pss_never pss_nil)
      (pss_cons (ps_if (pt_val (pe_callB call_isi (by rfl) T.b_isinstance (by decide +kernel) (pa_cons (pv 1) (pa_cons (pe_bltn (v := .ty "list") (u := .type "list") (by rfl) T.b_list (by decide +kernel) rfl) pa_nil)))) pss_never pss_nil)
      (pss_cons (ps_if (pt_cmpR op_isN (pv 1) pe_non (nomark _)) pss_never pss_nil)
      (pss_cons (ps_if (pt_val (pe_callB call_isi (by rfl) T.b_isinstance (by decide +kernel) (pa_cons (pv 1) (pa_cons (pe_bltn (v := .ty "bool") (u := .type "bool") (by rfl) T.b_bool (by decide +kernel) rfl) pa_nil)))) pss_never pss_nil)
      (pss_cons (ps_if (pt_val (pe_callB call_isi (by rfl) T.b_isinstance (by decide +kernel) (pa_cons (pv 1) (pa_cons (pe_bltn (v := .ty "str") (u := .type "str") (by rfl) T.b_str (by decide +kernel) rfl) pa_nil))))
        (pss_one (ps_ret (pe_and (pe_callB call_isi (by rfl) T.b_isinstance (by decide +kernel) (pa_cons (pv 0) (pa_cons (pe_bltn (v := .ty "str") (u := .type "str") (by rfl) T.b_str (by decide +kernel) rfl) pa_nil))) (pe_one (pe_cmpR op_eq (pv 0) (pv 1) (nomark _)))))) pss_nil)
      (pss_one (ps_ret (pe_and (pe_call GI hr rfl mI kI bI .nil pass0 (pa_cons (pv 0) pa_nil)) (pe_one (pe_cmpR op_eq (pv 0) (pv 1) (nomark _)))))))))), ?_⟩
    rcases hv with ⟨n, rfl⟩ | ⟨z, rfl⟩
    · refine ⟨_, rfl, .int n, .ty "tuple", .type "int", .type "tuple", false, rfl, .ty "tuple", .base (.int n), kit_ty (by decide +kernel), _, rfl, ifF rfl ?_⟩
      refine ⟨_, rfl, .int n, .ty "list", .type "int", .type "list", false, rfl, .ty "list", .base (.int n), kit_ty (by decide +kernel), _, rfl, ifF rfl ?_⟩
      refine ⟨_, rfl, rfl, _, rfl, ifF (decide_eq_false (by intro q; cases q)) ?_⟩
      refine ⟨_, rfl, .int n, .ty "bool", .type "int", .type "bool", false, rfl, .ty "bool", .base (.int n), kit_ty (by decide +kernel), _, rfl, ifF rfl ?_⟩
      refine ⟨_, rfl, .int n, .ty "str", .type "int", .type "str", false, rfl, .ty "str", .base (.int n), kit_ty (by decide +kernel), _, rfl, ifF rfl ?_⟩
      refine ⟨_, rfl, n, rfl, _, rfl, ifT rfl ?_⟩
      refine ⟨_, rfl, _, rfl, rfl, ?_⟩
      rw [decide_eq_true rfl]
      exact k
    · refine ⟨_, rfl, .str z, .ty "tuple", .type "str", .type "tuple", false, rfl, .ty "tuple", .base (.str z), kit_ty (by decide +kernel), _, rfl, ifF rfl ?_⟩
      refine ⟨_, rfl, .str z, .ty "list", .type "str", .type "list", false, rfl, .ty "list", .base (.str z), kit_ty (by decide +kernel), _, rfl, ifF rfl ?_⟩
      refine ⟨_, rfl, rfl, _, rfl, ifF (decide_eq_false (by intro q; cases q)) ?_⟩
      refine ⟨_, rfl, .str z, .ty "bool", .type "str", .type "bool", false, rfl, .ty "bool", .base (.str z), kit_ty (by decide +kernel), _, rfl, ifF rfl ?_⟩
      refine ⟨_, rfl, .str z, .ty "str", .type "str", .type "str", true, rfl, .ty "str", .base (.str z), kit_ty (by decide +kernel), _, rfl, ifT rfl ?_⟩
      refine ⟨_, rfl, .str z, .ty "str", .type "str", .type "str", true, rfl, .ty "str", .base (.str z), kit_ty (by decide +kernel), _, rfl, ifT rfl ?_⟩
      refine ⟨_, rfl, _, rfl, rfl, ?_⟩
      rw [decide_eq_true rfl]
      exact k

/-! ### the two other texts: grown, shifted -/
/-- some rules laid one after another over the heap H0 -/
structure Prog (H0 H : Hp) (qs : List Addr) (us : List R) : Prop where
  s : Same H0 H
  r : RulesAt H qs us
theorem Prog.nil (H : Hp) : Prog H H [] [] := ⟨Same.refl _, AllAt.nil⟩
theorem Prog.tup {H0 H : Hp} {qs : List Addr} {us : List R} {T : Addr} {xs : List V} {r : R} (g : Prog H0 H qs us) (hT : H T = none) (e : xs = ruleVs r) : Prog H0 (upd H T (.tup xs)) (qs ++ [T]) (us ++ [r]) := by
  subst e
  exact ⟨g.s.trans (Same.new hT), (g.r.keep (Same.new hT)).snoc upd_same⟩
theorem Prog.lst {H0 H : Hp} {qs : List Addr} {us : List R} {D : Addr} {o : HO} (g : Prog H0 H qs us) (hD : H D = none) : Prog H0 (upd H D o) qs us :=
  ⟨g.s.trans (Same.new hD), g.r.keep (Same.new hD)⟩
theorem partEq {i a b : Nat} {A B C : Int} (hA : A = ((i : Nat) : Int)) (hB : B = ((a : Nat) : Int)) (hC : C = ((b : Nat) : Int)) : [V.str "part", V.int A, V.int B, V.int C] = ruleVs (.part i a b) := by
  subst hA hB hC
  rfl
theorem backEq {i : Nat} {A : Int} (hA : A = ((i : Nat) : Int)) : [V.str "back", V.int A] = ruleVs (.back i) := by
  subst hA
  rfl
theorem joinEq {i j : Nat} {A B : Int} (hA : A = ((i : Nat) : Int)) (hB : B = ((j : Nat) : Int)) : [V.str "join", V.int A, V.int B] = ruleVs (.join i j) := by
  subst hA hB
  rfl
theorem powEq {i k : Nat} {A B : Int} (hA : A = ((i : Nat) : Int)) (hB : B = ((k : Nat) : Int)) : [V.str "power", V.int A, V.int B] = ruleVs (.pow i k) := by
  subst hA hB
  rfl
abbrev nmGR : List Str := ["_law_rules_here", "_law_texts", "_law_cut", "_law_times", "_law_first", "_law_last", "_law_size", "_law_rest"]
theorem scGR : FnScope nmGR ["_law_rules_here", "_law_texts", "_law_cut", "_law_times", "_law_first"] (defScope sGR) := ⟨rfl, rfl, rfl, by decide +kernel, rfl, by decide +kernel, by decide +kernel⟩
theorem ok_GR {f : Addr} {fd : FuncData} (F : Fun K "_law_grown" "_law_grown" sGR f fd) (T : Txt K w mg C) : FnOk P w K mg base CX0 1 f fd ["_law_rules_here", "_law_texts", "_law_cut", "_law_times", "_law_first"] spGR := by
  refine F.ok scGR (fun vs H Q E h => ?_) (fun cdv A outer s H vs Q E hr h => ?_)
  · obtain ⟨a, b, ps, rs, ts, t, n, cut, times, first, rfl, _⟩ := h
    rfl
  · obtain ⟨a, b, ps, rs, ts, t, n, cut, times, first, rfl, ha, hA, hb, hrl, htl, hn, ht, ht4, h1, h1m, htm, k⟩ := h
    refine ⟨_, pss_cons (ps_set (i := 5) scGR.nd rfl (Or.inl rfl) (pe_op op_sub (pe_callB call_len_seq (by rfl) T.b_len PySem.boot_len (pa_cons (pv 0) pa_nil)) pe_int))
      (pss_cons (ps_set (i := 6) scGR.nd rfl (Or.inl rfl) (pe_callB call_len_str (by rfl) T.b_len PySem.boot_len (pa_cons (pe_ix ix_list (pv 1) (pe_un un_neg pe_int) (fun _ _ => rfl)) pa_nil)))
      (pss_cons (ps_set (i := 7) scGR.nd rfl (Or.inl rfl) (pe_op op_sub (pv 3) (pe_op op_mul (pe_op op_fdivW (pv 3) (pv 4)) (pv 4))))
      (pss_cons (ps_set (i := 0) scGR.nd rfl (Or.inl rfl) (pe_op op_cat (pv 0) (pe_lst
        (pa_cons (pe_tup (pa_cons pe_str (pa_cons (pv 5) (pa_cons pe_int (pa_cons (pv 2) pa_nil)))))
        (pa_cons (pe_tup (pa_cons pe_str (pa_cons (pv 5) (pa_cons (pv 2) (pa_cons (pv 6) pa_nil)))))
        (pa_cons (pe_tup (pa_cons pe_str (pa_cons (pe_op op_add (pv 5) pe_int) pa_nil)))
        (pa_cons (pe_tup (pa_cons pe_str (pa_cons (pe_op op_add (pv 5) pe_int) pa_nil))) pa_nil)))))))
      (pss_cons (ps_set (i := 0) scGR.nd rfl (Or.inl rfl) (pe_op op_cat (pv 0) (pe_lst
        (pa_cons (pe_tup (pa_cons pe_str (pa_cons (pe_op op_add (pv 5) pe_int) (pa_cons (pe_op op_add (pv 5) pe_int) pa_nil))))
        (pa_cons (pe_tup (pa_cons pe_str (pa_cons (pe_op op_add (pv 5) pe_int) pa_nil)))
        (pa_cons (pe_tup (pa_cons pe_str (pa_cons (pe_op op_add (pv 5) pe_int) (pa_cons (pv 4) pa_nil)))) pa_nil))))))
      (pss_cons (ps_set (i := 0) scGR.nd rfl (Or.inl rfl) (pe_op op_cat (pv 0) (pe_lst
        (pa_cons (pe_tup (pa_cons pe_str (pa_cons (pe_op op_add (pv 5) pe_int) (pa_cons (pe_op op_fdivW (pv 3) (pv 4)) pa_nil))))
        (pa_cons (pe_tup (pa_cons pe_str (pa_cons (pe_op op_add (pv 5) pe_int) (pa_cons (pv 7) pa_nil))))
        (pa_cons (pe_tup (pa_cons pe_str (pa_cons (pe_op op_add (pv 5) pe_int) (pa_cons (pe_op op_add (pv 5) pe_int) pa_nil)))) pa_nil))))))
      (pss_one (ps_ret (pv 0)))))))), ?_⟩
    have hpl : (refsV ps).length = n + 1 := by rw [refsV_length, hA.1, hrl]
    have eD : ((times : Nat) : Int) / ((first : Nat) : Int) = ((times / first : Nat) : Int) := (Int.natCast_ediv _ _).symm
    have hdm : times / first * first ≤ times := Nat.div_mul_le_self _ _
    have hdt : times / first ≤ times := Nat.div_le_self _ _
    have eM : ((times / first : Nat) : Int) * ((first : Nat) : Int) = ((times / first * first : Nat) : Int) := (Int.natCast_mul _ _).symm
    have hS : ∀ {m : Nat}, m ≤ 100000 → m ≤ sizeLine := fun {m} h => by
      rw [sizeLine_eq]
      omega
    have cd : CDivW ((times : Nat) : Int) ((first : Nat) : Int) := wide_div (b := 64) (by omega) (by omega) (by decide) (by decide)
    -- last, size, rest
    refine ⟨_, rfl, a, _, rfl, .inl (SqL.of ha), _, _, rfl, rfl, ?_⟩
    refine ⟨_, rfl, _, rfl, b, _, _, _, rfl, rfl, SqL.of hb, atI_neg1 (v := .str (tx t)) (by rw [txsV_length, htl]; exact txsV_get ht), _, rfl, by rw [tx_len]; exact hS (by omega), ?_⟩
    refine ⟨_, rfl, _, rfl, _, rfl, _, _, rfl, rfl, cd, _, rfl, _, _, rfl, rfl, .inr ⟨by omega, by omega⟩, _, _, rfl, rfl, ?_⟩
    -- the first four
    refine ⟨_, rfl, _, rfl, _, rfl, (by show 4 ≤ sizeLine; decide), fun T1 h1' => ?_⟩
    refine ⟨_, rfl, _, rfl, _, rfl, (by show 4 ≤ sizeLine; decide), fun T2 h2' => ?_⟩
    refine ⟨_, rfl, _, _, rfl, rfl, (by show 2 ≤ sizeLine; decide), fun T3 h3' => ?_⟩
    refine ⟨_, rfl, _, _, rfl, rfl, (by show 2 ≤ sizeLine; decide), fun T4 h4' => ?_⟩
    refine ⟨(by show 4 ≤ sizeLine; decide), fun D1 hD1 => ?_⟩
    have g1 := ((((((Prog.nil H).tup h1' (r := .part n 0 cut) (partEq (by omega) rfl rfl)).tup h2' (r := .part n cut t.length) (partEq (by omega) rfl rfl)).tup h3' (r := .back (n + 2)) (backEq (by omega))).tup h4' (r := .back (n + 1)) (backEq (by omega))).lst (o := .lst [.ref T1, .ref T2, .ref T3, .ref T4]) hD1)
    refine ⟨a, D1, _, _, rfl, rfl, g1.s _ _ ha, upd_same, ?_, fun E1 hE1 => ?_⟩
    · rw [hpl]
      exact hS (by show n + 1 + 4 ≤ 100000; omega)
    have g1' := g1.lst (o := .lst (refsV ps ++ [.ref T1, .ref T2, .ref T3, .ref T4])) hE1
    -- three more
    refine ⟨_, rfl, _, rfl, _, _, rfl, rfl, _, rfl, _, _, rfl, rfl, (by show 3 ≤ sizeLine; decide), fun T5 h5' => ?_⟩
    refine ⟨_, rfl, _, _, rfl, rfl, (by show 2 ≤ sizeLine; decide), fun T6 h6' => ?_⟩
    refine ⟨_, rfl, _, _, rfl, rfl, _, rfl, (by show 3 ≤ sizeLine; decide), fun T7 h7' => ?_⟩
    refine ⟨(by show 3 ≤ sizeLine; decide), fun D2 hD2 => ?_⟩
    have g2 := (((((Prog.nil _).tup h5' (r := .join (n + 3) (n + 4)) (joinEq (by omega) (by omega))).tup h6' (r := .back (n + 5)) (backEq (by omega))).tup h7' (r := .pow (n + 6) first) (powEq (by omega) rfl)).lst (o := .lst [.ref T5, .ref T6, .ref T7]) hD2)
    refine ⟨E1, D2, _, _, rfl, rfl, g2.s _ _ upd_same, upd_same, ?_, fun E2 hE2 => ?_⟩
    · rw [List.length_append, hpl]
      exact hS (by show n + 1 + 4 + 3 ≤ 100000; omega)
    have g2' := g2.lst (o := .lst ((refsV ps ++ [.ref T1, .ref T2, .ref T3, .ref T4]) ++ [.ref T5, .ref T6, .ref T7])) hE2
    -- the last three
    refine ⟨_, rfl, _, rfl, _, _, rfl, rfl, _, rfl, _, rfl, _, _, rfl, rfl, cd, (by show 3 ≤ sizeLine; decide), fun T8 h8' => ?_⟩
    refine ⟨_, rfl, _, _, rfl, rfl, _, rfl, (by show 3 ≤ sizeLine; decide), fun T9 h9' => ?_⟩
    refine ⟨_, rfl, _, _, rfl, rfl, _, rfl, _, _, rfl, rfl, (by show 3 ≤ sizeLine; decide), fun T10 h10' => ?_⟩
    refine ⟨(by show 3 ≤ sizeLine; decide), fun D3 hD3 => ?_⟩
    have g3 := (((((Prog.nil _).tup h8' (r := .pow (n + 7) (times / first)) (powEq (by omega) eD)).tup h9' (r := .pow (n + 6) (times - times / first * first)) (powEq (by omega) (by rw [eD, eM]; omega))).tup h10' (r := .join (n + 8) (n + 9)) (joinEq (by omega) (by omega))).lst (o := .lst [.ref T8, .ref T9, .ref T10]) hD3)
    refine ⟨E2, D3, _, _, rfl, rfl, g3.s _ _ upd_same, upd_same, ?_, fun E3 hE3 => ?_⟩
    · rw [List.length_append, List.length_append, hpl]
      exact hS (by show n + 1 + 4 + 3 + 3 ≤ 100000; omega)
    have g3' := g3.lst (o := .lst (((refsV ps ++ [.ref T1, .ref T2, .ref T3, .ref T4]) ++ [.ref T5, .ref T6, .ref T7]) ++ [.ref T8, .ref T9, .ref T10])) hE3
    refine ⟨_, rfl, k _ E3 (ps ++ ([T1, T2, T3, T4] ++ ([T5, T6, T7] ++ [T8, T9, T10]))) ((g1'.s.trans g2'.s).trans g3'.s) (((g1'.s.trans g2'.s).trans g3.s).free hE3) ?_ ((hA.keep ((g1'.s.trans g2'.s).trans g3'.s)).app ((g1'.r.keep (g2'.s.trans g3'.s)).app ((g2'.r.keep g3'.s).app g3'.r)))⟩
    rw [upd_same, refsV_app, List.append_assoc, List.append_assoc]
    rfl

abbrev nmSH : List Str := ["_law_rules_here", "_law_size", "_law_cut", "_law_times", "_law_last"]
theorem scSH : FnScope nmSH ["_law_rules_here", "_law_size", "_law_cut", "_law_times"] (defScope sSH) := ⟨rfl, rfl, rfl, by decide +kernel, rfl, by decide +kernel, by decide +kernel⟩
theorem ok_SH {f : Addr} {fd : FuncData} (F : Fun K "_law_shifted" "_law_shifted" sSH f fd) (T : Txt K w mg C) : FnOk P w K mg base CX0 1 f fd ["_law_rules_here", "_law_size", "_law_cut", "_law_times"] spSH := by
  refine F.ok scSH (fun vs H Q E h => ?_) (fun cdv A outer s H vs Q E hr h => ?_)
  · obtain ⟨a, ps, rs, n, size, cut, times, rfl, _⟩ := h
    rfl
  · obtain ⟨a, ps, rs, n, size, cut, times, rfl, ha, hA, hrl, hn, h1t, k⟩ := h
    refine ⟨_, pss_cons (ps_set (i := 4) scSH.nd rfl (Or.inl rfl) (pe_op op_sub (pe_callB call_len_seq (by rfl) T.b_len PySem.boot_len (pa_cons (pv 0) pa_nil)) pe_int))
      (pss_cons (ps_set (i := 0) scSH.nd rfl (Or.inl rfl) (pe_op op_cat (pv 0) (pe_lst
        (pa_cons (pe_tup (pa_cons pe_str (pa_cons (pv 4) (pa_cons pe_int (pa_cons (pv 2) pa_nil)))))
        (pa_cons (pe_tup (pa_cons pe_str (pa_cons (pv 4) (pa_cons (pv 2) (pa_cons (pv 1) pa_nil)))))
        (pa_cons (pe_tup (pa_cons pe_str (pa_cons (pe_op op_add (pv 4) pe_int) (pa_cons (pe_op op_add (pv 4) pe_int) pa_nil)))) pa_nil))))))
      (pss_cons (ps_set (i := 0) scSH.nd rfl (Or.inl rfl) (pe_op op_cat (pv 0) (pe_lst
        (pa_cons (pe_tup (pa_cons pe_str (pa_cons (pe_op op_add (pv 4) pe_int) (pa_cons (pe_op op_sub (pv 3) pe_int) pa_nil))))
        (pa_cons (pe_tup (pa_cons pe_str (pa_cons (pe_op op_add (pv 4) pe_int) (pa_cons (pe_op op_add (pv 4) pe_int) pa_nil))))
        (pa_cons (pe_tup (pa_cons pe_str (pa_cons (pe_op op_add (pv 4) pe_int) (pa_cons (pe_op op_add (pv 4) pe_int) pa_nil)))) pa_nil))))))
      (pss_one (ps_ret (pv 0))))), ?_⟩
    have hpl : (refsV ps).length = n + 1 := by rw [refsV_length, hA.1, hrl]
    have hS : ∀ {m : Nat}, m ≤ 100000 → m ≤ sizeLine := fun {m} h => by
      rw [sizeLine_eq]
      omega
    refine ⟨_, rfl, a, _, rfl, .inl (SqL.of ha), _, _, rfl, rfl, ?_⟩
    refine ⟨_, rfl, _, rfl, _, rfl, (by show 4 ≤ sizeLine; decide), fun T1 h1' => ?_⟩
    refine ⟨_, rfl, _, rfl, _, rfl, (by show 4 ≤ sizeLine; decide), fun T2 h2' => ?_⟩
    refine ⟨_, rfl, _, _, rfl, rfl, _, rfl, _, _, rfl, rfl, (by show 3 ≤ sizeLine; decide), fun T3 h3' => ?_⟩
    refine ⟨(by show 3 ≤ sizeLine; decide), fun D1 hD1 => ?_⟩
    have g1 := (((((Prog.nil H).tup h1' (r := .part n 0 cut) (partEq (by omega) rfl rfl)).tup h2' (r := .part n cut size) (partEq (by omega) rfl rfl)).tup h3' (r := .join (n + 2) (n + 1)) (joinEq (by omega) (by omega))).lst (o := .lst [.ref T1, .ref T2, .ref T3]) hD1)
    refine ⟨a, D1, _, _, rfl, rfl, g1.s _ _ ha, upd_same, ?_, fun E1 hE1 => ?_⟩
    · rw [hpl]
      exact hS (by show n + 1 + 3 ≤ 100000; omega)
    have g1' := g1.lst (o := .lst (refsV ps ++ [.ref T1, .ref T2, .ref T3])) hE1
    refine ⟨_, rfl, _, rfl, _, _, rfl, rfl, _, rfl, _, _, rfl, rfl, (by show 3 ≤ sizeLine; decide), fun T4 h4' => ?_⟩
    refine ⟨_, rfl, _, _, rfl, rfl, _, rfl, _, _, rfl, rfl, (by show 3 ≤ sizeLine; decide), fun T5 h5' => ?_⟩
    refine ⟨_, rfl, _, _, rfl, rfl, _, rfl, _, _, rfl, rfl, (by show 3 ≤ sizeLine; decide), fun T6 h6' => ?_⟩
    refine ⟨(by show 3 ≤ sizeLine; decide), fun D2 hD2 => ?_⟩
    have g2 := (((((Prog.nil _).tup h4' (r := .pow (n + 3) (times - 1)) (powEq (by omega) (by omega))).tup h5' (r := .join (n + 1) (n + 4)) (joinEq (by omega) (by omega))).tup h6' (r := .join (n + 5) (n + 2)) (joinEq (by omega) (by omega))).lst (o := .lst [.ref T4, .ref T5, .ref T6]) hD2)
    refine ⟨E1, D2, _, _, rfl, rfl, g2.s _ _ upd_same, upd_same, ?_, fun E2 hE2 => ?_⟩
    · rw [List.length_append, hpl]
      exact hS (by show n + 1 + 3 + 3 ≤ 100000; omega)
    have g2' := g2.lst (o := .lst ((refsV ps ++ [.ref T1, .ref T2, .ref T3]) ++ [.ref T4, .ref T5, .ref T6])) hE2
    refine ⟨_, rfl, k _ E2 (ps ++ ([T1, T2, T3] ++ [T4, T5, T6])) (g1'.s.trans g2'.s) ((g1'.s.trans g2.s).free hE2) ?_ ((hA.keep (g1'.s.trans g2'.s)).app ((g1'.r.keep g2'.s).app g2'.r))⟩
    rw [upd_same, refsV_app, List.append_assoc]
    rfl

/-! ### the law -/
abbrev nmLA : List Str := ["_law_script", "_law_pool_here", "_law_rules_here", "_law_texts", "_law_size", "_law_cut", "_law_times", "_law_first", "_law_one", "_law_others", "_law_other", "_law_k", "_law_place", "_law_far"]
theorem scLA : FnScope nmLA ["_law_script"] (defScope sLA) := ⟨rfl, rfl, rfl, by decide +kernel, rfl, by decide +kernel, by decide +kernel⟩
theorem ok_LA {f fI : Addr} {fd fdI : FuncData} (F : Fun K "law" "law" sLA f fd) (T : Txt K w mg C) (DP : Cal P w K mg base "_law_pool" 1 ["_law_script"] (spPO K)) (DT : Cal P w K mg base "_law_take" 2 ["_law_pool_here", "_law_many"] spTA)
    (DR : Cal P w K mg base "_law_rules" 5 ["_law_pool_here", "_law_most"] spRU) (DS : Cal P w K mg base "_law_same" 2 ["_law_actual", "_law_due"] spSA)
    (DG : Cal P w K mg base "_law_grown" 1 ["_law_rules_here", "_law_texts", "_law_cut", "_law_times", "_law_first"] spGR) (DH : Cal P w K mg base "_law_shifted" 1 ["_law_rules_here", "_law_size", "_law_cut", "_law_times"] spSH)
    (MI : Mk K C fI) (GI : FnOk P w K mg base CX0 4 fI fdI ["self", "rules"] (spInit C)) (bI : Binds K fdI ["self", "rules"] [])
    (DL : CalM P w K mg base C "letter" 2 ["self", "place"] (spL C)) (DM : CalM P w K mg base C "letters" 2 ["self", "start", "stop"] (spM C)) : FnOk P w K mg base CX0 lawLevel f fd ["_law_script"] (spLaw K) := by
  obtain ⟨fP, fdP, GP, mP, kP, bP⟩ := DP
  obtain ⟨fT, fdT, GT, mT, kT, bT⟩ := DT
  obtain ⟨fR, fdR, GR, mR, kR, bR⟩ := DR
  obtain ⟨fS, fdS, GS, mS, kS, bS⟩ := DS
  obtain ⟨fG, fdG, GG, mG, kG, bG⟩ := DG
  obtain ⟨fH, fdH, GH, mH, kH, bH⟩ := DH
  obtain ⟨fL, fdL, GL, mL, bL⟩ := DL
  obtain ⟨fM, fdM, GM, mM, bM⟩ := DM
  refine F.ok scLA (fun vs H Q E h => ?_) (fun cdv A outer s H vs Q E hr h => ?_)
  · obtain ⟨a, ns, rfl, _⟩ := h
    rfl
  · obtain ⟨a, ns, rfl, hS, hlen, k⟩ := h
    have hr5 : Room 5 _ := hr.mono (by decide)
    have hr2 : Room 2 _ := hr.mono (by decide)
    have hr1 : Room 1 _ := hr.mono (by decide)
    have hrP := hr1
    have hrT := hr2
    have hrR := hr5
    have hrS := hr2
    have hrG := hr1
    have hrH := hr1
    refine ⟨_, (pss_cons (ps_set (i := 1) scLA.nd rfl (Or.inl rfl) (pe_call GP hrP rfl mP kP bP .nil pass0 (pa_cons (pv 0) (pa_nil)))) (pss_cons (ps_asg (pe_call GR hrR rfl mR kR bR .nil pass0 (pa_cons (pv 1) (pa_cons pe_int (pa_nil)))) (pg_tup rfl (pgs_cons (pg_name (i := 2) scLA.nd rfl (Or.inl rfl)) (pgs_cons (pg_name (i := 3) scLA.nd rfl (Or.inl rfl)) pgs_nil)))) (pss_cons (ps_set (i := 4) scLA.nd rfl (Or.inl rfl) (pe_callB call_len_str (by rfl) T.b_len PySem.boot_len (pa_cons (pe_ix ix_list (pv 3) (pe_un un_neg pe_int) (fun _ _ => rfl)) (pa_nil)))) (pss_cons (ps_set (i := 5) scLA.nd rfl (Or.inl rfl) (pe_call GT hrT rfl mT kT bT .nil pass0 (pa_cons (pv 1) (pa_cons (pe_op op_add (pv 4) pe_int) (pa_nil))))) (pss_cons (ps_set (i := 6) scLA.nd rfl (Or.inl rfl) (pe_op op_add pe_int (pe_call GT hrT rfl mT kT bT .nil pass0 (pa_cons (pv 1) (pa_cons (pe_op op_fdivW (pe_op op_pow pe_int pe_int) (pe_callB (call_max2 rfl) (by rfl) T.b_max (by decide +kernel) (pa_cons pe_int (pa_cons (pv 4) (pa_nil))))) (pa_nil)))))) (C8.pss_cut (ps_if (pt_cmpR op_eq (pe_call GT hrT rfl mT kT bT .nil pass0 (pa_cons (pv 1) (pa_cons pe_int (pa_nil)))) pe_int (nomark _)) (pss_one (ps_set (i := 6) scLA.nd rfl (Or.inl rfl) (pe_op op_add pe_int (pe_call GT hrT rfl mT kT bT .nil pass0 (pa_cons (pv 1) (pa_cons pe_int (pa_nil))))))) pss_nil) (C8.pss_cut (ps_set (i := 7) scLA.nd rfl (Or.inl rfl) (pe_op op_add pe_int (pe_call GT hrT rfl mT kT bT .nil pass0 (pa_cons (pv 1) (pa_cons (pe_callB (call_min2 rfl) (by rfl) T.b_min (by decide +kernel) (pa_cons (pv 6) (pa_cons (pe_op op_pow pe_int pe_int) (pa_nil)))) (pa_nil)))))) (pss_cons (ps_set (i := 8) scLA.nd rfl (Or.inl rfl) (pe_make MI GI hr5 rfl T.mgC bI .nil pass0 (pa_cons (pe_op op_cat (pv 2) (pe_lst (pa_cons (pe_tup (pa_cons pe_str (pa_cons (pe_op op_sub (pe_callB call_len_seq (by rfl) T.b_len PySem.boot_len (pa_cons (pv 2) (pa_nil))) pe_int) (pa_cons (pv 6) (pa_nil))))) (pa_nil)))) (pa_nil)))) (pss_cons (ps_set (i := 9) scLA.nd rfl (Or.inl rfl) (pe_lst (pa_cons (pe_make MI GI hr5 rfl T.mgC bI .nil pass0 (pa_cons (pe_call GG hrG rfl mG kG bG .nil pass0 (pa_cons (pv 2) (pa_cons (pv 3) (pa_cons (pv 5) (pa_cons (pv 6) (pa_cons (pv 7) (pa_nil))))))) (pa_nil))) (pa_cons (pe_make MI GI hr5 rfl T.mgC bI .nil pass0 (pa_cons (pe_call GH hrH rfl mH kH bH .nil pass0 (pa_cons (pv 2) (pa_cons (pv 4) (pa_cons (pv 5) (pa_cons (pv 6) (pa_nil)))))) (pa_nil))) (pa_nil))))) (pss_cons (ps_for PassesOwn.never rfl (pi_list (pv 9)) (pg_name (i := 10) scLA.nd rfl (Or.inl rfl)) (pss_cons (ps_if (PW.pt (pw_or (pt_not (pt_val (pe_call GS hrS rfl mS kS bS .nil pass0 (pa_cons (pe_fld (pv 10) rfl) (pa_cons (pe_op op_mul (pv 4) (pv 6)) (pa_nil)))))) (pw_or1 (pt_not (pt_val (pe_call GS hrS rfl mS kS bS .nil pass0 (pa_cons (pe_fld (pv 8) rfl) (pa_cons (pe_op op_mul (pv 4) (pv 6)) (pa_nil))))))))) pss_never pss_nil) (pss_one (ps_for PassesOwn.never rfl (pi_range1 (by rfl) T.b_range (pa_cons pe_int (pa_nil))) (pg_name (i := 11) scLA.nd rfl (Or.inl rfl)) (pss_one (ps_if (pt_cmpR op_gt (pv 4) pe_int (nomark _)) (C8.pss_cut (ps_set (i := 12) scLA.nd rfl (Or.inl rfl) (pe_ix ix_tup (pe_tup (pa_cons (pe_call GT hrT rfl mT kT bT .nil pass0 (pa_cons (pv 1) (pa_cons (pe_op op_mul (pv 4) (pv 6)) (pa_nil)))) (pa_cons (pe_op op_sub (pe_op op_sub (pe_op op_mul (pv 4) (pv 6)) pe_int) (pe_call GT hrT rfl mT kT bT .nil pass0 (pa_cons (pv 1) (pa_cons (pe_callB (call_min2 rfl) (by rfl) T.b_min (by decide +kernel) (pa_cons (pe_op op_mul (pv 4) (pv 6)) (pa_cons pe_int (pa_nil)))) (pa_nil))))) (pa_nil)))) (pe_call GT hrT rfl mT kT bT .nil pass0 (pa_cons (pv 1) (pa_cons pe_int (pa_nil)))) (fun _ _ => rfl))) (C8.pss_cut (ps_set (i := 13) scLA.nd rfl (Or.inl rfl) (pe_callB (call_min2 rfl) (by rfl) T.b_min (by decide +kernel) (pa_cons (pe_op op_mul (pv 4) (pv 6)) (pa_cons (pe_op op_add (pv 12) (pe_ix ix_tup (pe_tup (pa_cons pe_int (pa_cons pe_int (pa_cons pe_int (pa_nil))))) (pe_call GT hrT rfl mT kT bT .nil pass0 (pa_cons (pv 1) (pa_cons pe_int (pa_nil)))) (fun _ _ => rfl))) (pa_nil))))) (pss_cons (ps_if (pt_not (pt_val (pe_call GS hrS rfl mS kS bS .nil pass0 (pa_cons (pe_meth (pv 10) T.cl mL GL hr2 bL .nil pass0 (pa_cons (pv 12) (pa_nil))) (pa_cons (pe_meth (pv 8) T.cl mL GL hr2 bL .nil pass0 (pa_cons (pv 12) (pa_nil))) (pa_nil)))))) pss_never pss_nil) (pss_one (ps_if (pt_not (pt_val (pe_call GS hrS rfl mS kS bS .nil pass0 (pa_cons (pe_meth (pv 10) T.cl mM GM hr2 bM .nil pass0 (pa_cons (pv 12) (pa_cons (pv 13) (pa_nil)))) (pa_cons (pe_meth (pv 8) T.cl mM GM hr2 bM .nil pass0 (pa_cons (pv 12) (pa_cons (pv 13) (pa_nil)))) (pa_nil)))))) pss_never pss_nil))))) pss_nil)))))) (pss_one (ps_ret pe_bl)))))))))))), ?_⟩
    have hS2 : ∀ {m : Nat}, m ≤ 100000 → m ≤ sizeLine := fun {m} h => by
      rw [sizeLine_eq]
      omega
    -- pool, rules and texts, size
    refine ⟨_, rfl, a, ns, rfl, hS, hlen, fun H1 p c s1 np P1 => ?_⟩
    refine ⟨_, rfl, p, c, rfl, P1, fun H2 q ra tb ps rs ts b2 P2 hq ha nap hA hb hW hr1' hr20 h400 => ?_⟩
    refine ⟨q, _, rfl, SqT.of hq, rfl, _, _, rfl, _, _, rfl, rfl, ?_⟩
    have nbp : tb ≠ p := P2.neX hb
    have hwl := hW.len
    obtain ⟨n, hn⟩ : ∃ n, rs.length = n + 1 := ⟨rs.length - 1, by omega⟩
    have hnt : ts.length = n + 1 := by omega
    obtain ⟨t, ht⟩ : ∃ t, ts[n]? = some t := ⟨_, List.getElem?_eq_getElem (by omega)⟩
    have ht4 : t.length ≤ 400 := h400 _ (List.mem_of_getElem? ht)
    refine ⟨_, rfl, _, rfl, tb, _, _, _, rfl, rfl, SqL.of hb, atI_neg1 (v := .str (tx t)) (by rw [txsV_length, hnt]; exact txsV_get ht), _, rfl, by rw [tx_len]; exact hS2 (by omega), ?_⟩
    -- cut
    refine ⟨_, rfl, _, rfl, _, _, rfl, rfl, p, c, t.length + 1, rfl, P2, by omega, by omega, fun H3 cut b3 P3 hcut => ?_⟩
    -- times
    have hM : 10 ^ 12 / max 1 t.length ≤ 1000000000000 := Nat.div_le_self _ _
    have hM1 : 1 ≤ 10 ^ 12 / max 1 t.length := by
      apply (Nat.le_div_iff_mul_le (by omega)).mpr
      omega
    have hMt : 10 ^ 12 / max 1 t.length * t.length ≤ 1000000000000 := by
      have h1 : 10 ^ 12 / max 1 t.length * max 1 t.length ≤ 10 ^ 12 := Nat.div_mul_le_self _ _
      have h2 : 10 ^ 12 / max 1 t.length * t.length ≤ 10 ^ 12 / max 1 t.length * max 1 t.length := Nat.mul_le_mul_left _ (Nat.le_max_right _ _)
      omega
    have eMx : (if ((t.length : Nat) : Int) > 1 then ((t.length : Nat) : Int) else 1) = ((max 1 t.length : Nat) : Int) := by
      split <;> omega
    refine ⟨_, rfl, _, _, rfl, rfl, ⟨by decide, by decide, by decide⟩, _, rfl, _, _, rfl, _, _, rfl, rfl, ?_, p, c, 10 ^ 12 / max 1 t.length, ?_, P3, hM1, hM, fun H4 d b4 P4 hd => ⟨_, _, rfl, rfl, ?_⟩⟩
    · show CDivW _ (if ((t.length : Nat) : Int) > 1 then ((t.length : Nat) : Int) else 1)
      rw [eMx]
      exact wide_div (b := 64) (by omega) (by omega) (by decide) (by decide)
    · show [V.ref p, V.int (10 ^ (12 : Int).toNat / (if ((t.length : Nat) : Int) > 1 then ((t.length : Nat) : Int) else 1))] = [V.ref p, V.int ((10 ^ 12 / max 1 t.length : Nat) : Int)]
      rw [eMx, Int.natCast_ediv]
      rfl
    -- if take(pool, 3) == 1: times = 1 + take(pool, 9)
    refine ⟨fun σ H' => ∃ (tm : Int) (times : Nat), σ = [some (.ref a), some (.ref p), some (.ref ra), some (.ref tb), some (.int (t.length : Nat)), some (.int (cut : Nat)), some (.int tm), none, none, none, none, none, none, none] ∧
      tm = ((times : Nat) : Int) ∧ 1 ≤ times ∧ times ≤ 1000000000000 ∧ times * t.length ≤ 1000000000000 ∧ But p H2 H' ∧ PoolAt H' p c, ?_, ?_⟩
    · refine ⟨_, rfl, p, c, 3, rfl, P4, by decide, by decide, fun H5 d2 b5 P5 hd2 => ⟨rfl, _, rfl, ?_⟩⟩
      have b25 := But.trans (But.trans b3 b4) b5
      rcases (inferInstance : Decidable (V.int ((d2 : Nat) : Int) = V.int 1)) with hc | hc
      · refine ifF (decide_eq_false hc) ⟨_, d + 1, rfl, by omega, by omega, by omega, ?_, b25, P5⟩
        exact Nat.le_trans (Nat.mul_le_mul_right _ (by omega)) hMt
      · refine ifT (decide_eq_true hc) ⟨_, rfl, p, c, 9, rfl, P5, by decide, by decide, fun H6 d3 b6 P6 hd3 => ⟨_, _, rfl, rfl, ?_⟩⟩
        refine ⟨_, d3 + 1, rfl, by omega, by omega, by omega, ?_, But.trans b25 b6, P6⟩
        have : (d3 + 1) * t.length ≤ 9 * 400 := Nat.mul_le_mul (by omega) ht4
        omega
    rintro σ H7 ⟨tm, times, rfl, rfl, h1t, htm, htl, b7, P7⟩
    -- first = 1 + take(pool, min(times, 10 ** 5))
    refine ⟨fun σ H' => ∃ (fs : Int) (first : Nat), σ = [some (.ref a), some (.ref p), some (.ref ra), some (.ref tb), some (.int (t.length : Nat)), some (.int (cut : Nat)), some (.int (times : Nat)), some (.int fs), none, none, none, none, none, none] ∧
      fs = ((first : Nat) : Int) ∧ 1 ≤ first ∧ first ≤ times ∧ first ≤ 100000 ∧ But p H2 H' ∧ PoolAt H' p c, ?_, ?_⟩
    · have eMn : (if (10 ^ (5 : Int).toNat : Int) < ((times : Nat) : Int) then (10 ^ (5 : Int).toNat : Int) else ((times : Nat) : Int)) = ((min times 100000 : Nat) : Int) := by
        have e5 : (10 ^ (5 : Int).toNat : Int) = 100000 := by decide
        rw [e5]
        split <;> omega
      refine ⟨_, rfl, _, rfl, _, _, rfl, rfl, ⟨by decide, by decide, by decide⟩, _, _, rfl, p, c, min times 100000, ?_, P7, by omega, by omega, fun H8 d b8 P8 hd => ⟨_, _, rfl, rfl, ?_⟩⟩
      · show [V.ref p, V.int (if (10 ^ (5 : Int).toNat : Int) < ((times : Nat) : Int) then (10 ^ (5 : Int).toNat : Int) else ((times : Nat) : Int))] = _
        rw [eMn]
      · exact ⟨_, d + 1, rfl, by omega, by omega, by omega, by omega, But.trans b7 b8, P8⟩
    rintro σ H8 ⟨fs, first, rfl, rfl, h1f, hft, hf5, b8, P8⟩
    -- one = Text(rules + [("power", len(rules) - 1, times)])
    have ha8 := b8 _ _ ha nap
    have hb8 := b8 _ _ hb nbp
    have hA8 := hA.but P2 b8
    have hpl : (refsV ps).length = n + 1 := by rw [refsV_length, hA.1, hn]
    refine ⟨_, rfl, _, rfl, ra, _, rfl, .inl (SqL.of ha8), _, _, rfl, rfl, _, rfl, (by show 3 ≤ sizeLine; decide), fun T1 h1' => ⟨(by show 1 ≤ sizeLine; decide), fun D1 hD1 => ?_⟩⟩
    have g1 := ((Prog.nil H8).tup h1' (r := .pow n times) (powEq (by omega) rfl)).lst (o := .lst [.ref T1]) hD1
    refine ⟨ra, D1, _, _, rfl, rfl, g1.s _ _ ha8, upd_same, ?_, fun E1 hE1 => ?_⟩
    · rw [hpl]
      exact hS2 (by show n + 1 + 1 ≤ 100000; omega)
    have g1' := g1.lst (o := .lst (refsV ps ++ [.ref T1])) hE1
    intro x1 dx1 nx1 ndx1 ne1
    have m1 := (Same.new ndx1).trans (Same.new (o := .ins C dx1 []) (show (upd _ dx1 (.own x1)) x1 = none by rw [upd_ne ne1.symm]; exact nx1))
    have wl : ∀ {qs : List R} {us : List (List Nat)} {m : Nat}, qs.length = m → us.length = m → m ≤ 40 → (rs ++ qs).length ≤ 60 := fun {qs us m} h1 h2 h3 => by
      rw [List.length_append, hn, h1]
      omega
    have last : ∀ (us : List (List Nat)) (u : List Nat), (ts ++ (us ++ [u]))[(ts ++ (us ++ [u])).length - 1]? = some u := fun us u => by
      rw [← List.append_assoc, List.length_append]
      have e1 : (ts ++ us).length + [u].length - 1 = (ts ++ us).length + 0 := by
        have : [u].length = 1 := rfl
        omega
      rw [e1, get_end]
      rfl
    refine ⟨x1, dx1, E1, ps ++ [T1], rs ++ [.pow n times], ts ++ [rep times t], rep times t, rfl, upd_same, m1 _ _ (by rw [upd_same, refsV_app]; rfl), (AllAt.app (hA8.keep (g1'.s.trans m1)) (qs := [T1]) (us := [R.pow n times]) (g1'.r.keep m1)), one_ok hW hnt ht htm htl, by rw [List.length_append, hn]; omega, wl (m := 1) rfl (us := [rep times t]) rfl (by decide), last [] _, fun H9 b9 hT1 => ⟨rfl, ?_⟩⟩
    have s9 : Same H8 H9 := g1'.s.trans (Same.made nx1 ndx1 b9)
    have ha9 := s9 _ _ ha8
    have hb9 := s9 _ _ hb8
    have hA9 := hA8.keep s9
    clear g1 g1' m1
    -- others = [Text(grown(..)), Text(shifted(..))]
    refine ⟨_, rfl, _, rfl, _, rfl, _, rfl, _, rfl, ra, tb, ps, rs, ts, t, n, cut, times, first, rfl, ha9, hA9, hb9, hn, hnt, by omega, ht, ht4, h1f, by omega, htm, fun H10 q2 qs2 s10 nq2 hq2 hR2 => ?_⟩
    intro x2 dx2 nx2 ndx2 ne2
    have m2 := (Same.new ndx2).trans (Same.new (o := .ins C dx2 []) (show (upd _ dx2 (.own x2)) x2 = none by rw [upd_ne ne2.symm]; exact nx2))
    refine ⟨x2, dx2, q2, qs2, rs ++ grownR n cut t.length times first, ts ++ grownT t cut times first, rep times t, rfl, upd_same, m2 _ _ hq2, hR2.keep m2, grown_ok hW hnt ht (by omega) h1f hft htm htl, by rw [List.length_append, hn]; omega, wl (m := 10) rfl (us := grownT t cut times first) rfl (by decide), last [_, _, _, _, _, _, _, _, _] _, fun H11 b11 hT2 => ⟨rfl, ?_⟩⟩
    have s11 : Same H9 H11 := s10.trans (Same.made nx2 ndx2 b11)
    refine ⟨_, rfl, _, rfl, _, rfl, _, rfl, ra, ps, rs, n, t.length, cut, times, rfl, s11 _ _ ha9, hA9.keep s11, hn, by omega, h1t, fun H12 q3 qs3 s12 nq3 hq3 hR3 => ?_⟩
    intro x3 dx3 nx3 ndx3 ne3
    have m3 := (Same.new ndx3).trans (Same.new (o := .ins C dx3 []) (show (upd _ dx3 (.own x3)) x3 = none by rw [upd_ne ne3.symm]; exact nx3))
    refine ⟨x3, dx3, q3, qs3, rs ++ shiftedR n cut t.length times, ts ++ shiftedT t cut times, rep times t, rfl, upd_same, m3 _ _ hq3, hR3.keep m3, shifted_ok hW hnt ht (by omega) h1t htm htl, by rw [List.length_append, hn]; omega, wl (m := 6) rfl (us := shiftedT t cut times) rfl (by decide), last [_, _, _, _, _] _, fun H13 b13 hT3 => ⟨rfl, ?_⟩⟩
    have s13 : Same H11 H13 := s12.trans (Same.made nx3 ndx3 b13)
    refine ⟨(by show 2 ≤ sizeLine; decide), fun Ld hLd => ?_⟩
    have s14 := Same.new (o := .lst [.ref x2, .ref x3]) hLd
    have hT1' := hT1.keep ((s11.trans s13).trans s14)
    have hT2' := hT2.keep (s13.trans s14)
    have hT3' := hT3.keep s14
    have P14 := P8.keep (s9.trans ((s11.trans s13).trans s14))
    have hL14 : (upd H13 Ld (.lst [.ref x2, .ref x3])) Ld = some (.lst [.ref x2, .ref x3]) := upd_same
    have nLp := (P8.keep (s9.trans (s11.trans s13))).new hLd
    clear m2 m3 b9 b11 b13 s14
    generalize upd H13 Ld (.lst [.ref x2, .ref x3]) = H14 at hT1' hT2' hT3' P14 hL14 ⊢
    -- the comparisons
    have hWl : (rep times t).length = times * t.length := rep_length _ _
    have eST : ((t.length : Nat) : Int) * ((times : Nat) : Int) = (((rep times t).length : Nat) : Int) := by
      rw [hWl, Nat.mul_comm]
      exact (Int.natCast_mul _ _).symm
    have cm : CMul ((t.length : Nat) : Int) ((times : Nat) : Int) := .inr ⟨by omega, by omega⟩
    have eI : ∃ z : Int, [V.int (((rep times t).length : Nat) : Int), V.int (((t.length : Nat) : Int) * ((times : Nat) : Int))] = [V.int z, V.int z] := ⟨(((rep times t).length : Nat) : Int), by rw [eST]⟩
    have noL : ∀ (u v : Addr) (z : Int), (tf u v z).lookup ("letter" : Str) = none := fun u v z => tf_no _ _ _ (by decide +kernel) (by decide +kernel) (by decide +kernel)
    have noM : ∀ (u v : Addr) (z : Int), (tf u v z).lookup ("letters" : Str) = none := fun u v z => tf_no _ _ _ (by decide +kernel) (by decide +kernel) (by decide +kernel)
    refine ⟨_, rfl, Ld, rfl, ⟨_, SqL.of hL14⟩, for_list (K := K) (a := Ld) (xs := [.ref x2, .ref x3]) (fun i σ H' => ∃ (v10 v11 v12 v13 : Option V), σ = [some (.ref a), some (.ref p), some (.ref ra), some (.ref tb), some (.int (t.length : Nat)), some (.int (cut : Nat)), some (.int (times : Nat)), some (.int (first : Nat)), some (.ref x1), some (.ref Ld), v10, v11, v12, v13] ∧ But p H14 H' ∧ PoolAt H' p c)
      ⟨none, none, none, none, rfl, But.refl _ _, P14⟩ (fun i σ H' _ ⟨_, _, _, _, _, b, _⟩ => SqL.of (b _ _ hL14 nLp.1)) ?_ ?_⟩
    · rintro i y σ H15 hy ⟨v10, v11, v12, v13, rfl, b15, P15⟩
      obtain ⟨x, rs', ts', rfl, hTx⟩ : ∃ x rs' ts', y = V.ref x ∧ TextAt C H14 x rs' ts' (rep times t) := by
        match i, hy with
        | 0, hy => exact ⟨x2, _, _, (Option.some.inj hy).symm, hT2'⟩
        | 1, hy => exact ⟨x3, _, _, (Option.some.inj hy).symm, hT3'⟩
        | i + 2, hy => simp at hy
      obtain ⟨dxa, pra, pla, psa, hxa, _⟩ := hTx.but P14 b15
      obtain ⟨dxb, prb, plb, psb, hxb, _⟩ := hT1'.but P14 b15
      refine ⟨_, rfl, x, C, dxa, _, _, rfl, hxa, T.cl, T.n_length, tf_length _ _ _, _, rfl, _, rfl, _, _, rfl, rfl, cm, .inl eI, _, rfl, ifF rfl ?_⟩
      refine ⟨_, rfl, x1, C, dxb, _, _, rfl, hxb, T.cl, T.n_length, tf_length _ _ _, _, rfl, _, rfl, _, _, rfl, rfl, cm, .inl eI, _, rfl, ifF rfl ?_⟩
      clear hxa hxb
      refine ⟨5, rfl, by decide, by decide, for_range (lo := 0) (n := 5) (fun kk σ H' => ∃ (v11 v12 v13 : Option V), σ = [some (.ref a), some (.ref p), some (.ref ra), some (.ref tb), some (.int (t.length : Nat)), some (.int (cut : Nat)), some (.int (times : Nat)), some (.int (first : Nat)), some (.ref x1), some (.ref Ld), some (.ref x), v11, v12, v13] ∧ But p H14 H' ∧ PoolAt H' p c)
        ⟨_, _, _, rfl, b15, P15⟩ ?_ ?_⟩
      · rintro kk σ H16 hkk ⟨v11, v12, v13, rfl, b16, P16⟩
        refine ⟨_, rfl, _, _, rfl, rfl, _, rfl, ?_⟩
        rcases (inferInstance : Decidable (((t.length : Nat) : Int) > 0)) with hz | hz
        · exact ifF (decide_eq_false hz) ⟨_, _, _, rfl, b16, P16⟩
        refine ifT (decide_eq_true hz) ?_
        have hW1 : 1 ≤ (rep times t).length := by
          rw [hWl]
          exact Nat.mul_pos (by omega) (by omega)
        have hW2 : (rep times t).length ≤ 1000000000000 := by
          rw [hWl]
          exact htl
        -- place
        refine ⟨fun σ H' => ∃ (v : Int) (pl : Nat), σ = [some (.ref a), some (.ref p), some (.ref ra), some (.ref tb), some (.int (t.length : Nat)), some (.int (cut : Nat)), some (.int (times : Nat)), some (.int (first : Nat)), some (.ref x1), some (.ref Ld), some (.ref x), some (.int ((0 : Int) + (kk : Nat))), some (.int v), v13] ∧
          v = ((pl : Nat) : Int) ∧ pl < (rep times t).length ∧ But p H14 H' ∧ PoolAt H' p c, ?_, ?_⟩
        · refine ⟨_, rfl, _, rfl, _, rfl, _, _, rfl, rfl, cm, p, c, (rep times t).length, ?_, P16, hW1, hW2, fun Ha d1 ba Pa hd1 => ?_⟩
          · show [V.ref p, V.int (((t.length : Nat) : Int) * ((times : Nat) : Int))] = _
            rw [eST]
          refine ⟨_, rfl, _, rfl, _, _, rfl, rfl, cm, _, _, rfl, rfl, _, rfl, _, rfl, _, rfl, _, _, rfl, rfl, cm, _, _, rfl, p, c, min (rep times t).length 500, ?_, Pa, by omega, by omega, fun Hb d2 bb Pb hd2 => ⟨_, _, rfl, rfl, (by show 2 ≤ sizeLine; decide), fun T2 hT2n => ?_⟩⟩
          · show [V.ref p, V.int (if (500 : Int) < ((t.length : Nat) : Int) * ((times : Nat) : Int) then 500 else ((t.length : Nat) : Int) * ((times : Nat) : Int))] = _
            rw [eST]
            have e5 : (if (500 : Int) < (((rep times t).length : Nat) : Int) then (500 : Int) else (((rep times t).length : Nat) : Int)) = ((min (rep times t).length 500 : Nat) : Int) := by
              split <;> omega
            rw [e5]
          refine ⟨_, rfl, p, c, 2, rfl, Pb.keep (Same.new hT2n), by decide, by decide, fun Hc d3 bc Pc hd3 => ?_⟩
          have nT := (Pb.new hT2n).1
          obtain ⟨v, pl, ev, evp, hpl2⟩ : ∃ (v : Int) (pl : Nat), ([V.int ((d1 : Nat) : Int), V.int (((t.length : Nat) : Int) * ((times : Nat) : Int) - 1 - ((d2 : Nat) : Int))] : List V)[d3]? = some (.int v) ∧ v = ((pl : Nat) : Int) ∧ pl < (rep times t).length := by
            match d3, hd3 with
            | 0, _ => exact ⟨_, d1, rfl, rfl, hd1⟩
            | 1, _ => exact ⟨_, (rep times t).length - 1 - d2, rfl, by rw [eST]; omega, by omega⟩
          refine ⟨T2, _, _, _, rfl, rfl, SqT.of (bc _ _ upd_same nT), at_of (j := d3) rfl ev, ?_⟩
          exact ⟨v, pl, rfl, evp, hpl2, But.trans (But.then (But.trans (But.trans b16 ba) bb) (Same.new hT2n)) bc, Pc⟩
        rintro σ H17 ⟨v, pl, rfl, rfl, hpl2, b17, P17⟩
        -- far
        refine ⟨fun σ H' => ∃ (v : Int) (fr : Nat), σ = [some (.ref a), some (.ref p), some (.ref ra), some (.ref tb), some (.int (t.length : Nat)), some (.int (cut : Nat)), some (.int (times : Nat)), some (.int (first : Nat)), some (.ref x1), some (.ref Ld), some (.ref x), some (.int ((0 : Int) + (kk : Nat))), some (.int (pl : Nat)), some (.int v)] ∧
          v = ((fr : Nat) : Int) ∧ pl < fr ∧ fr ≤ (rep times t).length ∧ fr - pl ≤ 1000 ∧ But p H14 H' ∧ PoolAt H' p c, ?_, ?_⟩
        · refine ⟨_, rfl, _, rfl, _, _, rfl, rfl, cm, _, rfl, (by show 3 ≤ sizeLine; decide), fun T2 hT2n => ?_⟩
          refine ⟨_, rfl, p, c, 3, rfl, P17.keep (Same.new hT2n), by decide, by decide, fun Hd d4 bd Pd hd4 => ?_⟩
          have nT := (P17.new hT2n).1
          obtain ⟨dl, e4, hdl1, hdl2⟩ : ∃ dl : Nat, ([V.int 1, V.int 20, V.int 300] : List V)[d4]? = some (V.int ((dl : Nat) : Int)) ∧ 1 ≤ dl ∧ dl ≤ 300 := by
            match d4, hd4 with
            | 0, _ => exact ⟨1, rfl, by decide, by decide⟩
            | 1, _ => exact ⟨20, rfl, by decide, by decide⟩
            | 2, _ => exact ⟨300, rfl, by decide, by decide⟩
          refine ⟨T2, _, _, _, rfl, rfl, SqT.of (bd _ _ upd_same nT), at_of (j := d4) rfl e4, _, _, rfl, rfl, _, _, rfl, ?_⟩
          refine ⟨_, min (pl + dl) (rep times t).length, rfl, ?_, by omega, by omega, by omega, But.trans (But.then b17 (Same.new hT2n)) bd, Pd⟩
          show (if ((pl : Nat) : Int) + ((dl : Nat) : Int) < ((t.length : Nat) : Int) * ((times : Nat) : Int) then ((pl : Nat) : Int) + ((dl : Nat) : Int) else ((t.length : Nat) : Int) * ((times : Nat) : Int)) = _
          rw [eST]
          split <;> omega
        rintro σ H18 ⟨v, fr, rfl, rfl, hf1, hf2, hf3, b18, P18⟩
        -- the letters at the place
        have hx18 := hTx.but P14 b18
        have h118 := hT1'.but P14 b18
        obtain ⟨ch, hch⟩ : ∃ ch, (rep times t)[pl]? = some ch := ⟨_, List.getElem?_eq_getElem hpl2⟩
        obtain ⟨dxa, pra, pla, psa, hxa, _⟩ := id hx18
        obtain ⟨dxb, prb, plb, psb, hxb, _⟩ := id h118
        refine ⟨_, rfl, x, dxa, _, rfl, hxa, noL _ _ _, _, rfl, x, rs', ts', rep times t, pl, ch, rfl, hx18, hch, fun H19 s19 => ?_⟩
        refine ⟨_, rfl, x1, dxb, _, rfl, s19 _ _ hxb, noL _ _ _, _, rfl, x1, _, _, rep times t, pl, ch, rfl, h118.keep s19, hch, fun H20 s20 => ⟨.inr ⟨_, rfl⟩, _, rfl, ifF rfl ?_⟩⟩
        have s820 := s19.trans s20
        refine ⟨_, rfl, x, dxa, _, rfl, s820 _ _ hxa, noM _ _ _, _, rfl, _, rfl, x, rs', ts', rep times t, pl, fr, rfl, hx18.keep s820, hf1, hf2, hf3, fun H21 s21 => ?_⟩
        refine ⟨_, rfl, x1, dxb, _, rfl, s21 _ _ (s820 _ _ hxb), noM _ _ _, _, rfl, _, rfl, x1, _, _, rep times t, pl, fr, rfl, h118.keep (s820.trans s21), hf1, hf2, hf3, fun H22 s22 => ⟨.inr ⟨_, rfl⟩, _, rfl, ifF rfl ?_⟩⟩
        exact ⟨_, _, _, rfl, But.then b18 ((s820.trans s21).trans s22), P18.keep ((s820.trans s21).trans s22)⟩
      · rintro σ H' ⟨v11, v12, v13, rfl, b16, P16⟩
        exact ⟨_, _, _, _, rfl, b16, P16⟩
    · rintro σ H' ⟨v10, v11, v12, v13, rfl, b15, P15⟩
      exact k _

end
theorem all_mk {l : PySem.W.OpenLaw} {w : World} {K : PySem.W.Frag} {h : Heap} {mg : Str → Option Value} {fa C dS : Addr} {esS : Array DictEntry} {nS : Nat} (X : K.In h) (G : h.Ns mainGlobals mg) (hfa : mg "law" = some (.ref fa))
    {fRL fEA fFA fLO fCR fIP fIQ fPO fTA fWR fNU fNE fMA fRU fII fSA fGR fSH fLA fmI fmL fmC fmM : Addr}
    {odRL anRL odEA anEA odFA anFA odLO anLO odCR anCR odIP anIP odIQ anIQ odPO anPO odTA anTA odWR anWR odNU anNU odNE anNE odMA anMA odRU anRU odII anII odSA anSA odGR anGR odSH anSH odLA anLA odmI anmI odmL anmL odmC anmC odmM anmM : Option Addr} {slRL slEA slFA slLO slCR slIP slIQ slPO slTA slWR slNU slNE slMA slRU slII slSA slGR slSH slLA slmI slmL slmC slmM : Array (Option Value)}
    {ocRL kVRL dcRL pmRL cdRL ctRL ocEA kVEA dcEA pmEA cdEA ctEA ocFA kVFA dcFA pmFA cdFA ctFA ocLO kVLO dcLO pmLO cdLO ctLO ocCR kVCR dcCR pmCR cdCR ctCR ocIP kVIP dcIP pmIP cdIP ctIP ocIQ kVIQ dcIQ pmIQ cdIQ ctIQ ocPO kVPO dcPO pmPO cdPO ctPO ocTA kVTA dcTA pmTA cdTA ctTA ocWR kVWR dcWR pmWR cdWR ctWR ocNU kVNU dcNU pmNU cdNU ctNU ocNE kVNE dcNE pmNE cdNE ctNE ocMA kVMA dcMA pmMA cdMA ctMA ocRU kVRU dcRU pmRU cdRU ctRU ocII kVII dcII pmII cdII ctII ocSA kVSA dcSA pmSA cdSA ctSA ocGR kVGR dcGR pmGR cdGR ctGR ocSH kVSH dcSH pmSH cdSH ctSH ocLA kVLA dcLA pmLA cdLA ctLA ocmI kVmI dcmI pmmI cdmI ctmI ocmL kVmL dcmL pmmL cdmL ctmL ocmC kVmC dcmC pmmC cdmC ctmC ocmM kVmM dcmM pmmM cdmM ctmM : Value}
    {tLETTERS tMOST_RULES tMOST_WRITTEN tMOST_LETTERS tMOST_TOLD tletters tjoin tpower tpart tback : Tok}
    (aC : PySem.W.nsIn K mainGlobals "Text" = some (some (.ref C)))
    (aRL : PySem.W.nsIn K mainGlobals "rule_length" = some (some (.ref fRL)))
    (lRL : K.lookup fRL = some ⟨ocRL, odRL, .func (PySem.W.fnOf "rule_length" "rule_length" (defArgs sRL) (defBody sRL) (defScope sRL) .none kVRL dcRL pmRL anRL cdRL ctRL), slRL⟩)
    (cRL : PySem.W.codeIn K cdRL "rule_length" = true)
    (kRL : PySem.W.keepIn K (.ref fRL) = true)
    (aEA : PySem.W.nsIn K mainGlobals "earlier" = some (some (.ref fEA)))
    (lEA : K.lookup fEA = some ⟨ocEA, odEA, .func (PySem.W.fnOf "earlier" "earlier" (defArgs sEA) (defBody sEA) (defScope sEA) .none kVEA dcEA pmEA anEA cdEA ctEA), slEA⟩)
    (cEA : PySem.W.codeIn K cdEA "earlier" = true)
    (kEA : PySem.W.keepIn K (.ref fEA) = true)
    (aFA : PySem.W.nsIn K mainGlobals "fault" = some (some (.ref fFA)))
    (lFA : K.lookup fFA = some ⟨ocFA, odFA, .func (PySem.W.fnOf "fault" "fault" (defArgs sFA) (defBody sFA) (defScope sFA) .none kVFA dcFA pmFA anFA cdFA ctFA), slFA⟩)
    (cFA : PySem.W.codeIn K cdFA "fault" = true)
    (kFA : PySem.W.keepIn K (.ref fFA) = true)
    (aLO : PySem.W.nsIn K mainGlobals "lengths_of" = some (some (.ref fLO)))
    (lLO : K.lookup fLO = some ⟨ocLO, odLO, .func (PySem.W.fnOf "lengths_of" "lengths_of" (defArgs sLO) (defBody sLO) (defScope sLO) .none kVLO dcLO pmLO anLO cdLO ctLO), slLO⟩)
    (cLO : PySem.W.codeIn K cdLO "lengths_of" = true)
    (kLO : PySem.W.keepIn K (.ref fLO) = true)
    (aCR : PySem.W.nsIn K mainGlobals "check_rules" = some (some (.ref fCR)))
    (lCR : K.lookup fCR = some ⟨ocCR, odCR, .func (PySem.W.fnOf "check_rules" "check_rules" (defArgs sCR) (defBody sCR) (defScope sCR) .none kVCR dcCR pmCR anCR cdCR ctCR), slCR⟩)
    (cCR : PySem.W.codeIn K cdCR "check_rules" = true)
    (kCR : PySem.W.keepIn K (.ref fCR) = true)
    (aIP : PySem.W.nsIn K mainGlobals "inner_place" = some (some (.ref fIP)))
    (lIP : K.lookup fIP = some ⟨ocIP, odIP, .func (PySem.W.fnOf "inner_place" "inner_place" (defArgs sIP) (defBody sIP) (defScope sIP) .none kVIP dcIP pmIP anIP cdIP ctIP), slIP⟩)
    (cIP : PySem.W.codeIn K cdIP "inner_place" = true)
    (kIP : PySem.W.keepIn K (.ref fIP) = true)
    (aIQ : PySem.W.nsIn K mainGlobals "inner_parts" = some (some (.ref fIQ)))
    (lIQ : K.lookup fIQ = some ⟨ocIQ, odIQ, .func (PySem.W.fnOf "inner_parts" "inner_parts" (defArgs sIQ) (defBody sIQ) (defScope sIQ) .none kVIQ dcIQ pmIQ anIQ cdIQ ctIQ), slIQ⟩)
    (cIQ : PySem.W.codeIn K cdIQ "inner_parts" = true)
    (kIQ : PySem.W.keepIn K (.ref fIQ) = true)
    (aPO : PySem.W.nsIn K mainGlobals "_law_pool" = some (some (.ref fPO)))
    (lPO : K.lookup fPO = some ⟨ocPO, odPO, .func (PySem.W.fnOf "_law_pool" "_law_pool" (defArgs sPO) (defBody sPO) (defScope sPO) .none kVPO dcPO pmPO anPO cdPO ctPO), slPO⟩)
    (cPO : PySem.W.codeIn K cdPO "_law_pool" = true)
    (kPO : PySem.W.keepIn K (.ref fPO) = true)
    (aTA : PySem.W.nsIn K mainGlobals "_law_take" = some (some (.ref fTA)))
    (lTA : K.lookup fTA = some ⟨ocTA, odTA, .func (PySem.W.fnOf "_law_take" "_law_take" (defArgs sTA) (defBody sTA) (defScope sTA) .none kVTA dcTA pmTA anTA cdTA ctTA), slTA⟩)
    (cTA : PySem.W.codeIn K cdTA "_law_take" = true)
    (kTA : PySem.W.keepIn K (.ref fTA) = true)
    (aWR : PySem.W.nsIn K mainGlobals "_law_written" = some (some (.ref fWR)))
    (lWR : K.lookup fWR = some ⟨ocWR, odWR, .func (PySem.W.fnOf "_law_written" "_law_written" (defArgs sWR) (defBody sWR) (defScope sWR) .none kVWR dcWR pmWR anWR cdWR ctWR), slWR⟩)
    (cWR : PySem.W.codeIn K cdWR "_law_written" = true)
    (kWR : PySem.W.keepIn K (.ref fWR) = true)
    (aNU : PySem.W.nsIn K mainGlobals "_law_number" = some (some (.ref fNU)))
    (lNU : K.lookup fNU = some ⟨ocNU, odNU, .func (PySem.W.fnOf "_law_number" "_law_number" (defArgs sNU) (defBody sNU) (defScope sNU) .none kVNU dcNU pmNU anNU cdNU ctNU), slNU⟩)
    (cNU : PySem.W.codeIn K cdNU "_law_number" = true)
    (kNU : PySem.W.keepIn K (.ref fNU) = true)
    (aNE : PySem.W.nsIn K mainGlobals "_law_next" = some (some (.ref fNE)))
    (lNE : K.lookup fNE = some ⟨ocNE, odNE, .func (PySem.W.fnOf "_law_next" "_law_next" (defArgs sNE) (defBody sNE) (defScope sNE) .none kVNE dcNE pmNE anNE cdNE ctNE), slNE⟩)
    (cNE : PySem.W.codeIn K cdNE "_law_next" = true)
    (kNE : PySem.W.keepIn K (.ref fNE) = true)
    (aMA : PySem.W.nsIn K mainGlobals "_law_made" = some (some (.ref fMA)))
    (lMA : K.lookup fMA = some ⟨ocMA, odMA, .func (PySem.W.fnOf "_law_made" "_law_made" (defArgs sMA) (defBody sMA) (defScope sMA) .none kVMA dcMA pmMA anMA cdMA ctMA), slMA⟩)
    (cMA : PySem.W.codeIn K cdMA "_law_made" = true)
    (kMA : PySem.W.keepIn K (.ref fMA) = true)
    (aRU : PySem.W.nsIn K mainGlobals "_law_rules" = some (some (.ref fRU)))
    (lRU : K.lookup fRU = some ⟨ocRU, odRU, .func (PySem.W.fnOf "_law_rules" "_law_rules" (defArgs sRU) (defBody sRU) (defScope sRU) .none kVRU dcRU pmRU anRU cdRU ctRU), slRU⟩)
    (cRU : PySem.W.codeIn K cdRU "_law_rules" = true)
    (kRU : PySem.W.keepIn K (.ref fRU) = true)
    (aII : PySem.W.nsIn K mainGlobals "_law_is_integer" = some (some (.ref fII)))
    (lII : K.lookup fII = some ⟨ocII, odII, .func (PySem.W.fnOf "_law_is_integer" "_law_is_integer" (defArgs sII) (defBody sII) (defScope sII) .none kVII dcII pmII anII cdII ctII), slII⟩)
    (cII : PySem.W.codeIn K cdII "_law_is_integer" = true)
    (kII : PySem.W.keepIn K (.ref fII) = true)
    (aSA : PySem.W.nsIn K mainGlobals "_law_same" = some (some (.ref fSA)))
    (lSA : K.lookup fSA = some ⟨ocSA, odSA, .func (PySem.W.fnOf "_law_same" "_law_same" (defArgs sSA) (defBody sSA) (defScope sSA) .none kVSA dcSA pmSA anSA cdSA ctSA), slSA⟩)
    (cSA : PySem.W.codeIn K cdSA "_law_same" = true)
    (kSA : PySem.W.keepIn K (.ref fSA) = true)
    (aGR : PySem.W.nsIn K mainGlobals "_law_grown" = some (some (.ref fGR)))
    (lGR : K.lookup fGR = some ⟨ocGR, odGR, .func (PySem.W.fnOf "_law_grown" "_law_grown" (defArgs sGR) (defBody sGR) (defScope sGR) .none kVGR dcGR pmGR anGR cdGR ctGR), slGR⟩)
    (cGR : PySem.W.codeIn K cdGR "_law_grown" = true)
    (kGR : PySem.W.keepIn K (.ref fGR) = true)
    (aSH : PySem.W.nsIn K mainGlobals "_law_shifted" = some (some (.ref fSH)))
    (lSH : K.lookup fSH = some ⟨ocSH, odSH, .func (PySem.W.fnOf "_law_shifted" "_law_shifted" (defArgs sSH) (defBody sSH) (defScope sSH) .none kVSH dcSH pmSH anSH cdSH ctSH), slSH⟩)
    (cSH : PySem.W.codeIn K cdSH "_law_shifted" = true)
    (kSH : PySem.W.keepIn K (.ref fSH) = true)
    (aLA : PySem.W.nsIn K mainGlobals "law" = some (some (.ref fLA)))
    (lLA : K.lookup fLA = some ⟨ocLA, odLA, .func (PySem.W.fnOf "law" "law" (defArgs sLA) (defBody sLA) (defScope sLA) .none kVLA dcLA pmLA anLA cdLA ctLA), slLA⟩)
    (cLA : PySem.W.codeIn K cdLA "law" = true)
    (kLA : PySem.W.keepIn K (.ref fLA) = true)
    (amI : PySem.W.findIn K (.ref C) "__init__" = some (some (.ref fmI)))
    (imI : PySem.W.isFn K (.ref fmI) = true)
    (lmI : K.lookup fmI = some ⟨ocmI, odmI, .func (PySem.W.fnOf "__init__" "Text.__init__" (defArgs smI) (defBody smI) (defScope smI) .none kVmI dcmI pmmI anmI cdmI ctmI), slmI⟩)
    (cmI : PySem.W.codeIn K cdmI "Text.__init__" = true)
    (kmI : PySem.W.keepIn K (.ref fmI) = true)
    (amL : PySem.W.findIn K (.ref C) "letter" = some (some (.ref fmL)))
    (imL : PySem.W.isFn K (.ref fmL) = true)
    (lmL : K.lookup fmL = some ⟨ocmL, odmL, .func (PySem.W.fnOf "letter" "Text.letter" (defArgs smL) (defBody smL) (defScope smL) .none kVmL dcmL pmmL anmL cdmL ctmL), slmL⟩)
    (cmL : PySem.W.codeIn K cdmL "Text.letter" = true)
    (kmL : PySem.W.keepIn K (.ref fmL) = true)
    (amC : PySem.W.findIn K (.ref C) "check_part" = some (some (.ref fmC)))
    (imC : PySem.W.isFn K (.ref fmC) = true)
    (lmC : K.lookup fmC = some ⟨ocmC, odmC, .func (PySem.W.fnOf "check_part" "Text.check_part" (defArgs smC) (defBody smC) (defScope smC) .none kVmC dcmC pmmC anmC cdmC ctmC), slmC⟩)
    (cmC : PySem.W.codeIn K cdmC "Text.check_part" = true)
    (kmC : PySem.W.keepIn K (.ref fmC) = true)
    (amM : PySem.W.findIn K (.ref C) "letters" = some (some (.ref fmM)))
    (imM : PySem.W.isFn K (.ref fmM) = true)
    (lmM : K.lookup fmM = some ⟨ocmM, odmM, .func (PySem.W.fnOf "letters" "Text.letters" (defArgs smM) (defBody smM) (defScope smM) .none kVmM dcmM pmmM anmM cdmM ctmM), slmM⟩)
    (cmM : PySem.W.codeIn K cdmM "Text.letters" = true)
    (kmM : PySem.W.keepIn K (.ref fmM) = true)
    (pg : PySem.W.plainGet K C Str.empty = true)
    (hd : PySem.W.hasDictIn K C = true)
    (po : PySem.W.plainOver K C = true)
    (sa : PySem.W.findIn K (.ref C) "__setattr__" = some (some (.builtin "object.__setattr__")))
    (mk : PySem.W.makesIn K C = true)
    (kc : PySem.W.keepIn K (.ref C) = true)
    (n_rules : PySem.W.findIn K (.ref C) "rules" = some none)
    (n_lengths : PySem.W.findIn K (.ref C) "lengths" = some none)
    (n_length : PySem.W.findIn K (.ref C) "length" = some none)
    (b_len : PySem.W.nsIn K mainGlobals "len" = some none)
    (b_all : PySem.W.nsIn K mainGlobals "all" = some none)
    (b_tuple : PySem.W.nsIn K mainGlobals "tuple" = some none)
    (b_enumerate : PySem.W.nsIn K mainGlobals "enumerate" = some none)
    (b_range : PySem.W.nsIn K mainGlobals "range" = some none)
    (b_max : PySem.W.nsIn K mainGlobals "max" = some none)
    (b_min : PySem.W.nsIn K mainGlobals "min" = some none)
    (b_int : PySem.W.nsIn K mainGlobals "int" = some none)
    (b_isinstance : PySem.W.nsIn K mainGlobals "isinstance" = some none)
    (b_bool : PySem.W.nsIn K mainGlobals "bool" = some none)
    (b_str : PySem.W.nsIn K mainGlobals "str" = some none)
    (b_list : PySem.W.nsIn K mainGlobals "list" = some none)
    (gLETTERS : PySem.W.nsIn K mainGlobals "LETTERS" = some (some (.str lettersS tLETTERS)))
    (gMOST_RULES : PySem.W.nsIn K mainGlobals "MOST_RULES" = some (some (.int 60 tMOST_RULES)))
    (gMOST_WRITTEN : PySem.W.nsIn K mainGlobals "MOST_WRITTEN" = some (some (.int 64 tMOST_WRITTEN)))
    (gMOST_LETTERS : PySem.W.nsIn K mainGlobals "MOST_LETTERS" = some (some (.int 1000000000000 tMOST_LETTERS)))
    (gMOST_TOLD : PySem.W.nsIn K mainGlobals "MOST_TOLD" = some (some (.int 1000 tMOST_TOLD)))
    (gSIZES : PySem.W.nsIn K mainGlobals "SIZES" = some (some (.ref dS)))
    (lS : K.lookup dS = some ⟨.type "dict", none, .dict esS nS, #[]⟩)
    (kS : PySem.W.KeysLit w.params esS.toList)
    (oS : (dS == sysModules) = false)
    (zletters : PySem.W.nsIn K dS "letters" = some (some (.int 2 tletters)))
    (zjoin : PySem.W.nsIn K dS "join" = some (some (.int 3 tjoin)))
    (zpower : PySem.W.nsIn K dS "power" = some (some (.int 3 tpower)))
    (zpart : PySem.W.nsIn K dS "part" = some (some (.int 4 tpart)))
    (zback : PySem.W.nsIn K dS "back" = some (some (.int 2 tback)))
    : ∃ fd : FuncData, (∀ (s : Shared) (v : Value), BindsTo s fd ⟨[v], []⟩ [("_law_script", v)]) ∧ ∀ base : Heap, K.In base → base.Ns mainGlobals mg → FnOk l.prog w K mg base CX0 lawLevel fa fd ["_law_script"] (spLaw K) := by
  have e := hfa.symm.trans (PySem.W.mg_of X G aLA)
  cases e
  have T : Txt K w mg C := ⟨⟨pg, hd, po, sa⟩, PySem.W.mg_of X G aC, n_rules, n_lengths, n_length, PySem.W.mg_none_of X G b_len, PySem.W.mg_none_of X G b_all, PySem.W.mg_none_of X G b_tuple, PySem.W.mg_none_of X G b_enumerate, PySem.W.mg_none_of X G b_range, PySem.W.mg_none_of X G b_max, PySem.W.mg_none_of X G b_min, PySem.W.mg_none_of X G b_int, PySem.W.mg_none_of X G b_isinstance, PySem.W.mg_none_of X G b_bool, PySem.W.mg_none_of X G b_str, PySem.W.mg_none_of X G b_list, ⟨_, PySem.W.mg_of X G gLETTERS⟩, ⟨_, PySem.W.mg_of X G gMOST_RULES⟩, ⟨_, PySem.W.mg_of X G gMOST_WRITTEN⟩, ⟨_, PySem.W.mg_of X G gMOST_LETTERS⟩, ⟨_, PySem.W.mg_of X G gMOST_TOLD⟩, ⟨dS, PySem.W.mg_of X G gSIZES, oS, ⟨esS, nS, _, lS, kS, zletters, ⟨_, rfl⟩⟩, ⟨esS, nS, _, lS, kS, zjoin, ⟨_, rfl⟩⟩, ⟨esS, nS, _, lS, kS, zpower, ⟨_, rfl⟩⟩, ⟨esS, nS, _, lS, kS, zpart, ⟨_, rfl⟩⟩, ⟨esS, nS, _, lS, kS, zback, ⟨_, rfl⟩⟩⟩⟩
  have FRL := fun_mk (st := sRL) lRL cRL kRL
  have bnRL := FRL.binds (ps := ["rule", "lengths"]) fun _ _ _ _ _ _ us hl => match us, hl with | [_, _], _ => rfl
  have FEA := fun_mk (st := sEA) lEA cEA kEA
  have bnEA := FEA.binds (ps := ["rule"]) fun _ _ _ _ _ _ us hl => match us, hl with | [_], _ => rfl
  have FFA := fun_mk (st := sFA) lFA cFA kFA
  have bnFA := FFA.binds (ps := ["rule", "lengths"]) fun _ _ _ _ _ _ us hl => match us, hl with | [_, _], _ => rfl
  have FLO := fun_mk (st := sLO) lLO cLO kLO
  have bnLO := FLO.binds (ps := ["rules"]) fun _ _ _ _ _ _ us hl => match us, hl with | [_], _ => rfl
  have FCR := fun_mk (st := sCR) lCR cCR kCR
  have bnCR := FCR.binds (ps := ["rules"]) fun _ _ _ _ _ _ us hl => match us, hl with | [_], _ => rfl
  have FIP := fun_mk (st := sIP) lIP cIP kIP
  have bnIP := FIP.binds (ps := ["rule", "lengths", "place"]) fun _ _ _ _ _ _ us hl => match us, hl with | [_, _, _], _ => rfl
  have FIQ := fun_mk (st := sIQ) lIQ cIQ kIQ
  have bnIQ := FIQ.binds (ps := ["rule", "lengths", "start", "stop"]) fun _ _ _ _ _ _ us hl => match us, hl with | [_, _, _, _], _ => rfl
  have FPO := fun_mk (st := sPO) lPO cPO kPO
  have bnPO := FPO.binds (ps := ["_law_script"]) fun _ _ _ _ _ _ us hl => match us, hl with | [_], _ => rfl
  have FTA := fun_mk (st := sTA) lTA cTA kTA
  have bnTA := FTA.binds (ps := ["_law_pool_here", "_law_many"]) fun _ _ _ _ _ _ us hl => match us, hl with | [_, _], _ => rfl
  have FWR := fun_mk (st := sWR) lWR cWR kWR
  have bnWR := FWR.binds (ps := ["_law_pool_here"]) fun _ _ _ _ _ _ us hl => match us, hl with | [_], _ => rfl
  have FNU := fun_mk (st := sNU) lNU cNU kNU
  have bnNU := FNU.binds (ps := ["_law_pool_here", "_law_many"]) fun _ _ _ _ _ _ us hl => match us, hl with | [_, _], _ => rfl
  have FNE := fun_mk (st := sNE) lNE cNE kNE
  have bnNE := FNE.binds (ps := ["_law_pool_here", "_law_texts", "_law_most"]) fun _ _ _ _ _ _ us hl => match us, hl with | [_, _, _], _ => rfl
  have FMA := fun_mk (st := sMA) lMA cMA kMA
  have bnMA := FMA.binds (ps := ["_law_texts", "_law_rule"]) fun _ _ _ _ _ _ us hl => match us, hl with | [_, _], _ => rfl
  have FRU := fun_mk (st := sRU) lRU cRU kRU
  have bnRU := FRU.binds (ps := ["_law_pool_here", "_law_most"]) fun _ _ _ _ _ _ us hl => match us, hl with | [_, _], _ => rfl
  have FII := fun_mk (st := sII) lII cII kII
  have bnII := FII.binds (ps := ["_law_actual"]) fun _ _ _ _ _ _ us hl => match us, hl with | [_], _ => rfl
  have FSA := fun_mk (st := sSA) lSA cSA kSA
  have bnSA := FSA.binds (ps := ["_law_actual", "_law_due"]) fun _ _ _ _ _ _ us hl => match us, hl with | [_, _], _ => rfl
  have FGR := fun_mk (st := sGR) lGR cGR kGR
  have bnGR := FGR.binds (ps := ["_law_rules_here", "_law_texts", "_law_cut", "_law_times", "_law_first"]) fun _ _ _ _ _ _ us hl => match us, hl with | [_, _, _, _, _], _ => rfl
  have FSH := fun_mk (st := sSH) lSH cSH kSH
  have bnSH := FSH.binds (ps := ["_law_rules_here", "_law_size", "_law_cut", "_law_times"]) fun _ _ _ _ _ _ us hl => match us, hl with | [_, _, _, _], _ => rfl
  have FLA := fun_mk (st := sLA) lLA cLA kLA
  have FmI := fun_mk (st := smI) lmI cmI kmI
  have bnmI := FmI.binds (ps := ["self", "rules"]) fun _ _ _ _ _ _ us hl => match us, hl with | [_, _], _ => rfl
  have FmL := fun_mk (st := smL) lmL cmL kmL
  have bnmL := FmL.binds (ps := ["self", "place"]) fun _ _ _ _ _ _ us hl => match us, hl with | [_, _], _ => rfl
  have FmC := fun_mk (st := smC) lmC cmC kmC
  have bnmC := FmC.binds (ps := ["self", "start", "stop"]) fun _ _ _ _ _ _ us hl => match us, hl with | [_, _, _], _ => rfl
  have FmM := fun_mk (st := smM) lmM cmM kmM
  have bnmM := FmM.binds (ps := ["self", "start", "stop"]) fun _ _ _ _ _ _ us hl => match us, hl with | [_, _, _], _ => rfl
  refine ⟨PySem.W.fnOf "law" "law" (defArgs sLA) (defBody sLA) (defScope sLA) .none kVLA dcLA pmLA anLA cdLA ctLA, fun s v => .of_eq rfl, fun base _ _ => ?_⟩
  have DRL : Cal l.prog w K mg base "rule_length" 1 ["rule", "lengths"] spRL := ⟨fRL, _, ok_RL FRL T, PySem.W.mg_of X G aRL, kRL, bnRL⟩
  have DEA : Cal l.prog w K mg base "earlier" 1 ["rule"] spEA := ⟨fEA, _, ok_EA FEA, PySem.W.mg_of X G aEA, kEA, bnEA⟩
  have DFA : Cal l.prog w K mg base "fault" 2 ["rule", "lengths"] spFA := ⟨fFA, _, ok_FA FFA T DEA DRL, PySem.W.mg_of X G aFA, kFA, bnFA⟩
  have DLO : Cal l.prog w K mg base "lengths_of" 2 ["rules"] spLO := ⟨fLO, _, ok_LO FLO T DRL, PySem.W.mg_of X G aLO, kLO, bnLO⟩
  have DCR : Cal l.prog w K mg base "check_rules" 3 ["rules"] spCR := ⟨fCR, _, ok_CR FCR T DFA DRL, PySem.W.mg_of X G aCR, kCR, bnCR⟩
  have GmI : FnOk l.prog w K mg base CX0 4 fmI _ ["self", "rules"] (spInit C) := ok_Init FmI T DCR DLO
  have DIP : Cal l.prog w K mg base "inner_place" 1 ["rule", "lengths", "place"] spIP := ⟨fIP, _, ok_IP FIP, PySem.W.mg_of X G aIP, kIP, bnIP⟩
  have DmL : CalM l.prog w K mg base C "letter" 2 ["self", "place"] (spL C) := ⟨fmL, _, ok_L FmL T DIP, ⟨amL, imL, kmL⟩, bnmL⟩
  have DmC : CalM l.prog w K mg base C "check_part" 1 ["self", "start", "stop"] (spCk C) := ⟨fmC, _, ok_Ck FmC T, ⟨amC, imC, kmC⟩, bnmC⟩
  have DIQ : Cal l.prog w K mg base "inner_parts" 1 ["rule", "lengths", "start", "stop"] spIQ := ⟨fIQ, _, ok_IQ FIQ T, PySem.W.mg_of X G aIQ, kIQ, bnIQ⟩
  have DmM : CalM l.prog w K mg base C "letters" 2 ["self", "start", "stop"] (spM C) := ⟨fmM, _, ok_M FmM T DIQ DmC, ⟨amM, imM, kmM⟩, bnmM⟩
  have DPO : Cal l.prog w K mg base "_law_pool" 1 ["_law_script"] (spPO K) := ⟨fPO, _, ok_PO FPO, PySem.W.mg_of X G aPO, kPO, bnPO⟩
  have DTA1 : Cal l.prog w K mg base "_law_take" 1 ["_law_pool_here", "_law_many"] spTA1 := ⟨fTA, _, ok_TA1 FTA T, PySem.W.mg_of X G aTA, kTA, bnTA⟩
  have DTA : Cal l.prog w K mg base "_law_take" 2 ["_law_pool_here", "_law_many"] spTA := ⟨fTA, _, ok_TA FTA T DTA1, PySem.W.mg_of X G aTA, kTA, bnTA⟩
  have DNU : Cal l.prog w K mg base "_law_number" 3 ["_law_pool_here", "_law_many"] spTA := ⟨fNU, _, ok_NU FNU DTA, PySem.W.mg_of X G aNU, kNU, bnNU⟩
  have DWR : Cal l.prog w K mg base "_law_written" 3 ["_law_pool_here"] spWR := ⟨fWR, _, ok_WR FWR T DTA, PySem.W.mg_of X G aWR, kWR, bnWR⟩
  have DNE : Cal l.prog w K mg base "_law_next" 4 ["_law_pool_here", "_law_texts", "_law_most"] spNE := ⟨fNE, _, ok_NE FNE T DTA DWR DNU, PySem.W.mg_of X G aNE, kNE, bnNE⟩
  have DMA : Cal l.prog w K mg base "_law_made" 1 ["_law_texts", "_law_rule"] spMA := ⟨fMA, _, ok_MA FMA, PySem.W.mg_of X G aMA, kMA, bnMA⟩
  have DRU : Cal l.prog w K mg base "_law_rules" 5 ["_law_pool_here", "_law_most"] spRU := ⟨fRU, _, ok_RU FRU T DTA DNE DMA, PySem.W.mg_of X G aRU, kRU, bnRU⟩
  have DII : Cal l.prog w K mg base "_law_is_integer" 1 ["_law_actual"] spII := ⟨fII, _, ok_II FII T, PySem.W.mg_of X G aII, kII, bnII⟩
  have DSA : Cal l.prog w K mg base "_law_same" 2 ["_law_actual", "_law_due"] spSA := ⟨fSA, _, ok_SA FSA T DII, PySem.W.mg_of X G aSA, kSA, bnSA⟩
  have DGR : Cal l.prog w K mg base "_law_grown" 1 ["_law_rules_here", "_law_texts", "_law_cut", "_law_times", "_law_first"] spGR := ⟨fGR, _, ok_GR FGR T, PySem.W.mg_of X G aGR, kGR, bnGR⟩
  have DSH : Cal l.prog w K mg base "_law_shifted" 1 ["_law_rules_here", "_law_size", "_law_cut", "_law_times"] spSH := ⟨fSH, _, ok_SH FSH T, PySem.W.mg_of X G aSH, kSH, bnSH⟩
  exact ok_LA FLA T DPO DTA DRU DSA DGR DSH ⟨mk, amI, imI, kc⟩ GmI bnmI DmL DmM
theorem walk {l : PySem.W.OpenLaw} {q : Program} {loose : List Str} {XP : (Str → Option Value) → Heap → Prop} {YP : World → Heap → Prop} {d : DefRec} {K : Params → PySem.W.Frag} (hn : l.most = some 63) (hdf : d.params.defaults = [])
    (hY : ∀ (w : World) (h : Heap), YP w h → (K w.params).In h)
    (F : ∀ (w : World) (mg : Str → Option Value) (fa : Addr) (h : Heap), (K w.params).In h → h.Ns mainGlobals mg → mg d.name = some (.ref fa) →
      ∃ fd : FuncData, (∀ (s : Shared) (u : Value), BindsTo s fd ⟨[u], []⟩ [("_law_script", u)]) ∧ ∀ base : Heap, (K w.params).In base → base.Ns mainGlobals mg → FnOk l.prog w (K w.params) mg base CX0 lawLevel fa fd ["_law_script"] (spLaw (K w.params))) :
    PySem.W.WalkO q loose XP YP l.row.toRowW d [] (fun f vs => PySem.call f vs) :=
  L2.walk_of (n := 63) (k := lawLevel) (x := "_law_script") (CX := fun _ => CX0) (sp := fun w => spLaw (K w.params)) hn (by decide) hdf ⟨rfl, by decide, by decide⟩ hY F (fun _ _ a ns hl _ hS => ⟨a, ns, rfl, hS, hl, fun _ => rfl⟩) fun _ _ _ _ _ z => z
end Sh
open PySem PySem.W PyProof.Rows
set_option maxRecDepth 100000 in
set_option maxHeartbeats 0 in
theorem PySem.Challenge.cw_shortheld_k05_whole_other_rules_holds : PySem.Challenge.rw_shortheld_k05_whole_other_rules.Holds := by
  w_on; o_law; k_head; (case hw => w_witness2)
  k_fill
  refine Sh.walk (l := PySem.Challenge.rw_shortheld_k05_whole_other_rules) rfl rfl (fun w h Y => PySem.W.kIn_of Y) ?F
  case F =>
    intro w mg fa h KX G hmg
    refine' Sh.all_mk KX G hmg ?aC ?aRL ?lRL ?cRL ?kRL ?aEA ?lEA ?cEA ?kEA ?aFA ?lFA ?cFA ?kFA ?aLO ?lLO ?cLO ?kLO ?aCR ?lCR ?cCR ?kCR ?aIP ?lIP ?cIP ?kIP ?aIQ ?lIQ ?cIQ ?kIQ ?aPO ?lPO ?cPO ?kPO ?aTA ?lTA ?cTA ?kTA ?aWR ?lWR ?cWR ?kWR ?aNU ?lNU ?cNU ?kNU ?aNE ?lNE ?cNE ?kNE ?aMA ?lMA ?cMA ?kMA ?aRU ?lRU ?cRU ?kRU ?aII ?lII ?cII ?kII ?aSA ?lSA ?cSA ?kSA ?aGR ?lGR ?cGR ?kGR ?aSH ?lSH ?cSH ?kSH ?aLA ?lLA ?cLA ?kLA ?amI ?imI ?lmI ?cmI ?kmI ?amL ?imL ?lmL ?cmL ?kmL ?amC ?imC ?lmC ?cmC ?kmC ?amM ?imM ?lmM ?cmM ?kmM ?pg ?hd ?po ?sa ?mk ?kc ?n_rules ?n_lengths ?n_length ?b_len ?b_all ?b_tuple ?b_enumerate ?b_range ?b_max ?b_min ?b_int ?b_isinstance ?b_bool ?b_str ?b_list ?gLETTERS ?gMOST_RULES ?gMOST_WRITTEN ?gMOST_LETTERS ?gMOST_TOLD ?gSIZES ?lS ?kS ?oS ?zletters ?zjoin ?zpower ?zpart ?zback
    (case aC => k_is)
    (case aRL => k_is)
    (case lRL => k_is)
    (case cRL => k_is)
    (case kRL => k_is)
    (case aEA => k_is)
    (case lEA => k_is)
    (case cEA => k_is)
    (case kEA => k_is)
    (case aFA => k_is)
    (case lFA => k_is)
    (case cFA => k_is)
    (case kFA => k_is)
    (case aLO => k_is)
    (case lLO => k_is)
    (case cLO => k_is)
    (case kLO => k_is)
    (case aCR => k_is)
    (case lCR => k_is)
    (case cCR => k_is)
    (case kCR => k_is)
    (case aIP => k_is)
    (case lIP => k_is)
    (case cIP => k_is)
    (case kIP => k_is)
    (case aIQ => k_is)
    (case lIQ => k_is)
    (case cIQ => k_is)
    (case kIQ => k_is)
    (case aPO => k_is)
    (case lPO => k_is)
    (case cPO => k_is)
    (case kPO => k_is)
    (case aTA => k_is)
    (case lTA => k_is)
    (case cTA => k_is)
    (case kTA => k_is)
    (case aWR => k_is)
    (case lWR => k_is)
    (case cWR => k_is)
    (case kWR => k_is)
    (case aNU => k_is)
    (case lNU => k_is)
    (case cNU => k_is)
    (case kNU => k_is)
    (case aNE => k_is)
    (case lNE => k_is)
    (case cNE => k_is)
    (case kNE => k_is)
    (case aMA => k_is)
    (case lMA => k_is)
    (case cMA => k_is)
    (case kMA => k_is)
    (case aRU => k_is)
    (case lRU => k_is)
    (case cRU => k_is)
    (case kRU => k_is)
    (case aII => k_is)
    (case lII => k_is)
    (case cII => k_is)
    (case kII => k_is)
    (case aSA => k_is)
    (case lSA => k_is)
    (case cSA => k_is)
    (case kSA => k_is)
    (case aGR => k_is)
    (case lGR => k_is)
    (case cGR => k_is)
    (case kGR => k_is)
    (case aSH => k_is)
    (case lSH => k_is)
    (case cSH => k_is)
    (case kSH => k_is)
    (case aLA => k_is)
    (case lLA => k_is)
    (case cLA => k_is)
    (case kLA => k_is)
    (case amI => k_is)
    (case imI => k_is)
    (case lmI => k_is)
    (case cmI => k_is)
    (case kmI => k_is)
    (case amL => k_is)
    (case imL => k_is)
    (case lmL => k_is)
    (case cmL => k_is)
    (case kmL => k_is)
    (case amC => k_is)
    (case imC => k_is)
    (case lmC => k_is)
    (case cmC => k_is)
    (case kmC => k_is)
    (case amM => k_is)
    (case imM => k_is)
    (case lmM => k_is)
    (case cmM => k_is)
    (case kmM => k_is)
    (case pg => k_is)
    (case hd => k_is)
    (case po => k_is)
    (case sa => k_is)
    (case mk => k_is)
    (case kc => k_is)
    (case n_rules => k_is)
    (case n_lengths => k_is)
    (case n_length => k_is)
    (case b_len => k_is)
    (case b_all => k_is)
    (case b_tuple => k_is)
    (case b_enumerate => k_is)
    (case b_range => k_is)
    (case b_max => k_is)
    (case b_min => k_is)
    (case b_int => k_is)
    (case b_isinstance => k_is)
    (case b_bool => k_is)
    (case b_str => k_is)
    (case b_list => k_is)
    (case gLETTERS => k_is)
    (case gMOST_RULES => k_is)
    (case gMOST_WRITTEN => k_is)
    (case gMOST_LETTERS => k_is)
    (case gMOST_TOLD => k_is)
    (case gSIZES => k_is)
    (case lS => k_is)
    (case kS => k_keys)
    (case oS => decide)
    (case zletters => k_is)
    (case zjoin => k_is)
    (case zpower => k_is)
    (case zpart => k_is)
    (case zback => k_is)
