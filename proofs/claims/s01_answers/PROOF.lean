import PyProof.Rows.All
import Wide.All
import OpenK.AllK
import Wide.FinOn
import Open.SpecLaws
import KE.OsGo
import HandS.ForSpec
import HandS.Comp
import HandS.Wide
import HandS.ExcInit
import HandS.ExcField
import HandS.NoneIn
import HandS.CallLocal
import PySem.Challenge.RW_sailcloth_s01_answers
set_option Elab.async false
set_option maxRecDepth 100000
set_option maxHeartbeats 4000000
/-! Fractions in lowest terms: frac, plus, less, below. -/
namespace Sail
open Uw31
def Ok (q : Q) : Prop := 0 < q.d ∧ Nat.gcd q.n.natAbs q.d = 1
theorem gcd_pos' {n : Int} {d : Nat} (h : 0 < d) : 0 < Nat.gcd n.natAbs d := Nat.gcd_pos_of_pos_right _ h
theorem frac_n {n : Int} {d : Nat} (h : 0 < d) : (frac n d).n = n / (Nat.gcd n.natAbs d : Int) := by
  unfold frac
  dsimp only
  rw [if_neg (Nat.ne_of_gt (gcd_pos' h))]
theorem frac_d {n : Int} {d : Nat} (h : 0 < d) : (frac n d).d = d / Nat.gcd n.natAbs d := by
  unfold frac
  dsimp only
  rw [if_neg (Nat.ne_of_gt (gcd_pos' h))]
theorem frac_d_pos {n : Int} {d : Nat} (h : 0 < d) : 0 < (frac n d).d := by
  rw [frac_d h]
  exact Nat.div_pos (Nat.le_of_dvd h (Nat.gcd_dvd_right _ _)) (gcd_pos' h)
theorem gdvd {n : Int} {d : Nat} : ((Nat.gcd n.natAbs d : Nat) : Int) ∣ n := Int.ofNat_dvd_left.mpr (Nat.gcd_dvd_left _ _)
/-- n = g * (frac n d).n and d = g * (frac n d).d -/
theorem frac_mul {n : Int} {d : Nat} (h : 0 < d) : ∃ g : Nat, 0 < g ∧ n = (g : Int) * (frac n d).n ∧ d = g * (frac n d).d := by
  refine ⟨Nat.gcd n.natAbs d, gcd_pos' h, ?_, ?_⟩
  · rw [frac_n h]; exact (Int.mul_ediv_cancel' gdvd).symm
  · rw [frac_d h]; exact (Nat.mul_div_cancel' (Nat.gcd_dvd_right _ _)).symm
theorem frac_ok {n : Int} {d : Nat} (h : 0 < d) : Ok (frac n d) := by
  refine ⟨frac_d_pos h, ?_⟩
  have e : (frac n d).n.natAbs = n.natAbs / Nat.gcd n.natAbs d := by
    rw [frac_n h, Int.natAbs_ediv_of_dvd gdvd]; rfl
  rw [e, frac_d h]
  rw [Nat.gcd_div (Nat.gcd_dvd_left _ _) (Nat.gcd_dvd_right _ _)]
  exact Nat.div_self (gcd_pos' h)
theorem frac_cross {n : Int} {d : Nat} (h : 0 < d) : (frac n d).n * (d : Int) = n * ((frac n d).d : Int) := by
  obtain ⟨g, hg, e1, e2⟩ := frac_mul (n := n) h
  generalize frac n d = q at e1 e2
  subst e1
  subst e2
  push_cast
  grind
theorem ok_eq {a b : Q} (ha : Ok a) (hb : Ok b) (h : a.n * (b.d : Int) = b.n * (a.d : Int)) : a = b := by
  obtain ⟨an, ad⟩ := a
  obtain ⟨bn, bd⟩ := b
  obtain ⟨ha0, ha1⟩ := ha
  obtain ⟨hb0, hb1⟩ := hb
  dsimp only at *
  have hn : an.natAbs * bd = bn.natAbs * ad := by
    have := congrArg Int.natAbs h
    rw [Int.natAbs_mul, Int.natAbs_mul, Int.natAbs_natCast, Int.natAbs_natCast] at this
    exact this
  have d1 : ad ∣ bd := by
    have : ad ∣ an.natAbs * bd := ⟨bn.natAbs, by rw [hn, Nat.mul_comm]⟩
    exact Nat.Coprime.dvd_of_dvd_mul_left (Nat.Coprime.symm ha1) this
  have d2 : bd ∣ ad := by
    have : bd ∣ bn.natAbs * ad := ⟨an.natAbs, by rw [← hn, Nat.mul_comm]⟩
    exact Nat.Coprime.dvd_of_dvd_mul_left (Nat.Coprime.symm hb1) this
  have e : ad = bd := Nat.dvd_antisymm d1 d2
  subst e
  have : an = bn := Int.eq_of_mul_eq_mul_right (by omega) h
  rw [this]
theorem frac_eq {n m : Int} {d e : Nat} (hd : 0 < d) (he : 0 < e) (h : n * (e : Int) = m * (d : Int)) : frac n d = frac m e := by
  refine ok_eq (frac_ok hd) (frac_ok he) ?_
  have c1 := frac_cross (n := n) hd
  have c2 := frac_cross (n := m) he
  generalize frac n d = a at *
  generalize frac m e = b at *
  have hd' : (d : Int) ≠ 0 := by omega
  have he' : (e : Int) ≠ 0 := by omega
  refine Int.eq_of_mul_eq_mul_right (a := (d : Int) * (e : Int)) (Int.mul_ne_zero hd' he') ?_
  have : a.n * (b.d : Int) * ((d : Int) * e) = (a.n * d) * (b.d * e) := by grind
  rw [this, c1]
  have : b.n * (a.d : Int) * ((d : Int) * e) = (b.n * e) * (a.d * d) := by grind
  rw [this, c2]
  grind
theorem ok_frac {q : Q} (h : Ok q) : frac q.n q.d = q := ok_eq (frac_ok h.1) h (by
  have := frac_cross (n := q.n) h.1
  exact this)
theorem whole_ok (n : Int) : Ok (whole n) := ⟨Nat.one_pos, Nat.gcd_one_right _⟩
theorem frac_one (n : Int) : frac n 1 = whole n := ok_frac (whole_ok n)
theorem plus_ok {a b : Q} (ha : Ok a) (hb : Ok b) : Ok (a.plus b) := frac_ok (Nat.mul_pos ha.1 hb.1)
theorem less_ok {a b : Q} (ha : Ok a) (hb : Ok b) : Ok (a.less b) := frac_ok (Nat.mul_pos ha.1 hb.1)
theorem below_iff {a b : Q} : a.below b = true ↔ a.n * (b.d : Int) < b.n * (a.d : Int) := by
  unfold Q.below
  exact decide_eq_true_iff
theorem below_false {a b : Q} : a.below b = false ↔ b.n * (a.d : Int) ≤ a.n * (b.d : Int) := by
  unfold Q.below
  rw [decide_eq_false_iff_not]
  omega
theorem eq_of_not_below {a b : Q} (ha : Ok a) (hb : Ok b) (h : a.below b = false) (h' : b.below a = false) : a = b := by
  rw [below_false] at h h'
  exact ok_eq ha hb (by omega)
theorem below_irrefl {a : Q} : a.below a = false := by rw [below_false]; omega
theorem not_below_trans {a b c : Q} (ha : Ok a) (hb : Ok b) (hc : Ok c) (h : a.below b = false) (h' : b.below c = false) : a.below c = false := by
  rw [below_false] at *
  have pa : (0 : Int) < a.d := by have := ha.1; omega
  have pb : (0 : Int) < b.d := by have := hb.1; omega
  have pc : (0 : Int) < c.d := by have := hc.1; omega
  have h1 : b.n * (a.d : Int) * c.d ≤ a.n * b.d * c.d := Int.mul_le_mul_of_nonneg_right h (by omega)
  have h2 : c.n * (b.d : Int) * a.d ≤ b.n * c.d * a.d := Int.mul_le_mul_of_nonneg_right h' (by omega)
  have h3 : c.n * (a.d : Int) * b.d ≤ a.n * c.d * b.d := by grind
  exact Int.le_of_mul_le_mul_right h3 pb
theorem below_asymm {a b : Q} (h : a.below b = true) : b.below a = false := by
  rw [below_iff] at h
  rw [below_false]
  omega
/-- what fraction(above, below) gives, for below not 0 -/
def fr (a b : Int) : Q := if b < 0 then frac (-a) b.natAbs else frac a b.natAbs
theorem fr_ok {a b : Int} (h : b ≠ 0) : Ok (fr a b) := by
  unfold fr
  have : 0 < b.natAbs := Int.natAbs_pos.mpr h
  split <;> exact frac_ok this
theorem fr_nat (a : Int) {d : Nat} : fr a (d : Int) = frac a d := by
  unfold fr
  rw [if_neg (by omega)]
  rfl
/-- the two numbers as Python's fraction makes them: floor divisions by the signed greatest divisor -/
theorem fr_fdiv {a b : Int} (h : b ≠ 0) : (if b < 0 then a.fdiv (0 - (Int.gcd a b : Int)) else a.fdiv (Int.gcd a b : Int)) = (fr a b).n ∧ (if b < 0 then b.fdiv (0 - (Int.gcd a b : Int)) else b.fdiv (Int.gcd a b : Int)) = ((fr a b).d : Int) := by
  have hb : 0 < b.natAbs := Int.natAbs_pos.mpr h
  have hg : 0 < Int.gcd a b := Nat.gcd_pos_of_pos_right _ hb
  obtain ⟨u, hu⟩ : ((Int.gcd a b : Nat) : Int) ∣ a := Int.gcd_dvd_left ..
  obtain ⟨v, hv⟩ : ((Int.gcd a b : Nat) : Int) ∣ b := Int.gcd_dvd_right ..
  have gi : Int.gcd a b = Nat.gcd a.natAbs b.natAbs := rfl
  generalize eg : Int.gcd a b = g at *
  have g0 : (g : Int) ≠ 0 := by omega
  have q : ∀ x : Int, ((g : Int) * x).fdiv (g : Int) = x := fun x => by rw [Int.mul_comm]; exact Int.mul_fdiv_cancel x g0
  have q' : ∀ x : Int, ((g : Int) * x).fdiv (0 - (g : Int)) = -x := fun x => by
    have : (g : Int) * x = (-x) * (0 - (g : Int)) := by grind
    rw [this]
    exact Int.mul_fdiv_cancel _ (by omega)
  by_cases c : b < 0
  · rw [if_pos c, if_pos c]
    unfold fr
    rw [if_pos c]
    have e1 : (-a).natAbs = a.natAbs := Int.natAbs_neg a
    rw [frac_n hb, frac_d hb, e1, ← gi]
    constructor
    · rw [hu, q', ← Int.mul_neg]
      exact (Int.mul_ediv_cancel_left _ g0).symm
    · rw [Int.natCast_ediv, show ((b.natAbs : Nat) : Int) = -b by omega, hv, q', ← Int.mul_neg]
      exact (Int.mul_ediv_cancel_left _ g0).symm
  · rw [if_neg c, if_neg c]
    unfold fr
    rw [if_neg c]
    rw [frac_n hb, frac_d hb, ← gi]
    constructor
    · rw [hu, q]
      exact (Int.mul_ediv_cancel_left _ g0).symm
    · rw [Int.natCast_ediv, show ((b.natAbs : Nat) : Int) = b by omega, hv, q]
      exact (Int.mul_ediv_cancel_left _ g0).symm
end Sail

/-! What a panel's places and lengths are: crossing, places_within, length_within, against cut, marks, long. -/
namespace Sail
open Uw31
/-- the side comes to the height, and is not level -/
def comes (a b : P) (h : Int) : Prop := ((a.y : Int) ≤ h ∧ h ≤ b.y ∨ (b.y : Int) ≤ h ∧ h ≤ a.y) ∧ a.y ≠ b.y
instance (a b : P) (h : Int) : Decidable (comes a b h) := by unfold comes; infer_instance
/-- crossing's fraction -/
def crossQ (a b : P) (h : Int) : Q := fr ((a.x : Int) * ((b.y : Int) - a.y) + (h - a.y) * ((b.x : Int) - a.x)) ((b.y : Int) - a.y)
def crossL (a b : P) (h : Int) : List Q := if comes a b h then [crossQ a b h] else []
theorem whole_plus (x N : Int) {D : Nat} (h : 0 < D) : (whole x).plus (frac N D) = frac (x * D + N) D := by
  have c := frac_cross (n := N) h
  have o := frac_d_pos (n := N) h
  unfold Q.plus whole
  dsimp only
  refine frac_eq (by omega) h ?_
  generalize frac N D = q at *
  push_cast
  grind
theorem cut_cross (a b : P) (h : Int) : (cut a b h).toList = crossL a b h := by
  unfold cut crossL
  by_cases c : comes a b h
  · rw [if_pos c, if_pos (show (_ ∧ _) from c)]
    show [_] = [_]
    congr 1
    unfold crossQ fr
    obtain ⟨_, ne⟩ := c
    by_cases l : a.y < b.y
    · rw [if_pos l, if_neg (by omega), whole_plus _ _ (by omega)]
      have e1 : ((b.y - a.y : Nat) : Int) = (b.y : Int) - a.y := by omega
      have e2 : ((b.y : Int) - a.y).natAbs = b.y - a.y := by omega
      rw [e2, e1]
      congr 1
      grind
    · rw [if_neg l, if_pos (by omega), whole_plus _ _ (by omega)]
      have e1 : ((a.y - b.y : Nat) : Int) = (a.y : Int) - b.y := by omega
      have e2 : ((b.y : Int) - a.y).natAbs = a.y - b.y := by omega
      rw [e2, e1]
      congr 1
      grind
  · rw [if_neg c, if_neg (show ¬ (_ ∧ _) from c)]
    rfl
theorem crossL_ok {a b : P} {h : Int} {q : Q} (m : q ∈ crossL a b h) : Ok q := by
  unfold crossL at m
  split at m
  · rename_i c
    rw [List.mem_singleton] at m
    subst m
    exact fr_ok (by have := c.2; omega)
  · cases m
/-- the corner ahead of the k-th, round -/
def ahead (l : List P) (k : Nat) : P := if k = 0 then l.getD (l.length - 1) ⟨0, 0⟩ else l.getD (k - 1) ⟨0, 0⟩
/-- what one turn of places_within's loop adds -/
def placesAt (l : List P) (lo hi : Int) (k : Nat) : List Q :=
  (if lo ≤ ((l.getD k ⟨0, 0⟩).y : Int) ∧ ((l.getD k ⟨0, 0⟩).y : Int) ≤ hi then [whole (l.getD k ⟨0, 0⟩).x] else []) ++ crossL (ahead l k) (l.getD k ⟨0, 0⟩) lo ++ crossL (ahead l k) (l.getD k ⟨0, 0⟩) hi
def places (l : List P) (lo hi : Int) : List Q := (List.range l.length).flatMap (placesAt l lo hi)
theorem placesAt_ok {l : List P} {lo hi : Int} {k : Nat} {q : Q} (m : q ∈ placesAt l lo hi k) : Ok q := by
  unfold placesAt at m
  rw [List.mem_append, List.mem_append] at m
  rcases m with (m | m) | m
  · split at m
    · rw [List.mem_singleton] at m
      subst m
      exact whole_ok _
    · cases m
  · exact crossL_ok m
  · exact crossL_ok m
theorem places_ok {l : List P} {lo hi : Int} {q : Q} (m : q ∈ places l lo hi) : Ok q := by
  unfold places at m
  rw [List.mem_flatMap] at m
  obtain ⟨k, _, m⟩ := m
  exact placesAt_ok m
theorem placesAt_len (l : List P) (lo hi : Int) (k : Nat) : (placesAt l lo hi k).length ≤ 3 := by
  unfold placesAt crossL
  rw [List.length_append, List.length_append]
  split <;> split <;> split <;> simp
/-! ### the least, the most -/
def leastStep (m x : Q) : Q := if x.below m = true then x else m
def mostStep (m x : Q) : Q := if m.below x = true then x else m
def leastOf (l : List Q) : Q := l.foldl leastStep (l.getD 0 (whole 0))
def mostOf (l : List Q) : Q := l.foldl mostStep (l.getD 0 (whole 0))
def IsLeast (l : List Q) (m : Q) : Prop := m ∈ l ∧ ∀ x ∈ l, x.below m = false
def IsMost (l : List Q) (m : Q) : Prop := m ∈ l ∧ ∀ x ∈ l, m.below x = false
theorem fold_least : ∀ (l : List Q) (m : Q), (∀ x ∈ m :: l, Ok x) → IsLeast (m :: l) (l.foldl leastStep m)
  | [], m, _ => ⟨List.mem_cons_self, fun x hx => by
      rw [List.mem_singleton] at hx
      rw [hx]
      exact below_irrefl⟩
  | y :: r, m, h => by
    have hm := h m List.mem_cons_self
    have hy := h y (List.mem_cons_of_mem _ List.mem_cons_self)
    have hs : Ok (leastStep m y) := by unfold leastStep; split <;> assumption
    have ih := fold_least r (leastStep m y) (fun x hx => by
      rcases List.mem_cons.mp hx with e | e
      · rw [e]; exact hs
      · exact h x (List.mem_cons_of_mem _ (List.mem_cons_of_mem _ e)))
    rw [List.foldl_cons]
    obtain ⟨i1, i2⟩ := ih
    have hf : Ok (r.foldl leastStep (leastStep m y)) := by
      rcases List.mem_cons.mp i1 with e | e
      · rw [e]; exact hs
      · exact h _ (List.mem_cons_of_mem _ (List.mem_cons_of_mem _ e))
    have i3 := i2 (leastStep m y) List.mem_cons_self
    refine ⟨?_, fun x hx => ?_⟩
    · rcases List.mem_cons.mp i1 with e | e
      · rw [e]
        unfold leastStep
        split
        · exact List.mem_cons_of_mem _ List.mem_cons_self
        · exact List.mem_cons_self
      · exact List.mem_cons_of_mem _ (List.mem_cons_of_mem _ e)
    · rcases List.mem_cons.mp hx with e | e
      · subst e
        refine not_below_trans hm hs hf ?_ i3
        unfold leastStep
        split
        · rename_i c; exact below_asymm c
        · exact below_irrefl
      · rcases List.mem_cons.mp e with e | e
        · subst e
          refine not_below_trans hy hs hf ?_ i3
          unfold leastStep
          split
          · exact below_irrefl
          · rename_i c; exact Bool.eq_false_iff.mpr c
        · exact i2 x (List.mem_cons_of_mem _ e)
theorem fold_most : ∀ (l : List Q) (m : Q), (∀ x ∈ m :: l, Ok x) → IsMost (m :: l) (l.foldl mostStep m)
  | [], m, _ => ⟨List.mem_cons_self, fun x hx => by
      rw [List.mem_singleton] at hx
      rw [hx]
      exact below_irrefl⟩
  | y :: r, m, h => by
    have hm := h m List.mem_cons_self
    have hy := h y (List.mem_cons_of_mem _ List.mem_cons_self)
    have hs : Ok (mostStep m y) := by unfold mostStep; split <;> assumption
    have ih := fold_most r (mostStep m y) (fun x hx => by
      rcases List.mem_cons.mp hx with e | e
      · rw [e]; exact hs
      · exact h x (List.mem_cons_of_mem _ (List.mem_cons_of_mem _ e)))
    rw [List.foldl_cons]
    obtain ⟨i1, i2⟩ := ih
    have hf : Ok (r.foldl mostStep (mostStep m y)) := by
      rcases List.mem_cons.mp i1 with e | e
      · rw [e]; exact hs
      · exact h _ (List.mem_cons_of_mem _ (List.mem_cons_of_mem _ e))
    have i3 := i2 (mostStep m y) List.mem_cons_self
    refine ⟨?_, fun x hx => ?_⟩
    · rcases List.mem_cons.mp i1 with e | e
      · rw [e]
        unfold mostStep
        split
        · exact List.mem_cons_of_mem _ List.mem_cons_self
        · exact List.mem_cons_self
      · exact List.mem_cons_of_mem _ (List.mem_cons_of_mem _ e)
    · rcases List.mem_cons.mp hx with e | e
      · subst e
        refine not_below_trans hf hs hm i3 ?_
        unfold mostStep
        split
        · rename_i c; exact below_asymm c
        · exact below_irrefl
      · rcases List.mem_cons.mp e with e | e
        · subst e
          refine not_below_trans hf hs hy i3 ?_
          unfold mostStep
          split
          · exact below_irrefl
          · rename_i c; exact Bool.eq_false_iff.mpr c
        · exact i2 x (List.mem_cons_of_mem _ e)
theorem leastOf_is {l : List Q} (ne : l ≠ []) (h : ∀ x ∈ l, Ok x) : IsLeast l (leastOf l) := by
  cases l with
  | nil => exact absurd rfl ne
  | cons a r =>
    have := fold_least (a :: r) a (fun x hx => by
      rcases List.mem_cons.mp hx with e | e
      · rw [e]; exact h a List.mem_cons_self
      · exact h x e)
    obtain ⟨i1, i2⟩ := this
    refine ⟨?_, fun x hx => i2 x (List.mem_cons_of_mem _ hx)⟩
    rcases List.mem_cons.mp i1 with e | e
    · show leastOf (a :: r) ∈ _
      have e' : leastOf (a :: r) = a := e
      rw [e']; exact List.mem_cons_self
    · exact e
theorem mostOf_is {l : List Q} (ne : l ≠ []) (h : ∀ x ∈ l, Ok x) : IsMost l (mostOf l) := by
  cases l with
  | nil => exact absurd rfl ne
  | cons a r =>
    have := fold_most (a :: r) a (fun x hx => by
      rcases List.mem_cons.mp hx with e | e
      · rw [e]; exact h a List.mem_cons_self
      · exact h x e)
    obtain ⟨i1, i2⟩ := this
    refine ⟨?_, fun x hx => i2 x (List.mem_cons_of_mem _ hx)⟩
    rcases List.mem_cons.mp i1 with e | e
    · show mostOf (a :: r) ∈ _
      have e' : mostOf (a :: r) = a := e
      rw [e']; exact List.mem_cons_self
    · exact e
theorem leastQ_is : ∀ (l : List Q), l ≠ [] → (∀ x ∈ l, Ok x) → ∃ m, leastQ l = some m ∧ IsLeast l m
  | [], ne, _ => absurd rfl ne
  | [a], _, _ => ⟨a, rfl, List.mem_cons_self, fun x hx => by
      rw [List.mem_singleton] at hx
      rw [hx]
      exact below_irrefl⟩
  | a :: b :: r, _, h => by
    obtain ⟨m, e, i1, i2⟩ := leastQ_is (b :: r) (by simp) (fun x hx => h x (List.mem_cons_of_mem _ hx))
    have ha := h a List.mem_cons_self
    have hm := h m (List.mem_cons_of_mem _ i1)
    have e' : leastQ (a :: b :: r) = if a.below m = true then some a else some m := by
      show (match leastQ (b :: r) with | none => some a | some b => if a.below b = true then some a else some b) = _
      rw [e]
    by_cases c : a.below m = true
    · refine ⟨a, by rw [e', if_pos c], List.mem_cons_self, fun x hx => ?_⟩
      rcases List.mem_cons.mp hx with q | q
      · rw [q]; exact below_irrefl
      · exact not_below_trans (h x hx) hm ha (i2 x q) (below_asymm c)
    · refine ⟨m, by rw [e', if_neg c], List.mem_cons_of_mem _ i1, fun x hx => ?_⟩
      rcases List.mem_cons.mp hx with q | q
      · rw [q]; exact Bool.eq_false_iff.mpr c
      · exact i2 x q
theorem mostQ_is : ∀ (l : List Q), l ≠ [] → (∀ x ∈ l, Ok x) → ∃ m, mostQ l = some m ∧ IsMost l m
  | [], ne, _ => absurd rfl ne
  | [a], _, _ => ⟨a, rfl, List.mem_cons_self, fun x hx => by
      rw [List.mem_singleton] at hx
      rw [hx]
      exact below_irrefl⟩
  | a :: b :: r, _, h => by
    obtain ⟨m, e, i1, i2⟩ := mostQ_is (b :: r) (by simp) (fun x hx => h x (List.mem_cons_of_mem _ hx))
    have ha := h a List.mem_cons_self
    have hm := h m (List.mem_cons_of_mem _ i1)
    have e' : mostQ (a :: b :: r) = if m.below a = true then some a else some m := by
      show (match mostQ (b :: r) with | none => some a | some b => if b.below a = true then some a else some b) = _
      rw [e]
    by_cases c : m.below a = true
    · refine ⟨a, by rw [e', if_pos c], List.mem_cons_self, fun x hx => ?_⟩
      rcases List.mem_cons.mp hx with q | q
      · rw [q]; exact below_irrefl
      · exact not_below_trans ha hm (h x hx) (below_asymm c) (i2 x q)
    · refine ⟨m, by rw [e', if_neg c], List.mem_cons_of_mem _ i1, fun x hx => ?_⟩
      rcases List.mem_cons.mp hx with q | q
      · rw [q]; exact Bool.eq_false_iff.mpr c
      · exact i2 x q
theorem least_unique {l l' : List Q} {m m' : Q} (s : ∀ x, x ∈ l ↔ x ∈ l') (h : ∀ x ∈ l, Ok x) (a : IsLeast l m) (b : IsLeast l' m') : m = m' := by
  have h1 := a.1
  have h2 := (s m').mpr b.1
  exact eq_of_not_below (h _ h1) (h _ h2) (b.2 m ((s m).mp h1)) (a.2 m' h2)
theorem most_unique {l l' : List Q} {m m' : Q} (s : ∀ x, x ∈ l ↔ x ∈ l') (h : ∀ x ∈ l, Ok x) (a : IsMost l m) (b : IsMost l' m') : m = m' := by
  have h1 := a.1
  have h2 := (s m').mpr b.1
  exact eq_of_not_below (h _ h1) (h _ h2) (a.2 m' h2) (b.2 m ((s m).mp h1))
/-! ### marks and places hold the same -/
theorem look_default (w : Nat) : look w ⟨0, 0⟩ = ⟨0, 0⟩ := by unfold look; split <;> rfl
theorem getD_look (l : List P) (w k : Nat) : (l.map (look w)).getD k ⟨0, 0⟩ = look w (l.getD k ⟨0, 0⟩) := by
  rw [List.getD_eq_getElem?_getD, List.getD_eq_getElem?_getD, List.getElem?_map]
  cases l[k]? with
  | none => exact (look_default w).symm
  | some p => rfl
theorem ahead_look (l : List P) (w k : Nat) : ahead (l.map (look w)) k = look w (ahead l k) := by
  unfold ahead
  rw [List.length_map]
  split <;> exact getD_look l w _
/-- the sides are (the corner ahead of the k-th, the k-th) -/
theorem sides_len (s : Sail) : s.sides.length = s.corners.length := by
  unfold Sail.sides
  rw [List.length_zip, List.length_append, List.length_drop, List.length_take]
  omega
theorem get_getD {l : List P} {i : Nat} (h : i < l.length) : l[i]? = some (l.getD i ⟨0, 0⟩) := by
  rw [List.getD_eq_getElem?_getD, List.getElem?_eq_getElem h]; rfl
theorem sides_get (s : Sail) (i : Nat) (h : i < s.corners.length) : s.sides[i]? = some (s.corners.getD i ⟨0, 0⟩, s.corners.getD ((i + 1) % s.corners.length) ⟨0, 0⟩) := by
  unfold Sail.sides
  rw [List.getElem?_zip_eq_some]
  refine ⟨get_getD h, ?_⟩
  by_cases c : i + 1 < s.corners.length
  · rw [Nat.mod_eq_of_lt c, List.getElem?_append_left (by rw [List.length_drop]; omega), List.getElem?_drop, Nat.add_comm 1 i]
    exact get_getD c
  · have e : i + 1 = s.corners.length := by omega
    rw [e, Nat.mod_self, List.getElem?_append_right (by rw [List.length_drop]; omega), List.length_drop]
    have e0 : i - (s.corners.length - 1) = 0 := by omega
    rw [e0, List.getElem?_take_of_lt (by omega)]
    exact get_getD (by omega)
theorem mem_sides (s : Sail) (x : P × P) : x ∈ s.sides ↔ ∃ k, k < s.corners.length ∧ x = (ahead s.corners k, s.corners.getD k ⟨0, 0⟩) := by
  rw [List.mem_iff_getElem?]
  constructor
  · rintro ⟨i, hi⟩
    have hl : i < s.corners.length := by
      rw [← sides_len]
      exact (List.getElem?_eq_some_iff.mp hi).1
    rw [sides_get s i hl] at hi
    have hx := (Option.some.inj hi).symm
    by_cases c : i + 1 < s.corners.length
    · refine ⟨i + 1, c, ?_⟩
      rw [hx, Nat.mod_eq_of_lt c]
      unfold ahead
      rw [if_neg (by omega)]
      rfl
    · have e : i + 1 = s.corners.length := by omega
      refine ⟨0, by omega, ?_⟩
      rw [hx, e, Nat.mod_self]
      unfold ahead
      rw [if_pos rfl]
      have : i = s.corners.length - 1 := by omega
      rw [this]
  · rintro ⟨k, hk, rfl⟩
    by_cases c : k = 0
    · subst c
      refine ⟨s.corners.length - 1, ?_⟩
      rw [sides_get s _ (by omega)]
      unfold ahead
      rw [if_pos rfl]
      have : s.corners.length - 1 + 1 = s.corners.length := by omega
      rw [this, Nat.mod_self]
    · refine ⟨k - 1, ?_⟩
      rw [sides_get s _ (by omega)]
      unfold ahead
      rw [if_neg c]
      have : k - 1 + 1 = k := by omega
      rw [this, Nat.mod_eq_of_lt hk]
theorem cut_mem {a b : P} {h : Int} {q : Q} : cut a b h = some q ↔ q ∈ crossL a b h := by
  rw [← cut_cross]
  simp
theorem mem_marks (s : Sail) (w : Nat) (a b : Int) (q : Q) : q ∈ s.marks w a b ↔ q ∈ places (s.corners.map (look w)) a b := by
  unfold Sail.marks places
  rw [List.mem_append, List.mem_filterMap, List.mem_flatMap, List.mem_flatMap, List.length_map]
  constructor
  · rintro (⟨p, hp, h⟩ | ⟨x, hx, h⟩)
    · obtain ⟨k, hk⟩ := List.mem_iff_getElem?.mp hp
      have hl := (List.getElem?_eq_some_iff.mp hk).1
      refine ⟨k, List.mem_range.mpr hl, ?_⟩
      unfold placesAt
      rw [List.mem_append, List.mem_append, getD_look]
      have e : s.corners.getD k ⟨0, 0⟩ = p := by rw [List.getD_eq_getElem?_getD, hk]; rfl
      rw [e]
      refine .inl (.inl ?_)
      dsimp only at h
      split at h
      · rename_i c
        rw [if_pos c, List.mem_singleton]
        exact (Option.some.inj h).symm
      · cases h
    · obtain ⟨k, hk, rfl⟩ := (mem_sides s x).mp hx
      refine ⟨k, List.mem_range.mpr hk, ?_⟩
      unfold placesAt
      rw [List.mem_append, List.mem_append, getD_look, ahead_look]
      rw [List.mem_filterMap] at h
      obtain ⟨z, hz, h⟩ := h
      rw [cut_mem] at h
      rcases List.mem_cons.mp hz with e | e
      · subst e; exact .inl (.inr h)
      · rw [List.mem_singleton] at e
        subst e; exact .inr h
  · rintro ⟨k, hk, h⟩
    rw [List.mem_range] at hk
    unfold placesAt at h
    rw [List.mem_append, List.mem_append, getD_look, ahead_look] at h
    have hs := (mem_sides s _).mpr ⟨k, hk, rfl⟩
    rcases h with (h | h) | h
    · refine .inl ⟨s.corners.getD k ⟨0, 0⟩, ?_, ?_⟩
      · rw [List.getD_eq_getElem?_getD, List.getElem?_eq_getElem hk]
        exact List.getElem_mem hk
      · dsimp only
        split at h
        · rename_i c
          rw [if_pos c]
          rw [List.mem_singleton] at h
          rw [h]
        · cases h
    · refine .inr ⟨_, hs, List.mem_filterMap.mpr ⟨a, by simp, cut_mem.mpr h⟩⟩
    · refine .inr ⟨_, hs, List.mem_filterMap.mpr ⟨b, by simp, cut_mem.mpr h⟩⟩
/-- length_within's value -/
def lengthOf (l : List P) (lo hi : Int) : Q := (mostOf (places l lo hi)).less (leastOf (places l lo hi))
theorem long_is (s : Sail) (w : Nat) (a b : Int) (ne : places (s.corners.map (look w)) a b ≠ []) : s.long w a b = lengthOf (s.corners.map (look w)) a b := by
  have okp : ∀ x ∈ places (s.corners.map (look w)) a b, Ok x := fun x hx => places_ok hx
  have okm : ∀ x ∈ s.marks w a b, Ok x := fun x hx => okp x ((mem_marks s w a b x).mp hx)
  have nem : s.marks w a b ≠ [] := by
    intro z
    obtain ⟨q, hq⟩ := List.exists_mem_of_ne_nil _ ne
    have := (mem_marks s w a b q).mpr hq
    rw [z] at this
    cases this
  obtain ⟨m, e1, i1⟩ := leastQ_is _ nem okm
  obtain ⟨n, e2, i2⟩ := mostQ_is _ nem okm
  unfold Sail.long lengthOf
  rw [e1, e2]
  have h1 := least_unique (mem_marks s w a b) okm i1 (leastOf_is ne okp)
  have h2 := most_unique (mem_marks s w a b) okm i2 (mostOf_is ne okp)
  rw [h1, h2]
theorem lengthOf_ok {l : List P} {lo hi : Int} (ne : places l lo hi ≠ []) : Ok (lengthOf l lo hi) := by
  have okp : ∀ x ∈ places l lo hi, Ok x := fun x hx => places_ok hx
  exact less_ok (okp _ (mostOf_is ne okp).1) (okp _ (leastOf_is ne okp).1)
end Sail

/-! Where panels begin; a panel is never without places. -/
namespace Sail
open Uw31
theorem mem_getD {l : List P} {k : Nat} (h : k < l.length) : l.getD k ⟨0, 0⟩ ∈ l := by
  rw [List.getD_eq_getElem?_getD, List.getElem?_eq_getElem h]
  exact List.getElem_mem h
theorem exists_getD {l : List P} {p : P} (h : p ∈ l) : ∃ k, k < l.length ∧ l.getD k ⟨0, 0⟩ = p := by
  obtain ⟨k, hk⟩ := List.mem_iff_getElem?.mp h
  exact ⟨k, (List.getElem?_eq_some_iff.mp hk).1, by rw [List.getD_eq_getElem?_getD, hk]; rfl⟩
/-- round from a low corner to a high one some side goes up -/
theorem goes_up {l : List P} {h : Int} {p q : P} (hp : p ∈ l) (hq : q ∈ l) (lp : (p.y : Int) ≤ h) (lq : h < (q.y : Int)) : ∃ k, k < l.length ∧ ((ahead l k).y : Int) ≤ h ∧ h < ((l.getD k ⟨0, 0⟩).y : Int) := by
  apply Classical.byContradiction
  intro no
  have step : ∀ k, k < l.length → ((ahead l k).y : Int) ≤ h → ((l.getD k ⟨0, 0⟩).y : Int) ≤ h := fun k hk ha => by
    apply Classical.byContradiction
    intro z
    exact no ⟨k, hk, ha, by omega⟩
  have next : ∀ k, k + 1 < l.length → ((l.getD k ⟨0, 0⟩).y : Int) ≤ h → ((l.getD (k + 1) ⟨0, 0⟩).y : Int) ≤ h := fun k hk ha => step (k + 1) hk (by
    unfold ahead
    rw [if_neg (by omega)]
    exact ha)
  have up : ∀ n k, k + n < l.length → ((l.getD k ⟨0, 0⟩).y : Int) ≤ h → ((l.getD (k + n) ⟨0, 0⟩).y : Int) ≤ h := by
    intro n
    induction n with
    | zero => intro k _ a; exact a
    | succ n ih => intro k hk a; exact next (k + n) hk (ih k (by omega) a)
  obtain ⟨i, hi, ei⟩ := exists_getD hp
  obtain ⟨j, hj, ej⟩ := exists_getD hq
  have last : ((l.getD (l.length - 1) ⟨0, 0⟩).y : Int) ≤ h := by
    have := up (l.length - 1 - i) i (by omega) (by rw [ei]; exact lp)
    have e : i + (l.length - 1 - i) = l.length - 1 := by omega
    rw [e] at this
    exact this
  have zero : ((l.getD 0 ⟨0, 0⟩).y : Int) ≤ h := step 0 (by omega) (by
    unfold ahead
    rw [if_pos rfl]
    exact last)
  have := up j 0 (by omega) zero
  rw [Nat.zero_add, ej] at this
  omega
theorem places_corner {l : List P} {lo hi : Int} {p : P} (hp : p ∈ l) (h1 : lo ≤ (p.y : Int)) (h2 : (p.y : Int) ≤ hi) : places l lo hi ≠ [] := by
  obtain ⟨k, hk, e⟩ := exists_getD hp
  have m : whole p.x ∈ places l lo hi := by
    unfold places
    rw [List.mem_flatMap]
    refine ⟨k, List.mem_range.mpr hk, ?_⟩
    unfold placesAt
    rw [e, if_pos ⟨h1, h2⟩]
    simp
  intro z
  rw [z] at m
  cases m
theorem places_side {l : List P} {lo hi : Int} {p q : P} (hp : p ∈ l) (hq : q ∈ l) (lp : (p.y : Int) ≤ lo) (lq : lo < (q.y : Int)) : places l lo hi ≠ [] := by
  obtain ⟨k, hk, h1, h2⟩ := goes_up hp hq lp lq
  have m : crossQ (ahead l k) (l.getD k ⟨0, 0⟩) lo ∈ places l lo hi := by
    unfold places
    rw [List.mem_flatMap]
    refine ⟨k, List.mem_range.mpr hk, ?_⟩
    unfold placesAt
    have c : comes (ahead l k) (l.getD k ⟨0, 0⟩) lo := ⟨.inl ⟨h1, by omega⟩, by omega⟩
    have e : crossL (ahead l k) (l.getD k ⟨0, 0⟩) lo = [crossQ (ahead l k) (l.getD k ⟨0, 0⟩) lo] := if_pos c
    rw [e]
    simp
  intro z
  rw [z] at m
  cases m
/-! ### the lowest and the greatest height -/
theorem foldl_min_le : ∀ (l : List Nat) (a : Nat), l.foldl min a ≤ a ∧ ∀ x ∈ l, l.foldl min a ≤ x
  | [], a => ⟨Nat.le_refl _, fun _ h => nomatch h⟩
  | b :: l, a => by
    obtain ⟨h1, h2⟩ := foldl_min_le l (min a b)
    rw [List.foldl_cons]
    refine ⟨by omega, fun x hx => ?_⟩
    rcases List.mem_cons.mp hx with e | e
    · subst e; omega
    · exact h2 x e
theorem foldl_min_mem : ∀ (l : List Nat) (a : Nat), l.foldl min a ∈ a :: l
  | [], a => List.mem_cons_self
  | b :: l, a => by
    rw [List.foldl_cons]
    rcases List.mem_cons.mp (foldl_min_mem l (min a b)) with e | e
    · rw [e]
      by_cases c : a ≤ b
      · rw [Nat.min_eq_left c]; exact List.mem_cons_self
      · rw [Nat.min_eq_right (by omega)]; exact List.mem_cons_of_mem _ List.mem_cons_self
    · exact List.mem_cons_of_mem _ (List.mem_cons_of_mem _ e)
theorem foldl_max_ge : ∀ (l : List Nat) (a : Nat), a ≤ l.foldl max a ∧ ∀ x ∈ l, x ≤ l.foldl max a
  | [], a => ⟨Nat.le_refl _, fun _ h => nomatch h⟩
  | b :: l, a => by
    obtain ⟨h1, h2⟩ := foldl_max_ge l (max a b)
    rw [List.foldl_cons]
    refine ⟨by omega, fun x hx => ?_⟩
    rcases List.mem_cons.mp hx with e | e
    · subst e; omega
    · exact h2 x e
theorem foldl_max_mem : ∀ (l : List Nat) (a : Nat), l.foldl max a ∈ a :: l
  | [], a => List.mem_cons_self
  | b :: l, a => by
    rw [List.foldl_cons]
    rcases List.mem_cons.mp (foldl_max_mem l (max a b)) with e | e
    · rw [e]
      by_cases c : a ≤ b
      · rw [Nat.max_eq_right c]; exact List.mem_cons_of_mem _ List.mem_cons_self
      · rw [Nat.max_eq_left (by omega)]; exact List.mem_cons_self
    · exact List.mem_cons_of_mem _ (List.mem_cons_of_mem _ e)
/-- the heights, as the program has them -/
def highs (l : List P) : List Int := l.map fun p => (p.y : Int)
theorem low_is {s : Uw31.Sail} {w : Nat} (ne : s.corners ≠ []) : ((s.low w : Nat) : Int) ∈ highs (s.corners.map (look w)) ∧ ∀ x ∈ highs (s.corners.map (look w)), ((s.low w : Nat) : Int) ≤ x := by
  unfold Sail.low highs
  rw [List.map_map]
  cases e : s.corners with
  | nil => exact absurd e ne
  | cons a r =>
    show (((r.map fun p => (look w p).y).foldl min (look w a).y : Nat) : Int) ∈ _ ∧ _
    have h1 := foldl_min_mem (r.map fun p => (look w p).y) (look w a).y
    have h2 := foldl_min_le (r.map fun p => (look w p).y) (look w a).y
    show _ ∧ ∀ x ∈ _, (((r.map fun p => (look w p).y).foldl min (look w a).y : Nat) : Int) ≤ x
    generalize (r.map fun p => (look w p).y).foldl min (look w a).y = m at *
    constructor
    · rw [List.mem_map]
      rcases List.mem_cons.mp h1 with q | q
      · exact ⟨a, List.mem_cons_self, by rw [q]; rfl⟩
      · obtain ⟨p, hp, q⟩ := List.mem_map.mp q
        exact ⟨p, List.mem_cons_of_mem _ hp, by rw [← q]; rfl⟩
    · intro x hx
      obtain ⟨p, hp, q⟩ := List.mem_map.mp hx
      have q' : (((look w p).y : Nat) : Int) = x := q
      rcases List.mem_cons.mp hp with z | z
      · subst z; omega
      · have := h2.2 (look w p).y (List.mem_map.mpr ⟨p, z, rfl⟩)
        omega
theorem top_is {s : Uw31.Sail} {w : Nat} (ne : s.corners ≠ []) : ((s.top w : Nat) : Int) ∈ highs (s.corners.map (look w)) ∧ ∀ x ∈ highs (s.corners.map (look w)), x ≤ ((s.top w : Nat) : Int) := by
  unfold Sail.top highs
  rw [List.map_map]
  have h1 := foldl_max_mem (s.corners.map fun p => (look w p).y) 0
  have h2 := foldl_max_ge (s.corners.map fun p => (look w p).y) 0
  generalize (s.corners.map fun p => (look w p).y).foldl max 0 = m at *
  constructor
  · rw [List.mem_map]
    rcases List.mem_cons.mp h1 with q | q
    · subst q
      obtain ⟨p, hp⟩ := List.exists_mem_of_ne_nil _ ne
      have := h2.2 (look w p).y (List.mem_map.mpr ⟨p, hp, rfl⟩)
      exact ⟨p, hp, show (((look w p).y : Nat) : Int) = _ by omega⟩
    · obtain ⟨p, hp, q⟩ := List.mem_map.mp q
      exact ⟨p, hp, by rw [← q]; rfl⟩
  · intro x hx
    obtain ⟨p, hp, q⟩ := List.mem_map.mp hx
    have q' : (((look w p).y : Nat) : Int) = x := q
    have := h2.2 (look w p).y (List.mem_map.mpr ⟨p, hp, rfl⟩)
    omega
theorem low_unique {s : Uw31.Sail} {w : Nat} {m : Int} (ne : s.corners ≠ []) (h : m ∈ highs (s.corners.map (look w))) (h' : ∀ x ∈ highs (s.corners.map (look w)), m ≤ x) : m = (s.low w : Nat) := by
  have := low_is (w := w) ne
  have a := this.2 m h
  have b := h' _ this.1
  omega
theorem top_unique {s : Uw31.Sail} {w : Nat} {m : Int} (ne : s.corners ≠ []) (h : m ∈ highs (s.corners.map (look w))) (h' : ∀ x ∈ highs (s.corners.map (look w)), x ≤ m) : m = (s.top w : Nat) := by
  have := top_is (w := w) ne
  have a := this.2 m h
  have b := h' _ this.1
  omega
theorem low_le_top {s : Uw31.Sail} {w : Nat} (ne : s.corners ≠ []) : s.low w ≤ s.top w := by
  have := (top_is (w := w) ne).2 _ (low_is (w := w) ne).1
  omega
/-! ### the panels -/
def startOf (s : Uw31.Sail) (w o : Nat) : Int := (s.low w : Int) - (o : Int)
/-- where the j-th panel begins -/
def at_ (s : Uw31.Sail) (w o j : Nat) : Int := startOf s w o + ((j * s.width : Nat) : Int)
theorem at_zero (s : Uw31.Sail) (w o : Nat) : at_ s w o 0 = startOf s w o := by unfold at_; rw [Nat.zero_mul]; exact Int.add_zero _
theorem at_succ (s : Uw31.Sail) (w o j : Nat) : at_ s w o (j + 1) = at_ s w o j + (s.width : Int) := by
  unfold at_
  rw [Nat.succ_mul]
  omega
theorem at_mono {s : Uw31.Sail} {w o : Nat} : ∀ {i j : Nat}, i ≤ j → at_ s w o i ≤ at_ s w o j := fun {i j} h => by
  unfold at_
  have : i * s.width ≤ j * s.width := Nat.mul_le_mul_right _ h
  omega
theorem at_low {s : Uw31.Sail} {w o : Nat} (pw : 0 < s.width) (j : Nat) : startOf s w o + (j : Int) ≤ at_ s w o j := by
  unfold at_
  have : j * 1 ≤ j * s.width := Nat.mul_le_mul_left _ pw
  omega
/-- one panel's length, as the program has it -/
def lenAt (s : Uw31.Sail) (w o j : Nat) : Q := lengthOf (s.corners.map (look w)) (at_ s w o j) (at_ s w o j + (s.width : Int))
theorem ne_at {s : Uw31.Sail} {w o j : Nat} (ne : s.corners ≠ []) (ho : o < s.width) (h : at_ s w o j < (s.top w : Int)) : places (s.corners.map (look w)) (at_ s w o j) (at_ s w o j + (s.width : Int)) ≠ [] := by
  obtain ⟨l1, l2⟩ := low_is (w := w) ne
  obtain ⟨t1, t2⟩ := top_is (w := w) ne
  obtain ⟨p, hp, ep⟩ := List.mem_map.mp l1
  obtain ⟨q, hq, eq⟩ := List.mem_map.mp t1
  cases j with
  | zero =>
    rw [at_zero] at *
    unfold startOf at *
    exact places_corner hp (by omega) (by omega)
  | succ j =>
    refine places_side hp hq ?_ (by omega)
    rw [at_succ]
    have := at_mono (s := s) (w := w) (o := o) (Nat.zero_le j)
    rw [at_zero] at this
    unfold startOf at this
    omega
theorem filter_range : ∀ (N k : Nat) (p : Nat → Bool), k ≤ N → (∀ j, j < k → p j = true) → (∀ j, k ≤ j → p j = false) → (List.range N).filter p = List.range k
  | 0, k, p, h, _, _ => by
    have : k = 0 := by omega
    subst this
    rfl
  | N + 1, k, p, h, h1, h2 => by
    rw [List.range_succ, List.filter_append]
    by_cases c : k = N + 1
    · subst c
      rw [List.range_succ]
      congr 1
      · exact List.filter_eq_self.mpr fun a ha => h1 a (by have := List.mem_range.mp ha; omega)
      · exact List.filter_eq_self.mpr fun a ha => h1 a (by have := List.mem_singleton.mp ha; omega)
    · rw [filter_range N k p (by omega) h1 h2]
      have : [N].filter p = [] := List.filter_eq_nil_iff.mpr fun a ha => by
        have e := List.mem_singleton.mp ha
        rw [h2 a (by omega)]
        exact Bool.false_ne_true
      rw [this, List.append_nil]
theorem count_le {s : Uw31.Sail} {w o k : Nat} (ne : s.corners ≠ []) (pw : 0 < s.width) (h1 : ∀ j, j < k → at_ s w o j < (s.top w : Int)) : k ≤ s.top w - s.low w + o := by
  cases k with
  | zero => omega
  | succ k =>
    have a := h1 k (by omega)
    have b := at_low (s := s) (w := w) (o := o) pw k
    have c := low_le_top (w := w) ne
    unfold startOf at b
    omega
theorem begins_is {s : Uw31.Sail} {w o k : Nat} (ne : s.corners ≠ []) (pw : 0 < s.width) (h1 : ∀ j, j < k → at_ s w o j < (s.top w : Int)) (h2 : ¬ at_ s w o k < (s.top w : Int)) : s.begins w o = (List.range k).map (at_ s w o) := by
  unfold Sail.begins
  rw [List.filter_map]
  have hk := count_le ne pw h1
  rw [filter_range _ k _ (by omega) (fun j hj => ?_) (fun j hj => ?_)]
  · rfl
  · exact decide_eq_true (h1 j hj)
  · refine decide_eq_false ?_
    have := at_mono (s := s) (w := w) (o := o) hj
    show ¬ at_ s w o j < _
    omega
theorem panels_is {s : Uw31.Sail} {w o k : Nat} (ne : s.corners ≠ []) (ho : o < s.width) (h1 : ∀ j, j < k → at_ s w o j < (s.top w : Int)) (h2 : ¬ at_ s w o k < (s.top w : Int)) : s.panels w o = (List.range k).map (lenAt s w o) := by
  unfold Sail.panels
  rw [begins_is ne (by omega) h1 h2, List.map_map]
  apply List.map_congr_left
  intro j hj
  rw [List.mem_range] at hj
  exact long_is s w _ _ (ne_at ne ho (h1 j hj))
theorem lenAt_ok {s : Uw31.Sail} {w o j : Nat} (ne : s.corners ≠ []) (ho : o < s.width) (h : at_ s w o j < (s.top w : Int)) : Ok (lenAt s w o j) := lengthOf_ok (ne_at ne ho h)
theorem sum_ok : ∀ (l : List Q) (a : Q), Ok a → (∀ x ∈ l, Ok x) → Ok (l.foldl Q.plus a)
  | [], _, h, _ => h
  | b :: l, a, h, g => sum_ok l (a.plus b) (plus_ok h (g b List.mem_cons_self)) fun x hx => g x (List.mem_cons_of_mem _ hx)
end Sail

/-! Whether it's one; twice the area; the best ways. -/
namespace Sail
open Uw31
theorem fine_of {s : Uw31.Sail} (h3 : 3 ≤ s.corners.length) (h : ∀ i j k, i < j → j < k → k < s.corners.length → 0 < Uw31.turn (s.corners.getD i ⟨0, 0⟩) (s.corners.getD j ⟨0, 0⟩) (s.corners.getD k ⟨0, 0⟩)) : s.fine = true := by
  unfold Sail.fine
  rw [Bool.and_eq_true]
  refine ⟨decide_eq_true h3, ?_⟩
  rw [List.all_eq_true]
  intro i hi
  rw [List.all_eq_true]
  intro j hj
  rw [List.all_eq_true]
  intro k hk
  rw [List.mem_range] at hi hj hk
  by_cases c : i < j ∧ j < k
  · have := h i j k c.1 c.2 hk
    rw [Bool.or_eq_true]
    exact .inr (decide_eq_true this)
  · rw [Bool.or_eq_true, Bool.not_eq_true', Bool.and_eq_false_iff]
    refine .inl ?_
    by_cases z : i < j
    · exact .inr (decide_eq_false fun q => c ⟨z, q⟩)
    · exact .inl (decide_eq_false z)
theorem not_fine_few {s : Uw31.Sail} (h : s.corners.length < 3) : s.fine = false := by
  unfold Sail.fine
  rw [Bool.and_eq_false_iff]
  exact .inl (decide_eq_false (by omega))
theorem not_fine_of {s : Uw31.Sail} {i j k : Nat} (h1 : i < j) (h2 : j < k) (h3 : k < s.corners.length) (h : Uw31.turn (s.corners.getD i ⟨0, 0⟩) (s.corners.getD j ⟨0, 0⟩) (s.corners.getD k ⟨0, 0⟩) ≤ 0) : s.fine = false := by
  apply Bool.eq_false_iff.mpr
  intro f
  unfold Sail.fine at f
  rw [Bool.and_eq_true, List.all_eq_true] at f
  have f1 := f.2 i (List.mem_range.mpr (by omega))
  rw [List.all_eq_true] at f1
  have f2 := f1 j (List.mem_range.mpr (by omega))
  rw [List.all_eq_true] at f2
  have f3 := f2 k (List.mem_range.mpr h3)
  rw [Bool.or_eq_true, Bool.not_eq_true', decide_eq_true h1, decide_eq_true h2] at f3
  rcases f3 with z | z
  · cases z
  · have z' : 0 < Uw31.turn (s.corners.getD i ⟨0, 0⟩) (s.corners.getD j ⟨0, 0⟩) (s.corners.getD k ⟨0, 0⟩) := of_decide_eq_true z
    omega
theorem fine_len {s : Uw31.Sail} (h : s.fine = true) : 3 ≤ s.corners.length := by
  unfold Sail.fine at h
  rw [Bool.and_eq_true] at h
  exact of_decide_eq_true h.1
theorem fine_ne {s : Uw31.Sail} (h : s.fine = true) : s.corners ≠ [] := by
  intro z
  have := fine_len h
  rw [z] at this
  cases this
/-! ### twice the area -/
def cr (a b : P) : Int := (a.x : Int) * b.y - (b.x : Int) * a.y
/-- the open path -/
def path : List P → Int
  | a :: b :: r => cr a b + path (b :: r)
  | _ => 0
/-- the fan from a corner -/
def fan (o : P) : List P → Int
  | a :: b :: r => Uw31.turn o a b + fan o (b :: r)
  | _ => 0
theorem fan_path (o : P) : ∀ (b : P) (r : List P), cr o b + path (b :: r) + cr ((b :: r).getLast (by simp)) o = fan o (b :: r)
  | b, [] => by
    show cr o b + 0 + cr b o = 0
    unfold cr
    grind
  | b, c :: r => by
    have ih := fan_path o c r
    have e : (b :: c :: r).getLast (by simp) = (c :: r).getLast (by simp) := List.getLast_cons (by simp)
    rw [e]
    show cr o b + (cr b c + path (c :: r)) + _ = Uw31.turn o b c + fan o (c :: r)
    rw [← ih]
    generalize path (c :: r) = p
    generalize cr ((c :: r).getLast (by simp)) o = q
    unfold cr Uw31.turn
    grind
def addI (l : List Int) : Int := l.foldl (fun a b => a + b) 0
theorem foldl_add : ∀ (l : List Int) (a : Int), l.foldl (fun a b => a + b) a = a + l.sum
  | [], a => by simp
  | b :: l, a => by
    rw [List.foldl_cons, foldl_add l, List.sum_cons]
    omega
theorem zip_path : ∀ (a z : P) (r : List P), (((a :: r).zip (r ++ [z])).map fun x => (x.1.x : Int) * x.2.y - (x.2.x : Int) * x.1.y).sum = path (a :: r) + cr ((a :: r).getLast (by simp)) z
  | a, z, [] => by
    show [cr a z].sum = 0 + cr a z
    simp
  | a, z, b :: r => by
    have ih := zip_path b z r
    have e : (a :: b :: r).getLast (by simp) = (b :: r).getLast (by simp) := List.getLast_cons (by simp)
    rw [e]
    show (cr a b :: ((b :: r).zip (r ++ [z])).map _).sum = (cr a b + path (b :: r)) + _
    rw [List.sum_cons, ih]
    omega
/-- twice_area's value: the fan from the first corner -/
def areaOf (l : List P) : Int := ((List.range (l.length - 2)).map fun i => Uw31.turn (l.getD 0 ⟨0, 0⟩) (l.getD (1 + i) ⟨0, 0⟩) (l.getD (1 + i + 1) ⟨0, 0⟩)).sum
theorem fan_range (o : P) : ∀ (r : List P), ((List.range (r.length - 1)).map fun i => Uw31.turn o (r.getD i ⟨0, 0⟩) (r.getD (i + 1) ⟨0, 0⟩)).sum = fan o r
  | [] => rfl
  | [_] => rfl
  | a :: b :: r => by
    have ih := fan_range o (b :: r)
    show ((List.range (r.length + 1)).map _).sum = Uw31.turn o a b + fan o (b :: r)
    rw [List.range_succ_eq_map, List.map_cons, List.sum_cons, List.map_map, ← ih]
    rfl
theorem twice_is {s : Uw31.Sail} (ne : s.corners ≠ []) : s.twice = areaOf s.corners := by
  unfold Sail.twice areaOf Sail.sides
  cases e : s.corners with
  | nil => exact absurd e ne
  | cons a r =>
    rw [foldl_add, Int.zero_add]
    show (((a :: r).zip (r ++ [a])).map _).sum = _
    rw [zip_path]
    cases r with
    | nil =>
      show 0 + cr a a = 0
      unfold cr
      omega
    | cons b r =>
      have f := fan_path a b r
      have g := fan_range a (b :: r)
      have e : (a :: b :: r).getLast (by simp) = (b :: r).getLast (by simp) := List.getLast_cons (by simp)
      rw [e]
      show (cr a b + path (b :: r)) + _ = _
      rw [f, ← g]
      show ((List.range r.length).map _).sum = ((List.range r.length).map _).sum
      congr 1
      apply List.map_congr_left
      intro i _
      have e1 : 1 + i = i + 1 := Nat.add_comm 1 i
      rw [e1]
      rfl
/-! ### the best ways -/
/-- one way and beginning -/
structure W where
  way : Nat
  o : Nat
  panels : Nat
  cloth : Q
def wayOf (s : Uw31.Sail) (w o : Nat) : W := ⟨w, o, (s.panels w o).length, s.cloth w o⟩
def better (a b : W) : Bool := if a.cloth = b.cloth then decide (a.panels < b.panels) else a.cloth.below b.cloth
def bestStep (s : Uw31.Sail) (b : Option Best) (x : Nat × Nat) : Option Best := let c := s.cloth x.1 x.2
  let n := (s.panels x.1 x.2).length
  match b with
  | none => some ⟨c, n, 1, x.1, x.2⟩
  | some y => if c.below y.cloth = true ∨ (c = y.cloth ∧ n < y.panels) then some ⟨c, n, 1, x.1, x.2⟩ else if c = y.cloth ∧ n = y.panels then some { y with many := y.many + 1 } else some y
/-- the ways gone through ahead of (w, o) -/
def pairs (s : Uw31.Sail) (w o : Nat) : List (Nat × Nat) := ((List.range w).flatMap fun v => (List.range s.width).map fun o => (v, o)) ++ (List.range o).map fun o => (w, o)
def bestAt (s : Uw31.Sail) (w o : Nat) : Option Best := (pairs s w o).foldl (bestStep s) none
theorem pairs_zero (s : Uw31.Sail) : pairs s 0 0 = [] := rfl
theorem pairs_succ (s : Uw31.Sail) (w o : Nat) : pairs s w (o + 1) = pairs s w o ++ [(w, o)] := by
  unfold pairs
  rw [List.range_succ, List.map_append, List.append_assoc]
  rfl
theorem pairs_next (s : Uw31.Sail) (w : Nat) : pairs s w s.width = pairs s (w + 1) 0 := by
  unfold pairs
  rw [List.range_succ, List.flatMap_append]
  simp
theorem bestAt_zero (s : Uw31.Sail) : bestAt s 0 0 = none := rfl
theorem bestAt_succ (s : Uw31.Sail) (w o : Nat) : bestAt s w (o + 1) = bestStep s (bestAt s w o) (w, o) := by
  unfold bestAt
  rw [pairs_succ, List.foldl_append]
  rfl
theorem bestAt_next (s : Uw31.Sail) (w : Nat) : bestAt s w s.width = bestAt s (w + 1) 0 := by
  unfold bestAt
  rw [pairs_next]
theorem best_is (s : Uw31.Sail) : s.best = bestAt s 2 0 := by
  unfold Sail.best bestAt pairs bestStep
  simp only [List.range_zero, List.map_nil, List.append_nil]
  rfl
/-- what the program's list found says of a best: how many, its first way -/
structure Says (b : Best) (m : Nat) (w : W) : Prop where
  many : b.many = m
  way : b.way = w.way
  first : b.first = w.o
  panels : b.panels = w.panels
  cloth : b.cloth = w.cloth
theorem step_none {s : Uw31.Sail} {b : Option Best} {w o : Nat} (h : b = none) : ∃ b', bestStep s b (w, o) = some b' ∧ Says b' 1 (wayOf s w o) := by
  subst h
  exact ⟨_, rfl, rfl, rfl, rfl, rfl, rfl⟩
theorem step_better {s : Uw31.Sail} {b : Best} {m w o : Nat} {f : W} (h : Says b m f) (c : better (wayOf s w o) f = true) : ∃ b', bestStep s (some b) (w, o) = some b' ∧ Says b' 1 (wayOf s w o) := by
  refine ⟨⟨s.cloth w o, (s.panels w o).length, 1, w, o⟩, ?_, rfl, rfl, rfl, rfl, rfl⟩
  unfold bestStep
  dsimp only
  rw [if_pos ?_]
  rw [h.cloth, h.panels]
  unfold better at c
  split at c
  · rename_i e
    exact .inr ⟨e, of_decide_eq_true c⟩
  · exact .inl c
theorem step_same {s : Uw31.Sail} {b : Best} {m w o : Nat} {f : W} (h : Says b m f) (ok1 : Ok (s.cloth w o)) (ok2 : Ok f.cloth) (c : better (wayOf s w o) f = false) (d : better f (wayOf s w o) = false) :
    ∃ b', bestStep s (some b) (w, o) = some b' ∧ Says b' (m + 1) f := by
  have e : s.cloth w o = f.cloth := by
    unfold better at c d
    by_cases z : (wayOf s w o).cloth = f.cloth
    · exact z
    · rw [if_neg z] at c
      rw [if_neg (fun q => z q.symm)] at d
      exact eq_of_not_below ok1 ok2 c d
  have e' : (wayOf s w o).cloth = f.cloth := e
  have p : (s.panels w o).length = f.panels := by
    unfold better at c d
    rw [if_pos e'] at c
    rw [if_pos e'.symm] at d
    have c' := of_decide_eq_false c
    have d' := of_decide_eq_false d
    have g : (wayOf s w o).panels = (s.panels w o).length := rfl
    omega
  refine ⟨{ b with many := b.many + 1 }, ?_, congrArg (· + 1) h.many, h.way, h.first, h.panels, h.cloth⟩
  unfold bestStep
  dsimp only
  rw [if_neg ?_, if_pos ?_]
  · rw [h.cloth, h.panels]
    exact ⟨e, p⟩
  · rw [h.cloth, h.panels, e]
    rintro (z | ⟨_, z⟩)
    · rw [below_irrefl] at z
      cases z
    · omega
theorem step_worse {s : Uw31.Sail} {b : Best} {m w o : Nat} {f : W} (h : Says b m f) (c : better (wayOf s w o) f = false) (d : better f (wayOf s w o) = true) :
    ∃ b', bestStep s (some b) (w, o) = some b' ∧ Says b' m f := by
  refine ⟨b, ?_, h⟩
  unfold bestStep
  dsimp only
  rw [if_neg ?_, if_neg ?_]
  · rw [h.cloth, h.panels]
    rintro ⟨e, p⟩
    unfold better at d
    rw [if_pos (show f.cloth = (wayOf s w o).cloth from e.symm)] at d
    have d' := of_decide_eq_true d
    have g : (wayOf s w o).panels = (s.panels w o).length := rfl
    omega
  · rw [h.cloth, h.panels]
    unfold better at c
    rintro (z | ⟨e, p⟩)
    · by_cases q : (wayOf s w o).cloth = f.cloth
      · have q' : s.cloth w o = f.cloth := q
        rw [q', below_irrefl] at z
        cases z
      · rw [if_neg q] at c
        have z' : (wayOf s w o).cloth.below f.cloth = true := z
        rw [z'] at c
        cases c
    · rw [if_pos (show (wayOf s w o).cloth = f.cloth from e)] at c
      exact of_decide_eq_false c p
end Sail

/-! How large fractions get. -/
namespace Sail
open Uw31
def Sz (q : Q) (m : Nat) : Prop := q.n.natAbs < 2 ^ m ∧ q.d < 2 ^ m
theorem Sz.mono {q : Q} {m k : Nat} (h : Sz q m) (l : m ≤ k) : Sz q k := by
  have := Nat.pow_le_pow_right (n := 2) (by omega) l
  exact ⟨Nat.lt_of_lt_of_le h.1 this, Nat.lt_of_lt_of_le h.2 this⟩
theorem frac_sz {n : Int} {d m : Nat} (h : 0 < d) (hn : n.natAbs < 2 ^ m) (hd : d < 2 ^ m) : Sz (frac n d) m := by
  obtain ⟨g, hg, e1, e2⟩ := frac_mul (n := n) h
  generalize frac n d = q at *
  constructor
  · have : n.natAbs = g * q.n.natAbs := by rw [e1, Int.natAbs_mul, Int.natAbs_natCast]
    have l : q.n.natAbs ≤ g * q.n.natAbs := Nat.le_mul_of_pos_left _ hg
    omega
  · have l : q.d ≤ g * q.d := Nat.le_mul_of_pos_left _ hg
    omega
theorem fr_sz {a b : Int} {m : Nat} (h : b ≠ 0) (ha : a.natAbs < 2 ^ m) (hb : b.natAbs < 2 ^ m) : Sz (fr a b) m := by
  unfold fr
  have : 0 < b.natAbs := Int.natAbs_pos.mpr h
  split
  · exact frac_sz this (by rw [Int.natAbs_neg]; exact ha) hb
  · exact frac_sz this ha hb
theorem mul_sz {x y : Int} {m k : Nat} (hx : x.natAbs < 2 ^ m) (hy : y.natAbs < 2 ^ k) : (x * y).natAbs < 2 ^ (m + k) := by
  rw [Int.natAbs_mul, Nat.pow_add]
  exact Nat.mul_lt_mul'' hx hy
theorem add_sz {x y : Int} {m : Nat} (hx : x.natAbs < 2 ^ m) (hy : y.natAbs < 2 ^ m) : (x + y).natAbs < 2 ^ (m + 1) := by
  rw [Nat.pow_succ]
  generalize 2 ^ m = z at *
  omega
theorem sub_sz {x y : Int} {m : Nat} (hx : x.natAbs < 2 ^ m) (hy : y.natAbs < 2 ^ m) : (x - y).natAbs < 2 ^ (m + 1) := by
  rw [Nat.pow_succ]
  generalize 2 ^ m = z at *
  omega
theorem plus_num {a b : Q} {m k : Nat} (ha : Sz a m) (hb : Sz b k) : (a.n * (b.d : Int) + b.n * (a.d : Int)).natAbs < 2 ^ (m + k + 1) := by
  refine add_sz (mul_sz ha.1 (by rw [Int.natAbs_natCast]; exact hb.2)) ?_
  rw [Nat.add_comm m k]
  exact mul_sz hb.1 (by rw [Int.natAbs_natCast]; exact ha.2)
theorem less_num {a b : Q} {m k : Nat} (ha : Sz a m) (hb : Sz b k) : (a.n * (b.d : Int) - b.n * (a.d : Int)).natAbs < 2 ^ (m + k + 1) := by
  refine sub_sz (mul_sz ha.1 (by rw [Int.natAbs_natCast]; exact hb.2)) ?_
  rw [Nat.add_comm m k]
  exact mul_sz hb.1 (by rw [Int.natAbs_natCast]; exact ha.2)
theorem den_sz {a b : Q} {m k : Nat} (ha : Sz a m) (hb : Sz b k) : a.d * b.d < 2 ^ (m + k + 1) := by
  have : a.d * b.d < 2 ^ (m + k) := by
    rw [Nat.pow_add]
    exact Nat.mul_lt_mul'' ha.2 hb.2
  rw [Nat.pow_succ]
  omega
theorem plus_sz {a b : Q} {m k : Nat} (oa : Ok a) (ob : Ok b) (ha : Sz a m) (hb : Sz b k) : Sz (a.plus b) (m + k + 1) := frac_sz (Nat.mul_pos oa.1 ob.1) (plus_num ha hb) (den_sz ha hb)
theorem less_sz {a b : Q} {m k : Nat} (oa : Ok a) (ob : Ok b) (ha : Sz a m) (hb : Sz b k) : Sz (a.less b) (m + k + 1) := frac_sz (Nat.mul_pos oa.1 ob.1) (less_num ha hb) (den_sz ha hb)
theorem plus_fr {a b : Q} : fr (a.n * (b.d : Int) + b.n * (a.d : Int)) ((a.d : Int) * (b.d : Int)) = a.plus b := by
  rw [← Int.natCast_mul, fr_nat]
  rfl
theorem less_fr {a b : Q} : fr (a.n * (b.d : Int) - b.n * (a.d : Int)) ((a.d : Int) * (b.d : Int)) = a.less b := by
  rw [← Int.natCast_mul, fr_nat]
  rfl
theorem den_ne {a b : Q} (oa : Ok a) (ob : Ok b) : (a.d : Int) * (b.d : Int) ≠ 0 := by
  rw [← Int.natCast_mul]
  have := Nat.mul_pos oa.1 ob.1
  omega
theorem den_abs {a b : Q} {m k : Nat} (ha : Sz a m) (hb : Sz b k) : ((a.d : Int) * (b.d : Int)).natAbs < 2 ^ (m + k + 1) := by
  rw [← Int.natCast_mul, Int.natAbs_natCast]
  exact den_sz ha hb
theorem zero_sz : Sz (whole 0) 1 := ⟨by decide, by decide⟩
/-- the running sum behind k of them -/
def sumTo (l : List Q) (k : Nat) : Q := (l.take k).foldl Q.plus (whole 0)
theorem take_more {α : Type} : ∀ {l : List α} {i : Nat} {x : α}, l[i]? = some x → l.take (i + 1) = l.take i ++ [x]
  | [], i, x, h => by simp at h
  | a :: l, 0, x, h => by
    have e : a = x := Option.some.inj h
    subst e
    rfl
  | a :: l, i + 1, x, h => by
    have ih := take_more (l := l) (i := i) (x := x) h
    show a :: l.take (i + 1) = a :: l.take i ++ [x]
    rw [ih]
    rfl
theorem sumTo_more {l : List Q} {i : Nat} {q : Q} (h : l[i]? = some q) : sumTo l (i + 1) = (sumTo l i).plus q := by
  unfold sumTo
  rw [take_more h, List.foldl_append]
  rfl
theorem sumTo_all (l : List Q) : sumTo l l.length = sum l := by
  unfold sumTo sum
  rw [List.take_length]
theorem sumTo_good {l : List Q} (h : ∀ q ∈ l, Ok q ∧ Sz q 31) : ∀ k, k ≤ l.length → Ok (sumTo l k) ∧ Sz (sumTo l k) (1 + k * 32)
  | 0, _ => ⟨whole_ok 0, zero_sz⟩
  | k + 1, hk => by
    obtain ⟨i1, i2⟩ := sumTo_good h k (by omega)
    have e := List.getElem?_eq_getElem (l := l) (i := k) (by omega)
    have m := h l[k] (List.getElem_mem _)
    rw [sumTo_more e]
    refine ⟨plus_ok i1 m.1, (plus_sz i1 m.1 i2 m.2).mono (by omega)⟩
theorem sum_good {l : List Q} (h : ∀ q ∈ l, Ok q ∧ Sz q 31) : Ok (sum l) ∧ Sz (sum l) (1 + l.length * 32) := by
  rw [← sumTo_all]
  exact sumTo_good h _ (Nat.le_refl _)
end Sail

/-! How large places and lengths are. -/
namespace Sail
open Uw31
/-- coordinates of at most 60 -/
def Small (l : List P) : Prop := ∀ p ∈ l, p.x ≤ 60 ∧ p.y ≤ 60
theorem small_getD {l : List P} (h : Small l) (k : Nat) : (l.getD k ⟨0, 0⟩).x ≤ 60 ∧ (l.getD k ⟨0, 0⟩).y ≤ 60 := by
  rw [List.getD_eq_getElem?_getD]
  cases e : l[k]? with
  | none => exact ⟨by decide, by decide⟩
  | some p => exact h p (List.mem_of_getElem? e)
theorem small_ahead {l : List P} (h : Small l) (k : Nat) : (ahead l k).x ≤ 60 ∧ (ahead l k).y ≤ 60 := by
  unfold ahead
  split <;> exact small_getD h _
theorem small_look {l : List P} (h : Small l) (w : Nat) : Small (l.map (look w)) := fun p hp => by
  obtain ⟨q, hq, e⟩ := List.mem_map.mp hp
  subst e
  have := h q hq
  unfold look
  split
  · exact this
  · exact ⟨this.2, this.1⟩
theorem cross_num {a b : P} {h : Int} (ha : a.x ≤ 60 ∧ a.y ≤ 60) (hb : b.x ≤ 60 ∧ b.y ≤ 60) (h1 : -100 ≤ h) (h2 : h ≤ 200) : ((a.x : Int) * ((b.y : Int) - a.y) + (h - a.y) * ((b.x : Int) - a.x)).natAbs < 2 ^ 15 := by
  have m1 : ((a.x : Int) * ((b.y : Int) - a.y)).natAbs ≤ 60 * 60 := by
    rw [Int.natAbs_mul]
    exact Nat.mul_le_mul (by omega) (by omega)
  have m2 : ((h - a.y) * ((b.x : Int) - a.x)).natAbs ≤ 260 * 60 := by
    rw [Int.natAbs_mul]
    exact Nat.mul_le_mul (by omega) (by omega)
  generalize (a.x : Int) * ((b.y : Int) - a.y) = x at *
  generalize (h - a.y) * ((b.x : Int) - a.x) = y at *
  omega
theorem cross_den {a b : P} (ha : a.x ≤ 60 ∧ a.y ≤ 60) (hb : b.x ≤ 60 ∧ b.y ≤ 60) : ((b.y : Int) - a.y).natAbs < 2 ^ 15 := by omega
theorem crossL_sz {a b : P} {h : Int} {q : Q} (ha : a.x ≤ 60 ∧ a.y ≤ 60) (hb : b.x ≤ 60 ∧ b.y ≤ 60) (h1 : -100 ≤ h) (h2 : h ≤ 200) (m : q ∈ crossL a b h) : Sz q 15 := by
  unfold crossL at m
  split at m
  · rename_i c
    rw [List.mem_singleton] at m
    subst m
    exact fr_sz (by have := c.2; omega) (cross_num ha hb h1 h2) (cross_den ha hb)
  · cases m
theorem places_sz {l : List P} {lo hi : Int} {q : Q} (s : Small l) (l1 : -100 ≤ lo) (l2 : lo ≤ 200) (h1 : -100 ≤ hi) (h2 : hi ≤ 200) (m : q ∈ places l lo hi) : Sz q 15 := by
  unfold places at m
  rw [List.mem_flatMap] at m
  obtain ⟨k, _, m⟩ := m
  unfold placesAt at m
  rw [List.mem_append, List.mem_append] at m
  have a := small_ahead s k
  have b := small_getD s k
  rcases m with (m | m) | m
  · split at m
    · rw [List.mem_singleton] at m
      subst m
      unfold Sz whole
      dsimp only
      omega
    · cases m
  · exact crossL_sz a b l1 l2 m
  · exact crossL_sz a b h1 h2 m
theorem least_good {l : List P} {lo hi : Int} (s : Small l) (l1 : -100 ≤ lo) (l2 : lo ≤ 200) (h1 : -100 ≤ hi) (h2 : hi ≤ 200) (ne : places l lo hi ≠ []) : Ok (leastOf (places l lo hi)) ∧ Sz (leastOf (places l lo hi)) 15 := by
  have m := (leastOf_is ne (fun x hx => places_ok hx)).1
  exact ⟨places_ok m, places_sz s l1 l2 h1 h2 m⟩
theorem most_good {l : List P} {lo hi : Int} (s : Small l) (l1 : -100 ≤ lo) (l2 : lo ≤ 200) (h1 : -100 ≤ hi) (h2 : hi ≤ 200) (ne : places l lo hi ≠ []) : Ok (mostOf (places l lo hi)) ∧ Sz (mostOf (places l lo hi)) 15 := by
  have m := (mostOf_is ne (fun x hx => places_ok hx)).1
  exact ⟨places_ok m, places_sz s l1 l2 h1 h2 m⟩
theorem length_good {l : List P} {lo hi : Int} (s : Small l) (l1 : -100 ≤ lo) (l2 : lo ≤ 200) (h1 : -100 ≤ hi) (h2 : hi ≤ 200) (ne : places l lo hi ≠ []) : Ok (lengthOf l lo hi) ∧ Sz (lengthOf l lo hi) 31 := by
  obtain ⟨a, b⟩ := least_good s l1 l2 h1 h2 ne
  obtain ⟨c, d⟩ := most_good s l1 l2 h1 h2 ne
  exact ⟨less_ok c a, less_sz c a d b⟩
theorem places_len (l : List P) (lo hi : Int) : (places l lo hi).length ≤ 3 * l.length := by
  unfold places
  rw [List.length_flatMap]
  have : ∀ r : List Nat, (r.map fun k => (placesAt l lo hi k).length).sum ≤ 3 * r.length := fun r => by
    induction r with
    | nil => simp
    | cons a r ih =>
      rw [List.map_cons, List.sum_cons, List.length_cons]
      have := placesAt_len l lo hi a
      omega
  have h := this (List.range l.length)
  rw [List.length_range] at h
  exact h
/-! ### what is gone through -/
/-- the places of the first k corners -/
def placesTo (l : List P) (lo hi : Int) (k : Nat) : List Q := (List.range k).flatMap (placesAt l lo hi)
theorem placesTo_more (l : List P) (lo hi : Int) (k : Nat) : placesTo l lo hi (k + 1) = placesTo l lo hi k ++ placesAt l lo hi k := by
  unfold placesTo
  rw [List.range_succ, List.flatMap_append]
  simp
theorem placesTo_all (l : List P) (lo hi : Int) : placesTo l lo hi l.length = places l lo hi := rfl
theorem placesTo_len (l : List P) (lo hi : Int) (k : Nat) : (placesTo l lo hi k).length ≤ 3 * k := by
  induction k with
  | zero => exact Nat.le_refl _
  | succ k ih =>
    rw [placesTo_more, List.length_append]
    have := placesAt_len l lo hi k
    omega
def leastTo (l : List Q) (k : Nat) : Q := (l.take k).foldl leastStep (l.getD 0 (whole 0))
def mostTo (l : List Q) (k : Nat) : Q := (l.take k).foldl mostStep (l.getD 0 (whole 0))
theorem leastTo_more {l : List Q} {k : Nat} {q : Q} (h : l[k]? = some q) : leastTo l (k + 1) = leastStep (leastTo l k) q := by
  unfold leastTo
  rw [take_more h, List.foldl_append]
  rfl
theorem mostTo_more {l : List Q} {k : Nat} {q : Q} (h : l[k]? = some q) : mostTo l (k + 1) = mostStep (mostTo l k) q := by
  unfold mostTo
  rw [take_more h, List.foldl_append]
  rfl
theorem leastTo_all (l : List Q) : leastTo l l.length = leastOf l := by unfold leastTo leastOf; rw [List.take_length]
theorem mostTo_all (l : List Q) : mostTo l l.length = mostOf l := by unfold mostTo mostOf; rw [List.take_length]
theorem leastTo_sz {l : List Q} (h : ∀ q ∈ l, Sz q 15) (ne : l ≠ []) : ∀ k, k ≤ l.length → Sz (leastTo l k) 15
  | 0, _ => by
    cases l with
    | nil => exact absurd rfl ne
    | cons a r => exact h a List.mem_cons_self
  | k + 1, hk => by
    have i := leastTo_sz h ne k (by omega)
    rw [leastTo_more (List.getElem?_eq_getElem (by omega))]
    unfold leastStep
    split
    · exact h _ (List.getElem_mem _)
    · exact i
theorem mostTo_sz {l : List Q} (h : ∀ q ∈ l, Sz q 15) (ne : l ≠ []) : ∀ k, k ≤ l.length → Sz (mostTo l k) 15
  | 0, _ => by
    cases l with
    | nil => exact absurd rfl ne
    | cons a r => exact h a List.mem_cons_self
  | k + 1, hk => by
    have i := mostTo_sz h ne k (by omega)
    rw [mostTo_more (List.getElem?_eq_getElem (by omega))]
    unfold mostStep
    split
    · exact h _ (List.getElem_mem _)
    · exact i
/-- a sail that can be handed about: how wide its cloth is, how many corners, and where -/
structure Good (s : Uw31.Sail) : Prop where
  w1 : 1 ≤ s.width
  w2 : s.width ≤ 12
  n : s.corners.length ≤ 6
  small : Small s.corners
theorem low_60 {s : Uw31.Sail} (h : Small s.corners) (ne : s.corners ≠ []) (w : Nat) : s.low w ≤ 60 := by
  obtain ⟨p, hp, e⟩ := List.mem_map.mp (low_is (w := w) ne).1
  have := (small_look h w p hp).2
  omega
theorem top_60 {s : Uw31.Sail} (h : Small s.corners) (ne : s.corners ≠ []) (w : Nat) : s.top w ≤ 60 := by
  obtain ⟨p, hp, e⟩ := List.mem_map.mp (top_is (w := w) ne).1
  have := (small_look h w p hp).2
  omega
/-- how many panels there are, and that they are good -/
theorem at_bounds {s : Uw31.Sail} {w o j : Nat} (g : Good s) (ne : s.corners ≠ []) (ho : o < s.width) (h : at_ s w o j < (s.top w : Int)) : -100 ≤ at_ s w o j ∧ at_ s w o j ≤ 200 ∧ -100 ≤ at_ s w o j + (s.width : Int) ∧ at_ s w o j + (s.width : Int) ≤ 200 := by
  have h1 := top_60 g.small ne w
  have h2 := at_low (s := s) (w := w) (o := o) (by omega) j
  have h3 := g.w2
  unfold startOf at h2
  omega
theorem lenAt_good {s : Uw31.Sail} {w o j : Nat} (g : Good s) (ne : s.corners ≠ []) (ho : o < s.width) (h : at_ s w o j < (s.top w : Int)) : Ok (lenAt s w o j) ∧ Sz (lenAt s w o j) 31 := by
  obtain ⟨b1, b2, b3, b4⟩ := at_bounds g ne ho h
  exact length_good (small_look g.small w) b1 b2 b3 b4 (ne_at ne ho h)
/-- the loop of panels_of ends: some k -/
theorem ends {s : Uw31.Sail} {w o : Nat} (g : Good s) (ne : s.corners ≠ []) : ∃ k, (∀ j, j < k → at_ s w o j < (s.top w : Int)) ∧ ¬ at_ s w o k < (s.top w : Int) := by
  have : ∀ n, (∀ j, j < n → at_ s w o j < (s.top w : Int)) ∨ ∃ k, (∀ j, j < k → at_ s w o j < (s.top w : Int)) ∧ ¬ at_ s w o k < (s.top w : Int) := fun n => by
    induction n with
    | zero => exact .inl fun j h => absurd h (Nat.not_lt_zero j)
    | succ n ih =>
      rcases ih with ih | ih
      · by_cases c : at_ s w o n < (s.top w : Int)
        · refine .inl fun j hj => ?_
          by_cases e : j = n
          · rw [e]; exact c
          · exact ih j (by omega)
        · exact .inr ⟨n, ih, c⟩
      · exact .inr ih
  rcases this (s.top w - s.low w + o + 1) with h | h
  · have := count_le ne g.w1 h
    omega
  · exact h
theorem panels_len {s : Uw31.Sail} {w o : Nat} (g : Good s) (ne : s.corners ≠ []) (ho : o < s.width) : (s.panels w o).length ≤ 72 := by
  obtain ⟨k, h1, h2⟩ := ends (w := w) (o := o) g ne
  rw [panels_is ne ho h1 h2, List.length_map, List.length_range]
  have := count_le ne g.w1 h1
  have := top_60 g.small ne w
  have := g.w2
  omega
theorem panels_good {s : Uw31.Sail} {w o : Nat} (g : Good s) (ne : s.corners ≠ []) (ho : o < s.width) : ∀ q ∈ s.panels w o, Ok q ∧ Sz q 31 := by
  obtain ⟨k, h1, h2⟩ := ends (w := w) (o := o) g ne
  rw [panels_is ne ho h1 h2]
  intro q hq
  obtain ⟨j, hj, e⟩ := List.mem_map.mp hq
  subst e
  exact lenAt_good g ne ho (h1 j (List.mem_range.mp hj))
theorem cloth_good {s : Uw31.Sail} {w o : Nat} (g : Good s) (ne : s.corners ≠ []) (ho : o < s.width) : Ok (s.cloth w o) ∧ Sz (s.cloth w o) 3000 := by
  obtain ⟨a, b⟩ := sum_good (panels_good (w := w) g ne ho)
  have := panels_len (w := w) g ne ho
  exact ⟨a, b.mono (by omega)⟩
end Sail

/-! The best is there; a call leaves a good sail good; the calls by their numbers. -/
namespace Sail
open Uw31
theorem bestStep_some (s : Uw31.Sail) (b : Option Best) (x : Nat × Nat) : ∃ y, bestStep s b x = some y := by
  unfold bestStep
  cases b with
  | none => exact ⟨_, rfl⟩
  | some y =>
    dsimp only
    split
    · exact ⟨_, rfl⟩
    · split <;> exact ⟨_, rfl⟩
theorem best_some {s : Uw31.Sail} (h : 1 ≤ s.width) : ∃ b, s.best = some b := by
  rw [best_is, ← bestAt_next]
  cases e : s.width with
  | zero => omega
  | succ n =>
    rw [bestAt_succ]
    exact bestStep_some _ _ _
theorem init_good : Good Uw31.init := ⟨by decide, by decide, by decide, fun p h => nomatch h⟩
theorem step_good {s : Uw31.Sail} (g : Good s) (c : Call) : Good (step s c).1 := by
  cases c with
  | begins w =>
    show Good (if w < 1 ∨ WIDE < w then (s, ok (-1)) else (⟨w, []⟩, ok 0)).1
    by_cases c : w < 1 ∨ WIDE < w
    · rw [if_pos c]
      exact g
    · rw [if_neg c]
      have e : WIDE = 12 := rfl
      exact ⟨by show 1 ≤ w; omega, by show w ≤ 12; omega, by show 0 ≤ 6; omega, fun p h => nomatch h⟩
  | corner p =>
    show Good (if FAR < p.x ∨ FAR < p.y then (s, ok (-1)) else if CORNERS ≤ s.corners.length then (s, ok (-5)) else ({ s with corners := s.corners ++ [p] }, ok (s.corners.length : Nat))).1
    by_cases c : FAR < p.x ∨ FAR < p.y
    · rw [if_pos c]
      exact g
    · rw [if_neg c]
      by_cases d : CORNERS ≤ s.corners.length
      · rw [if_pos d]
        exact g
      · rw [if_neg d]
        have e : FAR = 60 := rfl
        have e' : CORNERS = 6 := rfl
        refine ⟨g.w1, g.w2, ?_, fun q hq => ?_⟩
        · show (s.corners ++ [p]).length ≤ 6
          rw [List.length_append]
          show s.corners.length + 1 ≤ 6
          omega
        · rcases List.mem_append.mp hq with h | h
          · exact g.small q h
          · rw [List.mem_singleton] at h
            subst h
            omega
  | area =>
    show Good (if s.fine = false then (s, ok (-6)) else (s, ok s.twice)).1
    split <;> exact g
  | panels w o =>
    show Good (if 1 < w ∨ s.width ≤ o then (s, ok (-1)) else if s.fine = false then (s, ok (-6)) else (s, ⟨((s.panels w o).length : Nat), both (s.cloth w o) ++ (s.panels w o).flatMap both⟩)).1
    split
    · exact g
    · split <;> exact g
  | best =>
    show Good (if s.fine = false then (s, ok (-6)) else (s, match s.best with
      | none => ok (-6)
      | some b => ⟨(b.panels : Nat), both b.cloth ++ [(b.many : Int), (b.way : Int), (b.first : Int)]⟩)).1
    split <;> exact g
theorem call_0 {ns : List Nat} {c : Call} (h : Uw31Neutral.callIn (0 :: ns) = some c) : ∃ w, ns = [w] ∧ c = .begins w := by
  match ns, h with
  | [w], h => exact ⟨w, rfl, (Option.some.inj h).symm⟩
theorem call_1 {ns : List Nat} {c : Call} (h : Uw31Neutral.callIn (1 :: ns) = some c) : ∃ x y, ns = [x, y] ∧ c = .corner ⟨x, y⟩ := by
  match ns, h with
  | [x, y], h => exact ⟨x, y, rfl, (Option.some.inj h).symm⟩
theorem call_2 {ns : List Nat} {c : Call} (h : Uw31Neutral.callIn (2 :: ns) = some c) : ns = [] ∧ c = .area := by
  match ns, h with
  | [], h => exact ⟨rfl, (Option.some.inj h).symm⟩
theorem call_3 {ns : List Nat} {c : Call} (h : Uw31Neutral.callIn (3 :: ns) = some c) : ∃ x y, ns = [x, y] ∧ c = .panels x y := by
  match ns, h with
  | [x, y], h => exact ⟨x, y, rfl, (Option.some.inj h).symm⟩
theorem call_4 {ns : List Nat} {c : Call} (h : Uw31Neutral.callIn (4 :: ns) = some c) : ns = [] ∧ c = .best := by
  match ns, h with
  | [], h => exact ⟨rfl, (Option.some.inj h).symm⟩
/-! what a call does, case by case -/
theorem st_b1 {s : Uw31.Sail} {w : Nat} (h : w < 1 ∨ 12 < w) : step s (.begins w) = (s, ok (-1)) := if_pos h
theorem st_b2 {s : Uw31.Sail} {w : Nat} (h : ¬ (w < 1 ∨ 12 < w)) : step s (.begins w) = (⟨w, []⟩, ok 0) := if_neg h
theorem st_c1 {s : Uw31.Sail} {p : P} (h : 60 < p.x ∨ 60 < p.y) : step s (.corner p) = (s, ok (-1)) := if_pos h
theorem st_c2 {s : Uw31.Sail} {p : P} (h : ¬ (60 < p.x ∨ 60 < p.y)) (g : 6 ≤ s.corners.length) : step s (.corner p) = (s, ok (-5)) := (if_neg h).trans (if_pos g)
theorem st_c3 {s : Uw31.Sail} {p : P} (h : ¬ (60 < p.x ∨ 60 < p.y)) (g : ¬ 6 ≤ s.corners.length) : step s (.corner p) = ({ s with corners := s.corners ++ [p] }, ok (s.corners.length : Nat)) := (if_neg h).trans (if_neg g)
theorem st_a1 {s : Uw31.Sail} (h : s.fine = false) : step s .area = (s, ok (-6)) := if_pos h
theorem st_a2 {s : Uw31.Sail} (h : ¬ s.fine = false) : step s .area = (s, ok s.twice) := if_neg h
theorem st_p1 {s : Uw31.Sail} {w o : Nat} (h : 1 < w ∨ s.width ≤ o) : step s (.panels w o) = (s, ok (-1)) := if_pos h
theorem st_p2 {s : Uw31.Sail} {w o : Nat} (h : ¬ (1 < w ∨ s.width ≤ o)) (g : s.fine = false) : step s (.panels w o) = (s, ok (-6)) := (if_neg h).trans (if_pos g)
theorem st_p3 {s : Uw31.Sail} {w o : Nat} (h : ¬ (1 < w ∨ s.width ≤ o)) (g : ¬ s.fine = false) : step s (.panels w o) = (s, ⟨((s.panels w o).length : Nat), both (s.cloth w o) ++ (s.panels w o).flatMap both⟩) := (if_neg h).trans (if_neg g)
theorem st_e1 {s : Uw31.Sail} (h : s.fine = false) : step s .best = (s, ok (-6)) := if_pos h
theorem st_e2 {s : Uw31.Sail} {b : Best} (h : ¬ s.fine = false) (g : s.best = some b) : step s .best = (s, ⟨(b.panels : Nat), both b.cloth ++ [(b.many : Int), (b.way : Int), (b.first : Int)]⟩) := by
  refine (if_neg h).trans ?_
  rw [g]
end Sail

/-! The calls of a flat list, one behind another. -/
namespace Sail
open Uw31
abbrev stp (s : Uw31.Sail) (c : List (List Int)) : Uw31.Sail × List Int := Uw31Neutral.step s (c.headD [])
/-- what is told of the calls from a state on -/
def rest (s : Uw31.Sail) (cs : List (List (List Int))) : List Int := PyFlat.told (PyFlat.played stp s cs)
theorem rest_nil (s : Uw31.Sail) : rest s [] = [] := rfl
theorem rest_cons (s : Uw31.Sail) (c : List (List Int)) (cs : List (List (List Int))) : rest s (c :: cs) = ((stp s c).2.length : Int) :: (stp s c).2 ++ rest (stp s c).1 cs := by
  unfold rest
  show PyFlat.told ((stp s c).2 :: PyFlat.played stp (stp s c).1 cs) = _
  unfold PyFlat.told
  rw [List.flatMap_cons]
theorem shape_of {p : Int} {n k : Nat} (h : PyUw31.shape p = some (n, k)) : k = 0 ∧ ∃ i : Nat, p = (i : Int) ∧ i < 5 ∧ ([1, 2, 0, 2, 0] : List Int)[i]? = some (n : Int) := by
  unfold PyUw31.shape at h
  by_cases h0 : p = 0
  · rw [if_pos h0] at h
    injection h with h
    injection h with h1 h2
    exact ⟨h2.symm, 0, h0, by decide, by rw [← h1]; rfl⟩
  rw [if_neg h0] at h
  by_cases h1 : p = 1
  · rw [if_pos h1] at h
    injection h with h
    injection h with h2 h3
    exact ⟨h3.symm, 1, h1, by decide, by rw [← h2]; rfl⟩
  rw [if_neg h1] at h
  by_cases h2 : p = 2
  · rw [if_pos h2] at h
    injection h with h
    injection h with h3 h4
    exact ⟨h4.symm, 2, h2, by decide, by rw [← h3]; rfl⟩
  rw [if_neg h2] at h
  by_cases h3 : p = 3
  · rw [if_pos h3] at h
    injection h with h
    injection h with h4 h5
    exact ⟨h5.symm, 3, h3, by decide, by rw [← h4]; rfl⟩
  rw [if_neg h3] at h
  by_cases h4 : p = 4
  · rw [if_pos h4] at h
    injection h with h
    injection h with h5 h6
    exact ⟨h6.symm, 4, h4, by decide, by rw [← h5]; rfl⟩
  rw [if_neg h4] at h
  cases h
theorem parse_step {f : Nat} {p : Int} {r : List Int} {cs : List (List (List Int))} (h : PyFlat.calls PyUw31.shape f (p :: r) = some cs) :
    ∃ (f' n : Nat) (cs' : List (List (List Int))), PyUw31.shape p = some (n, 0) ∧ n ≤ r.length ∧ cs = [p :: r.take n] :: cs' ∧ PyFlat.calls PyUw31.shape f' (r.drop n) = some cs' := by
  cases f with
  | zero => cases h
  | succ f =>
    have h' : (match PyFlat.call PyUw31.shape (p :: r) with
      | none => none
      | some (c, t) => match PyFlat.calls PyUw31.shape f t with
        | none => none
        | some cs => some (c :: cs)) = some cs := h
    cases e : PyFlat.call PyUw31.shape (p :: r) with
    | none =>
      rw [e] at h'
      cases h'
    | some ct =>
      obtain ⟨c, t⟩ := ct
      rw [e] at h'
      have e' : (match PyUw31.shape p with
        | none => none
        | some (n, k) => if r.length < n then none else match PyFlat.rows k (r.drop n) with
          | none => none
          | some (xs, t) => some ((p :: r.take n) :: xs, t)) = some (c, t) := e
      cases es : PyUw31.shape p with
      | none =>
        rw [es] at e'
        cases e'
      | some nk =>
        obtain ⟨n, k⟩ := nk
        obtain ⟨k0, _⟩ := shape_of es
        subst k0
        rw [es] at e'
        by_cases c1 : r.length < n
        · have e2 : (if r.length < n then none else match PyFlat.rows 0 (r.drop n) with
            | none => none
            | some (xs, t) => some ((p :: r.take n) :: xs, t)) = some (c, t) := e'
          rw [if_pos c1] at e2
          cases e2
        · have e2 : (if r.length < n then none else match PyFlat.rows 0 (r.drop n) with
            | none => none
            | some (xs, t) => some ((p :: r.take n) :: xs, t)) = some (c, t) := e'
          rw [if_neg c1] at e2
          have e3 : some ([p :: r.take n], r.drop n) = some (c, t) := e2
          injection e3 with e3
          injection e3 with e4 e5
          subst e4 e5
          cases ec : PyFlat.calls PyUw31.shape f (r.drop n) with
          | none =>
            have h2 : (match PyFlat.calls PyUw31.shape f (r.drop n) with
              | none => none
              | some cs => some ([p :: r.take n] :: cs)) = some cs := h'
            rw [ec] at h2
            cases h2
          | some cs' =>
            have h2 : (match PyFlat.calls PyUw31.shape f (r.drop n) with
              | none => none
              | some cs => some ([p :: r.take n] :: cs)) = some cs := h'
            rw [ec] at h2
            exact ⟨f, n, cs', rfl, by omega, (Option.some.inj h2).symm, ec⟩
theorem parse_nil {f : Nat} {cs : List (List (List Int))} (h : PyFlat.calls PyUw31.shape f [] = some cs) : cs = [] := by
  cases f <;> exact (Option.some.inj h).symm
theorem whole_id (c : List (List Int)) : PyUw31.whole c = c := by
  unfold PyUw31.whole
  split <;> rfl
theorem whole_map (cs : List (List (List Int))) : cs.map PyUw31.whole = cs := by
  induction cs with
  | nil => rfl
  | cons c r ih => rw [List.map_cons, ih, whole_id]
theorem setup {ns : List Int} (h : PyUw31.answers_asked ns = true) : ∃ cs, PyFlat.calls PyUw31.shape ns.length ns = some cs ∧ (∀ c ∈ cs, Uw31Neutral.asked1 (c.headD []) = true) ∧ PyUw31.answers ns = rest Uw31.init cs ∧ (PyUw31.answers ns).length ≤ 10000000 := by
  unfold PyUw31.answers_asked at h
  cases e : PyFlat.calls PyUw31.shape ns.length ns with
  | none =>
    rw [e] at h
    cases h
  | some raw =>
    rw [e] at h
    have h' : (!raw.isEmpty && PyFlat.atMost 40 raw && PyInside.calls PyUw31.bound raw && Uw31Neutral.asked ((raw.map PyUw31.whole).map fun c => c.headD []) && PyFlat.short 10000000 (PyUw31.answers ns)) = true := h
    rw [Bool.and_eq_true, Bool.and_eq_true] at h'
    refine ⟨raw, rfl, fun c hc => ?_, ?_, of_decide_eq_true h'.2⟩
    · have a := h'.1.2
      rw [whole_map] at a
      unfold Uw31Neutral.asked at a
      rw [Bool.and_eq_true, List.all_eq_true] at a
      exact a.1 _ (List.mem_map.mpr ⟨c, hc, rfl⟩)
    · unfold PyUw31.answers PyUw31.calls
      rw [e]
      show PyFlat.told (PyFlat.played stp Uw31.init (raw.map PyUw31.whole)) = _
      rw [whole_map]
      rfl
theorem ask_step {p : Int} {args : List Int} (h : Uw31Neutral.asked1 (p :: args) = true) : ∃ (i : Nat) (c : Call), p = (i : Int) ∧ (∀ x ∈ args, 0 ≤ x) ∧ Uw31Neutral.callIn (i :: args.map Int.toNat) = some c ∧
    ∀ s, stp s [p :: args] = ((step s c).1, Uw31Neutral.out (step s c).2) := by
  unfold Uw31Neutral.asked1 at h
  cases e : Uw31Neutral.callOf (p :: args) with
  | none =>
    rw [e] at h
    cases h
  | some c =>
    have e' := e
    unfold Uw31Neutral.callOf at e'
    by_cases a : (p :: args).all Uw31Neutral.nat = false
    · rw [if_pos a] at e'
      cases e'
    · rw [if_neg a] at e'
      have a' : (p :: args).all Uw31Neutral.nat = true := by
        cases z : (p :: args).all Uw31Neutral.nat with
        | true => rfl
        | false => exact absurd z a
      rw [List.all_eq_true] at a'
      have nn : ∀ x ∈ p :: args, 0 ≤ x := fun x hx => by
        have := a' x hx
        unfold Uw31Neutral.nat at this
        rw [Bool.and_eq_true] at this
        exact of_decide_eq_true this.1
      have hp := nn p List.mem_cons_self
      refine ⟨p.toNat, c, by omega, fun x hx => nn x (List.mem_cons_of_mem _ hx), e', fun s => ?_⟩
      show Uw31Neutral.step s (p :: args) = _
      unfold Uw31Neutral.step
      rw [e]
theorem nat_back {l : List Int} (h : ∀ x ∈ l, 0 ≤ x) : (l.map Int.toNat).map (fun n : Nat => (n : Int)) = l := by
  induction l with
  | nil => rfl
  | cons a r ih =>
    rw [List.map_cons, List.map_cons, ih fun x hx => h x (List.mem_cons_of_mem _ hx)]
    congr 1
    have := h a List.mem_cons_self
    omega
theorem call_lt {i : Nat} {ns : List Nat} {c : Call} (h : Uw31Neutral.callIn (i :: ns) = some c) : i < 5 := by
  match i, ns, h with
  | 0, _, _ => decide
  | 1, _, _ => decide
  | 2, _, _ => decide
  | 3, _, _ => decide
  | 4, _, _ => decide
  | i + 5, ns, h => cases h
end Sail

namespace Cloth
open PySem PySem.Spec PyProof.Rows L2
open PySem.W (Codec)
/-! ### what the layer lacks -/
theorem if_true_of {c : Bool} {A B : Prop} (hc : c = true) (h : A) : if c = true then A else B := by
  rw [if_pos hc]
  exact h
theorem if_false_of {c : Bool} {A B : Prop} (hc : c = false) (h : B) : if c = true then A else B := by
  rw [hc, if_neg Bool.false_ne_true]
  exact h
/-- // by a divisor that is not 0, below 2 ^ 9000 -/
def CDivZ (_ j : Int) : Prop := j ≠ 0 ∧ j.natAbs.log2 < 9000
theorem op_fdivZ {X : Cx} : OpR X (binaryOp .FloorDiv) (rI CDivZ fun i j => .int (i.fdiv j)) := opI fun _ _ _ _ _ _ _ hc q => floordiv_int hc.1 q (.inl (PyProof.noPylong_of_log2 hc.2))
theorem divZ {i j : Int} {b : Nat} (h : j ≠ 0) (hb : j.natAbs < 2 ^ b) (h0 : 0 < b) (h9 : b ≤ 9000) : CDivZ i j := ⟨h, Nat.lt_of_lt_of_le (PySem.Flt.log2_lt_of h0 hb) h9⟩
/-- xs == [] -/
def rEqE : R2 := fun x y H Q => ∃ l b xs, x = .ref l ∧ y = .ref b ∧ H l = some (.lst xs) ∧ H b = some (.lst []) ∧ Q (.bl xs.isEmpty) H
theorem op_eqE {X : Cx} (hu : X.A.units < cLine) : OpR X (compareOp .Eq) rEqE := by
  intro pins s σ H x y v u Q I rx ry h
  obtain ⟨l, b, xs, rfl, rfl, h1, h2, q⟩ := h
  obtain rfl : v = Value.ref l := rx
  obtain rfl : u = Value.ref b := ry
  obtain ⟨i1, r1, p1, _⟩ := I.list (SqL.of h1)
  obtain ⟨i2, r2, p2, _⟩ := I.list (SqL.of h2)
  cases r2
  have l1 : s.heap.IsList l i1.toArray := by
    obtain ⟨o, m, e, c, d, q⟩ := p1
    exact ⟨o, e, c, m, q⟩
  have l2 : s.heap.IsList b ([] : List Value).toArray := by
    obtain ⟨o, m, e, c, d, q⟩ := p2
    exact ⟨o, e, c, m, q⟩
  cases r1 with
  | nil => exact SeqAt.eq_listAt (e := fun _ => true) l1 l2 rfl hu (fun j h1 => absurd h1 (Nat.not_lt_zero j)) ⟨.bl _, H, I, rfl, q⟩
  | cons a t => exact SeqAt.eq_list_lengthsAt l1 l2 (by simp) hu ⟨.bl _, H, I, rfl, q⟩
/-- a call of a local name that holds a def, within a try: what it raises is wished for at the slots as they stand -/
def tCallLS (i : Nat) (S : Addr → Sp → Prop) (E : L2.St → XK) (t : TA) : TE := fun σ H Q => ∃ f sp, σ[i]? = some (some (.ref f)) ∧ S f sp ∧ t σ H fun vs H1 => sp vs H1 Q (E σ)
/-- of several defs that the slot may hold, each may raise -/
def HeldX (P : Program) (w : World) (K : PySem.W.Frag) (mg : Str → Option Value) (base : Heap) (k : Nat) (f : Addr) (sp : Sp) : Prop :=
  ∃ (fd : FuncData) (ps : List Str), FnOk P w K mg base (L2.CX P w) k f fd ps sp ∧ PySem.W.keepIn K (.ref f) = true ∧ Binds K fd ps []
theorem pe_callLS {X : Cx} {k i : Nat} {E : L2.St → XK} {x : Str} {p pos : Pos} {e : Expr} {es : List Expr} {t : TA} {S : Addr → Sp → Prop} (A : ∀ f sp, S f sp → HeldX X.prog X.w X.K X.mg X.base k f sp) (hr : Room k X.A) (hN : X.N[i]? = some x) (hv : Vis X.env.scope x)
    (hx : ∀ σ, PassesAt (L2.CX X.prog X.w) X σ (E σ)) (ha : PA X (e :: es) t)
    (hdb : (x == ("__debug__" : Str)) = false := by decide) (hcd : (x == ("__classdict__" : Str)) = false := by decide)
    (he : starEach (e :: es) X.env = (false, eval e X.env) :: starEach es X.env := by rfl) (hpl : (backTo pos (starEach es X.env)).any (·.1) = false := by rfl) : PE X (.Call (.Name x p) (e :: es) [] pos) (tCallLS i S E t) := by
  refine ⟨fun pins s σ H Q I h => ?_⟩
  obtain ⟨f, sp, hs, hS, ht⟩ := h
  obtain ⟨fd, ps, F, hk, hb⟩ := A f sp hS
  refine wpAny_Call_Name_kw (thn ((pe_var (pos := p) hN hv hdb hcd).run pins s σ H (fun v H1 => v = .ref f ∧ H1 = H) I ⟨.ref f, hs, rfl, rfl⟩) fun u s1 ⟨v, H1, I1, r1, q1⟩ => ?_)
  obtain ⟨rfl, rfl⟩ := q1
  cases r1
  refine PySem.W.callWith_K (h₀ := X.base) I.ok.mod.kin hk (thn (ha.run pos pins s1 σ _ _ I1 ht) fun us s2 ⟨vs, H2, I2, r, q⟩ => ⟨I2.kIn, ?_⟩) he hpl
  exact run_fnS F hr hb (hx σ) I2 r q
/-- within a comprehension: the written part by its own name -/
theorem ix_listK {X : Cx} {K : PySem.W.Frag} (h : X.K = K := by rfl) : IxR X (rIxL K) := h ▸ ix_list
theorem ix_tupK {X : Cx} {K : PySem.W.Frag} (h : X.K = K := by rfl) : IxR X (rIxT K) := h ▸ ix_tup
/-! ### the text -/
/-- the i-th statement of the program -/
def top (i : Nat) : Stmt := PySem.Challenge.pw_sailcloth_s01_answers.main.body.getD i (.Pass ⟨0, 0, 0, 0⟩)
/-- a def of the text, at f -/
def Dfn (K : PySem.W.Frag) (mg : Str → Option Value) (x : Str) (i : Nat) (f : Addr) (ps : List Str) : Prop := ∃ fd, Fun K x x (top i) f fd ∧ mg x = some (.ref f) ∧ Binds K fd ps []
/-- a def at f keeps its promise -/
def Has (P : Program) (w : World) (K : PySem.W.Frag) (mg : Str → Option Value) (base : Heap) (CX : CXT) (k : Nat) (x : Str) (f : Addr) (ps : List Str) (sp : Sp) : Prop :=
  ∃ fd, mg x = some (.ref f) ∧ PySem.W.keepIn K (.ref f) = true ∧ Binds K fd ps [] ∧ FnOk P w K mg base CX k f fd ps sp
/-- the built-in names are as they were; the constants -/
structure Bt (mg : Str → Option Value) : Prop where
  abs : mg "abs" = none
  len : mg "len" = none
  range : mg "range" = none
  sum : mg "sum" = none
  min : mg "min" = none
  max : mg "max" = none
  list : mg "list" = none
  ve : mg "ValueError" = none
abbrev rAdd : R2 := rI0 fun i j => .int (i + j)
abbrev rSub : R2 := rI0 fun i j => .int (i - j)
abbrev rMulW : R2 := rI CMulW fun i j => .int (i * j)
abbrev rMul : R2 := rI CMul fun i j => .int (i * j)
abbrev rModN : R2 := rI (fun _ j => j ≠ 0) fun i j => .int (i.fmod j)
abbrev rDivZ : R2 := rI CDivZ fun i j => .int (i.fdiv j)
abbrev rLt : R2 := rI0 fun i j => .bl (decide (i < j))
abbrev rLe : R2 := rI0 fun i j => .bl (decide (i ≤ j))
/-! ### what lies in the heap -/
theorem Same.tup {K : PySem.W.Frag} {H H' : Hp} {a : Addr} {xs : List V} (e : Same H H') (h : SqT K H a xs) : SqT K H' a xs := by
  rcases h with (h | ⟨o, h⟩) | h
  · exact .inl (.inl (e _ _ h))
  · exact .inl (.inr ⟨o, e _ _ h⟩)
  · exact .inr h
theorem Same.put {H H' : Hp} {p : Addr} {o : HO} (e : Same H H') (n : H p = none) : Same H (upd H' p o) := fun b u h => by
  rw [upd_ne (ne_of_none h n)]
  exact e b u h
theorem Same.new {H : Hp} {p : Addr} {o : HO} (n : H p = none) : Same H (upd H p o) := Same.put (Same.refl H) n
/-- a store to a list leaves the tuples as they are -/
theorem tup_put {K : PySem.W.Frag} {H : Hp} {l t : Addr} {xs ys vs : List V} (hl : H l = some (.lst xs)) (h : SqT K H t vs) : SqT K (upd H l (.lst ys)) t vs := by
  rcases h with (h | ⟨o, h⟩) | h
  · exact .inl (.inl (by rw [upd_ne (ne_of h hl (by intro z; cases z))]; exact h))
  · exact .inl (.inr ⟨o, by rw [upd_ne (ne_of h hl (by intro z; cases z))]; exact h⟩)
  · exact .inr h
/-- a corner, a fraction -/
abbrev pV (p : Uw31.P) : List V := [.int p.x, .int p.y]
abbrev qV (q : Uw31.Q) : List V := [.int q.n, .int q.d]
/-- tuples at addresses -/
def Ts (K : PySem.W.Frag) (H : Hp) (as : List Addr) (vss : List (List V)) : Prop := as.length = vss.length ∧ ∀ (k : Nat) (vs : List V), vss[k]? = some vs → ∃ t, as[k]? = some t ∧ SqT K H t vs
/-- a list of tuples -/
def TsAt (K : PySem.W.Frag) (H : Hp) (a : Addr) (vss : List (List V)) : Prop := ∃ as : List Addr, H a = some (.lst (as.map V.ref)) ∧ Ts K H as vss
theorem Ts.same {K : PySem.W.Frag} {H H' : Hp} {as : List Addr} {vss : List (List V)} (e : Same H H') (h : Ts K H as vss) : Ts K H' as vss := ⟨h.1, fun k vs hk => by
  obtain ⟨t, h1, h2⟩ := h.2 k vs hk
  exact ⟨t, h1, Same.tup e h2⟩⟩
theorem TsAt.same {K : PySem.W.Frag} {H H' : Hp} {a : Addr} {vss : List (List V)} (e : Same H H') (h : TsAt K H a vss) : TsAt K H' a vss := by
  obtain ⟨as, h1, h2⟩ := h
  exact ⟨as, e _ _ h1, h2.same e⟩
theorem Ts.put {K : PySem.W.Frag} {H : Hp} {l : Addr} {xs ys : List V} {as : List Addr} {vss : List (List V)} (hl : H l = some (.lst xs)) (h : Ts K H as vss) : Ts K (upd H l (.lst ys)) as vss := ⟨h.1, fun k vs hk => by
  obtain ⟨t, h1, h2⟩ := h.2 k vs hk
  exact ⟨t, h1, tup_put hl h2⟩⟩
theorem Ts.nil {K : PySem.W.Frag} {H : Hp} : Ts K H [] [] := ⟨rfl, fun k vs h => by simp at h⟩
theorem Ts.app {K : PySem.W.Frag} {H : Hp} {as bs : List Addr} {vss wss : List (List V)} (h : Ts K H as vss) (g : Ts K H bs wss) : Ts K H (as ++ bs) (vss ++ wss) := by
  refine ⟨by rw [List.length_append, List.length_append, h.1, g.1], fun k vs hk => ?_⟩
  by_cases c : k < vss.length
  · rw [List.getElem?_append_left c] at hk
    rw [List.getElem?_append_left (by rw [h.1]; exact c)]
    exact h.2 k vs hk
  · rw [List.getElem?_append_right (by omega)] at hk
    rw [List.getElem?_append_right (by rw [h.1]; omega), h.1]
    exact g.2 _ vs hk
theorem Ts.one {K : PySem.W.Frag} {H : Hp} {t : Addr} {vs : List V} (h : SqT K H t vs) : Ts K H [t] [vs] := ⟨rfl, fun k ws hk => by
  cases k with
  | zero =>
    have e : vs = ws := Option.some.inj hk
    exact ⟨t, rfl, e ▸ h⟩
  | succ k => simp at hk⟩
theorem Ts.of_addr {K : PySem.W.Frag} {H : Hp} {as : List Addr} {vss : List (List V)} (h : Ts K H as vss) {k : Nat} {x : V} (hx : (as.map V.ref)[k]? = some x) : ∃ t vs, x = .ref t ∧ as[k]? = some t ∧ vss[k]? = some vs ∧ SqT K H t vs := by
  rw [List.getElem?_map] at hx
  cases e : as[k]? with
  | none =>
    rw [e] at hx
    cases hx
  | some t =>
    rw [e] at hx
    have hl : k < vss.length := by
      rw [← h.1]
      exact (List.getElem?_eq_some_iff.mp e).1
    obtain ⟨t', h1, h2⟩ := h.2 k vss[k] (List.getElem?_eq_getElem hl)
    rw [e] at h1
    have et : t = t' := Option.some.inj h1
    subst et
    exact ⟨t, _, (Option.some.inj hx).symm, rfl, List.getElem?_eq_getElem hl, h2⟩
theorem map_get {as : List Addr} {k : Nat} {t : Addr} (h : as[k]? = some t) : (as.map V.ref)[k]? = some (.ref t) := by
  rw [List.getElem?_map, h]
  rfl
theorem TsAt.len {K : PySem.W.Frag} {H : Hp} {a : Addr} {vss : List (List V)} (h : TsAt K H a vss) : ∃ xs, H a = some (.lst xs) ∧ xs.length = vss.length := by
  obtain ⟨as, h1, h2⟩ := h
  exact ⟨_, h1, by rw [List.length_map, h2.1]⟩
/-- a new list of nothing -/
theorem small_line {n : Nat} (h : n ≤ 16777216) : n ≤ sizeLine := by
  rw [sizeLine_eq]
  exact h
theorem small_lt {n : Nat} (h : n < 16777216) : n < sizeLine := by
  rw [sizeLine_eq]
  exact h
end Cloth

namespace Cloth
open PySem PySem.Spec PyProof.Rows L2
open PySem.W (Codec)
section
variable {P : Program} {w : World} {K : PySem.W.Frag} {mg : Str → Option Value} {base : Heap} {f f1 f2 : Addr}
/-! ### fractions -/
/-- the number in a slot, for a measure -/
def slotN (σ : L2.St) (i : Nat) : Nat := match σ[i]? with
  | some (some (V.int z)) => z.toNat
  | _ => 0
def spDivisor : Sp := fun vs H Q _ => ∃ a b : Int, vs = [.int a, .int b] ∧ Q (.int (Int.gcd a b : Nat)) H
theorem scDivisor : FnScope ["one", "other", "here", "there"] ["one", "other"] (defScope (top 2)) := ⟨rfl, rfl, rfl, by decide +kernel, rfl, by decide +kernel, by decide +kernel⟩
theorem abs_is (a : Int) : (if a < 0 then -a else a) = (a.natAbs : Int) := by split <;> omega
theorem has_divisor (D : Dfn K mg "divisor" 2 f ["one", "other"]) (T : Bt mg) : Has P w K mg base CX0 1 "divisor" f ["one", "other"] spDivisor := by
  obtain ⟨fd, F, g, b⟩ := D
  refine ⟨fd, g, F.kp, b, F.ok scDivisor (fun vs H Q E h => ?_) (fun cdv A outer s H vs Q E hr h => ?_)⟩
  · obtain ⟨a, b, rfl, _⟩ := h
    rfl
  · refine ⟨_, pss_cons (ps_par (i := 2) (j := 3) rfl scDivisor.nd rfl rfl (by decide) rfl rfl (pa_cons (pe_callB call_abs (by rfl) T.abs (by decide +kernel) (pa_cons (pv 0) pa_nil)) (pa_cons (pe_callB call_abs (by rfl) T.abs (by decide +kernel) (pa_cons (pv 1) pa_nil)) pa_nil)) (by rfl))
      (pss_cons (ps_while PassesOwn.never (pt_cmpR op_ne (pv 3) pe_int (nomark _)) (pss_one (ps_par (i := 2) (j := 3) rfl scDivisor.nd rfl rfl (by decide) rfl rfl (pa_cons (pv 3) (pa_cons (pe_op op_modN (pv 2) (pv 3)) pa_nil)) (by rfl))))
      (pss_one (ps_ret (pv 2)))), ?_⟩
    obtain ⟨a, b, rfl, q⟩ := h
    refine ⟨_, rfl, _, rfl, _, rfl, _, rfl, _, _, rfl, ?_⟩
    refine while_by (fun σ H' => ∃ x y : Nat, σ = [some (.int a), some (.int b), some (.int x), some (.int y)] ∧ H' = H ∧ Nat.gcd x y = Int.gcd a b)
      (fun σ _ => slotN σ 3) ⟨a.natAbs, b.natAbs, ?_, rfl, rfl⟩ ?_ (fun σ H Q Q' h ⟨v, e, s, k, ek, q⟩ => ⟨v, e, s, k, ek, h _ _ q⟩)
    · rw [abs_is, abs_is]
      rfl
    · rintro σ H' ⟨x, y, rfl, rfl, hg⟩
      refine ⟨_, rfl, rfl, _, rfl, ?_⟩
      by_cases c : y = 0
      · subst c
        refine if_false_of (by simp) ?_
        refine ⟨_, rfl, ?_⟩
        rw [Nat.gcd_zero_right] at hg
        rw [hg]
        exact q
      · refine if_true_of (by simp [c]) ?_
        refine ⟨_, rfl, _, rfl, _, rfl, _, _, rfl, rfl, by omega, _, _, rfl, ⟨y, x % y, ?_, rfl, ?_⟩, ?_⟩
        · show [_, _, some (V.int (y : Int)), some (V.int ((x : Int).fmod (y : Int)))] = _
          rw [Int.fmod_eq_emod_of_nonneg _ (by omega), ← Int.natCast_emod]
        · rw [← hg, Nat.gcd_comm x y, Nat.gcd_rec y x, Nat.gcd_comm]
        · show ((x : Int).fmod (y : Int)).toNat < (y : Int).toNat
          rw [Int.fmod_eq_emod_of_nonneg _ (by omega), ← Int.natCast_emod]
          have := Nat.mod_lt x (Nat.pos_of_ne_zero c)
          omega

def spFraction : Sp := fun vs H Q _ => ∃ (a b : Int) (m : Nat), vs = [.int a, .int b] ∧ b ≠ 0 ∧ a.natAbs < 2 ^ m ∧ b.natAbs < 2 ^ m ∧ 0 < m ∧ m ≤ 8000 ∧ ∀ p, H p = none → Q (.ref p) (upd H p (.tup (qV (Sail.fr a b))))
theorem scFraction : FnScope ["above", "below", "common"] ["above", "below"] (defScope (top 3)) := ⟨rfl, rfl, rfl, by decide +kernel, rfl, by decide +kernel, by decide +kernel⟩
theorem has_fraction (D : Dfn K mg "fraction" 3 f ["above", "below"]) (G1 : Has P w K mg base CX0 1 "divisor" f1 ["one", "other"] spDivisor) : Has P w K mg base CX0 2 "fraction" f ["above", "below"] spFraction := by
  obtain ⟨fd, F, g, b⟩ := D
  obtain ⟨fd1, g1, k1, b1, G1⟩ := G1
  refine ⟨fd, g, F.kp, b, F.ok scFraction (fun vs H Q E h => ?_) (fun cdv A outer s H vs Q E hr h => ?_)⟩
  · obtain ⟨a, b, m, rfl, _⟩ := h
    rfl
  · refine ⟨_, pss_cons (ps_set (i := 2) scFraction.nd rfl (Or.inl rfl) (pe_call G1 hr rfl g1 k1 b1 .nil pass0 (pa_cons (pv 0) (pa_cons (pv 1) pa_nil))))
      (pss_cons (ps_if (pt_cmpR op_lt (pv 1) pe_int (nomark _)) (pss_one (ps_set (i := 2) scFraction.nd rfl (Or.inl rfl) (pe_op op_sub pe_int (pv 2)))) pss_nil)
      (pss_one (ps_ret (pe_tup (pa_cons (pe_op op_fdivZ (pv 0) (pv 2)) (pa_cons (pe_op op_fdivZ (pv 1) (pv 2)) pa_nil)))))), ?_⟩
    obtain ⟨a, b, m, rfl, hb, ha2, hb2, hm, hm8, q⟩ := h
    refine ⟨_, rfl, _, rfl, a, b, rfl, ?_⟩
    refine ⟨_, rfl, _, _, rfl, rfl, _, rfl, ?_⟩
    have hg0 : 0 < Int.gcd a b := Nat.gcd_pos_of_pos_right _ (Int.natAbs_pos.mpr hb)
    have hgb : Int.gcd a b ≤ b.natAbs := Nat.le_of_dvd (Int.natAbs_pos.mpr hb) (Nat.gcd_dvd_right _ _)
    have e := Sail.fr_fdiv (a := a) hb
    by_cases c : b < 0
    · refine if_true_of (decide_eq_true c) ?_
      rw [if_pos c, if_pos c] at e
      have hz : CDivZ a (0 - (Int.gcd a b : Int)) := divZ (b := m) (by omega) (by have : (0 - (Int.gcd a b : Int)).natAbs = Int.gcd a b := by omega
                                                                                  omega) hm (by omega)
      refine ⟨_, rfl, _, _, rfl, rfl, ?_⟩
      refine ⟨_, rfl, _, rfl, _, _, rfl, rfl, hz, ?_⟩
      refine ⟨_, rfl, _, rfl, _, _, rfl, rfl, hz, ?_⟩
      refine ⟨small_line (by show 2 ≤ 16777216; decide), fun p hp => ?_⟩
      have q' := q p hp
      rw [qV, ← e.1, ← e.2] at q'
      exact q'
    · refine if_false_of (decide_eq_false c) ?_
      rw [if_neg c, if_neg c] at e
      have hz : CDivZ a (Int.gcd a b : Int) := divZ (b := m) (by omega) (by have : ((Int.gcd a b : Nat) : Int).natAbs = Int.gcd a b := by omega
                                                                            omega) hm (by omega)
      refine ⟨_, rfl, _, rfl, _, _, rfl, rfl, hz, ?_⟩
      refine ⟨_, rfl, _, rfl, _, _, rfl, rfl, hz, ?_⟩
      refine ⟨small_line (by show 2 ≤ 16777216; decide), fun p hp => ?_⟩
      have q' := q p hp
      rw [qV, ← e.1, ← e.2] at q'
      exact q'

open Sail (Ok Sz)
theorem map_of {α β : Type} {g : α → β} {l : List α} {k : Nat} {y : β} (h : (l.map g)[k]? = some y) : ∃ x, l[k]? = some x ∧ g x = y := by
  rw [List.getElem?_map] at h
  cases e : l[k]? with
  | none =>
    rw [e] at h
    cases h
  | some x =>
    rw [e] at h
    exact ⟨x, rfl, Option.some.inj h⟩
/-- two fractions in, one out -/
def spTwo (K : PySem.W.Frag) (g : Uw31.Q → Uw31.Q → Uw31.Q) : Sp := fun vs H Q _ => ∃ (s t : Addr) (a b : Uw31.Q) (m k : Nat), vs = [.ref s, .ref t] ∧ SqT K H s (qV a) ∧ SqT K H t (qV b) ∧ Ok a ∧ Ok b ∧ Sz a m ∧ Sz b k ∧ (0 < m ∧ 0 < k ∧ m + k + 1 ≤ 8000) ∧
  ∀ p, H p = none → Q (.ref p) (upd H p (.tup (qV (g a b))))
abbrev spPlus (K : PySem.W.Frag) : Sp := spTwo K Uw31.Q.plus
abbrev spMinus (K : PySem.W.Frag) : Sp := spTwo K Uw31.Q.less
theorem nat_sz {d m : Nat} (h : d < 2 ^ m) : (d : Int).natAbs < 2 ^ m := by rw [Int.natAbs_natCast]; exact h
theorem scPlus : FnScope ["one", "other"] ["one", "other"] (defScope (top 4)) := ⟨rfl, rfl, rfl, by decide +kernel, rfl, by decide +kernel, by decide +kernel⟩
theorem scMinus : FnScope ["one", "other"] ["one", "other"] (defScope (top 5)) := ⟨rfl, rfl, rfl, by decide +kernel, rfl, by decide +kernel, by decide +kernel⟩
theorem has_plus (D : Dfn K mg "plus" 4 f ["one", "other"]) (G1 : Has P w K mg base CX0 2 "fraction" f1 ["above", "below"] spFraction) : Has P w K mg base CX0 3 "plus" f ["one", "other"] (spPlus K) := by
  obtain ⟨fd, F, g, b⟩ := D
  obtain ⟨fd1, g1, k1, b1, G1⟩ := G1
  refine ⟨fd, g, F.kp, b, F.ok scPlus (fun vs H Q E h => ?_) (fun cdv A outer s H vs Q E hr h => ?_)⟩
  · obtain ⟨s, t, a, b, m, k, rfl, _⟩ := h
    rfl
  · refine ⟨_, pss_one (ps_ret (pe_call G1 hr rfl g1 k1 b1 .nil pass0 (pa_cons (pe_op op_add (pe_op op_mulW (pe_ix ix_tup (pv 0) pe_int (fun _ _ => rfl)) (pe_ix ix_tup (pv 1) pe_int (fun _ _ => rfl))) (pe_op op_mulW (pe_ix ix_tup (pv 1) pe_int (fun _ _ => rfl)) (pe_ix ix_tup (pv 0) pe_int (fun _ _ => rfl))))
      (pa_cons (pe_op op_mulW (pe_ix ix_tup (pv 0) pe_int (fun _ _ => rfl)) (pe_ix ix_tup (pv 1) pe_int (fun _ _ => rfl))) pa_nil)))), ?_⟩
    obtain ⟨s, t, a, b, m, k, rfl, hs, ht, oa, ob, za, zb, ⟨m0, k0, hmk⟩, q⟩ := h
    refine ⟨_, rfl, s, _, _, _, rfl, rfl, hs, rfl, _, rfl, t, _, _, _, rfl, rfl, ht, rfl, _, _, rfl, rfl, wide_mul za.1 (nat_sz zb.2) m0 k0 (by omega), ?_⟩
    refine ⟨_, rfl, t, _, _, _, rfl, rfl, ht, rfl, _, rfl, s, _, _, _, rfl, rfl, hs, rfl, _, _, rfl, rfl, wide_mul zb.1 (nat_sz za.2) k0 m0 (by omega), ?_⟩
    refine ⟨_, _, rfl, rfl, ?_⟩
    refine ⟨_, rfl, s, _, _, _, rfl, rfl, hs, rfl, _, rfl, t, _, _, _, rfl, rfl, ht, rfl, _, _, rfl, rfl, wide_mul (nat_sz za.2) (nat_sz zb.2) m0 k0 (by omega), ?_⟩
    refine ⟨_, _, m + k + 1, rfl, Sail.den_ne oa ob, Sail.plus_num za zb, Sail.den_abs za zb, by omega, by omega, fun p hp => ?_⟩
    rw [Sail.plus_fr]
    exact q p hp
theorem has_minus (D : Dfn K mg "minus" 5 f ["one", "other"]) (G1 : Has P w K mg base CX0 2 "fraction" f1 ["above", "below"] spFraction) : Has P w K mg base CX0 3 "minus" f ["one", "other"] (spMinus K) := by
  obtain ⟨fd, F, g, b⟩ := D
  obtain ⟨fd1, g1, k1, b1, G1⟩ := G1
  refine ⟨fd, g, F.kp, b, F.ok scMinus (fun vs H Q E h => ?_) (fun cdv A outer s H vs Q E hr h => ?_)⟩
  · obtain ⟨s, t, a, b, m, k, rfl, _⟩ := h
    rfl
  · refine ⟨_, pss_one (ps_ret (pe_call G1 hr rfl g1 k1 b1 .nil pass0 (pa_cons (pe_op op_sub (pe_op op_mulW (pe_ix ix_tup (pv 0) pe_int (fun _ _ => rfl)) (pe_ix ix_tup (pv 1) pe_int (fun _ _ => rfl))) (pe_op op_mulW (pe_ix ix_tup (pv 1) pe_int (fun _ _ => rfl)) (pe_ix ix_tup (pv 0) pe_int (fun _ _ => rfl))))
      (pa_cons (pe_op op_mulW (pe_ix ix_tup (pv 0) pe_int (fun _ _ => rfl)) (pe_ix ix_tup (pv 1) pe_int (fun _ _ => rfl))) pa_nil)))), ?_⟩
    obtain ⟨s, t, a, b, m, k, rfl, hs, ht, oa, ob, za, zb, ⟨m0, k0, hmk⟩, q⟩ := h
    refine ⟨_, rfl, s, _, _, _, rfl, rfl, hs, rfl, _, rfl, t, _, _, _, rfl, rfl, ht, rfl, _, _, rfl, rfl, wide_mul za.1 (nat_sz zb.2) m0 k0 (by omega), ?_⟩
    refine ⟨_, rfl, t, _, _, _, rfl, rfl, ht, rfl, _, rfl, s, _, _, _, rfl, rfl, hs, rfl, _, _, rfl, rfl, wide_mul zb.1 (nat_sz za.2) k0 m0 (by omega), ?_⟩
    refine ⟨_, _, rfl, rfl, ?_⟩
    refine ⟨_, rfl, s, _, _, _, rfl, rfl, hs, rfl, _, rfl, t, _, _, _, rfl, rfl, ht, rfl, _, _, rfl, rfl, wide_mul (nat_sz za.2) (nat_sz zb.2) m0 k0 (by omega), ?_⟩
    refine ⟨_, _, m + k + 1, rfl, Sail.den_ne oa ob, Sail.less_num za zb, Sail.den_abs za zb, by omega, by omega, fun p hp => ?_⟩
    rw [Sail.less_fr]
    exact q p hp
def spIsLess (K : PySem.W.Frag) : Sp := fun vs H Q _ => ∃ (s t : Addr) (a b : Uw31.Q) (m k : Nat), vs = [.ref s, .ref t] ∧ SqT K H s (qV a) ∧ SqT K H t (qV b) ∧ Sz a m ∧ Sz b k ∧ (0 < m ∧ 0 < k ∧ m + k + 1 ≤ 8000) ∧ Q (.bl (a.below b)) H
theorem scIsLess : FnScope ["one", "other"] ["one", "other"] (defScope (top 6)) := ⟨rfl, rfl, rfl, by decide +kernel, rfl, by decide +kernel, by decide +kernel⟩
theorem has_is_less (D : Dfn K mg "is_less" 6 f ["one", "other"]) : Has P w K mg base CX0 1 "is_less" f ["one", "other"] (spIsLess K) := by
  obtain ⟨fd, F, g, b⟩ := D
  refine ⟨fd, g, F.kp, b, F.ok scIsLess (fun vs H Q E h => ?_) (fun cdv A outer s H vs Q E hr h => ?_)⟩
  · obtain ⟨s, t, a, b, m, k, rfl, _⟩ := h
    rfl
  · refine ⟨_, pss_one (ps_ret (pe_cmpR op_lt (pe_op op_mulW (pe_ix ix_tup (pv 0) pe_int (fun _ _ => rfl)) (pe_ix ix_tup (pv 1) pe_int (fun _ _ => rfl))) (pe_op op_mulW (pe_ix ix_tup (pv 1) pe_int (fun _ _ => rfl)) (pe_ix ix_tup (pv 0) pe_int (fun _ _ => rfl))) (nomark _))), ?_⟩
    obtain ⟨s, t, a, b, m, k, rfl, hs, ht, za, zb, ⟨m0, k0, hmk⟩, q⟩ := h
    refine ⟨_, rfl, s, _, _, _, rfl, rfl, hs, rfl, _, rfl, t, _, _, _, rfl, rfl, ht, rfl, _, _, rfl, rfl, wide_mul za.1 (nat_sz zb.2) m0 k0 (by omega), ?_⟩
    refine ⟨_, rfl, t, _, _, _, rfl, rfl, ht, rfl, _, rfl, s, _, _, _, rfl, rfl, hs, rfl, _, _, rfl, rfl, wide_mul zb.1 (nat_sz za.2) k0 m0 (by omega), ?_⟩
    exact ⟨_, _, rfl, rfl, q⟩
/-- NOUGHT = (0, 1) -/
def Nought (K : PySem.W.Frag) (mg : Str → Option Value) : Prop := ∃ t, mg "NOUGHT" = some (.ref t) ∧ ∀ H, SqT K H t (qV (Uw31.whole 0))
def spTotal (K : PySem.W.Frag) : Sp := fun vs H Q _ => ∃ (l : Addr) (qs : List Uw31.Q), vs = [.ref l] ∧ TsAt K H l (qs.map qV) ∧ (∀ q ∈ qs, Ok q ∧ Sz q 31) ∧ qs.length ≤ 200 ∧ ∀ H' p, Same H H' → SqT K H' p (qV (Uw31.sum qs)) → Q (.ref p) H'
theorem scTotal : FnScope ["some", "found", "one"] ["some"] (defScope (top 7)) := ⟨rfl, rfl, rfl, by decide +kernel, rfl, by decide +kernel, by decide +kernel⟩
theorem has_total (D : Dfn K mg "total" 7 f ["some"]) (N : Nought K mg) (G1 : Has P w K mg base CX0 3 "plus" f1 ["one", "other"] (spPlus K)) : Has P w K mg base CX0 4 "total" f ["some"] (spTotal K) := by
  obtain ⟨fd, F, g, b⟩ := D
  obtain ⟨fd1, g1, k1, b1, G1⟩ := G1
  obtain ⟨t0, gN, hN⟩ := N
  refine ⟨fd, g, F.kp, b, F.ok scTotal (fun vs H Q E h => ?_) (fun cdv A outer s H vs Q E hr h => ?_)⟩
  · obtain ⟨l, qs, rfl, _⟩ := h
    rfl
  · refine ⟨_, pss_cons (ps_set (i := 1) scTotal.nd rfl (Or.inl rfl) (pe_glob (v := .ref t0) rfl gN rfl))
      (pss_cons (ps_for PassesOwn.never rfl (pi_list (pv 0)) (pg_name (i := 2) scTotal.nd rfl (Or.inl rfl)) (pss_one (ps_set (i := 1) scTotal.nd rfl (Or.inl rfl) (pe_call G1 hr rfl g1 k1 b1 .nil pass0 (pa_cons (pv 1) (pa_cons (pv 2) pa_nil))))))
      (pss_one (ps_ret (pv 1)))), ?_⟩
    obtain ⟨l, qs, rfl, ⟨as, hl, hT⟩, hq, hlen, q⟩ := h
    refine ⟨_, rfl, l, rfl, ⟨_, SqL.of hl⟩, for_list (K := K) (a := l) (xs := as.map V.ref) (fun i σ H' => ∃ (t : Addr) (v : Option V), σ = [some (.ref l), some (.ref t), v] ∧ Same H H' ∧ SqT K H' t (qV (Sail.sumTo qs i)))
      ⟨t0, none, rfl, Same.refl H, hN H⟩ (fun i σ H' _ ⟨_, _, _, s5, _⟩ => s5.seq (SqL.of hl)) ?_ ?_⟩
    · rintro i x σ H' hx ⟨t, v, rfl, s5, ht⟩
      obtain ⟨t2, vs2, rfl, _, e2, h2⟩ := hT.of_addr hx
      obtain ⟨y, hy, rfl⟩ := map_of e2
      have hi : i < qs.length := (List.getElem?_eq_some_iff.mp hy).1
      obtain ⟨g5, g6⟩ := Sail.sumTo_good hq i (by omega)
      obtain ⟨g7, g8⟩ := hq y (List.mem_of_getElem? hy)
      refine ⟨_, rfl, _, rfl, t, t2, _, y, _, 31, rfl, ht, Same.tup s5 h2, g5, g7, g6, g8, ⟨by omega, by omega, by omega⟩, fun p hp => ?_⟩
      refine ⟨p, _, rfl, Same.put s5 (s5.free hp), ?_⟩
      rw [Sail.sumTo_more hy]
      exact .inl (.inl upd_same)
    · rintro σ H' ⟨t, v, rfl, s5, ht⟩
      rw [List.length_map, hT.1, List.length_map, Sail.sumTo_all] at ht
      exact ⟨_, rfl, q H' t s5 ht⟩
end
end Cloth

namespace Cloth
open PySem PySem.Spec PyProof.Rows L2
open PySem.W (Codec)
open Sail (Ok Sz Small Good)
section
variable {P : Program} {w : World} {K : PySem.W.Frag} {mg : Str → Option Value} {base : Heap} {f f1 f2 f3 : Addr}
abbrev C60 (p : Uw31.P) : Prop := p.x ≤ 60 ∧ p.y ≤ 60
/-! ### turn -/
def spTurn (K : PySem.W.Frag) : Sp := fun vs H Q _ => ∃ (s t u : Addr) (a b c : Uw31.P), vs = [.ref s, .ref t, .ref u] ∧ SqT K H s (pV a) ∧ SqT K H t (pV b) ∧ SqT K H u (pV c) ∧ C60 a ∧ C60 b ∧ C60 c ∧ Q (.int (Uw31.turn a b c)) H
theorem scTurn : FnScope ["a", "b", "c"] ["a", "b", "c"] (defScope (top 10)) := ⟨rfl, rfl, rfl, by decide +kernel, rfl, by decide +kernel, by decide +kernel⟩
theorem has_turn (D : Dfn K mg "turn" 10 f ["a", "b", "c"]) : Has P w K mg base CX0 1 "turn" f ["a", "b", "c"] (spTurn K) := by
  obtain ⟨fd, F, g, b⟩ := D
  refine ⟨fd, g, F.kp, b, F.ok scTurn (fun vs H Q E h => ?_) (fun cdv A outer s H vs Q E hr h => ?_)⟩
  · obtain ⟨s, t, u, a, b, c, rfl, _⟩ := h
    rfl
  · refine ⟨_, pss_one (ps_ret (pe_op op_sub
      (pe_op op_mul (pe_op op_sub (pe_ix ix_tup (pv 1) pe_int (fun _ _ => rfl)) (pe_ix ix_tup (pv 0) pe_int (fun _ _ => rfl))) (pe_op op_sub (pe_ix ix_tup (pv 2) pe_int (fun _ _ => rfl)) (pe_ix ix_tup (pv 0) pe_int (fun _ _ => rfl))))
      (pe_op op_mul (pe_op op_sub (pe_ix ix_tup (pv 1) pe_int (fun _ _ => rfl)) (pe_ix ix_tup (pv 0) pe_int (fun _ _ => rfl))) (pe_op op_sub (pe_ix ix_tup (pv 2) pe_int (fun _ _ => rfl)) (pe_ix ix_tup (pv 0) pe_int (fun _ _ => rfl)))))), ?_⟩
    obtain ⟨s, t, u, a, b, c, rfl, hs, ht, hu, ⟨ax, ay⟩, ⟨bx, bY⟩, ⟨cx, cy⟩, q⟩ := h
    refine ⟨_, rfl, t, _, _, _, rfl, rfl, ht, rfl, _, rfl, s, _, _, _, rfl, rfl, hs, rfl, _, _, rfl, rfl, ?_⟩
    refine ⟨_, rfl, u, _, _, _, rfl, rfl, hu, rfl, _, rfl, s, _, _, _, rfl, rfl, hs, rfl, _, _, rfl, rfl, ?_⟩
    refine ⟨_, _, rfl, rfl, .inl ⟨by omega, by omega⟩, ?_⟩
    refine ⟨_, rfl, t, _, _, _, rfl, rfl, ht, rfl, _, rfl, s, _, _, _, rfl, rfl, hs, rfl, _, _, rfl, rfl, ?_⟩
    refine ⟨_, rfl, u, _, _, _, rfl, rfl, hu, rfl, _, rfl, s, _, _, _, rfl, rfl, hs, rfl, _, _, rfl, rfl, ?_⟩
    refine ⟨_, _, rfl, rfl, .inl ⟨by omega, by omega⟩, ?_⟩
    exact ⟨_, _, rfl, rfl, q⟩
/-! ### is_one -/
/-- the k-th of a list of corners -/
theorem corner_at {H : Hp} {as : List Addr} {ps : List Uw31.P} (h : Ts K H as (ps.map pV)) {k : Nat} (hk : k < ps.length) : ∃ t, as[k]? = some t ∧ SqT K H t (pV (ps.getD k ⟨0, 0⟩)) := by
  refine h.2 k _ ?_
  rw [List.getElem?_map, Sail.get_getD hk]
  rfl
theorem len_ps {H : Hp} {as : List Addr} {ps : List Uw31.P} (h : Ts K H as (ps.map pV)) : (as.map V.ref).length = ps.length := by
  rw [List.length_map, h.1, List.length_map]
def spIsOne (K : PySem.W.Frag) : Sp := fun vs H Q _ => ∃ (l : Addr) (s : Uw31.Sail), vs = [.ref l] ∧ TsAt K H l (s.corners.map pV) ∧ Small s.corners ∧ s.corners.length ≤ 6 ∧ Q (.bl s.fine) H
theorem scIsOne : FnScope ["corners", "i", "j", "k"] ["corners"] (defScope (top 11)) := ⟨rfl, rfl, rfl, by decide +kernel, rfl, by decide +kernel, by decide +kernel⟩
/-- the turns of three corners whose first is i, whose second lies below j, are fine -/
def Fine1 (l : List Uw31.P) (i : Nat) : Prop := ∀ a b c, a < i → a < b → b < c → c < l.length → 0 < Uw31.turn (l.getD a ⟨0, 0⟩) (l.getD b ⟨0, 0⟩) (l.getD c ⟨0, 0⟩)
def Fine2 (l : List Uw31.P) (i j : Nat) : Prop := ∀ b c, b < j → i < b → b < c → c < l.length → 0 < Uw31.turn (l.getD i ⟨0, 0⟩) (l.getD b ⟨0, 0⟩) (l.getD c ⟨0, 0⟩)
def Fine3 (l : List Uw31.P) (i j k : Nat) : Prop := ∀ c, c < k → j < c → c < l.length → 0 < Uw31.turn (l.getD i ⟨0, 0⟩) (l.getD j ⟨0, 0⟩) (l.getD c ⟨0, 0⟩)
theorem fine2_next {l : List Uw31.P} {i j : Nat} (h : Fine2 l i j) (g : Fine3 l i j l.length) : Fine2 l i (j + 1) := fun b c h1 h2 h3 h4 => by
  by_cases e : b = j
  · subst e
    exact g c h4 h3 h4
  · exact h b c (by omega) h2 h3 h4
theorem fine1_next {l : List Uw31.P} {i : Nat} (h : Fine1 l i) (g : Fine2 l i l.length) : Fine1 l (i + 1) := fun a b c h1 h2 h3 h4 => by
  by_cases e : a = i
  · subst e
    exact g b c (by omega) h2 h3 h4
  · exact h a b c (by omega) h2 h3 h4
theorem has_is_one (D : Dfn K mg "is_one" 11 f ["corners"]) (T : Bt mg) (G1 : Has P w K mg base CX0 1 "turn" f1 ["a", "b", "c"] (spTurn K)) : Has P w K mg base CX0 2 "is_one" f ["corners"] (spIsOne K) := by
  obtain ⟨fd, F, g, b⟩ := D
  obtain ⟨fd1, g1, k1, b1, G1⟩ := G1
  refine ⟨fd, g, F.kp, b, F.ok scIsOne (fun vs H Q E h => ?_) (fun cdv A outer s H vs Q E hr h => ?_)⟩
  · obtain ⟨l, s, rfl, _⟩ := h
    rfl
  · refine ⟨_, pss_cons (ps_if (pt_cmpR op_lt (pe_callB call_len_seq (by rfl) T.len PySem.boot_len (pa_cons (pv 0) pa_nil)) pe_int (nomark _)) (pss_one (ps_ret pe_bl)) pss_nil)
      (pss_cons (ps_for PassesOwn.never rfl (pi_range1 (by rfl) T.range (pa_cons (pe_callB call_len_seq (by rfl) T.len PySem.boot_len (pa_cons (pv 0) pa_nil)) pa_nil)) (pg_name (i := 1) scIsOne.nd rfl (Or.inl rfl))
        (pss_one (ps_for PassesOwn.never rfl (pi_range2 (by rfl) T.range (pa_cons (pe_op op_add (pv 1) pe_int) (pa_cons (pe_callB call_len_seq (by rfl) T.len PySem.boot_len (pa_cons (pv 0) pa_nil)) pa_nil))) (pg_name (i := 2) scIsOne.nd rfl (Or.inl rfl))
          (pss_one (ps_for PassesOwn.never rfl (pi_range2 (by rfl) T.range (pa_cons (pe_op op_add (pv 2) pe_int) (pa_cons (pe_callB call_len_seq (by rfl) T.len PySem.boot_len (pa_cons (pv 0) pa_nil)) pa_nil))) (pg_name (i := 3) scIsOne.nd rfl (Or.inl rfl))
            (pss_one (ps_if (pt_cmpR op_le (pe_call G1 hr rfl g1 k1 b1 .nil pass0 (pa_cons (pe_ix ix_list (pv 0) (pv 1) (fun _ _ => rfl)) (pa_cons (pe_ix ix_list (pv 0) (pv 2) (fun _ _ => rfl)) (pa_cons (pe_ix ix_list (pv 0) (pv 3) (fun _ _ => rfl)) pa_nil)))) pe_int (nomark _)) (pss_one (ps_ret pe_bl)) pss_nil)))))))
      (pss_one (ps_ret pe_bl))), ?_⟩
    obtain ⟨l, s, rfl, ⟨as, hl, hT⟩, hsm, h6, q⟩ := h
    have hlen := len_ps hT
    refine ⟨_, rfl, l, _, rfl, .inl (SqL.of hl), _, _, rfl, rfl, _, rfl, ?_⟩
    rw [hlen]
    by_cases c3 : s.corners.length < 3
    · refine if_true_of (decide_eq_true (by omega)) ?_
      rw [Sail.not_fine_few c3] at q
      exact q
    refine if_false_of (decide_eq_false (by omega)) ?_
    refine ⟨_, rfl, l, _, rfl, .inl (SqL.of hl), _, rfl, by omega, by omega, ?_⟩
    rw [hlen]
    refine for_range (lo := 0) (n := s.corners.length) (fun i σ H' => ∃ v1 v2 v3 : Option V, σ = [some (.ref l), v1, v2, v3] ∧ H' = H ∧ Fine1 s.corners i)
      ⟨none, none, none, rfl, rfl, fun a b c h => absurd h (Nat.not_lt_zero a)⟩ ?_ ?_
    · rintro i σ H' hi ⟨v1, v2, v3, rfl, rfl, f1⟩
      rw [Int.zero_add]
      refine ⟨_, rfl, _, _, rfl, rfl, _, rfl, l, _, rfl, .inl (SqL.of hl), _, _, rfl, ⟨by omega, by omega, by omega, by omega⟩, ?_⟩
      rw [hlen]
      refine for_range (lo := (i : Int) + 1) (n := ((s.corners.length : Int) - ((i : Int) + 1)).toNat) (fun j σ H'' => ∃ v2 v3 : Option V, σ = [some (.ref l), some (.int i), v2, v3] ∧ H'' = H' ∧ Fine2 s.corners i (i + 1 + j))
        ⟨v2, v3, rfl, rfl, fun b c h1 h2 => by omega⟩ ?_ ?_
      · rintro j σ H'' hj ⟨v2, v3, rfl, rfl, f2⟩
        have ej : (i : Int) + 1 + (j : Int) = ((i + 1 + j : Nat) : Int) := by omega
        rw [ej]
        generalize hJ : i + 1 + j = J at *
        refine ⟨_, rfl, _, _, rfl, rfl, _, rfl, l, _, rfl, .inl (SqL.of hl), _, _, rfl, ⟨by omega, by omega, by omega, by omega⟩, ?_⟩
        rw [hlen]
        refine for_range (lo := (J : Int) + 1) (n := ((s.corners.length : Int) - ((J : Int) + 1)).toNat) (fun k σ H3 => ∃ v3 : Option V, σ = [some (.ref l), some (.int i), some (.int J), v3] ∧ H3 = H'' ∧ Fine3 s.corners i J (J + 1 + k))
          ⟨v3, rfl, rfl, fun c h1 h2 => by omega⟩ ?_ ?_
        · rintro k σ H3 hk ⟨v3, rfl, rfl, f3⟩
          have ek : (J : Int) + 1 + (k : Int) = ((J + 1 + k : Nat) : Int) := by omega
          rw [ek]
          have hkl : J + 1 + k < s.corners.length := by omega
          obtain ⟨ti, ei, si⟩ := corner_at hT hi
          obtain ⟨tj, e2, sj⟩ := corner_at (k := J) hT (by omega)
          obtain ⟨tk, e3, sk⟩ := corner_at hT hkl
          refine ⟨_, rfl, _, rfl, l, _, _, _, rfl, rfl, SqL.of hl, atI_nat (map_get ei), _, rfl, _, rfl, l, _, _, _, rfl, rfl, SqL.of hl, atI_nat (map_get e2), _, rfl, _, rfl, l, _, _, _, rfl, rfl, SqL.of hl, atI_nat (map_get e3), ?_⟩
          refine ⟨ti, tj, tk, _, _, _, rfl, si, sj, sk, Sail.small_getD hsm _, Sail.small_getD hsm _, Sail.small_getD hsm _, ?_⟩
          refine ⟨_, _, rfl, rfl, _, rfl, ?_⟩
          by_cases c : Uw31.turn (s.corners.getD i ⟨0, 0⟩) (s.corners.getD J ⟨0, 0⟩) (s.corners.getD (J + 1 + k) ⟨0, 0⟩) ≤ 0
          · refine if_true_of (decide_eq_true c) ?_
            rw [Sail.not_fine_of (by omega) (by omega) hkl c] at q
            exact q
          · refine if_false_of (decide_eq_false c) ?_
            refine ⟨_, rfl, rfl, fun c' h1 h2 h3 => ?_⟩
            by_cases e : c' = J + 1 + k
            · rw [e]
              omega
            · exact f3 c' (by omega) h2 h3
        · rintro σ H3 ⟨v3, rfl, rfl, f3⟩
          refine ⟨_, _, rfl, rfl, ?_⟩
          have f2' := fine2_next f2 (fun c h1 h2 h3 => f3 c (by omega) h2 h3)
          exact fun b c h1 => f2' b c (by omega)
      · rintro σ H'' ⟨v2, v3, rfl, rfl, f2⟩
        exact ⟨_, _, _, rfl, rfl, fine1_next f1 fun b c h1 h2 h3 h4 => f2 b c (by omega) h2 h3 h4⟩
    · rintro σ H' ⟨v1, v2, v3, rfl, rfl, f1⟩
      rw [Sail.fine_of (by omega) (fun i j k h1 h2 h3 => f1 i j k (by omega) h1 h2 h3)] at q
      exact q
end
end Cloth

namespace Cloth
open PySem PySem.Spec PyProof.Rows L2
open PySem.W (Codec)
open Sail (Ok Sz Small Good)
section
variable {P : Program} {w : World} {K : PySem.W.Frag} {mg : Str → Option Value} {base : Heap} {f f1 f2 f3 : Addr}
/-! ### twice_area -/
def spTwice (K : PySem.W.Frag) : Sp := fun vs H Q _ => ∃ (l : Addr) (ps : List Uw31.P), vs = [.ref l] ∧ TsAt K H l (ps.map pV) ∧ Small ps ∧ ps.length ≤ 6 ∧ 3 ≤ ps.length ∧ ∀ H', Same H H' → Q (.int (Sail.areaOf ps)) H'
theorem scTwice : FnScope ["corners", "k"] ["corners"] (defScope (top 12)) := ⟨rfl, rfl, rfl, by decide +kernel, rfl, by decide +kernel, by decide +kernel⟩
theorem map_more {α β : Type} (g : Nat → α) (h : α → β) (n : Nat) : ((List.range n).map g).map h ++ [h (g n)] = ((List.range (n + 1)).map g).map h := by
  rw [List.range_succ, List.map_append, List.map_append]
  rfl
theorem has_twice (D : Dfn K mg "twice_area" 12 f ["corners"]) (T : Bt mg) (G1 : Has P w K mg base CX0 1 "turn" f1 ["a", "b", "c"] (spTurn K)) : Has P w K mg base CX0 2 "twice_area" f ["corners"] (spTwice K) := by
  obtain ⟨fd, F, g, b⟩ := D
  obtain ⟨fd1, g1, k1, b1, G1⟩ := G1
  refine ⟨fd, g, F.kp, b, F.ok scTwice (fun vs H Q E h => ?_) (fun cdv A outer s H vs Q E hr h => ?_)⟩
  · obtain ⟨l, ps, rfl, _⟩ := h
    rfl
  · refine ⟨_, pss_one (ps_ret (pe_callB (cr_sum rfl) (by rfl) T.sum (by decide +kernel) (pa_cons
      (pe_lc (own := [("k", 1)]) (g := gName 1) rfl scTwice.nd (pi_range2 (by rfl) T.range (pa_cons pe_int (pa_cons (pe_op op_sub (pe_callB call_len_seq (by rfl) T.len PySem.boot_len (pa_cons (pv 0) pa_nil)) pe_int) pa_nil)))
        (blkOk_by (own := [("k", 1)]) (N := ["corners", "k"]) (sc := defScope (top 12)) (by decide +kernel)) (fun _ _ _ _ _ => pg_name (i := 1) scTwice.nd rfl (Or.inl rfl)) (fun _ _ _ _ _ => pts_nil)
        (fun _ _ _ _ _ => pe_call G1 hr rfl g1 k1 b1 .nil pass0 (pa_cons (pe_ix (ix_listK (K := K)) (pv 0) pe_int (fun _ _ => rfl)) (pa_cons (pe_ix (ix_listK (K := K)) (pv 0) (pv 1) (fun _ _ => rfl)) (pa_cons (pe_ix (ix_listK (K := K)) (pv 0) (pe_op op_add (pv 1) pe_int) (fun _ _ => rfl)) pa_nil))))) pa_nil))), ?_⟩
    obtain ⟨l, ps, rfl, ⟨as, hl, hT⟩, hsm, h6, h3, q⟩ := h
    have hlen := len_ps hT
    refine ⟨_, rfl, l, _, rfl, .inl (SqL.of hl), _, _, rfl, rfl, _, _, rfl, ⟨by omega, by omega, by omega, by omega⟩, fun D hD => ?_⟩
    rw [hlen]
    have en : ((ps.length : Int) - 1 - 1).toNat = ps.length - 2 := by omega
    rw [en]
    have nl : l ≠ D := ne_of_none hl hD
    let gg : Nat → Int := fun i => Uw31.turn (ps.getD 0 ⟨0, 0⟩) (ps.getD (1 + i) ⟨0, 0⟩) (ps.getD (1 + i + 1) ⟨0, 0⟩)
    refine lc_range (lo := 1) (n := ps.length - 2) (fun i H' => H' = upd H D (.lst (((List.range i).map gg).map V.int))) rfl ?_ ?_
    · rintro i H' hi rfl
      have ei : (1 : Int) + (i : Int) = ((1 + i : Nat) : Int) := by omega
      rw [ei]
      have hl' : (upd H D (.lst (((List.range i).map gg).map V.int))) l = some (.lst (as.map V.ref)) := by
        rw [upd_ne nl]
        exact hl
      have hT' : Ts K (upd H D (.lst (((List.range i).map gg).map V.int))) as (ps.map pV) := hT.same (Same.new hD)
      obtain ⟨t0, e0, s0⟩ := corner_at (k := 0) hT' (by omega)
      obtain ⟨t1, e1, s1⟩ := corner_at (k := 1 + i) hT' (by omega)
      obtain ⟨t2, e2, s2⟩ := corner_at (k := 1 + i + 1) hT' (by omega)
      refine ⟨rfl, _, rfl, l, _, _, _, rfl, rfl, SqL.of hl', atI_nat (j := 0) (map_get e0), _, rfl, _, rfl, l, _, _, _, rfl, rfl, SqL.of hl', atI_nat (map_get e1), _, rfl, _, rfl, _, _, rfl, rfl, l, _, _, .ref t2, rfl, rfl, SqL.of hl', at_of (j := 1 + i + 1) (by omega) (map_get e2), ?_⟩
      refine ⟨t0, t1, t2, _, _, _, rfl, s0, s1, s2, Sail.small_getD hsm _, Sail.small_getD hsm _, Sail.small_getD hsm _, ?_⟩
      refine ⟨_, upd_same, ?_, ?_⟩
      · rw [List.length_map, List.length_map, List.length_range]
        exact small_lt (by omega)
      · rw [upd_upd]
        exact congrArg (fun z => upd H D (.lst z)) (map_more gg V.int i)
    · rintro H' rfl
      refine ⟨D, _, rfl, SqL.of upd_same, ?_⟩
      exact q _ (Same.new hD)
/-! ### seen -/
def spSeen (K : PySem.W.Frag) : Sp := fun vs H Q _ => ∃ (l : Addr) (ps : List Uw31.P) (way : Nat), vs = [.ref l, .int way] ∧ TsAt K H l (ps.map pV) ∧ ps.length ≤ 6 ∧ way ≤ 1 ∧ ∀ H' p, Same H H' → TsAt K H' p ((ps.map (Uw31.look way)).map pV) → Q (.ref p) H'
theorem scSeen : FnScope ["corners", "way", "along", "high"] ["corners", "way"] (defScope (top 13)) := ⟨rfl, rfl, rfl, by decide +kernel, rfl, by decide +kernel, by decide +kernel⟩
theorem take_get {α : Type} {l : List α} {i : Nat} {x : α} (h : l[i]? = some x) : l.take (i + 1) = l.take i ++ [x] := Sail.take_more h
theorem has_seen (D : Dfn K mg "seen" 13 f ["corners", "way"]) (T : Bt mg) {tk : Tok} (gU : mg "UPRIGHT" = some (.int 1 tk)) : Has P w K mg base CX0 1 "seen" f ["corners", "way"] (spSeen K) := by
  obtain ⟨fd, F, g, b⟩ := D
  refine ⟨fd, g, F.kp, b, F.ok scSeen (fun vs H Q E h => ?_) (fun cdv A outer s H vs Q E hr h => ?_)⟩
  · obtain ⟨l, ps, way, rfl, _⟩ := h
    rfl
  · refine ⟨_, pss_cons (ps_if (pt_cmpR op_eq (pv 1) (pe_glob (v := .int 1) rfl gU ⟨_, rfl⟩) (nomark _))
      (pss_one (ps_ret (pe_lc (own := [("along", 2), ("high", 3)]) (g := gTup K 2 (gCons (gName 2) (gCons (gName 3) gNil))) rfl scSeen.nd (pi_list (pv 0))
        (blkOk_by (own := [("along", 2), ("high", 3)]) (N := ["corners", "way", "along", "high"]) (sc := defScope (top 13)) (by decide +kernel))
        (fun _ _ _ _ _ => pg_tup rfl (pgs_cons (pg_name (i := 2) scSeen.nd rfl (Or.inl rfl)) (pgs_cons (pg_name (i := 3) scSeen.nd rfl (Or.inl rfl)) pgs_nil))) (fun _ _ _ _ _ => pts_nil)
        (fun _ _ _ _ _ => pe_tup (pa_cons (pv 3) (pa_cons (pv 2) pa_nil)))))) pss_nil)
      (pss_one (ps_ret (pe_callTy call_list_of (by rfl) T.list (by decide +kernel) (pa_cons (pv 0) pa_nil)))), ?_⟩
    obtain ⟨l, ps, way, rfl, ⟨as, hl, hT⟩, h6, hw, q⟩ := h
    refine ⟨_, rfl, rfl, _, rfl, ?_⟩
    by_cases c : way = 1
    · subst c
      refine if_true_of (decide_eq_true rfl) ?_
      refine ⟨_, rfl, l, rfl, ⟨_, SqL.of hl⟩, fun D hD => ?_⟩
      refine lc_list (K := K) (a := l) (xs := as.map V.ref) (fun i H' => Same H H' ∧ ∃ bs : List Addr, H' D = some (.lst (bs.map V.ref)) ∧ Ts K H' bs (((ps.take i).map (Uw31.look 1)).map pV))
        ⟨Same.new hD, [], upd_same, Ts.nil⟩ (fun i H' _ ⟨s5, _⟩ => s5.seq (SqL.of hl)) ?_ ?_
      · rintro i x H' hx ⟨s5, bs, hb, hB⟩
        obtain ⟨t, vs, rfl, _, e2, h2⟩ := hT.of_addr hx
        obtain ⟨p, hp, rfl⟩ := map_of e2
        have hi : i < ps.length := (List.getElem?_eq_some_iff.mp hp).1
        refine ⟨t, _, rfl, Same.tup s5 h2, rfl, _, _, rfl, _, _, rfl, rfl, rfl, _, rfl, _, rfl, small_line (by show 2 ≤ 16777216; decide), fun u hu => ?_⟩
        have nu : D ≠ u := ne_of_none hb hu
        refine ⟨bs.map V.ref, ?_, ?_, ?_, bs ++ [u], ?_, ?_⟩
        · rw [upd_ne nu]
          exact hb
        · rw [List.length_map, hB.1, List.length_map, List.length_map, List.length_take]
          exact small_lt (by omega)
        · exact Same.put (Same.put s5 (s5.free hu)) hD
        · rw [List.map_append]
          exact upd_same
        · rw [take_get hp, List.map_append, List.map_append]
          have hb' : upd H' u (.tup (pV (Uw31.look 1 p))) D = some (.lst (bs.map V.ref)) := by
            rw [upd_ne nu]
            exact hb
          exact (Ts.put hb' (hB.same (Same.new hu))).app (Ts.one (tup_put hb' (.inl (.inl upd_same))))
      · rintro H' ⟨s5, bs, hb, hB⟩
        rw [List.length_map, hT.1, List.length_map, List.take_length] at hB
        exact q H' D s5 ⟨bs, hb, hB⟩
    · refine if_false_of (decide_eq_false (by intro z; injection z with z; omega)) ?_
      refine ⟨_, rfl, l, _, rfl, .inl (SqL.of hl), fun p hp => ?_⟩
      have e0 : way = 0 := by omega
      subst e0
      have em : ps.map (Uw31.look 0) = ps := (List.map_congr_left (fun p _ => rfl)).trans (List.map_id _)
      refine q _ p (Same.new hp) ⟨as, upd_same, ?_⟩
      rw [em]
      exact hT.same (Same.new hp)
end
end Cloth

namespace Cloth
open PySem PySem.Spec PyProof.Rows L2
open PySem.W (Codec)
open Sail (Ok Sz Small Good)
section
variable {P : Program} {w : World} {K : PySem.W.Frag} {mg : Str → Option Value} {base : Heap} {f f1 f2 f3 : Addr}
/-! ### crossing -/
def spCrossing (K : PySem.W.Frag) : Sp := fun vs H Q _ => ∃ (s t : Addr) (a b : Uw31.P) (h : Int), vs = [.ref s, .ref t, .int h] ∧ SqT K H s (pV a) ∧ SqT K H t (pV b) ∧ C60 a ∧ C60 b ∧ -100 ≤ h ∧ h ≤ 200 ∧
  ∀ H' p, Same H H' → TsAt K H' p ((Sail.crossL a b h).map qV) → Q (.ref p) H'
theorem scCrossing : FnScope ["a", "b", "height"] ["a", "b", "height"] (defScope (top 14)) := ⟨rfl, rfl, rfl, by decide +kernel, rfl, by decide +kernel, by decide +kernel⟩
theorem cross_none {a b : Uw31.P} {h : Int} (n : ¬ Sail.comes a b h) : Sail.crossL a b h = [] := if_neg n
theorem cross_some {a b : Uw31.P} {h : Int} (n : Sail.comes a b h) : Sail.crossL a b h = [Sail.crossQ a b h] := if_pos n
theorem has_crossing (D : Dfn K mg "crossing" 14 f ["a", "b", "height"]) (T : Bt mg) (G1 : Has P w K mg base CX0 2 "fraction" f1 ["above", "below"] spFraction) : Has P w K mg base CX0 3 "crossing" f ["a", "b", "height"] (spCrossing K) := by
  obtain ⟨fd, F, g, b⟩ := D
  obtain ⟨fd1, g1, k1, b1, G1⟩ := G1
  refine ⟨fd, g, F.kp, b, F.ok scCrossing (fun vs H Q E h => ?_) (fun cdv A outer s H vs Q E hr h => ?_)⟩
  · obtain ⟨s, t, a, b, h, rfl, _⟩ := h
    rfl
  · refine ⟨_, pss_cons (ps_if (PW.pt (pw_or (pt_cmpR op_eq (pe_ix ix_tup (pv 0) pe_int (fun _ _ => rfl)) (pe_ix ix_tup (pv 1) pe_int (fun _ _ => rfl)) (nomark _))
        (pw_or1 (pt_not (pt_chain op_le op_le (pe_callB (call_min2 rfl) (by rfl) T.min (by decide +kernel) (pa_cons (pe_ix ix_tup (pv 0) pe_int (fun _ _ => rfl)) (pa_cons (pe_ix ix_tup (pv 1) pe_int (fun _ _ => rfl)) pa_nil))) (pv 2)
          (pe_callB (call_max2 rfl) (by rfl) T.max (by decide +kernel) (pa_cons (pe_ix ix_tup (pv 0) pe_int (fun _ _ => rfl)) (pa_cons (pe_ix ix_tup (pv 1) pe_int (fun _ _ => rfl)) pa_nil)))))))) (pss_one (ps_ret (pe_lst pa_nil))) pss_nil)
      (pss_one (ps_ret (pe_lst (pa_cons (pe_call G1 hr rfl g1 k1 b1 .nil pass0 (pa_cons
        (pe_op op_add (pe_op op_mul (pe_ix ix_tup (pv 0) pe_int (fun _ _ => rfl)) (pe_op op_sub (pe_ix ix_tup (pv 1) pe_int (fun _ _ => rfl)) (pe_ix ix_tup (pv 0) pe_int (fun _ _ => rfl))))
          (pe_op op_mul (pe_op op_sub (pv 2) (pe_ix ix_tup (pv 0) pe_int (fun _ _ => rfl))) (pe_op op_sub (pe_ix ix_tup (pv 1) pe_int (fun _ _ => rfl)) (pe_ix ix_tup (pv 0) pe_int (fun _ _ => rfl)))))
        (pa_cons (pe_op op_sub (pe_ix ix_tup (pv 1) pe_int (fun _ _ => rfl)) (pe_ix ix_tup (pv 0) pe_int (fun _ _ => rfl))) pa_nil))) pa_nil)))), ?_⟩
    obtain ⟨s, t, a, b, h, rfl, hs, ht, ha, hb, h1, h2, q⟩ := h
    -- the empty list
    have none : ¬ Sail.comes a b h → ∀ p, H p = none → Q (.ref p) (upd H p (.lst [])) := fun n p hp => by
      refine q _ p (Same.new hp) ?_
      rw [cross_none n]
      exact ⟨[], upd_same, Ts.nil⟩
    refine ⟨_, rfl, s, _, _, _, rfl, rfl, hs, rfl, _, rfl, t, _, _, _, rfl, rfl, ht, rfl, rfl, _, rfl, ?_⟩
    by_cases c0 : a.y = b.y
    · refine if_true_of (decide_eq_true (by rw [c0])) ?_
      refine if_true_of rfl ?_
      exact ⟨small_line (by show 0 ≤ 16777216; decide), none (fun z => z.2 c0)⟩
    refine if_false_of (decide_eq_false (by intro z; injection z with z; omega)) ?_
    refine ⟨_, rfl, s, _, _, _, rfl, rfl, hs, rfl, _, rfl, t, _, _, _, rfl, rfl, ht, rfl, _, _, rfl, _, rfl, _, _, rfl, rfl, _, rfl, ?_⟩
    have mn : (if (b.y : Int) < a.y then (b.y : Int) else a.y) = min (a.y : Int) b.y := by split <;> omega
    have mx : (if (b.y : Int) > a.y then (b.y : Int) else a.y) = max (a.y : Int) b.y := by split <;> omega
    rw [mn]
    by_cases c1 : min (a.y : Int) b.y ≤ h
    · refine if_true_of (decide_eq_true c1) ?_
      refine ⟨_, rfl, s, _, _, _, rfl, rfl, hs, rfl, _, rfl, t, _, _, _, rfl, rfl, ht, rfl, _, _, rfl, _, _, rfl, rfl, _, rfl, ?_⟩
      rw [mx]
      by_cases c2 : h ≤ max (a.y : Int) b.y
      · refine if_false_of (by rw [decide_eq_true c2]; rfl) ?_
        have cm : Sail.comes a b h := ⟨by omega, c0⟩
        refine ⟨_, rfl, s, _, _, _, rfl, rfl, hs, rfl, _, rfl, t, _, _, _, rfl, rfl, ht, rfl, _, rfl, s, _, _, _, rfl, rfl, hs, rfl, _, _, rfl, rfl, _, _, rfl, rfl, .inl ⟨by omega, by omega⟩, ?_⟩
        refine ⟨_, rfl, _, rfl, s, _, _, _, rfl, rfl, hs, rfl, _, _, rfl, rfl, _, rfl, t, _, _, _, rfl, rfl, ht, rfl, _, rfl, s, _, _, _, rfl, rfl, hs, rfl, _, _, rfl, rfl, _, _, rfl, rfl, .inl ⟨by omega, by omega⟩, ?_⟩
        refine ⟨_, _, rfl, rfl, _, rfl, t, _, _, _, rfl, rfl, ht, rfl, _, rfl, s, _, _, _, rfl, rfl, hs, rfl, _, _, rfl, rfl, ?_⟩
        refine ⟨_, _, 15, rfl, by omega, Sail.cross_num ha hb h1 h2, Sail.cross_den ha hb, by omega, by omega, fun u hu => ⟨small_line (by show 1 ≤ 16777216; decide), fun p hp => ?_⟩⟩
        have hp' : H p = Option.none := (Same.new hu).free hp
        refine q _ p (Same.put (Same.new hu) hp') ?_
        rw [cross_some cm]
        refine ⟨[u], upd_same, Ts.one ?_⟩
        exact Same.tup (Same.new hp) (.inl (.inl upd_same))
      · refine if_true_of (by rw [decide_eq_false c2]; rfl) ?_
        exact ⟨small_line (by show 0 ≤ 16777216; decide), none (fun z => by have := z.1; omega)⟩
    · refine if_false_of (decide_eq_false c1) ?_
      refine ⟨_, rfl, if_true_of rfl ?_⟩
      exact ⟨small_line (by show 0 ≤ 16777216; decide), none (fun z => by have := z.1; omega)⟩
/-! ### places_within -/
theorem at_prev {as : List Addr} {k : Nat} {t : Addr} (hk : k < as.length) (h : as[if k = 0 then as.length - 1 else k - 1]? = some t) : atI (as.map V.ref) ((k : Int) - 1) = some (.ref t) := by
  by_cases c : k = 0
  · subst c
    rw [if_pos rfl] at h
    have e : ixN (as.map V.ref).length (((0 : Nat) : Int) - 1) = some (as.length - 1) := by
      unfold ixN
      rw [List.length_map, if_neg (by omega), if_pos (by omega)]
      congr 1
      omega
    unfold atI
    rw [e]
    exact map_get h
  · rw [if_neg c] at h
    exact at_of (j := k - 1) (by omega) (map_get h)
theorem ahead_at {H : Hp} {as : List Addr} {ps : List Uw31.P} (h : Ts K H as (ps.map pV)) {k : Nat} (hk : k < ps.length) : ∃ t, as[if k = 0 then as.length - 1 else k - 1]? = some t ∧ SqT K H t (pV (Sail.ahead ps k)) := by
  have e : as.length = ps.length := by rw [h.1, List.length_map]
  unfold Sail.ahead
  rw [e]
  split
  · exact corner_at h (by omega)
  · exact corner_at h (by omega)
def spPlaces (K : PySem.W.Frag) : Sp := fun vs H Q _ => ∃ (l : Addr) (ps : List Uw31.P) (lo hi : Int), vs = [.ref l, .int lo, .int hi] ∧ TsAt K H l (ps.map pV) ∧ Small ps ∧ ps.length ≤ 6 ∧ (-100 ≤ lo ∧ lo ≤ 200 ∧ -100 ≤ hi ∧ hi ≤ 200) ∧
  ∀ H' p, Same H H' → TsAt K H' p ((Sail.places ps lo hi).map qV) → Q (.ref p) H'
theorem scPlaces : FnScope ["corners", "low", "high", "found", "k"] ["corners", "low", "high"] (defScope (top 15)) := ⟨rfl, rfl, rfl, by decide +kernel, rfl, by decide +kernel, by decide +kernel⟩
/-- found.extend(crossing(corners[k - 1], corners[k], ..)), the height in the i-th slot -/
def tCross (K : PySem.W.Frag) (i : Nat) : TS := tDrop (tBM K "list" rExtend (tVar 3) (tCons (tCall (spCrossing K) [] E0 (tCons (tOp (rIxL K) (tVar 0) (tOp rSub (tVar 4) (tC (.int 1)))) (tCons (tOp (rIxL K) (tVar 0) (tVar 4)) (tCons (tVar i) tNil)))) tNil))
theorem cross_step {i : Nat} {x : Int} {σ : L2.St} {H H2 : Hp} {l R : Addr} {as cs : List Addr} {ps : List Uw31.P} {B : List Uw31.Q} {k : Nat} {D : Ends}
    (h0 : σ[0]? = some (some (.ref l))) (h3 : σ[3]? = some (some (.ref R))) (h4 : σ[4]? = some (some (.int k))) (hi : σ[i]? = some (some (.int x)))
    (hl : H l = some (.lst (as.map V.ref))) (hT : Ts K H as (ps.map pV)) (hsm : Small ps) (hk : k < ps.length) (x1 : -100 ≤ x) (x2 : x ≤ 200) (hR : H R = none) (s6 : Same H H2)
    (hc : H2 R = some (.lst (cs.map V.ref))) (hC : Ts K H2 cs (B.map qV)) (hn : B.length ≤ 1000)
    (q : ∀ H3 (es : List Addr), Same H H3 → H3 R = some (.lst (es.map V.ref)) → Ts K H3 es ((B ++ Sail.crossL (Sail.ahead ps k) (ps.getD k ⟨0, 0⟩) x).map qV) → D.nx σ H3) : tCross K i D σ H2 := by
  have hal : as.length = ps.length := by rw [hT.1, List.length_map]
  have hl' := s6 _ _ hl
  have hT' := hT.same s6
  obtain ⟨tk, ek, sk⟩ := corner_at hT' hk
  obtain ⟨ta, ea, sa⟩ := ahead_at hT' hk
  refine ⟨_, h3, .inl ⟨rfl, _, SqL.of hc⟩, ?_⟩
  refine ⟨_, h0, _, h4, _, _, rfl, rfl, l, _, _, .ref ta, rfl, rfl, SqL.of hl', at_prev (by omega) ea, ?_⟩
  refine ⟨_, h0, _, h4, l, _, _, .ref tk, rfl, rfl, SqL.of hl', atI_nat (map_get ek), ?_⟩
  refine ⟨_, hi, ta, tk, _, _, x, rfl, sa, sk, Sail.small_ahead hsm k, Sail.small_getD hsm k, x1, x2, fun H3 ds s7 ⟨es, he, hE⟩ => ?_⟩
  have hc3 := s7 _ _ hc
  have l1 : cs.length = B.length := by rw [hC.1, List.length_map]
  have l2 : es.length ≤ 1 := by
    rw [hE.1, List.length_map]
    unfold Sail.crossL
    split <;> simp
  refine ⟨R, ds, _, _, rfl, rfl, hc3, he, ?_, ?_⟩
  · rw [List.length_map, List.length_map]
    exact small_line (by omega)
  · refine q _ (cs ++ es) (Same.put (Same.trans s6 s7) hR) ?_ ?_
    · rw [List.map_append]
      exact upd_same
    · rw [List.map_append]
      exact (Ts.put hc3 (hC.same s7)).app (Ts.put hc3 hE)
theorem has_places (D : Dfn K mg "places_within" 15 f ["corners", "low", "high"]) (T : Bt mg) (G1 : Has P w K mg base CX0 2 "fraction" f1 ["above", "below"] spFraction) (G2 : Has P w K mg base CX0 3 "crossing" f2 ["a", "b", "height"] (spCrossing K)) :
    Has P w K mg base CX0 4 "places_within" f ["corners", "low", "high"] (spPlaces K) := by
  obtain ⟨fd, F, g, b⟩ := D
  obtain ⟨fd1, g1, k1, b1, G1⟩ := G1
  obtain ⟨fd2, g2, k2, b2, G2⟩ := G2
  refine ⟨fd, g, F.kp, b, F.ok scPlaces (fun vs H Q E h => ?_) (fun cdv A outer s H vs Q E hr h => ?_)⟩
  · obtain ⟨l, ps, lo, hi, rfl, _⟩ := h
    rfl
  · have hr2 : Room 2 _ := hr.mono (by decide)
    refine ⟨_, pss_cons (ps_set (i := 3) scPlaces.nd rfl (Or.inl rfl) (pe_lst pa_nil))
      (pss_cons (ps_for PassesOwn.never rfl (pi_range1 (by rfl) T.range (pa_cons (pe_callB call_len_seq (by rfl) T.len PySem.boot_len (pa_cons (pv 0) pa_nil)) pa_nil)) (pg_name (i := 4) scPlaces.nd rfl (Or.inl rfl))
        (pss_cons (ps_if (pt_chain op_le op_le (pv 1) (pe_ix ix_tup (pe_ix ix_list (pv 0) (pv 4) (fun _ _ => rfl)) pe_int (fun _ _ => rfl)) (pv 2))
            (pss_one (ps_expr (pe_bm PySem.F.plainAttrs_list PySem.F.slot_list_append PySem.F.type_list_append mt_append (pv 3) (pa_cons (pe_call G1 hr2 rfl g1 k1 b1 .nil pass0 (pa_cons (pe_ix ix_tup (pe_ix ix_list (pv 0) (pv 4) (fun _ _ => rfl)) pe_int (fun _ _ => rfl)) (pa_cons pe_int pa_nil))) pa_nil)))) pss_nil)
        (pss_cons (ps_expr (pe_bm PySem.F.plainAttrs_list PySem.F.slot_list_extend PySem.F.type_list_extend mt_extend (pv 3) (pa_cons (pe_call G2 hr rfl g2 k2 b2 .nil pass0 (pa_cons (pe_ix ix_list (pv 0) (pe_op op_sub (pv 4) pe_int) (fun _ _ => rfl)) (pa_cons (pe_ix ix_list (pv 0) (pv 4) (fun _ _ => rfl)) (pa_cons (pv 1) pa_nil)))) pa_nil)))
        (pss_one (ps_expr (pe_bm PySem.F.plainAttrs_list PySem.F.slot_list_extend PySem.F.type_list_extend mt_extend (pv 3) (pa_cons (pe_call G2 hr rfl g2 k2 b2 .nil pass0 (pa_cons (pe_ix ix_list (pv 0) (pe_op op_sub (pv 4) pe_int) (fun _ _ => rfl)) (pa_cons (pe_ix ix_list (pv 0) (pv 4) (fun _ _ => rfl)) (pa_cons (pv 2) pa_nil)))) pa_nil)))))))
      (pss_one (ps_ret (pv 3)))), ?_⟩
    obtain ⟨l, ps, lo, hi, rfl, ⟨as, hl, hT⟩, hsm, h6, ⟨b1', b2', b3', b4'⟩, q⟩ := h
    have hlen := len_ps hT
    have hal : as.length = ps.length := by rw [hT.1, List.length_map]
    refine ⟨small_line (by show 0 ≤ 16777216; decide), fun D hD => ?_⟩
    have nl : l ≠ D := ne_of_none hl hD
    have s0 : Same H (upd H D (.lst [])) := Same.new hD
    refine ⟨_, rfl, l, _, rfl, .inl (SqL.of (s0 _ _ hl)), _, rfl, by omega, by omega, ?_⟩
    rw [hlen]
    refine for_range (lo := 0) (n := ps.length) (fun k σ H' => ∃ (bs : List Addr) (v : Option V), σ = [some (.ref l), some (.int lo), some (.int hi), some (.ref D), v] ∧ Same H H' ∧ H' D = some (.lst (bs.map V.ref)) ∧ Ts K H' bs ((Sail.placesTo ps lo hi k).map qV))
      ⟨[], none, rfl, s0, upd_same, Ts.nil⟩ ?_ ?_
    · rintro k σ H' hk ⟨bs, v, rfl, s5, hb, hB⟩
      rw [Int.zero_add]
      have hlB : bs.length ≤ 3 * k := by
        rw [hB.1, List.length_map]
        exact Sail.placesTo_len ps lo hi k
      have hl' := s5 _ _ hl
      have hT' := hT.same s5
      obtain ⟨tk, ek, sk⟩ := corner_at hT' hk
      obtain ⟨ta, ea, sa⟩ := ahead_at hT' hk
      have ck : C60 (ps.getD k ⟨0, 0⟩) := Sail.small_getD hsm k
      have ca : C60 (Sail.ahead ps k) := Sail.small_ahead hsm k
      have two : ∀ (H2 : Hp) (cs : List Addr) (D' : Ends), Same H H2 → H2 D = some (.lst (cs.map V.ref)) →
          Ts K H2 cs ((Sail.placesTo ps lo hi k ++ (if lo ≤ ((ps.getD k ⟨0, 0⟩).y : Int) ∧ ((ps.getD k ⟨0, 0⟩).y : Int) ≤ hi then [Uw31.whole (ps.getD k ⟨0, 0⟩).x] else [])).map qV) →
          (∀ H4, Same H H4 → (∃ es : List Addr, H4 D = some (.lst (es.map V.ref)) ∧ Ts K H4 es ((Sail.placesTo ps lo hi (k + 1)).map qV)) → D'.nx [some (.ref l), some (.int lo), some (.int hi), some (.ref D), some (.int k)] H4) →
          tSeq (tCross K 1) (tCross K 2) D' [some (.ref l), some (.int lo), some (.int hi), some (.ref D), some (.int k)] H2 := by
        intro H2 cs D' s6 hc hC q'
        have n1 := Sail.placesTo_len ps lo hi k
        refine cross_step (x := lo) rfl rfl rfl rfl hl hT hsm hk b1' b2' hD s6 hc hC ?_ fun H3 es s7 he hE => ?_
        · rw [List.length_append]
          split <;> simp <;> omega
        refine cross_step (x := hi) rfl rfl rfl rfl hl hT hsm hk b3' b4' hD s7 he hE ?_ fun H4 fs s8 hf hF => ?_
        · rw [List.length_append, List.length_append]
          unfold Sail.crossL
          split <;> split <;> simp <;> omega
        refine q' H4 s8 ⟨fs, hf, ?_⟩
        rw [Sail.placesTo_more]
        unfold Sail.placesAt
        rw [← List.append_assoc, ← List.append_assoc]
        exact hF
      have fin : ∀ H4, Same H H4 → (∃ es : List Addr, H4 D = some (.lst (es.map V.ref)) ∧ Ts K H4 es ((Sail.placesTo ps lo hi (k + 1)).map qV)) →
          ∃ (bs : List Addr) (v : Option V), ([some (.ref l), some (.int lo), some (.int hi), some (.ref D), some (.int k)] : L2.St) = [some (.ref l), some (.int lo), some (.int hi), some (.ref D), v] ∧ Same H H4 ∧ H4 D = some (.lst (bs.map V.ref)) ∧ Ts K H4 bs ((Sail.placesTo ps lo hi (k + 1)).map qV) :=
        fun H4 s8 ⟨es, he, hE⟩ => ⟨es, _, rfl, s8, he, hE⟩
      refine ⟨_, rfl, _, rfl, _, rfl, l, _, _, .ref tk, rfl, rfl, SqL.of hl', atI_nat (map_get ek), tk, _, _, _, rfl, rfl, sk, rfl, _, _, rfl, rfl, _, rfl, ?_⟩
      by_cases c1 : lo ≤ ((ps.getD k ⟨0, 0⟩).y : Int)
      · refine if_true_of (decide_eq_true c1) ?_
        refine ⟨_, rfl, _, _, rfl, rfl, _, rfl, ?_⟩
        by_cases c2 : ((ps.getD k ⟨0, 0⟩).y : Int) ≤ hi
        · refine if_true_of (decide_eq_true c2) ?_
          refine ⟨_, rfl, .inl ⟨rfl, _, SqL.of hb⟩, ?_⟩
          refine ⟨_, rfl, _, rfl, l, _, _, .ref tk, rfl, rfl, SqL.of hl', atI_nat (map_get ek), tk, _, _, _, rfl, rfl, sk, rfl, ?_⟩
          refine ⟨_, 1, 15, rfl, by decide, by omega, by decide, by decide, by decide, fun u hu => ?_⟩
          have nu : D ≠ u := ne_of_none hb hu
          have hb' : upd H' u (.tup (qV (Sail.fr ((ps.getD k ⟨0, 0⟩).x : Int) 1))) D = some (.lst (bs.map V.ref)) := by
            rw [upd_ne nu]
            exact hb
          refine ⟨D, _, _, rfl, rfl, hb', ?_, ?_⟩
          · rw [List.length_map]
            exact small_lt (by omega)
          · refine two _ (bs ++ [u]) _ (Same.put (Same.put s5 (s5.free hu)) hD) ?_ ?_ fin
            · rw [List.map_append]
              exact upd_same
            · rw [if_pos ⟨c1, c2⟩, List.map_append]
              refine (Ts.put hb' (hB.same (Same.new hu))).app (Ts.one (tup_put hb' (.inl (.inl ?_))))
              have e1 : Sail.fr ((ps.getD k ⟨0, 0⟩).x : Int) 1 = Uw31.whole ((ps.getD k ⟨0, 0⟩).x : Int) := (Sail.fr_nat (d := 1) _).trans (Sail.frac_one _)
              rw [e1]
              exact upd_same
        · refine if_false_of (decide_eq_false c2) ?_
          refine two H' bs _ s5 hb ?_ fin
          rw [if_neg (fun z => c2 z.2), List.append_nil]
          exact hB
      · refine if_false_of (decide_eq_false c1) ?_
        refine ⟨_, rfl, if_false_of rfl ?_⟩
        refine two H' bs _ s5 hb ?_ fin
        rw [if_neg (fun z => c1 z.1), List.append_nil]
        exact hB
    · rintro σ H' ⟨bs, v, rfl, s5, hb, hB⟩
      exact ⟨_, rfl, q H' D s5 ⟨bs, hb, hB⟩⟩
end
end Cloth

namespace Cloth
open PySem PySem.Spec PyProof.Rows L2
open PySem.W (Codec)
open Sail (Ok Sz Small Good)
section
variable {P : Program} {w : World} {K : PySem.W.Frag} {mg : Str → Option Value} {base : Heap} {f f1 f2 f3 : Addr}
/-! ### length_within -/
def spLength (K : PySem.W.Frag) : Sp := fun vs H Q _ => ∃ (l : Addr) (ps : List Uw31.P) (lo hi : Int), vs = [.ref l, .int lo, .int hi] ∧ TsAt K H l (ps.map pV) ∧ Small ps ∧ ps.length ≤ 6 ∧ (-100 ≤ lo ∧ lo ≤ 200 ∧ -100 ≤ hi ∧ hi ≤ 200) ∧ Sail.places ps lo hi ≠ [] ∧
  ∀ H' p, Same H H' → SqT K H' p (qV (Sail.lengthOf ps lo hi)) → Q (.ref p) H'
theorem scLength : FnScope ["corners", "low", "high", "places", "least", "most", "place"] ["corners", "low", "high"] (defScope (top 16)) := ⟨rfl, rfl, rfl, by decide +kernel, rfl, by decide +kernel, by decide +kernel⟩
theorem has_length (D : Dfn K mg "length_within" 16 f ["corners", "low", "high"]) (G1 : Has P w K mg base CX0 4 "places_within" f1 ["corners", "low", "high"] (spPlaces K)) (G2 : Has P w K mg base CX0 1 "is_less" f2 ["one", "other"] (spIsLess K))
    (G3 : Has P w K mg base CX0 3 "minus" f3 ["one", "other"] (spMinus K)) : Has P w K mg base CX0 5 "length_within" f ["corners", "low", "high"] (spLength K) := by
  obtain ⟨fd, F, g, b⟩ := D
  obtain ⟨fd1, g1, k1, b1, G1⟩ := G1
  obtain ⟨fd2, g2, k2, b2, G2⟩ := G2
  obtain ⟨fd3, g3, k3, b3, G3⟩ := G3
  refine ⟨fd, g, F.kp, b, F.ok scLength (fun vs H Q E h => ?_) (fun cdv A outer s H vs Q E hr h => ?_)⟩
  · obtain ⟨l, ps, lo, hi, rfl, _⟩ := h
    rfl
  · have hr1 : Room 1 _ := hr.mono (by decide)
    have hr3 : Room 3 _ := hr.mono (by decide)
    refine ⟨_, pss_cons (ps_set (i := 3) scLength.nd rfl (Or.inl rfl) (pe_call G1 hr rfl g1 k1 b1 .nil pass0 (pa_cons (pv 0) (pa_cons (pv 1) (pa_cons (pv 2) pa_nil)))))
      (pss_cons (ps_set (i := 4) scLength.nd rfl (Or.inl rfl) (pe_ix ix_list (pv 3) pe_int (fun _ _ => rfl)))
      (pss_cons (ps_set (i := 5) scLength.nd rfl (Or.inl rfl) (pe_ix ix_list (pv 3) pe_int (fun _ _ => rfl)))
      (pss_cons (ps_for PassesOwn.never rfl (pi_list (pv 3)) (pg_name (i := 6) scLength.nd rfl (Or.inl rfl))
        (pss_cons (ps_if (pt_val (pe_call G2 hr1 rfl g2 k2 b2 .nil pass0 (pa_cons (pv 6) (pa_cons (pv 4) pa_nil)))) (pss_one (ps_set (i := 4) scLength.nd rfl (Or.inl rfl) (pv 6))) pss_nil)
        (pss_one (ps_if (pt_val (pe_call G2 hr1 rfl g2 k2 b2 .nil pass0 (pa_cons (pv 5) (pa_cons (pv 6) pa_nil)))) (pss_one (ps_set (i := 5) scLength.nd rfl (Or.inl rfl) (pv 6))) pss_nil))))
      (pss_one (ps_ret (pe_call G3 hr3 rfl g3 k3 b3 .nil pass0 (pa_cons (pv 5) (pa_cons (pv 4) pa_nil)))))))), ?_⟩
    obtain ⟨l, ps, lo, hi, rfl, hl, hsm, h6, ⟨b1', b2', b3', b4'⟩, ne, q⟩ := h
    refine ⟨_, rfl, _, rfl, _, rfl, l, ps, lo, hi, rfl, hl, hsm, h6, ⟨b1', b2', b3', b4'⟩, fun H1 m s1 ⟨as, hm, hT⟩ => ?_⟩
    have okp : ∀ q ∈ Sail.places ps lo hi, Sz q 15 := fun q hq => Sail.places_sz hsm b1' b2' b3' b4' hq
    obtain ⟨og, zg⟩ := Sail.least_good hsm b1' b2' b3' b4' ne
    obtain ⟨oh, zh⟩ := Sail.most_good hsm b1' b2' b3' b4' ne
    generalize hqs : Sail.places ps lo hi = qs at *
    obtain ⟨y0, r0, e0⟩ : ∃ y r, qs = y :: r := by
      cases qs with
      | nil => exact absurd rfl ne
      | cons y r => exact ⟨y, r, rfl⟩
    obtain ⟨t0, a0, c0⟩ := hT.2 0 (qV y0) (by rw [e0]; rfl)
    have d0 : qs.getD 0 (Uw31.whole 0) = y0 := by rw [e0]; rfl
    refine ⟨_, rfl, m, _, _, .ref t0, rfl, rfl, SqL.of hm, atI_nat (j := 0) (map_get a0), ?_⟩
    refine ⟨_, rfl, m, _, _, .ref t0, rfl, rfl, SqL.of hm, atI_nat (j := 0) (map_get a0), ?_⟩
    refine ⟨_, rfl, m, rfl, ⟨_, SqL.of hm⟩, for_list (K := K) (a := m) (xs := as.map V.ref) (fun i σ H' => H' = H1 ∧ ∃ (u v : Addr) (z : Option V), σ = [some (.ref l), some (.int lo), some (.int hi), some (.ref m), some (.ref u), some (.ref v), z] ∧ SqT K H1 u (qV (Sail.leastTo qs i)) ∧ SqT K H1 v (qV (Sail.mostTo qs i)))
      ⟨rfl, t0, t0, none, rfl, ?_, ?_⟩ (fun i σ H' _ ⟨e, _⟩ => by rw [e]; exact SqL.of hm) ?_ ?_⟩
    · show SqT K H1 t0 (qV (qs.getD 0 (Uw31.whole 0)))
      rw [d0]
      exact c0
    · show SqT K H1 t0 (qV (qs.getD 0 (Uw31.whole 0)))
      rw [d0]
      exact c0
    · rintro i x σ H' hx ⟨rfl, u, v, z, rfl, hu, hv⟩
      obtain ⟨t, vs, rfl, _, e2, h2⟩ := hT.of_addr hx
      obtain ⟨y, hy, rfl⟩ := map_of e2
      have hiq : i < qs.length := (List.getElem?_eq_some_iff.mp hy).1
      have zu := Sail.leastTo_sz okp ne i (by omega)
      have zv := Sail.mostTo_sz okp ne i (by omega)
      have zy := okp y (List.mem_of_getElem? hy)
      have e3 := Sail.leastTo_more hy
      have e4 := Sail.mostTo_more hy
      refine ⟨_, rfl, _, rfl, t, u, _, _, 15, 15, rfl, h2, hu, zy, zu, by decide, _, rfl, ?_⟩
      -- behind the first if
      have two : ∀ (u' : Addr) (D' : Ends), SqT K H' u' (qV (Sail.leastTo qs (i + 1))) → (∀ v', SqT K H' v' (qV (Sail.mostTo qs (i + 1))) → D'.nx [some (.ref l), some (.int lo), some (.int hi), some (.ref m), some (.ref u'), some (.ref v'), some (.ref t)] H') →
          tIfS (tB (tCall (spIsLess K) [] E0 (tCons (tVar 5) (tCons (tVar 6) tNil)))) (tAsg (tVar 6) (gName 5)) tNext D' [some (.ref l), some (.int lo), some (.int hi), some (.ref m), some (.ref u'), some (.ref v), some (.ref t)] H' := by
        intro u' D' _ q'
        refine ⟨_, rfl, _, rfl, v, t, _, _, 15, 15, rfl, hv, h2, zv, zy, by decide, _, rfl, ?_⟩
        rw [e4] at q'
        unfold Sail.mostStep at q'
        by_cases c : (Sail.mostTo qs i).below y = true
        · refine if_true_of c ?_
          rw [if_pos c] at q'
          exact ⟨_, rfl, q' t h2⟩
        · refine if_false_of (Bool.eq_false_iff.mpr c) ?_
          rw [if_neg c] at q'
          exact q' v hv
      by_cases c : y.below (Sail.leastTo qs i) = true
      · refine if_true_of c ?_
        refine ⟨_, rfl, two t _ ?_ fun v' hv' => ⟨rfl, t, v', _, rfl, ?_, hv'⟩⟩
        · rw [e3]
          unfold Sail.leastStep
          rw [if_pos c]
          exact h2
        · rw [e3]
          unfold Sail.leastStep
          rw [if_pos c]
          exact h2
      · refine if_false_of (Bool.eq_false_iff.mpr c) ?_
        refine two u _ ?_ fun v' hv' => ⟨rfl, u, v', _, rfl, ?_, hv'⟩
        · rw [e3]
          unfold Sail.leastStep
          rw [if_neg c]
          exact hu
        · rw [e3]
          unfold Sail.leastStep
          rw [if_neg c]
          exact hu
    · rintro σ H' ⟨rfl, u, v, z, rfl, hu, hv⟩
      rw [List.length_map, hT.1, List.length_map, Sail.leastTo_all] at hu
      rw [List.length_map, hT.1, List.length_map, Sail.mostTo_all] at hv
      refine ⟨_, rfl, _, rfl, v, u, _, _, 15, 15, rfl, hv, hu, oh, og, zh, zg, ⟨by decide, by decide, by decide⟩, fun p hp => ?_⟩
      refine q _ p (Same.trans s1 (Same.new hp)) (.inl (.inl ?_))
      unfold Sail.lengthOf
      rw [hqs]
      exact upd_same
end
end Cloth

namespace Cloth
open PySem PySem.Spec PyProof.Rows L2
open PySem.W (Codec)
open Sail (Ok Sz Small Good)
section
variable {P : Program} {w : World} {K : PySem.W.Frag} {mg : Str → Option Value} {base : Heap} {f f1 f2 f3 : Addr}
/-! ### panels_of -/
def spPanels (K : PySem.W.Frag) : Sp := fun vs H Q _ => ∃ (l : Addr) (s : Uw31.Sail) (way o : Nat), vs = [.ref l, .int s.width, .int way, .int o] ∧ TsAt K H l (s.corners.map pV) ∧ Good s ∧ s.corners ≠ [] ∧ way ≤ 1 ∧ o < s.width ∧
  ∀ H' p, Same H H' → TsAt K H' p ((s.panels way o).map qV) → Q (.ref p) H'
abbrev nPanels : List Str := ["corners", "wide", "way", "o", "own", "heights", "low", "found", "along", "high"]
theorem scPanels : FnScope nPanels ["corners", "wide", "way", "o"] (defScope (top 17)) := ⟨rfl, rfl, rfl, by decide +kernel, rfl, by decide +kernel, by decide +kernel⟩
/-- the number in a slot, for a measure -/
def slotZ (σ : L2.St) (i : Nat) : Int := match σ[i]? with
  | some (some (V.int z)) => z
  | _ => 0
theorem highs_more {l : List Uw31.P} {i : Nat} {p : Uw31.P} (h : l[i]? = some p) : (Sail.highs (l.take i)).map V.int ++ [V.int (p.y : Int)] = (Sail.highs (l.take (i + 1))).map V.int := by
  rw [take_get h]
  unfold Sail.highs
  rw [List.map_append, List.map_append]
  rfl
theorem lens_more (s : Uw31.Sail) (w o k : Nat) : ((List.range (k + 1)).map (Sail.lenAt s w o)).map qV = ((List.range k).map (Sail.lenAt s w o)).map qV ++ [qV (Sail.lenAt s w o k)] := by
  rw [List.range_succ, List.map_append, List.map_append]
  rfl
theorem has_panels (D : Dfn K mg "panels_of" 17 f ["corners", "wide", "way", "o"]) (T : Bt mg) (G1 : Has P w K mg base CX0 1 "seen" f1 ["corners", "way"] (spSeen K)) (G2 : Has P w K mg base CX0 5 "length_within" f2 ["corners", "low", "high"] (spLength K)) :
    Has P w K mg base CX0 6 "panels_of" f ["corners", "wide", "way", "o"] (spPanels K) := by
  obtain ⟨fd, F, g, b⟩ := D
  obtain ⟨fd1, g1, k1, b1, G1⟩ := G1
  obtain ⟨fd2, g2, k2, b2, G2⟩ := G2
  refine ⟨fd, g, F.kp, b, F.ok scPanels (fun vs H Q E h => ?_) (fun cdv A outer s H vs Q E hr h => ?_)⟩
  · obtain ⟨l, s, way, o, rfl, _⟩ := h
    rfl
  · have hr1 : Room 1 _ := hr.mono (by decide)
    refine ⟨_, pss_cons (ps_set (i := 4) scPanels.nd rfl (Or.inl rfl) (pe_call G1 hr1 rfl g1 k1 b1 .nil pass0 (pa_cons (pv 0) (pa_cons (pv 2) pa_nil))))
      (pss_cons (ps_setLc (i := 5) (own := [("along", 8), ("high", 9)]) (g := gTup K 2 (gCons (gName 8) (gCons (gName 9) gNil))) rfl scPanels.nd rfl rfl (sw_true rfl rfl rfl (by decide +kernel)) (pi_list (pv 4))
        (blkOk_by (own := [("along", 8), ("high", 9)]) (N := nPanels) (sc := defScope (top 17)) (by decide +kernel))
        (fun _ _ _ _ _ => pg_tup rfl (pgs_cons (pg_name (i := 8) scPanels.nd rfl (Or.inl rfl)) (pgs_cons (pg_name (i := 9) scPanels.nd rfl (Or.inl rfl)) pgs_nil))) (fun _ _ _ _ _ => pts_nil)
        (fun _ _ _ _ _ => pv 9))
      (pss_cons (ps_set (i := 6) scPanels.nd rfl (Or.inl rfl) (pe_op op_sub (pe_callB (cr_min rfl) (by rfl) T.min (by decide +kernel) (pa_cons (pv 5) pa_nil)) (pv 3)))
      (pss_cons (ps_set (i := 7) scPanels.nd rfl (Or.inl rfl) (pe_lst pa_nil))
      (pss_cons (ps_while PassesOwn.never (pt_cmpR op_lt (pv 6) (pe_callB (cr_max rfl) (by rfl) T.max (by decide +kernel) (pa_cons (pv 5) pa_nil)) (nomark _))
        (pss_cons (ps_expr (pe_bm PySem.F.plainAttrs_list PySem.F.slot_list_append PySem.F.type_list_append mt_append (pv 7) (pa_cons (pe_call G2 hr rfl g2 k2 b2 .nil pass0 (pa_cons (pv 4) (pa_cons (pv 6) (pa_cons (pe_op op_add (pv 6) (pv 1)) pa_nil)))) pa_nil)))
        (pss_one (ps_set (i := 6) scPanels.nd rfl (Or.inl rfl) (pe_op op_add (pv 6) (pv 1))))))
      (pss_one (ps_ret (pv 7))))))), ?_⟩
    obtain ⟨l, s, way, o, rfl, hl, gd, ne, hw, ho, q⟩ := h
    refine ⟨_, rfl, _, rfl, l, s.corners, way, rfl, hl, gd.n, hw, fun H1 own s1 hown => ?_⟩
    obtain ⟨as, ho1, hT⟩ := id hown
    have hlen := len_ps hT
    refine ⟨_, rfl, own, rfl, ⟨_, SqL.of ho1⟩, fun D hD => ?_⟩
    refine lc_list (K := K) (a := own) (xs := as.map V.ref) (fun i H' => Same H1 H' ∧ H' D = some (.lst ((Sail.highs ((s.corners.map (Uw31.look way)).take i)).map V.int)))
      ⟨Same.new hD, upd_same⟩ (fun i H' _ ⟨s5, _⟩ => s5.seq (SqL.of ho1)) ?_ ?_
    · rintro i x H' hx ⟨s5, hb⟩
      obtain ⟨t, vs, rfl, _, e2, h2⟩ := hT.of_addr hx
      obtain ⟨p, hp, rfl⟩ := map_of e2
      have hi : i < (s.corners.map (Uw31.look way)).length := (List.getElem?_eq_some_iff.mp hp).1
      rw [List.length_map] at hi
      have hn := gd.n
      refine ⟨t, _, rfl, Same.tup s5 h2, rfl, _, _, rfl, _, _, rfl, rfl, rfl, _, rfl, _, hb, ?_, Same.put s5 hD, ?_⟩
      · unfold Sail.highs
        rw [List.length_map, List.length_map, List.length_take]
        exact small_lt (by omega)
      · rw [highs_more hp]
        exact upd_same
    rintro H2 ⟨s2, hD2⟩
    rw [hlen, List.take_length] at hD2
    have hpos : 0 < (Sail.highs (s.corners.map (Uw31.look way))).length := by
      unfold Sail.highs
      rw [List.length_map, List.length_map]
      exact List.length_pos_iff.mpr ne
    refine ⟨_, rfl, D, _, rfl, SqL.of hD2, hpos, fun m hm hle => ?_⟩
    have em := Sail.low_unique ne hm hle
    subst em
    refine ⟨_, rfl, _, _, rfl, rfl, small_line (by show 0 ≤ 16777216; decide), fun R hR => ?_⟩
    refine while_by (fun σ H' => ∃ k : Nat, σ = [some (.ref l), some (.int s.width), some (.int way), some (.int o), some (.ref own), some (.ref D), some (.int (Sail.at_ s way o k)), some (.ref R), none, none] ∧ Same H2 H' ∧
        (∃ bs : List Addr, H' R = some (.lst (bs.map V.ref)) ∧ Ts K H' bs (((List.range k).map (Sail.lenAt s way o)).map qV)) ∧ ∀ j, j < k → Sail.at_ s way o j < (s.top way : Int))
      (fun σ _ => ((s.top way : Int) + 1 - slotZ σ 6).toNat) ⟨0, ?_, Same.new hR, ⟨[], upd_same, Ts.nil⟩, fun j h => absurd h (Nat.not_lt_zero j)⟩ ?_
      (fun σ H Q Q' h ⟨v, e, v2, e2, a, ns, ea, hs, h0, r⟩ => ⟨v, e, v2, e2, a, ns, ea, hs, h0, fun m hm hle => by
        obtain ⟨i, j, ei, ej, k, ek, q⟩ := r m hm hle
        exact ⟨i, j, ei, ej, k, ek, h _ _ q⟩⟩)
    · rw [Sail.at_zero]
      rfl
    · rintro σ H' ⟨k, rfl, s5, ⟨bs, hb, hB⟩, hj⟩
      refine ⟨_, rfl, _, rfl, D, _, rfl, SqL.of (s5 _ _ hD2), hpos, fun m hm hle => ?_⟩
      have em := Sail.top_unique ne hm hle
      subst em
      refine ⟨_, _, rfl, rfl, _, rfl, ?_⟩
      by_cases c : Sail.at_ s way o k < (s.top way : Int)
      · refine if_true_of (decide_eq_true c) ?_
        have hk := Sail.count_le ne gd.w1 (fun j (h : j < k) => hj j h)
        have ht := Sail.top_60 gd.small ne way
        have hw12 := gd.w2
        obtain ⟨z1, z2, z3, z4⟩ := Sail.at_bounds gd ne ho c
        refine ⟨_, rfl, .inl ⟨rfl, _, SqL.of hb⟩, _, rfl, _, rfl, _, rfl, _, rfl, _, _, rfl, rfl, own, _, _, _, rfl, hown.same (Same.trans s2 s5), Sail.small_look gd.small way, ?_, ⟨z1, z2, z3, z4⟩, Sail.ne_at ne ho c, fun H3 t s3 h3 => ?_⟩
        · rw [List.length_map]
          exact gd.n
        have hb3 := s3 _ _ hb
        refine ⟨R, _, _, rfl, rfl, hb3, ?_, ?_⟩
        · rw [List.length_map, hB.1, List.length_map, List.length_map, List.length_range]
          exact small_lt (by omega)
        refine ⟨_, rfl, _, rfl, _, _, rfl, rfl, ⟨k + 1, ?_, Same.put (Same.trans s5 s3) hR, ⟨bs ++ [t], ?_, ?_⟩, ?_⟩, ?_⟩
        · rw [Sail.at_succ]
          rfl
        · rw [List.map_append]
          exact upd_same
        · rw [lens_more]
          exact (Ts.put hb3 (hB.same s3)).app (Ts.one (tup_put hb3 h3))
        · intro j hj'
          by_cases e : j = k
          · rw [e]
            exact c
          · exact hj j (by omega)
        · show ((s.top way : Int) + 1 - (Sail.at_ s way o k + (s.width : Int))).toNat < ((s.top way : Int) + 1 - Sail.at_ s way o k).toNat
          have := gd.w1
          omega
      · refine if_false_of (decide_eq_false c) ?_
        refine ⟨_, rfl, q H' R (Same.trans s1 (Same.trans s2 s5)) ⟨bs, hb, ?_⟩⟩
        rw [Sail.panels_is ne ho hj c]
        exact hB
end
end Cloth

namespace Cloth
open PySem PySem.Spec PyProof.Rows L2
open PySem.W (Codec)
open Sail (Ok Sz Small Good)
/-! ### instances: fields -/
theorem lk_here {k : Str} {v : V} {r : List (Str × V)} : List.lookup k ((k, v) :: r) = some v := by
  have e : (k == k) = true := beq_self_eq_true k
  simp only [List.lookup, e]
theorem lk_past {k g : Str} {v : V} {r : List (Str × V)} (h : (k == g) = false) : List.lookup k ((g, v) :: r) = List.lookup k r := by
  simp only [List.lookup, h]
theorem put_here {f : Str} {v x : V} {r : List (Str × V)} : putF f v ((f, x) :: r) = (f, v) :: r := if_pos rfl
theorem put_past {f g : Str} {v x : V} {r : List (Str × V)} (h : ¬ g = f) : putF f v ((g, x) :: r) = (g, x) :: putF f v r := if_neg h
theorem tup_ins {K : PySem.W.Frag} {H : Hp} {p t C dx : Addr} {fs : List (Str × V)} {o : HO} {vs : List V} (hp : H p = some (.ins C dx fs)) (h : SqT K H t vs) : SqT K (upd H p o) t vs := by
  rcases h with (h | ⟨u, h⟩) | h
  · exact .inl (.inl (by rw [upd_ne (ne_of h hp (by intro z; cases z))]; exact h))
  · exact .inl (.inr ⟨u, by rw [upd_ne (ne_of h hp (by intro z; cases z))]; exact h⟩)
  · exact .inr h
theorem tsAt_ins {K : PySem.W.Frag} {H : Hp} {p l C dx : Addr} {fs : List (Str × V)} {o : HO} {vss : List (List V)} (hp : H p = some (.ins C dx fs)) (h : TsAt K H l vss) : TsAt K (upd H p o) l vss := by
  obtain ⟨as, h1, h2⟩ := h
  refine ⟨as, by rw [upd_ne (ne_of h1 hp (by intro z; cases z))]; exact h1, h2.1, fun k vs hk => ?_⟩
  obtain ⟨t, a, b⟩ := h2.2 k vs hk
  exact ⟨t, a, tup_ins hp b⟩
section
variable {P : Program} {w : World} {K : PySem.W.Frag} {mg : Str → Option Value} {base : Heap} {f f1 f2 f3 C fI : Addr}
/-! ### Way -/
structure WayTxt (K : PySem.W.Frag) (mg : Str → Option Value) (C fI : Addr) : Prop where
  cl : Cls K C
  nW : NoAttr K C "way"
  nO : NoAttr K C "o"
  nP : NoAttr K C "panels"
  nC : NoAttr K C "cloth"
  gC : mg "Way" = some (.ref C)
  mkC : Mk K C fI
  ini : ∃ fd, Fun K "__init__" "Way.__init__" (inClass (top 18) 0) fI fd ∧ Binds K fd ["self", "corners", "wide", "way", "o"] []
def wF (x : Sail.W) (t : Addr) : List (Str × V) := [("way", .int x.way), ("o", .int x.o), ("panels", .int x.panels), ("cloth", .ref t)]
def WayAt (K : PySem.W.Frag) (C : Addr) (H : Hp) (p : Addr) (x : Sail.W) : Prop := ∃ dx t, H p = some (.ins C dx (wF x t)) ∧ SqT K H t (qV x.cloth)
theorem WayAt.same {H H' : Hp} {p : Addr} {x : Sail.W} (s : Same H H') (h : WayAt K C H p x) : WayAt K C H' p x := by
  obtain ⟨dx, t, a, b⟩ := h
  exact ⟨dx, t, s _ _ a, Same.tup s b⟩
theorem wF_way (x : Sail.W) (t : Addr) : (wF x t).lookup ("way" : Str) = some (.int x.way) := lk_here
theorem wF_o (x : Sail.W) (t : Addr) : (wF x t).lookup ("o" : Str) = some (.int x.o) := (lk_past (by decide +kernel)).trans lk_here
theorem wF_panels (x : Sail.W) (t : Addr) : (wF x t).lookup ("panels" : Str) = some (.int x.panels) := (lk_past (by decide +kernel)).trans ((lk_past (by decide +kernel)).trans lk_here)
theorem wF_cloth (x : Sail.W) (t : Addr) : (wF x t).lookup ("cloth" : Str) = some (.ref t) := (lk_past (by decide +kernel)).trans ((lk_past (by decide +kernel)).trans ((lk_past (by decide +kernel)).trans lk_here))
abbrev F1 (a : V) : List (Str × V) := [("way", a)]
abbrev F2 (a b : V) : List (Str × V) := [("way", a), ("o", b)]
abbrev F3 (a b c : V) : List (Str × V) := [("way", a), ("o", b), ("panels", c)]
abbrev F4 (a b c d : V) : List (Str × V) := [("way", a), ("o", b), ("panels", c), ("cloth", d)]
theorem wF_1 (a : V) : putF "way" a [] = F1 a := rfl
theorem wF_2 (a b : V) : putF "o" b (F1 a) = F2 a b := (put_past (by decide +kernel)).trans rfl
theorem wF_3 (a b c : V) : putF "panels" c (F2 a b) = F3 a b c := (put_past (by decide +kernel)).trans (congrArg _ ((put_past (by decide +kernel)).trans rfl))
theorem wF_4 (a b c d : V) : putF "cloth" d (F3 a b c) = F4 a b c d := (put_past (by decide +kernel)).trans (congrArg _ ((put_past (by decide +kernel)).trans (congrArg _ ((put_past (by decide +kernel)).trans rfl))))
def spWay (K : PySem.W.Frag) (C : Addr) : Sp := fun vs H Q _ => ∃ (p dx l : Addr) (s : Uw31.Sail) (way o : Nat), vs = [.ref p, .ref l, .int s.width, .int way, .int o] ∧ H p = some (.ins C dx []) ∧ TsAt K H l (s.corners.map pV) ∧ Good s ∧ s.corners ≠ [] ∧ way ≤ 1 ∧ o < s.width ∧
  ∀ H', (∀ b u, H b = some u → b ≠ p → H' b = some u) → WayAt K C H' p (Sail.wayOf s way o) → Q .non H'
theorem scWay : FnScope ["self", "corners", "wide", "way", "o", "lengths"] ["self", "corners", "wide", "way", "o"] (defScope (inClass (top 18) 0)) := ⟨rfl, rfl, rfl, by decide +kernel, rfl, by decide +kernel, by decide +kernel⟩
theorem ok_way (T : Bt mg) (W : WayTxt K mg C fI) (G1 : Has P w K mg base CX0 6 "panels_of" f1 ["corners", "wide", "way", "o"] (spPanels K)) (G2 : Has P w K mg base CX0 4 "total" f2 ["some"] (spTotal K)) :
    ∃ fd, Binds K fd ["self", "corners", "wide", "way", "o"] [] ∧ FnOk P w K mg base CX0 7 fI fd ["self", "corners", "wide", "way", "o"] (spWay K C) := by
  obtain ⟨fd, F, b⟩ := W.ini
  obtain ⟨fd1, g1, k1, b1, G1⟩ := G1
  obtain ⟨fd2, g2, k2, b2, G2⟩ := G2
  refine ⟨fd, b, F.ok scWay (fun vs H Q E h => ?_) (fun cdv A outer s H vs Q E hr h => ?_)⟩
  · obtain ⟨p, dx, l, s, way, o, rfl, _⟩ := h
    rfl
  · have hr4 : Room 4 _ := hr.mono (by decide)
    refine ⟨_, pss_cons (ps_set (i := 5) scWay.nd rfl (Or.inl rfl) (pe_call G1 hr rfl g1 k1 b1 .nil pass0 (pa_cons (pv 1) (pa_cons (pv 2) (pa_cons (pv 3) (pa_cons (pv 4) pa_nil))))))
      (pss_cons (ps_fld (pv 0) (pv 3) rfl)
      (pss_cons (ps_fld (pv 0) (pv 4) rfl)
      (pss_cons (ps_fld (pv 0) (pe_callB call_len_seq (by rfl) T.len PySem.boot_len (pa_cons (pv 5) pa_nil)) rfl)
      (pss_one (ps_fld (pv 0) (pe_call G2 hr4 rfl g2 k2 b2 .nil pass0 (pa_cons (pv 5) pa_nil)) rfl))))), ?_⟩
    obtain ⟨p, dx, l, s, way, o, rfl, hp, hl, gd, ne, hw, ho, q⟩ := h
    refine ⟨_, rfl, _, rfl, _, rfl, _, rfl, l, s, way, o, rfl, hl, gd, ne, hw, ho, fun H1 L s1 hL => ?_⟩
    have hp1 := s1 _ _ hp
    refine ⟨_, rfl, _, rfl, p, C, dx, [], rfl, hp1, W.cl, W.nW, (by show 0 < 1000; decide), ?_⟩
    rw [wF_1]
    refine ⟨_, rfl, _, rfl, p, C, dx, _, rfl, upd_same, W.cl, W.nO, (by show 1 < 1000; decide), ?_⟩
    rw [wF_2, upd_upd]
    have hL2 := tsAt_ins (o := .ins C dx (F2 (.int way) (.int o))) hp1 hL
    obtain ⟨xs, hx, hxl⟩ := hL2.len
    refine ⟨_, rfl, L, _, rfl, .inl (SqL.of hx), _, rfl, p, C, dx, _, rfl, upd_same, W.cl, W.nP, (by show 2 < 1000; decide), ?_⟩
    rw [hxl, wF_3, upd_upd, List.length_map]
    have hL3 := tsAt_ins (o := .ins C dx (F3 (.int way) (.int o) (.int ((s.panels way o).length : Nat)))) hp1 hL
    have hlen := Sail.panels_len (w := way) gd ne ho
    refine ⟨_, rfl, L, _, rfl, hL3, Sail.panels_good gd ne ho, by omega, fun H4 t s4 ht => ?_⟩
    have hp4 := s4 _ _ (upd_same (H := H1) (a := p))
    refine ⟨_, rfl, p, C, dx, _, rfl, hp4, W.cl, W.nC, (by show 3 < 1000; decide), ?_⟩
    rw [wF_4]
    refine q _ (fun b u hb nb => ?_) ⟨dx, t, upd_same, tup_ins hp4 ht⟩
    rw [upd_ne nb]
    refine s4 _ _ ?_
    rw [upd_ne nb]
    exact s1 _ _ hb
/-! ### is_better -/
def spBetter (K : PySem.W.Frag) (C : Addr) : Sp := fun vs H Q _ => ∃ (p q : Addr) (a b : Sail.W), vs = [.ref p, .ref q] ∧ WayAt K C H p a ∧ WayAt K C H q b ∧ Sz a.cloth 3000 ∧ Sz b.cloth 3000 ∧ Q (.bl (Sail.better a b)) H
theorem scBetter : FnScope ["one", "other"] ["one", "other"] (defScope (top 19)) := ⟨rfl, rfl, rfl, by decide +kernel, rfl, by decide +kernel, by decide +kernel⟩
theorem dp_q {H : Hp} {t : Addr} {x : Uw31.Q} (h : SqT K H t (qV x)) : Dp K H (.ref t) (.tuple [.int x.n, .int x.d]) := .tup h (.cons (.int _) (.cons (.int _) .nil))
theorem eqv_q (a b : Uw31.Q) : PyData.eqv (.tuple [.int a.n, .int a.d]) (.tuple [.int b.n, .int b.d]) = decide (a = b) := by
  have e : PyData.eqv (.tuple [.int a.n, .int a.d]) (.tuple [.int b.n, .int b.d]) = (a.n == b.n && ((a.d : Int) == (b.d : Int) && true)) := by simp [PyData.eqv, PyData.eqvAll]
  rw [e]
  obtain ⟨an, ad⟩ := a
  obtain ⟨bn, bd⟩ := b
  by_cases c : an = bn
  · subst c
    by_cases d : ad = bd
    · subst d
      simp
    · have d' : ¬ (ad : Int) = (bd : Int) := by omega
      simp [d, d']
  · simp [c]
theorem shaped_q (a : Uw31.Q) : SeqAt.shaped (.tuple [.int a.n, .int a.d]) = true := by
  unfold SeqAt.shaped
  simp [PyData.canLay0, PyData.canLayAll0, PyData.depth, PyData.depthAll]
theorem has_better (W : WayTxt K mg C fI) (D : Dfn K mg "is_better" 19 f ["one", "other"]) (G1 : Has P w K mg base CX0 1 "is_less" f1 ["one", "other"] (spIsLess K)) : Has P w K mg base CX0 2 "is_better" f ["one", "other"] (spBetter K C) := by
  obtain ⟨fd, F, g, b⟩ := D
  obtain ⟨fd1, g1, k1, b1, G1⟩ := G1
  refine ⟨fd, g, F.kp, b, F.ok scBetter (fun vs H Q E h => ?_) (fun cdv A outer s H vs Q E hr h => ?_)⟩
  · obtain ⟨p, q, a, b, rfl, _⟩ := h
    rfl
  · refine ⟨_, pss_cons (ps_if (pt_cmpR (op_eqD hr.units) (pe_fld (pv 0) rfl) (pe_fld (pv 1) rfl) (nomark _)) (pss_one (ps_ret (pe_cmpR op_lt (pe_fld (pv 0) rfl) (pe_fld (pv 1) rfl) (nomark _)))) pss_nil)
      (pss_one (ps_ret (pe_call G1 hr rfl g1 k1 b1 .nil pass0 (pa_cons (pe_fld (pv 0) rfl) (pa_cons (pe_fld (pv 1) rfl) pa_nil))))), ?_⟩
    obtain ⟨p, q, a, b, rfl, ⟨da, ta, ha, ca⟩, ⟨db, tb, hb, cb⟩, za, zb, k⟩ := h
    refine ⟨_, rfl, p, C, da, _, _, rfl, ha, W.cl, W.nC, wF_cloth _ _, _, rfl, q, C, db, _, _, rfl, hb, W.cl, W.nC, wF_cloth _ _, _, _, dp_q ca, dp_q cb, shaped_q _, shaped_q _, _, rfl, ?_⟩
    rw [eqv_q]
    unfold Sail.better at k
    by_cases c : a.cloth = b.cloth
    · refine if_true_of (decide_eq_true c) ?_
      rw [if_pos c] at k
      refine ⟨_, rfl, p, C, da, _, _, rfl, ha, W.cl, W.nP, wF_panels _ _, _, rfl, q, C, db, _, _, rfl, hb, W.cl, W.nP, wF_panels _ _, _, _, rfl, rfl, ?_⟩
      have e : decide ((a.panels : Int) < (b.panels : Int)) = decide (a.panels < b.panels) := by
        by_cases c' : a.panels < b.panels
        · rw [decide_eq_true c', decide_eq_true (by omega)]
        · rw [decide_eq_false c', decide_eq_false (by omega)]
      have k' := k
      rw [← e] at k'
      exact k'
    · refine if_false_of (decide_eq_false c) ?_
      rw [if_neg c] at k
      exact ⟨_, rfl, p, C, da, _, _, rfl, ha, W.cl, W.nC, wF_cloth _ _, _, rfl, q, C, db, _, _, rfl, hb, W.cl, W.nC, wF_cloth _ _, ta, tb, _, _, 3000, 3000, rfl, ca, cb, za, zb, by decide, k⟩
end
end Cloth

namespace Cloth
open PySem PySem.Spec PyProof.Rows L2
open PySem.W (Codec)
open Sail (Ok Sz Small Good)
section
variable {P : Program} {w : World} {K : PySem.W.Frag} {mg : Str → Option Value} {base : Heap} {f f1 f2 f3 C fI : Addr}
/-! ### best_ways -/
/-- the list found, as the best says it -/
def Found (K : PySem.W.Frag) (C : Addr) (H : Hp) (r : Addr) (b : Option Uw31.Best) : Prop :=
  (b = none ∧ H r = some (.lst [])) ∨ ∃ (y : Uw31.Best) (a : Addr) (rest : List V) (x : Sail.W), b = some y ∧ H r = some (.lst (.ref a :: rest)) ∧ WayAt K C H a x ∧ Sail.Says y (rest.length + 1) x ∧ Ok x.cloth ∧ Sz x.cloth 3000
/-- how many at most -/
def Most (H : Hp) (r : Addr) (n : Nat) : Prop := ∀ xs, H r = some (.lst xs) → xs.length ≤ n
def spBest (K : PySem.W.Frag) (C : Addr) : Sp := fun vs H Q _ => ∃ (l : Addr) (s : Uw31.Sail), vs = [.ref l, .int s.width] ∧ TsAt K H l (s.corners.map pV) ∧ Good s ∧ s.corners ≠ [] ∧ ∀ H' r, Same H H' → Found K C H' r s.best → Most H' r 24 → Q (.ref r) H'
theorem scBest : FnScope ["corners", "wide", "found", "way", "o", "here"] ["corners", "wide"] (defScope (top 20)) := ⟨rfl, rfl, rfl, by decide +kernel, rfl, by decide +kernel, by decide +kernel⟩
theorem Found.same {H H' : Hp} {r : Addr} {b : Option Uw31.Best} (s : Same H H') (h : Found K C H r b) : Found K C H' r b := by
  rcases h with ⟨e, h⟩ | ⟨y, a, rest, x, e, h, g, m, o, z⟩
  · exact .inl ⟨e, s _ _ h⟩
  · exact .inr ⟨y, a, rest, x, e, s _ _ h, g.same s, m, o, z⟩
theorem way_put {H : Hp} {l a : Addr} {xs ys : List V} {x : Sail.W} (hl : H l = some (.lst xs)) (h : WayAt K C H a x) : WayAt K C (upd H l (.lst ys)) a x := by
  obtain ⟨dx, t, h1, h2⟩ := h
  exact ⟨dx, t, by rw [upd_ne (ne_of h1 hl (by intro z; cases z))]; exact h1, tup_put hl h2⟩
theorem Most.of {H : Hp} {r : Addr} {n : Nat} {xs : List V} (h : H r = some (.lst xs)) (l : xs.length ≤ n) : Most H r n := fun ys e => by
  rw [h] at e
  injection e with e
  injection e with e
  rw [← e]
  exact l
theorem has_best (T : Bt mg) (W : WayTxt K mg C fI) (D : Dfn K mg "best_ways" 20 f ["corners", "wide"]) (G1 : ∃ fd, Binds K fd ["self", "corners", "wide", "way", "o"] [] ∧ FnOk P w K mg base CX0 7 fI fd ["self", "corners", "wide", "way", "o"] (spWay K C))
    (G2 : Has P w K mg base CX0 2 "is_better" f2 ["one", "other"] (spBetter K C)) : Has P w K mg base CX0 9 "best_ways" f ["corners", "wide"] (spBest K C) := by
  obtain ⟨fd, F, g, b⟩ := D
  obtain ⟨fd1, b1, G1⟩ := G1
  obtain ⟨fd2, g2, k2, b2, G2⟩ := G2
  refine ⟨fd, g, F.kp, b, F.ok scBest (fun vs H Q E h => ?_) (fun cdv A outer s H vs Q E hr h => ?_)⟩
  · obtain ⟨l, s, rfl, _⟩ := h
    rfl
  · have hr2 : Room 2 _ := hr.mono (by decide)
    refine ⟨_, pss_cons (ps_set (i := 2) scBest.nd rfl (Or.inl rfl) (pe_lst pa_nil))
      (pss_cons (ps_for PassesOwn.never rfl (pi_range1 (by rfl) T.range (pa_cons pe_int pa_nil)) (pg_name (i := 3) scBest.nd rfl (Or.inl rfl))
        (pss_one (ps_for PassesOwn.never rfl (pi_range1 (by rfl) T.range (pa_cons (pv 1) pa_nil)) (pg_name (i := 4) scBest.nd rfl (Or.inl rfl))
          (pss_cons (ps_set (i := 5) scBest.nd rfl (Or.inl rfl) (pe_make W.mkC G1 hr rfl W.gC b1 .nil pass0 (pa_cons (pv 0) (pa_cons (pv 1) (pa_cons (pv 3) (pa_cons (pv 4) pa_nil))))))
          (pss_one (ps_if (PW.pt (pw_or (pt_cmpR (op_eqE hr.units0) (pv 2) (pe_lst pa_nil) (nomark _)) (pw_or1 (pt_val (pe_call G2 hr2 rfl g2 k2 b2 .nil pass0 (pa_cons (pv 5) (pa_cons (pe_ix ix_list (pv 2) pe_int (fun _ _ => rfl)) pa_nil)))))))
            (pss_one (ps_set (i := 2) scBest.nd rfl (Or.inl rfl) (pe_lst (pa_cons (pv 5) pa_nil))))
            (pss_one (ps_if (pt_not (pt_val (pe_call G2 hr2 rfl g2 k2 b2 .nil pass0 (pa_cons (pe_ix ix_list (pv 2) pe_int (fun _ _ => rfl)) (pa_cons (pv 5) pa_nil)))))
              (pss_one (ps_expr (pe_bm PySem.F.plainAttrs_list PySem.F.slot_list_append PySem.F.type_list_append mt_append (pv 2) (pa_cons (pv 5) pa_nil)))) pss_nil)))))))
        )
      (pss_one (ps_ret (pv 2)))), ?_⟩
    obtain ⟨l, s, rfl, hl, gd, ne, q⟩ := h
    have hw1 := gd.w1
    have hw2 := gd.w2
    refine ⟨small_line (by show 0 ≤ 16777216; decide), fun R hR => ?_⟩
    refine ⟨2, rfl, by decide, by decide, ?_⟩
    refine for_range (lo := 0) (n := 2) (fun i σ H' => ∃ (r : Addr) (v3 v4 v5 : Option V), σ = [some (.ref l), some (.int s.width), some (.ref r), v3, v4, v5] ∧ Same H H' ∧ H r = none ∧ Found K C H' r (Sail.bestAt s i 0) ∧ Most H' r (i * s.width))
      ⟨R, none, none, none, rfl, Same.new hR, hR, .inl ⟨rfl, upd_same⟩, Most.of upd_same (Nat.zero_le _)⟩ ?_ ?_
    · rintro i σ H' hi ⟨r, v3, v4, v5, rfl, s5, hr0, hF, hM⟩
      rw [Int.zero_add]
      refine ⟨_, rfl, _, rfl, by omega, by omega, ?_⟩
      refine for_range (lo := 0) (n := s.width) (fun j σ H' => ∃ (r : Addr) (v4 v5 : Option V), σ = [some (.ref l), some (.int s.width), some (.ref r), some (.int i), v4, v5] ∧ Same H H' ∧ H r = none ∧ Found K C H' r (Sail.bestAt s i j) ∧ Most H' r (i * s.width + j))
        ⟨r, v4, v5, rfl, s5, hr0, hF, hM⟩ ?_ ?_
      · rintro j σ H1 hj ⟨r, v4, v5, rfl, s1, hr1, hF, hM⟩
        rw [Int.zero_add]
        refine ⟨_, rfl, _, rfl, _, rfl, _, rfl, fun x dx nx nd ndx => ?_⟩
        have nxl : ∀ {a : Addr} {u : HO}, H1 a = some u → (upd (upd H1 dx (.own x)) x (.ins C dx [])) a = some u := fun {a u} e => by rw [upd_ne (ne_of_none e nx), upd_ne (ne_of_none e nd)]; exact e
        have sx : Same H1 (upd (upd H1 dx (.own x)) x (.ins C dx [])) := fun a u e => nxl e
        refine ⟨x, dx, l, s, i, j, rfl, upd_same, (hl.same s1).same sx, gd, ne, by omega, hj, fun H2 kp hW => ⟨rfl, ?_⟩⟩
        have s2 : Same H1 H2 := Same.made nx nd kp
        have s12 : Same H H2 := Same.trans s1 s2
        have hF2 := hF.same s2
        obtain ⟨oc, zc⟩ := Sail.cloth_good (w := i) gd ne hj
        have mm : i * s.width + j ≤ 24 := by
          have h1 : i * s.width ≤ 1 * 12 := Nat.mul_le_mul (by omega) hw2
          omega
        -- the new best is this way
        have take : ∀ (H3 : Hp), Same H H3 → WayAt K C H3 x (Sail.wayOf s i j) → (∃ b', Sail.bestStep s (Sail.bestAt s i j) (i, j) = some b' ∧ Sail.Says b' 1 (Sail.wayOf s i j)) → ∀ p, H3 p = none →
            ∃ (r : Addr) (v4 v5 : Option V), ([some (.ref l), some (.int s.width), some (.ref p), some (.int i), some (.int j), some (.ref x)] : L2.St) = [some (.ref l), some (.int s.width), some (.ref r), some (.int i), v4, v5] ∧ Same H (upd H3 p (.lst [.ref x])) ∧ H r = none ∧
              Found K C (upd H3 p (.lst [.ref x])) r (Sail.bestAt s i (j + 1)) ∧ Most (upd H3 p (.lst [.ref x])) r (i * s.width + (j + 1)) := by
          rintro H3 s3 hW3 ⟨b', e1, e2⟩ p hp
          have hp0 : H p = none := s3.free hp
          refine ⟨p, _, _, rfl, Same.put s3 hp0, hp0, .inr ⟨b', x, [], _, ?_, upd_same, hW3.same (Same.new hp), e2, oc, zc⟩, Most.of upd_same (by show 1 ≤ _; omega)⟩
          rw [Sail.bestAt_succ]
          exact e1
        refine ⟨_, rfl, small_line (by show 0 ≤ 16777216; decide), fun q0 hq0 => ?_⟩
        have s3 : Same H2 (upd H2 q0 (.lst [])) := Same.new hq0
        have s13 : Same H (upd H2 q0 (.lst [])) := Same.trans s12 s3
        have hW3 := hW.same s3
        rcases hF2.same s3 with ⟨eb, hr3⟩ | ⟨y, a, rest, fx, eb, hr3, hA, hS, ox, zx⟩
        · refine ⟨r, q0, _, rfl, rfl, hr3, upd_same, _, rfl, if_true_of rfl ?_⟩
          refine if_true_of rfl ?_
          refine ⟨_, rfl, small_line (by show 1 ≤ 16777216; decide), fun p hp => ?_⟩
          exact take _ s13 hW3 (Sail.step_none eb) p hp
        · have hlen : rest.length + 1 ≤ i * s.width + j := by
            rcases hF2 with ⟨_, z⟩ | ⟨_, a', rest', _, _, z, _⟩
            · rw [s3 _ _ z] at hr3
              cases hr3
            · rcases hF with ⟨_, z'⟩ | ⟨_, a2, rest2, _, _, z', _⟩
              · have e3 := (Same.trans s2 s3) _ _ z'
                rw [e3] at hr3
                cases hr3
              · have e3 := (Same.trans s2 s3) _ _ z'
                rw [e3] at hr3
                injection hr3 with hr3
                injection hr3 with hr3
                injection hr3 with _ hr3
                have := hM _ z'
                rw [← hr3]
                exact this
          refine ⟨r, q0, _, rfl, rfl, hr3, upd_same, _, rfl, if_false_of rfl ?_⟩
          refine ⟨_, rfl, _, rfl, r, _, _, .ref a, rfl, rfl, SqL.of hr3, atI_nat (j := 0) rfl, x, a, _, fx, rfl, hW3, hA, zc, zx, _, rfl, ?_⟩
          by_cases c : Sail.better (Sail.wayOf s i j) fx = true
          · refine if_true_of c ?_
            refine ⟨_, rfl, small_line (by show 1 ≤ 16777216; decide), fun p hp => ?_⟩
            exact take _ s13 hW3 (eb ▸ Sail.step_better hS c) p hp
          · have c' := Bool.eq_false_iff.mpr c
            refine if_false_of c' ?_
            refine ⟨_, rfl, r, _, _, .ref a, rfl, rfl, SqL.of hr3, atI_nat (j := 0) rfl, _, rfl, a, x, fx, _, rfl, hA, hW3, zx, zc, _, rfl, ?_⟩
            by_cases d : Sail.better fx (Sail.wayOf s i j) = true
            · refine if_false_of (by rw [d]; rfl) ?_
              obtain ⟨b', e1, e2⟩ := Sail.step_worse hS c' d
              refine ⟨r, _, _, rfl, s13, hr1, .inr ⟨b', a, rest, fx, ?_, hr3, hA, e2, ox, zx⟩, Most.of hr3 (by show rest.length + 1 ≤ _; omega)⟩
              rw [Sail.bestAt_succ, eb]
              exact e1
            · have d' := Bool.eq_false_iff.mpr d
              refine if_true_of (by rw [d']; rfl) ?_
              obtain ⟨b', e1, e2⟩ := Sail.step_same hS oc ox c' d'
              refine ⟨_, rfl, .inl ⟨rfl, _, SqL.of hr3⟩, _, rfl, r, _, _, rfl, rfl, hr3, small_lt (by show rest.length + 1 < _; omega), ?_⟩
              refine ⟨r, _, _, rfl, Same.put s13 hr1, hr1, .inr ⟨b', a, rest ++ [.ref x], fx, ?_, upd_same, way_put hr3 hA, ?_, ox, zx⟩, Most.of upd_same ?_⟩
              · rw [Sail.bestAt_succ, eb]
                exact e1
              · rw [List.length_append]
                exact e2
              · show ((V.ref a :: rest) ++ [V.ref x]).length ≤ _
                rw [List.length_append]
                show rest.length + 1 + 1 ≤ _
                omega
      · rintro σ H1 ⟨r, v4, v5, rfl, s1, hr1, hF, hM⟩
        refine ⟨r, _, _, _, rfl, s1, hr1, ?_, ?_⟩
        · rw [← Sail.bestAt_next]
          exact hF
        · rw [Nat.succ_mul]
          exact hM
    · rintro σ H' ⟨r, v3, v4, v5, rfl, s5, hr0, hF, hM⟩
      refine ⟨_, rfl, q H' r s5 ?_ fun xs h => ?_⟩
      · rw [Sail.best_is]
        exact hF
      · have := hM xs h
        omega
end
end Cloth

namespace Cloth
open PySem PySem.Spec PyProof.Rows L2
open PySem.W (Codec)
open Sail (Ok Sz Small Good)
section
variable {P : Program} {w : World} {K : PySem.W.Frag} {mg : Str → Option Value} {base : Heap} {f f1 f2 f3 C CR fI : Addr}
/-! ### Refused, ask -/
structure RefTxt (K : PySem.W.Frag) (mg : Str → Option Value) (CR fI : Addr) : Prop where
  ox : OexC K CR
  nN : PySem.W.findIn K (.ref CR) "number" = some none
  iC : PySem.W.findIn K (.ref CR) "__init__" = some (some (.ref fI))
  tI : PySem.W.typeIn K (.ref fI) = some (.type "function")
  gC : mg "Refused" = some (.ref CR)
  te : PySem.W.exmOne K (.ref CR) (.ref CR) = some true
  xf : XfC K CR
  vV : PySem.W.findCls K (.type "ValueError") (.type "type") "__init__" = some (.val (.builtin "ValueError.__init__"))
  ini : ∃ fd, Fun K "__init__" "Refused.__init__" (inClass (top 25) 0) fI fd ∧ Binds K fd ["self", "number", "asked"] []
def spRef (CR : Addr) : Sp := fun vs H Q _ => ∃ (a : Addr) (n : Int) (z : Str), vs = [.ref a, .int n, .str z] ∧ H a = some (exo a CR none) ∧
  ∀ dx, H dx = none → dx ≠ a → Q .non (upd (upd H dx (exd dx [("number", .int n)])) a (exo a CR (some dx)))
theorem scRef : FnScope ["self", "number", "asked"] ["self", "number", "asked"] (defScope (inClass (top 25) 0)) := ⟨rfl, rfl, rfl, by decide +kernel, rfl, by decide +kernel, by decide +kernel⟩
theorem ok_ref (T : Bt mg) (R : RefTxt K mg CR fI) : ∃ fd, Binds K fd ["self", "number", "asked"] [] ∧ FnOk P w K mg base CX0 1 fI fd ["self", "number", "asked"] (spRef CR) := by
  obtain ⟨fd, F, b⟩ := R.ini
  refine ⟨fd, b, F.ok scRef (fun vs H Q E h => ?_) (fun cdv A outer s H vs Q E hr h => ?_)⟩
  · obtain ⟨a, n, z, rfl, _⟩ := h
    rfl
  · refine ⟨_, pss_cons (ps_expr (pe_veinit (by rfl) T.ve R.vV (pa_cons (pv 0) (pa_cons (pv 2) pa_nil)))) (pss_one (ps_ost (pv 0) (pv 1))), ?_⟩
    obtain ⟨a, n, z, rfl, ha, q⟩ := h
    refine ⟨_, rfl, _, rfl, a, CR, _, rfl, (by show 1 ≤ 1000; decide), R.ox, ha, ?_⟩
    exact ⟨_, rfl, _, rfl, a, CR, rfl, R.ox, R.nN, .inl ⟨ha, q⟩⟩
def spAsk (CR : Addr) : Sp := fun vs H Q E => ∃ (k : Bool) (n : Int), vs = [.bl k, .int n] ∧ (k = true → Q .non H) ∧ (k = false → ∀ H' d, Same H H' → H' d = some (.xd [("number", .int n)]) → E (.ref CR) (some d) H')
theorem scAsk : FnScope ["holds", "number"] ["holds", "number"] (defScope (top 27)) := ⟨rfl, rfl, rfl, by decide +kernel, rfl, by decide +kernel, by decide +kernel⟩
theorem has_ask (R : RefTxt K mg CR fI) (D : Dfn K mg "ask" 27 f ["holds", "number"]) (G1 : ∃ fd, Binds K fd ["self", "number", "asked"] [] ∧ FnOk P w K mg base CX0 1 fI fd ["self", "number", "asked"] (spRef CR)) :
    Has P w K mg base (L2.CX P w) 3 "ask" f ["holds", "number"] (spAsk CR) := by
  obtain ⟨fd, F, g, b⟩ := D
  obtain ⟨fd1, b1, G1⟩ := G1
  refine ⟨fd, g, F.kp, b, F.okX scAsk (fun vs H Q E h => ?_) (fun cdv A outer s H vs Q E hr h => ?_)⟩
  · obtain ⟨k, n, rfl, _⟩ := h
    rfl
  · refine ⟨_, pss_one (ps_if (pt_not (pt_val (pv 0))) (pss_one (ps_raise rfl (takes_of rfl rfl rfl rfl) (pmk_oex R.ox R.iC R.tI G1 hr b1 .nil pass0 (by rfl) R.gC (by exact (pa_cons (pv 1) (pa_cons pe_str pa_nil)))))) pss_nil), ?_⟩
    obtain ⟨k, n, rfl, kT, kF⟩ := h
    refine ⟨_, rfl, k, rfl, ?_⟩
    cases k with
    | true => exact if_false_of rfl (kT rfl)
    | false =>
      refine if_true_of rfl ?_
      refine ⟨_, rfl, (by show 2 ≤ 1000; decide), fun a ha => ?_⟩
      refine ⟨a, n, _, rfl, upd_same, fun dx hdx nda => ⟨rfl, dx, [("number", .int n)], upd_same, ?_, ?_, ?_⟩⟩
      · rw [upd_ne nda]
        exact upd_same
      · rw [upd_ne nda] at hdx
        exact hdx
      · rw [upd_ne nda] at hdx
        refine kF rfl _ dx (fun b u hb => ?_) upd_same
        have na := ne_of_none hb ha
        have nd := ne_of_none hb hdx
        rw [upd_ne nd, del_ne na, upd_ne na, upd_ne nd, upd_ne na]
        exact hb
/-! ### Holder -/
structure HTxt (K : PySem.W.Frag) (mg : Str → Option Value) (C fI : Addr) : Prop where
  cl : Cls K C
  nW : NoAttr K C "wide"
  nC : NoAttr K C "corners"
  gC : mg "Holder" = some (.ref C)
  mkC : Mk K C fI
  ini : ∃ fd, Fun K "__init__" "Holder.__init__" (inClass (top 26) 0) fI fd ∧ Binds K fd ["self"] []
def hF (n : Nat) (l : Addr) : List (Str × V) := [("wide", .int n), ("corners", .ref l)]
def HolderAt (K : PySem.W.Frag) (C : Addr) (H : Hp) (h l : Addr) (s : Uw31.Sail) : Prop := ∃ dx, H h = some (.ins C dx (hF s.width l)) ∧ TsAt K H l (s.corners.map pV)
theorem hF_wide (n : Nat) (l : Addr) : (hF n l).lookup ("wide" : Str) = some (.int n) := lk_here
theorem hF_corners (n : Nat) (l : Addr) : (hF n l).lookup ("corners" : Str) = some (.ref l) := (lk_past (by decide +kernel)).trans lk_here
theorem hF_putW (n m : Nat) (l : Addr) : putF "wide" (.int m) (hF n l) = hF m l := put_here
theorem hF_putC (n : Nat) (l l' : Addr) : putF "corners" (.ref l') (hF n l) = hF n l' := (put_past (by decide +kernel)).trans (congrArg _ put_here)
abbrev J1 (a : V) : List (Str × V) := [("wide", a)]
theorem hF_1 (a : V) : putF "wide" a [] = J1 a := rfl
theorem hF_2 (n : Nat) (l : Addr) : putF "corners" (.ref l) (J1 (.int n)) = hF n l := (put_past (by decide +kernel)).trans rfl
def spHolder (K : PySem.W.Frag) (C : Addr) : Sp := fun vs H Q _ => ∃ (p dx : Addr), vs = [.ref p] ∧ H p = some (.ins C dx []) ∧ ∀ H' l, (∀ b u, H b = some u → b ≠ p → H' b = some u) → HolderAt K C H' p l Uw31.init → H l = none → Q .non H'
theorem scHolder : FnScope ["self"] ["self"] (defScope (inClass (top 26) 0)) := ⟨rfl, rfl, rfl, by decide +kernel, rfl, by decide +kernel, by decide +kernel⟩
theorem ok_holder (W : HTxt K mg C fI) : ∃ fd, Binds K fd ["self"] [] ∧ FnOk P w K mg base CX0 1 fI fd ["self"] (spHolder K C) := by
  obtain ⟨fd, F, b⟩ := W.ini
  refine ⟨fd, b, F.ok scHolder (fun vs H Q E h => ?_) (fun cdv A outer s H vs Q E hr h => ?_)⟩
  · obtain ⟨p, dx, rfl, _⟩ := h
    rfl
  · refine ⟨_, pss_cons (ps_fld (pv 0) pe_int rfl) (pss_one (ps_fld (pv 0) (pe_lst pa_nil) rfl)), ?_⟩
    obtain ⟨p, dx, rfl, hp, q⟩ := h
    refine ⟨_, rfl, p, C, dx, [], rfl, hp, W.cl, W.nW, (by show 0 < 1000; decide), ?_⟩
    rw [hF_1]
    refine ⟨small_line (by show 0 ≤ 16777216; decide), fun l hl => ?_⟩
    have np : p ≠ l := ne_of_none upd_same hl
    have hl0 : H l = none := by
      rw [upd_ne (Ne.symm np)] at hl
      exact hl
    refine ⟨_, rfl, p, C, dx, _, rfl, (upd_ne np).trans upd_same, W.cl, W.nC, (by show 1 < 1000; decide), ?_⟩
    have e : putF "corners" (.ref l) (J1 (.int 1)) = hF 1 l := hF_2 1 l
    rw [e]
    refine q _ l (fun b u hb nb => ?_) ⟨dx, upd_same, [], ?_, Ts.nil⟩ hl0
    · rw [upd_ne nb, upd_ne (ne_of_none hb hl0), upd_ne nb]
      exact hb
    · rw [upd_ne (Ne.symm np)]
      exact upd_same
end
end Cloth

namespace Cloth
open PySem PySem.Spec PyProof.Rows L2
open PySem.W (Codec)
open Sail (Ok Sz Small Good)
section
variable {P : Program} {w : World} {K : PySem.W.Frag} {mg : Str → Option Value} {base : Heap} {f f1 f2 f3 f4 C CR CW fI : Addr}
/-! ### the calls -/
/-- the call of the number i: refused by an error with the number, or answered by a new list -/
def spDeed (K : PySem.W.Frag) (C CR : Addr) (i : Nat) : Sp := fun vs H Q E => ∃ (h a l : Addr) (s : Uw31.Sail) (ns : List Nat) (c : Uw31.Call), vs = [.ref h, .ref a] ∧ HolderAt K C H h l s ∧ Good s ∧ H a = some (.lst (ns.map fun n : Nat => V.int n)) ∧ Uw31Neutral.callIn (i :: ns) = some c ∧
  (∀ k, Uw31.step s c = (s, Uw31.ok k) → ∀ H' d, Same H H' → H' d = some (.xd [("number", .int k)]) → E (.ref CR) (some d) H') ∧
  (∀ H' l' p, (∀ b u, H b = some u → b ≠ h → b ≠ l → H' b = some u) → HolderAt K C H' h l' (Uw31.step s c).1 → (l' = l ∨ H l' = none) → H p = none → H' p = some (.lst ((Uw31Neutral.out (Uw31.step s c).2).map V.int)) → Q (.ref p) H')
structure Consts (mg : Str → Option Value) : Prop where
  wide : ∃ t, mg "MOST_WIDE" = some (.int 12 t)
  place : ∃ t, mg "MOST_PLACE" = some (.int 60 t)
  corners : ∃ t, mg "MOST_CORNERS" = some (.int 6 t)
theorem scBegins : FnScope ["holder", "numbers"] ["holder", "numbers"] (defScope (top 28)) := ⟨rfl, rfl, rfl, by decide +kernel, rfl, by decide +kernel, by decide +kernel⟩
theorem has_begins (W : HTxt K mg C fI) (N : Consts mg) (D : Dfn K mg "begins" 28 f ["holder", "numbers"]) (G1 : Has P w K mg base (L2.CX P w) 3 "ask" f1 ["holds", "number"] (spAsk CR)) :
    Has P w K mg base (L2.CX P w) 11 "begins" f ["holder", "numbers"] (spDeed K C CR 0) := by
  obtain ⟨fd, F, g, b⟩ := D
  obtain ⟨fd1, g1, k1, b1, G1⟩ := G1
  obtain ⟨tw, gw⟩ := N.wide
  refine ⟨fd, g, F.kp, b, F.okX (k := 10) scBegins (fun vs H Q E h => ?_) (fun cdv A outer s H vs Q E hr h => ?_)⟩
  · obtain ⟨h, a, l, s, ns, c, rfl, _⟩ := h
    rfl
  · have hr3 : Room 3 _ := hr.mono (by decide)
    refine ⟨_, pss_cons (ps_expr (pe_call (E := E) G1 hr3 rfl g1 k1 b1 .nil (passes_call (takes_of rfl rfl rfl rfl) (fun _ _ _ _ h => h)) (pa_cons (pe_chain op_le op_le pe_int (pe_ix ix_list (pv 1) pe_int (fun _ _ => rfl)) (pe_glob (v := .int 12) rfl gw ⟨_, rfl⟩)) (pa_cons (pe_un un_neg pe_int) pa_nil))))
      (pss_cons (ps_fld (pv 0) (pe_ix ix_list (pv 1) pe_int (fun _ _ => rfl)) rfl)
      (pss_cons (ps_fld (pv 0) (pe_lst pa_nil) rfl)
      (pss_one (ps_ret (pe_lst (pa_cons pe_int pa_nil)))))), ?_⟩
    obtain ⟨h, a, l, s, ns, c, rfl, ⟨dx, hh, hl⟩, gd, ha, hc, kR, kD⟩ := h
    obtain ⟨n, rfl, rfl⟩ := Sail.call_0 hc
    refine ⟨_, rfl, a, _, _, .int n, rfl, rfl, SqL.of ha, rfl, _, _, rfl, rfl, _, rfl, ?_⟩
    by_cases c1 : (1 : Int) ≤ (n : Int)
    · refine if_true_of (decide_eq_true c1) ?_
      refine ⟨_, _, rfl, rfl, _, rfl, _, _, rfl, fun t => ?_, fun t => ?_⟩
      · have c2 : (n : Int) ≤ 12 := of_decide_eq_true t
        have no : ¬ (n < 1 ∨ 12 < n) := by omega
        rw [Sail.st_b2 no] at kD
        refine ⟨_, rfl, a, _, _, .int n, rfl, rfl, SqL.of ha, rfl, _, rfl, h, C, dx, _, rfl, hh, W.cl, W.nW, (by show 2 < 1000; decide), ?_⟩
        rw [hF_putW]
        refine ⟨small_line (by show 0 ≤ 16777216; decide), fun l' hl' => ?_⟩
        have nh : h ≠ l' := ne_of_none upd_same hl'
        have hl0 : H l' = none := by
          rw [upd_ne (Ne.symm nh)] at hl'
          exact hl'
        refine ⟨_, rfl, h, C, dx, _, rfl, (upd_ne nh).trans upd_same, W.cl, W.nC, (by show 2 < 1000; decide), ?_⟩
        rw [hF_putC]
        refine ⟨small_line (by show 1 ≤ 16777216; decide), fun p hp => ?_⟩
        have np : h ≠ p := ne_of_none upd_same hp
        have hp1 : upd (upd H h (.ins C dx (hF n l))) l' (.lst []) p = none := by
          rw [upd_ne (Ne.symm np)] at hp
          exact hp
        have nlp : l' ≠ p := ne_of_none upd_same hp1
        have hp0 : H p = none := by
          rw [upd_ne (Ne.symm nlp), upd_ne (Ne.symm np)] at hp1
          exact hp1
        refine kD _ l' p (fun b u hb nb _ => ?_) ⟨dx, ?_, [], ?_, Ts.nil⟩ (.inr hl0) hp0 upd_same
        · rw [upd_ne (ne_of_none hb hp0), upd_ne nb, upd_ne (ne_of_none hb hl0), upd_ne nb]
          exact hb
        · rw [upd_ne np]
          exact upd_same
        · rw [upd_ne nlp, upd_ne (Ne.symm nh)]
          exact upd_same
      · have c2 : ¬ (n : Int) ≤ 12 := of_decide_eq_false t
        exact kR (-1) (Sail.st_b1 (by omega))
    · refine if_false_of (decide_eq_false c1) ?_
      refine ⟨_, rfl, false, _, rfl, (fun t => nomatch t), fun t => ?_⟩
      exact kR (-1) (Sail.st_b1 (by omega))
theorem scCorner : FnScope ["holder", "numbers", "along", "high"] ["holder", "numbers"] (defScope (top 29)) := ⟨rfl, rfl, rfl, by decide +kernel, rfl, by decide +kernel, by decide +kernel⟩
theorem has_corner (T : Bt mg) (W : HTxt K mg C fI) (N : Consts mg) (D : Dfn K mg "corner" 29 f ["holder", "numbers"]) (G1 : Has P w K mg base (L2.CX P w) 3 "ask" f1 ["holds", "number"] (spAsk CR)) :
    Has P w K mg base (L2.CX P w) 11 "corner" f ["holder", "numbers"] (spDeed K C CR 1) := by
  obtain ⟨fd, F, g, b⟩ := D
  obtain ⟨fd1, g1, k1, b1, G1⟩ := G1
  obtain ⟨tp, gp⟩ := N.place
  obtain ⟨tc, gc⟩ := N.corners
  refine ⟨fd, g, F.kp, b, F.okX (k := 10) scCorner (fun vs H Q E h => ?_) (fun cdv A outer s H vs Q E hr h => ?_)⟩
  · obtain ⟨h, a, l, s, ns, c, rfl, _⟩ := h
    rfl
  · have hr3 : Room 3 _ := hr.mono (by decide)
    refine ⟨_, pss_cons (ps_asg (pv 1) (pg_unl rfl (pgs_cons (pg_name (i := 2) scCorner.nd rfl (Or.inl rfl)) (pgs_cons (pg_name (i := 3) scCorner.nd rfl (Or.inl rfl)) pgs_nil))))
      (pss_cons (ps_expr (pe_call (E := E) G1 hr3 rfl g1 k1 b1 .nil (passes_call (takes_of rfl rfl rfl rfl) (fun _ _ _ _ h => h)) (pa_cons (pe_and (pe_cmpR op_le (pv 2) (pe_glob (v := .int 60) rfl gp ⟨_, rfl⟩) (nomark _)) (pe_one (pe_cmpR op_le (pv 3) (pe_glob (v := .int 60) rfl gp ⟨_, rfl⟩) (nomark _)))) (pa_cons (pe_un un_neg pe_int) pa_nil))))
      (pss_cons (ps_expr (pe_call (E := E) G1 hr3 rfl g1 k1 b1 .nil (passes_call (takes_of rfl rfl rfl rfl) (fun _ _ _ _ h => h)) (pa_cons (pe_cmpR op_lt (pe_callB call_len_seq (by rfl) T.len PySem.boot_len (pa_cons (pe_fld (pv 0) rfl) pa_nil)) (pe_glob (v := .int 6) rfl gc ⟨_, rfl⟩) (nomark _)) (pa_cons (pe_un un_neg pe_int) pa_nil))))
      (pss_cons (ps_expr (pe_bm PySem.F.plainAttrs_list PySem.F.slot_list_append PySem.F.type_list_append mt_append (pe_fld (pv 0) rfl) (pa_cons (pe_tup (pa_cons (pv 2) (pa_cons (pv 3) pa_nil))) pa_nil)))
      (pss_one (ps_ret (pe_lst (pa_cons (pe_op op_sub (pe_callB call_len_seq (by rfl) T.len PySem.boot_len (pa_cons (pe_fld (pv 0) rfl) pa_nil)) pe_int) pa_nil))))))), ?_⟩
    obtain ⟨h, a, l, s, ns, c, rfl, ⟨dx, hh, as, hl, hT⟩, gd, ha, hc, kR, kD⟩ := h
    obtain ⟨x, y, rfl, rfl⟩ := Sail.call_1 hc
    have hlen := len_ps hT
    have hn := gd.n
    refine ⟨_, rfl, a, _, rfl, SqL.of ha, rfl, _, _, rfl, _, _, rfl, rfl, ?_⟩
    -- behind the first ask
    refine ⟨_, rfl, _, _, rfl, rfl, _, rfl, ?_⟩
    have R1 : ∀ H' d, Same H H' → H' d = some (.xd [("number", .int (-1))]) → (60 < x ∨ 60 < y) → E (.ref CR) (some d) H' := fun H' d s1 hd z => kR (-1) (Sail.st_c1 z) H' d s1 hd
    by_cases c1 : (x : Int) ≤ 60
    · refine if_true_of (decide_eq_true c1) ?_
      refine ⟨_, rfl, _, _, rfl, rfl, _, rfl, _, _, rfl, fun t => ?_, fun t => ?_⟩
      · have c2 : (y : Int) ≤ 60 := of_decide_eq_true t
        have no : ¬ (60 < x ∨ 60 < y) := by omega
        refine ⟨_, rfl, h, C, dx, _, _, rfl, hh, W.cl, W.nC, hF_corners _ _, l, _, rfl, .inl (SqL.of hl), _, _, rfl, rfl, _, rfl, _, _, rfl, fun t => ?_, fun t => ?_⟩
        · rw [hlen] at t
          have c3 : ¬ 6 ≤ s.corners.length := by
            have := of_decide_eq_true t
            omega
          rw [Sail.st_c3 (p := ⟨x, y⟩) no c3] at kD
          refine ⟨_, rfl, h, C, dx, _, _, rfl, hh, W.cl, W.nC, hF_corners _ _, .inl ⟨rfl, _, SqL.of hl⟩, ?_⟩
          refine ⟨_, rfl, _, rfl, small_line (by show 2 ≤ 16777216; decide), fun t ht => ?_⟩
          have nlt : l ≠ t := ne_of_none hl ht
          have nht : h ≠ t := ne_of_none hh ht
          have hl1 : upd H t (.tup [.int x, .int y]) l = some (.lst (as.map V.ref)) := by
            rw [upd_ne nlt]
            exact hl
          refine ⟨l, _, _, rfl, rfl, hl1, small_lt (by rw [hlen]; omega), ?_⟩
          have nhl : h ≠ l := ne_of hh hl (by intro z; cases z)
          have hh2 : upd (upd H t (.tup [.int x, .int y])) l (.lst (as.map V.ref ++ [.ref t])) h = some (.ins C dx (hF s.width l)) := by
            rw [upd_ne nhl, upd_ne nht]
            exact hh
          refine ⟨_, rfl, h, C, dx, _, _, rfl, hh2, W.cl, W.nC, hF_corners _ _, l, _, rfl, .inl (SqL.of upd_same), _, _, rfl, rfl, small_line (by show 1 ≤ 16777216; decide), fun p hp => ?_⟩
          have np : h ≠ p := ne_of_none hh2 hp
          have nlp : l ≠ p := ne_of_none upd_same hp
          have hp1 : upd H t (.tup [.int x, .int y]) p = none := by
            rw [upd_ne (Ne.symm nlp)] at hp
            exact hp
          have ntp : t ≠ p := ne_of_none upd_same hp1
          have hp0 : H p = none := by
            rw [upd_ne (Ne.symm ntp)] at hp1
            exact hp1
          refine kD _ l p (fun b u hb nb nl => ?_) ⟨dx, ?_, as ++ [t], ?_, ?_⟩ (.inl rfl) hp0 ?_
          · rw [upd_ne (ne_of_none hb hp0), upd_ne nl, upd_ne (ne_of_none hb ht)]
            exact hb
          · rw [upd_ne np]
            exact hh2
          · rw [upd_ne nlp, List.map_append]
            exact upd_same
          · show Ts K _ (as ++ [t]) ((s.corners ++ [(⟨x, y⟩ : Uw31.P)]).map pV)
            rw [List.map_append]
            exact Ts.same (Same.new hp) ((Ts.put hl1 (hT.same (Same.new ht))).app (Ts.one (tup_put hl1 (.inl (.inl upd_same)))))
          · rw [upd_same]
            congr 2
            show [V.int _] = [V.int _]
            congr 2
            show (((as.map V.ref ++ [V.ref t]).length : Nat) : Int) - 1 = (s.corners.length : Int)
            rw [List.length_append, hlen]
            show ((s.corners.length + 1 : Nat) : Int) - 1 = _
            omega
        · rw [hlen] at t
          have c3 : 6 ≤ s.corners.length := by
            have := of_decide_eq_false t
            omega
          exact kR (-5) (Sail.st_c2 no c3)
      · have c2 : ¬ (y : Int) ≤ 60 := of_decide_eq_false t
        exact fun H' d s1 hd => R1 H' d s1 hd (by omega)
    · refine if_false_of (decide_eq_false c1) ?_
      refine ⟨_, rfl, false, _, rfl, (fun t => nomatch t), fun t => ?_⟩
      exact fun H' d s1 hd => R1 H' d s1 hd (by omega)
end
end Cloth

namespace Cloth
open PySem PySem.Spec PyProof.Rows L2
open PySem.W (Codec)
open Sail (Ok Sz Small Good)
section
variable {P : Program} {w : World} {K : PySem.W.Frag} {mg : Str → Option Value} {base : Heap} {f f1 f2 f3 f4 C CR CW fI : Addr}
theorem scArea : FnScope ["holder", "numbers"] ["holder", "numbers"] (defScope (top 30)) := ⟨rfl, rfl, rfl, by decide +kernel, rfl, by decide +kernel, by decide +kernel⟩
theorem HolderAt.put {H : Hp} {h l p : Addr} {s : Uw31.Sail} {o : HO} (hp : H p = none) (g : HolderAt K C H h l s) : HolderAt K C (upd H p o) h l s := by
  obtain ⟨dx, a, b⟩ := g
  exact ⟨dx, Same.new hp _ _ a, b.same (Same.new hp)⟩
theorem HolderAt.same {H H' : Hp} {h l : Addr} {s : Uw31.Sail} (e : Same H H') (g : HolderAt K C H h l s) : HolderAt K C H' h l s := by
  obtain ⟨dx, a, b⟩ := g
  exact ⟨dx, e _ _ a, b.same e⟩
theorem has_area (W : HTxt K mg C fI) (D : Dfn K mg "area" 30 f ["holder", "numbers"]) (G1 : Has P w K mg base (L2.CX P w) 3 "ask" f1 ["holds", "number"] (spAsk CR)) (G2 : Has P w K mg base CX0 2 "is_one" f2 ["corners"] (spIsOne K))
    (G3 : Has P w K mg base CX0 2 "twice_area" f3 ["corners"] (spTwice K)) : Has P w K mg base (L2.CX P w) 11 "area" f ["holder", "numbers"] (spDeed K C CR 2) := by
  obtain ⟨fd, F, g, b⟩ := D
  obtain ⟨fd1, g1, k1, b1, G1⟩ := G1
  obtain ⟨fd2, g2, k2, b2, G2⟩ := G2
  obtain ⟨fd3, g3, k3, b3, G3⟩ := G3
  refine ⟨fd, g, F.kp, b, F.okX (k := 10) scArea (fun vs H Q E h => ?_) (fun cdv A outer s H vs Q E hr h => ?_)⟩
  · obtain ⟨h, a, l, s, ns, c, rfl, _⟩ := h
    rfl
  · have hr3 : Room 3 _ := hr.mono (by decide)
    have hr2 : Room 2 _ := hr.mono (by decide)
    refine ⟨_, pss_cons (ps_expr (pe_call (E := E) G1 hr3 rfl g1 k1 b1 .nil (passes_call (takes_of rfl rfl rfl rfl) (fun _ _ _ _ h => h)) (pa_cons (pe_call G2 hr2 rfl g2 k2 b2 .nil pass0 (pa_cons (pe_fld (pv 0) rfl) pa_nil)) (pa_cons (pe_un un_neg pe_int) pa_nil))))
      (pss_one (ps_ret (pe_lst (pa_cons (pe_call G3 hr2 rfl g3 k3 b3 .nil pass0 (pa_cons (pe_fld (pv 0) rfl) pa_nil)) pa_nil)))), ?_⟩
    obtain ⟨h, a, l, s, ns, c, rfl, hH, gd, ha, hc, kR, kD⟩ := h
    obtain ⟨rfl, rfl⟩ := Sail.call_2 hc
    obtain ⟨dx, hh, hl⟩ := id hH
    refine ⟨_, rfl, h, C, dx, _, _, rfl, hh, W.cl, W.nC, hF_corners _ _, l, s, rfl, hl, gd.small, gd.n, _, rfl, _, _, rfl, fun t => ?_, fun t => ?_⟩
    · have no : ¬ s.fine = false := by rw [t]; decide
      rw [Sail.st_a2 no] at kD
      refine ⟨_, rfl, h, C, dx, _, _, rfl, hh, W.cl, W.nC, hF_corners _ _, l, s.corners, rfl, hl, gd.small, gd.n, Sail.fine_len t, fun H1 s1 => ⟨small_line (by show 1 ≤ 16777216; decide), fun p hp => ?_⟩⟩
      refine kD _ l p (fun b u hb _ _ => Same.put s1 (s1.free hp) b u hb) ((hH.same s1).put hp) (.inl rfl) (s1.free hp) ?_
      rw [upd_same]
      show some (HO.lst [V.int _]) = some (HO.lst [V.int _])
      rw [Sail.twice_is (Sail.fine_ne t)]
      rfl
    · exact kR (-6) (Sail.st_a1 t)
theorem scPan : FnScope ["holder", "numbers", "way", "o", "lengths", "found", "length"] ["holder", "numbers"] (defScope (top 31)) := ⟨rfl, rfl, rfl, by decide +kernel, rfl, by decide +kernel, by decide +kernel⟩
theorem both_q (q : Uw31.Q) : (Uw31.both q).map V.int = qV q := rfl
/-- the numbers answered behind i lengths -/
def panTo (s : Uw31.Sail) (w o i : Nat) : List Int := ((s.panels w o).length : Int) :: (Uw31.both (s.cloth w o) ++ ((s.panels w o).take i).flatMap Uw31.both)
theorem panTo_more {s : Uw31.Sail} {w o i : Nat} {q : Uw31.Q} (h : (s.panels w o)[i]? = some q) : (panTo s w o i).map V.int ++ qV q = (panTo s w o (i + 1)).map V.int := by
  unfold panTo
  rw [take_get h, List.flatMap_append, ← both_q, ← List.map_append, List.cons_append, List.append_assoc]
  simp
theorem panTo_len (s : Uw31.Sail) (w o i : Nat) : (panTo s w o i).length ≤ 3 + 2 * i := by
  unfold panTo
  rw [List.length_cons, List.length_append, List.length_flatMap]
  have : ∀ l : List Uw31.Q, (l.map fun q => (Uw31.both q).length).sum = 2 * l.length := fun l => by
    induction l with
    | nil => rfl
    | cons a r ih =>
      rw [List.map_cons, List.sum_cons, ih, List.length_cons]
      show 2 + _ = _
      omega
  rw [this, List.length_take]
  show 2 + _ + 1 ≤ _
  omega
theorem has_pan (T : Bt mg) (W : HTxt K mg C fI) (D : Dfn K mg "panels" 31 f ["holder", "numbers"]) (G1 : Has P w K mg base (L2.CX P w) 3 "ask" f1 ["holds", "number"] (spAsk CR)) (G2 : Has P w K mg base CX0 2 "is_one" f2 ["corners"] (spIsOne K))
    (G3 : Has P w K mg base CX0 6 "panels_of" f3 ["corners", "wide", "way", "o"] (spPanels K)) (G4 : Has P w K mg base CX0 4 "total" f4 ["some"] (spTotal K)) : Has P w K mg base (L2.CX P w) 11 "panels" f ["holder", "numbers"] (spDeed K C CR 3) := by
  obtain ⟨fd, F, g, b⟩ := D
  obtain ⟨fd1, g1, k1, b1, G1⟩ := G1
  obtain ⟨fd2, g2, k2, b2, G2⟩ := G2
  obtain ⟨fd3, g3, k3, b3, G3⟩ := G3
  obtain ⟨fd4, g4, k4, b4, G4⟩ := G4
  refine ⟨fd, g, F.kp, b, F.okX (k := 10) scPan (fun vs H Q E h => ?_) (fun cdv A outer s H vs Q E hr h => ?_)⟩
  · obtain ⟨h, a, l, s, ns, c, rfl, _⟩ := h
    rfl
  · have hr3 : Room 3 _ := hr.mono (by decide)
    have hr2 : Room 2 _ := hr.mono (by decide)
    have hr4 : Room 4 _ := hr.mono (by decide)
    have hr6 : Room 6 _ := hr.mono (by decide)
    refine ⟨_, pss_cons (ps_asg (pv 1) (pg_unl rfl (pgs_cons (pg_name (i := 2) scPan.nd rfl (Or.inl rfl)) (pgs_cons (pg_name (i := 3) scPan.nd rfl (Or.inl rfl)) pgs_nil))))
      (pss_cons (ps_expr (pe_call (E := E) G1 hr3 rfl g1 k1 b1 .nil (passes_call (takes_of rfl rfl rfl rfl) (fun _ _ _ _ h => h)) (pa_cons (pe_and (pe_cmpR op_le (pv 2) pe_int (nomark _)) (pe_one (pe_cmpR op_lt (pv 3) (pe_fld (pv 0) rfl) (nomark _)))) (pa_cons (pe_un un_neg pe_int) pa_nil))))
      (pss_cons (ps_expr (pe_call (E := E) G1 hr3 rfl g1 k1 b1 .nil (passes_call (takes_of rfl rfl rfl rfl) (fun _ _ _ _ h => h)) (pa_cons (pe_call G2 hr2 rfl g2 k2 b2 .nil pass0 (pa_cons (pe_fld (pv 0) rfl) pa_nil)) (pa_cons (pe_un un_neg pe_int) pa_nil))))
      (pss_cons (ps_set (i := 4) scPan.nd rfl (Or.inl rfl) (pe_call G3 hr6 rfl g3 k3 b3 .nil pass0 (pa_cons (pe_fld (pv 0) rfl) (pa_cons (pe_fld (pv 0) rfl) (pa_cons (pv 2) (pa_cons (pv 3) pa_nil))))))
      (pss_cons (ps_set (i := 5) scPan.nd rfl (Or.inl rfl) (pe_op op_cat (pe_lst (pa_cons (pe_callB call_len_seq (by rfl) T.len PySem.boot_len (pa_cons (pv 4) pa_nil)) pa_nil)) (pe_callTy call_list_of (by rfl) T.list (by decide +kernel) (pa_cons (pe_call G4 hr4 rfl g4 k4 b4 .nil pass0 (pa_cons (pv 4) pa_nil)) pa_nil))))
      (pss_cons (ps_for (passes_of rfl) rfl (pi_list (pv 4)) (pg_name (i := 6) scPan.nd rfl (Or.inl rfl)) (pss_one (ps_set (i := 5) scPan.nd rfl (Or.inl rfl) (pe_op op_cat (pv 5) (pe_callTy call_list_of (by rfl) T.list (by decide +kernel) (pa_cons (pv 6) pa_nil))))))
      (pss_one (ps_ret (pv 5)))))))), ?_⟩
    obtain ⟨h, a, l, s, ns, c, rfl, hH, gd, ha, hc, kR, kD⟩ := h
    obtain ⟨x, y, rfl, rfl⟩ := Sail.call_3 hc
    obtain ⟨dx, hh, hl⟩ := id hH
    have hn := gd.n
    refine ⟨_, rfl, a, _, rfl, SqL.of ha, rfl, _, _, rfl, _, _, rfl, rfl, ?_⟩
    have R1 : ∀ H' d, Same H H' → H' d = some (.xd [("number", .int (-1))]) → (1 < x ∨ s.width ≤ y) → E (.ref CR) (some d) H' := fun H' d s1 hd z => kR (-1) (Sail.st_p1 z) H' d s1 hd
    refine ⟨_, rfl, _, _, rfl, rfl, _, rfl, ?_⟩
    by_cases c1 : (x : Int) ≤ 1
    · refine if_true_of (decide_eq_true c1) ?_
      refine ⟨_, rfl, _, rfl, h, C, dx, _, _, rfl, hh, W.cl, W.nW, hF_wide _ _, _, _, rfl, rfl, _, rfl, _, _, rfl, fun t => ?_, fun t => ?_⟩
      · have c2 : (y : Int) < (s.width : Int) := of_decide_eq_true t
        have no : ¬ (1 < x ∨ s.width ≤ y) := by omega
        refine ⟨_, rfl, h, C, dx, _, _, rfl, hh, W.cl, W.nC, hF_corners _ _, l, s, rfl, hl, gd.small, gd.n, _, rfl, _, _, rfl, fun t => ?_, fun t => ?_⟩
        · have nf : ¬ s.fine = false := by rw [t]; decide
          rw [Sail.st_p3 no nf] at kD
          have ne := Sail.fine_ne t
          have hy : y < s.width := by omega
          refine ⟨_, rfl, h, C, dx, _, _, rfl, hh, W.cl, W.nC, hF_corners _ _, _, rfl, h, C, dx, _, _, rfl, hh, W.cl, W.nW, hF_wide _ _, _, rfl, _, rfl, l, s, x, y, rfl, hl, gd, ne, by omega, hy, fun H1 L s1 hL => ?_⟩
          obtain ⟨as, hLL, hT⟩ := id hL
          have lenL : (as.map V.ref).length = (s.panels x y).length := by rw [List.length_map, hT.1, List.length_map]
          have p72 := Sail.panels_len (w := x) gd ne hy
          have goodP := Sail.panels_good (w := x) gd ne hy
          refine ⟨_, rfl, L, _, rfl, .inl (SqL.of hLL), small_line (by show 1 ≤ 16777216; decide), fun p1 hp1 => ?_⟩
          have s2 : Same H1 (upd H1 p1 (.lst [.int ((as.map V.ref).length : Nat)])) := Same.new hp1
          refine ⟨_, rfl, L, _, rfl, hL.same s2, goodP, by omega, fun H2 t0 s3 ht0 => ?_⟩
          refine ⟨t0, _, rfl, .inr ht0, fun p2 hp2 => ?_⟩
          have e1 := s3 _ _ (upd_same (H := H1) (a := p1))
          have s4 : Same H2 (upd H2 p2 (.lst (qV (Uw31.sum (s.panels x y))))) := Same.new hp2
          refine ⟨p1, p2, _, _, rfl, rfl, s4 _ _ e1, upd_same, small_line (by show 1 + 2 ≤ 16777216; decide), fun p3 hp3 => ?_⟩
          have s13 : Same H (upd (upd H2 p2 (.lst (qV (Uw31.sum (s.panels x y))))) p3 (.lst ([.int ((as.map V.ref).length : Nat)] ++ qV (Uw31.sum (s.panels x y))))) :=
            Same.trans s1 (Same.trans s2 (Same.trans s3 (Same.trans s4 (Same.new hp3))))
          have sL : Same H1 (upd (upd H2 p2 (.lst (qV (Uw31.sum (s.panels x y))))) p3 (.lst ([.int ((as.map V.ref).length : Nat)] ++ qV (Uw31.sum (s.panels x y))))) :=
            Same.trans s2 (Same.trans s3 (Same.trans s4 (Same.new hp3)))
          have f3 : H p3 = none := (Same.trans s1 (Same.trans s2 (Same.trans s3 s4))).free hp3
          refine ⟨_, rfl, L, rfl, ⟨_, SqL.of (sL _ _ hLL)⟩, for_list (K := K) (a := L) (xs := as.map V.ref) (fun i σ H' => ∃ (r : Addr) (v : Option V), σ = [some (.ref h), some (.ref a), some (.int x), some (.int y), some (.ref L), some (.ref r), v] ∧ Same H H' ∧ Same H1 H' ∧ H r = none ∧ H' r = some (.lst ((panTo s x y i).map V.int)))
            ⟨p3, none, rfl, s13, sL, f3, ?_⟩ (fun i σ H' _ ⟨_, _, _, _, s5, _⟩ => s5.seq (SqL.of hLL)) ?_ ?_⟩
          · rw [upd_same, lenL]
            rfl
          · rintro i z σ H' hz ⟨r, v, rfl, s5, s6, hr0, hr1⟩
            obtain ⟨t2, vs2, rfl, _, e2, h2⟩ := hT.of_addr hz
            obtain ⟨q, hq, rfl⟩ := map_of e2
            have hi : i < (s.panels x y).length := (List.getElem?_eq_some_iff.mp hq).1
            refine ⟨_, rfl, _, rfl, t2, _, rfl, .inr (Same.tup s6 h2), fun p4 hp4 => ?_⟩
            have nr : r ≠ p4 := ne_of_none hr1 hp4
            refine ⟨r, p4, _, _, rfl, rfl, (upd_ne nr).trans hr1, upd_same, ?_, fun p5 hp5 => ?_⟩
            · rw [List.length_map]
              have := panTo_len s x y i
              exact small_line (by show _ + 2 ≤ _; omega)
            have f4 : H p5 = none := (Same.trans s5 (Same.new hp4)).free hp5
            refine ⟨p5, _, rfl, Same.trans s5 (Same.trans (Same.new hp4) (Same.new hp5)), Same.trans s6 (Same.trans (Same.new hp4) (Same.new hp5)), f4, ?_⟩
            rw [upd_same, panTo_more hq]
          · rintro σ H' ⟨r, v, rfl, s5, s6, hr0, hr1⟩
            rw [lenL] at hr1
            refine ⟨_, rfl, kD H' l r (fun b u hb _ _ => s5 b u hb) (hH.same s5) (.inl rfl) hr0 ?_⟩
            rw [hr1]
            unfold panTo
            rw [List.take_length]
            rfl
        · exact kR (-6) (Sail.st_p2 no t)
      · have c2 : ¬ (y : Int) < (s.width : Int) := of_decide_eq_false t
        exact fun H' d s1 hd => R1 H' d s1 hd (by omega)
    · refine if_false_of (decide_eq_false c1) ?_
      refine ⟨_, rfl, false, _, rfl, (fun t => nomatch t), fun t => ?_⟩
      exact fun H' d s1 hd => R1 H' d s1 hd (by omega)
theorem scBe : FnScope ["holder", "numbers", "found"] ["holder", "numbers"] (defScope (top 32)) := ⟨rfl, rfl, rfl, by decide +kernel, rfl, by decide +kernel, by decide +kernel⟩
theorem has_be (T : Bt mg) (W : HTxt K mg C fI) {fW : Addr} (Y : WayTxt K mg CW fW) (D : Dfn K mg "best" 32 f ["holder", "numbers"]) (G1 : Has P w K mg base (L2.CX P w) 3 "ask" f1 ["holds", "number"] (spAsk CR)) (G2 : Has P w K mg base CX0 2 "is_one" f2 ["corners"] (spIsOne K))
    (G3 : Has P w K mg base CX0 9 "best_ways" f3 ["corners", "wide"] (spBest K CW)) : Has P w K mg base (L2.CX P w) 11 "best" f ["holder", "numbers"] (spDeed K C CR 4) := by
  obtain ⟨fd, F, g, b⟩ := D
  obtain ⟨fd1, g1, k1, b1, G1⟩ := G1
  obtain ⟨fd2, g2, k2, b2, G2⟩ := G2
  obtain ⟨fd3, g3, k3, b3, G3⟩ := G3
  refine ⟨fd, g, F.kp, b, F.okX (k := 10) scBe (fun vs H Q E h => ?_) (fun cdv A outer s H vs Q E hr h => ?_)⟩
  · obtain ⟨h, a, l, s, ns, c, rfl, _⟩ := h
    rfl
  · have hr3 : Room 3 _ := hr.mono (by decide)
    have hr2 : Room 2 _ := hr.mono (by decide)
    have hr9 : Room 9 _ := hr.mono (by decide)
    refine ⟨_, pss_cons (ps_expr (pe_call (E := E) G1 hr3 rfl g1 k1 b1 .nil (passes_call (takes_of rfl rfl rfl rfl) (fun _ _ _ _ h => h)) (pa_cons (pe_call G2 hr2 rfl g2 k2 b2 .nil pass0 (pa_cons (pe_fld (pv 0) rfl) pa_nil)) (pa_cons (pe_un un_neg pe_int) pa_nil))))
      (pss_cons (ps_set (i := 2) scBe.nd rfl (Or.inl rfl) (pe_call G3 hr9 rfl g3 k3 b3 .nil pass0 (pa_cons (pe_fld (pv 0) rfl) (pa_cons (pe_fld (pv 0) rfl) pa_nil))))
      (pss_one (ps_ret (pe_op op_cat (pe_op op_cat (pe_lst (pa_cons (pe_fld (pe_ix ix_list (pv 2) pe_int (fun _ _ => rfl)) rfl) pa_nil)) (pe_callTy call_list_of (by rfl) T.list (by decide +kernel) (pa_cons (pe_fld (pe_ix ix_list (pv 2) pe_int (fun _ _ => rfl)) rfl) pa_nil)))
        (pe_lst (pa_cons (pe_callB call_len_seq (by rfl) T.len PySem.boot_len (pa_cons (pv 2) pa_nil)) (pa_cons (pe_fld (pe_ix ix_list (pv 2) pe_int (fun _ _ => rfl)) rfl) (pa_cons (pe_fld (pe_ix ix_list (pv 2) pe_int (fun _ _ => rfl)) rfl) pa_nil)))))))), ?_⟩
    obtain ⟨h, a, l, s, ns, c, rfl, hH, gd, ha, hc, kR, kD⟩ := h
    obtain ⟨rfl, rfl⟩ := Sail.call_4 hc
    obtain ⟨dx, hh, hl⟩ := id hH
    refine ⟨_, rfl, h, C, dx, _, _, rfl, hh, W.cl, W.nC, hF_corners _ _, l, s, rfl, hl, gd.small, gd.n, _, rfl, _, _, rfl, fun t => ?_, fun t => ?_⟩
    · have no : ¬ s.fine = false := by rw [t]; decide
      obtain ⟨b', hb'⟩ := Sail.best_some gd.w1
      rw [Sail.st_e2 no hb'] at kD
      refine ⟨_, rfl, h, C, dx, _, _, rfl, hh, W.cl, W.nC, hF_corners _ _, _, rfl, h, C, dx, _, _, rfl, hh, W.cl, W.nW, hF_wide _ _, l, s, rfl, hl, gd, Sail.fine_ne t, fun H1 r s1 hF hM => ?_⟩
      rcases hF with ⟨e, _⟩ | ⟨y, a0, rest, x, e, hr1, ⟨da, ta, ha1, ca⟩, sy, ox, zx⟩
      · rw [hb'] at e
        cases e
      rw [hb'] at e
      have ey : b' = y := Option.some.inj e
      subst ey
      have hrest : rest.length + 1 ≤ 24 := hM _ hr1
      refine ⟨_, rfl, r, _, _, .ref a0, rfl, rfl, SqL.of hr1, atI_nat (j := 0) rfl, a0, CW, da, _, _, rfl, ha1, Y.cl, Y.nP, wF_panels _ _, small_line (by show 1 ≤ 16777216; decide), fun p1 hp1 => ?_⟩
      have s2 : Same H1 (upd H1 p1 (.lst [.int x.panels])) := Same.new hp1
      refine ⟨_, rfl, r, _, _, .ref a0, rfl, rfl, SqL.of (s2 _ _ hr1), atI_nat (j := 0) rfl, a0, CW, da, _, _, rfl, s2 _ _ ha1, Y.cl, Y.nC, wF_cloth _ _, ta, _, rfl, .inr (Same.tup s2 ca), fun p2 hp2 => ?_⟩
      have s3 : Same (upd H1 p1 (.lst [.int x.panels])) (upd (upd H1 p1 (.lst [.int x.panels])) p2 (.lst (qV x.cloth))) := Same.new hp2
      refine ⟨p1, p2, _, _, rfl, rfl, s3 _ _ upd_same, upd_same, small_line (by show 1 + 2 ≤ 16777216; decide), fun p3 hp3 => ?_⟩
      have s4 := Same.new (o := HO.lst ([V.int x.panels] ++ qV x.cloth)) hp3
      have s14 := Same.trans s2 (Same.trans s3 s4)
      refine ⟨_, rfl, r, _, rfl, .inl (SqL.of (s14 _ _ hr1)), ?_⟩
      refine ⟨_, rfl, r, _, _, .ref a0, rfl, rfl, SqL.of (s14 _ _ hr1), atI_nat (j := 0) rfl, a0, CW, da, _, _, rfl, s14 _ _ ha1, Y.cl, Y.nW, wF_way _ _, ?_⟩
      refine ⟨_, rfl, r, _, _, .ref a0, rfl, rfl, SqL.of (s14 _ _ hr1), atI_nat (j := 0) rfl, a0, CW, da, _, _, rfl, s14 _ _ ha1, Y.cl, Y.nO, wF_o _ _, ?_⟩
      refine ⟨small_line (by show 3 ≤ 16777216; decide), fun p4 hp4 => ?_⟩
      have s5 := Same.new (o := HO.lst [V.int ((V.ref a0 :: rest).length : Nat), .int x.way, .int x.o]) hp4
      refine ⟨p3, p4, _, _, rfl, rfl, s5 _ _ upd_same, upd_same, small_line (by show 3 + 3 ≤ 16777216; decide), fun p5 hp5 => ?_⟩
      have s6 := Same.new (o := HO.lst ([V.int x.panels] ++ qV x.cloth ++ [V.int ((V.ref a0 :: rest).length : Nat), .int x.way, .int x.o])) hp5
      have sall := Same.trans s1 (Same.trans s14 (Same.trans s5 s6))
      have f5 : H p5 = none := (Same.trans s1 (Same.trans s14 s5)).free hp5
      refine kD _ l p5 (fun b u hb _ _ => sall b u hb) (hH.same sall) (.inl rfl) f5 ?_
      rw [upd_same]
      show some (HO.lst [V.int (x.panels : Nat), V.int x.cloth.n, V.int (x.cloth.d : Nat), V.int ((V.ref a0 :: rest).length : Nat), V.int (x.way : Nat), V.int (x.o : Nat)]) = some (HO.lst [V.int (b'.panels : Nat), V.int b'.cloth.n, V.int (b'.cloth.d : Nat), V.int (b'.many : Nat), V.int (b'.way : Nat), V.int (b'.first : Nat)])
      rw [sy.panels, sy.cloth, sy.many, sy.way, sy.first]
      rfl
    · exact kR (-6) (Sail.st_e1 t)
end
end Cloth

namespace Cloth
open PySem PySem.Spec PyProof.Rows L2
open PySem.W (Codec)
open Sail (Ok Sz Small Good)
section
variable {P : Program} {w : World} {K : PySem.W.Frag} {mg : Str → Option Value} {base : Heap} {f f1 f2 f3 f4 C CR CW fI : Addr}
/-! ### answer -/
/-- the deeds by their numbers -/
def Deeds (K : PySem.W.Frag) (mg : Str → Option Value) (ds : List Addr) : Prop := ∃ t, mg "DEEDS" = some (.ref t) ∧ ds.length = 5 ∧ ∀ H, SqT K H t (ds.map V.ref)
def deedSp (K : PySem.W.Frag) (C CR : Addr) (ds : List Addr) (f : Addr) (sp : Sp) : Prop := ∃ i, ds[i]? = some f ∧ sp = spDeed K C CR i
def spAnswer (K : PySem.W.Frag) (C : Addr) : Sp := fun vs H Q _ => ∃ (h a l : Addr) (s : Uw31.Sail) (i : Nat) (ns : List Nat) (c : Uw31.Call), vs = [.ref h, .int i, .ref a] ∧ HolderAt K C H h l s ∧ Good s ∧ H a = some (.lst (ns.map fun n : Nat => V.int n)) ∧ Uw31Neutral.callIn (i :: ns) = some c ∧
  (∀ H' l' p, (∀ b u, H b = some u → b ≠ h → b ≠ l → H' b = some u) → HolderAt K C H' h l' (Uw31.step s c).1 → (l' = l ∨ H l' = none) → H p = none → H' p = some (.lst ((Uw31Neutral.out (Uw31.step s c).2).map V.int)) → Q (.ref p) H')
theorem scAnswer : FnScope ["holder", "number", "numbers", "deed", "found", "refused"] ["holder", "number", "numbers"] (defScope (top 36)) := ⟨rfl, rfl, rfl, by decide +kernel, rfl, by decide +kernel, by decide +kernel⟩
theorem has_answer (R : RefTxt K mg CR fI) {ds : List Addr} (Y : Deeds K mg ds) (A : ∀ f sp, deedSp K C CR ds f sp → HeldX P w K mg base 11 f sp) (D : Dfn K mg "answer" 36 f ["holder", "number", "numbers"]) :
    Has P w K mg base CX0 12 "answer" f ["holder", "number", "numbers"] (spAnswer K C) := by
  obtain ⟨fd, F, g, b⟩ := D
  obtain ⟨td, gD, d5, hD⟩ := Y
  refine ⟨fd, g, F.kp, b, F.ok scAnswer (fun vs H Q E h => ?_) (fun cdv A' outer s H vs Q E hr h => ?_)⟩
  · obtain ⟨h, a, l, s, i, ns, c, rfl, _⟩ := h
    rfl
  · refine ⟨_, pss_cons (ps_set (i := 3) scAnswer.nd rfl (Or.inl rfl) (pe_ix ix_tup (pe_glob (v := .ref td) rfl gD rfl) (pv 1) (fun _ _ => rfl)))
      (pss_cons (ps_try_as (i := 5) (tb := fun W => tAsg (tCallLS 3 (deedSp K C CR ds) (WE W) (tCons (tVar 0) (tCons (tVar 2) tNil))) (gName 4)) (ts := fun a cls d => tRet (tLst (tCons (tXf a cls d CR "number" (tVar 5)) tNil))) (Wout := fun _ _ _ _ => False) rfl rfl scAnswer.nd rfl rfl ⟨rfl, by decide, Or.inl R.gC⟩ takes0
        (fun W pn xe tk _ => pss_one (ps_set (i := 4) scAnswer.nd rfl (Or.inl rfl) (by exact (pe_callLS A hr rfl (Or.inl rfl) (fun σ => passAt tk σ) (by exact (pa_cons (pv 0) (pa_cons (pv 2) pa_nil)))))))
        (fun a oe cls d pn hz hf => pss_one (ps_ret (pe_lst (pa_cons (by exact (pe_xf R.xf R.nN hz hf (pv 5))) pa_nil)))))
      (pss_one (ps_ret (pv 4)))), ?_⟩
    obtain ⟨h, a, l, s, i, ns, c, rfl, hH, gd, ha, hc, q⟩ := h
    have hi := Sail.call_lt hc
    have e1 : ds[i]? = some ds[i] := List.getElem?_eq_getElem (by omega)
    refine ⟨_, rfl, td, _, _, .ref ds[i], rfl, rfl, hD H, atI_nat (map_get e1), ?_⟩
    refine ⟨ds[i], _, rfl, ⟨i, e1, rfl⟩, _, rfl, _, rfl, h, a, l, s, ns, c, rfl, hH, gd, ha, hc, fun k ek H' d s1 hd => ?_, fun H' l' p fr hH' hl' hp hP => ?_⟩
    · refine ⟨true, R.te, fun _ a0 ha0 => ?_, fun z => nomatch z⟩
      refine ⟨_, rfl, rfl, rfl, d, _, _, rfl, hd, lk_here, small_line (by show 1 ≤ 16777216; decide), fun p hp => ?_⟩
      refine q _ l p (fun b u hb _ _ => Same.put s1 (s1.free hp) b u hb) ?_ (.inl rfl) (s1.free hp) ?_
      · rw [ek]
        exact (hH.same s1).put hp
      · rw [ek]
        exact upd_same
    · exact ⟨_, rfl, q H' l' p fr hH' hl' hp hP⟩
/-! ### answers -/
def Numbers (K : PySem.W.Frag) (mg : Str → Option Value) : Prop := ∃ t, mg "NUMBERS" = some (.ref t) ∧ ∀ H, SqT K H t (([1, 2, 0, 2, 0] : List Int).map V.int)
def spAnswers (K : PySem.W.Frag) : Sp := fun vs H Q _ => ∃ (a : Addr) (ns : List Int), vs = [.ref a] ∧ SqL K H a (ns.map V.int) ∧ PyUw31.answers_asked ns = true ∧ ns.length ≤ 400 ∧ ∀ (H' : Hp) (p : Addr), H' p = some (.lst ((PyUw31.answers ns).map V.int)) → Q (.ref p) H'
theorem scAnswers : FnScope ["calls", "holder", "found", "at", "number", "behind", "one"] ["calls"] (defScope (top 37)) := ⟨rfl, rfl, rfl, by decide +kernel, rfl, by decide +kernel, by decide +kernel⟩
theorem cut_is (ns : List Int) (i n : Nat) (h : i + 1 + n ≤ ns.length) : cutV (ns.map V.int) (some ((i + 1 : Nat) : Int)) (some ((i + 1 + n : Nat) : Int)) = ((ns.drop (i + 1)).take n).map V.int := by
  unfold cutV
  rw [HT.sIx_nat, HT.sIx_nat, List.length_map, Nat.min_eq_left h, Nat.min_eq_left (by omega), List.map_take, List.map_drop]
  congr 1
  omega
theorem ok_answers {fd : FuncData} (T : Bt mg) (W : HTxt K mg C fI) (N : Numbers K mg) (F : Fun K "answers" "answers" (top 37) f fd) (G1 : ∃ fd, Binds K fd ["self"] [] ∧ FnOk P w K mg base CX0 1 fI fd ["self"] (spHolder K C))
    (G2 : Has P w K mg base CX0 12 "answer" f2 ["holder", "number", "numbers"] (spAnswer K C)) : FnOk P w K mg base CX0 13 f fd ["calls"] (spAnswers K) := by
  obtain ⟨fd1, b1, G1⟩ := G1
  obtain ⟨fd2, g2, k2, b2, G2⟩ := G2
  obtain ⟨tn, gN, hN⟩ := N
  refine F.ok scAnswers (fun vs H Q E h => ?_) (fun cdv A outer s H vs Q E hr h => ?_)
  · obtain ⟨a, ns, rfl, _⟩ := h
    rfl
  · have hr2 : Room 2 _ := hr.mono (by decide)
    refine ⟨_, pss_cons (ps_set (i := 1) scAnswers.nd rfl (Or.inl rfl) (pe_make0 W.mkC G1 hr2 rfl W.gC b1 .nil pass0))
      (pss_cons (ps_set (i := 2) scAnswers.nd rfl (Or.inl rfl) (pe_lst pa_nil))
      (pss_cons (ps_set (i := 3) scAnswers.nd rfl (Or.inl rfl) pe_int)
      (pss_cons (ps_while PassesOwn.never (pt_cmpR op_lt (pv 3) (pe_callB call_len_seq (by rfl) T.len PySem.boot_len (pa_cons (pv 0) pa_nil)) (nomark _))
        (pss_cons (ps_set (i := 4) scAnswers.nd rfl (Or.inl rfl) (pe_ix ix_list (pv 0) (pv 3) (fun _ _ => rfl)))
        (pss_cons (ps_set (i := 5) scAnswers.nd rfl (Or.inl rfl) (pe_op op_add (pe_op op_add (pv 3) pe_int) (pe_ix ix_tup (pe_glob (v := .ref tn) rfl gN rfl) (pv 4) (fun _ _ => rfl))))
        (pss_cons (ps_set (i := 6) scAnswers.nd rfl (Or.inl rfl) (pe_call G2 hr rfl g2 k2 b2 .nil pass0 (pa_cons (pv 1) (pa_cons (pv 4) (pa_cons (pe_slice sl_list (pv 0) (po_some (pe_op op_add (pv 3) pe_int)) (po_some (pv 5))) pa_nil)))))
        (pss_cons (ps_expr (pe_bm PySem.F.plainAttrs_list PySem.F.slot_list_append PySem.F.type_list_append mt_append (pv 2) (pa_cons (pe_callB call_len_seq (by rfl) T.len PySem.boot_len (pa_cons (pv 6) pa_nil)) pa_nil)))
        (pss_cons (ps_expr (pe_bm PySem.F.plainAttrs_list PySem.F.slot_list_extend PySem.F.type_list_extend mt_extend (pv 2) (pa_cons (pv 6) pa_nil)))
        (pss_one (ps_set (i := 3) scAnswers.nd rfl (Or.inl rfl) (pv 5)))))))))
      (pss_one (ps_ret (pv 2)))))), ?_⟩
    obtain ⟨a, ns, rfl, hS, hask, h400, q⟩ := h
    obtain ⟨cs0, hc0, ask0, eq0, ln0⟩ := Sail.setup hask
    intro x dx nx nd ndx
    refine ⟨x, dx, rfl, upd_same, fun H1 l kp hH1 hl1 => ⟨rfl, ?_⟩⟩
    have s1 : Same H H1 := Same.made nx nd kp
    have hl0 : H l = none := by
      cases e : H l with
      | none => rfl
      | some u =>
        rw [upd_ne (ne_of_none e nx), upd_ne (ne_of_none e nd), e] at hl1
        cases hl1
    refine ⟨small_line (by show 0 ≤ 16777216; decide), fun R hR => ?_⟩
    have hR0 : H R = none := s1.free hR
    have nlR : l ≠ R := by
      obtain ⟨_, _, as, h2, _⟩ := hH1
      exact ne_of_none h2 hR
    refine while_by (fun σ H' => ∃ (i fu : Nat) (st : Uw31.Sail) (l' : Addr) (cs : List (List (List Int))) (fnd : List Int) (v4 v5 v6 : Option V), σ = [some (.ref a), some (.ref x), some (.ref R), some (.int i), v4, v5, v6] ∧ i ≤ ns.length ∧ Same H H' ∧ H l' = none ∧ l' ≠ R ∧
        HolderAt K C H' x l' st ∧ Good st ∧ H' R = some (.lst (fnd.map V.int)) ∧ PyFlat.calls PyUw31.shape fu (ns.drop i) = some cs ∧ (∀ c ∈ cs, Uw31Neutral.asked1 (c.headD []) = true) ∧ PyUw31.answers ns = fnd ++ Sail.rest st cs)
      (fun σ _ => ((ns.length : Int) - slotZ σ 3).toNat)
      ⟨0, ns.length, Uw31.init, l, cs0, [], none, none, none, rfl, Nat.zero_le _, Same.put s1 hR0, hl0, nlR, hH1.put hR, Sail.init_good, upd_same, hc0, ask0, eq0⟩ ?_
      (fun σ H Q Q' h ⟨v, e, v2, e2, p, ys, ep, hs, i, j, ei, ej, k, ek, q⟩ => ⟨v, e, v2, e2, p, ys, ep, hs, i, j, ei, ej, k, ek, h _ _ q⟩)
    rintro σ H' ⟨i, fu, st, l', cs, fnd, v4, v5, v6, rfl, hi, s5, hl5, nl5, hH, gd, hF, hcs, hak, heq⟩
    have hS5 := s5.seq hS
    refine ⟨_, rfl, _, rfl, a, _, rfl, .inl hS5, _, _, rfl, rfl, _, rfl, ?_⟩
    rw [List.length_map]
    by_cases c : (i : Int) < (ns.length : Int)
    · refine if_true_of (decide_eq_true c) ?_
      have ci : i < ns.length := by omega
      have ed : ns.drop i = ns[i] :: ns.drop (i + 1) := List.drop_eq_getElem_cons ci
      rw [ed] at hcs
      obtain ⟨fu', n, cs', hsh, hn, rfl, hcs'⟩ := Sail.parse_step hcs
      rw [List.length_drop] at hn
      obtain ⟨_, i0, ei0, hi0, hnum⟩ := Sail.shape_of hsh
      have hask1 := hak _ List.mem_cons_self
      obtain ⟨i1, cc, ei1, hnn, hcall, hst⟩ := Sail.ask_step (p := ns[i]) (args := (ns.drop (i + 1)).take n) hask1
      have e01 : i0 = i1 := by omega
      subst e01
      have gi : (ns.map V.int)[i]? = some (V.int ns[i]) := by
        rw [List.getElem?_map, List.getElem?_eq_getElem ci]
        rfl
      have gn : ((([1, 2, 0, 2, 0] : List Int)).map V.int)[i0]? = some (V.int n) := by
        rw [List.getElem?_map, hnum]
        rfl
      refine ⟨_, rfl, _, rfl, a, _, _, .int ns[i], rfl, rfl, hS5, atI_nat gi, ?_⟩
      refine ⟨_, rfl, _, _, rfl, rfl, _, rfl, tn, _, _, .int n, rfl, rfl, hN H', at_of ei1 gn, _, _, rfl, rfl, ?_⟩
      have e5 : (i : Int) + 1 + (n : Int) = ((i + 1 + n : Nat) : Int) := by omega
      show gName 5 (.int ((i : Int) + 1 + (n : Int))) _ _ _
      rw [e5, ei1]
      refine ⟨_, rfl, _, rfl, _, rfl, _, rfl, _, _, rfl, rfl, _, rfl, _, rfl, _, rfl, a, _, rfl, hS5, fun u hu => ?_⟩
      have hcut : cutV (ns.map V.int) (some ((i : Int) + 1)) (some ((i + 1 + n : Nat) : Int)) = ((ns.drop (i + 1)).take n).map V.int := cut_is ns i n (by omega)
      have su := Same.new (o := HO.lst (cutV (ns.map V.int) (some ((i : Int) + 1)) (some ((i + 1 + n : Nat) : Int)))) hu
      have nRu : R ≠ u := ne_of_none hF hu
      refine ⟨x, u, l', st, i0, _, cc, rfl, hH.put hu, gd, ?_, hcall, fun H2 l2 p fr hH2 hl2 hp hP => ?_⟩
      · refine Eq.trans upd_same ?_
        rw [hcut]
        congr 2
        have := congrArg (List.map V.int) (Sail.nat_back hnn)
        rw [List.map_map] at this
        exact this.symm
      -- behind the call
      have nxR : R ≠ x := by
        obtain ⟨_, hx, _⟩ := hH
        exact ne_of hF hx (by intro z; cases z)
      have hR2 : H2 R = some (.lst (fnd.map V.int)) := fr R _ (su _ _ hF) nxR (Ne.symm nl5)
      have s2 : Same H H2 := fun b u' hb => fr b u' (su _ _ (s5 _ _ hb)) (ne_of_none hb nx) (ne_of_none hb hl5)
      have hl20 : H l2 = none := by
        rcases hl2 with e | e
        · rw [e]
          exact hl5
        · exact (Same.trans s5 su).free e
      have nl2 : l2 ≠ R := by
        rcases hl2 with e | e
        · rw [e]
          exact nl5
        · exact fun z => by
            rw [z, su _ _ hF] at e
            cases e
      have npR : R ≠ p := ne_of_none (su _ _ hF) hp
      rw [Sail.rest_cons, hst] at heq
      have hlen := congrArg List.length heq
      rw [List.length_append, List.length_append, List.length_cons] at hlen
      generalize hout : Uw31Neutral.out (Uw31.step st cc).2 = out at *
      change _ = fnd.length + (out.length + 1 + (Sail.rest (Uw31.step st cc).1 cs').length) at hlen
      refine ⟨_, rfl, .inl ⟨rfl, _, SqL.of hR2⟩, _, rfl, p, _, rfl, .inl (SqL.of hP), R, _, _, rfl, rfl, hR2, small_lt (by rw [List.length_map]; omega), ?_⟩
      refine ⟨_, rfl, .inl ⟨rfl, _, SqL.of upd_same⟩, _, rfl, R, p, _, out.map V.int, rfl, rfl, upd_same, (upd_ne (Ne.symm npR)).trans hP, ?_⟩
      refine ⟨small_line (by rw [List.length_append, List.length_map, List.length_map]; show _ + 1 + _ ≤ _; omega), _, rfl, ⟨i + 1 + n, fu', (Uw31.step st cc).1, l2, cs', fnd ++ ((out.length : Int) :: out), _, _, _, rfl, by omega, ?_, hl20, nl2, ?_, Sail.step_good gd cc, ?_, ?_, fun c' hc' => hak c' (List.mem_cons_of_mem _ hc'), ?_⟩, ?_⟩
      · rw [upd_upd]
        exact Same.put s2 hR0
      · rw [upd_upd]
        obtain ⟨dx2, hx2, as2, ha2, hT2⟩ := hH2
        refine ⟨dx2, ?_, as2, ?_, Ts.put hR2 hT2⟩
        · rw [upd_ne (Ne.symm nxR)]
          exact hx2
        · rw [upd_ne nl2]
          exact ha2
      · rw [upd_same, List.length_map, List.map_append, List.append_assoc]
        rfl
      · rw [List.drop_drop] at hcs'
        exact hcs'
      · rw [heq, List.append_assoc]
      · show ((ns.length : Int) - ((i + 1 + n : Nat) : Int)).toNat < ((ns.length : Int) - (i : Int)).toNat
        omega
    · refine if_false_of (decide_eq_false c) ?_
      have ei : i = ns.length := by omega
      subst ei
      rw [List.drop_length] at hcs
      have ec := Sail.parse_nil hcs
      subst ec
      rw [Sail.rest_nil, List.append_nil] at heq
      refine ⟨_, rfl, q H' R ?_⟩
      rw [heq]
      exact hF
end
end Cloth

namespace Cloth
open PySem PySem.Spec PyProof.Rows L2
open PySem.W (Codec)
/-! ### the end -/
theorem exm_self {K : PySem.W.Frag} {S : Addr} (h1 : PySem.W.subIn K (.ref S) (.type "BaseException") = some true) (h2 : PySem.W.isClsIn K S = true) (h3 : PySem.W.typeIn K (.ref S) = some (.type "type")) (h4 : PySem.W.subIn K (.ref S) (.ref S) = some true) :
    PySem.W.exmOne K (.ref S) (.ref S) = some true := by
  have e1 : (PySem.W.subIn K (.ref S) (.type "BaseException") == some true) = true := by rw [h1] <;> rfl
  have e2 : ((PySem.W.clsIn K S).isSome && PySem.W.typeIn K (.ref S) == some (.type "type")) = true := by
    have h2' : (PySem.W.clsIn K S).isSome = true := h2
    rw [h2', h3] <;> rfl
  show (if (PySem.W.subIn K (.ref S) (.type "BaseException") == some true) = true then (if ((PySem.W.clsIn K S).isSome && PySem.W.typeIn K (.ref S) == some (.type "type")) = true then PySem.W.subIn K (.ref S) (.ref S) else none) else none) = some true
  rw [if_pos e1, if_pos e2]
  exact h4
theorem dfn_mk {K : PySem.W.Frag} {h : Heap} {mg : Str → Option Value} {x : Str} {i : Nat} {f : Addr} {ps : List Str} {oc : Value} {od an : Option Addr} {osl : Array (Option Value)} {kV doc pm cdv ct : Value} (X : K.In h) (G : h.Ns mainGlobals mg) (a : PySem.W.nsIn K mainGlobals x = some (some (.ref f)))
    (l : K.lookup f = some ⟨oc, od, .func (PySem.W.fnOf x x (defArgs (top i)) (defBody (top i)) (defScope (top i)) .none kV doc pm an cdv ct), osl⟩) (c : PySem.W.codeIn K cdv x = true) (k : PySem.W.keepIn K (.ref f) = true)
    (b : ∀ (kV doc pm : Value) (an : Option Addr) (cdv ct : Value) (us : List Value), us.length = ps.length → bindArgs (PySem.W.fnOf x x (defArgs (top i)) (defBody (top i)) (defScope (top i)) .none kV doc pm an cdv ct) ⟨us, []⟩ = pure (ps.zip us)) : Dfn K mg x i f ps :=
  ⟨_, fun_mk l c k, PySem.W.mg_of X G a, (fun_mk l c k).binds b⟩
theorem held_of {P : Program} {w : World} {K : PySem.W.Frag} {mg : Str → Option Value} {base : Heap} {k : Nat} {x : Str} {f : Addr} {ps : List Str} {sp : Sp} (H : Has P w K mg base (L2.CX P w) k x f ps sp) : HeldX P w K mg base k f sp := by
  obtain ⟨fd, _, kp, b, F⟩ := H
  exact ⟨fd, ps, F, kp, b⟩
theorem all_mk {P : Program} {w : World} {K : PySem.W.Frag} {h : Heap} {mg : Str → Option Value} {fa : Addr} (X : K.In h) (G : h.Ns mainGlobals mg) (hfa : mg "answers" = some (.ref fa))
    {f2 : Addr} {od2 an2 : Option Addr} {sl2 : Array (Option Value)} {oc2 kV2 dc2 pm2 cd2 ct2 : Value}
    {f3 : Addr} {od3 an3 : Option Addr} {sl3 : Array (Option Value)} {oc3 kV3 dc3 pm3 cd3 ct3 : Value}
    {f4 : Addr} {od4 an4 : Option Addr} {sl4 : Array (Option Value)} {oc4 kV4 dc4 pm4 cd4 ct4 : Value}
    {f5 : Addr} {od5 an5 : Option Addr} {sl5 : Array (Option Value)} {oc5 kV5 dc5 pm5 cd5 ct5 : Value}
    {f6 : Addr} {od6 an6 : Option Addr} {sl6 : Array (Option Value)} {oc6 kV6 dc6 pm6 cd6 ct6 : Value}
    {f7 : Addr} {od7 an7 : Option Addr} {sl7 : Array (Option Value)} {oc7 kV7 dc7 pm7 cd7 ct7 : Value}
    {f10 : Addr} {od10 an10 : Option Addr} {sl10 : Array (Option Value)} {oc10 kV10 dc10 pm10 cd10 ct10 : Value}
    {f11 : Addr} {od11 an11 : Option Addr} {sl11 : Array (Option Value)} {oc11 kV11 dc11 pm11 cd11 ct11 : Value}
    {f12 : Addr} {od12 an12 : Option Addr} {sl12 : Array (Option Value)} {oc12 kV12 dc12 pm12 cd12 ct12 : Value}
    {f13 : Addr} {od13 an13 : Option Addr} {sl13 : Array (Option Value)} {oc13 kV13 dc13 pm13 cd13 ct13 : Value}
    {f14 : Addr} {od14 an14 : Option Addr} {sl14 : Array (Option Value)} {oc14 kV14 dc14 pm14 cd14 ct14 : Value}
    {f15 : Addr} {od15 an15 : Option Addr} {sl15 : Array (Option Value)} {oc15 kV15 dc15 pm15 cd15 ct15 : Value}
    {f16 : Addr} {od16 an16 : Option Addr} {sl16 : Array (Option Value)} {oc16 kV16 dc16 pm16 cd16 ct16 : Value}
    {f17 : Addr} {od17 an17 : Option Addr} {sl17 : Array (Option Value)} {oc17 kV17 dc17 pm17 cd17 ct17 : Value}
    {f19 : Addr} {od19 an19 : Option Addr} {sl19 : Array (Option Value)} {oc19 kV19 dc19 pm19 cd19 ct19 : Value}
    {f20 : Addr} {od20 an20 : Option Addr} {sl20 : Array (Option Value)} {oc20 kV20 dc20 pm20 cd20 ct20 : Value}
    {f27 : Addr} {od27 an27 : Option Addr} {sl27 : Array (Option Value)} {oc27 kV27 dc27 pm27 cd27 ct27 : Value}
    {f28 : Addr} {od28 an28 : Option Addr} {sl28 : Array (Option Value)} {oc28 kV28 dc28 pm28 cd28 ct28 : Value}
    {f29 : Addr} {od29 an29 : Option Addr} {sl29 : Array (Option Value)} {oc29 kV29 dc29 pm29 cd29 ct29 : Value}
    {f30 : Addr} {od30 an30 : Option Addr} {sl30 : Array (Option Value)} {oc30 kV30 dc30 pm30 cd30 ct30 : Value}
    {f31 : Addr} {od31 an31 : Option Addr} {sl31 : Array (Option Value)} {oc31 kV31 dc31 pm31 cd31 ct31 : Value}
    {f32 : Addr} {od32 an32 : Option Addr} {sl32 : Array (Option Value)} {oc32 kV32 dc32 pm32 cd32 ct32 : Value}
    {f36 : Addr} {od36 an36 : Option Addr} {sl36 : Array (Option Value)} {oc36 kV36 dc36 pm36 cd36 ct36 : Value}
    {f37 : Addr} {od37 an37 : Option Addr} {sl37 : Array (Option Value)} {oc37 kV37 dc37 pm37 cd37 ct37 : Value}
    {CW : Addr}
    {f18 : Addr} {od18 an18 : Option Addr} {sl18 : Array (Option Value)} {oc18 kV18 dc18 pm18 cd18 ct18 : Value}
    {CH : Addr}
    {f26 : Addr} {od26 an26 : Option Addr} {sl26 : Array (Option Value)} {oc26 kV26 dc26 pm26 cd26 ct26 : Value}
    {CR : Addr} {nmR qR : Str} {NR : Addr} {bsR : List Value} {snR : List Str} {subR : List Value} {abR : Bool} {colR : Option Bool} {ddR : Option Addr} {m0R m1R m2R m3R m5R : Option Value}
    {f25 : Addr} {od25 an25 : Option Addr} {sl25 : Array (Option Value)} {oc25 kV25 dc25 pm25 cd25 ct25 : Value}
    {tU : Tok}
    {tW : Tok}
    {tP : Tok}
    {tC : Tok}
    {tN tM tD : Addr} {nN nM nD : Nat} {w0 w1 v0 v1 v2 v3 v4 : Tok}
    (a2 : PySem.W.nsIn K mainGlobals "divisor" = some (some (.ref f2)))
    (l2 : K.lookup f2 = some ⟨oc2, od2, .func (PySem.W.fnOf "divisor" "divisor" (defArgs (top 2)) (defBody (top 2)) (defScope (top 2)) .none kV2 dc2 pm2 an2 cd2 ct2), sl2⟩)
    (c2 : PySem.W.codeIn K cd2 "divisor" = true)
    (k2 : PySem.W.keepIn K (.ref f2) = true)
    (a3 : PySem.W.nsIn K mainGlobals "fraction" = some (some (.ref f3)))
    (l3 : K.lookup f3 = some ⟨oc3, od3, .func (PySem.W.fnOf "fraction" "fraction" (defArgs (top 3)) (defBody (top 3)) (defScope (top 3)) .none kV3 dc3 pm3 an3 cd3 ct3), sl3⟩)
    (c3 : PySem.W.codeIn K cd3 "fraction" = true)
    (k3 : PySem.W.keepIn K (.ref f3) = true)
    (a4 : PySem.W.nsIn K mainGlobals "plus" = some (some (.ref f4)))
    (l4 : K.lookup f4 = some ⟨oc4, od4, .func (PySem.W.fnOf "plus" "plus" (defArgs (top 4)) (defBody (top 4)) (defScope (top 4)) .none kV4 dc4 pm4 an4 cd4 ct4), sl4⟩)
    (c4 : PySem.W.codeIn K cd4 "plus" = true)
    (k4 : PySem.W.keepIn K (.ref f4) = true)
    (a5 : PySem.W.nsIn K mainGlobals "minus" = some (some (.ref f5)))
    (l5 : K.lookup f5 = some ⟨oc5, od5, .func (PySem.W.fnOf "minus" "minus" (defArgs (top 5)) (defBody (top 5)) (defScope (top 5)) .none kV5 dc5 pm5 an5 cd5 ct5), sl5⟩)
    (c5 : PySem.W.codeIn K cd5 "minus" = true)
    (k5 : PySem.W.keepIn K (.ref f5) = true)
    (a6 : PySem.W.nsIn K mainGlobals "is_less" = some (some (.ref f6)))
    (l6 : K.lookup f6 = some ⟨oc6, od6, .func (PySem.W.fnOf "is_less" "is_less" (defArgs (top 6)) (defBody (top 6)) (defScope (top 6)) .none kV6 dc6 pm6 an6 cd6 ct6), sl6⟩)
    (c6 : PySem.W.codeIn K cd6 "is_less" = true)
    (k6 : PySem.W.keepIn K (.ref f6) = true)
    (a7 : PySem.W.nsIn K mainGlobals "total" = some (some (.ref f7)))
    (l7 : K.lookup f7 = some ⟨oc7, od7, .func (PySem.W.fnOf "total" "total" (defArgs (top 7)) (defBody (top 7)) (defScope (top 7)) .none kV7 dc7 pm7 an7 cd7 ct7), sl7⟩)
    (c7 : PySem.W.codeIn K cd7 "total" = true)
    (k7 : PySem.W.keepIn K (.ref f7) = true)
    (a10 : PySem.W.nsIn K mainGlobals "turn" = some (some (.ref f10)))
    (l10 : K.lookup f10 = some ⟨oc10, od10, .func (PySem.W.fnOf "turn" "turn" (defArgs (top 10)) (defBody (top 10)) (defScope (top 10)) .none kV10 dc10 pm10 an10 cd10 ct10), sl10⟩)
    (c10 : PySem.W.codeIn K cd10 "turn" = true)
    (k10 : PySem.W.keepIn K (.ref f10) = true)
    (a11 : PySem.W.nsIn K mainGlobals "is_one" = some (some (.ref f11)))
    (l11 : K.lookup f11 = some ⟨oc11, od11, .func (PySem.W.fnOf "is_one" "is_one" (defArgs (top 11)) (defBody (top 11)) (defScope (top 11)) .none kV11 dc11 pm11 an11 cd11 ct11), sl11⟩)
    (c11 : PySem.W.codeIn K cd11 "is_one" = true)
    (k11 : PySem.W.keepIn K (.ref f11) = true)
    (a12 : PySem.W.nsIn K mainGlobals "twice_area" = some (some (.ref f12)))
    (l12 : K.lookup f12 = some ⟨oc12, od12, .func (PySem.W.fnOf "twice_area" "twice_area" (defArgs (top 12)) (defBody (top 12)) (defScope (top 12)) .none kV12 dc12 pm12 an12 cd12 ct12), sl12⟩)
    (c12 : PySem.W.codeIn K cd12 "twice_area" = true)
    (k12 : PySem.W.keepIn K (.ref f12) = true)
    (a13 : PySem.W.nsIn K mainGlobals "seen" = some (some (.ref f13)))
    (l13 : K.lookup f13 = some ⟨oc13, od13, .func (PySem.W.fnOf "seen" "seen" (defArgs (top 13)) (defBody (top 13)) (defScope (top 13)) .none kV13 dc13 pm13 an13 cd13 ct13), sl13⟩)
    (c13 : PySem.W.codeIn K cd13 "seen" = true)
    (k13 : PySem.W.keepIn K (.ref f13) = true)
    (a14 : PySem.W.nsIn K mainGlobals "crossing" = some (some (.ref f14)))
    (l14 : K.lookup f14 = some ⟨oc14, od14, .func (PySem.W.fnOf "crossing" "crossing" (defArgs (top 14)) (defBody (top 14)) (defScope (top 14)) .none kV14 dc14 pm14 an14 cd14 ct14), sl14⟩)
    (c14 : PySem.W.codeIn K cd14 "crossing" = true)
    (k14 : PySem.W.keepIn K (.ref f14) = true)
    (a15 : PySem.W.nsIn K mainGlobals "places_within" = some (some (.ref f15)))
    (l15 : K.lookup f15 = some ⟨oc15, od15, .func (PySem.W.fnOf "places_within" "places_within" (defArgs (top 15)) (defBody (top 15)) (defScope (top 15)) .none kV15 dc15 pm15 an15 cd15 ct15), sl15⟩)
    (c15 : PySem.W.codeIn K cd15 "places_within" = true)
    (k15 : PySem.W.keepIn K (.ref f15) = true)
    (a16 : PySem.W.nsIn K mainGlobals "length_within" = some (some (.ref f16)))
    (l16 : K.lookup f16 = some ⟨oc16, od16, .func (PySem.W.fnOf "length_within" "length_within" (defArgs (top 16)) (defBody (top 16)) (defScope (top 16)) .none kV16 dc16 pm16 an16 cd16 ct16), sl16⟩)
    (c16 : PySem.W.codeIn K cd16 "length_within" = true)
    (k16 : PySem.W.keepIn K (.ref f16) = true)
    (a17 : PySem.W.nsIn K mainGlobals "panels_of" = some (some (.ref f17)))
    (l17 : K.lookup f17 = some ⟨oc17, od17, .func (PySem.W.fnOf "panels_of" "panels_of" (defArgs (top 17)) (defBody (top 17)) (defScope (top 17)) .none kV17 dc17 pm17 an17 cd17 ct17), sl17⟩)
    (c17 : PySem.W.codeIn K cd17 "panels_of" = true)
    (k17 : PySem.W.keepIn K (.ref f17) = true)
    (a19 : PySem.W.nsIn K mainGlobals "is_better" = some (some (.ref f19)))
    (l19 : K.lookup f19 = some ⟨oc19, od19, .func (PySem.W.fnOf "is_better" "is_better" (defArgs (top 19)) (defBody (top 19)) (defScope (top 19)) .none kV19 dc19 pm19 an19 cd19 ct19), sl19⟩)
    (c19 : PySem.W.codeIn K cd19 "is_better" = true)
    (k19 : PySem.W.keepIn K (.ref f19) = true)
    (a20 : PySem.W.nsIn K mainGlobals "best_ways" = some (some (.ref f20)))
    (l20 : K.lookup f20 = some ⟨oc20, od20, .func (PySem.W.fnOf "best_ways" "best_ways" (defArgs (top 20)) (defBody (top 20)) (defScope (top 20)) .none kV20 dc20 pm20 an20 cd20 ct20), sl20⟩)
    (c20 : PySem.W.codeIn K cd20 "best_ways" = true)
    (k20 : PySem.W.keepIn K (.ref f20) = true)
    (a27 : PySem.W.nsIn K mainGlobals "ask" = some (some (.ref f27)))
    (l27 : K.lookup f27 = some ⟨oc27, od27, .func (PySem.W.fnOf "ask" "ask" (defArgs (top 27)) (defBody (top 27)) (defScope (top 27)) .none kV27 dc27 pm27 an27 cd27 ct27), sl27⟩)
    (c27 : PySem.W.codeIn K cd27 "ask" = true)
    (k27 : PySem.W.keepIn K (.ref f27) = true)
    (a28 : PySem.W.nsIn K mainGlobals "begins" = some (some (.ref f28)))
    (l28 : K.lookup f28 = some ⟨oc28, od28, .func (PySem.W.fnOf "begins" "begins" (defArgs (top 28)) (defBody (top 28)) (defScope (top 28)) .none kV28 dc28 pm28 an28 cd28 ct28), sl28⟩)
    (c28 : PySem.W.codeIn K cd28 "begins" = true)
    (k28 : PySem.W.keepIn K (.ref f28) = true)
    (a29 : PySem.W.nsIn K mainGlobals "corner" = some (some (.ref f29)))
    (l29 : K.lookup f29 = some ⟨oc29, od29, .func (PySem.W.fnOf "corner" "corner" (defArgs (top 29)) (defBody (top 29)) (defScope (top 29)) .none kV29 dc29 pm29 an29 cd29 ct29), sl29⟩)
    (c29 : PySem.W.codeIn K cd29 "corner" = true)
    (k29 : PySem.W.keepIn K (.ref f29) = true)
    (a30 : PySem.W.nsIn K mainGlobals "area" = some (some (.ref f30)))
    (l30 : K.lookup f30 = some ⟨oc30, od30, .func (PySem.W.fnOf "area" "area" (defArgs (top 30)) (defBody (top 30)) (defScope (top 30)) .none kV30 dc30 pm30 an30 cd30 ct30), sl30⟩)
    (c30 : PySem.W.codeIn K cd30 "area" = true)
    (k30 : PySem.W.keepIn K (.ref f30) = true)
    (a31 : PySem.W.nsIn K mainGlobals "panels" = some (some (.ref f31)))
    (l31 : K.lookup f31 = some ⟨oc31, od31, .func (PySem.W.fnOf "panels" "panels" (defArgs (top 31)) (defBody (top 31)) (defScope (top 31)) .none kV31 dc31 pm31 an31 cd31 ct31), sl31⟩)
    (c31 : PySem.W.codeIn K cd31 "panels" = true)
    (k31 : PySem.W.keepIn K (.ref f31) = true)
    (a32 : PySem.W.nsIn K mainGlobals "best" = some (some (.ref f32)))
    (l32 : K.lookup f32 = some ⟨oc32, od32, .func (PySem.W.fnOf "best" "best" (defArgs (top 32)) (defBody (top 32)) (defScope (top 32)) .none kV32 dc32 pm32 an32 cd32 ct32), sl32⟩)
    (c32 : PySem.W.codeIn K cd32 "best" = true)
    (k32 : PySem.W.keepIn K (.ref f32) = true)
    (a36 : PySem.W.nsIn K mainGlobals "answer" = some (some (.ref f36)))
    (l36 : K.lookup f36 = some ⟨oc36, od36, .func (PySem.W.fnOf "answer" "answer" (defArgs (top 36)) (defBody (top 36)) (defScope (top 36)) .none kV36 dc36 pm36 an36 cd36 ct36), sl36⟩)
    (c36 : PySem.W.codeIn K cd36 "answer" = true)
    (k36 : PySem.W.keepIn K (.ref f36) = true)
    (a37 : PySem.W.nsIn K mainGlobals "answers" = some (some (.ref f37)))
    (l37 : K.lookup f37 = some ⟨oc37, od37, .func (PySem.W.fnOf "answers" "answers" (defArgs (top 37)) (defBody (top 37)) (defScope (top 37)) .none kV37 dc37 pm37 an37 cd37 ct37), sl37⟩)
    (c37 : PySem.W.codeIn K cd37 "answers" = true)
    (k37 : PySem.W.keepIn K (.ref f37) = true)
    (gCW : PySem.W.nsIn K mainGlobals "Way" = some (some (.ref CW)))
    (a18 : PySem.W.findIn K (.ref CW) "__init__" = some (some (.ref f18)))
    (i18 : PySem.W.isFn K (.ref f18) = true)
    (l18 : K.lookup f18 = some ⟨oc18, od18, .func (PySem.W.fnOf "__init__" "Way.__init__" (defArgs (inClass (top 18) 0)) (defBody (inClass (top 18) 0)) (defScope (inClass (top 18) 0)) .none kV18 dc18 pm18 an18 cd18 ct18), sl18⟩)
    (c18 : PySem.W.codeIn K cd18 "Way.__init__" = true)
    (k18 : PySem.W.keepIn K (.ref f18) = true)
    (pgCW : PySem.W.plainGet K CW Str.empty = true)
    (hdCW : PySem.W.hasDictIn K CW = true)
    (poCW : PySem.W.plainOver K CW = true)
    (saCW : PySem.W.findIn K (.ref CW) "__setattr__" = some (some (.builtin "object.__setattr__")))
    (mkCW : PySem.W.makesIn K CW = true)
    (kcCW : PySem.W.keepIn K (.ref CW) = true)
    (nCW_way : PySem.W.findIn K (.ref CW) "way" = some none)
    (nCW_o : PySem.W.findIn K (.ref CW) "o" = some none)
    (nCW_panels : PySem.W.findIn K (.ref CW) "panels" = some none)
    (nCW_cloth : PySem.W.findIn K (.ref CW) "cloth" = some none)
    (gCH : PySem.W.nsIn K mainGlobals "Holder" = some (some (.ref CH)))
    (a26 : PySem.W.findIn K (.ref CH) "__init__" = some (some (.ref f26)))
    (i26 : PySem.W.isFn K (.ref f26) = true)
    (l26 : K.lookup f26 = some ⟨oc26, od26, .func (PySem.W.fnOf "__init__" "Holder.__init__" (defArgs (inClass (top 26) 0)) (defBody (inClass (top 26) 0)) (defScope (inClass (top 26) 0)) .none kV26 dc26 pm26 an26 cd26 ct26), sl26⟩)
    (c26 : PySem.W.codeIn K cd26 "Holder.__init__" = true)
    (k26 : PySem.W.keepIn K (.ref f26) = true)
    (pgCH : PySem.W.plainGet K CH Str.empty = true)
    (hdCH : PySem.W.hasDictIn K CH = true)
    (poCH : PySem.W.plainOver K CH = true)
    (saCH : PySem.W.findIn K (.ref CH) "__setattr__" = some (some (.builtin "object.__setattr__")))
    (mkCH : PySem.W.makesIn K CH = true)
    (kcCH : PySem.W.keepIn K (.ref CH) = true)
    (nCH_wide : PySem.W.findIn K (.ref CH) "wide" = some none)
    (nCH_corners : PySem.W.findIn K (.ref CH) "corners" = some none)
    (gCR : PySem.W.nsIn K mainGlobals "Refused" = some (some (.ref CR)))
    (xCR : K.lookup CR = some (excClassObj nmR qR CR NR bsR [.type "ValueError", .type "Exception", .type "BaseException", .type "object"] true snR subR abR colR ddR m0R m1R m2R m3R m5R "ValueError.__new__"))
    (saCR : PySem.W.findIn K (.ref CR) "__setattr__" = some (some (.builtin "object.__setattr__")))
    (gaCR : PySem.W.findIn K (.ref CR) "__getattribute__" = some (some (.builtin "BaseException.__getattribute__")))
    (ggCR : PySem.W.findIn K (.ref CR) "__getattr__" = some none)
    (nnCR : PySem.W.findIn K (.ref CR) "number" = some none)
    (a25 : PySem.W.findIn K (.ref CR) "__init__" = some (some (.ref f25)))
    (t25 : PySem.W.typeIn K (.ref f25) = some (.type "function"))
    (l25 : K.lookup f25 = some ⟨oc25, od25, .func (PySem.W.fnOf "__init__" "Refused.__init__" (defArgs (inClass (top 25) 0)) (defBody (inClass (top 25) 0)) (defScope (inClass (top 25) 0)) .none kV25 dc25 pm25 an25 cd25 ct25), sl25⟩)
    (c25 : PySem.W.codeIn K cd25 "Refused.__init__" = true)
    (k25 : PySem.W.keepIn K (.ref f25) = true)
    (kcCR : PySem.W.keepIn K (.ref CR) = true)
    (exCR : PySem.W.subIn K (.ref CR) (.type "BaseException") = some true)
    (tyCR : PySem.W.typeIn K (.ref CR) = some (.type "type"))
    (hdCR : PySem.W.hasDictIn K CR = true)
    (isCR : PySem.W.isClsIn K CR = true)
    (suCR : PySem.W.subIn K (.ref CR) (.ref CR) = some true)
    (vV : PySem.W.findCls K (.type "ValueError") (.type "type") "__init__" = some (.val (.builtin "ValueError.__init__")))
    (z_abs : PySem.W.nsIn K mainGlobals "abs" = some none)
    (z_len : PySem.W.nsIn K mainGlobals "len" = some none)
    (z_range : PySem.W.nsIn K mainGlobals "range" = some none)
    (z_sum : PySem.W.nsIn K mainGlobals "sum" = some none)
    (z_min : PySem.W.nsIn K mainGlobals "min" = some none)
    (z_max : PySem.W.nsIn K mainGlobals "max" = some none)
    (z_list : PySem.W.nsIn K mainGlobals "list" = some none)
    (z_ValueError : PySem.W.nsIn K mainGlobals "ValueError" = some none)
    (o_UPRIGHT : PySem.W.nsIn K mainGlobals "UPRIGHT" = some (some (.int 1 tU)))
    (o_MOST_WIDE : PySem.W.nsIn K mainGlobals "MOST_WIDE" = some (some (.int 12 tW)))
    (o_MOST_PLACE : PySem.W.nsIn K mainGlobals "MOST_PLACE" = some (some (.int 60 tP)))
    (o_MOST_CORNERS : PySem.W.nsIn K mainGlobals "MOST_CORNERS" = some (some (.int 6 tC)))
    (o_NOUGHT : PySem.W.nsIn K mainGlobals "NOUGHT" = some (some (.ref tN)))
    (l_NOUGHT : K.lookup tN = some ⟨.type "tuple", none, .seq #[.int 0 w0, .int 1 w1] nN, #[]⟩)
    (o_NUMBERS : PySem.W.nsIn K mainGlobals "NUMBERS" = some (some (.ref tM)))
    (l_NUMBERS : K.lookup tM = some ⟨.type "tuple", none, .seq #[.int 1 v0, .int 2 v1, .int 0 v2, .int 2 v3, .int 0 v4] nM, #[]⟩)
    (o_DEEDS : PySem.W.nsIn K mainGlobals "DEEDS" = some (some (.ref tD)))
    (l_DEEDS : K.lookup tD = some ⟨.type "tuple", none, .seq #[.ref f28, .ref f29, .ref f30, .ref f31, .ref f32] nD, #[]⟩)
    : ∃ fd : FuncData, (∀ (s : Shared) (us : List Value), us.length = (["calls"] : List Str).length → BindsTo s fd ⟨us, []⟩ ((["calls"] : List Str).zip us)) ∧ ∀ base : Heap, K.In base → base.Ns mainGlobals mg → FnOk P w K mg base CX0 13 fa fd ["calls"] (spAnswers K) := by
  have e := hfa.symm.trans (PySem.W.mg_of X G a37)
  cases e
  have T : Bt mg := ⟨PySem.W.mg_none_of X G z_abs, PySem.W.mg_none_of X G z_len, PySem.W.mg_none_of X G z_range, PySem.W.mg_none_of X G z_sum, PySem.W.mg_none_of X G z_min, PySem.W.mg_none_of X G z_max, PySem.W.mg_none_of X G z_list, PySem.W.mg_none_of X G z_ValueError⟩
  have D2 : Dfn K mg "divisor" 2 f2 ["one", "other"] := dfn_mk X G a2 l2 c2 k2 (fun _ _ _ _ _ _ us hl => match us, hl with | [_, _], _ => rfl)
  have D3 : Dfn K mg "fraction" 3 f3 ["above", "below"] := dfn_mk X G a3 l3 c3 k3 (fun _ _ _ _ _ _ us hl => match us, hl with | [_, _], _ => rfl)
  have D4 : Dfn K mg "plus" 4 f4 ["one", "other"] := dfn_mk X G a4 l4 c4 k4 (fun _ _ _ _ _ _ us hl => match us, hl with | [_, _], _ => rfl)
  have D5 : Dfn K mg "minus" 5 f5 ["one", "other"] := dfn_mk X G a5 l5 c5 k5 (fun _ _ _ _ _ _ us hl => match us, hl with | [_, _], _ => rfl)
  have D6 : Dfn K mg "is_less" 6 f6 ["one", "other"] := dfn_mk X G a6 l6 c6 k6 (fun _ _ _ _ _ _ us hl => match us, hl with | [_, _], _ => rfl)
  have D7 : Dfn K mg "total" 7 f7 ["some"] := dfn_mk X G a7 l7 c7 k7 (fun _ _ _ _ _ _ us hl => match us, hl with | [_], _ => rfl)
  have D10 : Dfn K mg "turn" 10 f10 ["a", "b", "c"] := dfn_mk X G a10 l10 c10 k10 (fun _ _ _ _ _ _ us hl => match us, hl with | [_, _, _], _ => rfl)
  have D11 : Dfn K mg "is_one" 11 f11 ["corners"] := dfn_mk X G a11 l11 c11 k11 (fun _ _ _ _ _ _ us hl => match us, hl with | [_], _ => rfl)
  have D12 : Dfn K mg "twice_area" 12 f12 ["corners"] := dfn_mk X G a12 l12 c12 k12 (fun _ _ _ _ _ _ us hl => match us, hl with | [_], _ => rfl)
  have D13 : Dfn K mg "seen" 13 f13 ["corners", "way"] := dfn_mk X G a13 l13 c13 k13 (fun _ _ _ _ _ _ us hl => match us, hl with | [_, _], _ => rfl)
  have D14 : Dfn K mg "crossing" 14 f14 ["a", "b", "height"] := dfn_mk X G a14 l14 c14 k14 (fun _ _ _ _ _ _ us hl => match us, hl with | [_, _, _], _ => rfl)
  have D15 : Dfn K mg "places_within" 15 f15 ["corners", "low", "high"] := dfn_mk X G a15 l15 c15 k15 (fun _ _ _ _ _ _ us hl => match us, hl with | [_, _, _], _ => rfl)
  have D16 : Dfn K mg "length_within" 16 f16 ["corners", "low", "high"] := dfn_mk X G a16 l16 c16 k16 (fun _ _ _ _ _ _ us hl => match us, hl with | [_, _, _], _ => rfl)
  have D17 : Dfn K mg "panels_of" 17 f17 ["corners", "wide", "way", "o"] := dfn_mk X G a17 l17 c17 k17 (fun _ _ _ _ _ _ us hl => match us, hl with | [_, _, _, _], _ => rfl)
  have D19 : Dfn K mg "is_better" 19 f19 ["one", "other"] := dfn_mk X G a19 l19 c19 k19 (fun _ _ _ _ _ _ us hl => match us, hl with | [_, _], _ => rfl)
  have D20 : Dfn K mg "best_ways" 20 f20 ["corners", "wide"] := dfn_mk X G a20 l20 c20 k20 (fun _ _ _ _ _ _ us hl => match us, hl with | [_, _], _ => rfl)
  have D27 : Dfn K mg "ask" 27 f27 ["holds", "number"] := dfn_mk X G a27 l27 c27 k27 (fun _ _ _ _ _ _ us hl => match us, hl with | [_, _], _ => rfl)
  have D28 : Dfn K mg "begins" 28 f28 ["holder", "numbers"] := dfn_mk X G a28 l28 c28 k28 (fun _ _ _ _ _ _ us hl => match us, hl with | [_, _], _ => rfl)
  have D29 : Dfn K mg "corner" 29 f29 ["holder", "numbers"] := dfn_mk X G a29 l29 c29 k29 (fun _ _ _ _ _ _ us hl => match us, hl with | [_, _], _ => rfl)
  have D30 : Dfn K mg "area" 30 f30 ["holder", "numbers"] := dfn_mk X G a30 l30 c30 k30 (fun _ _ _ _ _ _ us hl => match us, hl with | [_, _], _ => rfl)
  have D31 : Dfn K mg "panels" 31 f31 ["holder", "numbers"] := dfn_mk X G a31 l31 c31 k31 (fun _ _ _ _ _ _ us hl => match us, hl with | [_, _], _ => rfl)
  have D32 : Dfn K mg "best" 32 f32 ["holder", "numbers"] := dfn_mk X G a32 l32 c32 k32 (fun _ _ _ _ _ _ us hl => match us, hl with | [_, _], _ => rfl)
  have D36 : Dfn K mg "answer" 36 f36 ["holder", "number", "numbers"] := dfn_mk X G a36 l36 c36 k36 (fun _ _ _ _ _ _ us hl => match us, hl with | [_, _, _], _ => rfl)
  have F18 := fun_mk (st := inClass (top 18) 0) l18 c18 k18
  have YCW : WayTxt K mg CW f18 := ⟨⟨pgCW, hdCW, poCW, saCW⟩, nCW_way, nCW_o, nCW_panels, nCW_cloth, PySem.W.mg_of X G gCW, ⟨mkCW, a18, i18, kcCW⟩, ⟨_, F18, F18.binds (ps := ["self", "corners", "wide", "way", "o"]) fun _ _ _ _ _ _ us hl => match us, hl with | [_, _, _, _, _], _ => rfl⟩⟩
  have F26 := fun_mk (st := inClass (top 26) 0) l26 c26 k26
  have YCH : HTxt K mg CH f26 := ⟨⟨pgCH, hdCH, poCH, saCH⟩, nCH_wide, nCH_corners, PySem.W.mg_of X G gCH, ⟨mkCH, a26, i26, kcCH⟩, ⟨_, F26, F26.binds (ps := ["self"]) fun _ _ _ _ _ _ us hl => match us, hl with | [_], _ => rfl⟩⟩
  have F25 := fun_mk (st := inClass (top 25) 0) l25 c25 k25
  have R : RefTxt K mg CR f25 := { ox := ⟨⟨nmR, qR, NR, bsR, _, snR, subR, abR, colR, ddR, m0R, m1R, m2R, m3R, m5R, xCR, by decide +kernel⟩, saCR, exCR, tyCR, kcCR⟩, nN := nnCR, iC := a25, tI := t25, gC := PySem.W.mg_of X G gCR, te := exm_self exCR isCR tyCR suCR, xf := ⟨gaCR, ggCR, exCR, hdCR⟩, vV := vV, ini := ⟨_, F25, F25.binds (ps := ["self", "number", "asked"]) fun _ _ _ _ _ _ us hl => match us, hl with | [_, _, _], _ => rfl⟩ }
  have N0 : Nought K mg := ⟨tN, PySem.W.mg_of X G o_NOUGHT, fun H => .inr ⟨_, _, _, l_NOUGHT, rfl, rfl, small_line (by show 2 ≤ 16777216; decide), .cons ⟨_, rfl⟩ (.cons ⟨_, rfl⟩ .nil)⟩⟩
  have N1 : Numbers K mg := ⟨tM, PySem.W.mg_of X G o_NUMBERS, fun H => .inr ⟨_, _, _, l_NUMBERS, rfl, rfl, small_line (by show 5 ≤ 16777216; decide), .cons ⟨_, rfl⟩ (.cons ⟨_, rfl⟩ (.cons ⟨_, rfl⟩ (.cons ⟨_, rfl⟩ (.cons ⟨_, rfl⟩ .nil))))⟩⟩
  have N2 : Deeds K mg [f28, f29, f30, f31, f32] := ⟨tD, PySem.W.mg_of X G o_DEEDS, rfl, fun H => .inr ⟨_, _, _, l_DEEDS, rfl, rfl, small_line (by show 5 ≤ 16777216; decide), .cons rfl (.cons rfl (.cons rfl (.cons rfl (.cons rfl .nil))))⟩⟩
  have N3 : Consts mg := ⟨⟨_, PySem.W.mg_of X G o_MOST_WIDE⟩, ⟨_, PySem.W.mg_of X G o_MOST_PLACE⟩, ⟨_, PySem.W.mg_of X G o_MOST_CORNERS⟩⟩
  have U := PySem.W.mg_of X G o_UPRIGHT
  refine ⟨PySem.W.fnOf "answers" "answers" (defArgs (top 37)) (defBody (top 37)) (defScope (top 37)) .none kV37 dc37 pm37 an37 cd37 ct37, fun s us hu => match us, hu with | [_], _ => .of_eq rfl, fun base _ _ => ?_⟩
  have E2 : Has P w K mg base CX0 1 "divisor" f2 ["one", "other"] spDivisor := has_divisor D2 T
  have E3 := has_fraction D3 E2
  have E4 := has_plus D4 E3
  have E5 := has_minus D5 E3
  have E6 : Has P w K mg base CX0 1 "is_less" f6 ["one", "other"] (spIsLess K) := has_is_less D6
  have E7 := has_total D7 N0 E4
  have E10 : Has P w K mg base CX0 1 "turn" f10 ["a", "b", "c"] (spTurn K) := has_turn D10
  have E11 := has_is_one D11 T E10
  have E12 := has_twice D12 T E10
  have E13 : Has P w K mg base CX0 1 "seen" f13 ["corners", "way"] (spSeen K) := has_seen D13 T U
  have E14 := has_crossing D14 T E3
  have E15 := has_places D15 T E3 E14
  have E16 := has_length D16 E15 E6 E5
  have E17 := has_panels D17 T E13 E16
  have E18 := ok_way T YCW E17 E7
  have E19 := has_better YCW D19 E6
  have E20 := has_best T YCW D20 E18 E19
  have E25 : ∃ fd, Binds K fd ["self", "number", "asked"] [] ∧ FnOk P w K mg base CX0 1 f25 fd ["self", "number", "asked"] (spRef CR) := ok_ref T R
  have E26 : ∃ fd, Binds K fd ["self"] [] ∧ FnOk P w K mg base CX0 1 f26 fd ["self"] (spHolder K CH) := ok_holder YCH
  have E27 := has_ask R D27 E25
  have E28 := has_begins YCH N3 D28 E27
  have E29 := has_corner T YCH N3 D29 E27
  have E30 := has_area YCH D30 E27 E11 E12
  have E31 := has_pan T YCH D31 E27 E11 E17 E7
  have E32 := has_be T YCH YCW D32 E27 E11 E20
  have A : ∀ f sp, deedSp K CH CR [f28, f29, f30, f31, f32] f sp → HeldX P w K mg base 11 f sp := fun f sp ⟨i, hi, e⟩ => by
    subst e
    match i, hi with
    | 0, hi => cases (Option.some.inj hi); exact held_of E28
    | 1, hi => cases (Option.some.inj hi); exact held_of E29
    | 2, hi => cases (Option.some.inj hi); exact held_of E30
    | 3, hi => cases (Option.some.inj hi); exact held_of E31
    | 4, hi => cases (Option.some.inj hi); exact held_of E32
    | n + 5, hi => simp at hi
  have E36 := has_answer R N2 A D36
  exact ok_answers T YCH N1 (fun_mk (st := top 37) l37 c37 k37) E26 E36
end Cloth
open PySem PySem.W PyProof.Rows
set_option maxRecDepth 100000 in
set_option maxHeartbeats 8000000 in
theorem PySem.Challenge.cw_sailcloth_s01_answers_holds : PySem.Challenge.rw_sailcloth_s01_answers.Holds := by
  w_on; k_headS; (case hw => exact ⟨[.list [.int 2]], by decide +kernel, by decide +kernel⟩)
  k_fillS
  refine L2.walk_specK (r := PySem.Challenge.rw_sailcloth_s01_answers) (k := 13) (CX := L2.CX0) (ps := ["calls"]) (sp := Cloth.spAnswers) (by decide +kernel) rfl rfl ⟨rfl, by decide, by decide⟩ (fun w h Y => PySem.W.kIn_of Y) ?F ?S (fun _ _ _ _ z => z)
  case F =>
    intro w mg fa h Y KX G hmg
    refine' Cloth.all_mk KX G hmg ?a2 ?l2 ?c2 ?k2 ?a3 ?l3 ?c3 ?k3 ?a4 ?l4 ?c4 ?k4 ?a5 ?l5 ?c5 ?k5 ?a6 ?l6 ?c6 ?k6 ?a7 ?l7 ?c7 ?k7 ?a10 ?l10 ?c10 ?k10 ?a11 ?l11 ?c11 ?k11 ?a12 ?l12 ?c12 ?k12 ?a13 ?l13 ?c13 ?k13 ?a14 ?l14 ?c14 ?k14 ?a15 ?l15 ?c15 ?k15 ?a16 ?l16 ?c16 ?k16 ?a17 ?l17 ?c17 ?k17 ?a19 ?l19 ?c19 ?k19 ?a20 ?l20 ?c20 ?k20 ?a27 ?l27 ?c27 ?k27 ?a28 ?l28 ?c28 ?k28 ?a29 ?l29 ?c29 ?k29 ?a30 ?l30 ?c30 ?k30 ?a31 ?l31 ?c31 ?k31 ?a32 ?l32 ?c32 ?k32 ?a36 ?l36 ?c36 ?k36 ?a37 ?l37 ?c37 ?k37 ?gCW ?a18 ?i18 ?l18 ?c18 ?k18 ?pgCW ?hdCW ?poCW ?saCW ?mkCW ?kcCW ?nCW_way ?nCW_o ?nCW_panels ?nCW_cloth ?gCH ?a26 ?i26 ?l26 ?c26 ?k26 ?pgCH ?hdCH ?poCH ?saCH ?mkCH ?kcCH ?nCH_wide ?nCH_corners ?gCR ?xCR ?saCR ?gaCR ?ggCR ?nnCR ?a25 ?t25 ?l25 ?c25 ?k25 ?kcCR ?exCR ?tyCR ?hdCR ?isCR ?suCR ?vV ?z_abs ?z_len ?z_range ?z_sum ?z_min ?z_max ?z_list ?z_ValueError ?o_UPRIGHT ?o_MOST_WIDE ?o_MOST_PLACE ?o_MOST_CORNERS ?o_NOUGHT ?l_NOUGHT ?o_NUMBERS ?l_NUMBERS ?o_DEEDS ?l_DEEDS
    (case a2 => k_is)
    (case l2 => k_is)
    (case c2 => k_is)
    (case k2 => k_is)
    (case a3 => k_is)
    (case l3 => k_is)
    (case c3 => k_is)
    (case k3 => k_is)
    (case a4 => k_is)
    (case l4 => k_is)
    (case c4 => k_is)
    (case k4 => k_is)
    (case a5 => k_is)
    (case l5 => k_is)
    (case c5 => k_is)
    (case k5 => k_is)
    (case a6 => k_is)
    (case l6 => k_is)
    (case c6 => k_is)
    (case k6 => k_is)
    (case a7 => k_is)
    (case l7 => k_is)
    (case c7 => k_is)
    (case k7 => k_is)
    (case a10 => k_is)
    (case l10 => k_is)
    (case c10 => k_is)
    (case k10 => k_is)
    (case a11 => k_is)
    (case l11 => k_is)
    (case c11 => k_is)
    (case k11 => k_is)
    (case a12 => k_is)
    (case l12 => k_is)
    (case c12 => k_is)
    (case k12 => k_is)
    (case a13 => k_is)
    (case l13 => k_is)
    (case c13 => k_is)
    (case k13 => k_is)
    (case a14 => k_is)
    (case l14 => k_is)
    (case c14 => k_is)
    (case k14 => k_is)
    (case a15 => k_is)
    (case l15 => k_is)
    (case c15 => k_is)
    (case k15 => k_is)
    (case a16 => k_is)
    (case l16 => k_is)
    (case c16 => k_is)
    (case k16 => k_is)
    (case a17 => k_is)
    (case l17 => k_is)
    (case c17 => k_is)
    (case k17 => k_is)
    (case a19 => k_is)
    (case l19 => k_is)
    (case c19 => k_is)
    (case k19 => k_is)
    (case a20 => k_is)
    (case l20 => k_is)
    (case c20 => k_is)
    (case k20 => k_is)
    (case a27 => k_is)
    (case l27 => k_is)
    (case c27 => k_is)
    (case k27 => k_is)
    (case a28 => k_is)
    (case l28 => k_is)
    (case c28 => k_is)
    (case k28 => k_is)
    (case a29 => k_is)
    (case l29 => k_is)
    (case c29 => k_is)
    (case k29 => k_is)
    (case a30 => k_is)
    (case l30 => k_is)
    (case c30 => k_is)
    (case k30 => k_is)
    (case a31 => k_is)
    (case l31 => k_is)
    (case c31 => k_is)
    (case k31 => k_is)
    (case a32 => k_is)
    (case l32 => k_is)
    (case c32 => k_is)
    (case k32 => k_is)
    (case a36 => k_is)
    (case l36 => k_is)
    (case c36 => k_is)
    (case k36 => k_is)
    (case a37 => k_is)
    (case l37 => k_is)
    (case c37 => k_is)
    (case k37 => k_is)
    (case gCW => k_is)
    (case a18 => k_is)
    (case i18 => k_is)
    (case l18 => k_is)
    (case c18 => k_is)
    (case k18 => k_is)
    (case pgCW => k_is)
    (case hdCW => k_is)
    (case poCW => k_is)
    (case saCW => k_is)
    (case mkCW => k_is)
    (case kcCW => k_is)
    (case nCW_way => k_is)
    (case nCW_o => k_is)
    (case nCW_panels => k_is)
    (case nCW_cloth => k_is)
    (case gCH => k_is)
    (case a26 => k_is)
    (case i26 => k_is)
    (case l26 => k_is)
    (case c26 => k_is)
    (case k26 => k_is)
    (case pgCH => k_is)
    (case hdCH => k_is)
    (case poCH => k_is)
    (case saCH => k_is)
    (case mkCH => k_is)
    (case kcCH => k_is)
    (case nCH_wide => k_is)
    (case nCH_corners => k_is)
    (case gCR => k_is)
    (case xCR => k_is)
    (case saCR => k_is)
    (case gaCR => k_is)
    (case ggCR => k_is)
    (case nnCR => k_is)
    (case a25 => k_is)
    (case t25 => k_is)
    (case l25 => k_is)
    (case c25 => k_is)
    (case k25 => k_is)
    (case kcCR => k_is)
    (case exCR => k_is)
    (case tyCR => k_is)
    (case hdCR => k_is)
    (case isCR => k_is)
    (case suCR => first | rfl | k_is)
    (case vV => k_is)
    (case z_abs => k_is)
    (case z_len => k_is)
    (case z_range => k_is)
    (case z_sum => k_is)
    (case z_min => k_is)
    (case z_max => k_is)
    (case z_list => k_is)
    (case z_ValueError => k_is)
    (case o_UPRIGHT => k_is)
    (case o_MOST_WIDE => k_is)
    (case o_MOST_PLACE => k_is)
    (case o_MOST_CORNERS => k_is)
    (case o_NOUGHT => k_is)
    (case l_NOUGHT => k_is)
    (case o_NUMBERS => k_is)
    (case l_NUMBERS => k_is)
    (case o_DEEDS => k_is)
    (case l_DEEDS => k_is)
  case S =>
    intro K H xs a hO hwi hask hx
    cases hx with
    | cons h1 h2 =>
      cases h2
      cases h1 with
      | lst hs ha =>
        have e := L2.ints_dw a.1 _ ha
        subst e
        have q : ((Codec.inLen 0 400 a.1 && a.1.all (Codec.inInt 0 4294967295)) && true) = true := hwi
        rw [Bool.and_eq_true, Bool.and_eq_true] at q
        exact ⟨_, a.1, rfl, hs, hask, (Codec.inNat_iff.mp q.1.1).2, fun H' p hp => .lst (L2.SqL.of hp) (L2.dw_ints _)⟩
#print axioms PySem.Challenge.cw_sailcloth_s01_answers_holds

