import PyProof.Rows.All
import Wide.All
import OpenK.AllK
import Wide.FinOn
import PyProof.EqAt
import PyProof.EqKinds
import PyProof.TupleCall
import Open.SpecLaws
import KE.OsGo
import PySem.Challenge.RW_hungmobile_s01_answers
import HandS.ForSpec
import HandS.Comp
import HandS.Iter
import HandS.Walk
import HandS.Wide
import HandS.SortInts
import HandS.SetFor
import HandS.ExcInit
import HandS.ExcField
import PySy65
set_option Elab.async false
set_option maxHeartbeats 1000000
namespace Mob
open Sy65 (Tree)

/-- what a rod's object tells -/
structure R where
  spot : Nat
  left : Nat
  right : Nat
  first : Nat
  middle : Nat
  last : Nat

/-- the rods of a mobile in the order in which they are told; p: where it begins among the numbers, f: its first hook -/
def rodsOf : Nat → Nat → Tree → List R
  | _, _, .hook => []
  | p, f, .rod l r a b => ⟨p, l, r, f, f + Sy65.hooks a, f + Sy65.hooks a + Sy65.hooks b⟩ :: (rodsOf (p + 2) f a ++ rodsOf (p + 2 + (Sy65.numbers a).length) (f + Sy65.hooks a) b)

def Wf : Tree → Prop
  | .hook => True
  | .rod l r a b => 1 ≤ l ∧ l ≤ 20 ∧ 1 ≤ r ∧ r ≤ 20 ∧ Wf a ∧ Wf b

theorem hooks_rods : ∀ t : Tree, Sy65.hooks t = Sy65.rods t + 1
  | .hook => rfl
  | .rod _ _ a b => by
    have h1 := hooks_rods a
    have h2 := hooks_rods b
    show Sy65.hooks a + Sy65.hooks b = Sy65.rods a + Sy65.rods b + 1 + 1
    omega
theorem hooks_pos (t : Tree) : 0 < Sy65.hooks t := by rw [hooks_rods]; omega
theorem numbers_len : ∀ t : Tree, (Sy65.numbers t).length = 2 * Sy65.rods t + Sy65.hooks t
  | .hook => rfl
  | .rod _ _ a b => by
    have h1 := numbers_len a
    have h2 := numbers_len b
    show (Sy65.numbers a ++ Sy65.numbers b).length + 1 + 1 = 2 * (Sy65.rods a + Sy65.rods b + 1) + (Sy65.hooks a + Sy65.hooks b)
    rw [List.length_append]
    omega
theorem rodsOf_len : ∀ (t : Tree) (p f : Nat), (rodsOf p f t).length = Sy65.rods t
  | .hook, _, _ => rfl
  | .rod _ _ a b, p, f => by
    show (rodsOf (p + 2) f a ++ rodsOf (p + 2 + (Sy65.numbers a).length) (f + Sy65.hooks a) b).length + 1 = _
    rw [List.length_append, rodsOf_len a, rodsOf_len b]
    rfl

/-! ### reading -/
theorem read_hook (f : Nat) (r : List Nat) : Sy65.read (f + 1) (0 :: r) = some (.hook, r) := rfl
theorem read_nil (f : Nat) : Sy65.read f [] = none := by cases f <;> rfl
theorem read_one (f x : Nat) (h : x ≠ 0) : Sy65.read f [x] = none := by
  cases f with
  | zero => rfl
  | succ f =>
    cases x with
    | zero => exact absurd rfl h
    | succ x => rfl
theorem read_two (f x y : Nat) (r : List Nat) (h : x ≠ 0) : Sy65.read (f + 1) (x :: y :: r) =
    if x < 1 ∨ 20 < x ∨ y < 1 ∨ 20 < y then none else (Sy65.read f r).bind fun (a : Tree × List Nat) => (Sy65.read f a.2).map fun (b : Tree × List Nat) => (.rod x y a.1 b.1, b.2) := by
  cases x with
  | zero => exact absurd rfl h
  | succ x => rfl
theorem read_numbers : ∀ (f : Nat) (l : List Nat) (t : Tree) (rest : List Nat), Sy65.read f l = some (t, rest) → l = Sy65.numbers t ++ rest ∧ Wf t
  | 0, _, _, _, h => by cases h
  | f + 1, [], _, _, h => by rw [read_nil] at h; cases h
  | f + 1, 0 :: r, t, rest, h => by
    rw [read_hook] at h
    cases h
    exact ⟨rfl, trivial⟩
  | f + 1, [x + 1], t, rest, h => by
    rw [read_one _ _ (by omega)] at h
    cases h
  | f + 1, (x + 1) :: y :: r, t, rest, h => by
    rw [read_two _ _ _ _ (by omega)] at h
    split at h
    · cases h
    · rename_i hc
      cases ha : Sy65.read f r with
      | none => rw [ha] at h; cases h
      | some a =>
        obtain ⟨ta, ra⟩ := a
        rw [ha] at h
        cases hb : Sy65.read f ra with
        | none =>
          have h' : (Sy65.read f ra).map (fun (b : Tree × List Nat) => (Tree.rod (x + 1) y ta b.1, b.2)) = some (t, rest) := h
          rw [hb] at h'
          cases h'
        | some b =>
          obtain ⟨tb, rb⟩ := b
          have h' : (Sy65.read f ra).map (fun (b : Tree × List Nat) => (Tree.rod (x + 1) y ta b.1, b.2)) = some (t, rest) := h
          rw [hb] at h'
          cases h'
          obtain ⟨e1, w1⟩ := read_numbers f r ta ra ha
          obtain ⟨e2, w2⟩ := read_numbers f ra tb _ hb
          refine ⟨?_, by omega, by omega, by omega, by omega, w1, w2⟩
          rw [e1, e2]
          show _ = (x + 1) :: y :: (Sy65.numbers ta ++ Sy65.numbers tb) ++ _
          simp

/-! ### slices -/
def cut (w : List Nat) (a b : Nat) : List Nat := (w.drop a).take (b - a)
theorem cut_mid (pre w post : List Nat) {a b : Nat} (ha : a = pre.length) (hb : b = a + w.length) : cut (pre ++ w ++ post) a b = w := by
  subst ha hb
  unfold cut
  rw [List.append_assoc, List.drop_left, show pre.length + w.length - pre.length = w.length by omega, List.take_left]
def endL (r : R) (w : List Nat) : Nat := (cut w r.first r.middle).sum
def endR (r : R) (w : List Nat) : Nat := (cut w r.middle r.last).sum

/-! ### the least weights -/
def levelled (r : R) (w : List Nat) : List Nat :=
  w.take r.first ++ Sy65.times (r.right * endR r w / Nat.gcd (r.left * endL r w) (r.right * endR r w)) (cut w r.first r.middle)
    ++ Sy65.times (r.left * endL r w / Nat.gcd (r.left * endL r w) (r.right * endR r w)) (cut w r.middle r.last) ++ w.drop r.last
theorem ends_at (pre x y post : List Nat) {f m la : Nat} (hf : f = pre.length) (hm : m = f + x.length) (hl : la = m + y.length) :
    cut (pre ++ x ++ y ++ post) f m = x ∧ cut (pre ++ x ++ y ++ post) m la = y := by
  constructor
  · have e : pre ++ x ++ y ++ post = pre ++ x ++ (y ++ post) := by simp
    rw [e]
    exact cut_mid _ _ _ hf hm
  · exact cut_mid (pre ++ x) y post (by rw [List.length_append]; omega) hl
theorem level_at (pre x y post : List Nat) {s l r f m la : Nat} (hf : f = pre.length) (hm : m = f + x.length) (hl : la = m + y.length) :
    levelled ⟨s, l, r, f, m, la⟩ (pre ++ x ++ y ++ post) =
      pre ++ (Sy65.times (r * y.sum / Nat.gcd (l * x.sum) (r * y.sum)) x ++ Sy65.times (l * x.sum / Nat.gcd (l * x.sum) (r * y.sum)) y) ++ post := by
  obtain ⟨e1, e2⟩ := ends_at pre x y post hf hm hl
  unfold levelled endL endR
  dsimp only
  rw [e1, e2]
  have t1 : (pre ++ x ++ y ++ post).take f = pre := by
    rw [hf, List.append_assoc, List.append_assoc, List.take_left]
  have t2 : (pre ++ x ++ y ++ post).drop la = post := by
    have e : la = (pre ++ x ++ y).length := by simp; omega
    rw [e, List.drop_left]
  rw [t1, t2]
  simp
theorem times_len (n : Nat) (l : List Nat) : (Sy65.times n l).length = l.length := List.length_map _
theorem least_len : ∀ t : Tree, (Sy65.least t).length = Sy65.hooks t
  | .hook => rfl
  | .rod _ _ a b => by
    unfold Sy65.least Sy65.hooks
    rw [List.length_append, times_len, times_len, least_len a, least_len b]
theorem fold_least : ∀ (t : Tree) (p : Nat) (pre post : List Nat), (rodsOf p pre.length t).foldr levelled (pre ++ List.replicate (Sy65.hooks t) 1 ++ post) = pre ++ Sy65.least t ++ post
  | .hook, _, pre, post => rfl
  | .rod l r a b, p, pre, post => by
    show levelled _ (List.foldr levelled _ (rodsOf (p + 2) pre.length a ++ rodsOf (p + 2 + (Sy65.numbers a).length) (pre.length + Sy65.hooks a) b)) = _
    rw [List.foldr_append]
    have e1 : pre ++ List.replicate (Sy65.hooks (.rod l r a b)) 1 ++ post = (pre ++ List.replicate (Sy65.hooks a) 1) ++ List.replicate (Sy65.hooks b) 1 ++ post := by
      show pre ++ List.replicate (Sy65.hooks a + Sy65.hooks b) 1 ++ post = _
      rw [← List.replicate_append_replicate]
      simp
    have hb := fold_least b (p + 2 + (Sy65.numbers a).length) (pre ++ List.replicate (Sy65.hooks a) 1) post
    rw [List.length_append, List.length_replicate] at hb
    rw [e1, hb]
    have e2 : pre ++ List.replicate (Sy65.hooks a) 1 ++ Sy65.least b ++ post = pre ++ List.replicate (Sy65.hooks a) 1 ++ (Sy65.least b ++ post) := by simp
    rw [e2, fold_least a (p + 2) pre (Sy65.least b ++ post)]
    have e3 : pre ++ Sy65.least a ++ (Sy65.least b ++ post) = pre ++ Sy65.least a ++ Sy65.least b ++ post := by simp
    rw [e3, level_at pre (Sy65.least a) (Sy65.least b) post rfl (by rw [least_len]) (by rw [least_len])]
    rfl
def leastW (n : Nat) (rs : List R) : List Nat := rs.foldr levelled (List.replicate n 1)
theorem leastW_eq (t : Tree) : leastW (Sy65.hooks t) (rodsOf 0 0 t) = Sy65.least t := by
  have h := fold_least t 0 [] []
  unfold leastW
  simpa using h

/-! ### what a rod's numbers keep to -/
structure RodOk (n : Nat) (r : R) : Prop where
  fm : r.first < r.middle
  ml : r.middle < r.last
  ln : r.last ≤ n
  l1 : 1 ≤ r.left
  l2 : r.left ≤ 20
  r1 : 1 ≤ r.right
  r2 : r.right ≤ 20
theorem RodOk.mono {n m : Nat} {r : R} (h : RodOk n r) (le : n ≤ m) : RodOk m r := ⟨h.fm, h.ml, Nat.le_trans h.ln le, h.l1, h.l2, h.r1, h.r2⟩
theorem rodsOf_ok : ∀ (t : Tree) (p f : Nat), Wf t → ∀ r ∈ rodsOf p f t, RodOk (f + Sy65.hooks t) r
  | .hook, _, _, _, r, h => nomatch h
  | .rod l r a b, p, f, w, x, h => by
    obtain ⟨w1, w2, w3, w4, wa, wb⟩ := w
    have pa := hooks_pos a
    have pb := hooks_pos b
    have e : Sy65.hooks (.rod l r a b) = Sy65.hooks a + Sy65.hooks b := rfl
    rcases List.mem_cons.mp h with h | h
    · subst h
      exact ⟨by show f < f + _; omega, by show f + _ < f + _ + _; omega, by show f + _ + _ ≤ f + _; rw [e]; omega, w1, w2, w3, w4⟩
    · rcases List.mem_append.mp h with h | h
      · exact (rodsOf_ok a _ _ wa x h).mono (by omega)
      · exact (rodsOf_ok b _ _ wb x h).mono (by omega)

theorem sum_times (n : Nat) : ∀ l : List Nat, (Sy65.times n l).sum = n * l.sum
  | [] => by simp [Sy65.times]
  | x :: l => by
    have h := sum_times n l
    unfold Sy65.times at h ⊢
    rw [List.map_cons, List.sum_cons, List.sum_cons, h, Nat.mul_add]
theorem sum_parts (w : List Nat) {a b c : Nat} (h1 : a ≤ b) (h2 : b ≤ c) : (w.take a).sum + (cut w a b).sum + (cut w b c).sum + (w.drop c).sum = w.sum := by
  unfold cut
  have e1 : (w.take a).sum + (w.drop a).sum = w.sum := by rw [← List.sum_append_nat, List.take_append_drop]
  have e2 : ((w.drop a).take (b - a)).sum + ((w.drop a).drop (b - a)).sum = (w.drop a).sum := by rw [← List.sum_append_nat, List.take_append_drop]
  have e3 : ((w.drop b).take (c - b)).sum + ((w.drop b).drop (c - b)).sum = (w.drop b).sum := by rw [← List.sum_append_nat, List.take_append_drop]
  rw [List.drop_drop, show a + (b - a) = b by omega] at e2
  rw [List.drop_drop, show b + (c - b) = c by omega] at e3
  omega
theorem cut_len (w : List Nat) {a b : Nat} (h : b ≤ w.length) : (cut w a b).length = b - a := by
  unfold cut
  rw [List.length_take, List.length_drop]
  omega
theorem lev_len {w : List Nat} {r : R} (h : RodOk w.length r) : (levelled r w).length = w.length := by
  unfold levelled
  have h1 := h.fm
  have h2 := h.ml
  have h3 := h.ln
  rw [List.length_append, List.length_append, List.length_append, times_len, times_len, cut_len w (by omega), cut_len w h3, List.length_take, List.length_drop]
  omega
def Pos (w : List Nat) : Prop := ∀ x ∈ w, 0 < x
theorem mem_cut {w : List Nat} {a b x : Nat} (h : x ∈ cut w a b) : x ∈ w := List.mem_of_mem_drop (List.mem_of_mem_take h)
theorem sum_pos : ∀ {w : List Nat}, Pos w → 0 < w.length → 0 < w.sum
  | [], _, h => absurd h (Nat.lt_irrefl 0)
  | x :: w, p, _ => by
    rw [List.sum_cons]
    have := p x (List.mem_cons_self ..)
    omega
theorem end_pos {w : List Nat} {r : R} (p : Pos w) (h : RodOk w.length r) : 0 < endL r w ∧ 0 < endR r w := by
  have h1 := h.fm
  have h2 := h.ml
  have h3 := h.ln
  constructor
  · refine sum_pos (fun x hx => p x (mem_cut hx)) ?_
    rw [cut_len w (by omega)]
    omega
  · refine sum_pos (fun x hx => p x (mem_cut hx)) ?_
    rw [cut_len w h3]
    omega
theorem pos_times {n : Nat} {l : List Nat} (hn : 0 < n) (p : Pos l) : Pos (Sy65.times n l) := fun x hx => by
  obtain ⟨y, hy, rfl⟩ := List.mem_map.mp hx
  exact Nat.mul_pos hn (p y hy)
theorem div_gcd_pos {p q : Nat} (hp : 0 < p) (hq : 0 < q) : 0 < p / Nat.gcd p q ∧ 0 < q / Nat.gcd p q :=
  ⟨Nat.div_pos (Nat.le_of_dvd hp (Nat.gcd_dvd_left p q)) (Nat.gcd_pos_of_pos_left q hp), Nat.div_pos (Nat.le_of_dvd hq (Nat.gcd_dvd_right p q)) (Nat.gcd_pos_of_pos_left q hp)⟩
theorem lev_pos {w : List Nat} {r : R} (p : Pos w) (h : RodOk w.length r) : Pos (levelled r w) := fun x hx => by
  obtain ⟨e1, e2⟩ := end_pos p h
  obtain ⟨g1, g2⟩ := div_gcd_pos (Nat.mul_pos (show 0 < r.left from h.l1) e1) (Nat.mul_pos (show 0 < r.right from h.r1) e2)
  unfold levelled at hx
  rcases List.mem_append.mp hx with hx | hx
  · rcases List.mem_append.mp hx with hx | hx
    · rcases List.mem_append.mp hx with hx | hx
      · exact p x (List.mem_of_mem_take hx)
      · exact pos_times g2 (fun y hy => p y (mem_cut hy)) x hx
    · exact pos_times g1 (fun y hy => p y (mem_cut hy)) x hx
  · exact p x (List.mem_of_mem_drop hx)
theorem lev_sum {w : List Nat} {r : R} {m : Nat} (h : RodOk w.length r) (hs : w.sum < 2 ^ m) : (levelled r w).sum < 2 ^ (2 * m + 6) := by
  have parts := sum_parts w (Nat.le_of_lt h.fm) (Nat.le_of_lt h.ml)
  unfold levelled
  rw [List.sum_append_nat, List.sum_append_nat, List.sum_append_nat, sum_times, sum_times]
  have hL : endL r w = (cut w r.first r.middle).sum := rfl
  have hR : endR r w = (cut w r.middle r.last).sum := rfl
  rw [← hL, ← hR] at parts ⊢
  generalize endL r w = A at *
  generalize endR r w = B at *
  generalize hS : w.sum = S at *
  have d1 : r.right * B / Nat.gcd (r.left * A) (r.right * B) ≤ 20 * S := Nat.le_trans (Nat.div_le_self _ _) (Nat.mul_le_mul h.r2 (by omega))
  have d2 : r.left * A / Nat.gcd (r.left * A) (r.right * B) ≤ 20 * S := Nat.le_trans (Nat.div_le_self _ _) (Nat.mul_le_mul h.l2 (by omega))
  generalize r.right * B / Nat.gcd (r.left * A) (r.right * B) = u at *
  generalize r.left * A / Nat.gcd (r.left * A) (r.right * B) = v at *
  have m1 : u * A ≤ 20 * S * A := Nat.mul_le_mul_right A d1
  have m2 : v * B ≤ 20 * S * B := Nat.mul_le_mul_right B d2
  have m3 : 20 * S * A + 20 * S * B = 20 * S * (A + B) := by rw [Nat.mul_add]
  have m4 : 20 * S * (A + B) ≤ 20 * S * S := Nat.mul_le_mul_left _ (by omega)
  have m5 : S ≤ S * S := by
    cases S with
    | zero => exact Nat.le_refl _
    | succ s => exact Nat.le_mul_of_pos_left _ (Nat.succ_pos s)
  have m6 : S * S ≤ 2 ^ m * 2 ^ m := Nat.mul_le_mul (Nat.le_of_lt hs) (Nat.le_of_lt hs)
  have m7 : 20 * S * S = 20 * (S * S) := Nat.mul_assoc _ _ _
  have m8 : 2 ^ (2 * m + 6) = 64 * (2 ^ m * 2 ^ m) := by
    rw [Nat.pow_add, Nat.two_mul, Nat.pow_add]
    omega
  have m9 : 0 < 2 ^ m * 2 ^ m := Nat.mul_pos (Nat.two_pow_pos m) (Nat.two_pow_pos m)
  rw [m8]
  omega
end Mob

set_option Elab.async false
set_option maxHeartbeats 1000000
namespace Mob
open Sy65 (Tree)

/-! ### pulls, arms -/
def pullOf (r : R) (w : List Nat) : Int := ((r.left * endL r w : Nat) : Int) - ((r.right * endR r w : Nat) : Int)
def armsW (r : R) (w : List Nat) : List Nat := [endR r w / Nat.gcd (endL r w) (endR r w), endL r w / Nat.gcd (endL r w) (endR r w)]
/-- a reading of each rod, taken from the rods' records, is the same taken from the tree -/
theorem rod_walk {β : Type} (F : R → List Nat → β) (G : Nat → Nat → Nat → Nat → β) (T : Tree → List Nat → List β) (hk : ∀ w, T .hook w = [])
    (hF : ∀ s l r f m la w, F ⟨s, l, r, f, m, la⟩ w = G l r (cut w f m).sum (cut w m la).sum)
    (hT : ∀ l r a b w, T (.rod l r a b) w = G l r (w.take (Sy65.hooks a)).sum (w.drop (Sy65.hooks a)).sum :: (T a (w.take (Sy65.hooks a)) ++ T b (w.drop (Sy65.hooks a)))) :
    ∀ (t : Tree) (p : Nat) (pre w post : List Nat), w.length = Sy65.hooks t → (rodsOf p pre.length t).map (fun r => F r (pre ++ w ++ post)) = T t w
  | .hook, _, _, w, _, _ => (hk w).symm
  | .rod l r a b, p, pre, w, post, h => by
    have hh : w.length = Sy65.hooks a + Sy65.hooks b := h
    rw [hT]
    have lx : (w.take (Sy65.hooks a)).length = Sy65.hooks a := by rw [List.length_take]; omega
    have ly : (w.drop (Sy65.hooks a)).length = Sy65.hooks b := by rw [List.length_drop]; omega
    have ew : w = w.take (Sy65.hooks a) ++ w.drop (Sy65.hooks a) := (List.take_append_drop _ _).symm
    generalize w.take (Sy65.hooks a) = x at *
    generalize w.drop (Sy65.hooks a) = y at *
    have ex : pre ++ w ++ post = pre ++ x ++ y ++ post := by rw [ew]; simp
    rw [ex]
    obtain ⟨e1, e2⟩ := ends_at pre x y post (f := pre.length) (m := pre.length + Sy65.hooks a) (la := pre.length + Sy65.hooks a + Sy65.hooks b) rfl (by rw [lx]) (by rw [ly])
    show F _ _ :: List.map _ (rodsOf (p + 2) pre.length a ++ rodsOf (p + 2 + (Sy65.numbers a).length) (pre.length + Sy65.hooks a) b) = _
    rw [List.map_append, hF, e1, e2]
    have i1 := rod_walk F G T hk hF hT a (p + 2) pre x (y ++ post) lx
    have i2 := rod_walk F G T hk hF hT b (p + 2 + (Sy65.numbers a).length) (pre ++ x) y post ly
    rw [List.length_append, lx] at i2
    rw [i2]
    rw [show pre ++ x ++ (y ++ post) = pre ++ x ++ y ++ post by simp] at i1
    rw [i1]
theorem pulls_eq (t : Tree) (w : List Nat) (h : w.length = Sy65.hooks t) : (rodsOf 0 0 t).map (fun r => pullOf r w) = (Sy65.pulls t w).map fun (p : Nat × Nat) => (p.1 : Int) - (p.2 : Int) := by
  have q := rod_walk pullOf (fun l r x y => ((l * x : Nat) : Int) - ((r * y : Nat) : Int)) (fun t w => (Sy65.pulls t w).map fun (p : Nat × Nat) => (p.1 : Int) - (p.2 : Int)) (fun _ => rfl) (fun _ _ _ _ _ _ _ => rfl)
    (fun l r a b w => by
      show List.map _ (_ :: (Sy65.pulls a _ ++ Sy65.pulls b _)) = _
      rw [List.map_cons, List.map_append]
      rfl) t 0 [] w [] h
  simpa using q
theorem arms_eq (t : Tree) (w : List Nat) (h : w.length = Sy65.hooks t) : (rodsOf 0 0 t).flatMap (fun r => armsW r w) = (Sy65.arms t w).flatMap fun (p : Nat × Nat) => [p.1, p.2] := by
  have q := rod_walk armsW (fun _ _ x y => [y / Nat.gcd x y, x / Nat.gcd x y]) (fun t w => (Sy65.arms t w).map fun (p : Nat × Nat) => [p.1, p.2]) (fun _ => rfl) (fun _ _ _ _ _ _ _ => rfl)
    (fun l r a b w => by
      show List.map _ (_ :: (Sy65.arms a _ ++ Sy65.arms b _)) = _
      rw [List.map_cons, List.map_append]
      rfl) t 0 [] w [] h
  have e : (rodsOf 0 0 t).map (fun r => armsW r w) = (Sy65.arms t w).map fun (p : Nat × Nat) => [p.1, p.2] := by simpa using q
  rw [List.flatMap_def, List.flatMap_def, e]
theorem balanced_eq (t : Tree) (w : List Nat) (h : w.length = Sy65.hooks t) : ((rodsOf 0 0 t).map (fun r => pullOf r w)).all (fun p => decide (p = 0)) = Sy65.balanced t w := by
  rw [pulls_eq t w h]
  unfold Sy65.balanced
  rw [List.all_map]
  congr 1
  funext p
  show decide ((p.1 : Int) - (p.2 : Int) = 0) = (p.1 == p.2)
  by_cases e : p.1 = p.2
  · rw [e]; simp
  · have e1 : (p.1 == p.2) = false := by simpa using e
    rw [e1, decide_eq_false (by omega)]

/-! ### other arms -/
def withLR (l r : Nat) (q : R) : R := { q with left := l, right := r }
theorem withArms_hooks (l r : Nat) : ∀ (t : Tree) (k : Nat), Sy65.hooks (Sy65.withArms l r k t) = Sy65.hooks t
  | .hook, _ => by unfold Sy65.withArms; rfl
  | .rod x y a b, k => by
    unfold Sy65.withArms
    split
    · rfl
    · split
      · show Sy65.hooks _ + _ = Sy65.hooks a + Sy65.hooks b; rw [withArms_hooks l r a]
      · show _ + Sy65.hooks _ = Sy65.hooks a + Sy65.hooks b; rw [withArms_hooks l r b]
theorem withArms_rods (l r : Nat) (t : Tree) (k : Nat) : Sy65.rods (Sy65.withArms l r k t) = Sy65.rods t := by
  have h1 := hooks_rods (Sy65.withArms l r k t)
  have h2 := hooks_rods t
  have h3 := withArms_hooks l r t k
  omega
theorem withArms_nlen (l r : Nat) (t : Tree) (k : Nat) : (Sy65.numbers (Sy65.withArms l r k t)).length = (Sy65.numbers t).length := by
  rw [numbers_len, numbers_len, withArms_hooks, withArms_rods]
theorem withArms_wf {l r : Nat} (h1 : 1 ≤ l) (h2 : l ≤ 20) (h3 : 1 ≤ r) (h4 : r ≤ 20) : ∀ (t : Tree) (k : Nat), Wf t → Wf (Sy65.withArms l r k t)
  | .hook, _, _ => by unfold Sy65.withArms; trivial
  | .rod x y a b, k, w => by
    obtain ⟨w1, w2, w3, w4, wa, wb⟩ := w
    unfold Sy65.withArms
    split
    · exact ⟨h1, h2, h3, h4, wa, wb⟩
    · split
      · exact ⟨w1, w2, w3, w4, withArms_wf h1 h2 h3 h4 a _ wa, wb⟩
      · exact ⟨w1, w2, w3, w4, wa, withArms_wf h1 h2 h3 h4 b _ wb⟩
theorem withArms_at (l r : Nat) : ∀ (t : Tree) (k p f : Nat), k < Sy65.rods t → ∃ (q : R) (s : Nat), (rodsOf p f t)[k]? = some q ∧ q.spot = p + s ∧ s + 2 ≤ (Sy65.numbers t).length ∧
    Sy65.numbers (Sy65.withArms l r k t) = (Sy65.numbers t).take s ++ [l, r] ++ (Sy65.numbers t).drop (s + 2) ∧ rodsOf p f (Sy65.withArms l r k t) = (rodsOf p f t).set k (withLR l r q)
  | .hook, k, _, _, h => absurd h (Nat.not_lt_zero k)
  | .rod x y a b, k, p, f, h => by
    have hr : Sy65.rods (.rod x y a b) = Sy65.rods a + Sy65.rods b + 1 := rfl
    have hn : Sy65.numbers (.rod x y a b) = x :: y :: (Sy65.numbers a ++ Sy65.numbers b) := rfl
    have hR : rodsOf p f (.rod x y a b) = ⟨p, x, y, f, f + Sy65.hooks a, f + Sy65.hooks a + Sy65.hooks b⟩ :: (rodsOf (p + 2) f a ++ rodsOf (p + 2 + (Sy65.numbers a).length) (f + Sy65.hooks a) b) := rfl
    have hla : (rodsOf (p + 2) f a).length = Sy65.rods a := rodsOf_len a _ _
    rw [hr] at h
    rw [hn, hR]
    cases k with
    | zero =>
      refine ⟨_, 0, rfl, rfl, by simp, ?_, ?_⟩
      · show Sy65.numbers (.rod l r a b) = _
        simp
        rfl
      · rfl
    | succ k =>
      by_cases c : k < Sy65.rods a
      · obtain ⟨q, s, e1, e2, e3, e4, e5⟩ := withArms_at l r a k (p + 2) f c
        have ew : Sy65.withArms l r (k + 1) (.rod x y a b) = .rod x y (Sy65.withArms l r k a) b := by
          rw [Sy65.withArms]
          rw [if_neg (by omega), if_pos (by simpa using c)]
          simp
        refine ⟨q, s + 2, ?_, by omega, by simp; omega, ?_, ?_⟩
        · rw [List.getElem?_cons_succ, List.getElem?_append_left (by omega)]
          exact e1
        · rw [ew]
          show x :: y :: (Sy65.numbers (Sy65.withArms l r k a) ++ Sy65.numbers b) = _
          rw [e4]
          simp only [List.take_succ_cons, List.drop_succ_cons, List.cons_append, List.append_assoc]
          rw [List.take_append_of_le_length (by omega), List.drop_append_of_le_length (by omega)]
        · rw [ew]
          show _ :: (rodsOf (p + 2) f (Sy65.withArms l r k a) ++ rodsOf (p + 2 + (Sy65.numbers (Sy65.withArms l r k a)).length) (f + Sy65.hooks (Sy65.withArms l r k a)) b) = _
          rw [e5, withArms_nlen, withArms_hooks, List.set_cons_succ, List.set_append_left _ _ (by omega)]
      · obtain ⟨q, s, e1, e2, e3, e4, e5⟩ := withArms_at l r b (k - Sy65.rods a) (p + 2 + (Sy65.numbers a).length) (f + Sy65.hooks a) (by omega)
        have ew : Sy65.withArms l r (k + 1) (.rod x y a b) = .rod x y a (Sy65.withArms l r (k - Sy65.rods a) b) := by
          rw [Sy65.withArms]
          rw [if_neg (by omega), if_neg (by simpa using c)]
          simp
        refine ⟨q, s + 2 + (Sy65.numbers a).length, ?_, by omega, by simp; omega, ?_, ?_⟩
        · rw [List.getElem?_cons_succ, List.getElem?_append_right (by omega), hla]
          exact e1
        · rw [ew]
          show x :: y :: (Sy65.numbers a ++ Sy65.numbers (Sy65.withArms l r (k - Sy65.rods a) b)) = _
          rw [e4]
          rw [show s + 2 + (Sy65.numbers a).length = ((Sy65.numbers a).length + s) + 1 + 1 by omega, show (Sy65.numbers a).length + s + 1 + 1 + 2 = ((Sy65.numbers a).length + (s + 2)) + 1 + 1 by omega]
          simp only [List.take_succ_cons, List.drop_succ_cons, List.cons_append, List.append_assoc]
          rw [List.take_append, List.drop_append, List.take_of_length_le (by omega : (Sy65.numbers a).length ≤ _), List.drop_eq_nil_of_le (by omega : (Sy65.numbers a).length ≤ _)]
          simp
        · rw [ew]
          show _ :: (rodsOf (p + 2) f a ++ rodsOf (p + 2 + (Sy65.numbers a).length) (f + Sy65.hooks a) (Sy65.withArms l r (k - Sy65.rods a) b)) = _
          have eh : Sy65.hooks (Sy65.withArms l r (k - Sy65.rods a) b) = Sy65.hooks b := withArms_hooks l r b _
          rw [e5, eh, List.set_cons_succ, List.set_append_right _ _ (by omega), hla]
end Mob

set_option Elab.async false
set_option maxHeartbeats 1000000
namespace Mob
open Sy65 (Tree)

/-! ### times -/
def timesAt (w l : Nat) : Nat := if w % l = 0 then w / l else 0
def allTimes (w l : List Nat) : List Nat := (w.zip l).map fun x => timesAt x.1 x.2
def someOf (w l : List Nat) : List Nat := ((w.zip (allTimes w l)).filter fun x => decide (0 < x.1)).map (·.2)
def common (w l : List Nat) : Nat := match someOf w l with
  | [] => 1
  | t :: r => if (t :: r).all (fun x => decide (x = t)) = true then t else 0
/-- the specification's madeUp, by two lists -/
def mu (w l : List Nat) : Option Nat := match (w.zip l).filter fun (x : Nat × Nat) => x.1 != 0 with
  | [] => some 1
  | x :: l => if x.1 % x.2 = 0 ∧ l.all (fun (y : Nat × Nat) => y.1 == x.1 / x.2 * y.2) = true then some (x.1 / x.2) else none
theorem mu_is (s : Sy65.St) : Sy65.madeUp s = mu s.hung (Sy65.least s.tree) := rfl
theorem someOf_eq : ∀ w l : List Nat, someOf w l = ((w.zip l).filter fun x => x.1 != 0).map fun x => timesAt x.1 x.2
  | [], l => by simp [someOf]
  | _ :: _, [] => by simp [someOf, allTimes]
  | a :: w, b :: l => by
    have ih := someOf_eq w l
    unfold someOf allTimes at ih ⊢
    simp only [List.zip_cons_cons, List.map_cons, List.filter_cons]
    by_cases c : a = 0
    · subst c
      simpa using ih
    · have c1 : 0 < a := by omega
      simp only [c1, decide_true, if_true, List.map_cons, ih]
      have c2 : (a != 0) = true := by simpa using c
      simp [c2]
theorem timesAt_eq {w l k : Nat} (hl : 0 < l) (hk : 0 < k) : timesAt w l = k ↔ w = k * l := by
  unfold timesAt
  constructor
  · intro h
    split at h
    · rename_i c
      have := Nat.div_add_mod w l
      rw [c, h] at this
      rw [Nat.mul_comm]
      omega
    · omega
  · intro h
    subst h
    rw [if_pos (Nat.mul_mod_left k l), Nat.mul_div_cancel _ hl]
theorem all_pos {w l : List Nat} (hl : Pos l) : ∀ x ∈ (w.zip l).filter (fun x => x.1 != 0), 0 < x.1 ∧ 0 < x.2 := fun x hx => by
  obtain ⟨h1, h2⟩ := List.mem_filter.mp hx
  have h3 : x.2 ∈ l := (List.of_mem_zip (a := x.1) (b := x.2) h1).2
  have h4 : x.1 ≠ 0 := by simpa using h2
  exact ⟨by omega, hl _ h3⟩
theorem common_eq {w l : List Nat} (hl : Pos l) : common w l = (mu w l).getD 0 ∧ ∀ n, mu w l = some n → 0 < n := by
  unfold common mu
  rw [someOf_eq]
  have ap := all_pos (w := w) hl
  generalize (w.zip l).filter (fun x => x.1 != 0) = P at *
  cases P with
  | nil =>
    refine ⟨rfl, fun n h => ?_⟩
    cases h
    exact Nat.one_pos
  | cons x r =>
    obtain ⟨x1, x2⟩ := ap x (List.mem_cons_self ..)
    rw [List.map_cons]
    dsimp only
    by_cases c : x.1 % x.2 = 0
    · have tx : timesAt x.1 x.2 = x.1 / x.2 := if_pos c
      have kp : 0 < x.1 / x.2 := Nat.div_pos (Nat.le_of_dvd x1 (Nat.dvd_of_mod_eq_zero c)) x2
      have e : (timesAt x.1 x.2 :: r.map fun x => timesAt x.1 x.2).all (fun z => decide (z = timesAt x.1 x.2)) = r.all fun (y : Nat × Nat) => y.1 == x.1 / x.2 * y.2 := by
        rw [List.all_cons, decide_eq_true rfl, Bool.true_and, List.all_map]
        have key : ∀ r' : List (Nat × Nat), (∀ y ∈ r', 0 < y.2) → r'.all ((fun z => decide (z = timesAt x.1 x.2)) ∘ fun x => timesAt x.1 x.2) = r'.all fun (y : Nat × Nat) => y.1 == x.1 / x.2 * y.2 := by
          intro r'
          induction r' with
          | nil => intro _; rfl
          | cons y r' ih =>
            intro hy
            rw [List.all_cons, List.all_cons, ih fun z hz => hy z (List.mem_cons_of_mem _ hz)]
            congr 1
            show decide (timesAt y.1 y.2 = timesAt x.1 x.2) = (y.1 == x.1 / x.2 * y.2)
            rw [tx]
            by_cases d : y.1 = x.1 / x.2 * y.2
            · rw [decide_eq_true ((timesAt_eq (hy y (List.mem_cons_self ..)) kp).mpr d)]
              exact (beq_iff_eq.mpr d).symm
            · rw [decide_eq_false (fun h => d ((timesAt_eq (hy y (List.mem_cons_self ..)) kp).mp h))]
              exact (beq_eq_false_iff_ne.mpr d).symm
        exact key r fun y hy => (ap y (List.mem_cons_of_mem _ hy)).2
      rw [e, tx]
      by_cases d : r.all (fun (y : Nat × Nat) => y.1 == x.1 / x.2 * y.2) = true
      · rw [if_pos d, if_pos ⟨c, d⟩]
        refine ⟨rfl, fun n h => ?_⟩
        cases h
        exact kp
      · rw [if_neg d, if_neg (fun h => d h.2)]
        exact ⟨rfl, fun n h => by cases h⟩
    · have tx : timesAt x.1 x.2 = 0 := if_neg c
      rw [tx, if_neg (show ¬ (x.1 % x.2 = 0 ∧ _) from fun h => c h.1)]
      refine ⟨?_, fun n h => by cases h⟩
      split <;> rfl

/-! ### the nearest multiple -/
def posTimes (w l : List Nat) : List Nat := (allTimes w l).filter fun t => decide (0 < t)
theorem scales_eq : ∀ (w l : List Nat), Pos l → ((w.zip l).filter fun (x : Nat × Nat) => x.1 != 0 && x.1 % x.2 == 0).map (fun (x : Nat × Nat) => x.1 / x.2) = posTimes w l
  | [], _, _ => rfl
  | _ :: _, [], _ => rfl
  | a :: w, b :: l, hl => by
    have ih := scales_eq w l fun x hx => hl x (List.mem_cons_of_mem _ hx)
    have hb : 0 < b := hl b (List.mem_cons_self ..)
    unfold posTimes allTimes at ih ⊢
    simp only [List.zip_cons_cons, List.map_cons, List.filter_cons]
    by_cases c : a % b = 0
    · have tx : timesAt a b = a / b := if_pos c
      by_cases d : a = 0
      · subst d
        simpa [timesAt] using ih
      · have kp : 0 < a / b := Nat.div_pos (Nat.le_of_dvd (by omega) (Nat.dvd_of_mod_eq_zero c)) hb
        have c1 : (a != 0 && a % b == 0) = true := by simp [d, c]
        rw [if_pos c1, tx, if_pos (decide_eq_true kp), List.map_cons, ih]
    · have tx : timesAt a b = 0 := if_neg c
      have c1 : (a != 0 && a % b == 0) = false := by simp [c]
      rw [if_neg (by rw [c1]; exact Bool.false_ne_true), tx, if_neg (by simp), ih]
theorem right_eq : ∀ (w l : List Nat) (n : Nat), Pos l → 0 < n → ((w.zip (Sy65.times n l)).filter fun (x : Nat × Nat) => x.1 == x.2).length = (posTimes w l).count n
  | [], _, _, _, _ => rfl
  | _ :: _, [], _, _, _ => rfl
  | a :: w, b :: l, n, hl, hn => by
    have ih := right_eq w l n (fun x hx => hl x (List.mem_cons_of_mem _ hx)) hn
    have hb : 0 < b := hl b (List.mem_cons_self ..)
    unfold posTimes allTimes Sy65.times at ih ⊢
    simp only [List.zip_cons_cons, List.map_cons, List.filter_cons]
    by_cases c : a = n * b
    · have tx : timesAt a b = n := (timesAt_eq hb hn).mpr c
      rw [if_pos (beq_iff_eq.mpr c), tx, if_pos (decide_eq_true hn), List.length_cons, ih, List.count_cons_self]
    · have tx : timesAt a b ≠ n := fun h => c ((timesAt_eq hb hn).mp h)
      rw [if_neg (by simpa using c), ih]
      split
      · rw [List.count_cons_of_ne tx]
      · rfl
def pick (R : Nat → Nat) (m x : Nat) : Nat := if R m < R x ∨ (R m = R x ∧ x < m) then x else m
theorem pick_fold (R : Nat → Nat) : ∀ (l : List Nat) (n : Nat), l.foldl (pick R) n ∈ n :: l ∧ ∀ x ∈ n :: l, R x < R (l.foldl (pick R) n) ∨ (R x = R (l.foldl (pick R) n) ∧ l.foldl (pick R) n ≤ x)
  | [], n => ⟨List.mem_cons_self .., fun x hx => by
      have e : x = n := by simpa using hx
      subst e
      exact .inr ⟨rfl, Nat.le_refl _⟩⟩
  | a :: l, n => by
    obtain ⟨h1, h2⟩ := pick_fold R l (pick R n a)
    have hp : pick R n a = a ∨ pick R n a = n := by
      unfold pick
      split
      · exact .inl rfl
      · exact .inr rfl
    have hn : ∀ x, x = n ∨ x = a → R x < R (pick R n a) ∨ (R x = R (pick R n a) ∧ pick R n a ≤ x) := by
      intro x hx
      unfold pick
      split
      · rename_i c
        rcases hx with rfl | rfl
        · omega
        · omega
      · rename_i c
        rcases hx with rfl | rfl
        · omega
        · omega
    rw [List.foldl_cons]
    generalize hf : List.foldl (pick R) (pick R n a) l = f at *
    constructor
    · rcases List.mem_cons.mp h1 with e | e
      · rcases hp with q | q
        · rw [e, q]; exact List.mem_cons_of_mem _ (List.mem_cons_self ..)
        · rw [e, q]; exact List.mem_cons_self ..
      · exact List.mem_cons_of_mem _ (List.mem_cons_of_mem _ e)
    · intro x hx
      have hp2 := h2 (pick R n a) (List.mem_cons_self ..)
      rcases List.mem_cons.mp hx with e | e
      · have := hn x (.inl e); omega
      · rcases List.mem_cons.mp e with e | e
        · have := hn x (.inr e); omega
        · exact h2 x (List.mem_cons_of_mem _ e)
/-- the spec's nearest is any number that is best as the program asks it -/
theorem nearest_eq {s : Sy65.St} (hl : Pos (Sy65.least s.tree)) :
    (posTimes s.hung (Sy65.least s.tree) = [] → Sy65.nearest s = 1) ∧
    (∀ m, m ∈ posTimes s.hung (Sy65.least s.tree) → (∀ x ∈ posTimes s.hung (Sy65.least s.tree), (posTimes s.hung (Sy65.least s.tree)).count x ≤ (posTimes s.hung (Sy65.least s.tree)).count m) →
      (∀ x ∈ posTimes s.hung (Sy65.least s.tree), (posTimes s.hung (Sy65.least s.tree)).count x = (posTimes s.hung (Sy65.least s.tree)).count m → m ≤ x) → Sy65.nearest s = m) := by
  have hs : Sy65.scales s = posTimes s.hung (Sy65.least s.tree) := scales_eq _ _ hl
  have hR : ∀ n ∈ posTimes s.hung (Sy65.least s.tree), Sy65.right s n = (posTimes s.hung (Sy65.least s.tree)).count n := fun n hn =>
    right_eq _ _ n hl (of_decide_eq_true (List.mem_filter.mp hn).2)
  generalize posTimes s.hung (Sy65.least s.tree) = L at *
  unfold Sy65.nearest
  rw [hs]
  constructor
  · intro e
    rw [e]
  · intro m hm h1 h2
    cases L with
    | nil => cases hm
    | cons n r =>
      show r.foldl (pick (Sy65.right s)) n = m
      obtain ⟨q1, q2⟩ := pick_fold (Sy65.right s) r n
      generalize r.foldl (pick (Sy65.right s)) n = f at *
      have a1 := q2 m hm
      have a2 := h1 f q1
      have a3 := h2 f q1
      rw [hR m hm, hR f q1] at a1
      omega
theorem right_le (s : Sy65.St) (n : Nat) : Sy65.right s n ≤ s.hung.length := by
  unfold Sy65.right
  refine Nat.le_trans (List.length_filter_le _ _) ?_
  rw [List.length_zip]
  exact Nat.min_le_left _ _

/-! ### missing -/
theorem zip_set : ∀ (w l : List Nat) (h : Nat), ((w.set h 0).zip l).filter (fun (x : Nat × Nat) => x.1 != 0) = ((w.take h ++ w.drop (h + 1)).zip (l.take h ++ l.drop (h + 1))).filter fun (x : Nat × Nat) => x.1 != 0
  | [], l, h => by simp
  | a :: w, [], h => by simp
  | a :: w, b :: l, 0 => by simp
  | a :: w, b :: l, h + 1 => by
    have ih := zip_set w l h
    simp only [List.set_cons_succ, List.zip_cons_cons, List.filter_cons, List.take_succ_cons, List.drop_succ_cons, List.cons_append, ih]
theorem mu_set (w l : List Nat) (h : Nat) : mu (w.set h 0) l = mu (w.take h ++ w.drop (h + 1)) (l.take h ++ l.drop (h + 1)) := by
  unfold mu
  rw [zip_set]
theorem zipIdx_any : ∀ (w : List Nat) (h k : Nat), (w.zipIdx k).any (fun (x : Nat × Nat) => x.2 != h + k && x.1 == 0) = (w.take h ++ w.drop (h + 1)).contains 0
  | [], _, _ => by simp
  | a :: w, 0, k => by
    rw [List.zipIdx_cons, List.any_cons]
    have e : (k != 0 + k) = false := by simp
    simp only [e, Bool.false_and, Bool.false_or, List.take_zero, List.nil_append, List.drop_succ_cons, List.drop_zero]
    have key : ∀ (w : List Nat) (j : Nat), k < j → (w.zipIdx j).any (fun (x : Nat × Nat) => x.2 != 0 + k && x.1 == 0) = w.contains 0 := by
      intro w
      induction w with
      | nil => intro j _; rfl
      | cons b w ih =>
        intro j hj
        rw [List.zipIdx_cons, List.any_cons, ih (j + 1) (by omega), List.contains_cons]
        have e2 : (j != 0 + k) = true := by simp; omega
        dsimp only
        rw [e2, Bool.true_and]
        congr 1
        exact Bool.eq_iff_iff.mpr ⟨fun h => by simpa using (beq_iff_eq.mp h).symm, fun h => by simpa using (beq_iff_eq.mp h).symm⟩
    exact key w (k + 1) (Nat.lt_succ_self k)
  | a :: w, h + 1, k => by
    have ih := zipIdx_any w h (k + 1)
    rw [List.zipIdx_cons, List.any_cons, List.take_succ_cons, List.drop_succ_cons, List.cons_append, List.contains_cons]
    have e : (k != h + 1 + k) = true := bne_iff_ne.mpr (by omega)
    dsimp only
    rw [e, Bool.true_and, ← ih, show h + 1 + k = h + (k + 1) by omega]
    congr 1
    exact Bool.eq_iff_iff.mpr ⟨fun h => by simpa using (beq_iff_eq.mp h).symm, fun h => by simpa using (beq_iff_eq.mp h).symm⟩
theorem zipIdx_any0 (w : List Nat) (h : Nat) : (w.zipIdx.any fun (x : Nat × Nat) => x.2 != h && x.1 == 0) = (w.take h ++ w.drop (h + 1)).contains 0 := zipIdx_any w h 0
end Mob

set_option Elab.async false
set_option maxHeartbeats 1000000
namespace Mob
open Sy65 (Tree)

theorem times_take (n k : Nat) (l : List Nat) : (Sy65.times n l).take k = Sy65.times n (l.take k) := (List.map_take ..).symm
theorem times_drop (n k : Nat) (l : List Nat) : (Sy65.times n l).drop k = Sy65.times n (l.drop k) := (List.map_drop ..).symm
theorem times_times (n m : Nat) (l : List Nat) : Sy65.times n (Sy65.times m l) = Sy65.times (n * m) l := by
  unfold Sy65.times
  rw [List.map_map]
  congr 1
  funext x
  exact (Nat.mul_assoc n m x).symm
theorem times_app (n : Nat) (l r : List Nat) : Sy65.times n (l ++ r) = Sy65.times n l ++ Sy65.times n r := List.map_append
theorem least_pos : ∀ t : Tree, Wf t → Pos (Sy65.least t)
  | .hook, _ => fun x hx => by
    have e : x = 1 := by simpa [Sy65.least] using hx
    omega
  | .rod l r a b, w => by
    obtain ⟨w1, w2, w3, w4, wa, wb⟩ := w
    have pa := least_pos a wa
    have pb := least_pos b wb
    have sa := sum_pos pa (by rw [least_len]; exact hooks_pos a)
    have sb := sum_pos pb (by rw [least_len]; exact hooks_pos b)
    obtain ⟨g1, g2⟩ := div_gcd_pos (Nat.mul_pos (show 0 < l from w1) sa) (Nat.mul_pos (show 0 < r from w3) sb)
    intro x hx
    unfold Sy65.least at hx
    rcases List.mem_append.mp hx with h | h
    · exact pos_times g2 pa x h
    · exact pos_times g1 pb x h
theorem least_sum_pos (t : Tree) (w : Wf t) : 0 < (Sy65.least t).sum := sum_pos (least_pos t w) (by rw [least_len]; exact hooks_pos t)
theorem bal_rod (l r : Nat) (a b : Tree) (w : List Nat) : Sy65.balanced (.rod l r a b) w = (l * (w.take (Sy65.hooks a)).sum == r * (w.drop (Sy65.hooks a)).sum && (Sy65.balanced a (w.take (Sy65.hooks a)) && Sy65.balanced b (w.drop (Sy65.hooks a)))) := by
  unfold Sy65.balanced
  show (_ :: (Sy65.pulls a _ ++ Sy65.pulls b _)).all _ = _
  rw [List.all_cons, List.all_append]
  rfl
theorem cross (p q : Nat) : q / Nat.gcd p q * p = p / Nat.gcd p q * q := by
  rw [Nat.div_mul_right_comm (Nat.gcd_dvd_right p q), Nat.div_mul_right_comm (Nat.gcd_dvd_left p q), Nat.mul_comm]
/-- so many times the least weights balance -/
theorem bal_least : ∀ (t : Tree) (n : Nat), Sy65.balanced t (Sy65.times n (Sy65.least t)) = true
  | .hook, _ => rfl
  | .rod l r a b, n => by
    rw [bal_rod]
    have e : Sy65.least (.rod l r a b) = Sy65.times (r * (Sy65.least b).sum / Nat.gcd (l * (Sy65.least a).sum) (r * (Sy65.least b).sum)) (Sy65.least a) ++ Sy65.times (l * (Sy65.least a).sum / Nat.gcd (l * (Sy65.least a).sum) (r * (Sy65.least b).sum)) (Sy65.least b) := rfl
    have c := cross (l * (Sy65.least a).sum) (r * (Sy65.least b).sum)
    rw [e, times_app, times_times, times_times]
    generalize r * (Sy65.least b).sum / Nat.gcd (l * (Sy65.least a).sum) (r * (Sy65.least b).sum) = u at *
    generalize l * (Sy65.least a).sum / Nat.gcd (l * (Sy65.least a).sum) (r * (Sy65.least b).sum) = v at *
    have l1 : (Sy65.times (n * u) (Sy65.least a)).length = Sy65.hooks a := by rw [times_len, least_len]
    rw [List.take_append_of_le_length (by omega), List.take_of_length_le (by omega), List.drop_append_of_le_length (by omega), List.drop_eq_nil_of_le (by omega), List.nil_append, sum_times, sum_times, bal_least a, bal_least b]
    have c2 : l * (n * u * (Sy65.least a).sum) = r * (n * v * (Sy65.least b).sum) := by
      have e1 : l * (n * u * (Sy65.least a).sum) = n * (u * (l * (Sy65.least a).sum)) := by
        simp only [Nat.mul_assoc, Nat.mul_left_comm, Nat.mul_comm]
      have e2 : r * (n * v * (Sy65.least b).sum) = n * (v * (r * (Sy65.least b).sum)) := by
        simp only [Nat.mul_assoc, Nat.mul_left_comm, Nat.mul_comm]
      rw [e1, e2, c]
    rw [beq_iff_eq.mpr c2]
    rfl
theorem ratio {p q x y : Nat} (hp : 0 < p) (h : x * p = y * q) : ∃ k, x = k * (q / Nat.gcd p q) ∧ y = k * (p / Nat.gcd p q) := by
  have g0 : 0 < Nat.gcd p q := Nat.gcd_pos_of_pos_left q hp
  have ep : Nat.gcd p q * (p / Nat.gcd p q) = p := Nat.mul_div_cancel' (Nat.gcd_dvd_left p q)
  have eq : Nat.gcd p q * (q / Nat.gcd p q) = q := Nat.mul_div_cancel' (Nat.gcd_dvd_right p q)
  have co : Nat.Coprime (p / Nat.gcd p q) (q / Nat.gcd p q) := Nat.coprime_div_gcd_div_gcd g0
  have p0 : 0 < p / Nat.gcd p q := Nat.div_pos (Nat.le_of_dvd hp (Nat.gcd_dvd_left p q)) g0
  generalize p / Nat.gcd p q = p' at *
  generalize q / Nat.gcd p q = q' at *
  generalize Nat.gcd p q = g at *
  have h2 : x * p' = y * q' := by
    rw [← ep, ← eq] at h
    have e1 : x * (g * p') = g * (x * p') := by simp only [Nat.mul_left_comm]
    have e2 : y * (g * q') = g * (y * q') := by simp only [Nat.mul_left_comm]
    rw [e1, e2] at h
    exact Nat.eq_of_mul_eq_mul_left g0 h
  have d : p' ∣ y := co.dvd_of_dvd_mul_right (by rw [← h2]; exact Nat.dvd_mul_left p' x)
  obtain ⟨k, hk⟩ := d
  refine ⟨k, ?_, by rw [hk, Nat.mul_comm]⟩
  rw [hk] at h2
  have e3 : p' * x = p' * (k * q') := by rw [Nat.mul_comm p' x, h2, Nat.mul_assoc]
  exact Nat.eq_of_mul_eq_mul_left p0 e3
/-- all that balances is so many times the least weights -/
theorem bal_mul : ∀ (t : Tree) (w : List Nat), Wf t → w.length = Sy65.hooks t → Sy65.balanced t w = true → ∃ n, w = Sy65.times n (Sy65.least t)
  | .hook, [], _, h, _ => by cases h
  | .hook, [x], _, _, _ => ⟨x, by simp [Sy65.times, Sy65.least]⟩
  | .hook, _ :: _ :: _, _, h, _ => by simp [Sy65.hooks] at h
  | .rod l r a b, w, wf, h, hb => by
    obtain ⟨w1, w2, w3, w4, wa, wb⟩ := wf
    have hh : w.length = Sy65.hooks a + Sy65.hooks b := h
    rw [bal_rod, Bool.and_eq_true, Bool.and_eq_true] at hb
    obtain ⟨h1, h2, h3⟩ := hb
    obtain ⟨n1, e1⟩ := bal_mul a _ wa (by rw [List.length_take]; omega) h2
    obtain ⟨n2, e2⟩ := bal_mul b _ wb (by rw [List.length_drop]; omega) h3
    have sa := least_sum_pos a wa
    have h4 := beq_iff_eq.mp h1
    rw [e1, e2, sum_times, sum_times] at h4
    have h5 : n1 * (l * (Sy65.least a).sum) = n2 * (r * (Sy65.least b).sum) := by
      rw [Nat.mul_left_comm, h4, Nat.mul_left_comm]
    obtain ⟨k, k1, k2⟩ := ratio (Nat.mul_pos (show 0 < l from w1) sa) h5
    refine ⟨k, ?_⟩
    have e : Sy65.least (.rod l r a b) = Sy65.times (r * (Sy65.least b).sum / Nat.gcd (l * (Sy65.least a).sum) (r * (Sy65.least b).sum)) (Sy65.least a) ++ Sy65.times (l * (Sy65.least a).sum / Nat.gcd (l * (Sy65.least a).sum) (r * (Sy65.least b).sum)) (Sy65.least b) := rfl
    rw [e, times_app, times_times, times_times, ← k1, ← k2, ← e1, ← e2, List.take_append_drop]

/-! ### orders: each once -/
theorem nodup_dups : ∀ (k : Nat) (l : List Nat), l.length ≤ k → l.eraseDups.Nodup
  | _, [], _ => by simp
  | 0, _ :: _, h => absurd h (Nat.not_succ_le_zero _)
  | k + 1, a :: l, h => by
    rw [List.eraseDups_cons, List.nodup_cons]
    refine ⟨fun hm => ?_, nodup_dups k _ (Nat.le_trans (List.length_filter_le _ _) (Nat.le_of_succ_le_succ h))⟩
    have hm2 := List.mem_filter.mp (List.mem_eraseDups.mp hm)
    simp at hm2
theorem mem_orders (t : Tree) : ∀ (f : Nat) (l r : List Nat), l.length ≤ f → (r ∈ Sy65.orders t f l ↔ r.Perm l)
  | 0, l, r, h => by
    have e : l = [] := List.eq_nil_of_length_eq_zero (Nat.le_zero.mp h)
    subst e
    simp [Sy65.orders]
  | f + 1, [], r, _ => by simp [Sy65.orders]
  | f + 1, a :: l, r, h => by
    unfold Sy65.orders
    rw [if_neg (by simp)]
    constructor
    · intro hr
      obtain ⟨w, hw, hr⟩ := List.mem_flatMap.mp hr
      obtain ⟨r', h', rfl⟩ := List.mem_map.mp hr
      have hw2 := List.mem_eraseDups.mp hw
      have hp := (mem_orders t f ((a :: l).erase w) r' (by rw [List.length_erase_of_mem hw2]; simpa using h)).mp h'
      exact (List.Perm.cons w hp).trans (List.perm_cons_erase hw2).symm
    · intro hp
      cases r with
      | nil =>
        have := hp.length_eq
        simp at this
      | cons w r' =>
        have hw2 : w ∈ a :: l := hp.mem_iff.mp (List.mem_cons_self ..)
        refine List.mem_flatMap.mpr ⟨w, List.mem_eraseDups.mpr hw2, List.mem_map.mpr ⟨r', ?_, rfl⟩⟩
        refine (mem_orders t f ((a :: l).erase w) r' (by rw [List.length_erase_of_mem hw2]; simpa using h)).mpr ?_
        exact (hp.trans (List.perm_cons_erase hw2)).cons_inv
theorem nodup_flat {g : Nat → List (List Nat)} (hg : ∀ w, (g w).Nodup) (hd : ∀ w r, r ∈ g w → r.head? = some w) : ∀ l : List Nat, l.Nodup → (l.flatMap g).Nodup
  | [], _ => by simp
  | a :: l, h => by
    rw [List.flatMap_cons, List.nodup_append]
    obtain ⟨h1, h2⟩ := List.nodup_cons.mp h
    refine ⟨hg a, nodup_flat hg hd l h2, fun x hx y hy e => ?_⟩
    subst e
    obtain ⟨w, hw, hy⟩ := List.mem_flatMap.mp hy
    have e1 := hd a x hx
    have e2 := hd w x hy
    rw [e1] at e2
    cases e2
    exact h1 hw
theorem nodup_cons_map (w : Nat) : ∀ l : List (List Nat), l.Nodup → (l.map fun r => w :: r).Nodup
  | [], _ => by simp
  | a :: l, h => by
    obtain ⟨h1, h2⟩ := List.nodup_cons.mp h
    rw [List.map_cons, List.nodup_cons]
    refine ⟨fun hm => ?_, nodup_cons_map w l h2⟩
    obtain ⟨b, hb, e⟩ := List.mem_map.mp hm
    cases e
    exact h1 hb
theorem nodup_orders (t : Tree) : ∀ (f : Nat) (l : List Nat), (Sy65.orders t f l).Nodup
  | 0, _ => by simp [Sy65.orders]
  | f + 1, l => by
    unfold Sy65.orders
    split
    · simp
    · refine nodup_flat (fun w => nodup_cons_map w _ (nodup_orders t f _)) (fun w r hr => ?_) _ (nodup_dups _ l (Nat.le_refl _))
      obtain ⟨r', _, rfl⟩ := List.mem_map.mp hr
      rfl
theorem insert_perm (n : Nat) : ∀ l : List Nat, (Sy65.insert n l).Perm (n :: l)
  | [] => List.Perm.refl _
  | m :: l => by
    unfold Sy65.insert
    split
    · exact List.Perm.refl _
    · exact ((insert_perm n l).cons m).trans (List.Perm.swap n m l)
theorem sorted_perm (l : List Nat) : (Sy65.sorted l).Perm l := by
  have key : ∀ (l m : List Nat), (l.foldl (fun (m : List Nat) (n : Nat) => Sy65.insert n m) m).Perm (m ++ l) := by
    intro l
    induction l with
    | nil => intro m; rw [List.append_nil]; exact List.Perm.refl _
    | cons a l ih =>
      intro m
      rw [List.foldl_cons]
      refine (ih _).trans (((insert_perm a m).append_right l).trans ?_)
      exact (List.perm_middle (a := a) (l₁ := m) (l₂ := l)).symm
  exact key l []
/-- in how many ways: at the most one -/
theorem ways_eq (s : Sy65.St) (l : List Nat) (wf : Wf s.tree) (hl : l.length = Sy65.hooks s.tree) :
    Sy65.ways s l = if (Sy65.times (l.sum / (Sy65.least s.tree).sum) (Sy65.least s.tree)).Perm l then [Sy65.times (l.sum / (Sy65.least s.tree).sum) (Sy65.least s.tree)] else [] := by
  have ls := least_sum_pos s.tree wf
  have sp := sorted_perm l
  have lsl : (Sy65.sorted l).length ≤ l.length := by rw [sp.length_eq]; exact Nat.le_refl _
  have nd : (Sy65.ways s l).Nodup := (nodup_orders s.tree l.length (Sy65.sorted l)).filter _
  have mem : ∀ r, r ∈ Sy65.ways s l ↔ r.Perm l ∧ Sy65.balanced s.tree r = true := fun r => by
    unfold Sy65.ways
    rw [List.mem_filter, mem_orders s.tree _ _ _ lsl]
    exact ⟨fun h => ⟨h.1.trans sp, h.2⟩, fun h => ⟨h.1.trans sp.symm, h.2⟩⟩
  have one : ∀ r, r ∈ Sy65.ways s l → r = Sy65.times (l.sum / (Sy65.least s.tree).sum) (Sy65.least s.tree) := fun r hr => by
    obtain ⟨h1, h2⟩ := (mem r).mp hr
    obtain ⟨n, e⟩ := bal_mul s.tree r wf (by rw [h1.length_eq, hl]) h2
    have e2 : r.sum = l.sum := h1.sum_nat
    rw [e, sum_times] at e2
    rw [← e2, Nat.mul_div_cancel _ ls]
    exact e
  have bd : Sy65.balanced s.tree (Sy65.times (l.sum / (Sy65.least s.tree).sum) (Sy65.least s.tree)) = true := bal_least _ _
  generalize Sy65.times (l.sum / (Sy65.least s.tree).sum) (Sy65.least s.tree) = due at *
  by_cases c : due.Perm l
  · rw [if_pos c]
    have hm : due ∈ Sy65.ways s l := (mem due).mpr ⟨c, bd⟩
    cases hw : Sy65.ways s l with
    | nil => rw [hw] at hm; cases hm
    | cons r rs =>
      have e := one r (by rw [hw]; exact List.mem_cons_self ..)
      subst e
      cases rs with
      | nil => rfl
      | cons r2 rs =>
        have e2 := one r2 (by rw [hw]; exact List.mem_cons_of_mem _ (List.mem_cons_self ..))
        subst e2
        rw [hw] at nd
        exact absurd (List.mem_cons_self ..) (List.nodup_cons.mp nd).1
  · rw [if_neg c]
    cases hw : Sy65.ways s l with
    | nil => rfl
    | cons r rs =>
      have hr : r ∈ Sy65.ways s l := by rw [hw]; exact List.mem_cons_self ..
      have e := one r hr
      subst e
      exact absurd ((mem r).mp hr).1 c
end Mob

set_option Elab.async false
set_option maxHeartbeats 2000000
set_option maxRecDepth 100000
namespace Mob
open Sy65 (Tree)

def manyP (p : Nat) : Nat := [0, 2, 3, 0, 0, 1, 0, 0, 0, 1, 1, 0].getD p 0
def rowsP (p : Nat) : Nat := [1, 0, 0, 0, 0, 0, 0, 0, 0, 1, 0, 0].getD p 0
/-- the call whose number is p, its numbers ns, its row rs -/
def callN : Nat → List Nat → List Nat → Sy65.Call
  | 0, _, rs => .begins rs
  | 1, ns, _ => .hang (ns.getD 0 0) (ns.getD 1 0)
  | 2, ns, _ => .arms_ (ns.getD 0 0) (ns.getD 1 0) (ns.getD 2 0)
  | 3, _, _ => .pulls
  | 4, _, _ => .least
  | 5, ns, _ => .scale (ns.getD 0 0)
  | 6, _, _ => .madeUp
  | 7, _, _ => .mend
  | 8, _, _ => .wants
  | 9, ns, rs => .ways (ns.getD 0 0) rs
  | 10, ns, _ => .missing (ns.getD 0 0)
  | _, _, _ => .state

theorem shape_at : ∀ p : Nat, PySy65.shape (p : Int) = if p < 12 then some (manyP p, rowsP p) else none
  | 0 => rfl
  | 1 => rfl
  | 2 => rfl
  | 3 => rfl
  | 4 => rfl
  | 5 => rfl
  | 6 => rfl
  | 7 => rfl
  | 8 => rfl
  | 9 => rfl
  | 10 => rfl
  | 11 => rfl
  | p + 12 => by
    unfold PySy65.shape
    rw [if_neg (by omega), if_neg (by omega), if_neg (by omega), if_neg (by omega), if_neg (by omega), if_neg (by omega), if_neg (by omega), if_neg (by omega), if_neg (by omega), if_neg (by omega), if_neg (by omega), if_neg (by omega), if_neg (by omega)]
theorem ints_cons (a : Nat) (l : List Nat) : Sy65.ints (a :: l) = (a : Int) :: Sy65.ints l := rfl
theorem ints_take (l : List Nat) (k : Nat) : (Sy65.ints l).take k = Sy65.ints (l.take k) := (List.map_take ..).symm
theorem ints_drop (l : List Nat) (k : Nat) : (Sy65.ints l).drop k = Sy65.ints (l.drop k) := (List.map_drop ..).symm
theorem ints_length (l : List Nat) : (Sy65.ints l).length = l.length := List.length_map _
/-- the rows of a call -/
def rowL (k : Nat) (rs : List Nat) : List (List Int) := if k = 1 then [Sy65.ints rs] else []
/-- how much of what stands behind the numbers is the row, and the row itself -/
def rowOf (k : Nat) (l : List Nat) : Option (List Nat × List Nat) := if k = 1 then (match l with | [] => none | m :: r => if m ≤ r.length then some (r.take m, r.drop m) else none) else some ([], l)
theorem rows_at : ∀ (k : Nat) (l : List Nat), k ≤ 1 → PyFlat.rows k (Sy65.ints l) = (rowOf k l).map fun (x : List Nat × List Nat) => (rowL k x.1, Sy65.ints x.2)
  | 0, l, _ => rfl
  | 1, [], _ => rfl
  | 1, m :: r, _ => by
    unfold PyFlat.rows PyFlat.row rowOf rowL
    rw [ints_cons]
    dsimp only
    rw [Int.toNat_natCast, ints_length]
    by_cases c : m ≤ r.length
    · rw [if_pos ⟨by omega, c⟩, if_pos rfl, if_pos c]
      unfold PyFlat.rows
      dsimp only
      rw [ints_take, ints_drop, Option.map_some, if_pos rfl]
    · rw [if_neg (fun z => c z.2), if_pos rfl, if_neg c]
      rfl
  | k + 2, _, h => by omega
theorem rowsP_le (p : Nat) (h : p < 12) : rowsP p ≤ 1 := by
  match p, h with
  | 0, _ => decide
  | 1, _ => decide
  | 2, _ => decide
  | 3, _ => decide
  | 4, _ => decide
  | 5, _ => decide
  | 6, _ => decide
  | 7, _ => decide
  | 8, _ => decide
  | 9, _ => decide
  | 10, _ => decide
  | 11, _ => decide
/-- one call taken off the list -/
theorem calls_at {f : Nat} {l : List Nat} {cs : List (List (List Int))} (hne : l ≠ []) (h : PyFlat.calls PySy65.shape f (Sy65.ints l) = some cs) :
    ∃ (p : Nat) (r rs t : List Nat) (cs' : List (List (List Int))) (f' : Nat), l = p :: r ∧ p < 12 ∧ manyP p ≤ r.length ∧ rowOf (rowsP p) (r.drop (manyP p)) = some (rs, t) ∧
      cs = ((Sy65.ints (p :: r.take (manyP p))) :: rowL (rowsP p) rs) :: cs' ∧ PyFlat.calls PySy65.shape f' (Sy65.ints t) = some cs' := by
  cases l with
  | nil => exact absurd rfl hne
  | cons p r =>
    cases f with
    | zero => cases h
    | succ f =>
      have h1 : (match PyFlat.call PySy65.shape (Sy65.ints (p :: r)) with
          | none => none
          | some (c, t) => match PyFlat.calls PySy65.shape f t with
            | none => none
            | some cs => some (c :: cs)) = some cs := h
      have e1 : PyFlat.call PySy65.shape (Sy65.ints (p :: r)) = match PySy65.shape (p : Int) with
          | none => none
          | some (n, k) => if (Sy65.ints r).length < n then none else match PyFlat.rows k ((Sy65.ints r).drop n) with
            | none => none
            | some (xs, t) => some (((p : Int) :: (Sy65.ints r).take n) :: xs, t) := rfl
      rw [shape_at] at e1
      by_cases c : p < 12
      · rw [if_pos c] at e1
        dsimp only at e1
        rw [ints_length] at e1
        by_cases c2 : r.length < manyP p
        · rw [if_pos c2] at e1
          rw [e1] at h1
          cases h1
        · rw [if_neg c2, ints_drop, rows_at _ _ (rowsP_le p c)] at e1
          cases e2 : rowOf (rowsP p) (r.drop (manyP p)) with
          | none =>
            rw [e2] at e1
            have e3 : PyFlat.call PySy65.shape (Sy65.ints (p :: r)) = none := e1
            rw [e3] at h1
            cases h1
          | some x =>
            obtain ⟨rs, t⟩ := x
            rw [e2] at e1
            have e3 : PyFlat.call PySy65.shape (Sy65.ints (p :: r)) = some (((p : Int) :: (Sy65.ints r).take (manyP p)) :: rowL (rowsP p) rs, Sy65.ints t) := e1
            rw [e3] at h1
            dsimp only at h1
            cases e4 : PyFlat.calls PySy65.shape f (Sy65.ints t) with
            | none => rw [e4] at h1; cases h1
            | some cs' =>
              rw [e4] at h1
              cases h1
              refine ⟨p, r, rs, t, cs', f, rfl, c, by omega, e2, ?_, e4⟩
              rw [ints_take]
              rfl
      · rw [if_neg c] at e1
        have e3 : PyFlat.call PySy65.shape (Sy65.ints (p :: r)) = none := e1
        rw [e3] at h1
        cases h1

/-! ### a call as the specification takes it -/
theorem natIn_at {a : Nat} (h : a < 2 ^ 32) (l : List Int) : Sy65Neutral.natIn ((a : Int) :: l) = some (a, l) := by
  unfold Sy65Neutral.natIn
  dsimp only
  rw [if_pos ⟨by omega, by omega⟩, Int.toNat_natCast]
theorem many_at : ∀ (rs : List Nat) (l : List Int), (∀ x ∈ rs, x < 2 ^ 32) → Sy65Neutral.many_ Sy65Neutral.natIn rs.length (Sy65.ints rs ++ l) = some (rs, l)
  | [], l, _ => rfl
  | a :: rs, l, h => by
    have ih := many_at rs l fun x hx => h x (List.mem_cons_of_mem _ hx)
    show (Sy65Neutral.natIn ((a : Int) :: (Sy65.ints rs ++ l))).bind (fun (x : Nat × List Int) => (Sy65Neutral.many_ Sy65Neutral.natIn rs.length x.2).map fun (y : List Nat × List Int) => (x.1 :: y.1, y.2)) = _
    rw [natIn_at (h a (List.mem_cons_self ..))]
    show (Sy65Neutral.many_ Sy65Neutral.natIn rs.length (Sy65.ints rs ++ l)).map _ = _
    rw [ih]
    rfl
theorem some_at (ns : List Nat) (h : ∀ x ∈ ns, x < 2 ^ 32) : Sy65Neutral.all_ (Sy65Neutral.some_ ns.length (Sy65.ints ns)) = some ns := by
  have e := many_at ns [] h
  rw [List.append_nil] at e
  unfold Sy65Neutral.some_
  rw [e]
  rfl
theorem row_at (rs : List Nat) (h : ∀ x ∈ rs, x < 2 ^ 32) (hl : rs.length ≤ 60) : Sy65Neutral.all_ (Sy65Neutral.rowIn ((rs.length : Int) :: Sy65.ints rs)) = some rs := by
  have e := many_at rs [] h
  rw [List.append_nil] at e
  unfold Sy65Neutral.rowIn Sy65Neutral.listIn
  dsimp only
  rw [if_pos ⟨by omega, by omega⟩, Int.toNat_natCast, e]
  rfl
/-- what the specification is handed for a call of the flat list -/
def wholeHead (c : List (List Int)) : List Int := (PySy65.whole c).headD []
theorem len1 {l : List Nat} (h : l.length = 1) : ∃ a, l = [a] := by
  match l, h with
  | [a], _ => exact ⟨a, rfl⟩
theorem len2 {l : List Nat} (h : l.length = 2) : ∃ a b, l = [a, b] := by
  match l, h with
  | [a, b], _ => exact ⟨a, b, rfl⟩
theorem len3 {l : List Nat} (h : l.length = 3) : ∃ a b c, l = [a, b, c] := by
  match l, h with
  | [a, b, c], _ => exact ⟨a, b, c, rfl⟩
theorem co0 (l : List Int) : Sy65Neutral.callOf (0 :: l) = (Sy65Neutral.all_ (Sy65Neutral.rowIn l)).map fun (y : List Nat) => .begins y := rfl
theorem co1 (l : List Int) : Sy65Neutral.callOf (1 :: l) = (Sy65Neutral.all_ (Sy65Neutral.some_ 2 l)).map fun (x : List Nat) => .hang (Sy65Neutral.g x 0) (Sy65Neutral.g x 1) := rfl
theorem co2 (l : List Int) : Sy65Neutral.callOf (2 :: l) = (Sy65Neutral.all_ (Sy65Neutral.some_ 3 l)).map fun (x : List Nat) => .arms_ (Sy65Neutral.g x 0) (Sy65Neutral.g x 1) (Sy65Neutral.g x 2) := rfl
theorem co5 (l : List Int) : Sy65Neutral.callOf (5 :: l) = (Sy65Neutral.all_ (Sy65Neutral.some_ 1 l)).map fun (x : List Nat) => .scale (Sy65Neutral.g x 0) := rfl
theorem co9 (l : List Int) : Sy65Neutral.callOf (9 :: l) = (Sy65Neutral.some_ 1 l).bind fun (x : List Nat × List Int) => (Sy65Neutral.all_ (Sy65Neutral.rowIn x.2)).map fun (y : List Nat) => .ways (Sy65Neutral.g x.1 0) y := rfl
theorem co10 (l : List Int) : Sy65Neutral.callOf (10 :: l) = (Sy65Neutral.all_ (Sy65Neutral.some_ 1 l)).map fun (x : List Nat) => .missing (Sy65Neutral.g x 0) := rfl
theorem callOf_at : ∀ (p : Nat) (ns rs : List Nat), p < 12 → ns.length = manyP p → (∀ x ∈ ns, x < 2 ^ 32) → (∀ x ∈ rs, x < 2 ^ 32) → rs.length ≤ 60 →
    Sy65Neutral.callOf (wholeHead (Sy65.ints (p :: ns) :: rowL (rowsP p) rs)) = some (callN p ns rs)
  | 0, ns, rs, _, hn, b, br, bl => by
    have e : ns = [] := List.eq_nil_of_length_eq_zero hn
    subst e
    have w : wholeHead (Sy65.ints [0] :: rowL (rowsP 0) rs) = (0 : Int) :: ((Sy65.ints rs).length : Int) :: Sy65.ints rs := rfl
    rw [w, co0, ints_length, row_at rs br bl]
    rfl
  | 1, ns, rs, _, hn, b, br, bl => by
    obtain ⟨x, y, rfl⟩ := len2 hn
    have w : wholeHead (Sy65.ints (1 :: [x, y]) :: rowL (rowsP 1) rs) = (1 : Int) :: Sy65.ints [x, y] := rfl
    have e := some_at [x, y] b
    have e1 : Sy65Neutral.all_ (Sy65Neutral.some_ 2 (Sy65.ints [x, y])) = some [x, y] := e
    rw [w, co1, e1]
    rfl
  | 2, ns, rs, _, hn, b, br, bl => by
    obtain ⟨x, y, z, rfl⟩ := len3 hn
    have w : wholeHead (Sy65.ints (2 :: [x, y, z]) :: rowL (rowsP 2) rs) = (2 : Int) :: Sy65.ints [x, y, z] := rfl
    have e := some_at [x, y, z] b
    have e1 : Sy65Neutral.all_ (Sy65Neutral.some_ 3 (Sy65.ints [x, y, z])) = some [x, y, z] := e
    rw [w, co2, e1]
    rfl
  | 3, ns, rs, _, hn, b, br, bl => by
    have e : ns = [] := List.eq_nil_of_length_eq_zero hn
    subst e
    rfl
  | 4, ns, rs, _, hn, b, br, bl => by
    have e : ns = [] := List.eq_nil_of_length_eq_zero hn
    subst e
    rfl
  | 5, ns, rs, _, hn, b, br, bl => by
    obtain ⟨x, rfl⟩ := len1 hn
    have w : wholeHead (Sy65.ints (5 :: [x]) :: rowL (rowsP 5) rs) = (5 : Int) :: Sy65.ints [x] := rfl
    have e := some_at [x] b
    have e1 : Sy65Neutral.all_ (Sy65Neutral.some_ 1 (Sy65.ints [x])) = some [x] := e
    rw [w, co5, e1]
    rfl
  | 6, ns, rs, _, hn, b, br, bl => by
    have e : ns = [] := List.eq_nil_of_length_eq_zero hn
    subst e
    rfl
  | 7, ns, rs, _, hn, b, br, bl => by
    have e : ns = [] := List.eq_nil_of_length_eq_zero hn
    subst e
    rfl
  | 8, ns, rs, _, hn, b, br, bl => by
    have e : ns = [] := List.eq_nil_of_length_eq_zero hn
    subst e
    rfl
  | 9, ns, rs, _, hn, b, br, bl => by
    obtain ⟨x, rfl⟩ := len1 hn
    have w : wholeHead (Sy65.ints [9, x] :: rowL (rowsP 9) rs) = (9 : Int) :: (Sy65.ints [x] ++ ((Sy65.ints rs).length : Int) :: Sy65.ints rs) := rfl
    have e := many_at [x] (((Sy65.ints rs).length : Int) :: Sy65.ints rs) b
    have e1 : Sy65Neutral.some_ 1 (Sy65.ints [x] ++ ((Sy65.ints rs).length : Int) :: Sy65.ints rs) = some ([x], ((Sy65.ints rs).length : Int) :: Sy65.ints rs) := e
    rw [w, co9, e1, Option.bind_some]
    dsimp only
    rw [ints_length, row_at rs br bl]
    rfl
  | 10, ns, rs, _, hn, b, br, bl => by
    obtain ⟨x, rfl⟩ := len1 hn
    have w : wholeHead (Sy65.ints (10 :: [x]) :: rowL (rowsP 10) rs) = (10 : Int) :: Sy65.ints [x] := rfl
    have e := some_at [x] b
    have e1 : Sy65Neutral.all_ (Sy65Neutral.some_ 1 (Sy65.ints [x])) = some [x] := e
    rw [w, co10, e1]
    rfl
  | 11, ns, rs, _, hn, b, br, bl => by
    have e : ns = [] := List.eq_nil_of_length_eq_zero hn
    subst e
    rfl
  | p + 12, _, _, h, _, _, _, _ => absurd h (by omega)

/-! ### the rest of the answers, from a state -/
def rem (s : Sy65.St) (cs : List (List (List Int))) : List Int := PyFlat.told (PyFlat.played (fun (s : Sy65.St) (c : List (List Int)) => Sy65Neutral.step s (c.headD [])) s (cs.map PySy65.whole))
theorem rem_nil (s : Sy65.St) : rem s [] = [] := rfl
theorem rem_cons {s : Sy65.St} {c : List (List Int)} {cs : List (List (List Int))} {x : Sy65.Call} (h : Sy65Neutral.callOf (wholeHead c) = some x) :
    rem s (c :: cs) = ((Sy65Neutral.out (Sy65.step s x).2).length : Int) :: Sy65Neutral.out (Sy65.step s x).2 ++ rem (Sy65.step s x).1 cs := by
  have e : Sy65Neutral.step s ((PySy65.whole c).headD []) = ((Sy65.step s x).1, Sy65Neutral.out (Sy65.step s x).2) := by
    unfold Sy65Neutral.step
    have h' : Sy65Neutral.callOf ((PySy65.whole c).headD []) = some x := h
    rw [h']
  show PyFlat.told ((Sy65Neutral.step s ((PySy65.whole c).headD [])).2 :: PyFlat.played _ (Sy65Neutral.step s ((PySy65.whole c).headD [])).1 (cs.map PySy65.whole)) = _
  rw [e]
  rfl
theorem answers_rem {l : List Int} {cs : List (List (List Int))} (h : PyFlat.calls PySy65.shape l.length l = some cs) : PySy65.answers l = rem Sy65.init cs := by
  unfold PySy65.answers PySy65.calls
  rw [h]
  rfl
/-- what is asked of a call's row -/
theorem inside_row {p : Nat} {ns rs : List Nat} (h : p < 12) (b : PyInside.call PySy65.bound (Sy65.ints (p :: ns) :: rowL (rowsP p) rs) = true) (hr : rowsP p = 1 ∨ rs = []) : rs.length ≤ 60 := by
  rcases hr with hr | hr
  · have b1 : (PyInside.each (PySy65.bound (p : Int)).1 (Sy65.ints ns) && PyInside.lists (PySy65.bound (p : Int)).2 (rowL (rowsP p) rs)) = true := b
    rw [Bool.and_eq_true] at b1
    have b2 := b1.2
    have e : (PySy65.bound (p : Int)).2 = [(0, 4294967295, 0, 60)] := by
      match p, h, hr with
      | 0, _, _ => rfl
      | 9, _, _ => rfl
      | 1, _, hr => cases hr
      | 2, _, hr => cases hr
      | 3, _, hr => cases hr
      | 4, _, hr => cases hr
      | 5, _, hr => cases hr
      | 6, _, hr => cases hr
      | 7, _, hr => cases hr
      | 8, _, hr => cases hr
      | 10, _, hr => cases hr
      | 11, _, hr => cases hr
    rw [e] at b2
    unfold rowL at b2
    rw [if_pos hr] at b2
    have b3 : (decide (0 ≤ (Sy65.ints rs).length) && decide ((Sy65.ints rs).length ≤ 60) && (Sy65.ints rs).all (PyInside.within 0 4294967295) && true) = true := b2
    rw [Bool.and_eq_true, Bool.and_eq_true, Bool.and_eq_true] at b3
    have b4 := of_decide_eq_true b3.1.1.2
    rwa [ints_length] at b4
  · rw [hr]
    exact Nat.zero_le _
end Mob

set_option Elab.async false
set_option linter.all false
set_option maxRecDepth 100000
set_option maxHeartbeats 4000000
namespace Mob
open PySem PySem.Spec PyProof.Rows L2

/-! ### the text by places -/
def topS (i : Nat) : Stmt := PySem.Challenge.pw_hungmobile_s01_answers.main.body.getD i (.Pass ⟨0, 0, 0, 0⟩)
abbrev sDiv : Stmt := topS 1
abbrev sEnds : Stmt := topS 2
abbrev sPull : Stmt := topS 3
abbrev sScaled : Stmt := topS 4
abbrev sLev : Stmt := topS 5
abbrev sLeastW : Stmt := topS 6
abbrev sTimesAt : Stmt := topS 7
abbrev sAllT : Stmt := topS 8
abbrev sComm : Stmt := topS 9
abbrev sBest : Stmt := topS 10
abbrev sArmsW : Stmt := topS 11
abbrev sWaysOf : Stmt := topS 12
abbrev sRefI : Stmt := inClass (topS 19) 0
abbrev sWant : Stmt := topS 20
abbrev sRodI : Stmt := inClass (topS 24) 0
abbrev sShapeI : Stmt := inClass (topS 25) 0
abbrev sReadI : Stmt := inClass (topS 26) 0
abbrev sTake : Stmt := inClass (topS 26) 1
abbrev sIsArm : Stmt := topS 27
abbrev sRodR : Stmt := topS 28
abbrev sMobR : Stmt := topS 29
abbrev sShapeOf : Stmt := topS 30
abbrev sWithA : Stmt := topS 31
abbrev sListed : Stmt := topS 36
abbrev sWantW : Stmt := topS 37
/-- the j-th method of the desk -/
abbrev sD (j : Nat) : Stmt := inClass (topS 38) j
abbrev sAnswers : Stmt := topS 39

/-! ### what the top has written, def by def -/
structure Def (K : PySem.W.Frag) (mg : Str → Option Value) (x : Str) (st : Stmt) (ps : List Str) (f : Addr) (fd : FuncData) : Prop where
  fn : Fun K x x st f fd
  bd : Binds K fd ps []
  g : mg x = some (.ref f)
structure MDef (K : PySem.W.Frag) (C : Addr) (m q : Str) (st : Stmt) (ps : List Str) (f : Addr) (fd : FuncData) : Prop where
  fn : Fun K m q st f fd
  bd : Binds K fd ps []
  me : Meth K C m f
structure IDef (K : PySem.W.Frag) (mg : Str → Option Value) (C : Addr) (x q : Str) (st : Stmt) (ps : List Str) (f : Addr) (fd : FuncData) : Prop where
  fn : Fun K "__init__" q st f fd
  bd : Binds K fd ps []
  mkr : Mk K C f
  g : mg x = some (.ref C)
section
variable {X : Cx} {e : Expr} {es : List Expr} {t : TA} {p pos : PySem.Pos} {CT : CXT} {k : Nat} {f C : Addr} {fd : FuncData} {ps : List Str} {sp : Sp} {E : XK} {x m q : Str} {st : Stmt}
theorem pcall (D : Def X.K X.mg x st ps f fd) (F : FnOk X.prog X.w X.K X.mg X.base CT k f fd ps sp) (hr : Room k X.A) (hx : Passes CT X E) (ha : PA X (e :: es) t) (hg : Gl X x := by rfl)
    (hdb : (x == ("__debug__" : Str)) = false := by decide) (he : starEach (e :: es) X.env = (false, eval e X.env) :: starEach es X.env := by rfl) (hpl : (backTo pos (starEach es X.env)).any (·.1) = false := by rfl) :
    PE X (.Call (.Name x p) (e :: es) [] pos) (tCall sp [] E t) := pe_call F hr hg D.g D.fn.kp D.bd .nil hx ha hdb he hpl
theorem pmake (D : IDef X.K X.mg C x q st ps f fd) (F : FnOk X.prog X.w X.K X.mg X.base CT k f fd ps sp) (hr : Room (k + 1) X.A) (hx : Passes CT X E) (ha : PA X (e :: es) t) (hg : Gl X x := by rfl)
    (hdb : (x == ("__debug__" : Str)) = false := by decide) (he : starEach (e :: es) X.env = (false, eval e X.env) :: starEach es X.env := by rfl) (hpl : (backTo pos (starEach es X.env)).any (·.1) = false := by rfl) :
    PE X (.Call (.Name x p) (e :: es) [] pos) (tMake C sp [] E t) := pe_make D.mkr F hr hg D.g D.bd .nil hx ha hdb he hpl
/-- in a def that may raise: a call that may raise -/
theorem passR {X : Cx} {E : XK} {E1 : Value → Shared → Prop} (hs : X.stack = X.env :: X.outer := by rfl) (hf : X.env.frame = some X.env.locals := by rfl) (hex : X.ex = [] := by rfl)
    (hx : X.xe = fun e s' => wpAny (model X.prog X.w) X.A (leaving X.env e) (fun _ s'' => L2.CX X.prog X.w X.outer X.H_0 X.s_0 E e s'') E1 s' := by rfl) : Passes (L2.CX X.prog X.w) X E :=
  passes_call (takes_of hs hf hex hx) fun _ _ _ _ h => h
end

/-! ### values, lists -/
/-- a list of whole numbers, as values -/
def zs (l : List Nat) : List V := (Sy65.ints l).map V.int
theorem zs_len (l : List Nat) : (zs l).length = l.length := by
  unfold zs Sy65.ints
  rw [List.length_map, List.length_map]
theorem zs_app (l r : List Nat) : zs (l ++ r) = zs l ++ zs r := by
  unfold zs Sy65.ints
  rw [List.map_append, List.map_append]
theorem zs_get {l : List Nat} {i : Nat} {x : Nat} (h : l[i]? = some x) : (zs l)[i]? = some (V.int (x : Nat)) := by
  unfold zs Sy65.ints
  rw [List.getElem?_map, List.getElem?_map, h]
  rfl
theorem zs_of {l : List Nat} {i : Nat} {v : V} (h : (zs l)[i]? = some v) : ∃ x : Nat, l[i]? = some x ∧ v = V.int (x : Nat) := by
  unfold zs Sy65.ints at h
  rw [List.getElem?_map, List.getElem?_map] at h
  cases e : l[i]? with
  | none => rw [e] at h; cases h
  | some x =>
    rw [e] at h
    cases h
    exact ⟨x, rfl, rfl⟩
theorem zs_take (l : List Nat) (k : Nat) : (zs l).take k = zs (l.take k) := by
  unfold zs Sy65.ints
  rw [List.map_take, List.map_take]
theorem zs_drop (l : List Nat) (k : Nat) : (zs l).drop k = zs (l.drop k) := by
  unfold zs Sy65.ints
  rw [List.map_drop, List.map_drop]
theorem ints_sum : ∀ l : List Nat, (Sy65.ints l).sum = ((l.sum : Nat) : Int)
  | [] => rfl
  | a :: l => by
    have h := ints_sum l
    unfold Sy65.ints at h ⊢
    rw [List.map_cons, List.sum_cons, List.sum_cons, h]
    omega
theorem sIx_at (n d k : Nat) : HT.sIx n d (some (k : Int)) = min k n := HT.sIx_nat n d k
theorem cutV_both (l : List V) (a b : Nat) : cutV l (some (a : Int)) (some (b : Int)) = (l.drop a).take (b - a) := by
  unfold cutV
  rw [sIx_at, sIx_at]
  by_cases h : a ≤ l.length
  · rw [Nat.min_eq_left h]
    by_cases h2 : b ≤ l.length
    · rw [Nat.min_eq_left h2]
    · rw [Nat.min_eq_right (by omega), List.take_of_length_le (by rw [List.length_drop]; omega), List.take_of_length_le (by rw [List.length_drop]; omega)]
  · rw [Nat.min_eq_right (show l.length ≤ a by omega), List.drop_eq_nil_of_le (Nat.le_refl _), List.drop_eq_nil_of_le (show l.length ≤ a by omega)]
    simp
theorem cutV_to (l : List V) (b : Nat) : cutV l none (some (b : Int)) = l.take b := by
  unfold cutV
  rw [sIx_at, HT.sIx_none, List.drop_zero, Nat.sub_zero]
  by_cases h2 : b ≤ l.length
  · rw [Nat.min_eq_left h2]
  · rw [Nat.min_eq_right (by omega), List.take_of_length_le (Nat.le_refl _), List.take_of_length_le (by omega)]
theorem cutV_from (l : List V) (a : Nat) : cutV l (some (a : Int)) none = l.drop a := by
  unfold cutV
  rw [sIx_at, HT.sIx_none]
  by_cases h : a ≤ l.length
  · rw [Nat.min_eq_left h, List.take_of_length_le (by rw [List.length_drop]; omega)]
  · rw [Nat.min_eq_right (show l.length ≤ a by omega), List.drop_eq_nil_of_le (Nat.le_refl _), List.drop_eq_nil_of_le (show l.length ≤ a by omega)]
    simp
theorem cutZ_both (l : List Nat) (a b : Nat) : cutV (zs l) (some (a : Int)) (some (b : Int)) = zs (cut l a b) := by
  rw [cutV_both, zs_drop, zs_take]
  rfl
theorem cutZ_to (l : List Nat) (b : Nat) : cutV (zs l) none (some (b : Int)) = zs (l.take b) := by rw [cutV_to, zs_take]
theorem cutZ_from (l : List Nat) (a : Nat) : cutV (zs l) (some (a : Int)) none = zs (l.drop a) := by rw [cutV_from, zs_drop]
theorem small_line {n : Nat} (h : n ≤ 16000000) : n ≤ sizeLine := Nat.le_trans h (by rw [sizeLine_eq]; decide)
theorem small_line' {n : Nat} (h : n ≤ 16000000) : n < sizeLine := Nat.lt_of_le_of_lt h (by rw [sizeLine_eq]; decide)

/-! ### the heap -/
theorem same_new {H : Hp} {p : Addr} (h : H p = none) (o : HO) : Same H (upd H p o) := fun b u q => by rw [upd_ne (ne_of_none q h)]; exact q
theorem lk_here {k : Str} {v : V} {r : List (Str × V)} : List.lookup k ((k, v) :: r) = some v := by
  have e : (k == k) = true := beq_self_eq_true k
  simp only [List.lookup, e]
theorem lk_past {k g : Str} {v : V} {r : List (Str × V)} (h : (k == g) = false) : List.lookup k ((g, v) :: r) = List.lookup k r := by
  simp only [List.lookup, h]
theorem put_here {f : Str} {v x : V} {r : List (Str × V)} : putF f v ((f, x) :: r) = (f, v) :: r := if_pos rfl
theorem put_past {f g : Str} {v x : V} {r : List (Str × V)} (h : ¬ g = f) : putF f v ((g, x) :: r) = (g, x) :: putF f v r := if_neg h
/-- the classes of the text -/
structure Cs where
  R : Addr
  S : Addr
  Rd : Addr
  D : Addr
  E : Addr
def rodF (r : R) : List (Str × V) := [("spot", .int r.spot), ("left", .int r.left), ("right", .int r.right), ("first", .int r.first), ("middle", .int r.middle), ("last", .int r.last)]
def RodAt (A : Cs) (H : Hp) (a : Addr) (r : R) : Prop := ∃ dx, H a = some (.ins A.R dx (rodF r))
def RodsAt (A : Cs) (H : Hp) (rs : List Addr) (l : List R) : Prop := Paired (RodAt A H) rs l
def shF (nl rl : Addr) (n : Nat) : List (Str × V) := [("numbers", .ref nl), ("rods", .ref rl), ("hooks", .int n)]
/-- a Shape of the mobile t stands at a; all that it is made of is N -/
def ShapeAt (A : Cs) (H : Hp) (a : Addr) (t : Sy65.Tree) (N : Addr → Prop) : Prop := ∃ (dx nl rl : Addr) (rs : List Addr), H a = some (.ins A.S dx (shF nl rl (Sy65.hooks t))) ∧ H nl = some (.lst (zs (Sy65.numbers t))) ∧
  H rl = some (.lst (rs.map V.ref)) ∧ RodsAt A H rs (rodsOf 0 0 t) ∧ N a ∧ N nl ∧ N rl ∧ ∀ r ∈ rs, N r
def dkF (sh wl : Addr) : List (Str × V) := [("shape", .ref sh), ("weights", .ref wl)]
def DeskAt (A : Cs) (H : Hp) (d : Addr) (s : Sy65.St) (N : Addr → Prop) : Prop := ∃ dx sh wl : Addr, H d = some (.ins A.D dx (dkF sh wl)) ∧ ShapeAt A H sh s.tree N ∧ H wl = some (.lst (zs s.hung)) ∧ N wl
def rdF (nl : Addr) (spot : Nat) (rl : Addr) (hooks : Nat) : List (Str × V) := [("numbers", .ref nl), ("spot", .int spot), ("rods", .ref rl), ("hooks", .int hooks)]
/-- an error with its number -/
def Err (A : Cs) (H : Hp) (k : Int) (E : XK) : Prop := ∀ (H' : Hp) (d : Addr), Same H H' → H' d = some (.xd [(("number" : Str), .int k)]) → E (.ref A.E) (some d) H'

/-- what the classes' texts tell of attributes -/
structure ClsOk (K : PySem.W.Frag) (A : Cs) : Prop where
  cR : Cls K A.R
  cS : Cls K A.S
  cRd : Cls K A.Rd
  cD : Cls K A.D
  r1 : NoAttr K A.R "spot"
  r2 : NoAttr K A.R "left"
  r3 : NoAttr K A.R "right"
  r4 : NoAttr K A.R "first"
  r5 : NoAttr K A.R "middle"
  r6 : NoAttr K A.R "last"
  s1 : NoAttr K A.S "numbers"
  s2 : NoAttr K A.S "rods"
  s3 : NoAttr K A.S "hooks"
  e1 : NoAttr K A.Rd "numbers"
  e2 : NoAttr K A.Rd "spot"
  e3 : NoAttr K A.Rd "rods"
  e4 : NoAttr K A.Rd "hooks"
  d1 : NoAttr K A.D "shape"
  d2 : NoAttr K A.D "weights"
section
variable {K : PySem.W.Frag} {A : Cs} {H : Hp} {a : Addr} {r : R}
theorem lkp (k g : Str) {v : V} {r : List (Str × V)} (h : (k == g) = false) : List.lookup k ((g, v) :: r) = List.lookup k r := lk_past h
theorem rk_spot (r : R) : (rodF r).lookup ("spot" : Str) = some (.int r.spot) := by
  unfold rodF
  rw [lk_here]
theorem rk_left (r : R) : (rodF r).lookup ("left" : Str) = some (.int r.left) := by
  unfold rodF
  rw [lkp "left" "spot" (by decide +kernel), lk_here]
theorem rk_right (r : R) : (rodF r).lookup ("right" : Str) = some (.int r.right) := by
  unfold rodF
  rw [lkp "right" "spot" (by decide +kernel), lkp "right" "left" (by decide +kernel), lk_here]
theorem rk_first (r : R) : (rodF r).lookup ("first" : Str) = some (.int r.first) := by
  unfold rodF
  rw [lkp "first" "spot" (by decide +kernel), lkp "first" "left" (by decide +kernel), lkp "first" "right" (by decide +kernel), lk_here]
theorem rk_middle (r : R) : (rodF r).lookup ("middle" : Str) = some (.int r.middle) := by
  unfold rodF
  rw [lkp "middle" "spot" (by decide +kernel), lkp "middle" "left" (by decide +kernel), lkp "middle" "right" (by decide +kernel), lkp "middle" "first" (by decide +kernel), lk_here]
theorem rk_last (r : R) : (rodF r).lookup ("last" : Str) = some (.int r.last) := by
  unfold rodF
  rw [lkp "last" "spot" (by decide +kernel), lkp "last" "left" (by decide +kernel), lkp "last" "right" (by decide +kernel), lkp "last" "first" (by decide +kernel), lkp "last" "middle" (by decide +kernel), lk_here]
theorem sk_numbers (nl rl : Addr) (n : Nat) : (shF nl rl n).lookup ("numbers" : Str) = some (.ref nl) := by
  unfold shF
  rw [lk_here]
theorem sk_rods (nl rl : Addr) (n : Nat) : (shF nl rl n).lookup ("rods" : Str) = some (.ref rl) := by
  unfold shF
  rw [lkp "rods" "numbers" (by decide +kernel), lk_here]
theorem sk_hooks (nl rl : Addr) (n : Nat) : (shF nl rl n).lookup ("hooks" : Str) = some (.int n) := by
  unfold shF
  rw [lkp "hooks" "numbers" (by decide +kernel), lkp "hooks" "rods" (by decide +kernel), lk_here]
theorem dk_shape (sh wl : Addr) : (dkF sh wl).lookup ("shape" : Str) = some (.ref sh) := by
  unfold dkF
  rw [lk_here]
theorem dk_weights (sh wl : Addr) : (dkF sh wl).lookup ("weights" : Str) = some (.ref wl) := by
  unfold dkF
  rw [lkp "weights" "shape" (by decide +kernel), lk_here]
theorem ek_numbers (nl rl : Addr) (n m : Nat) : (rdF nl n rl m).lookup ("numbers" : Str) = some (.ref nl) := by
  unfold rdF
  rw [lk_here]
theorem ek_spot (nl rl : Addr) (n m : Nat) : (rdF nl n rl m).lookup ("spot" : Str) = some (.int n) := by
  unfold rdF
  rw [lkp "spot" "numbers" (by decide +kernel), lk_here]
theorem ek_rods (nl rl : Addr) (n m : Nat) : (rdF nl n rl m).lookup ("rods" : Str) = some (.ref rl) := by
  unfold rdF
  rw [lkp "rods" "numbers" (by decide +kernel), lkp "rods" "spot" (by decide +kernel), lk_here]
theorem ek_hooks (nl rl : Addr) (n m : Nat) : (rdF nl n rl m).lookup ("hooks" : Str) = some (.int m) := by
  unfold rdF
  rw [lkp "hooks" "numbers" (by decide +kernel), lkp "hooks" "spot" (by decide +kernel), lkp "hooks" "rods" (by decide +kernel), lk_here]
theorem RodAt.same {H' : Hp} (h : RodAt A H a r) (s : Same H H') : RodAt A H' a r := ⟨_, s _ _ h.choose_spec⟩
theorem paired_imp {α β : Type} {F G : α → β → Prop} : ∀ {l : List α} {m : List β}, Paired F l m → (∀ x ∈ l, ∀ y, F x y → G x y) → Paired G l m
  | _, _, .nil, _ => .nil
  | _, _, .cons h t, k => .cons (k _ (List.mem_cons_self ..) _ h) (paired_imp t fun x hx => k x (List.mem_cons_of_mem _ hx))
theorem RodsAt.same {H' : Hp} {rs : List Addr} {l : List R} (h : RodsAt A H rs l) (s : Same H H') : RodsAt A H' rs l := paired_imp h fun _ _ _ x => x.same s
theorem paired_len {α β : Type} {F : α → β → Prop} : ∀ {l : List α} {m : List β}, Paired F l m → l.length = m.length
  | _, _, .nil => rfl
  | _, _, .cons _ t => congrArg (· + 1) (paired_len t)
theorem paired_at {α β : Type} {F : α → β → Prop} : ∀ {l : List α} {m : List β} {i : Nat} {x : α}, Paired F l m → l[i]? = some x → ∃ y, m[i]? = some y ∧ F x y
  | _, _, _, _, .nil, h => by cases h
  | _, _, 0, _, .cons h t, e => by
    cases e
    exact ⟨_, rfl, h⟩
  | _, _, i + 1, _, .cons h t, e => paired_at (i := i) t e
theorem paired_app {α β : Type} {F : α → β → Prop} : ∀ {l l' : List α} {m m' : List β}, Paired F l m → Paired F l' m' → Paired F (l ++ l') (m ++ m')
  | _, _, _, _, .nil, h => h
  | _, _, _, _, .cons h t, k => .cons h (paired_app t k)
theorem paired_set {α β : Type} {F : α → β → Prop} {x : α} {y : β} (h : F x y) : ∀ {l : List α} {m : List β} (i : Nat), Paired F l m → Paired F (l.set i x) (m.set i y)
  | _, _, _, .nil => .nil
  | _, _, 0, .cons _ t => .cons h t
  | _, _, i + 1, .cons k t => .cons k (paired_set h i t)
theorem ShapeAt.same {H' : Hp} {t : Sy65.Tree} {N : Addr → Prop} (h : ShapeAt A H a t N) (s : Same H H') : ShapeAt A H' a t N := by
  obtain ⟨dx, nl, rl, rs, h1, h2, h3, h4, h5⟩ := h
  exact ⟨dx, nl, rl, rs, s _ _ h1, s _ _ h2, s _ _ h3, h4.same s, h5⟩
theorem ShapeAt.mono {t : Sy65.Tree} {N N' : Addr → Prop} (h : ShapeAt A H a t N) (s : ∀ b, N b → N' b) : ShapeAt A H a t N' := by
  obtain ⟨dx, nl, rl, rs, h1, h2, h3, h4, h5, h6, h7, h8⟩ := h
  exact ⟨dx, nl, rl, rs, h1, h2, h3, h4, s _ h5, s _ h6, s _ h7, fun r hr => s _ (h8 r hr)⟩
end
end Mob

set_option Elab.async false
set_option linter.all false
set_option maxRecDepth 100000
set_option maxHeartbeats 4000000
namespace Mob
open PySem PySem.Spec PyProof.Rows L2

/-- a name of the module that holds a whole number -/
def IntAt (mg : Str → Option Value) (x : Str) (i : Int) : Prop := ∃ t, mg x = some (.int i t)
theorem IntAt.pe {X : Cx} {x : Str} {i : Int} {pos : PySem.Pos} (h : IntAt X.mg x i) (hg : Gl X x := by rfl) (hd : (x == ("__debug__" : Str)) = false := by decide) : PE X (.Name x pos) (tC (.int i)) := by
  obtain ⟨t, h⟩ := h
  exact pe_glob hg h ⟨t, rfl⟩ hd

/-! ### balancing: what the top has written -/
structure EvB (K : PySem.W.Frag) (mg : Str → Option Value) (A : Cs) where
  cls : ClsOk K A
  f_div : Addr
  d_div : FuncData
  div : Def K mg "divisor" sDiv ["one", "other"] f_div d_div
  f_ends : Addr
  d_ends : FuncData
  ends : Def K mg "ends_of" sEnds ["rod", "weights"] f_ends d_ends
  f_pull : Addr
  d_pull : FuncData
  pull : Def K mg "pull_of" sPull ["rod", "weights"] f_pull d_pull
  f_scaled : Addr
  d_scaled : FuncData
  scaled : Def K mg "scaled" sScaled ["weights", "many"] f_scaled d_scaled
  f_lev : Addr
  d_lev : FuncData
  lev : Def K mg "levelled" sLev ["rod", "weights"] f_lev d_lev
  f_leastW : Addr
  d_leastW : FuncData
  leastW : Def K mg "least_weights" sLeastW ["shape"] f_leastW d_leastW
  f_timesAt : Addr
  d_timesAt : FuncData
  timesAt : Def K mg "times_at" sTimesAt ["weight", "least"] f_timesAt d_timesAt
  f_allT : Addr
  d_allT : FuncData
  allT : Def K mg "all_times" sAllT ["weights", "least"] f_allT d_allT
  f_comm : Addr
  d_comm : FuncData
  comm : Def K mg "common_times" sComm ["weights", "least"] f_comm d_comm
  f_best : Addr
  d_best : FuncData
  best : Def K mg "best_times" sBest ["weights", "least"] f_best d_best
  f_armsW : Addr
  d_armsW : FuncData
  armsW : Def K mg "arms_wanted" sArmsW ["rod", "weights"] f_armsW d_armsW
  f_waysOf : Addr
  d_waysOf : FuncData
  waysOf : Def K mg "ways_of" sWaysOf ["weights", "least"] f_waysOf d_waysOf
  z_sum : mg "sum" = none
  z_reversed : mg "reversed" = none
  z_zip : mg "zip" = none
  z_all : mg "all" = none
  z_max : mg "max" = none
  z_min : mg "min" = none
  z_sorted : mg "sorted" = none

theorem same_upd {H H1 : Hp} {D : Addr} {o : HO} (s : Same H H1) (h : H D = none) : Same H (upd H1 D o) := fun b u q => by
  rw [upd_ne (ne_of_none q h)]
  exact s b u q
theorem take_more {α : Type} : ∀ {l : List α} {i : Nat} {x : α}, l[i]? = some x → l.take (i + 1) = l.take i ++ [x]
  | [], i, x, h => by simp at h
  | a :: l, 0, x, h => by
    have e : a = x := Option.some.inj h
    subst e
    rfl
  | a :: l, i + 1, x, h => by
    have ih := take_more (l := l) (i := i) (x := x) h
    show a :: l.take (i + 1) = a :: l.take i ++ [x]
    rw [ih]
    rfl
theorem natCast_lt {a n : Nat} (h : a < 2 ^ n) : ((a : Nat) : Int).natAbs < 2 ^ n := by rw [Int.natAbs_natCast]; exact h
def Big (w : List Nat) : Prop := ∀ x ∈ w, x < 2 ^ 3000

/-! ### promises -/
def spDiv : Sp := fun vs H Q _ => ∃ a b : Nat, vs = [.int a, .int b] ∧ Q (.int (Nat.gcd a b : Nat)) H
def spEnds (K : PySem.W.Frag) (A : Cs) : Sp := fun vs H Q _ => ∃ (a l : Addr) (r : R) (w : List Nat), vs = [.ref a, .ref l] ∧ RodAt A H a r ∧ SqL K H l (zs w) ∧
  ∀ p H', Same H H' → H' p = some (.tup [.int (endL r w), .int (endR r w)]) → Q (.ref p) H'
def spPull (K : PySem.W.Frag) (A : Cs) : Sp := fun vs H Q _ => ∃ (a l : Addr) (r : R) (w : List Nat), vs = [.ref a, .ref l] ∧ RodAt A H a r ∧ SqL K H l (zs w) ∧ r.left ≤ 20 ∧ r.right ≤ 20 ∧
  ∀ H', Same H H' → Q (.int (pullOf r w)) H'
def spScaled (K : PySem.W.Frag) : Sp := fun vs H Q _ => ∃ (a : Addr) (w : List Nat) (n : Nat), vs = [.ref a, .int n] ∧ SqL K H a (zs w) ∧ w.length ≤ 1000 ∧ n < 2 ^ 3000 ∧ Big w ∧
  ∀ p H', Same H H' → H' p = some (.lst (zs (Sy65.times n w))) → H p = none → Q (.ref p) H'
section
variable {P : Program} {w : World} {K : PySem.W.Frag} {mg : Str → Option Value} {base : Heap} {A : Cs}

theorem scDiv : FnScope ["one", "other"] ["one", "other"] (defScope sDiv) := ⟨rfl, rfl, rfl, by decide +kernel, rfl, by decide +kernel, by decide +kernel⟩
theorem ok_div (T : EvB K mg A) : FnOk P w K mg base CX0 1 T.f_div T.d_div ["one", "other"] spDiv := by
  refine T.div.fn.ok scDiv (fun vs H Q E h => ?_) (fun cdv Ar outer s H vs Q E hr h => ?_)
  · obtain ⟨a, b, rfl, _⟩ := h
    rfl
  obtain ⟨a, b, rfl, q⟩ := h
  refine ⟨_, pss_cons (ps_while PassesOwn.never (pt_cmpR op_ne (pv 1) pe_int (nomark _))
      (pss_one (ps_par (i := 0) (j := 1) rfl scDiv.nd rfl rfl (by decide) rfl rfl (pa_cons (pv 1) (pa_cons (pe_op op_modN (pv 0) (pv 1)) pa_nil)) (by rfl))))
    (pss_one (ps_ret (pv 0))), ?_⟩
  refine while_by (fun σ H' => ∃ x y : Nat, σ = [some (.int x), some (.int y)] ∧ Nat.gcd x y = Nat.gcd a b ∧ H' = H) (fun σ _ => match σ with | [_, some (.int y)] => y.toNat | _ => 0) ⟨a, b, rfl, rfl, rfl⟩ ?_ (fun σ H Q Q' m ⟨v, h1, h2, k, h3, h4⟩ => ⟨v, h1, h2, k, h3, m _ _ h4⟩)
  rintro σ H' ⟨x, y, rfl, g, rfl⟩
  refine ⟨_, rfl, rfl, _, rfl, ?_⟩
  by_cases c : y = 0
  · subst c
    refine iteNS rfl ?_
    refine ⟨_, rfl, ?_⟩
    rw [Nat.gcd_zero_right] at g
    rw [g]
    exact q
  · have c1 : ¬ V.int (y : Nat) = V.int 0 := fun z => by
      have := V.int.inj z
      omega
    rw [decide_eq_false c1]
    refine iteT ?_
    refine ⟨_, rfl, _, rfl, _, rfl, _, _, rfl, rfl, (by show ((y : Nat) : Int) ≠ 0; omega), _, _, rfl, ⟨y, x % y, ?_, ?_, rfl⟩, ?_⟩
    · have e : (x : Int).fmod (y : Int) = ((x % y : Nat) : Int) := by
        rw [Int.fmod_eq_emod_of_nonneg _ (Int.natCast_nonneg y)]
        exact (Int.natCast_emod x y).symm
      show [some (V.int (y : Nat)), some (V.int (((x : Nat) : Int).fmod ((y : Nat) : Int)))] = _
      rw [e]
    · rw [← g, Nat.gcd_comm y, ← Nat.gcd_rec, Nat.gcd_comm]
    · have e : (x : Int).fmod (y : Int) = ((x % y : Nat) : Int) := by
        rw [Int.fmod_eq_emod_of_nonneg _ (Int.natCast_nonneg y)]
        exact (Int.natCast_emod x y).symm
      show (((x : Nat) : Int).fmod ((y : Nat) : Int)).toNat < ((y : Nat) : Int).toNat
      rw [e]
      rw [Int.toNat_natCast, Int.toNat_natCast]
      exact Nat.mod_lt _ (by omega)

theorem scScaled : FnScope ["weights", "many", "weight"] ["weights", "many"] (defScope sScaled) := ⟨rfl, rfl, rfl, by decide +kernel, rfl, by decide +kernel, by decide +kernel⟩
theorem ok_scaled (T : EvB K mg A) : FnOk P w K mg base CX0 1 T.f_scaled T.d_scaled ["weights", "many"] (spScaled K) := by
  refine T.scaled.fn.ok scScaled (fun vs H Q E h => ?_) (fun cdv Ar outer s H vs Q E hr h => ?_)
  · obtain ⟨a, w, n, rfl, _⟩ := h
    rfl
  obtain ⟨a, w, n, rfl, hS, hl, hn, hb, q⟩ := h
  refine ⟨_, pss_one (ps_ret (pe_lc (own := [("weight", 2)]) (g := gName 2) (tt := tYes) rfl scScaled.nd (pi_list (pv 0)) (blkOk_by (N := ["weights", "many", "weight"]) (sc := defScope sScaled) (by decide +kernel))
    (fun _ _ _ _ _ => pg_name (i := 2) scScaled.nd rfl (Or.inl rfl)) (fun _ _ _ _ _ => pts_nil) (fun _ _ _ _ _ => pe_op op_mulW (pv 1) (pv 2)))), ?_⟩
  refine ⟨_, rfl, a, rfl, ⟨_, hS⟩, fun D hD => lc_list (K := K) (a := a) (xs := zs w) (fun i H1 => Same H H1 ∧ H1 D = some (.lst (zs (Sy65.times n (w.take i)))))
    ⟨same_new hD _, upd_same⟩ (fun i H1 _ z => z.1.seq hS) ?_ ?_⟩
  · rintro i x H1 hx ⟨s1, h1⟩
    obtain ⟨y, hy, rfl⟩ := zs_of hx
    refine ⟨rfl, ?_⟩
    refine ⟨_, rfl, _, rfl, _, _, rfl, rfl, wide_mul (natCast_lt hn) (natCast_lt (hb y (List.mem_of_getElem? hy))) (by decide) (by decide) (by decide), _, h1, ?_, same_upd s1 hD, ?_⟩
    · rw [zs_len, times_len, List.length_take]
      exact small_line' (by omega)
    · rw [upd_same, take_more hy, times_app, zs_app]
      have e : ((n : Nat) : Int) * ((y : Nat) : Int) = ((n * y : Nat) : Int) := (Int.natCast_mul n y).symm
      show some (HO.lst (_ ++ [V.int (((n : Nat) : Int) * ((y : Nat) : Int))])) = _
      rw [e]
      rfl
  · rintro H1 ⟨s1, h1⟩
    rw [zs_len, List.take_length] at h1
    exact q D H1 s1 h1 hD
end
end Mob

set_option Elab.async false
set_option linter.all false
set_option maxRecDepth 100000
set_option maxHeartbeats 4000000
namespace Mob
open PySem PySem.Spec PyProof.Rows L2

theorem mem_le_sum : ∀ {w : List Nat} {x : Nat}, x ∈ w → x ≤ w.sum
  | [], _, h => by cases h
  | a :: w, x, h => by
    rw [List.sum_cons]
    rcases List.mem_cons.mp h with e | e
    · omega
    · have := mem_le_sum e
      omega
def bnd : Nat → Nat
  | 0 => 3
  | k + 1 => 2 * bnd k + 6
theorem bnd_le : ∀ {k : Nat}, k ≤ 6 → bnd k ≤ 570
  | 0, _ => by decide
  | 1, _ => by decide
  | 2, _ => by decide
  | 3, _ => by decide
  | 4, _ => by decide
  | 5, _ => by decide
  | 6, _ => by decide
  | k + 7, h => by omega
theorem fold_ok {n : Nat} (hn : n ≤ 7) : ∀ rs : List R, (∀ r ∈ rs, RodOk n r) → (rs.foldr levelled (List.replicate n 1)).length = n ∧ Pos (rs.foldr levelled (List.replicate n 1)) ∧ (rs.foldr levelled (List.replicate n 1)).sum < 2 ^ bnd rs.length
  | [], _ => by
    refine ⟨List.length_replicate, fun x hx => ?_, ?_⟩
    · have e := List.eq_of_mem_replicate hx
      omega
    · show (List.replicate n 1).sum < 2 ^ 3
      have e : ∀ k : Nat, (List.replicate k 1).sum = k := fun k => by
        induction k with
        | zero => rfl
        | succ k ih => rw [List.replicate_succ, List.sum_cons, ih]; omega
      rw [e]
      omega
  | r :: rs, h => by
    obtain ⟨h1, h2, h3⟩ := fold_ok hn rs fun x hx => h x (List.mem_cons_of_mem _ hx)
    have ok : RodOk (rs.foldr levelled (List.replicate n 1)).length r := by
      rw [h1]
      exact h r (List.mem_cons_self ..)
    rw [List.foldr_cons]
    exact ⟨(lev_len ok).trans h1, lev_pos h2 ok, lev_sum ok h3⟩
theorem pow_lt {x a b : Nat} (h : x < 2 ^ a) (le : a ≤ b) : x < 2 ^ b := Nat.lt_of_lt_of_le h (Nat.pow_le_pow_right (by omega) le)
theorem end_le (r : R) (w : List Nat) (h : r.first ≤ r.middle) (h2 : r.middle ≤ r.last) : endL r w ≤ w.sum ∧ endR r w ≤ w.sum := by
  have p := sum_parts w h h2
  unfold endL endR
  omega
theorem twenty {x y m : Nat} (h : x ≤ 20) (hy : y < 2 ^ m) : x * y < 2 ^ (m + 5) := by
  have e : 2 ^ (m + 5) = 32 * 2 ^ m := by rw [Nat.pow_add]; omega
  have h1 : x * y ≤ 20 * y := Nat.mul_le_mul_right y h
  rw [e]
  omega

def spLev (K : PySem.W.Frag) (A : Cs) : Sp := fun vs H Q _ => ∃ (a l : Addr) (r : R) (w : List Nat), vs = [.ref a, .ref l] ∧ RodAt A H a r ∧ H l = some (.lst (zs w)) ∧ RodOk w.length r ∧ Pos w ∧ w.length ≤ 1000 ∧ w.sum < 2 ^ 1000 ∧
  ∀ p H', Same H H' → H' p = some (.lst (zs (levelled r w))) → Q (.ref p) H'
def spLeastW (K : PySem.W.Frag) (A : Cs) : Sp := fun vs H Q _ => ∃ (a : Addr) (t : Sy65.Tree) (N : Addr → Prop), vs = [.ref a] ∧ ShapeAt A H a t N ∧ Wf t ∧ Sy65.hooks t ≤ 7 ∧
  ∀ p H', Same H H' → H' p = some (.lst (zs (Sy65.least t))) → Q (.ref p) H'
section
variable {P : Program} {w : World} {K : PySem.W.Frag} {mg : Str → Option Value} {base : Heap} {A : Cs}

theorem scEnds : FnScope ["rod", "weights"] ["rod", "weights"] (defScope sEnds) := ⟨rfl, rfl, rfl, by decide +kernel, rfl, by decide +kernel, by decide +kernel⟩
theorem ok_ends (T : EvB K mg A) : FnOk P w K mg base CX0 1 T.f_ends T.d_ends ["rod", "weights"] (spEnds K A) := by
  refine T.ends.fn.ok scEnds (fun vs H Q E h => ?_) (fun cdv Ar outer s H vs Q E hr h => ?_)
  · obtain ⟨a, l, r, w, rfl, _⟩ := h
    rfl
  obtain ⟨a, l, r, w, rfl, ⟨dx, hdx⟩, hS, q⟩ := h
  refine ⟨_, pss_one (ps_ret (pe_tup (pa_cons (pe_callB (cr_sum rfl) rfl T.z_sum (by decide +kernel) (pa_cons (pe_slice sl_list (pv 1) (po_some (pe_fld (pv 0) rfl)) (po_some (pe_fld (pv 0) rfl))) pa_nil))
    (pa_cons (pe_callB (cr_sum rfl) rfl T.z_sum (by decide +kernel) (pa_cons (pe_slice sl_list (pv 1) (po_some (pe_fld (pv 0) rfl)) (po_some (pe_fld (pv 0) rfl))) pa_nil)) pa_nil)))), ?_⟩
  refine ⟨_, rfl, _, rfl, _, _, dx, _, _, rfl, hdx, T.cls.cR, T.cls.r4, rk_first r, _, rfl, _, rfl, _, _, dx, _, _, rfl, hdx, T.cls.cR, T.cls.r5, rk_middle r, _, rfl, l, _, rfl, hS, fun p hp => ?_⟩
  have s1 := same_new hp (.lst (cutV (zs w) (some (r.first : Int)) (some (r.middle : Int))))
  refine ⟨p, Sy65.ints (cut w r.first r.middle), rfl, SqL.of (by rw [upd_same, cutZ_both]; rfl), ?_⟩
  refine ⟨_, rfl, _, rfl, _, _, dx, _, _, rfl, (s1 _ _ hdx), T.cls.cR, T.cls.r5, rk_middle r, _, rfl, _, rfl, _, _, dx, _, _, rfl, (s1 _ _ hdx), T.cls.cR, T.cls.r6, rk_last r, _, rfl, l, _, rfl, s1.seq hS, fun p2 hp2 => ?_⟩
  have s2 := same_new hp2 (.lst (cutV (zs w) (some (r.middle : Int)) (some (r.last : Int))))
  refine ⟨p2, Sy65.ints (cut w r.middle r.last), rfl, SqL.of (by rw [upd_same, cutZ_both]; rfl), ?_⟩
  refine ⟨(by show 2 ≤ sizeLine; decide), fun t ht => ?_⟩
  refine q t _ ((s1.trans s2).trans (same_new ht _)) ?_
  rw [upd_same, ints_sum, ints_sum]
  rfl

theorem scPull : FnScope ["rod", "weights", "left", "right"] ["rod", "weights"] (defScope sPull) := ⟨rfl, rfl, rfl, by decide +kernel, rfl, by decide +kernel, by decide +kernel⟩
theorem ok_pull (T : EvB K mg A) : FnOk P w K mg base CX0 2 T.f_pull T.d_pull ["rod", "weights"] (spPull K A) := by
  have GE : FnOk P w K mg base CX0 1 T.f_ends T.d_ends ["rod", "weights"] (spEnds K A) := ok_ends T
  refine T.pull.fn.ok scPull (fun vs H Q E h => ?_) (fun cdv Ar outer s H vs Q E hr h => ?_)
  · obtain ⟨a, l, r, w, rfl, _⟩ := h
    rfl
  obtain ⟨a, l, r, w, rfl, ⟨dx, hdx⟩, hS, l20, r20, q⟩ := h
  refine ⟨_, pss_cons (ps_asg (pcall T.ends GE hr pass0 (pa_cons (pv 0) (pa_cons (pv 1) pa_nil))) (pg_tup (by rfl) (pgs_cons (pg_name (i := 2) scPull.nd rfl (Or.inl rfl)) (pgs_cons (pg_name (i := 3) scPull.nd rfl (Or.inl rfl)) pgs_nil))))
    (pss_one (ps_ret (pe_op op_sub (pe_op op_mul (pe_fld (pv 0) rfl) (pv 2)) (pe_op op_mul (pe_fld (pv 0) rfl) (pv 3))))), ?_⟩
  refine ⟨_, rfl, _, rfl, a, l, r, w, rfl, ⟨dx, hdx⟩, hS, fun p H1 s1 h1 => ?_⟩
  refine ⟨p, _, rfl, SqT.of h1, rfl, _, _, rfl, _, _, rfl, rfl, ?_⟩
  refine ⟨_, rfl, _, _, dx, _, _, rfl, (s1 _ _ hdx), T.cls.cR, T.cls.r2, rk_left r, _, rfl, _, _, rfl, rfl, .inl ⟨by omega, by omega⟩, _, rfl, _, _, dx, _, _, rfl, (s1 _ _ hdx), T.cls.cR, T.cls.r3, rk_right r, _, rfl, _, _, rfl, rfl, .inl ⟨by omega, by omega⟩, _, _, rfl, rfl, ?_⟩
  exact q H1 s1

theorem scLev : FnScope ["rod", "weights", "left", "right", "one", "other", "by", "at_left", "at_right"] ["rod", "weights"] (defScope sLev) := ⟨rfl, rfl, rfl, by decide +kernel, rfl, by decide +kernel, by decide +kernel⟩
theorem ok_lev (T : EvB K mg A) : FnOk P w K mg base CX0 2 T.f_lev T.d_lev ["rod", "weights"] (spLev K A) := by
  have GE : FnOk P w K mg base CX0 1 T.f_ends T.d_ends ["rod", "weights"] (spEnds K A) := ok_ends T
  have GD : FnOk P w K mg base CX0 1 T.f_div T.d_div ["one", "other"] spDiv := ok_div T
  have GS : FnOk P w K mg base CX0 1 T.f_scaled T.d_scaled ["weights", "many"] (spScaled K) := ok_scaled T
  refine T.lev.fn.ok scLev (fun vs H Q E h => ?_) (fun cdv Ar outer s H vs Q E hr h => ?_)
  · obtain ⟨a, l, r, w, rfl, _⟩ := h
    rfl
  obtain ⟨a, l, r, w, rfl, ⟨dx, hdx⟩, hL, ok, pos, len, sum, q⟩ := h
  refine ⟨_, pss_cons (ps_asg (pcall T.ends GE hr pass0 (pa_cons (pv 0) (pa_cons (pv 1) pa_nil))) (pg_tup (by rfl) (pgs_cons (pg_name (i := 2) scLev.nd rfl (Or.inl rfl)) (pgs_cons (pg_name (i := 3) scLev.nd rfl (Or.inl rfl)) pgs_nil))))
    (pss_cons (ps_par (i := 4) (j := 5) rfl scLev.nd rfl rfl (by decide) rfl rfl (pa_cons (pe_op op_mul (pe_fld (pv 0) rfl) (pv 2)) (pa_cons (pe_op op_mul (pe_fld (pv 0) rfl) (pv 3)) pa_nil)) (by rfl))
    (pss_cons (ps_set (i := 6) scLev.nd rfl (Or.inl rfl) (pcall T.div GD hr pass0 (pa_cons (pv 4) (pa_cons (pv 5) pa_nil))))
    (pss_cons (ps_set (i := 7) scLev.nd rfl (Or.inl rfl) (pcall T.scaled GS hr pass0 (pa_cons (pe_slice sl_list (pv 1) (po_some (pe_fld (pv 0) rfl)) (po_some (pe_fld (pv 0) rfl))) (pa_cons (pe_op op_fdivW (pv 5) (pv 6)) pa_nil))))
    (pss_cons (ps_set (i := 8) scLev.nd rfl (Or.inl rfl) (pcall T.scaled GS hr pass0 (pa_cons (pe_slice sl_list (pv 1) (po_some (pe_fld (pv 0) rfl)) (po_some (pe_fld (pv 0) rfl))) (pa_cons (pe_op op_fdivW (pv 4) (pv 6)) pa_nil))))
    (pss_one (ps_ret (pe_op op_cat (pe_op op_cat (pe_op op_cat (pe_slice sl_list (pv 1) po_none (po_some (pe_fld (pv 0) rfl))) (pv 7)) (pv 8)) (pe_slice sl_list (pv 1) (po_some (pe_fld (pv 0) rfl)) po_none)))))))), ?_⟩
  have l20 := ok.l2
  have r20 := ok.r2
  obtain ⟨le1, le2⟩ := end_le r w (Nat.le_of_lt ok.fm) (Nat.le_of_lt ok.ml)
  obtain ⟨p1, p2⟩ := end_pos pos ok
  have b1 : r.left * endL r w < 2 ^ 1005 := twenty l20 (Nat.lt_of_le_of_lt le1 sum)
  have b2 : r.right * endR r w < 2 ^ 1005 := twenty r20 (Nat.lt_of_le_of_lt le2 sum)
  have g1 : 0 < r.left * endL r w := Nat.mul_pos ok.l1 p1
  have g2 : 0 < r.right * endR r w := Nat.mul_pos ok.r1 p2
  have g0 : 0 < Nat.gcd (r.left * endL r w) (r.right * endR r w) := Nat.gcd_pos_of_pos_left _ g1
  have gb : Nat.gcd (r.left * endL r w) (r.right * endR r w) < 2 ^ 1005 := Nat.lt_of_le_of_lt (Nat.le_of_dvd g1 (Nat.gcd_dvd_left _ _)) b1
  have bigc : ∀ i j, Big (cut w i j) := fun i j x hx => pow_lt (Nat.lt_of_le_of_lt (mem_le_sum (mem_cut hx)) sum) (by decide)
  have lenc : ∀ i j, (cut w i j).length ≤ 1000 := fun i j => by
    unfold cut
    rw [List.length_take, List.length_drop]
    omega
  -- left, right = ends_of(rod, weights)
  refine ⟨_, rfl, _, rfl, a, l, r, w, rfl, ⟨dx, hdx⟩, SqL.of hL, fun p H1 s1 h1 => ?_⟩
  refine ⟨p, _, rfl, SqT.of h1, rfl, _, _, rfl, _, _, rfl, rfl, ?_⟩
  -- one, other = ..
  refine ⟨_, rfl, _, _, dx, _, _, rfl, (s1 _ _ hdx), T.cls.cR, T.cls.r2, rk_left r, _, rfl, _, _, rfl, rfl, .inl ⟨by omega, by omega⟩, _, rfl, _, _, dx, _, _, rfl, (s1 _ _ hdx), T.cls.cR, T.cls.r3, rk_right r, _, rfl, _, _, rfl, rfl, .inl ⟨by omega, by omega⟩, _, _, rfl, ?_⟩
  -- by = divisor(one, other)
  refine ⟨_, rfl, _, rfl, r.left * endL r w, r.right * endR r w, rfl, ?_⟩
  -- at_left = ..
  refine ⟨_, rfl, _, rfl, _, _, dx, _, _, rfl, (s1 _ _ hdx), T.cls.cR, T.cls.r4, rk_first r, _, rfl, _, rfl, _, _, dx, _, _, rfl, (s1 _ _ hdx), T.cls.cR, T.cls.r5, rk_middle r, _, rfl, l, _, rfl, SqL.of (s1 _ _ hL), fun p2 hp2 => ?_⟩
  have s2 := s1.trans (same_new hp2 (.lst (cutV (zs w) (some (r.first : Int)) (some (r.middle : Int)))))
  refine ⟨_, rfl, _, rfl, _, _, rfl, rfl, wide_div (by omega) (natCast_lt gb) (by decide) (by decide), ?_⟩
  refine ⟨p2, cut w r.first r.middle, r.right * endR r w / Nat.gcd (r.left * endL r w) (r.right * endR r w), rfl, SqL.of (by rw [upd_same, cutZ_both]), lenc _ _, pow_lt (Nat.lt_of_le_of_lt (Nat.div_le_self _ _) b2) (by decide), bigc _ _, fun p3 H3 s3 h3 _ => ?_⟩
  have s3 := s2.trans s3
  -- at_right = ..
  refine ⟨_, rfl, _, rfl, _, _, dx, _, _, rfl, (s3 _ _ hdx), T.cls.cR, T.cls.r5, rk_middle r, _, rfl, _, rfl, _, _, dx, _, _, rfl, (s3 _ _ hdx), T.cls.cR, T.cls.r6, rk_last r, _, rfl, l, _, rfl, SqL.of (s3 _ _ hL), fun p4 hp4 => ?_⟩
  have t4 := same_new hp4 (.lst (cutV (zs w) (some (r.middle : Int)) (some (r.last : Int))))
  refine ⟨_, rfl, _, rfl, _, _, rfl, rfl, wide_div (by omega) (natCast_lt gb) (by decide) (by decide), ?_⟩
  refine ⟨p4, cut w r.middle r.last, r.left * endL r w / Nat.gcd (r.left * endL r w) (r.right * endR r w), rfl, SqL.of (by rw [upd_same, cutZ_both]), lenc _ _, pow_lt (Nat.lt_of_le_of_lt (Nat.div_le_self _ _) b1) (by decide), bigc _ _, fun p5 H5 s5 h5 _ => ?_⟩
  have t5 := t4.trans s5
  have s5 := s3.trans t5
  have h3 := t5 _ _ h3
  -- the whole list
  refine ⟨_, rfl, _, rfl, _, _, dx, _, _, rfl, (s5 _ _ hdx), T.cls.cR, T.cls.r4, rk_first r, _, rfl, l, _, rfl, SqL.of (s5 _ _ hL), fun p6 hp6 => ?_⟩
  have t6 := same_new hp6 (.lst (cutV (zs w) none (some (r.first : Int))))
  refine ⟨_, rfl, p6, p3, _, _, rfl, rfl, upd_same, t6 _ _ h3, ?_, fun p7 hp7 => ?_⟩
  · rw [cutZ_to, zs_len, zs_len, times_len, List.length_take]
    have := lenc r.first r.middle
    exact small_line (by omega)
  have t7 := t6.trans (same_new hp7 (.lst (cutV (zs w) none (some (r.first : Int)) ++ zs (Sy65.times (r.right * endR r w / Nat.gcd (r.left * endL r w) (r.right * endR r w)) (cut w r.first r.middle)))))
  refine ⟨_, rfl, p7, p5, _, _, rfl, rfl, upd_same, t7 _ _ h5, ?_, fun p8 hp8 => ?_⟩
  · rw [cutZ_to, List.length_append, zs_len, zs_len, zs_len, times_len, times_len, List.length_take]
    have := lenc r.first r.middle
    have := lenc r.middle r.last
    exact small_line (by omega)
  have t8 := t7.trans (same_new hp8 (.lst (cutV (zs w) none (some (r.first : Int)) ++ zs (Sy65.times (r.right * endR r w / Nat.gcd (r.left * endL r w) (r.right * endR r w)) (cut w r.first r.middle)) ++ zs (Sy65.times (r.left * endL r w / Nat.gcd (r.left * endL r w) (r.right * endR r w)) (cut w r.middle r.last)))))
  have s8 := s5.trans t8
  refine ⟨_, rfl, _, rfl, _, _, dx, _, _, rfl, (s8 _ _ hdx), T.cls.cR, T.cls.r6, rk_last r, _, rfl, l, _, rfl, SqL.of (s8 _ _ hL), fun p9 hp9 => ?_⟩
  have t9 := same_new hp9 (.lst (cutV (zs w) (some (r.last : Int)) none))
  refine ⟨p8, p9, _, _, rfl, rfl, t9 _ _ upd_same, upd_same, ?_, fun pa hpa => ?_⟩
  · rw [cutZ_to, cutZ_from, List.length_append, List.length_append, zs_len, zs_len, zs_len, zs_len, times_len, times_len, List.length_take, List.length_drop]
    have := lenc r.first r.middle
    have := lenc r.middle r.last
    exact small_line (by omega)
  refine q pa _ ((s8.trans t9).trans (same_new hpa _)) ?_
  rw [upd_same, cutZ_to, cutZ_from, ← zs_app, ← zs_app, ← zs_app]
  rfl
end
end Mob

set_option Elab.async false
set_option linter.all false
set_option maxRecDepth 100000
set_option maxHeartbeats 4000000
namespace Mob
open PySem PySem.Spec PyProof.Rows L2

/-! ### == of two lists of whole numbers -/
def rEqI (K : PySem.W.Frag) : R2 := fun x y H Q => ∃ (a b : Addr) (ns ms : List Int), x = .ref a ∧ y = .ref b ∧ SqL K H a (ns.map V.int) ∧ SqL K H b (ms.map V.int) ∧ Q (.bl (decide (ns = ms))) H
theorem op_eqI {X : Cx} (hu : X.A.units + 64 < cLine) : OpR X (compareOp .Eq) (rEqI X.K) := by
  intro pins s σ H x y v u Q I rx ry h
  obtain ⟨a, b, ns, ms, rfl, rfl, ha, hb, q⟩ := h
  cases rx
  cases ry
  obtain ⟨its, r1, p1, _⟩ := I.list ha
  obtain ⟨its2, r2, p2, _⟩ := I.list hb
  exact PySem.W.ke_eq_ints p1.isList p2.isList r1.ints r2.ints hu ⟨.bl (decide (ns = ms)), H, I, rfl, q⟩
theorem ints_inj {l m : List Nat} : Sy65.ints l = Sy65.ints m ↔ l = m := by
  constructor
  · intro h
    have key : ∀ {l m : List Nat}, Sy65.ints l = Sy65.ints m → l = m := by
      intro l
      induction l with
      | nil =>
        intro m h
        cases m with
        | nil => rfl
        | cons b m => cases h
      | cons a l ih =>
        intro m h
        cases m with
        | nil => cases h
        | cons b m =>
          have h1 := List.cons.inj (show ((a : Nat) : Int) :: Sy65.ints l = ((b : Nat) : Int) :: Sy65.ints m from h)
          rw [ih h1.2, Int.ofNat.inj h1.1]
    exact key h
  · intro h
    rw [h]
theorem ints_len (l : List Nat) : (Sy65.ints l).length = l.length := List.length_map _
theorem ints_mem {l : List Nat} {z : Int} (h : z ∈ Sy65.ints l) : ∃ x ∈ l, z = (x : Nat) := by
  obtain ⟨x, hx, e⟩ := List.mem_map.mp h
  exact ⟨x, hx, e.symm⟩
theorem mem_ints {l : List Nat} {x : Nat} (h : x ∈ l) : ((x : Nat) : Int) ∈ Sy65.ints l := List.mem_map.mpr ⟨x, h, rfl⟩
theorem rods_at {A : Cs} {H : Hp} {rs : List Addr} {l : List R} {i : Nat} {x : V} (h : RodsAt A H rs l) (e : (rs.map V.ref)[i]? = some x) : ∃ (a : Addr) (r : R), x = .ref a ∧ l[i]? = some r ∧ RodAt A H a r := by
  rw [List.getElem?_map] at e
  cases q : rs[i]? with
  | none => rw [q] at e; cases e
  | some a =>
    rw [q] at e
    cases e
    obtain ⟨r, h1, h2⟩ := paired_at h q
    exact ⟨a, r, rfl, h1, h2⟩
theorem rep_one (n : Nat) : (List.replicate n [V.int (1 : Nat)]).flatten = zs (List.replicate n 1) := by
  induction n with
  | zero => rfl
  | succ n ih =>
    rw [List.replicate_succ, List.flatten_cons, ih]
    rfl
theorem rep_zero (n : Nat) : (List.replicate n [V.int (0 : Nat)]).flatten = zs (List.replicate n 0) := by
  induction n with
  | zero => rfl
  | succ n ih =>
    rw [List.replicate_succ, List.flatten_cons, ih]
    rfl
theorem drop_more {α : Type} {l : List α} {k : Nat} {x : α} (h : l[k]? = some x) : l.drop k = x :: l.drop (k + 1) := by
  obtain ⟨hk, e⟩ := List.getElem?_eq_some_iff.mp h
  rw [List.drop_eq_getElem_cons hk, e]

def spTimesAt : Sp := fun vs H Q _ => ∃ w l : Nat, vs = [.int w, .int l] ∧ 0 < l ∧ l < 2 ^ 8000 ∧ Q (.int (timesAt w l : Nat)) H
/-- what the least weights are as they come into the other functions -/
def Lw (l : List Nat) : Prop := Pos l ∧ ∀ x ∈ l, x < 2 ^ 3000
def spAllT (K : PySem.W.Frag) : Sp := fun vs H Q _ => ∃ (a b : Addr) (w l : List Nat), vs = [.ref a, .ref b] ∧ SqL K H a (zs w) ∧ SqL K H b (zs l) ∧ w.length ≤ 1000 ∧ Lw l ∧
  ∀ p H', Same H H' → H' p = some (.lst (zs (allTimes w l))) → Q (.ref p) H'
def spComm (K : PySem.W.Frag) : Sp := fun vs H Q _ => ∃ (a b : Addr) (w l : List Nat), vs = [.ref a, .ref b] ∧ SqL K H a (zs w) ∧ SqL K H b (zs l) ∧ w.length ≤ 1000 ∧ Lw l ∧
  ∀ H', Same H H' → Q (.int (common w l : Nat)) H'
/-- any number that is best as the program asks it -/
def Best (L : List Nat) (m : Nat) : Prop := (L = [] ∧ m = 1) ∨ (m ∈ L ∧ (∀ x ∈ L, L.count x ≤ L.count m) ∧ ∀ x ∈ L, L.count x = L.count m → m ≤ x)
def spBest (K : PySem.W.Frag) : Sp := fun vs H Q _ => ∃ (a b : Addr) (w l : List Nat), vs = [.ref a, .ref b] ∧ SqL K H a (zs w) ∧ SqL K H b (zs l) ∧ w.length ≤ 1000 ∧ Lw l ∧
  ∀ m H', Best (posTimes w l) m → Same H H' → Q (.int (m : Nat)) H'
def spArmsW (K : PySem.W.Frag) (A : Cs) : Sp := fun vs H Q _ => ∃ (a l : Addr) (r : R) (w : List Nat), vs = [.ref a, .ref l] ∧ RodAt A H a r ∧ SqL K H l (zs w) ∧ 0 < endL r w ∧ endL r w < 2 ^ 1000 ∧
  ∀ p H', Same H H' → H' p = some (.lst (zs (armsW r w))) → Q (.ref p) H'
def waysL (w l : List Nat) : List (List Nat) := if (Sy65.times (w.sum / l.sum) l).Perm w then [Sy65.times (w.sum / l.sum) l] else []
def spWaysOf (K : PySem.W.Frag) : Sp := fun vs H Q _ => ∃ (a b : Addr) (w l : List Nat), vs = [.ref a, .ref b] ∧ SqL K H a (zs w) ∧ SqL K H b (zs l) ∧ l.length ≤ 1000 ∧ Lw l ∧ 0 < l.sum ∧ l.sum < 2 ^ 3000 ∧ w.sum < 2 ^ 3000 ∧
  ∀ p ps H', Same H H' → H' p = some (.lst (ps.map V.ref)) → Paired (fun q z => H' q = some (.lst (zs z))) ps (waysL w l) → Q (.ref p) H'
section
variable {P : Program} {w : World} {K : PySem.W.Frag} {mg : Str → Option Value} {base : Heap} {A : Cs}

theorem scLeastW : FnScope ["shape", "found", "rod"] ["shape"] (defScope sLeastW) := ⟨rfl, rfl, rfl, by decide +kernel, rfl, by decide +kernel, by decide +kernel⟩
theorem ok_leastW (T : EvB K mg A) : FnOk P w K mg base CX0 3 T.f_leastW T.d_leastW ["shape"] (spLeastW K A) := by
  have GL : FnOk P w K mg base CX0 2 T.f_lev T.d_lev ["rod", "weights"] (spLev K A) := ok_lev T
  refine T.leastW.fn.ok scLeastW (fun vs H Q E h => ?_) (fun cdv Ar outer s H vs Q E hr h => ?_)
  · obtain ⟨a, t, N, rfl, _⟩ := h
    rfl
  obtain ⟨a, t, N, rfl, ⟨dx, nl, rl, rs, h1, h2, h3, h4, _⟩, wf, h7, q⟩ := h
  refine ⟨_, pss_cons (ps_set (i := 1) scLeastW.nd rfl (Or.inl rfl) (pe_op op_rep (pe_lst (pa_cons pe_int pa_nil)) (pe_fld (pv 0) rfl)))
    (pss_cons (ps_for PassesOwn.never rfl (pi_reversed (by rfl) T.z_reversed (pa_cons (pe_fld (pv 0) rfl) pa_nil)) (pg_name (i := 2) scLeastW.nd rfl (Or.inl rfl))
      (pss_one (ps_set (i := 1) scLeastW.nd rfl (Or.inl rfl) (pcall T.lev GL hr pass0 (pa_cons (pv 2) (pa_cons (pv 1) pa_nil))))))
    (pss_one (ps_ret (pv 1)))), ?_⟩
  refine ⟨(by show 1 ≤ sizeLine; decide), fun p hp => ?_⟩
  have s1 := same_new hp (.lst [V.int 1])
  refine ⟨_, rfl, _, _, dx, _, _, rfl, s1 _ _ h1, T.cls.cS, T.cls.s3, sk_hooks _ _ _, p, _, _, rfl, rfl, upd_same, by omega, by omega, small_line (by simp; omega), fun p1 hp1 => ?_⟩
  have s2 := s1.trans (same_new hp1 (.lst (List.replicate ((Sy65.hooks t : Nat) : Int).toNat [V.int 1]).flatten))
  have lr : rs.length = Sy65.rods t := (paired_len h4).trans (rodsOf_len t 0 0)
  have lR : (rodsOf 0 0 t).length = Sy65.rods t := rodsOf_len t 0 0
  have hk := hooks_rods t
  refine ⟨_, rfl, _, _, dx, _, _, rfl, s2 _ _ h1, T.cls.cS, T.cls.s2, sk_rods _ _ _, rl, _, rfl, SqL.of (s2 _ _ h3), ?_⟩
  refine for_it (walk_rev (K := K) (a := rl) (xs := rs.map V.ref)) (fun i σ H' => ∃ (l : Addr) (v : Option V), σ = [some (.ref a), some (.ref l), v] ∧ Same H H' ∧ H' l = some (.lst (zs (((rodsOf 0 0 t).drop ((rodsOf 0 0 t).length - i)).foldr levelled (List.replicate (Sy65.hooks t) 1)))))
    ⟨p1, none, rfl, s2, ?_⟩ (fun i σ H' _ ⟨_, _, _, s5, _⟩ => s5.seq (SqL.of h3)) ?_ ?_
  · rw [Nat.sub_zero, List.drop_length, upd_same, Int.toNat_natCast]
    exact congrArg (fun z => some (HO.lst z)) (rep_one _)
  · rintro i x σ H' H'' hi ⟨l, v, rfl, s5, hl⟩ ⟨rfl, hx⟩
    obtain ⟨ra, r, rfl, hr1, hr2⟩ := rods_at h4 hx
    rw [List.length_map] at hi hr1
    obtain ⟨f1, f2, f3⟩ := fold_ok h7 ((rodsOf 0 0 t).drop ((rodsOf 0 0 t).length - i)) (fun y hy => by
      have := rodsOf_ok t 0 0 wf y (List.mem_of_mem_drop hy)
      rwa [Nat.zero_add] at this)
    have okr := rodsOf_ok t 0 0 wf r (List.mem_of_getElem? hr1)
    rw [Nat.zero_add] at okr
    refine ⟨_, rfl, _, rfl, ra, l, r, _, rfl, hr2.same s5, hl, ?_, f2, ?_, ?_, fun p' H1 t1 k1 => ?_⟩
    · rw [f1]
      exact okr
    · rw [f1]
      omega
    · refine pow_lt f3 ?_
      rw [List.length_drop]
      have := bnd_le (k := (rodsOf 0 0 t).length - ((rodsOf 0 0 t).length - i)) (by omega)
      omega
    · refine ⟨p', some (.ref ra), rfl, s5.trans t1, ?_⟩
      have e : (rodsOf 0 0 t).drop ((rodsOf 0 0 t).length - (i + 1)) = r :: (rodsOf 0 0 t).drop ((rodsOf 0 0 t).length - i) := by
        have e1 : (rodsOf 0 0 t).length - i = (rodsOf 0 0 t).length - (i + 1) + 1 := by omega
        rw [e1]
        refine drop_more ?_
        rw [show (rodsOf 0 0 t).length - (i + 1) = rs.length - 1 - i by omega]
        exact hr1
      rw [e, List.foldr_cons]
      exact k1
  · rintro σ H' ⟨l, v, rfl, s5, hl⟩
    rw [List.length_map, lr, lR, Nat.sub_self, List.drop_zero] at hl
    have e : (rodsOf 0 0 t).foldr levelled (List.replicate (Sy65.hooks t) 1) = Sy65.least t := leastW_eq t
    rw [e] at hl
    exact ⟨_, rfl, q l H' s5 hl⟩

theorem scTimesAt : FnScope ["weight", "least"] ["weight", "least"] (defScope sTimesAt) := ⟨rfl, rfl, rfl, by decide +kernel, rfl, by decide +kernel, by decide +kernel⟩
theorem ok_timesAt (T : EvB K mg A) : FnOk P w K mg base CX0 1 T.f_timesAt T.d_timesAt ["weight", "least"] spTimesAt := by
  refine T.timesAt.fn.ok scTimesAt (fun vs H Q E h => ?_) (fun cdv Ar outer s H vs Q E hr h => ?_)
  · obtain ⟨w, l, rfl, _⟩ := h
    rfl
  obtain ⟨w, l, rfl, h0, h1, q⟩ := h
  refine ⟨_, pss_one (ps_ret (pe_ifExp (pt_cmpR op_eq (pe_op op_mod (pv 0) (pv 1)) pe_int (nomark _)) (pe_op op_fdivW (pv 0) (pv 1)) pe_int)), ?_⟩
  refine ⟨_, rfl, _, rfl, _, _, rfl, rfl, (by show (0 : Int) < (l : Nat); omega), rfl, _, rfl, ?_⟩
  have e : ((w : Nat) : Int) % ((l : Nat) : Int) = ((w % l : Nat) : Int) := (Int.natCast_emod w l).symm
  refine ite2 (fun c => ?_) (fun c => ?_)
  · have c1 := V.int.inj (of_decide_eq_true c)
    rw [e] at c1
    refine ⟨_, rfl, _, rfl, _, _, rfl, rfl, wide_div (by omega) (natCast_lt h1) (by decide) (by decide), ?_⟩
    have t1 : timesAt w l = w / l := if_pos (by omega)
    rw [t1] at q
    exact q
  · have c1 : ¬ w % l = 0 := fun z => c (decide_eq_true (by
      show V.int (((w : Nat) : Int) % ((l : Nat) : Int)) = V.int 0
      rw [e, z]
      rfl))
    have t1 : timesAt w l = 0 := if_neg c1
    rw [t1] at q
    exact q
end
end Mob

set_option Elab.async false
set_option linter.all false
set_option maxRecDepth 100000
set_option maxHeartbeats 4000000
namespace Mob
open PySem PySem.Spec PyProof.Rows L2

theorem zip_take_more {α β : Type} {l : List α} {m : List β} {i : Nat} {x : α} {y : β} (h1 : l[i]? = some x) (h2 : m[i]? = some y) : (l.zip m).take (i + 1) = (l.zip m).take i ++ [(x, y)] :=
  take_more (List.getElem?_zip_eq_some.mpr ⟨h1, h2⟩)
theorem zip_len {α β : Type} (l : List α) (m : List β) : (l.zip m).length = min l.length m.length := List.length_zip
/-- Python's == of two sorted lists -/
theorem sorted_same {l m : List Nat} {ns ms : List Int} (h1 : ns.Perm (Sy65.ints l)) (h2 : ns.Pairwise (· ≤ ·)) (h3 : ms.Perm (Sy65.ints m)) (h4 : ms.Pairwise (· ≤ ·)) : ns = ms ↔ l.Perm m := by
  have back : ∀ l : List Nat, (Sy65.ints l).map Int.toNat = l := fun l => by
    induction l with
    | nil => rfl
    | cons a l ih =>
      show Int.toNat ((a : Nat) : Int) :: (Sy65.ints l).map Int.toNat = a :: l
      rw [ih, Int.toNat_natCast]
  constructor
  · intro e
    subst e
    have p := (h1.symm.trans h3).map Int.toNat
    rwa [back, back] at p
  · intro p
    have q : (Sy65.ints l).Perm (Sy65.ints m) := p.map _
    exact List.Perm.eq_of_pairwise (fun a b _ _ h h' => Int.le_antisymm h h') h2 h4 ((h1.trans q).trans h3.symm)

section
variable {P : Program} {w : World} {K : PySem.W.Frag} {mg : Str → Option Value} {base : Heap} {A : Cs}

theorem scAllT : FnScope ["weights", "least", "weight", "own"] ["weights", "least"] (defScope sAllT) := ⟨rfl, rfl, rfl, by decide +kernel, rfl, by decide +kernel, by decide +kernel⟩
theorem ok_allT (T : EvB K mg A) : FnOk P w K mg base CX0 2 T.f_allT T.d_allT ["weights", "least"] (spAllT K) := by
  have GT : FnOk P w K mg base CX0 1 T.f_timesAt T.d_timesAt ["weight", "least"] spTimesAt := ok_timesAt T
  refine T.allT.fn.ok scAllT (fun vs H Q E h => ?_) (fun cdv Ar outer s H vs Q E hr h => ?_)
  · obtain ⟨a, b, w, l, rfl, _⟩ := h
    rfl
  obtain ⟨a, b, w, l, rfl, hA, hB, len, ⟨lp, lb⟩, q⟩ := h
  refine ⟨_, pss_one (ps_ret (pe_lc (own := [("weight", 2), ("own", 3)]) (g := gTup K 2 (gCons (gName 2) (gCons (gName 3) gNil))) (tt := tYes) rfl scAllT.nd (pi_zip (by rfl) T.z_zip (pa_cons (pv 0) (pa_cons (pv 1) pa_nil)))
    (blkOk_by (N := ["weights", "least", "weight", "own"]) (sc := defScope sAllT) (by decide +kernel))
    (fun _ _ _ _ _ => pg_tup (by rfl) (pgs_cons (pg_name (i := 2) scAllT.nd rfl (Or.inl rfl)) (pgs_cons (pg_name (i := 3) scAllT.nd rfl (Or.inl rfl)) pgs_nil))) (fun _ _ _ _ _ => pts_nil)
    (fun _ _ _ _ _ => pcall T.timesAt GT hr pass0 (pa_cons (pv 2) (pa_cons (pv 3) pa_nil))))), ?_⟩
  refine ⟨_, rfl, _, rfl, a, b, _, _, rfl, hA, hB, fun D hD => lc_it (walk_zip (K := K) (a := a) (b := b) (xs := zs w) (ys := zs l) (n := (w.zip l).length) (by rw [zip_len, zs_len, zs_len]))
    (fun i H1 => Same H H1 ∧ H1 D = some (.lst (zs (((w.zip l).take i).map fun x => timesAt x.1 x.2)))) ⟨same_new hD _, upd_same⟩ (fun i H1 _ z => ⟨z.1.seq hA, z.1.seq hB⟩) ?_ ?_⟩
  · rintro i x H1 H2 hi ⟨s1, h1⟩ ⟨Tt, vx, vy, rfl, hT, rfl, ex, ey⟩
    obtain ⟨x, hx, rfl⟩ := zs_of ex
    obtain ⟨y, hy, rfl⟩ := zs_of ey
    have my := List.mem_of_getElem? hy
    have s2 := s1.trans (same_new hT (.tup [V.int (x : Nat), V.int (y : Nat)]))
    have hD2 : upd H1 Tt (.tup [V.int (x : Nat), V.int (y : Nat)]) D = some (.lst (zs (((w.zip l).take i).map fun x => timesAt x.1 x.2))) := by
      rw [upd_ne (ne_of_none h1 hT)]
      exact h1
    refine ⟨Tt, _, rfl, SqT.of upd_same, rfl, _, _, rfl, _, _, rfl, rfl, rfl, ?_⟩
    refine ⟨_, rfl, _, rfl, x, y, rfl, lp y my, pow_lt (lb y my) (by decide), _, hD2, ?_, same_upd s2 hD, ?_⟩
    · rw [zs_len, List.length_map, List.length_take, zip_len]
      exact small_line' (by omega)
    · rw [upd_same, zip_take_more hx hy, List.map_append, zs_app]
      rfl
  · rintro H1 ⟨s1, h1⟩
    rw [List.take_length] at h1
    exact q D H1 s1 h1

theorem scComm : FnScope ["weights", "least", "some", "weight", "times"] ["weights", "least"] (defScope sComm) := ⟨rfl, rfl, rfl, by decide +kernel, rfl, by decide +kernel, by decide +kernel⟩
theorem ok_comm (T : EvB K mg A) : FnOk P w K mg base CX0 3 T.f_comm T.d_comm ["weights", "least"] (spComm K) := by
  have GA : FnOk P w K mg base CX0 2 T.f_allT T.d_allT ["weights", "least"] (spAllT K) := ok_allT T
  refine T.comm.fn.ok scComm (fun vs H Q E h => ?_) (fun cdv Ar outer s H vs Q E hr h => ?_)
  · obtain ⟨a, b, w, l, rfl, _⟩ := h
    rfl
  obtain ⟨a, b, w, l, rfl, hA, hB, len, lw, q⟩ := h
  refine ⟨_, pss_cons (ps_set (i := 2) scComm.nd rfl (Or.inr rfl) (pe_lc (own := [("weight", 3), ("times", 4)]) (g := gTup K 2 (gCons (gName 3) (gCons (gName 4) gNil))) rfl scComm.nd
      (pi_zip (by rfl) T.z_zip (pa_cons (pv 0) (pa_cons (pcall T.allT GA hr pass0 (pa_cons (pv 0) (pa_cons (pv 1) pa_nil))) pa_nil)))
      (blkOk_by (N := ["weights", "least", "some", "weight", "times"]) (sc := defScope sComm) (by decide +kernel))
      (fun _ _ _ _ _ => pg_tup (by rfl) (pgs_cons (pg_name (i := 3) scComm.nd rfl (Or.inl rfl)) (pgs_cons (pg_name (i := 4) scComm.nd rfl (Or.inl rfl)) pgs_nil))) (fun _ _ _ _ _ => pts_one (pt_cmpR op_gt (pv 3) pe_int (nomark _)))
      (fun _ _ _ _ _ => pv 4)))
    (pss_cons (ps_if (pt_cmpR (op_eqI hr.units) (pv 2) (pe_lst pa_nil) (nomark _)) (pss_one (ps_ret pe_int)) pss_nil)
    (pss_one (ps_ret (pe_ifExp (pt_val (pe_callB (cr_all rfl) rfl T.z_all (by decide +kernel) (pa_cons (pe_lc (own := [("times", 4)]) (g := gName 4) (tt := tYes) (te := tOp rEq (tVar 4) (tOp (rIxL K) (tVar 2) (tC (.int 0)))) rfl scComm.nd (pi_list (pv 2))
        (blkOk_by (N := ["weights", "least", "some", "weight", "times"]) (sc := defScope sComm) (by decide +kernel)) (fun _ _ _ _ _ => pg_name (i := 4) scComm.nd rfl (Or.inl rfl)) (fun _ _ _ _ _ => pts_nil)
        (fun _ _ _ _ _ => pe_cmpR op_eq (pv 4) (pe_ix ix_list (pv 2) pe_int (fun _ _ => rfl)) (nomark _))) pa_nil)))
      (pe_ix ix_list (pv 2) pe_int (fun _ _ => rfl)) pe_int)))), ?_⟩
  -- some = [..]
  refine ⟨_, rfl, _, rfl, _, rfl, a, b, w, l, rfl, hA, hB, len, lw, fun p1 H1 s1 h1 => ?_⟩
  refine ⟨a, p1, _, _, rfl, s1.seq hA, SqL.of h1, fun D hD => lc_it (walk_zip (K := K) (a := a) (b := p1) (xs := zs w) (ys := zs (allTimes w l)) (n := (w.zip (allTimes w l)).length) (by rw [zip_len, zs_len, zs_len]))
    (fun i H2 => Same H1 H2 ∧ H2 D = some (.lst (zs ((((w.zip (allTimes w l)).take i).filter fun x => decide (0 < x.1)).map (·.2))))) ⟨same_new hD _, upd_same⟩ (fun i H2 _ z => ⟨z.1.seq (s1.seq hA), z.1.seq (SqL.of h1)⟩) ?_ ?_⟩
  · rintro i x H2 H3 hi ⟨s2, h2⟩ ⟨Tt, vx, vy, rfl, hT, rfl, ex, ey⟩
    obtain ⟨x, hx, rfl⟩ := zs_of ex
    obtain ⟨y, hy, rfl⟩ := zs_of ey
    have s3 := s2.trans (same_new hT (.tup [V.int (x : Nat), V.int (y : Nat)]))
    have hD2 : upd H2 Tt (.tup [V.int (x : Nat), V.int (y : Nat)]) D = some (.lst (zs ((((w.zip (allTimes w l)).take i).filter fun x => decide (0 < x.1)).map (·.2)))) := by
      rw [upd_ne (ne_of_none h2 hT)]
      exact h2
    refine ⟨Tt, _, rfl, SqT.of upd_same, rfl, _, _, rfl, _, _, rfl, rfl, rfl, ?_⟩
    refine ⟨_, rfl, _, _, rfl, rfl, _, rfl, ?_⟩
    rw [zip_take_more hx hy, List.filter_append, List.map_append]
    refine ite2 (fun c => ?_) (fun c => ?_)
    · have c1 : 0 < x := by
        have := of_decide_eq_true c
        omega
      refine ⟨_, rfl, _, hD2, ?_, same_upd s3 hD, ?_⟩
      · rw [zs_len, List.length_map]
        have := List.length_filter_le (fun x : Nat × Nat => decide (0 < x.1)) ((w.zip (allTimes w l)).take i)
        rw [List.length_take, zip_len] at this
        exact small_line' (by omega)
      · rw [upd_same, zs_app, List.filter_cons, if_pos (decide_eq_true c1)]
        rfl
    · have c1 : ¬ 0 < x := fun z => c (decide_eq_true (by omega))
      refine ⟨s3, ?_⟩
      rw [List.filter_cons, if_neg (by simpa using c1), List.filter_nil, List.map_nil, List.append_nil]
      exact hD2
  · rintro H2 ⟨s2, h2⟩
    rw [List.take_length] at h2
    have h2 : H2 D = some (.lst (zs (someOf w l))) := h2
    have s3 := s1.trans s2
    unfold common at q
    have ll : (someOf w l).length ≤ 1000 := by
      unfold someOf
      rw [List.length_map]
      refine Nat.le_trans (List.length_filter_le _ _) ?_
      rw [zip_len]
      omega
    generalize someOf w l = L at *
    -- if some == []: return 1
    refine ⟨_, rfl, (by show 0 ≤ sizeLine; decide), fun p3 hp3 => ?_⟩
    have s4 := same_new hp3 (.lst ([] : List V))
    refine ⟨D, p3, Sy65.ints L, [], rfl, rfl, SqL.of (s4 _ _ h2), SqL.of upd_same, _, rfl, ?_⟩
    cases L with
    | nil => exact iteT (q _ (s3.trans s4))
    | cons t r =>
      have h4 := s4 _ _ h2
      rw [decide_eq_false (fun z => by cases z)]
      refine iteF ?_
      -- all([times == some[0] for times in some])
      refine ⟨_, rfl, D, rfl, ⟨_, SqL.of h4⟩, fun D2 hD2 => lc_list (K := K) (a := D) (xs := zs (t :: r)) (fun i H5 => Same (upd H2 p3 (.lst [])) H5 ∧ H5 D2 = some (.lst ((((t :: r).take i).map fun x => decide (V.int (x : Nat) = V.int (t : Nat))).map V.bl)))
        ⟨same_new hD2 _, upd_same⟩ (fun i H5 _ z => z.1.seq (SqL.of h4)) ?_ ?_⟩
      · rintro i x H5 hx ⟨s5, h5⟩
        obtain ⟨y, hy, rfl⟩ := zs_of hx
        refine ⟨rfl, ?_⟩
        refine ⟨_, rfl, _, rfl, D, _, 0, V.int (t : Nat), rfl, rfl, SqL.of (s5 _ _ h4), atI_nat (j := 0) rfl, rfl, _, h5, ?_, same_upd s5 hD2, ?_⟩
        · rw [List.length_map, List.length_map, List.length_take]
          exact small_line' (by omega)
        · rw [upd_same, take_more hy, List.map_append, List.map_append]
          rfl
      · rintro H5 ⟨s5, h5⟩
        rw [zs_len, List.take_length] at h5
        refine ⟨D2, _, rfl, SqL.of h5, _, rfl, ?_⟩
        have s6 := (s3.trans s4).trans s5
        have e : (((t :: r).map fun x => decide (V.int (x : Nat) = V.int (t : Nat))).all id) = (t :: r).all fun x => decide (x = t) := by
          rw [List.all_map]
          congr 1
          funext x
          show decide (V.int (x : Nat) = V.int (t : Nat)) = decide (x = t)
          by_cases c : x = t
          · rw [c, decide_eq_true rfl, decide_eq_true rfl]
          · rw [decide_eq_false c]
            exact decide_eq_false (fun z => c (Int.ofNat.inj (V.int.inj z)))
        rw [e]
        have q2 := q H5 s6
        dsimp only at q2
        refine ite2 (fun c => ?_) (fun c => ?_)
        · rw [if_pos c] at q2
          exact ⟨_, rfl, D, _, 0, V.int (t : Nat), rfl, rfl, SqL.of (s5 _ _ h4), atI_nat (j := 0) rfl, q2⟩
        · rw [if_neg c] at q2
          exact q2
end
end Mob

set_option Elab.async false
set_option linter.all false
set_option maxRecDepth 100000
set_option maxHeartbeats 4000000
namespace Mob
open PySem PySem.Spec PyProof.Rows L2

theorem filter_more {l : List Nat} {i x : Nat} (p : Nat → Bool) (h : l[i]? = some x) : (l.take (i + 1)).filter p = if p x = true then (l.take i).filter p ++ [x] else (l.take i).filter p := by
  rw [take_more h, List.filter_append, List.filter_cons]
  by_cases c : p x = true
  · rw [if_pos c, if_pos c]
    rfl
  · rw [if_neg c, if_neg c, List.filter_nil, List.append_nil]
theorem ints_count (l : List Nat) (x : Nat) : (Sy65.ints l).count (x : Int) = l.count x := by
  induction l with
  | nil => rfl
  | cons a l ih =>
    show (((a : Nat) : Int) :: Sy65.ints l).count (x : Int) = _
    rw [List.count_cons, List.count_cons, ih]
    congr 1
    by_cases c : a = x
    · subst c; simp
    · have c1 : ¬ ((a : Nat) : Int) = (x : Nat) := fun z => c (Int.ofNat.inj z)
      simp [c, c1]

section
variable {P : Program} {w : World} {K : PySem.W.Frag} {mg : Str → Option Value} {base : Heap} {A : Cs}

theorem scBest : FnScope ["weights", "least", "some", "most", "times"] ["weights", "least"] (defScope sBest) := ⟨rfl, rfl, rfl, by decide +kernel, rfl, by decide +kernel, by decide +kernel⟩
theorem ok_best (T : EvB K mg A) : FnOk P w K mg base CX0 3 T.f_best T.d_best ["weights", "least"] (spBest K) := by
  have GA : FnOk P w K mg base CX0 2 T.f_allT T.d_allT ["weights", "least"] (spAllT K) := ok_allT T
  refine T.best.fn.ok scBest (fun vs H Q E h => ?_) (fun cdv Ar outer s H vs Q E hr h => ?_)
  · obtain ⟨a, b, w, l, rfl, _⟩ := h
    rfl
  obtain ⟨a, b, w, l, rfl, hA, hB, len, lw, q⟩ := h
  refine ⟨_, pss_cons (ps_set (i := 2) scBest.nd rfl (Or.inr rfl) (pe_lc (own := [("times", 4)]) (g := gName 4) rfl scBest.nd
      (pi_list (pcall T.allT GA hr pass0 (pa_cons (pv 0) (pa_cons (pv 1) pa_nil))))
      (blkOk_by (N := ["weights", "least", "some", "most", "times"]) (sc := defScope sBest) (by decide +kernel))
      (fun _ _ _ _ _ => pg_name (i := 4) scBest.nd rfl (Or.inl rfl)) (fun _ _ _ _ _ => pts_one (pt_cmpR op_gt (pv 4) pe_int (nomark _))) (fun _ _ _ _ _ => pv 4)))
    (pss_cons (ps_if (pt_cmpR (op_eqI hr.units) (pv 2) (pe_lst pa_nil) (nomark _)) (pss_one (ps_ret pe_int)) pss_nil)
    (pss_cons (ps_set (i := 3) scBest.nd rfl (Or.inr rfl) (pe_callB (cr_max rfl) rfl T.z_max (by decide +kernel) (pa_cons (pe_lc (own := [("times", 4)]) (g := gName 4) (tt := tYes) (te := tBM K "list" (rCntI K) (tVar 2) (tCons (tVar 4) tNil)) rfl scBest.nd (pi_list (pv 2))
        (blkOk_by (N := ["weights", "least", "some", "most", "times"]) (sc := defScope sBest) (by decide +kernel)) (fun _ _ _ _ _ => pg_name (i := 4) scBest.nd rfl (Or.inl rfl)) (fun _ _ _ _ _ => pts_nil)
        (fun _ _ _ _ _ => pe_bm PySem.F.plainAttrs_list PySem.F.slot_list_count PySem.F.type_list_count mt_lcount (pv 2) (pa_cons (pv 4) pa_nil))) pa_nil)))
    (pss_one (ps_ret (pe_callB (cr_min rfl) rfl T.z_min (by decide +kernel) (pa_cons (pe_lc (own := [("times", 4)]) (g := gName 4) (tt := tTest (tOp rEq (tBM K "list" (rCntI K) (tVar 2) (tCons (tVar 4) tNil)) (tVar 3))) rfl scBest.nd (pi_list (pv 2))
        (blkOk_by (N := ["weights", "least", "some", "most", "times"]) (sc := defScope sBest) (by decide +kernel)) (fun _ _ _ _ _ => pg_name (i := 4) scBest.nd rfl (Or.inl rfl))
        (fun _ _ _ _ _ => pts_one (pt_cmpR op_eq (pe_bm PySem.F.plainAttrs_list PySem.F.slot_list_count PySem.F.type_list_count mt_lcount (pv 2) (pa_cons (pv 4) pa_nil)) (pv 3) (nomark _)))
        (fun _ _ _ _ _ => pv 4)) pa_nil)))))), ?_⟩
  -- some = [..]
  refine ⟨_, rfl, _, rfl, a, b, w, l, rfl, hA, hB, len, lw, fun p1 H1 s1 h1 => ?_⟩
  refine ⟨p1, rfl, ⟨_, SqL.of h1⟩, fun D hD => lc_list (K := K) (a := p1) (xs := zs (allTimes w l)) (fun i H2 => Same H1 H2 ∧ H2 D = some (.lst (zs (((allTimes w l).take i).filter fun t => decide (0 < t)))))
    ⟨same_new hD _, upd_same⟩ (fun i H2 _ z => z.1.seq (SqL.of h1)) ?_ ?_⟩
  · rintro i x H2 hx ⟨s2, h2⟩
    obtain ⟨y, hy, rfl⟩ := zs_of hx
    refine ⟨rfl, ?_⟩
    refine ⟨_, rfl, _, _, rfl, rfl, _, rfl, ?_⟩
    rw [filter_more _ hy]
    refine ite2 (fun c => ?_) (fun c => ?_)
    · have c1 : 0 < y := by
        have := of_decide_eq_true c
        omega
      rw [if_pos (decide_eq_true c1)]
      refine ⟨_, rfl, _, h2, ?_, same_upd s2 hD, ?_⟩
      · rw [zs_len]
        have := List.length_filter_le (fun t => decide (0 < t)) ((allTimes w l).take i)
        have e : (allTimes w l).length ≤ w.length := by
          unfold allTimes
          rw [List.length_map, zip_len]
          omega
        rw [List.length_take] at this
        exact small_line' (by omega)
      · rw [upd_same, zs_app]
        rfl
    · have c1 : ¬ 0 < y := fun z => c (decide_eq_true (by omega))
      rw [if_neg (by simpa using c1)]
      exact ⟨s2, h2⟩
  · rintro H2 ⟨s2, h2⟩
    rw [zs_len, List.take_length] at h2
    have h2 : H2 D = some (.lst (zs (posTimes w l))) := h2
    have s3 := s1.trans s2
    have ll : (posTimes w l).length ≤ 1000 := by
      unfold posTimes allTimes
      refine Nat.le_trans (List.length_filter_le _ _) ?_
      rw [List.length_map, zip_len]
      omega
    generalize posTimes w l = L at *
    -- if some == []: return 1
    refine ⟨_, rfl, (by show 0 ≤ sizeLine; decide), fun p3 hp3 => ?_⟩
    have s4 := same_new hp3 (.lst ([] : List V))
    refine ⟨D, p3, Sy65.ints L, [], rfl, rfl, SqL.of (s4 _ _ h2), SqL.of upd_same, _, rfl, ?_⟩
    refine ite2 (fun c => ?_) (fun c => ?_)
    · have c1 : Sy65.ints L = [] := of_decide_eq_true c
      have c2 : L = [] := ints_inj.mp c1
      exact q 1 _ (.inl ⟨c2, rfl⟩) (s3.trans s4)
    have ne : L ≠ [] := fun z => c (decide_eq_true (by rw [z]; rfl))
    have s34 := s3.trans s4
    have h4 := s4 _ _ h2
    generalize upd H2 p3 (.lst ([] : List V)) = H4 at *
    -- most = max([some.count(times) for times in some])
    refine ⟨_, rfl, D, rfl, ⟨_, SqL.of h4⟩, fun D2 hD2 => lc_list (K := K) (a := D) (xs := zs L) (fun i H5 => Same H4 H5 ∧ H5 D2 = some (.lst (zs ((L.take i).map fun x => L.count x))))
      ⟨same_new hD2 _, upd_same⟩ (fun i H5 _ z => z.1.seq (SqL.of h4)) ?_ ?_⟩
    · rintro i x H5 hx ⟨s5, h5⟩
      obtain ⟨y, hy, rfl⟩ := zs_of hx
      refine ⟨rfl, ?_⟩
      refine ⟨_, rfl, .inl ⟨rfl, _, SqL.of (s5 _ _ h4)⟩, _, rfl, D, Sy65.ints L, y, rfl, rfl, SqL.of (s5 _ _ h4), _, h5, ?_, same_upd s5 hD2, ?_⟩
      · rw [zs_len, List.length_map, List.length_take]
        exact small_line' (by omega)
      · rw [upd_same, take_more hy, List.map_append, zs_app, ints_count]
        rfl
    · rintro H5 ⟨s5, h5⟩
      rw [zs_len, List.take_length] at h5
      refine ⟨D2, Sy65.ints (L.map fun x => L.count x), rfl, SqL.of h5, ?_, fun m hm1 hm2 => ?_⟩
      · rw [ints_len, List.length_map]
        exact List.length_pos_iff.mpr ne
      obtain ⟨m, hm0, rfl⟩ := ints_mem hm1
      obtain ⟨x0, hx0, ex0⟩ := List.mem_map.mp hm0
      have top : ∀ x ∈ L, L.count x ≤ m := fun x hx => by
        have := hm2 _ (mem_ints (List.mem_map.mpr ⟨x, hx, rfl⟩))
        omega
      have s35 := s34.trans s5
      have h45 := s5 _ _ h4
      -- min([times for times in some if some.count(times) == most])
      refine ⟨_, rfl, D, rfl, ⟨_, SqL.of h45⟩, fun D3 hD3 => lc_list (K := K) (a := D) (xs := zs L) (fun i H6 => Same H5 H6 ∧ H6 D3 = some (.lst (zs ((L.take i).filter fun x => decide (L.count x = m)))))
        ⟨same_new hD3 _, upd_same⟩ (fun i H6 _ z => z.1.seq (SqL.of h45)) ?_ ?_⟩
      · rintro i x H6 hx ⟨s6, h6⟩
        obtain ⟨y, hy, rfl⟩ := zs_of hx
        refine ⟨rfl, ?_⟩
        refine ⟨_, rfl, .inl ⟨rfl, _, SqL.of (s6 _ _ h45)⟩, _, rfl, D, Sy65.ints L, y, rfl, rfl, SqL.of (s6 _ _ h45), _, rfl, rfl, _, rfl, ?_⟩
        rw [filter_more _ hy, ints_count]
        refine ite2 (fun c => ?_) (fun c => ?_)
        · have c1 : L.count y = m := Int.ofNat.inj (V.int.inj (of_decide_eq_true c))
          rw [if_pos (decide_eq_true c1)]
          refine ⟨_, rfl, _, h6, ?_, same_upd s6 hD3, ?_⟩
          · rw [zs_len]
            have := List.length_filter_le (fun x => decide (L.count x = m)) (L.take i)
            rw [List.length_take] at this
            exact small_line' (by omega)
          · rw [upd_same, zs_app]
            rfl
        · have c1 : ¬ L.count y = m := fun z => c (decide_eq_true (by rw [z]))
          rw [if_neg (by simpa using c1)]
          exact ⟨s6, h6⟩
      · rintro H6 ⟨s6, h6⟩
        rw [zs_len, List.take_length] at h6
        refine ⟨D3, Sy65.ints (L.filter fun x => decide (L.count x = m)), rfl, SqL.of h6, ?_, fun n hn1 hn2 => ?_⟩
        · rw [ints_len]
          exact List.length_pos_of_mem (List.mem_filter.mpr ⟨hx0, decide_eq_true ex0⟩)
        obtain ⟨n, hn0, rfl⟩ := ints_mem hn1
        obtain ⟨hn3, hn4⟩ := List.mem_filter.mp hn0
        have en : L.count n = m := of_decide_eq_true hn4
        refine q n H6 (.inr ⟨hn3, fun x hx => by rw [en]; exact top x hx, fun x hx ex => ?_⟩) (s35.trans s6)
        have := hn2 _ (mem_ints (List.mem_filter.mpr ⟨hx, decide_eq_true (ex.trans en)⟩))
        omega

theorem scArmsW : FnScope ["rod", "weights", "left", "right", "by"] ["rod", "weights"] (defScope sArmsW) := ⟨rfl, rfl, rfl, by decide +kernel, rfl, by decide +kernel, by decide +kernel⟩
theorem ok_armsW (T : EvB K mg A) : FnOk P w K mg base CX0 2 T.f_armsW T.d_armsW ["rod", "weights"] (spArmsW K A) := by
  have GE : FnOk P w K mg base CX0 1 T.f_ends T.d_ends ["rod", "weights"] (spEnds K A) := ok_ends T
  have GD : FnOk P w K mg base CX0 1 T.f_div T.d_div ["one", "other"] spDiv := ok_div T
  refine T.armsW.fn.ok scArmsW (fun vs H Q E h => ?_) (fun cdv Ar outer s H vs Q E hr h => ?_)
  · obtain ⟨a, l, r, w, rfl, _⟩ := h
    rfl
  obtain ⟨a, l, r, w, rfl, hR, hS, g0, gb, q⟩ := h
  refine ⟨_, pss_cons (ps_asg (pcall T.ends GE hr pass0 (pa_cons (pv 0) (pa_cons (pv 1) pa_nil))) (pg_tup (by rfl) (pgs_cons (pg_name (i := 2) scArmsW.nd rfl (Or.inl rfl)) (pgs_cons (pg_name (i := 3) scArmsW.nd rfl (Or.inl rfl)) pgs_nil))))
    (pss_cons (ps_set (i := 4) scArmsW.nd rfl (Or.inl rfl) (pcall T.div GD hr pass0 (pa_cons (pv 2) (pa_cons (pv 3) pa_nil))))
    (pss_one (ps_ret (pe_lst (pa_cons (pe_op op_fdivW (pv 3) (pv 4)) (pa_cons (pe_op op_fdivW (pv 2) (pv 4)) pa_nil)))))), ?_⟩
  have p0 : 0 < Nat.gcd (endL r w) (endR r w) := Nat.gcd_pos_of_pos_left _ g0
  have pb : Nat.gcd (endL r w) (endR r w) < 2 ^ 1000 := Nat.lt_of_le_of_lt (Nat.le_of_dvd g0 (Nat.gcd_dvd_left _ _)) gb
  refine ⟨_, rfl, _, rfl, a, l, r, w, rfl, hR, hS, fun p H1 s1 h1 => ?_⟩
  refine ⟨p, _, rfl, SqT.of h1, rfl, _, _, rfl, _, _, rfl, rfl, ?_⟩
  refine ⟨_, rfl, _, rfl, endL r w, endR r w, rfl, ?_⟩
  refine ⟨_, rfl, _, rfl, _, _, rfl, rfl, wide_div (by omega) (natCast_lt pb) (by decide) (by decide), _, rfl, _, rfl, _, _, rfl, rfl, wide_div (by omega) (natCast_lt pb) (by decide) (by decide), (by show 2 ≤ sizeLine; decide), fun p2 hp2 => ?_⟩
  exact q p2 _ (s1.trans (same_new hp2 _)) upd_same

theorem scWaysOf : FnScope ["weights", "least", "times", "due"] ["weights", "least"] (defScope sWaysOf) := ⟨rfl, rfl, rfl, by decide +kernel, rfl, by decide +kernel, by decide +kernel⟩
theorem ok_waysOf (T : EvB K mg A) : FnOk P w K mg base CX0 2 T.f_waysOf T.d_waysOf ["weights", "least"] (spWaysOf K) := by
  have GS : FnOk P w K mg base CX0 1 T.f_scaled T.d_scaled ["weights", "many"] (spScaled K) := ok_scaled T
  refine T.waysOf.fn.ok scWaysOf (fun vs H Q E h => ?_) (fun cdv Ar outer s H vs Q E hr h => ?_)
  · obtain ⟨a, b, w, l, rfl, _⟩ := h
    rfl
  obtain ⟨a, b, w, l, rfl, hA, hB, len, lw, l0, lb, wb, q⟩ := h
  refine ⟨_, pss_cons (ps_set (i := 2) scWaysOf.nd rfl (Or.inl rfl) (pe_op op_fdivW (pe_callB (cr_sum rfl) rfl T.z_sum (by decide +kernel) (pa_cons (pv 0) pa_nil)) (pe_callB (cr_sum rfl) rfl T.z_sum (by decide +kernel) (pa_cons (pv 1) pa_nil))))
    (pss_cons (ps_set (i := 3) scWaysOf.nd rfl (Or.inl rfl) (pcall T.scaled GS hr pass0 (pa_cons (pv 1) (pa_cons (pv 2) pa_nil))))
    (pss_one (ps_ret (pe_ifExp (pt_cmpR (op_eqI hr.units) (pe_callB cr_sortedI rfl T.z_sorted (by decide +kernel) (pa_cons (pv 3) pa_nil)) (pe_callB cr_sortedI rfl T.z_sorted (by decide +kernel) (pa_cons (pv 0) pa_nil)) (nomark _))
      (pe_lst (pa_cons (pv 3) pa_nil)) (pe_lst pa_nil))))), ?_⟩
  refine ⟨_, rfl, a, Sy65.ints w, rfl, hA, _, rfl, b, Sy65.ints l, rfl, hB, _, _, rfl, rfl, ?_, ?_⟩
  · rw [ints_sum, ints_sum]
    exact wide_div (by omega) (natCast_lt lb) (by decide) (by decide)
  have e : (Sy65.ints w).sum / (Sy65.ints l).sum = ((w.sum / l.sum : Nat) : Int) := by
    rw [ints_sum, ints_sum]
    rfl
  refine ⟨_, rfl, _, rfl, b, l, w.sum / l.sum, ?_, hB, len, pow_lt (Nat.lt_of_le_of_lt (Nat.div_le_self _ _) wb) (by decide), lw.2, fun p1 H1 s1 h1 _ => ?_⟩
  · show [V.ref b, V.int ((Sy65.ints w).sum / (Sy65.ints l).sum)] = _
    rw [e]
  unfold waysL at q
  generalize Sy65.times (w.sum / l.sum) l = due at *
  refine ⟨_, rfl, p1, Sy65.ints due, rfl, SqL.of h1, fun ns p2 n1 n2 hp2 => ?_⟩
  have s2 := same_new hp2 (.lst (ns.map V.int))
  refine ⟨_, rfl, a, Sy65.ints w, rfl, s2.seq (s1.seq hA), fun ms p3 m1 m2 hp3 => ?_⟩
  have s3 := s2.trans (same_new hp3 (.lst (ms.map V.int)))
  refine ⟨p2, p3, ns, ms, rfl, rfl, SqL.of (same_new hp3 _ _ _ upd_same), SqL.of upd_same, _, rfl, ?_⟩
  refine ite2 (fun c => ?_) (fun c => ?_)
  · have c1 : due.Perm w := (sorted_same n1 n2 m1 m2).mp (of_decide_eq_true c)
    rw [if_pos c1] at q
    refine ⟨_, rfl, (by show 1 ≤ sizeLine; decide), fun p4 hp4 => ?_⟩
    have s4 := same_new hp4 (.lst [V.ref p1])
    exact q p4 [p1] _ ((s1.trans s3).trans s4) upd_same (.cons (s4 _ _ (s3 _ _ h1)) .nil)
  · have c1 : ¬ due.Perm w := fun z => c (decide_eq_true ((sorted_same n1 n2 m1 m2).mpr z))
    rw [if_neg c1] at q
    refine ⟨(by show 0 ≤ sizeLine; decide), fun p4 hp4 => ?_⟩
    exact q p4 [] _ ((s1.trans s3).trans (same_new hp4 _)) upd_same .nil
end
end Mob

set_option Elab.async false
set_option linter.all false
set_option maxRecDepth 100000
set_option maxHeartbeats 4000000
namespace Mob
open PySem PySem.Spec PyProof.Rows L2

/-! ### refusals, shapes: what the top has written -/
structure EvS (K : PySem.W.Frag) (mg : Str → Option Value) (A : Cs) extends EvB K mg A where
  f_refI : Addr
  d_refI : FuncData
  refF : Fun K "__init__" "Refused.__init__" sRefI f_refI d_refI
  refB : Binds K d_refI ["self", "number"] []
  g_Ref : mg "Refused" = some (.ref A.E)
  oex : OexC K A.E
  iE : PySem.W.findIn K (.ref A.E) "__init__" = some (some (.ref f_refI))
  tI : PySem.W.typeIn K (.ref f_refI) = some (.type "function")
  nE : PySem.W.findIn K (.ref A.E) "number" = some none
  xf : XfC K A.E
  exm : PySem.W.exmOne K (.ref A.E) (.ref A.E) = some true
  vV : PySem.W.findCls K (.type "ValueError") (.type "type") "__init__" = some (.val (.builtin "ValueError.__init__"))
  z_VE : mg "ValueError" = none
  f_want : Addr
  d_want : FuncData
  want : Def K mg "want" sWant ["truth", "number"] f_want d_want
  f_rodI : Addr
  d_rodI : FuncData
  rodI : IDef K mg A.R "Rod" "Rod.__init__" sRodI ["self", "spot", "left", "right", "first", "middle", "last"] f_rodI d_rodI
  f_shapeI : Addr
  d_shapeI : FuncData
  shapeI : IDef K mg A.S "Shape" "Shape.__init__" sShapeI ["self", "numbers", "rods", "hooks"] f_shapeI d_shapeI
  f_readI : Addr
  d_readI : FuncData
  readI : IDef K mg A.Rd "Reader" "Reader.__init__" sReadI ["self", "numbers"] f_readI d_readI
  f_take : Addr
  d_take : FuncData
  take : MDef K A.Rd "take" "Reader.take" sTake ["self"] f_take d_take
  f_isArm : Addr
  d_isArm : FuncData
  isArm : Def K mg "is_arm" sIsArm ["number"] f_isArm d_isArm
  f_rodR : Addr
  d_rodR : FuncData
  rodR : Def K mg "rod_read" sRodR ["reader", "left"] f_rodR d_rodR
  f_mobR : Addr
  d_mobR : FuncData
  mobR : Def K mg "mobile_read" sMobR ["reader"] f_mobR d_mobR
  f_shapeOf : Addr
  d_shapeOf : FuncData
  shapeOf : Def K mg "shape_of" sShapeOf ["numbers"] f_shapeOf d_shapeOf
  f_withA : Addr
  d_withA : FuncData
  withA : Def K mg "with_arms" sWithA ["shape", "place", "left", "right"] f_withA d_withA
  f_listed : Addr
  d_listed : FuncData
  listed : Def K mg "listed" sListed ["row"] f_listed d_listed
  f_wantW : Addr
  d_wantW : FuncData
  wantW : Def K mg "want_weights" sWantW ["weights"] f_wantW d_wantW
  g_BAD : IntAt mg "BAD" (-1)
  g_NOT : IntAt mg "NOT_THERE" (-2)
  g_LACK : IntAt mg "LACKING" (-4)
  g_MANY : IntAt mg "TOO_MANY" (-5)
  g_NONE : IntAt mg "NONE_SUCH" (-6)
  g_HOOK : IntAt mg "HOOK" 0
  g_LONG : IntAt mg "LONGEST_ARM" 20
  g_MOST : IntAt mg "MOST_HOOKS" 7
  g_GREAT : IntAt mg "GREATEST_WEIGHT" 1000000
  z_len : mg "len" = none
  z_list : mg "list" = none
  z_range : mg "range" = none
  z_int : mg "int" = none

/-! ### promises -/
def spRefI (A : Cs) : Sp := fun vs H Q _ => ∃ (a : Addr) (k : Int), vs = [.ref a, .int k] ∧ H a = some (exo a A.E none) ∧
  ∀ dx, H dx = none → dx ≠ a → Q .non (upd (upd H dx (exd dx [("number", .int k)])) a (exo a A.E (some dx)))
def spWant (A : Cs) : Sp := fun vs H Q E => ∃ (b : Bool) (k : Int), vs = [.bl b, .int k] ∧ (b = true → Q .non H) ∧ (b = false → Err A H k E)
def spTake (A : Cs) : Sp := fun vs H Q E => ∃ (a dx nl rl : Addr) (ns : List Nat) (spot hooks : Nat), vs = [.ref a] ∧ H a = some (.ins A.Rd dx (rdF nl spot rl hooks)) ∧ H nl = some (.lst (zs ns)) ∧
  (∀ x, ns[spot]? = some x → Q (.int (x : Nat)) (upd H a (.ins A.Rd dx (rdF nl (spot + 1) rl hooks)))) ∧ (ns[spot]? = none → Err A H (-1) E)
def spIsArm : Sp := fun vs H Q _ => ∃ n : Nat, vs = [.int n] ∧ Q (.bl (decide (1 ≤ n ∧ n ≤ 20))) H
def spRodI (A : Cs) : Sp := fun vs H Q _ => ∃ (p dx : Addr) (r : R), vs = [.ref p, .int r.spot, .int r.left, .int r.right, .int r.first, .int r.middle, .int r.last] ∧ H p = some (.ins A.R dx []) ∧
  ∀ H', RodAt A H' p r → (∀ b o, H b = some o → b ≠ p → H' b = some o) → Q .non H'
def spShapeI (A : Cs) : Sp := fun vs H Q _ => ∃ (p dx nl rl : Addr) (n : Nat), vs = [.ref p, .ref nl, .ref rl, .int n] ∧ H p = some (.ins A.S dx []) ∧
  ∀ H', H' p = some (.ins A.S dx (shF nl rl n)) → (∀ b o, H b = some o → b ≠ p → H' b = some o) → Q .non H'
def spReadI (A : Cs) : Sp := fun vs H Q _ => ∃ (p dx nl : Addr), vs = [.ref p, .ref nl] ∧ H p = some (.ins A.Rd dx []) ∧
  ∀ H' rl, H' p = some (.ins A.Rd dx (rdF nl 0 rl 0)) → H' rl = some (.lst []) → H rl = none → (∀ b o, H b = some o → b ≠ p → H' b = some o) → Q .non H'
def spListed (K : PySem.W.Frag) : Sp := fun vs H Q _ => ∃ (a : Addr) (xs : List V), vs = [.ref a] ∧ SqL K H a xs ∧ xs.length ≤ 1000000 ∧ ∀ p H', Same H H' → H' p = some (.lst (.int (xs.length : Nat) :: xs)) → Q (.ref p) H'
def spWantW (K : PySem.W.Frag) (A : Cs) : Sp := fun vs H Q E => ∃ (a : Addr) (w : List Nat), vs = [.ref a] ∧ SqL K H a (zs w) ∧ w.length ≤ 1000 ∧ ((∀ x ∈ w, x ≤ 1000000) → ∀ H', Same H H' → Q .non H') ∧ ((¬ ∀ x ∈ w, x ≤ 1000000) → Err A H (-1) E)

theorem ek_take (nl rl : Addr) (n m : Nat) : (rdF nl n rl m).lookup ("take" : Str) = none := by
  unfold rdF
  rw [lkp "take" "numbers" (by decide +kernel), lkp "take" "spot" (by decide +kernel), lkp "take" "rods" (by decide +kernel), lkp "take" "hooks" (by decide +kernel)]
  rfl
theorem putp (f g : Str) {v x : V} {r : List (Str × V)} (h : ¬ g = f) : putF f v ((g, x) :: r) = (g, x) :: putF f v r := if_neg h
theorem ep_spot (nl rl : Addr) (n m k : Nat) : putF "spot" (.int k) (rdF nl n rl m) = rdF nl k rl m := by
  unfold rdF
  rw [putp "spot" "numbers" (by decide +kernel), put_here]
theorem ep_hooks (nl rl : Addr) (n m k : Nat) : putF "hooks" (.int k) (rdF nl n rl m) = rdF nl n rl k := by
  unfold rdF
  rw [putp "hooks" "numbers" (by decide +kernel), putp "hooks" "spot" (by decide +kernel), putp "hooks" "rods" (by decide +kernel), put_here]
theorem Err.same {A : Cs} {H H1 : Hp} {k : Int} {E : XK} (e : Err A H k E) (s : Same H H1) : Err A H1 k E := fun H' d t x => e H' d (s.trans t) x

section
variable {P : Program} {w : World} {K : PySem.W.Frag} {mg : Str → Option Value} {base : Heap} {A : Cs}

theorem scRefI : FnScope ["self", "number"] ["self", "number"] (defScope sRefI) := ⟨rfl, rfl, rfl, by decide +kernel, rfl, by decide +kernel, by decide +kernel⟩
theorem ok_refI (T : EvS K mg A) : FnOk P w K mg base CX0 1 T.f_refI T.d_refI ["self", "number"] (spRefI A) := by
  refine T.refF.ok scRefI (fun vs H Q E h => ?_) (fun cdv Ar outer s H vs Q E hr h => ?_)
  · obtain ⟨a, k, rfl, _⟩ := h
    rfl
  obtain ⟨a, k, rfl, ha, q⟩ := h
  refine ⟨_, pss_cons (ps_expr (pe_veinit rfl T.z_VE T.vV (pa_cons (pv 0) (pa_cons pe_str pa_nil)))) (pss_one (ps_ost (pv 0) (pv 1))), ?_⟩
  refine ⟨_, rfl, a, A.E, _, rfl, (by show 1 ≤ 1000; decide), T.oex, ha, ?_⟩
  exact ⟨_, rfl, _, rfl, a, A.E, rfl, T.oex, T.nE, .inl ⟨ha, q⟩⟩

theorem scWant : FnScope ["truth", "number"] ["truth", "number"] (defScope sWant) := ⟨rfl, rfl, rfl, by decide +kernel, rfl, by decide +kernel, by decide +kernel⟩
theorem ok_want (T : EvS K mg A) : FnOk P w K mg base (L2.CX P w) 3 T.f_want T.d_want ["truth", "number"] (spWant A) := by
  have GI : FnOk P w K mg base CX0 1 T.f_refI T.d_refI ["self", "number"] (spRefI A) := ok_refI T
  refine T.want.fn.okX scWant (fun vs H Q E h => ?_) (fun cdv Ar outer s H vs Q E hr h => ?_)
  · obtain ⟨b, k, rfl, _⟩ := h
    rfl
  obtain ⟨b, k, rfl, q, e⟩ := h
  refine ⟨_, pss_one (ps_if (pt_not (pt_val (pv 0))) (pss_one (ps_raise rfl (takes_of rfl rfl rfl rfl) (pmk_oex T.oex T.iE T.tI GI hr T.refB .nil pass0 rfl T.g_Ref (by exact (pa_cons (pv 1) pa_nil))))) pss_nil), ?_⟩
  refine ⟨_, rfl, b, rfl, ?_⟩
  cases b with
  | true => exact iteF (q rfl)
  | false =>
    refine iteT ?_
    refine ⟨_, rfl, (by show 1 ≤ 1000; decide), fun a ha => ?_⟩
    refine ⟨a, k, rfl, upd_same, fun dx hdx hne => ⟨rfl, dx, [("number", .int k)], upd_same, ?_, ?_, ?_⟩⟩
    · rw [upd_ne hne]
      exact upd_same
    · rw [upd_ne hne] at hdx
      exact hdx
    · rw [upd_ne hne] at hdx
      refine e rfl _ dx (fun b o hb => ?_) upd_same
      rw [upd_ne (ne_of_none hb hdx), del_ne (ne_of_none hb ha), upd_ne (ne_of_none hb ha), upd_ne (ne_of_none hb hdx), upd_ne (ne_of_none hb ha)]
      exact hb

theorem scTake : FnScope ["self"] ["self"] (defScope sTake) := ⟨rfl, rfl, rfl, by decide +kernel, rfl, by decide +kernel, by decide +kernel⟩
theorem ok_take (T : EvS K mg A) : FnOk P w K mg base (L2.CX P w) 4 T.f_take T.d_take ["self"] (spTake A) := by
  have GW : FnOk P w K mg base (L2.CX P w) 3 T.f_want T.d_want ["truth", "number"] (spWant A) := ok_want T
  refine T.take.fn.okX scTake (fun vs H Q E h => ?_) (fun cdv Ar outer s H vs Q E hr h => ?_)
  · obtain ⟨a, dx, nl, rl, ns, spot, hooks, rfl, _⟩ := h
    rfl
  obtain ⟨a, dx, nl, rl, ns, spot, hooks, rfl, h1, h2, q, e⟩ := h
  refine ⟨_, pss_cons (ps_expr (pcall (E := E) T.want GW hr passR (pa_cons (pe_cmpR op_lt (pe_fld (pv 0) rfl) (pe_callB call_len_seq rfl T.z_len PySem.boot_len (pa_cons (pe_fld (pv 0) rfl) pa_nil)) (nomark _)) (pa_cons T.g_BAD.pe pa_nil))))
    (pss_cons (ps_fld (pv 0) (pe_op op_add (pe_fld (pv 0) rfl) pe_int) rfl)
    (pss_one (ps_ret (pe_ix ix_list (pe_fld (pv 0) rfl) (pe_op op_sub (pe_fld (pv 0) rfl) pe_int) (fun _ _ => rfl))))), ?_⟩
  refine ⟨_, rfl, _, _, dx, _, _, rfl, h1, T.cls.cRd, T.cls.e2, ek_spot _ _ _ _, _, rfl, _, _, dx, _, _, rfl, h1, T.cls.cRd, T.cls.e1, ek_numbers _ _ _ _, nl, _, rfl, .inl (SqL.of h2), _, _, rfl, rfl, _, _, rfl, fun c => ?_, fun c => ?_⟩
  · have c1 : spot < ns.length := by
      have := of_decide_eq_true c
      rw [zs_len] at this
      omega
    have hx : ns[spot]? = some ns[spot] := List.getElem?_eq_getElem c1
    refine ⟨_, rfl, _, _, dx, _, _, rfl, h1, T.cls.cRd, T.cls.e2, ek_spot _ _ _ _, _, _, rfl, rfl, _, rfl, a, A.Rd, dx, _, rfl, h1, T.cls.cRd, T.cls.e2, (by show 4 < 1000; decide), ?_⟩
    have ea : nl ≠ a := ne_of h2 h1 (fun z => by cases z)
    have ep : putF "spot" (.int (((spot : Nat) : Int) + 1)) (rdF nl spot rl hooks) = rdF nl (spot + 1) rl hooks := ep_spot nl rl spot hooks (spot + 1)
    have h3 : upd H a (.ins A.Rd dx (putF "spot" (.int (((spot : Nat) : Int) + 1)) (rdF nl spot rl hooks))) a = some (.ins A.Rd dx (rdF nl (spot + 1) rl hooks)) := by rw [upd_same, ep]
    have h4 : upd H a (.ins A.Rd dx (putF "spot" (.int (((spot : Nat) : Int) + 1)) (rdF nl spot rl hooks))) nl = some (.lst (zs ns)) := by rw [upd_ne ea]; exact h2
    refine ⟨_, rfl, _, _, dx, _, _, rfl, h3, T.cls.cRd, T.cls.e1, ek_numbers _ _ _ _, _, rfl, _, _, dx, _, _, rfl, h3, T.cls.cRd, T.cls.e2, ek_spot _ _ _ _, _, _, rfl, rfl, nl, _, _, _, rfl, rfl, SqL.of h4, at_of (j := spot) (by omega) (zs_get hx), ?_⟩
    have q2 := q _ hx
    rw [← ep] at q2
    exact q2
  · refine e (List.getElem?_eq_none ?_)
    have := of_decide_eq_false c
    rw [zs_len] at this
    omega

theorem scIsArm : FnScope ["number"] ["number"] (defScope sIsArm) := ⟨rfl, rfl, rfl, by decide +kernel, rfl, by decide +kernel, by decide +kernel⟩
theorem ok_isArm (T : EvS K mg A) : FnOk P w K mg base CX0 1 T.f_isArm T.d_isArm ["number"] spIsArm := by
  refine T.isArm.fn.ok scIsArm (fun vs H Q E h => ?_) (fun cdv Ar outer s H vs Q E hr h => ?_)
  · obtain ⟨n, rfl, _⟩ := h
    rfl
  obtain ⟨n, rfl, q⟩ := h
  refine ⟨_, pss_one (ps_ret (pe_chain op_le op_le pe_int (pv 0) T.g_LONG.pe)), ?_⟩
  refine ⟨_, rfl, _, _, rfl, rfl, _, rfl, ?_⟩
  refine ite2 (fun c => ?_) (fun c => ?_)
  · have c1 := of_decide_eq_true c
    refine ⟨_, _, rfl, rfl, ?_⟩
    have e : decide (((n : Nat) : Int) ≤ 20) = decide (1 ≤ n ∧ n ≤ 20) := by
      by_cases d : n ≤ 20
      · rw [decide_eq_true (show ((n : Nat) : Int) ≤ 20 by omega)]
        exact (decide_eq_true (show 1 ≤ n ∧ n ≤ 20 by omega)).symm
      · rw [decide_eq_false (show ¬ ((n : Nat) : Int) ≤ 20 by omega)]
        exact (decide_eq_false (show ¬ (1 ≤ n ∧ n ≤ 20) by omega)).symm
    show Q (.bl (decide (((n : Nat) : Int) ≤ 20))) H
    rw [e]
    exact q
  · have c1 : ¬ (1 : Int) ≤ (n : Nat) := fun z => c (decide_eq_true z)
    have e : decide (1 ≤ n ∧ n ≤ 20) = false := decide_eq_false (by omega)
    rw [e] at q
    exact q

theorem scRodI : FnScope ["self", "spot", "left", "right", "first", "middle", "last"] ["self", "spot", "left", "right", "first", "middle", "last"] (defScope sRodI) := ⟨rfl, rfl, rfl, by decide +kernel, rfl, by decide +kernel, by decide +kernel⟩
theorem ok_rodI (T : EvS K mg A) : FnOk P w K mg base CX0 1 T.f_rodI T.d_rodI ["self", "spot", "left", "right", "first", "middle", "last"] (spRodI A) := by
  refine T.rodI.fn.ok scRodI (fun vs H Q E h => ?_) (fun cdv Ar outer s H vs Q E hr h => ?_)
  · obtain ⟨p, dx, r, rfl, _⟩ := h
    rfl
  obtain ⟨p, dx, r, rfl, h1, q⟩ := h
  refine ⟨_, pss_cons (ps_fld (pv 0) (pv 1) rfl) (pss_cons (ps_fld (pv 0) (pv 2) rfl) (pss_cons (ps_fld (pv 0) (pv 3) rfl) (pss_cons (ps_fld (pv 0) (pv 4) rfl) (pss_cons (ps_fld (pv 0) (pv 5) rfl) (pss_one (ps_fld (pv 0) (pv 6) rfl)))))), ?_⟩
  refine ⟨_, rfl, _, rfl, p, A.R, dx, _, rfl, h1, T.cls.cR, T.cls.r1, (by show 0 < 1000; decide), ?_⟩
  refine ⟨_, rfl, _, rfl, p, A.R, dx, _, rfl, upd_same, T.cls.cR, T.cls.r2, (by show 1 < 1000; decide), ?_⟩
  refine ⟨_, rfl, _, rfl, p, A.R, dx, _, rfl, upd_same, T.cls.cR, T.cls.r3, (by show 2 < 1000; decide), ?_⟩
  refine ⟨_, rfl, _, rfl, p, A.R, dx, _, rfl, upd_same, T.cls.cR, T.cls.r4, (by show 3 < 1000; decide), ?_⟩
  refine ⟨_, rfl, _, rfl, p, A.R, dx, _, rfl, upd_same, T.cls.cR, T.cls.r5, (by show 4 < 1000; decide), ?_⟩
  refine ⟨_, rfl, _, rfl, p, A.R, dx, _, rfl, upd_same, T.cls.cR, T.cls.r6, (by show 5 < 1000; decide), ?_⟩
  refine q _ ⟨dx, ?_⟩ fun b o e hb => ?_
  · rw [upd_same]
    rfl
  · rw [upd_ne hb, upd_ne hb, upd_ne hb, upd_ne hb, upd_ne hb, upd_ne hb]
    exact e

theorem scShapeI : FnScope ["self", "numbers", "rods", "hooks"] ["self", "numbers", "rods", "hooks"] (defScope sShapeI) := ⟨rfl, rfl, rfl, by decide +kernel, rfl, by decide +kernel, by decide +kernel⟩
theorem ok_shapeI (T : EvS K mg A) : FnOk P w K mg base CX0 1 T.f_shapeI T.d_shapeI ["self", "numbers", "rods", "hooks"] (spShapeI A) := by
  refine T.shapeI.fn.ok scShapeI (fun vs H Q E h => ?_) (fun cdv Ar outer s H vs Q E hr h => ?_)
  · obtain ⟨p, dx, nl, rl, n, rfl, _⟩ := h
    rfl
  obtain ⟨p, dx, nl, rl, n, rfl, h1, q⟩ := h
  refine ⟨_, pss_cons (ps_fld (pv 0) (pv 1) rfl) (pss_cons (ps_fld (pv 0) (pv 2) rfl) (pss_one (ps_fld (pv 0) (pv 3) rfl))), ?_⟩
  refine ⟨_, rfl, _, rfl, p, A.S, dx, _, rfl, h1, T.cls.cS, T.cls.s1, (by show 0 < 1000; decide), ?_⟩
  refine ⟨_, rfl, _, rfl, p, A.S, dx, _, rfl, upd_same, T.cls.cS, T.cls.s2, (by show 1 < 1000; decide), ?_⟩
  refine ⟨_, rfl, _, rfl, p, A.S, dx, _, rfl, upd_same, T.cls.cS, T.cls.s3, (by show 2 < 1000; decide), ?_⟩
  refine q _ ?_ fun b o e hb => ?_
  · rw [upd_same]
    rfl
  · rw [upd_ne hb, upd_ne hb, upd_ne hb]
    exact e

theorem scReadI : FnScope ["self", "numbers"] ["self", "numbers"] (defScope sReadI) := ⟨rfl, rfl, rfl, by decide +kernel, rfl, by decide +kernel, by decide +kernel⟩
theorem ok_readI (T : EvS K mg A) : FnOk P w K mg base CX0 1 T.f_readI T.d_readI ["self", "numbers"] (spReadI A) := by
  refine T.readI.fn.ok scReadI (fun vs H Q E h => ?_) (fun cdv Ar outer s H vs Q E hr h => ?_)
  · obtain ⟨p, dx, nl, rfl, _⟩ := h
    rfl
  obtain ⟨p, dx, nl, rfl, h1, q⟩ := h
  refine ⟨_, pss_cons (ps_fld (pv 0) (pv 1) rfl) (pss_cons (ps_fld (pv 0) pe_int rfl) (pss_cons (ps_fld (pv 0) (pe_lst pa_nil) rfl) (pss_one (ps_fld (pv 0) pe_int rfl)))), ?_⟩
  refine ⟨_, rfl, _, rfl, p, A.Rd, dx, _, rfl, h1, T.cls.cRd, T.cls.e1, (by show 0 < 1000; decide), ?_⟩
  refine ⟨_, rfl, p, A.Rd, dx, _, rfl, upd_same, T.cls.cRd, T.cls.e2, (by show 1 < 1000; decide), ?_⟩
  refine ⟨(by show 0 ≤ sizeLine; decide), fun rl hrl => ?_⟩
  have nr : rl ≠ p := fun z => by rw [z, upd_same] at hrl; cases hrl
  refine ⟨_, rfl, p, A.Rd, dx, _, rfl, (by rw [upd_ne nr.symm]; exact upd_same), T.cls.cRd, T.cls.e3, (by show 2 < 1000; decide), ?_⟩
  refine ⟨_, rfl, p, A.Rd, dx, _, rfl, upd_same, T.cls.cRd, T.cls.e4, (by show 3 < 1000; decide), ?_⟩
  rw [upd_ne nr, upd_ne nr] at hrl
  refine q _ rl ?_ ?_ hrl fun b o e hb => ?_
  · rw [upd_same]
    rfl
  · rw [upd_ne nr, upd_ne nr]
    exact upd_same
  · rw [upd_ne hb, upd_ne hb, upd_ne (ne_of_none e hrl), upd_ne hb, upd_ne hb]
    exact e

theorem scListed : FnScope ["row"] ["row"] (defScope sListed) := ⟨rfl, rfl, rfl, by decide +kernel, rfl, by decide +kernel, by decide +kernel⟩
theorem ok_listed (T : EvS K mg A) : FnOk P w K mg base CX0 1 T.f_listed T.d_listed ["row"] (spListed K) := by
  refine T.listed.fn.ok scListed (fun vs H Q E h => ?_) (fun cdv Ar outer s H vs Q E hr h => ?_)
  · obtain ⟨a, xs, rfl, _⟩ := h
    rfl
  obtain ⟨a, xs, rfl, hS, hl, q⟩ := h
  refine ⟨_, pss_one (ps_ret (pe_op op_cat (pe_lst (pa_cons (pe_callB call_len_seq rfl T.z_len PySem.boot_len (pa_cons (pv 0) pa_nil)) pa_nil)) (pe_callTy call_list_of rfl T.z_list (by decide +kernel) (pa_cons (pv 0) pa_nil)))), ?_⟩
  refine ⟨_, rfl, a, xs, rfl, .inl hS, (by show 1 ≤ sizeLine; decide), fun p hp => ?_⟩
  have s1 := same_new hp (.lst [V.int (xs.length : Nat)])
  refine ⟨_, rfl, a, xs, rfl, .inl (s1.seq hS), fun p2 hp2 => ?_⟩
  have s2 := same_new hp2 (.lst xs)
  refine ⟨p, p2, _, _, rfl, rfl, s2 _ _ upd_same, upd_same, small_line (by simp; omega), fun p3 hp3 => ?_⟩
  exact q p3 _ ((s1.trans s2).trans (same_new hp3 _)) upd_same

theorem scWantW : FnScope ["weights", "weight"] ["weights"] (defScope sWantW) := ⟨rfl, rfl, rfl, by decide +kernel, rfl, by decide +kernel, by decide +kernel⟩
theorem ok_wantW (T : EvS K mg A) : FnOk P w K mg base (L2.CX P w) 4 T.f_wantW T.d_wantW ["weights"] (spWantW K A) := by
  have GW : FnOk P w K mg base (L2.CX P w) 3 T.f_want T.d_want ["truth", "number"] (spWant A) := ok_want T
  refine T.wantW.fn.okX scWantW (fun vs H Q E h => ?_) (fun cdv Ar outer s H vs Q E hr h => ?_)
  · obtain ⟨a, w, rfl, _⟩ := h
    rfl
  obtain ⟨a, w, rfl, hS, hl, q, e⟩ := h
  refine ⟨_, pss_one (ps_expr (pcall (E := E) T.want GW hr passR (pa_cons (pe_callB (cr_all rfl) rfl T.z_all (by decide +kernel) (pa_cons (pe_lc (own := [("weight", 1)]) (g := gName 1) (tt := tYes) rfl scWantW.nd (pi_list (pv 0))
      (blkOk_by (N := ["weights", "weight"]) (sc := defScope sWantW) (by decide +kernel)) (fun _ _ _ _ _ => pg_name (i := 1) scWantW.nd rfl (Or.inl rfl)) (fun _ _ _ _ _ => pts_nil)
      (fun _ _ _ _ _ => pe_cmpR op_le (pv 1) T.g_GREAT.pe (nomark _))) pa_nil)) (pa_cons T.g_BAD.pe pa_nil)))), ?_⟩
  refine ⟨_, rfl, a, rfl, ⟨_, hS⟩, fun D hD => lc_list (K := K) (a := a) (xs := zs w) (fun i H1 => Same H H1 ∧ H1 D = some (.lst (((w.take i).map fun (x : Nat) => decide (((x : Nat) : Int) ≤ 1000000)).map V.bl)))
    ⟨same_new hD _, upd_same⟩ (fun i H1 _ z => z.1.seq hS) ?_ ?_⟩
  · rintro i x H1 hx ⟨s1, h1⟩
    obtain ⟨y, hy, rfl⟩ := zs_of hx
    refine ⟨rfl, ?_⟩
    refine ⟨_, rfl, _, _, rfl, rfl, _, h1, ?_, same_upd s1 hD, ?_⟩
    · rw [List.length_map, List.length_map, List.length_take]
      exact small_line' (by omega)
    · rw [upd_same, take_more hy, List.map_append, List.map_append]
      rfl
  · rintro H1 ⟨s1, h1⟩
    rw [zs_len, List.take_length] at h1
    refine ⟨D, _, rfl, SqL.of h1, _, _, rfl, fun c => ?_, fun c => ?_⟩
    · refine q (fun x hx => ?_) H1 s1
      rw [List.all_map, List.all_eq_true] at c
      have := of_decide_eq_true (c x hx)
      omega
    · refine Err.same (e fun z => ?_) s1
      have : ((w.map fun (x : Nat) => decide (((x : Nat) : Int) ≤ 1000000)).all id) = true := by
        rw [List.all_map, List.all_eq_true]
        intro x hx
        have := z x hx
        exact decide_eq_true (by omega)
      rw [c] at this
      cases this
end
end Mob

set_option Elab.async false
set_option linter.all false
set_option maxRecDepth 100000
set_option maxHeartbeats 4000000
namespace Mob
open PySem PySem.Spec PyProof.Rows L2

theorem str_ne {a b : Str} {v u : V} {r q : List (Str × V)} (h : ¬ a = b) : ((a, v) :: r : List (Str × V)) ≠ (b, u) :: q := fun z => h (Prod.mk.inj (List.cons.inj z).1).1
theorem ins_ne {C D dx dy : Addr} {fs gs : List (Str × V)} (h : fs ≠ gs) : HO.ins C dx fs ≠ HO.ins D dy gs := fun z => by
  injection z with _ _ z3
  exact h z3
theorem rod_ne_rd (r : R) (nl rl : Addr) (n m : Nat) : rodF r ≠ rdF nl n rl m := str_ne (by decide +kernel)
theorem lst_ne_ins {C dx : Addr} {fs : List (Str × V)} {xs : List V} : HO.lst xs ≠ HO.ins C dx fs := fun z => by cases z
/-- all but the reader and its list of rods is as it was -/
def Keep (a rl : Addr) (H H' : Hp) : Prop := ∀ b o, H b = some o → b ≠ a → b ≠ rl → H' b = some o
theorem Keep.of {a rl : Addr} {H H' : Hp} (s : Same H H') : Keep a rl H H' := fun b o h _ _ => s b o h
theorem Keep.trans {a rl : Addr} {H H1 H2 : Hp} (s : Keep a rl H H1) (t : Keep a rl H1 H2) : Keep a rl H H2 := fun b o h n m => t b o (s b o h n m) n m
theorem Keep.seq {a rl : Addr} {H H1 H2 : Hp} (s : Keep a rl H H1) (t : Same H1 H2) : Keep a rl H H2 := fun b o h n m => t b o (s b o h n m)
/-- a refusal's wish behind what the reader has changed -/
def ErrK (A : Cs) (a rl : Addr) (H : Hp) (k : Int) (E : XK) : Prop := ∀ (H' : Hp) (d : Addr), Keep a rl H H' → H' d = some (.xd [(("number" : Str), .int k)]) → E (.ref A.E) (some d) H'
theorem ErrK.go {A : Cs} {a rl : Addr} {H H1 : Hp} {k : Int} {E : XK} (e : ErrK A a rl H k E) (s : Keep a rl H H1) : ErrK A a rl H1 k E := fun H' d t x => e H' d (s.trans t) x
theorem ErrK.err {A : Cs} {a rl : Addr} {H H1 : Hp} {k : Int} {E : XK} (e : ErrK A a rl H k E) (s : Keep a rl H H1) : Err A H1 k E := fun H' d t x => e H' d (s.seq t) x

def spMob (A : Cs) (f : Nat) : Sp := fun vs H Q E => ∃ (a dx nl rl : Addr) (ns : List Nat) (spot hooks : Nat) (rv : List V), vs = [.ref a] ∧ H a = some (.ins A.Rd dx (rdF nl spot rl hooks)) ∧ H nl = some (.lst (zs ns)) ∧ H rl = some (.lst rv) ∧ nl ≠ rl ∧
  ns.length ≤ 60 ∧ spot ≤ ns.length ∧ ns.length < spot + 2 * f ∧ rv.length ≤ spot ∧
  (∀ t rest, Sy65.read f (ns.drop spot) = some (t, rest) → ∀ H' rs, H' a = some (.ins A.Rd dx (rdF nl (spot + (Sy65.numbers t).length) rl (hooks + Sy65.hooks t))) → H' rl = some (.lst (rv ++ rs.map V.ref)) → RodsAt A H' rs (rodsOf spot hooks t) →
    (∀ r ∈ rs, H r = none) → Keep a rl H H' → Q .non H') ∧
  (Sy65.read f (ns.drop spot) = none → ErrK A a rl H (-1) E)
def spRodR (A : Cs) (f : Nat) : Sp := fun vs H Q E => ∃ (a dx nl rl : Addr) (ns : List Nat) (left k hooks : Nat) (rv : List V), vs = [.ref a, .int left] ∧ H a = some (.ins A.Rd dx (rdF nl (k + 1) rl hooks)) ∧ H nl = some (.lst (zs ns)) ∧ H rl = some (.lst rv) ∧ nl ≠ rl ∧
  left ≠ 0 ∧ ns.length ≤ 60 ∧ k + 1 ≤ ns.length ∧ ns.length < k + 2 + 2 * f ∧ rv.length ≤ k ∧
  (∀ t rest, Sy65.read (f + 1) (left :: ns.drop (k + 1)) = some (t, rest) → ∀ H' rs, H' a = some (.ins A.Rd dx (rdF nl (k + (Sy65.numbers t).length) rl (hooks + Sy65.hooks t))) → H' rl = some (.lst (rv ++ rs.map V.ref)) → RodsAt A H' rs (rodsOf k hooks t) →
    (∀ r ∈ rs, H r = none) → Keep a rl H H' → Q .non H') ∧
  (Sy65.read (f + 1) (left :: ns.drop (k + 1)) = none → ErrK A a rl H (-1) E)
theorem read_len {f : Nat} {l : List Nat} {t : Sy65.Tree} {rest : List Nat} (h : Sy65.read f l = some (t, rest)) : rest = l.drop (Sy65.numbers t).length ∧ (Sy65.numbers t).length ≤ l.length ∧ 1 ≤ (Sy65.numbers t).length ∧ Sy65.rods t + 1 ≤ (Sy65.numbers t).length := by
  obtain ⟨e, _⟩ := read_numbers f l t rest h
  have n1 := numbers_len t
  have n2 := hooks_pos t
  have n3 := hooks_rods t
  refine ⟨?_, ?_, by omega, by omega⟩
  · rw [e, List.drop_left]
  · rw [e, List.length_append]
    omega
section
variable {P : Program} {w : World} {K : PySem.W.Frag} {mg : Str → Option Value} {base : Heap} {A : Cs}

theorem scMobR : FnScope ["reader", "number"] ["reader"] (defScope sMobR) := ⟨rfl, rfl, rfl, by decide +kernel, rfl, by decide +kernel, by decide +kernel⟩
theorem ok_mobR (T : EvS K mg A) {f k : Nat} (GR : FnOk P w K mg base (L2.CX P w) (k + 4) T.f_rodR T.d_rodR ["reader", "left"] (spRodR A f)) : FnOk P w K mg base (L2.CX P w) (k + 5) T.f_mobR T.d_mobR ["reader"] (spMob A (f + 1)) := by
  have GT : FnOk P w K mg base (L2.CX P w) 4 T.f_take T.d_take ["self"] (spTake A) := ok_take T
  refine T.mobR.fn.okX scMobR (fun vs H Q E h => ?_) (fun cdv Ar outer s H vs Q E hr h => ?_)
  · obtain ⟨a, dx, nl, rl, ns, spot, hooks, rv, rfl, _⟩ := h
    rfl
  obtain ⟨a, dx, nl, rl, ns, spot, hooks, rv, rfl, h1, h2, h3, nn, len, sl, fu, rvl, q, e⟩ := h
  have hr4 : Room 4 _ := hr.mono (show 4 ≤ k + 4 by omega)
  refine ⟨_, pss_cons (ps_set (i := 1) scMobR.nd rfl (Or.inl rfl) (pe_meth0 (E := E) (pv 0) T.cls.cRd T.take.me GT hr4 T.take.bd .nil passR))
    (pss_one (ps_if (pt_cmpR op_eq (pv 1) T.g_HOOK.pe (nomark _)) (pss_one (ps_fld (pv 0) (pe_op op_add (pe_fld (pv 0) rfl) pe_int) rfl)) (pss_one (ps_expr (pcall (E := E) T.rodR GR hr passR (pa_cons (pv 0) (pa_cons (pv 1) pa_nil))))))), ?_⟩
  refine ⟨_, rfl, a, dx, _, rfl, h1, ek_take _ _ _ _, a, dx, nl, rl, ns, spot, hooks, rfl, h1, h2, fun x hx => ?_, fun hn => ?_⟩
  · have hd : ns.drop spot = x :: ns.drop (spot + 1) := drop_more hx
    have hlt : spot < ns.length := (List.getElem?_eq_some_iff.mp hx).1
    rw [hd] at q e
    have na : nl ≠ a := ne_of h2 h1 lst_ne_ins
    have ra : rl ≠ a := ne_of h3 h1 lst_ne_ins
    refine ⟨_, rfl, rfl, _, rfl, ?_⟩
    refine ite2 (fun c => ?_) (fun c => ?_)
    · have c0 : x = 0 := by
        have := V.int.inj (of_decide_eq_true c)
        omega
      subst c0
      refine ⟨_, rfl, a, A.Rd, dx, _, _, rfl, upd_same, T.cls.cRd, T.cls.e4, ek_hooks _ _ _ _, _, _, rfl, rfl, _, rfl, a, A.Rd, dx, _, rfl, upd_same, T.cls.cRd, T.cls.e4, (by show 4 < 1000; decide), ?_⟩
      refine q .hook _ (read_hook f _) _ [] ?_ ?_ .nil (fun r hr => nomatch hr) (fun b o hb n1 n2 => ?_)
      · rw [upd_same]
        exact congrArg (fun z => some (HO.ins A.Rd dx z)) (ep_hooks nl rl (spot + 1) hooks (hooks + 1))
      · rw [upd_ne ra, upd_ne ra, List.map_nil, List.append_nil]
        exact h3
      · rw [upd_ne n1, upd_ne n1]
        exact hb
    · have c0 : x ≠ 0 := fun z => c (decide_eq_true (by rw [z]; rfl))
      have kp : Keep a rl H (upd H a (.ins A.Rd dx (rdF nl (spot + 1) rl hooks))) := fun b o hb n1 n2 => by rw [upd_ne n1]; exact hb
      refine ⟨_, rfl, _, rfl, a, dx, nl, rl, ns, x, spot, hooks, rv, rfl, upd_same, (by rw [upd_ne na]; exact h2), (by rw [upd_ne ra]; exact h3), nn, c0, len, by omega, by omega, rvl, ?_, ?_⟩
      · intro t rest ht H' rs k1 k2 k3 k4 k5
        refine q t rest ht H' rs k1 k2 k3 (fun r hr => ?_) (kp.trans k5)
        have := k4 r hr
        by_cases z : r = a
        · rw [z, upd_same] at this
          cases this
        · rwa [upd_ne z] at this
      · intro hn
        exact (e hn).go kp
  · have hd : ns.drop spot = [] := List.drop_eq_nil_of_le (List.getElem?_eq_none_iff.mp hn)
    rw [hd] at e
    exact (e (read_nil _)).err (Keep.of (Same.refl _))

theorem scRodR : FnScope ["reader", "left", "spot", "right", "place", "first", "middle"] ["reader", "left"] (defScope sRodR) := ⟨rfl, rfl, rfl, by decide +kernel, rfl, by decide +kernel, by decide +kernel⟩
theorem ok_rodR (T : EvS K mg A) {f k : Nat} (GM : FnOk P w K mg base (L2.CX P w) (k + 5) T.f_mobR T.d_mobR ["reader"] (spMob A f)) : FnOk P w K mg base (L2.CX P w) (k + 6) T.f_rodR T.d_rodR ["reader", "left"] (spRodR A f) := by
  have GT : FnOk P w K mg base (L2.CX P w) 4 T.f_take T.d_take ["self"] (spTake A) := ok_take T
  have GW : FnOk P w K mg base (L2.CX P w) 3 T.f_want T.d_want ["truth", "number"] (spWant A) := ok_want T
  have GA : FnOk P w K mg base CX0 1 T.f_isArm T.d_isArm ["number"] spIsArm := ok_isArm T
  have GI : FnOk P w K mg base CX0 1 T.f_rodI T.d_rodI ["self", "spot", "left", "right", "first", "middle", "last"] (spRodI A) := ok_rodI T
  refine T.rodR.fn.okX scRodR (fun vs H Q E h => ?_) (fun cdv Ar outer s H vs Q E hr h => ?_)
  · obtain ⟨a, dx, nl, rl, ns, left, k, hooks, rv, rfl, _⟩ := h
    rfl
  obtain ⟨a, dx, nl, rl, ns, left, spot, hooks, rv, rfl, h1, h2, h3, nn, l0, len, sl, fu, rvl, q, e⟩ := h
  have hr4 : Room 4 _ := hr.mono (show 4 ≤ k + 5 by omega)
  have hr3 : Room 3 _ := hr.mono (show 3 ≤ k + 5 by omega)
  have hr2 : Room (1 + 1) _ := hr.mono (show 1 + 1 ≤ k + 5 by omega)
  have hr1 : Room 1 _ := hr.mono (show 1 ≤ k + 5 by omega)
  refine ⟨_, pss_cons (ps_set (i := 2) scRodR.nd rfl (Or.inl rfl) (pe_op op_sub (pe_fld (pv 0) rfl) pe_int))
    (pss_cons (ps_set (i := 3) scRodR.nd rfl (Or.inl rfl) (pe_meth0 (E := E) (pv 0) T.cls.cRd T.take.me GT hr4 T.take.bd .nil passR))
    (pss_cons (ps_expr (pcall (E := E) T.want GW hr3 passR (pa_cons (pe_and (pcall T.isArm GA hr1 pass0 (pa_cons (pv 1) pa_nil)) (pe_one (pcall T.isArm GA hr1 pass0 (pa_cons (pv 3) pa_nil)))) (pa_cons T.g_BAD.pe pa_nil))))
    (pss_cons (ps_set (i := 4) scRodR.nd rfl (Or.inl rfl) (pe_callB call_len_seq rfl T.z_len PySem.boot_len (pa_cons (pe_fld (pv 0) rfl) pa_nil)))
    (pss_cons (ps_expr (pe_bm PySem.F.plainAttrs_list PySem.F.slot_list_append PySem.F.type_list_append mt_append (pe_fld (pv 0) rfl) (pa_cons pe_non pa_nil)))
    (pss_cons (ps_set (i := 5) scRodR.nd rfl (Or.inl rfl) (pe_fld (pv 0) rfl))
    (pss_cons (ps_expr (pcall (E := E) T.mobR GM hr passR (pa_cons (pv 0) pa_nil)))
    (pss_cons (ps_set (i := 6) scRodR.nd rfl (Or.inl rfl) (pe_fld (pv 0) rfl))
    (pss_cons (ps_expr (pcall (E := E) T.mobR GM hr passR (pa_cons (pv 0) pa_nil)))
    (pss_one (ps_asg (pmake T.rodI GI hr2 pass0 (pa_cons (pv 2) (pa_cons (pv 1) (pa_cons (pv 3) (pa_cons (pv 5) (pa_cons (pv 6) (pa_cons (pe_fld (pv 0) rfl) pa_nil))))))) (pg_sub (pe_fld (pv 0) rfl) (pv 4) set_list))))))))))), ?_⟩
  have na : nl ≠ a := ne_of h2 h1 lst_ne_ins
  have ra : rl ≠ a := ne_of h3 h1 lst_ne_ins
  -- spot = reader.spot - 1; right = reader.take()
  refine ⟨_, rfl, _, _, dx, _, _, rfl, h1, T.cls.cRd, T.cls.e2, ek_spot _ _ _ _, _, _, rfl, rfl, ?_⟩
  refine ⟨_, rfl, a, dx, _, rfl, h1, ek_take _ _ _ _, a, dx, nl, rl, ns, spot + 1, hooks, rfl, h1, h2, fun right hx => ?_, fun hn => ?_⟩
  rotate_left
  · have hd : ns.drop (spot + 1) = [] := List.drop_eq_nil_of_le (List.getElem?_eq_none_iff.mp hn)
    rw [hd] at e
    exact (e (read_one _ _ l0)).err (Keep.of (Same.refl _))
  have hd : ns.drop (spot + 1) = right :: ns.drop (spot + 2) := drop_more hx
  have hlt : spot + 1 < ns.length := (List.getElem?_eq_some_iff.mp hx).1
  rw [hd, read_two f left right _ l0] at q e
  have kp1 : Keep a rl H (upd H a (.ins A.Rd dx (rdF nl (spot + 2) rl hooks))) := fun b o hb n1 n2 => by rw [upd_ne n1]; exact hb
  have g1 : upd H a (.ins A.Rd dx (rdF nl (spot + 2) rl hooks)) a = some (.ins A.Rd dx (rdF nl (spot + 2) rl hooks)) := upd_same
  have g2 : upd H a (.ins A.Rd dx (rdF nl (spot + 2) rl hooks)) nl = some (.lst (zs ns)) := by rw [upd_ne na]; exact h2
  have g3 : upd H a (.ins A.Rd dx (rdF nl (spot + 2) rl hooks)) rl = some (.lst rv) := by rw [upd_ne ra]; exact h3
  have fr1 : ∀ r, upd H a (.ins A.Rd dx (rdF nl (spot + 2) rl hooks)) r = none → H r = none := fun r hr => by
    by_cases z : r = a
    · rw [z, upd_same] at hr
      cases hr
    · rwa [upd_ne z] at hr
  generalize upd H a (.ins A.Rd dx (rdF nl (spot + 2) rl hooks)) = H1 at *
  -- want(is_arm(left) and is_arm(right), BAD)
  refine ⟨_, rfl, left, rfl, _, rfl, ?_⟩
  have bad : (¬ (1 ≤ left ∧ left ≤ 20) ∨ ¬ (1 ≤ right ∧ right ≤ 20)) → Err A H1 (-1) E := fun c => by
    rw [if_pos (by omega)] at e
    exact (e rfl).err kp1
  refine ite2 (fun c => ?_) (fun c => ?_)
  rotate_left
  · have c1 : ¬ (1 ≤ left ∧ left ≤ 20) := fun z => c (decide_eq_true z)
    exact ⟨false, _, rfl, (fun z => by cases z), fun _ => bad (.inl c1)⟩
  have c1 : 1 ≤ left ∧ left ≤ 20 := of_decide_eq_true c
  refine ⟨_, rfl, right, rfl, _, _, rfl, fun c2 => ?_, fun c2 => bad (.inr (of_decide_eq_false c2))⟩
  have c2 : 1 ≤ right ∧ right ≤ 20 := of_decide_eq_true c2
  rw [if_neg (by omega)] at q e
  -- place = len(reader.rods); reader.rods.append(None); first = reader.hooks
  refine ⟨_, rfl, _, _, dx, _, _, rfl, g1, T.cls.cRd, T.cls.e3, ek_rods _ _ _ _, rl, _, rfl, .inl (SqL.of g3), ?_⟩
  refine ⟨_, rfl, _, _, dx, _, _, rfl, g1, T.cls.cRd, T.cls.e3, ek_rods _ _ _ _, .inl ⟨rfl, _, SqL.of g3⟩, rl, _, _, rfl, rfl, g3, small_line' (by omega), ?_⟩
  have k1 : upd H1 rl (.lst (rv ++ [V.non])) a = some (.ins A.Rd dx (rdF nl (spot + 2) rl hooks)) := by rw [upd_ne ra.symm]; exact g1
  have k2 : upd H1 rl (.lst (rv ++ [V.non])) nl = some (.lst (zs ns)) := by rw [upd_ne nn]; exact g2
  have k3 : upd H1 rl (.lst (rv ++ [V.non])) rl = some (.lst (rv ++ [V.non])) := upd_same
  have kp2 : Keep a rl H (upd H1 rl (.lst (rv ++ [V.non]))) := kp1.trans fun b o hb n1 n2 => by rw [upd_ne n2]; exact hb
  have fr2 : ∀ r, upd H1 rl (.lst (rv ++ [V.non])) r = none → H r = none := fun r hr => fr1 r (by
    by_cases z : r = rl
    · rw [z, upd_same] at hr
      cases hr
    · rwa [upd_ne z] at hr)
  generalize upd H1 rl (.lst (rv ++ [V.non])) = H2 at *
  refine ⟨_, rfl, _, _, dx, _, _, rfl, k1, T.cls.cRd, T.cls.e4, ek_hooks _ _ _ _, ?_⟩
  -- mobile_read(reader): the left one
  refine ⟨_, rfl, a, dx, nl, rl, ns, spot + 2, hooks, rv ++ [V.non], rfl, k1, k2, k3, nn, len, by omega, by omega, (by rw [List.length_append]; show rv.length + 1 ≤ _; omega), ?_, ?_⟩
  rotate_left
  · intro hn
    rw [hn] at e
    exact (e rfl).go kp2
  intro ta resta hta H3 rsa m1 m2 m3 m4 m5
  obtain ⟨ea1, ea2, ea3, ea4⟩ := read_len hta
  rw [hta] at q e
  rw [List.length_drop] at ea2
  have kp3 := kp2.trans m5
  have m6 : H3 nl = some (.lst (zs ns)) := m5 _ _ k2 na nn
  refine ⟨_, rfl, _, _, dx, _, _, rfl, m1, T.cls.cRd, T.cls.e4, ek_hooks _ _ _ _, ?_⟩
  -- mobile_read(reader): the right one
  have la : rsa.length = Sy65.rods ta := (paired_len m3).trans (rodsOf_len ta _ _)
  have edr : ns.drop (spot + 2 + (Sy65.numbers ta).length) = resta := by rw [ea1, List.drop_drop]
  refine ⟨_, rfl, a, dx, nl, rl, ns, spot + 2 + (Sy65.numbers ta).length, hooks + Sy65.hooks ta, (rv ++ [V.non]) ++ rsa.map V.ref, rfl, m1, m6, m2, nn, len, by omega, by omega, ?_, ?_, ?_⟩
  · rw [List.length_append, List.length_append, List.length_map]
    show rv.length + 1 + _ ≤ _
    omega
  rotate_left
  · intro hn
    rw [edr] at hn
    have e2 : (Sy65.read f resta).map (fun (b : Sy65.Tree × List Nat) => (Sy65.Tree.rod left right ta b.1, b.2)) = none → ErrK A a rl H (-1) E := e
    rw [hn] at e2
    exact (e2 rfl).go kp3
  intro tb restb htb H4 rsb n1 n2 n3 n4 n5
  obtain ⟨eb1, eb2, eb3, eb4⟩ := read_len htb
  rw [List.length_drop] at eb2
  rw [edr] at htb
  have q2 : ∀ (t : Sy65.Tree) (rest : List Nat), (Sy65.read f resta).map (fun (b : Sy65.Tree × List Nat) => (Sy65.Tree.rod left right ta b.1, b.2)) = some (t, rest) → ∀ H' rs, H' a = some (.ins A.Rd dx (rdF nl (spot + (Sy65.numbers t).length) rl (hooks + Sy65.hooks t))) → H' rl = some (.lst (rv ++ rs.map V.ref)) → RodsAt A H' rs (rodsOf spot hooks t) →
    (∀ r ∈ rs, H r = none) → Keep a rl H H' → Q .non H' := q
  rw [htb] at q2
  have kp4 := kp3.trans n5
  have lb : rsb.length = Sy65.rods tb := (paired_len n3).trans (rodsOf_len tb _ _)
  -- reader.rods[place] = Rod(..)
  refine ⟨_, rfl, _, rfl, _, rfl, _, rfl, _, rfl, _, rfl, _, _, dx, _, _, rfl, n1, T.cls.cRd, T.cls.e4, ek_hooks _ _ _ _, ?_⟩
  intro x dy hx hdy hne
  refine ⟨x, dy, ⟨spot, left, right, hooks, hooks + Sy65.hooks ta, hooks + Sy65.hooks ta + Sy65.hooks tb⟩, ?_, upd_same, fun H5 r5 f5 => ⟨rfl, ?_⟩⟩
  · show [V.ref x, V.int ((((spot + 1 : Nat)) : Int) - 1), _, _, _, _, _] = _
    have es : (((spot + 1 : Nat)) : Int) - 1 = (spot : Nat) := by omega
    rw [es]
  have s5 : Same H4 H5 := Same.made hx hdy f5
  have p1 := s5 _ _ n1
  have p2 := s5 _ _ n2
  refine ⟨_, rfl, _, _, dx, _, _, rfl, p1, T.cls.cRd, T.cls.e3, ek_rods _ _ _ _, _, rfl, rl, _, _, rv.length, rfl, rfl, p2, ?_, ?_⟩
  · unfold ixN
    rw [if_pos (by omega), if_pos (by simp; omega), Int.toNat_natCast]
  have xr : x ≠ rl := fun z => by rw [z, n2] at hx; cases hx
  have xa : x ≠ a := fun z => by rw [z, n1] at hx; cases hx
  have fH3 : ∀ r, H3 r = none → H r = none := fun r hr => by
    cases hh : H r with
    | none => rfl
    | some o =>
      by_cases z1 : r = a
      · rw [z1, m1] at hr; cases hr
      · by_cases z2 : r = rl
        · rw [z2, m2] at hr; cases hr
        · rw [kp3 r o hh z1 z2] at hr; cases hr
  have fH4 : ∀ r, H4 r = none → H r = none := fun r hr => by
    cases hh : H r with
    | none => rfl
    | some o =>
      by_cases z1 : r = a
      · rw [z1, n1] at hr; cases hr
      · by_cases z2 : r = rl
        · rw [z2, n2] at hr; cases hr
        · rw [kp4 r o hh z1 z2] at hr; cases hr
  have es : ((rv ++ [V.non]) ++ rsa.map V.ref ++ rsb.map V.ref).set rv.length (V.ref x) = rv ++ (x :: (rsa ++ rsb)).map V.ref := by
    rw [List.append_assoc, List.append_assoc, List.set_append_right _ _ (Nat.le_refl _), Nat.sub_self]
    simp
  rw [es]
  refine q2 (.rod left right ta tb) restb rfl _ (x :: (rsa ++ rsb)) ?_ upd_same ?_ ?_ ?_
  · rw [upd_ne ra.symm, p1]
    have z1 : (Sy65.numbers (.rod left right ta tb)).length = 2 + (Sy65.numbers ta).length + (Sy65.numbers tb).length := by
      show (Sy65.numbers ta ++ Sy65.numbers tb).length + 1 + 1 = _
      rw [List.length_append]
      omega
    have z2 : Sy65.hooks (.rod left right ta tb) = Sy65.hooks ta + Sy65.hooks tb := rfl
    rw [z1, z2, show spot + (2 + (Sy65.numbers ta).length + (Sy65.numbers tb).length) = spot + 2 + (Sy65.numbers ta).length + (Sy65.numbers tb).length by omega, ← Nat.add_assoc]
  · have up : ∀ {y : Addr} {r : R}, RodAt A H5 y r → RodAt A (upd H5 rl (.lst (rv ++ (x :: (rsa ++ rsb)).map V.ref))) y r := fun {y r} ⟨dz, hz⟩ => ⟨dz, by rw [upd_ne (ne_of hz p2 (fun z => by cases z))]; exact hz⟩
    refine .cons (up r5) (paired_app ?_ ?_)
    · refine paired_imp m3 fun y hy r ⟨dz, hz⟩ => up ⟨dz, ?_⟩
      exact s5 _ _ (n5 _ _ hz (ne_of hz m1 (ins_ne (rod_ne_rd _ _ _ _ _))) (ne_of hz m2 (fun z => by cases z)))
    · exact paired_imp n3 fun y hy r hz => up (hz.same s5)
  · intro r hr
    rcases List.mem_cons.mp hr with z | hr
    · rw [z]
      exact fH4 _ hx
    · rcases List.mem_append.mp hr with hr | hr
      · exact fr2 r (m4 r hr)
      · exact fH3 r (n4 r hr)
  · exact (kp4.seq s5).trans fun b o hb y1 y2 => by rw [upd_ne y2]; exact hb

theorem mob_none (T : EvS K mg A) {k : Nat} : FnOk P w K mg base (L2.CX P w) k T.f_mobR T.d_mobR ["reader"] (spMob A 0) := by
  have no : ∀ vs H Q E, ¬ spMob A 0 vs H Q E := fun vs H Q E h => by
    obtain ⟨a, dx, nl, rl, ns, spot, hooks, rv, _, _, _, _, _, _, h1, h2, _⟩ := h
    omega
  exact ⟨fun vs H Q E h => absurd h (no vs H Q E), fun A outer s H args us vs Q E _ _ _ _ h => absurd h (no vs H Q E)⟩
theorem ok_mob (T : EvS K mg A) : ∀ f : Nat, FnOk P w K mg base (L2.CX P w) (2 * f + 5) T.f_mobR T.d_mobR ["reader"] (spMob A f)
  | 0 => mob_none T
  | f + 1 => by
    have h1 : FnOk P w K mg base (L2.CX P w) (2 * f + 6) T.f_rodR T.d_rodR ["reader", "left"] (spRodR A f) := ok_rodR T (k := 2 * f) (ok_mob T f)
    exact ok_mobR T (k := 2 * f + 2) h1
end
end Mob

set_option Elab.async false
set_option linter.all false
set_option maxRecDepth 100000
set_option maxHeartbeats 4000000
namespace Mob
open PySem PySem.Spec PyProof.Rows L2

def spShapeOf (K : PySem.W.Frag) (A : Cs) : Sp := fun vs H Q E => ∃ (l : Addr) (ns : List Nat), vs = [.ref l] ∧ SqL K H l (zs ns) ∧ ns.length ≤ 60 ∧
  (∀ t, Sy65.read 60 ns = some (t, []) → ∀ a H', ShapeAt A H' a t (fun b => H b = none) → Same H H' → Q (.ref a) H') ∧ ((∀ t, Sy65.read 60 ns ≠ some (t, [])) → Err A H (-1) E)
def spWithA (A : Cs) : Sp := fun vs H Q _ => ∃ (a : Addr) (t : Sy65.Tree) (N : Addr → Prop) (k l r : Nat), vs = [.ref a, .int k, .int l, .int r] ∧ ShapeAt A H a t N ∧ k < Sy65.rods t ∧ Sy65.hooks t ≤ 7 ∧
  ∀ a' H', ShapeAt A H' a' (Sy65.withArms l r k t) (fun b => N b ∨ H b = none) → Same H H' → Q (.ref a') H'
section
variable {P : Program} {w : World} {K : PySem.W.Frag} {mg : Str → Option Value} {base : Heap} {A : Cs}

theorem scShapeOf : FnScope ["numbers", "reader"] ["numbers"] (defScope sShapeOf) := ⟨rfl, rfl, rfl, by decide +kernel, rfl, by decide +kernel, by decide +kernel⟩
theorem ok_shapeOf (T : EvS K mg A) : FnOk P w K mg base (L2.CX P w) 126 T.f_shapeOf T.d_shapeOf ["numbers"] (spShapeOf K A) := by
  have GW : FnOk P w K mg base (L2.CX P w) 3 T.f_want T.d_want ["truth", "number"] (spWant A) := ok_want T
  have GR : FnOk P w K mg base CX0 1 T.f_readI T.d_readI ["self", "numbers"] (spReadI A) := ok_readI T
  have GS : FnOk P w K mg base CX0 1 T.f_shapeI T.d_shapeI ["self", "numbers", "rods", "hooks"] (spShapeI A) := ok_shapeI T
  have GM : FnOk P w K mg base (L2.CX P w) 125 T.f_mobR T.d_mobR ["reader"] (spMob A 60) := ok_mob T 60
  refine T.shapeOf.fn.okX scShapeOf (fun vs H Q E h => ?_) (fun cdv Ar outer s H vs Q E hr h => ?_)
  · obtain ⟨l, ns, rfl, _⟩ := h
    rfl
  obtain ⟨l, ns, rfl, hS, len, q, e⟩ := h
  have hr3 : Room 3 _ := hr.mono (by decide)
  have hr2 : Room (1 + 1) _ := hr.mono (by decide)
  refine ⟨_, pss_cons (ps_set (i := 1) scShapeOf.nd rfl (Or.inl rfl) (pmake T.readI GR hr2 pass0 (pa_cons (pe_callTy call_list_of rfl T.z_list (by decide +kernel) (pa_cons (pv 0) pa_nil)) pa_nil)))
    (pss_cons (ps_expr (pcall (E := E) T.mobR GM hr passR (pa_cons (pv 1) pa_nil)))
    (pss_cons (ps_expr (pcall (E := E) T.want GW hr3 passR (pa_cons (pe_cmpR op_eq (pe_fld (pv 1) rfl) (pe_callB call_len_seq rfl T.z_len PySem.boot_len (pa_cons (pv 0) pa_nil)) (nomark _)) (pa_cons T.g_BAD.pe pa_nil))))
    (pss_one (ps_ret (pmake T.shapeI GS hr2 pass0 (pa_cons (pe_fld (pv 1) rfl) (pa_cons (pe_fld (pv 1) rfl) (pa_cons (pe_fld (pv 1) rfl) pa_nil)))))))), ?_⟩
  -- reader = Reader(list(numbers))
  refine ⟨_, rfl, l, _, rfl, .inl hS, fun nl hnl => ?_⟩
  have s1 := same_new hnl (.lst (zs ns))
  have h1 : upd H nl (.lst (zs ns)) nl = some (.lst (zs ns)) := upd_same
  generalize upd H nl (.lst (zs ns)) = H1 at *
  intro x dx hx hdx hne
  refine ⟨x, dx, nl, rfl, upd_same, fun H2 rl h2 h3 h4 f2 => ⟨rfl, ?_⟩⟩
  have s2 : Same H1 H2 := Same.made hx hdx f2
  have hrl : H1 rl = none := by
    have z1 : rl ≠ x := fun z => by rw [z, upd_same] at h4; cases h4
    rw [upd_ne z1] at h4
    have z2 : rl ≠ dx := fun z => by rw [z, upd_same] at h4; cases h4
    rwa [upd_ne z2] at h4
  have nr : nl ≠ rl := fun z => by rw [z, hrl] at h1; cases h1
  have s12 := s1.trans s2
  -- mobile_read(reader)
  refine ⟨_, rfl, x, dx, nl, rl, ns, 0, 0, [], rfl, h2, s2 _ _ h1, h3, nr, len, Nat.zero_le _, by omega, Nat.le_refl _, ?_, ?_⟩
  rotate_left
  · intro hn
    rw [List.drop_zero] at hn
    intro H' d kp hd
    refine e (fun t => by rw [hn]; intro z; cases z) H' d (fun b o hb => ?_) hd
    exact kp b o (s12 b o hb) (fun z => by rw [z] at hb; rw [s1 _ _ hb] at hx; cases hx) (fun z => by rw [z] at hb; rw [s1 _ _ hb] at hrl; cases hrl)
  intro t rest ht H3 rs k1 k2 k3 k4 k5
  rw [List.drop_zero] at ht
  obtain ⟨er, el, _, _⟩ := read_len ht
  have s3 : Same H H3 := fun b o hb => k5 b o (s12 b o hb) (fun z => by rw [z] at hb; rw [s1 _ _ hb] at hx; cases hx) (fun z => by rw [z] at hb; rw [s1 _ _ hb] at hrl; cases hrl)
  have nx : nl ≠ x := fun z => by rw [z, hx] at h1; cases h1
  have g1 : H3 nl = some (.lst (zs ns)) := k5 _ _ (s2 _ _ h1) nx nr
  -- want(reader.spot == len(numbers), BAD)
  refine ⟨_, rfl, _, _, dx, _, _, rfl, k1, T.cls.cRd, T.cls.e2, ek_spot _ _ _ _, _, rfl, l, _, rfl, .inl (s3.seq hS), rfl, _, _, rfl, fun c => ?_, fun c => ?_⟩
  · have c1 := V.int.inj (of_decide_eq_true c)
    rw [zs_len] at c1
    have c2 : (Sy65.numbers t).length = ns.length := by omega
    have c3 : rest = [] := by rw [er, c2, List.drop_length]
    subst c3
    obtain ⟨en, _⟩ := read_numbers 60 ns t [] ht
    rw [List.append_nil] at en
    refine ⟨_, rfl, _, _, dx, _, _, rfl, k1, T.cls.cRd, T.cls.e1, ek_numbers _ _ _ _, _, rfl, _, _, dx, _, _, rfl, k1, T.cls.cRd, T.cls.e3, ek_rods _ _ _ _, _, rfl, _, _, dx, _, _, rfl, k1, T.cls.cRd, T.cls.e4, ek_hooks _ _ _ _, ?_⟩
    intro y dy hy hdy _
    refine ⟨y, dy, nl, rl, _, rfl, upd_same, fun H4 r4 f4 => ⟨rfl, ?_⟩⟩
    have s4 : Same H3 H4 := Same.made hy hdy f4
    rw [Nat.zero_add] at r4
    refine q t ht y H4 ⟨dy, nl, rl, rs, r4, ?_, ?_, ?_, s3.free hy, hnl, s1.free hrl, fun r hr => s12.free (k4 r hr)⟩ (s3.trans s4)
    · rw [← en]
      exact s4 _ _ g1
    · rw [List.nil_append] at k2
      exact s4 _ _ k2
    · exact k3.same s4
  · have c1 := of_decide_eq_false c
    rw [zs_len] at c1
    have c2 : (Sy65.numbers t).length ≠ ns.length := fun z => c1 (by rw [Nat.zero_add, z])
    refine Err.same (e fun t' z => ?_) s3
    rw [ht] at z
    cases z
    have := congrArg List.length er
    rw [List.length_drop] at this
    simp at this
    omega

theorem scWithA : FnScope ["shape", "place", "left", "right", "rod", "numbers", "other"] ["shape", "place", "left", "right"] (defScope sWithA) := ⟨rfl, rfl, rfl, by decide +kernel, rfl, by decide +kernel, by decide +kernel⟩
theorem ok_withA (T : EvS K mg A) : FnOk P w K mg base CX0 3 T.f_withA T.d_withA ["shape", "place", "left", "right"] (spWithA A) := by
  have GS : FnOk P w K mg base CX0 1 T.f_shapeI T.d_shapeI ["self", "numbers", "rods", "hooks"] (spShapeI A) := ok_shapeI T
  have GI : FnOk P w K mg base CX0 1 T.f_rodI T.d_rodI ["self", "spot", "left", "right", "first", "middle", "last"] (spRodI A) := ok_rodI T
  refine T.withA.fn.ok scWithA (fun vs H Q E h => ?_) (fun cdv Ar outer s H vs Q E hr h => ?_)
  · obtain ⟨a, t, N, k, l, r, rfl, _⟩ := h
    rfl
  obtain ⟨a, t, N, k, l, r, rfl, ⟨dx, nl, rl, rs, h1, h2, h3, h4, Na, Nn, Nr, Ns⟩, hk, h7, q⟩ := h
  refine ⟨_, pss_cons (ps_set (i := 4) scWithA.nd rfl (Or.inl rfl) (pe_ix ix_list (pe_fld (pv 0) rfl) (pv 1) (fun _ _ => rfl)))
    (pss_cons (ps_set (i := 5) scWithA.nd rfl (Or.inl rfl) (pe_op op_cat (pe_op op_cat (pe_slice sl_list (pe_fld (pv 0) rfl) po_none (po_some (pe_fld (pv 4) rfl))) (pe_lst (pa_cons (pv 2) (pa_cons (pv 3) pa_nil)))) (pe_slice sl_list (pe_fld (pv 0) rfl) (po_some (pe_op op_add (pe_fld (pv 4) rfl) pe_int)) po_none)))
    (pss_cons (ps_set (i := 6) scWithA.nd rfl (Or.inl rfl) (pmake T.rodI GI hr pass0 (pa_cons (pe_fld (pv 4) rfl) (pa_cons (pv 2) (pa_cons (pv 3) (pa_cons (pe_fld (pv 4) rfl) (pa_cons (pe_fld (pv 4) rfl) (pa_cons (pe_fld (pv 4) rfl) pa_nil))))))))
    (pss_one (ps_ret (pmake T.shapeI GS hr pass0 (pa_cons (pv 5) (pa_cons (pe_op op_cat (pe_op op_cat (pe_slice sl_list (pe_fld (pv 0) rfl) po_none (po_some (pv 1))) (pe_lst (pa_cons (pv 6) pa_nil))) (pe_slice sl_list (pe_fld (pv 0) rfl) (po_some (pe_op op_add (pv 1) pe_int)) po_none)) (pa_cons (pe_fld (pv 0) rfl) pa_nil)))))))), ?_⟩
  obtain ⟨ro, sp, w1, w2, w3, w4, w5⟩ := withArms_at l r t k 0 0 hk
  have nlen := numbers_len t
  have hkr := hooks_rods t
  rw [Nat.zero_add] at w2
  have lr : rs.length = Sy65.rods t := (paired_len h4).trans (rodsOf_len t 0 0)
  have hrk : rs[k]? = some (rs[k]'(by omega)) := List.getElem?_eq_getElem (by omega)
  generalize rs[k]'(by omega) = ra at hrk
  obtain ⟨ro', w1', dz, hro⟩ := paired_at h4 hrk
  rw [w1] at w1'
  cases w1'
  have hx : (rs.map V.ref)[k]? = some (V.ref ra) := by rw [List.getElem?_map, hrk]; rfl
  -- rod = shape.rods[place]
  refine ⟨_, rfl, _, _, dx, _, _, rfl, h1, T.cls.cS, T.cls.s2, sk_rods _ _ _, _, rfl, rl, _, _, _, rfl, rfl, SqL.of h3, atI_nat hx, ?_⟩
  -- numbers = ..
  refine ⟨_, rfl, _, _, dx, _, _, rfl, h1, T.cls.cS, T.cls.s1, sk_numbers _ _ _, _, rfl, _, _, dz, _, _, rfl, hro, T.cls.cR, T.cls.r1, rk_spot _, _, rfl, nl, _, rfl, SqL.of h2, fun p1 hp1 => ?_⟩
  have s1 := same_new hp1 (.lst (cutV (zs (Sy65.numbers t)) none (some (ro.spot : Int))))
  refine ⟨_, rfl, _, rfl, (by show 2 ≤ sizeLine; decide), fun p2 hp2 => ?_⟩
  have s2 := s1.trans (same_new hp2 (.lst [V.int (l : Nat), V.int (r : Nat)]))
  refine ⟨p1, p2, _, _, rfl, rfl, (same_new hp2 _ _ _ upd_same), upd_same, ?_, fun p3 hp3 => ?_⟩
  · rw [cutZ_to, zs_len, List.length_take]
    exact small_line (by show _ + 2 ≤ _; omega)
  have s3 := s2.trans (same_new hp3 (.lst (cutV (zs (Sy65.numbers t)) none (some (ro.spot : Int)) ++ [V.int (l : Nat), V.int (r : Nat)])))
  refine ⟨_, rfl, _, _, dx, _, _, rfl, s3 _ _ h1, T.cls.cS, T.cls.s1, sk_numbers _ _ _, _, rfl, _, _, dz, _, _, rfl, s3 _ _ hro, T.cls.cR, T.cls.r1, rk_spot _, _, _, rfl, rfl, _, rfl, nl, _, rfl, SqL.of (s3 _ _ h2), fun p4 hp4 => ?_⟩
  have t4 := same_new hp4 (.lst (cutV (zs (Sy65.numbers t)) (some ((ro.spot : Int) + 2)) none))
  have e4 : ((ro.spot : Int) + 2) = ((ro.spot + 2 : Nat) : Int) := rfl
  refine ⟨p3, p4, _, _, rfl, rfl, t4 _ _ upd_same, upd_same, ?_, fun p5 hp5 => ?_⟩
  · rw [cutZ_to, e4, cutZ_from, List.length_append, zs_len, zs_len, List.length_take, List.length_drop]
    exact small_line (by show _ + 2 + _ ≤ _; omega)
  have s5 := (s3.trans t4).trans (same_new hp5 (.lst (cutV (zs (Sy65.numbers t)) none (some (ro.spot : Int)) ++ [V.int (l : Nat), V.int (r : Nat)] ++ cutV (zs (Sy65.numbers t)) (some ((ro.spot : Int) + 2)) none)))
  have g5 : upd (upd (upd (upd (upd H p1 (.lst (cutV (zs (Sy65.numbers t)) none (some (ro.spot : Int))))) p2 (.lst [V.int (l : Nat), V.int (r : Nat)])) p3 (.lst (cutV (zs (Sy65.numbers t)) none (some (ro.spot : Int)) ++ [V.int (l : Nat), V.int (r : Nat)]))) p4 (.lst (cutV (zs (Sy65.numbers t)) (some ((ro.spot : Int) + 2)) none))) p5
      (.lst (cutV (zs (Sy65.numbers t)) none (some (ro.spot : Int)) ++ [V.int (l : Nat), V.int (r : Nat)] ++ cutV (zs (Sy65.numbers t)) (some ((ro.spot : Int) + 2)) none)) p5 = some (.lst (zs (Sy65.numbers (Sy65.withArms l r k t)))) := by
    rw [upd_same, cutZ_to, e4, cutZ_from, w4, w2, zs_app, zs_app]
    rfl
  have f5 : H p5 = none := (s3.trans t4).free hp5
  generalize upd (upd (upd (upd (upd H p1 (.lst (cutV (zs (Sy65.numbers t)) none (some (ro.spot : Int))))) p2 (.lst [V.int (l : Nat), V.int (r : Nat)])) p3 (.lst (cutV (zs (Sy65.numbers t)) none (some (ro.spot : Int)) ++ [V.int (l : Nat), V.int (r : Nat)]))) p4 (.lst (cutV (zs (Sy65.numbers t)) (some ((ro.spot : Int) + 2)) none))) p5
      (.lst (cutV (zs (Sy65.numbers t)) none (some (ro.spot : Int)) ++ [V.int (l : Nat), V.int (r : Nat)] ++ cutV (zs (Sy65.numbers t)) (some ((ro.spot : Int) + 2)) none)) = H5 at *
  -- other = Rod(..)
  refine ⟨_, rfl, _, _, dz, _, _, rfl, s5 _ _ hro, T.cls.cR, T.cls.r1, rk_spot _, _, rfl, _, rfl, _, rfl, _, _, dz, _, _, rfl, s5 _ _ hro, T.cls.cR, T.cls.r4, rk_first _, _, rfl, _, _, dz, _, _, rfl, s5 _ _ hro, T.cls.cR, T.cls.r5, rk_middle _, _, rfl, _, _, dz, _, _, rfl, s5 _ _ hro, T.cls.cR, T.cls.r6, rk_last _, ?_⟩
  intro x dy hx6 hdy _
  refine ⟨x, dy, withLR l r ro, rfl, upd_same, fun H6 r6 f6 => ⟨rfl, ?_⟩⟩
  have t6 : Same H5 H6 := Same.made hx6 hdy f6
  have s6 := s5.trans t6
  -- Shape(numbers, .., shape.hooks)
  refine ⟨_, rfl, _, rfl, _, _, dx, _, _, rfl, s6 _ _ h1, T.cls.cS, T.cls.s2, sk_rods _ _ _, _, rfl, _, rfl, rl, _, rfl, SqL.of (s6 _ _ h3), fun p7 hp7 => ?_⟩
  have t7 := same_new hp7 (.lst (cutV (rs.map V.ref) none (some (k : Int))))
  refine ⟨_, rfl, (by show 1 ≤ sizeLine; decide), fun p8 hp8 => ?_⟩
  have t8 := t7.trans (same_new hp8 (.lst [V.ref x]))
  refine ⟨p7, p8, _, _, rfl, rfl, (same_new hp8 _ _ _ upd_same), upd_same, ?_, fun p9 hp9 => ?_⟩
  · rw [cutV_to, List.length_take, List.length_map]
    exact small_line (by show _ + 1 ≤ _; omega)
  have t9 := t8.trans (same_new hp9 (.lst (cutV (rs.map V.ref) none (some (k : Int)) ++ [V.ref x])))
  have s9 := s6.trans t9
  refine ⟨_, rfl, _, _, dx, _, _, rfl, s9 _ _ h1, T.cls.cS, T.cls.s2, sk_rods _ _ _, _, rfl, _, _, rfl, rfl, _, rfl, rl, _, rfl, SqL.of (s9 _ _ h3), fun pa hpa => ?_⟩
  have ta := same_new hpa (.lst (cutV (rs.map V.ref) (some ((k : Int) + 1)) none))
  have ea : ((k : Int) + 1) = ((k + 1 : Nat) : Int) := rfl
  refine ⟨p9, pa, _, _, rfl, rfl, ta _ _ upd_same, upd_same, ?_, fun pb hpb => ?_⟩
  · rw [cutV_to, ea, cutV_from, List.length_append, List.length_take, List.length_drop, List.length_map]
    exact small_line (by show _ + 1 + _ ≤ _; omega)
  have tb := (t9.trans ta).trans (same_new hpb (.lst (cutV (rs.map V.ref) none (some (k : Int)) ++ [V.ref x] ++ cutV (rs.map V.ref) (some ((k : Int) + 1)) none)))
  have hb : cutV (rs.map V.ref) none (some (k : Int)) ++ [V.ref x] ++ cutV (rs.map V.ref) (some ((k : Int) + 1)) none = (rs.set k x).map V.ref := by
    rw [cutV_to, ea, cutV_from, List.map_set, List.set_eq_take_append_cons_drop, if_pos (by rw [List.length_map]; omega)]
    simp
  have gb : upd (upd (upd (upd (upd H6 p7 (.lst (cutV (rs.map V.ref) none (some (k : Int))))) p8 (.lst [V.ref x])) p9 (.lst (cutV (rs.map V.ref) none (some (k : Int)) ++ [V.ref x]))) pa (.lst (cutV (rs.map V.ref) (some ((k : Int) + 1)) none))) pb
      (.lst (cutV (rs.map V.ref) none (some (k : Int)) ++ [V.ref x] ++ cutV (rs.map V.ref) (some ((k : Int) + 1)) none)) pb = some (.lst ((rs.set k x).map V.ref)) := by
    rw [upd_same, hb]
  have fb : H pb = none := ((s6.trans t9).trans ta).free hpb
  have sb := s6.trans tb
  have tb5 := t6.trans tb
  generalize upd (upd (upd (upd (upd H6 p7 (.lst (cutV (rs.map V.ref) none (some (k : Int))))) p8 (.lst [V.ref x])) p9 (.lst (cutV (rs.map V.ref) none (some (k : Int)) ++ [V.ref x]))) pa (.lst (cutV (rs.map V.ref) (some ((k : Int) + 1)) none))) pb
      (.lst (cutV (rs.map V.ref) none (some (k : Int)) ++ [V.ref x] ++ cutV (rs.map V.ref) (some ((k : Int) + 1)) none)) = Hb at *
  refine ⟨_, rfl, _, _, dx, _, _, rfl, sb _ _ h1, T.cls.cS, T.cls.s3, sk_hooks _ _ _, ?_⟩
  intro y dv hy hdv _
  refine ⟨y, dv, p5, pb, _, rfl, upd_same, fun Hc rc fc => ⟨rfl, ?_⟩⟩
  have tc : Same Hb Hc := Same.made hy hdv fc
  refine q y Hc ⟨dv, p5, pb, rs.set k x, ?_, tc _ _ (tb5 _ _ g5), tc _ _ gb, ?_, .inr (sb.free hy), .inr f5, .inr fb, fun r' hr' => ?_⟩ (sb.trans tc)
  · rw [withArms_hooks]
    exact rc
  · rw [w5]
    exact paired_set (r6.same (tb.trans tc)) k (h4.same (sb.trans tc))
  · rcases List.mem_or_eq_of_mem_set hr' with z | z
    · exact .inl (Ns r' z)
    · rw [z]
      exact .inr (s5.free hx6)
end
end Mob

set_option Elab.async false
set_option linter.all false
set_option maxRecDepth 100000
set_option maxHeartbeats 4000000
namespace Mob
open PySem PySem.Spec PyProof.Rows L2

structure EvD (K : PySem.W.Frag) (mg : Str → Option Value) (A : Cs) extends EvS K mg A where
  f_dkI : Addr
  d_dkI : FuncData
  dkF' : Fun K "__init__" "Desk.__init__" (sD 0) f_dkI d_dkI
  dkB : Binds K d_dkI ["self"] []
  dkM : Mk K A.D f_dkI
  dkG : mg "Desk" = some (.ref A.D)
  f_begins : Addr
  d_begins : FuncData
  begins : MDef K A.D "begins" "Desk.begins" (sD 1) ["self", "numbers"] f_begins d_begins
  f_wantH : Addr
  d_wantH : FuncData
  wantH : MDef K A.D "want_hook" "Desk.want_hook" (sD 2) ["self", "hook"] f_wantH d_wantH
  f_hang : Addr
  d_hang : FuncData
  hang : MDef K A.D "hang" "Desk.hang" (sD 3) ["self", "hook", "weight"] f_hang d_hang
  f_arms : Addr
  d_arms : FuncData
  arms : MDef K A.D "arms" "Desk.arms" (sD 4) ["self", "rod", "left", "right"] f_arms d_arms
  f_pulls : Addr
  d_pulls : FuncData
  pulls : MDef K A.D "pulls" "Desk.pulls" (sD 5) ["self"] f_pulls d_pulls
  f_least : Addr
  d_least : FuncData
  least : MDef K A.D "least" "Desk.least" (sD 6) ["self"] f_least d_least
  f_scale : Addr
  d_scale : FuncData
  scale : MDef K A.D "scale" "Desk.scale" (sD 7) ["self", "many"] f_scale d_scale
  f_up : Addr
  d_up : FuncData
  up : MDef K A.D "up" "Desk.up" (sD 8) ["self"] f_up d_up
  f_mend : Addr
  d_mend : FuncData
  mend : MDef K A.D "mend" "Desk.mend" (sD 9) ["self"] f_mend d_mend
  f_wants : Addr
  d_wants : FuncData
  wants : MDef K A.D "wants" "Desk.wants" (sD 10) ["self"] f_wants d_wants
  f_ways : Addr
  d_ways : FuncData
  ways : MDef K A.D "ways" "Desk.ways" (sD 11) ["self", "k", "weights"] f_ways d_ways
  f_missing : Addr
  d_missing : FuncData
  missing : MDef K A.D "missing" "Desk.missing" (sD 12) ["self", "hook"] f_missing d_missing
  f_state : Addr
  d_state : FuncData
  state : MDef K A.D "state" "Desk.state" (sD 13) ["self"] f_state d_state
  f_early : Addr
  d_early : FuncData
  early : MDef K A.D "early" "Desk.early" (sD 14) ["self", "call", "n", "row"] f_early d_early
  f_late : Addr
  d_late : FuncData
  late : MDef K A.D "late" "Desk.late" (sD 15) ["self", "call", "n", "row"] f_late d_late
  f_answer : Addr
  d_answer : FuncData
  answer : MDef K A.D "answer" "Desk.answer" (sD 16) ["self", "call", "n", "row"] f_answer d_answer
  f_answers : Addr
  d_answers : FuncData
  answers : Def K mg "answers" sAnswers ["calls"] f_answers d_answers

/-! ### the state -/
structure WfS (s : Sy65.St) : Prop where
  wf : Wf s.tree
  h7 : Sy65.hooks s.tree ≤ 7
  len : s.hung.length = Sy65.hooks s.tree
  le : ∀ x ∈ s.hung, x ≤ 1000000
/-- an answer's numbers, as values -/
def outV (a : Sy65.Ans) : List V := (Sy65Neutral.out a).map V.int
theorem outV_ok (v : Int) : outV (Sy65.ok v) = [V.int v] := rfl
theorem outV_one (v : Int) (l : List Nat) : outV ⟨v, [Sy65.ints l]⟩ = V.int v :: V.int (l.length : Nat) :: zs l := by
  show (v :: ((Sy65.ints l).length : Int) :: (Sy65.ints l ++ [])).map V.int = _
  rw [List.append_nil, List.map_cons, List.map_cons, ints_len]
  rfl
/-- what a method that plays the call c does: the state after it and the answer; or the refusal -/
structure Good (A : Cs) (H : Hp) (d : Addr) (s : Sy65.St) (N : Addr → Prop) (c : Sy65.Call) (Q : VK) (E : XK) : Prop where
  q : ∀ (H' : Hp) (p : Addr), DeskAt A H' d (Sy65.step s c).1 (fun b => N b ∨ H b = none) → (∀ b o, H b = some o → b ≠ d → H' b = some o) → H' p = some (.lst (outV (Sy65.step s c).2)) → H p = none → Q (.ref p) H'
  e : ∀ k, Sy65.step s c = (s, Sy65.ok k) → Err A H k E
theorem DeskAt.same {A : Cs} {H H' : Hp} {d : Addr} {s : Sy65.St} {N : Addr → Prop} (h : DeskAt A H d s N) (e : Same H H') : DeskAt A H' d s N := by
  obtain ⟨dx, sh, wl, h1, h2, h3, h4⟩ := h
  exact ⟨dx, sh, wl, e _ _ h1, h2.same e, e _ _ h3, h4⟩
theorem DeskAt.mono {A : Cs} {H : Hp} {d : Addr} {s : Sy65.St} {N N' : Addr → Prop} (h : DeskAt A H d s N) (e : ∀ b, N b → N' b) : DeskAt A H d s N' := by
  obtain ⟨dx, sh, wl, h1, h2, h3, h4⟩ := h
  exact ⟨dx, sh, wl, h1, h2.mono e, h3, e _ h4⟩
/-- a call that changes nothing -/
theorem Good.ret {A : Cs} {H : Hp} {d : Addr} {s : Sy65.St} {N : Addr → Prop} {c : Sy65.Call} {Q : VK} {E : XK} (g : Good A H d s N c Q E) (D : DeskAt A H d s N) (h : (Sy65.step s c).1 = s) {H1 : Hp} {p : Addr} {o : HO} (e1 : Same H H1) (hn : H1 p = none)
    (hp : upd H1 p o p = some (.lst (outV (Sy65.step s c).2))) : Q (.ref p) (upd H1 p o) :=
  have e : Same H (upd H1 p o) := e1.trans (same_new hn o)
  g.q _ p (by rw [h]; exact (D.same e).mono fun b hb => .inl hb) (fun b o hb _ => e b o hb) hp (e1.free hn)
theorem DeskAt.new {A : Cs} {H H' : Hp} {d p : Addr} {s : Sy65.St} {N : Addr → Prop} (D : DeskAt A H' d s N) (F : ∀ b o, H b = some o → b ≠ d → H' b = some o) (hp : H' p = none) : H p = none := by
  cases q : H p with
  | none => rfl
  | some o =>
    by_cases z : p = d
    · obtain ⟨dx, sh, wl, hd, _⟩ := D
      rw [z, hd] at hp
      cases hp
    · rw [F p o q z] at hp
      cases hp
theorem rod_ne_dk (r : R) (sh wl : Addr) : rodF r ≠ dkF sh wl := str_ne (by decide +kernel)
theorem sh_ne_dk (nl rl : Addr) (n : Nat) (sh wl : Addr) : shF nl rl n ≠ dkF sh wl := str_ne (by decide +kernel)
/-- a shape stands though a desk changes -/
theorem ShapeAt.at_desk {A : Cs} {H : Hp} {a d : Addr} {t : Sy65.Tree} {N : Addr → Prop} {C dx sh wl : Addr} {o : HO} (h : ShapeAt A H a t N) (hd : H d = some (.ins C dx (dkF sh wl))) : ShapeAt A (upd H d o) a t N := by
  obtain ⟨dy, nl, rl, rs, h1, h2, h3, h4, h5⟩ := h
  refine ⟨dy, nl, rl, rs, ?_, ?_, ?_, paired_imp h4 fun x hx r ⟨dz, hz⟩ => ⟨dz, ?_⟩, h5⟩
  · rw [upd_ne (ne_of h1 hd (ins_ne (sh_ne_dk _ _ _ _ _)))]
    exact h1
  · rw [upd_ne (ne_of h2 hd lst_ne_ins)]
    exact h2
  · rw [upd_ne (ne_of h3 hd lst_ne_ins)]
    exact h3
  · rw [upd_ne (ne_of hz hd (ins_ne (rod_ne_dk _ _ _)))]
    exact hz
theorem dp_shape (sh wl v : Addr) : putF "shape" (.ref v) (dkF sh wl) = dkF v wl := put_here
theorem dp_weights (sh wl v : Addr) : putF "weights" (.ref v) (dkF sh wl) = dkF sh v := by
  unfold dkF
  rw [putp "weights" "shape" (by decide +kernel), put_here]
theorem dk_no {m : Str} (sh wl : Addr) (h1 : (m == ("shape" : Str)) = false) (h2 : (m == ("weights" : Str)) = false) : (dkF sh wl).lookup m = none := by
  unfold dkF
  rw [lkp m "shape" h1, lkp m "weights" h2]
  rfl
/-- other weights -/
theorem desk_hung {A : Cs} {H H1 : Hp} {d dx sh wl wl' : Addr} {t : Sy65.Tree} {hung : List Nat} {N : Addr → Prop} (hs : ShapeAt A H1 sh t N) (e : Same H H1) (hd : H1 d = some (.ins A.D dx (dkF sh wl))) (hw : H1 wl' = some (.lst (zs hung))) (n : N wl' ∨ H wl' = none) :
    DeskAt A (upd H1 d (.ins A.D dx (dkF sh wl'))) d ⟨t, hung⟩ (fun b => N b ∨ H b = none) ∧ (∀ b o, H b = some o → b ≠ d → upd H1 d (.ins A.D dx (dkF sh wl')) b = some o) := by
  refine ⟨⟨dx, sh, wl', upd_same, (hs.at_desk hd).mono fun b hb => .inl hb, ?_, n⟩, fun b o hb nb => by rw [upd_ne nb]; exact e b o hb⟩
  rw [upd_ne (ne_of hw hd lst_ne_ins)]
  exact hw

theorem least_big (t : Sy65.Tree) (w : Wf t) (h : Sy65.hooks t ≤ 7) : (Sy65.least t).sum < 2 ^ 570 ∧ Lw (Sy65.least t) ∧ (Sy65.least t).length ≤ 7 ∧ Big (Sy65.least t) := by
  obtain ⟨h1, h2, h3⟩ := fold_ok h (rodsOf 0 0 t) (fun r hr => by
    have := rodsOf_ok t 0 0 w r hr
    rwa [Nat.zero_add] at this)
  have e : (rodsOf 0 0 t).foldr levelled (List.replicate (Sy65.hooks t) 1) = Sy65.least t := leastW_eq t
  rw [e] at h1 h2 h3
  have hk := hooks_rods t
  have b : (Sy65.least t).sum < 2 ^ 570 := pow_lt h3 (bnd_le (by rw [rodsOf_len]; omega))
  have big : Big (Sy65.least t) := fun x hx => pow_lt (Nat.lt_of_le_of_lt (mem_le_sum hx) b) (by decide)
  exact ⟨b, ⟨h2, big⟩, by omega, big⟩

/-! ### promises -/
def spDeskI (A : Cs) : Sp := fun vs H Q _ => ∃ p dx : Addr, vs = [.ref p] ∧ H p = some (.ins A.D dx []) ∧
  ∀ H', DeskAt A H' p Sy65.init (fun b => H b = none) → (∀ b o, H b = some o → b ≠ p → H' b = some o) → Q .non H'
def spWantH (A : Cs) : Sp := fun vs H Q E => ∃ (d : Addr) (s : Sy65.St) (N : Addr → Prop) (h : Nat), vs = [.ref d, .int h] ∧ DeskAt A H d s N ∧ (h < Sy65.hooks s.tree → Q .non H) ∧ (¬ h < Sy65.hooks s.tree → Err A H (-2) E)
def spBegins (K : PySem.W.Frag) (A : Cs) : Sp := fun vs H Q E => ∃ (d l : Addr) (s : Sy65.St) (N : Addr → Prop) (ns : List Nat), vs = [.ref d, .ref l] ∧ SqL K H l (zs ns) ∧ ns.length ≤ 60 ∧ DeskAt A H d s N ∧ WfS s ∧ Good A H d s N (.begins ns) Q E
def spHang (A : Cs) : Sp := fun vs H Q E => ∃ (d : Addr) (s : Sy65.St) (N : Addr → Prop) (h w : Nat), vs = [.ref d, .int h, .int w] ∧ DeskAt A H d s N ∧ WfS s ∧ Good A H d s N (.hang h w) Q E
def spArms (A : Cs) : Sp := fun vs H Q E => ∃ (d : Addr) (s : Sy65.St) (N : Addr → Prop) (k l r : Nat), vs = [.ref d, .int k, .int l, .int r] ∧ DeskAt A H d s N ∧ WfS s ∧ Good A H d s N (.arms_ k l r) Q E
/-- a method without an argument -/
def spNone (A : Cs) (c : Sy65.Call) : Sp := fun vs H Q E => ∃ (d : Addr) (s : Sy65.St) (N : Addr → Prop), vs = [.ref d] ∧ DeskAt A H d s N ∧ WfS s ∧ Good A H d s N c Q E
/-- a method of one number -/
def spOne (A : Cs) (c : Nat → Sy65.Call) : Sp := fun vs H Q E => ∃ (d : Addr) (s : Sy65.St) (N : Addr → Prop) (n : Nat), vs = [.ref d, .int n] ∧ n < 2 ^ 32 ∧ DeskAt A H d s N ∧ WfS s ∧ Good A H d s N (c n) Q E
def spWays (A : Cs) : Sp := fun vs H Q E => ∃ (d l : Addr) (s : Sy65.St) (N : Addr → Prop) (k : Nat) (w : List Nat), vs = [.ref d, .int k, .ref l] ∧ H l = some (.lst (zs w)) ∧ w.length ≤ 60 ∧ DeskAt A H d s N ∧ WfS s ∧ Good A H d s N (.ways k w) Q E
section
variable {P : Program} {w : World} {K : PySem.W.Frag} {mg : Str → Option Value} {base : Heap} {A : Cs}

theorem scDeskI : FnScope ["self"] ["self"] (defScope (sD 0)) := ⟨rfl, rfl, rfl, by decide +kernel, rfl, by decide +kernel, by decide +kernel⟩
theorem ok_deskI (T : EvD K mg A) : FnOk P w K mg base (L2.CX P w) 127 T.f_dkI T.d_dkI ["self"] (spDeskI A) := by
  have GS : FnOk P w K mg base (L2.CX P w) 126 T.f_shapeOf T.d_shapeOf ["numbers"] (spShapeOf K A) := ok_shapeOf T.toEvS
  refine T.dkF'.okX scDeskI (fun vs H Q E h => ?_) (fun cdv Ar outer s H vs Q E hr h => ?_)
  · obtain ⟨p, dx, rfl, _⟩ := h
    rfl
  obtain ⟨p, dx, rfl, h1, q⟩ := h
  refine ⟨_, pss_cons (ps_fld (pv 0) (pcall (E := E) T.shapeOf GS hr passR (pa_cons (pe_lst (pa_cons T.g_HOOK.pe pa_nil)) pa_nil)) rfl)
    (pss_one (ps_fld (pv 0) (pe_lst (pa_cons pe_int pa_nil)) rfl)), ?_⟩
  refine ⟨(by show 1 ≤ sizeLine; decide), fun l hl => ?_⟩
  have s1 := same_new hl (.lst [V.int 0])
  have rd : Sy65.read 60 [0] = some (.hook, []) := rfl
  refine ⟨l, [0], rfl, SqL.of upd_same, (by decide), fun t ht a H1 hs s2 => ?_, fun no => absurd rd (no _)⟩
  rw [rd] at ht
  cases ht
  have s12 := s1.trans s2
  have hp1 := s12 _ _ h1
  have sp : p ≠ a := fun z => by
    obtain ⟨_, _, _, _, y1, _⟩ := hs
    rw [← z, hp1] at y1
    exact ins_ne (fun q => by unfold shF at q; cases q) (Option.some.inj y1)
  refine ⟨_, rfl, p, A.D, dx, [], rfl, hp1, T.cls.cD, T.cls.d1, (by show 0 < 1000; decide), ?_⟩
  have hs2 : ShapeAt A (upd H1 p (.ins A.D dx (putF "shape" (.ref a) []))) a .hook (fun b => H b = none) := by
    obtain ⟨dy, nl, rl, rs, y1, y2, y3, y4, y5, y6, y7, y8⟩ := hs
    cases y4
    refine ⟨dy, nl, rl, [], ?_, ?_, ?_, .nil, s1.free y5, s1.free y6, s1.free y7, fun r hr => nomatch hr⟩
    · rw [upd_ne sp.symm]; exact y1
    · rw [upd_ne (ne_of y2 hp1 lst_ne_ins)]; exact y2
    · rw [upd_ne (ne_of y3 hp1 lst_ne_ins)]; exact y3
  have g1 : upd H1 p (.ins A.D dx (putF "shape" (.ref a) [])) p = some (.ins A.D dx (putF "shape" (.ref a) [])) := upd_same
  have f1 : ∀ b o, H b = some o → b ≠ p → upd H1 p (.ins A.D dx (putF "shape" (.ref a) [])) b = some o := fun b o hb nb => by rw [upd_ne nb]; exact s12 b o hb
  have n1 : ∀ b, upd H1 p (.ins A.D dx (putF "shape" (.ref a) [])) b = none → H b = none := fun b hb => by
    by_cases z : b = p
    · rw [z, g1] at hb; cases hb
    · rw [upd_ne z] at hb
      exact s12.free hb
  generalize upd H1 p (.ins A.D dx (putF "shape" (.ref a) [])) = H2 at *
  refine ⟨(by show 1 ≤ sizeLine; decide), fun wl hwl => ?_⟩
  have s3 := same_new hwl (.lst [V.int 0])
  refine ⟨_, rfl, p, A.D, dx, _, rfl, s3 _ _ g1, T.cls.cD, T.cls.d2, (by show 1 < 1000; decide), ?_⟩
  have ed : putF "weights" (.ref wl) (putF "shape" (.ref a) []) = dkF a wl := by
    show putF "weights" (.ref wl) [("shape", .ref a)] = _
    rw [putp "weights" "shape" (by decide +kernel)]
    rfl
  have wp : wl ≠ p := fun z => by rw [z, g1] at hwl; cases hwl
  refine q _ ⟨dx, a, wl, ?_, ?_, ?_, n1 wl hwl⟩ fun b o hb nb => ?_
  · rw [upd_same, ed]
  · obtain ⟨dy, nl, rl, rs, y1, y2, y3, y4, y5⟩ := hs2
    cases y4
    have a1 := s3 _ _ y1
    have a2 := s3 _ _ y2
    have a3 := s3 _ _ y3
    have a0 := s3 _ _ g1
    refine ⟨dy, nl, rl, [], ?_, ?_, ?_, .nil, y5⟩
    · rw [upd_ne sp.symm]; exact a1
    · rw [upd_ne (ne_of a2 a0 lst_ne_ins)]; exact a2
    · rw [upd_ne (ne_of a3 a0 lst_ne_ins)]; exact a3
  · rw [upd_ne wp]
    exact upd_same
  · rw [upd_ne nb]
    exact s3 _ _ (f1 b o hb nb)

theorem scWantH : FnScope ["self", "hook"] ["self", "hook"] (defScope (sD 2)) := ⟨rfl, rfl, rfl, by decide +kernel, rfl, by decide +kernel, by decide +kernel⟩
theorem ok_wantH (T : EvD K mg A) : FnOk P w K mg base (L2.CX P w) 4 T.f_wantH T.d_wantH ["self", "hook"] (spWantH A) := by
  have GW : FnOk P w K mg base (L2.CX P w) 3 T.f_want T.d_want ["truth", "number"] (spWant A) := ok_want T.toEvS
  refine T.wantH.fn.okX scWantH (fun vs H Q E h => ?_) (fun cdv Ar outer s0 H vs Q E hr h => ?_)
  · obtain ⟨d, s, N, h, rfl, _⟩ := h
    rfl
  obtain ⟨d, s, N, h, rfl, ⟨dx, sh, wl, hd, ⟨dy, nl, rl, rs, h1, h2, h3, h4, _⟩, hw, Nw⟩, q, e⟩ := h
  refine ⟨_, pss_one (ps_expr (pcall (E := E) T.want GW hr passR (pa_cons (pe_cmpR op_lt (pv 1) (pe_fld (pe_fld (pv 0) rfl) rfl) (nomark _)) (pa_cons T.g_NOT.pe pa_nil)))), ?_⟩
  refine ⟨_, rfl, _, rfl, _, _, dx, _, _, rfl, hd, T.cls.cD, T.cls.d1, dk_shape _ _, _, _, dy, _, _, rfl, h1, T.cls.cS, T.cls.s3, sk_hooks _ _ _, _, _, rfl, rfl, _, _, rfl, fun c => q ?_, fun c => e ?_⟩
  · have := of_decide_eq_true c
    omega
  · have := of_decide_eq_false c
    omega

theorem scBegins : FnScope ["self", "numbers", "shape"] ["self", "numbers"] (defScope (sD 1)) := ⟨rfl, rfl, rfl, by decide +kernel, rfl, by decide +kernel, by decide +kernel⟩
theorem ok_begins (T : EvD K mg A) : FnOk P w K mg base (L2.CX P w) 127 T.f_begins T.d_begins ["self", "numbers"] (spBegins K A) := by
  have GW : FnOk P w K mg base (L2.CX P w) 3 T.f_want T.d_want ["truth", "number"] (spWant A) := ok_want T.toEvS
  have GS : FnOk P w K mg base (L2.CX P w) 126 T.f_shapeOf T.d_shapeOf ["numbers"] (spShapeOf K A) := ok_shapeOf T.toEvS
  refine T.begins.fn.okX scBegins (fun vs H Q E h => ?_) (fun cdv Ar outer s0 H vs Q E hr h => ?_)
  · obtain ⟨d, l, s, N, ns, rfl, _⟩ := h
    rfl
  obtain ⟨d, l, s, N, ns, rfl, hS, len, ⟨dx, sh, wl, hd, hs, hw, Nw⟩, ws, g⟩ := h
  have hr3 : Room 3 _ := hr.mono (by decide)
  refine ⟨_, pss_cons (ps_set (i := 2) scBegins.nd rfl (Or.inl rfl) (pcall (E := E) T.shapeOf GS hr passR (pa_cons (pv 1) pa_nil)))
    (pss_cons (ps_expr (pcall (E := E) T.want GW hr3 passR (pa_cons (pe_cmpR op_le (pe_fld (pv 2) rfl) T.g_MOST.pe (nomark _)) (pa_cons T.g_MANY.pe pa_nil))))
    (pss_cons (ps_fld (pv 0) (pv 2) rfl)
    (pss_cons (ps_fld (pv 0) (pe_op op_rep (pe_lst (pa_cons pe_int pa_nil)) (pe_fld (pv 2) rfl)) rfl)
    (pss_one (ps_ret (pe_lst (pa_cons (pe_fld (pv 2) rfl) pa_nil))))))), ?_⟩
  refine ⟨_, rfl, l, ns, rfl, hS, len, fun t ht a H1 hsh s1 => ?_, fun no => ?_⟩
  rotate_left
  · refine g.e (-1) ?_
    show (match Sy65.read 60 ns with | some (t, []) => _ | _ => (s, Sy65.ok (-1))) = _
    split
    · rename_i t ht
      exact absurd ht (no t)
    · rfl
  have st : Sy65.step s (.begins ns) = if Sy65.HOOKS < Sy65.hooks t then (s, Sy65.ok (-5)) else (⟨t, List.replicate (Sy65.hooks t) 0⟩, Sy65.ok (Sy65.hooks t : Nat)) := by
    show (match Sy65.read 60 ns with | some (t, []) => _ | _ => (s, Sy65.ok (-1))) = _
    rw [ht]
  have hsh0 := hsh
  obtain ⟨dy, nl, rl, rs, y1, y2, y3, y4, y5⟩ := hsh0
  have hd1 := s1 _ _ hd
  refine ⟨_, rfl, _, _, dy, _, _, rfl, y1, T.cls.cS, T.cls.s3, sk_hooks _ _ _, _, _, rfl, rfl, _, _, rfl, fun c => ?_, fun c => ?_⟩
  · have c1 : Sy65.hooks t ≤ 7 := by
      have := of_decide_eq_true c
      omega
    rw [if_neg (show ¬ Sy65.HOOKS < Sy65.hooks t by show ¬ 7 < _; omega)] at st
    obtain ⟨gq, _⟩ := g
    rw [st] at gq
    -- self.shape = shape
    refine ⟨_, rfl, _, rfl, d, A.D, dx, _, rfl, hd1, T.cls.cD, T.cls.d1, (by show 2 < 1000; decide), ?_⟩
    rw [dp_shape]
    have hsh2 : ShapeAt A (upd H1 d (.ins A.D dx (dkF a wl))) a t (fun b => H b = none) := hsh.at_desk hd1
    have g1 : upd H1 d (.ins A.D dx (dkF a wl)) d = some (.ins A.D dx (dkF a wl)) := upd_same
    have f1 : ∀ b o, H b = some o → b ≠ d → upd H1 d (.ins A.D dx (dkF a wl)) b = some o := fun b o hb nb => by rw [upd_ne nb]; exact s1 b o hb
    have n1 : ∀ b, upd H1 d (.ins A.D dx (dkF a wl)) b = none → H b = none := fun b hb => by
      by_cases z : b = d
      · rw [z, g1] at hb; cases hb
      · rw [upd_ne z] at hb
        exact s1.free hb
    generalize upd H1 d (.ins A.D dx (dkF a wl)) = H2 at *
    obtain ⟨dy2, nl2, rl2, rs2, z1, z2, z3, z4, z5⟩ := hsh2
    -- self.weights = [0] * shape.hooks
    refine ⟨(by show 1 ≤ sizeLine; decide), fun p hp => ?_⟩
    have s3 := same_new hp (.lst [V.int 0])
    refine ⟨_, rfl, _, _, dy2, _, _, rfl, s3 _ _ z1, T.cls.cS, T.cls.s3, sk_hooks _ _ _, p, _, _, rfl, rfl, upd_same, by omega, by omega, small_line (by simp; omega), fun wl' hwl' => ?_⟩
    have s4 := s3.trans (same_new hwl' (.lst (List.replicate ((Sy65.hooks t : Nat) : Int).toNat [V.int 0]).flatten))
    have hw4 : upd (upd H2 p (.lst [V.int 0])) wl' (.lst (List.replicate ((Sy65.hooks t : Nat) : Int).toNat [V.int 0]).flatten) wl' = some (.lst (zs (List.replicate (Sy65.hooks t) 0))) := by
      rw [upd_same, Int.toNat_natCast]
      exact congrArg (fun z => some (HO.lst z)) (rep_zero _)
    have fw : H2 wl' = none := s3.free hwl'
    generalize upd (upd H2 p (.lst [V.int 0])) wl' (.lst (List.replicate ((Sy65.hooks t : Nat) : Int).toNat [V.int 0]).flatten) = H4 at *
    refine ⟨_, rfl, d, A.D, dx, _, rfl, s4 _ _ g1, T.cls.cD, T.cls.d2, (by show 2 < 1000; decide), ?_⟩
    rw [dp_weights]
    have hsh4 : ShapeAt A H4 a t (fun b => H b = none) := ShapeAt.same ⟨dy2, nl2, rl2, rs2, z1, z2, z3, z4, z5⟩ s4
    obtain ⟨D1, F1⟩ := desk_hung (wl := wl) (wl' := wl') (hung := List.replicate (Sy65.hooks t) 0) hsh4 (Same.refl H4) (s4 _ _ g1) hw4 (.inl (n1 _ fw))
    have g4 : upd H4 d (.ins A.D dx (dkF a wl')) d = some (.ins A.D dx (dkF a wl')) := upd_same
    have hy1 : upd H4 d (.ins A.D dx (dkF a wl')) a = some (.ins A.S dy2 (shF nl2 rl2 (Sy65.hooks t))) := F1 _ _ (s4 _ _ z1) (ne_of (s4 _ _ z1) (s4 _ _ g1) (ins_ne (sh_ne_dk _ _ _ _ _)))
    have D2 : DeskAt A (upd H4 d (.ins A.D dx (dkF a wl'))) d ⟨t, List.replicate (Sy65.hooks t) 0⟩ (fun b => N b ∨ H b = none) := D1.mono fun b hb => .inr (by
      rcases hb with hb | hb
      · exact hb
      · exact n1 b (s4.free hb))
    have F2 : ∀ b o, H b = some o → b ≠ d → upd H4 d (.ins A.D dx (dkF a wl')) b = some o := fun b o hb nb => F1 b o (s4 _ _ (f1 b o hb nb)) nb
    generalize upd H4 d (.ins A.D dx (dkF a wl')) = H5 at *
    refine ⟨_, rfl, _, _, dy2, _, _, rfl, hy1, T.cls.cS, T.cls.s3, sk_hooks _ _ _, (by show 1 ≤ sizeLine; decide), fun pr hpr => ?_⟩
    have s6 := same_new hpr (.lst [V.int (Sy65.hooks t : Nat)])
    exact gq _ pr (D2.same s6) (fun b o hb nb => s6 b o (F2 b o hb nb)) upd_same (D2.new F2 hpr)
  · have c1 : ¬ Sy65.hooks t ≤ 7 := by
      have := of_decide_eq_false c
      omega
    rw [if_pos (show Sy65.HOOKS < Sy65.hooks t by show 7 < _; omega)] at st
    exact (g.e (-5) st).same s1
end
end Mob

set_option Elab.async false
set_option linter.all false
set_option maxRecDepth 100000
set_option maxHeartbeats 4000000
namespace Mob
open PySem PySem.Spec PyProof.Rows L2

theorem foldl_max : ∀ (l : List Nat) (m : Nat), m ≤ l.foldl max m ∧ (∀ x ∈ l, x ≤ l.foldl max m) ∧ (l.foldl max m = m ∨ l.foldl max m ∈ l)
  | [], m => ⟨Nat.le_refl _, (fun x h => nomatch h), .inl rfl⟩
  | a :: l, m => by
    obtain ⟨h1, h2, h3⟩ := foldl_max l (max m a)
    rw [List.foldl_cons]
    refine ⟨by omega, fun x hx => ?_, ?_⟩
    · rcases List.mem_cons.mp hx with e | e
      · omega
      · exact h2 x e
    · rcases h3 with e | e
      · rw [e]
        rcases Nat.le_total m a with c | c
        · rw [Nat.max_eq_right c]
          exact .inr (List.mem_cons_self ..)
        · rw [Nat.max_eq_left c]
          exact .inl rfl
      · exact .inr (List.mem_cons_of_mem _ e)
theorem times_most (n : Nat) (l : List Nat) (M : Nat) : (∀ x ∈ Sy65.times n l, x ≤ M) ↔ ¬ M < n * l.foldl max 0 := by
  obtain ⟨h1, h2, h3⟩ := foldl_max l 0
  constructor
  · intro h c
    rcases h3 with e | e
    · rw [e, Nat.mul_zero] at c
      omega
    · have := h _ (List.mem_map.mpr ⟨_, e, rfl⟩)
      omega
  · intro h x hx
    obtain ⟨y, hy, rfl⟩ := List.mem_map.mp hx
    have := Nat.mul_le_mul_left n (h2 y hy)
    omega
theorem someOf_le {w l : List Nat} {M : Nat} (h : ∀ x ∈ w, x ≤ M) : ∀ x ∈ allTimes w l, x ≤ M := fun x hx => by
  unfold allTimes at hx
  obtain ⟨p, hp, rfl⟩ := List.mem_map.mp hx
  have h1 := (List.of_mem_zip (a := p.1) (b := p.2) hp).1
  unfold timesAt
  split
  · exact Nat.le_trans (Nat.div_le_self _ _) (h _ h1)
  · exact Nat.zero_le _
theorem common_le {w l : List Nat} {M : Nat} (h : ∀ x ∈ w, x ≤ M) (h1 : 1 ≤ M) : common w l ≤ M := by
  unfold common
  have key : ∀ x ∈ someOf w l, x ≤ M := fun x hx => by
    unfold someOf at hx
    obtain ⟨p, hp, rfl⟩ := List.mem_map.mp hx
    have h2 := (List.mem_filter.mp hp).1
    exact someOf_le h _ (List.of_mem_zip (a := p.1) (b := p.2) h2).2
  split
  · exact h1
  · rename_i t r e
    split
    · exact key t (by rw [e]; exact List.mem_cons_self ..)
    · exact Nat.zero_le _
theorem best_le {w l : List Nat} {m M : Nat} (b : Best (posTimes w l) m) (h : ∀ x ∈ w, x ≤ M) (h1 : 1 ≤ M) : m ≤ M := by
  rcases b with ⟨_, e⟩ | ⟨e, _⟩
  · omega
  · exact someOf_le h m (List.mem_filter.mp e).1

section
variable {P : Program} {w : World} {K : PySem.W.Frag} {mg : Str → Option Value} {base : Heap} {A : Cs}

theorem scHang : FnScope ["self", "hook", "weight"] ["self", "hook", "weight"] (defScope (sD 3)) := ⟨rfl, rfl, rfl, by decide +kernel, rfl, by decide +kernel, by decide +kernel⟩
theorem ok_hang (T : EvD K mg A) : FnOk P w K mg base (L2.CX P w) 5 T.f_hang T.d_hang ["self", "hook", "weight"] (spHang A) := by
  have GH : FnOk P w K mg base (L2.CX P w) 4 T.f_wantH T.d_wantH ["self", "hook"] (spWantH A) := ok_wantH T
  have GW : FnOk P w K mg base (L2.CX P w) 4 T.f_wantW T.d_wantW ["weights"] (spWantW K A) := ok_wantW T.toEvS
  refine T.hang.fn.okX scHang (fun vs H Q E h => ?_) (fun cdv Ar outer s0 H vs Q E hr h => ?_)
  · obtain ⟨d, s, N, h, w, rfl, _⟩ := h
    rfl
  obtain ⟨d, s, N, h, w, rfl, D, ws, g⟩ := h
  refine ⟨_, pss_cons (ps_expr (pe_meth (E := E) (pv 0) T.cls.cD T.wantH.me GH hr T.wantH.bd .nil passR (pa_cons (pv 1) pa_nil)))
    (pss_cons (ps_expr (pcall (E := E) T.wantW GW hr passR (pa_cons (pe_lst (pa_cons (pv 2) pa_nil)) pa_nil)))
    (pss_cons (ps_fld (pv 0) (pe_op op_cat (pe_op op_cat (pe_slice sl_list (pe_fld (pv 0) rfl) po_none (po_some (pv 1))) (pe_lst (pa_cons (pv 2) pa_nil))) (pe_slice sl_list (pe_fld (pv 0) rfl) (po_some (pe_op op_add (pv 1) pe_int)) po_none)) rfl)
    (pss_one (ps_ret (pe_lst (pa_cons (pe_callB (cr_sum rfl) rfl T.z_sum (by decide +kernel) (pa_cons (pe_fld (pv 0) rfl) pa_nil)) pa_nil)))))), ?_⟩
  have D0 := D
  obtain ⟨dx, sh, wl, hd, hs, hw, Nw⟩ := D0
  have hlen := ws.len
  have h7 := ws.h7
  refine ⟨_, rfl, d, dx, _, rfl, hd, dk_no _ _ (by decide +kernel) (by decide +kernel), _, rfl, d, s, N, h, rfl, D, fun ch => ?_, fun ch => ?_⟩
  rotate_left
  · refine g.e (-2) ?_
    show (if s.hung.length ≤ h then _ else _) = _
    rw [if_pos (by omega)]
  refine ⟨_, rfl, (by show 1 ≤ sizeLine; decide), fun p1 hp1 => ?_⟩
  have s1 := same_new hp1 (.lst [V.int (w : Nat)])
  refine ⟨p1, [w], rfl, SqL.of upd_same, (by show 1 ≤ 1000; decide), fun cw H2 s2 => ?_, fun cw => ?_⟩
  rotate_left
  · refine (g.e (-1) ?_).same s1
    show (if s.hung.length ≤ h then _ else if Sy65.MOST < w then _ else _) = _
    rw [if_neg (by omega), if_pos (by
      have : ¬ w ≤ 1000000 := fun z => cw fun x hx => by
        have := List.mem_singleton.mp hx
        omega
      show 1000000 < w
      omega)]
  have w6 : w ≤ 1000000 := cw w (List.mem_cons_self ..)
  have st : Sy65.step s (.hang h w) = ({ s with hung := s.hung.set h w }, Sy65.ok (Sy65.heavy (s.hung.set h w) : Nat)) := by
    show (if s.hung.length ≤ h then _ else if Sy65.MOST < w then _ else _) = _
    rw [if_neg (by omega), if_neg (by show ¬ 1000000 < w; omega)]
  obtain ⟨gq, _⟩ := g
  rw [st] at gq
  have s2 := s1.trans s2
  -- the new weights
  refine ⟨_, rfl, _, _, dx, _, _, rfl, s2 _ _ hd, T.cls.cD, T.cls.d2, dk_weights _ _, _, rfl, _, rfl, wl, _, rfl, SqL.of (s2 _ _ hw), fun p3 hp3 => ?_⟩
  have t3 := same_new hp3 (.lst (cutV (zs s.hung) none (some (h : Int))))
  refine ⟨_, rfl, (by show 1 ≤ sizeLine; decide), fun p4 hp4 => ?_⟩
  have t4 := t3.trans (same_new hp4 (.lst [V.int (w : Nat)]))
  refine ⟨p3, p4, _, _, rfl, rfl, same_new hp4 _ _ _ upd_same, upd_same, ?_, fun p5 hp5 => ?_⟩
  · rw [cutZ_to, zs_len, List.length_take]
    exact small_line (by show _ + 1 ≤ _; omega)
  have t5 := t4.trans (same_new hp5 (.lst (cutV (zs s.hung) none (some (h : Int)) ++ [V.int (w : Nat)])))
  have s5 := s2.trans t5
  refine ⟨_, rfl, _, _, dx, _, _, rfl, s5 _ _ hd, T.cls.cD, T.cls.d2, dk_weights _ _, _, rfl, _, _, rfl, rfl, _, rfl, wl, _, rfl, SqL.of (s5 _ _ hw), fun p6 hp6 => ?_⟩
  have t6 := same_new hp6 (.lst (cutV (zs s.hung) (some ((h : Int) + 1)) none))
  have eh : ((h : Int) + 1) = ((h + 1 : Nat) : Int) := rfl
  refine ⟨p5, p6, _, _, rfl, rfl, t6 _ _ upd_same, upd_same, ?_, fun p7 hp7 => ?_⟩
  · rw [cutZ_to, eh, cutZ_from, List.length_append, zs_len, zs_len, List.length_take, List.length_drop]
    exact small_line (by show _ + 1 + _ ≤ _; omega)
  have s7 := (s5.trans t6).trans (same_new hp7 (.lst (cutV (zs s.hung) none (some (h : Int)) ++ [V.int (w : Nat)] ++ cutV (zs s.hung) (some ((h : Int) + 1)) none)))
  have f7 : H p7 = none := (s5.trans t6).free hp7
  have es : cutV (zs s.hung) none (some (h : Int)) ++ [V.int (w : Nat)] ++ cutV (zs s.hung) (some ((h : Int) + 1)) none = zs (s.hung.set h w) := by
    rw [cutZ_to, eh, cutZ_from, List.set_eq_take_append_cons_drop, if_pos (by omega)]
    rw [show s.hung.take h ++ w :: s.hung.drop (h + 1) = s.hung.take h ++ [w] ++ s.hung.drop (h + 1) by simp, zs_app, zs_app]
    rfl
  rw [es] at s7 ⊢
  have g7 : upd (upd (upd (upd (upd H2 p3 (.lst (cutV (zs s.hung) none (some (h : Int))))) p4 (.lst [V.int (w : Nat)])) p5 (.lst (cutV (zs s.hung) none (some (h : Int)) ++ [V.int (w : Nat)]))) p6 (.lst (cutV (zs s.hung) (some ((h : Int) + 1)) none))) p7 (.lst (zs (s.hung.set h w))) p7 = some (.lst (zs (s.hung.set h w))) := upd_same
  generalize upd (upd (upd (upd (upd H2 p3 (.lst (cutV (zs s.hung) none (some (h : Int))))) p4 (.lst [V.int (w : Nat)])) p5 (.lst (cutV (zs s.hung) none (some (h : Int)) ++ [V.int (w : Nat)]))) p6 (.lst (cutV (zs s.hung) (some ((h : Int) + 1)) none))) p7 (.lst (zs (s.hung.set h w))) = H7 at *
  refine ⟨_, rfl, d, A.D, dx, _, rfl, s7 _ _ hd, T.cls.cD, T.cls.d2, (by show 2 < 1000; decide), ?_⟩
  rw [dp_weights]
  obtain ⟨D8, F8⟩ := desk_hung (hung := s.hung.set h w) (hs.same s7) s7 (s7 _ _ hd) g7 (.inr f7)
  have hd8 : upd H7 d (.ins A.D dx (dkF sh p7)) d = some (.ins A.D dx (dkF sh p7)) := upd_same
  have hw8 : upd H7 d (.ins A.D dx (dkF sh p7)) p7 = some (.lst (zs (s.hung.set h w))) := by
    rw [upd_ne (ne_of g7 (s7 _ _ hd) lst_ne_ins)]
    exact g7
  generalize upd H7 d (.ins A.D dx (dkF sh p7)) = H8 at *
  refine ⟨_, rfl, _, _, dx, _, _, rfl, hd8, T.cls.cD, T.cls.d2, dk_weights _ _, p7, Sy65.ints (s.hung.set h w), rfl, SqL.of hw8, (by show 1 ≤ sizeLine; decide), fun p9 hp9 => ?_⟩
  have s9 := same_new hp9 (.lst [V.int (Sy65.ints (s.hung.set h w)).sum])
  refine gq _ p9 (D8.same s9) (fun b o hb nb => s9 b o (F8 b o hb nb)) ?_ (D8.new F8 hp9)
  rw [upd_same, ints_sum]
  rfl

theorem scArms : FnScope ["self", "rod", "left", "right"] ["self", "rod", "left", "right"] (defScope (sD 4)) := ⟨rfl, rfl, rfl, by decide +kernel, rfl, by decide +kernel, by decide +kernel⟩
theorem ok_arms (T : EvD K mg A) : FnOk P w K mg base (L2.CX P w) 4 T.f_arms T.d_arms ["self", "rod", "left", "right"] (spArms A) := by
  have GW : FnOk P w K mg base (L2.CX P w) 3 T.f_want T.d_want ["truth", "number"] (spWant A) := ok_want T.toEvS
  have GA : FnOk P w K mg base CX0 1 T.f_isArm T.d_isArm ["number"] spIsArm := ok_isArm T.toEvS
  have GWA : FnOk P w K mg base CX0 3 T.f_withA T.d_withA ["shape", "place", "left", "right"] (spWithA A) := ok_withA T.toEvS
  refine T.arms.fn.okX scArms (fun vs H Q E h => ?_) (fun cdv Ar outer s0 H vs Q E hr h => ?_)
  · obtain ⟨d, s, N, k, l, r, rfl, _⟩ := h
    rfl
  obtain ⟨d, s, N, k, l, r, rfl, D, ws, g⟩ := h
  have hr1 : Room 1 _ := hr.mono (by decide)
  refine ⟨_, pss_cons (ps_expr (pcall (E := E) T.want GW hr passR (pa_cons (pe_cmpR op_lt (pv 1) (pe_callB call_len_seq rfl T.z_len PySem.boot_len (pa_cons (pe_fld (pe_fld (pv 0) rfl) rfl) pa_nil)) (nomark _)) (pa_cons T.g_NOT.pe pa_nil))))
    (pss_cons (ps_expr (pcall (E := E) T.want GW hr passR (pa_cons (pe_and (pcall T.isArm GA hr1 pass0 (pa_cons (pv 2) pa_nil)) (pe_one (pcall T.isArm GA hr1 pass0 (pa_cons (pv 3) pa_nil)))) (pa_cons T.g_BAD.pe pa_nil))))
    (pss_cons (ps_fld (pv 0) (pcall T.withA GWA hr pass0 (pa_cons (pe_fld (pv 0) rfl) (pa_cons (pv 1) (pa_cons (pv 2) (pa_cons (pv 3) pa_nil))))) rfl)
    (pss_one (ps_ret (pe_lst (pa_cons pe_int pa_nil)))))), ?_⟩
  have D0 := D
  obtain ⟨dx, sh, wl, hd, hs, hw, Nw⟩ := D0
  have hs0 := hs
  obtain ⟨dy, nl, rl, rs, h1, h2, h3, h4, _⟩ := hs0
  have lr : rs.length = Sy65.rods s.tree := (paired_len h4).trans (rodsOf_len s.tree 0 0)
  refine ⟨_, rfl, _, rfl, _, _, dx, _, _, rfl, hd, T.cls.cD, T.cls.d1, dk_shape _ _, _, _, dy, _, _, rfl, h1, T.cls.cS, T.cls.s2, sk_rods _ _ _, rl, _, rfl, .inl (SqL.of h3), _, _, rfl, rfl, _, _, rfl, fun ck => ?_, fun ck => ?_⟩
  rotate_left
  · have c1 := of_decide_eq_false ck
    rw [List.length_map] at c1
    refine g.e (-2) ?_
    show (if Sy65.rods s.tree ≤ k then _ else _) = _
    rw [if_pos (by omega)]
  have k1 : k < Sy65.rods s.tree := by
    have c1 := of_decide_eq_true ck
    rw [List.length_map] at c1
    omega
  have bad : (¬ (1 ≤ l ∧ l ≤ 20) ∨ ¬ (1 ≤ r ∧ r ≤ 20)) → Err A H (-1) E := fun c => by
    refine g.e (-1) ?_
    show (if Sy65.rods s.tree ≤ k then _ else if l < 1 ∨ 20 < l ∨ r < 1 ∨ 20 < r then _ else _) = _
    rw [if_neg (by omega), if_pos (by omega)]
  refine ⟨_, rfl, l, rfl, _, rfl, ?_⟩
  refine ite2 (fun c => ?_) (fun c => ?_)
  rotate_left
  · have c1 : ¬ (1 ≤ l ∧ l ≤ 20) := fun z => c (decide_eq_true z)
    exact ⟨false, _, rfl, (fun z => by cases z), fun _ => bad (.inl c1)⟩
  have c1 : 1 ≤ l ∧ l ≤ 20 := of_decide_eq_true c
  refine ⟨_, rfl, r, rfl, _, _, rfl, fun c2 => ?_, fun c2 => bad (.inr (of_decide_eq_false c2))⟩
  have c2 : 1 ≤ r ∧ r ≤ 20 := of_decide_eq_true c2
  have st : Sy65.step s (.arms_ k l r) = ({ s with tree := Sy65.withArms l r k s.tree }, Sy65.ok 0) := by
    show (if Sy65.rods s.tree ≤ k then _ else if l < 1 ∨ 20 < l ∨ r < 1 ∨ 20 < r then _ else _) = _
    rw [if_neg (by omega), if_neg (by omega)]
  obtain ⟨gq, _⟩ := g
  rw [st] at gq
  refine ⟨_, rfl, _, _, dx, _, _, rfl, hd, T.cls.cD, T.cls.d1, dk_shape _ _, _, rfl, _, rfl, _, rfl, sh, s.tree, N, k, l, r, rfl, hs, k1, ws.h7, fun a' H1 hs1 s1 => ?_⟩
  refine ⟨_, rfl, d, A.D, dx, _, rfl, s1 _ _ hd, T.cls.cD, T.cls.d1, (by show 2 < 1000; decide), ?_⟩
  rw [dp_shape]
  refine ⟨(by show 1 ≤ sizeLine; decide), fun p2 hp2 => ?_⟩
  have s2 := same_new hp2 (.lst [V.int 0])
  refine gq _ p2 (DeskAt.same ⟨dx, a', wl, upd_same, hs1.at_desk (s1 _ _ hd), ?_, .inl Nw⟩ s2) (fun b o hb nb => s2 b o (by rw [upd_ne nb]; exact s1 b o hb)) upd_same ?_
  · rw [upd_ne (ne_of hw hd lst_ne_ins)]
    exact s1 _ _ hw
  · by_cases z : p2 = d
    · rw [z, upd_same] at hp2
      cases hp2
    · rw [upd_ne z] at hp2
      exact s1.free hp2

theorem scPulls : FnScope ["self", "found", "rod", "pull"] ["self"] (defScope (sD 5)) := ⟨rfl, rfl, rfl, by decide +kernel, rfl, by decide +kernel, by decide +kernel⟩
theorem ok_pulls (T : EvD K mg A) : FnOk P w K mg base (L2.CX P w) 3 T.f_pulls T.d_pulls ["self"] (spNone A .pulls) := by
  have GP : FnOk P w K mg base CX0 2 T.f_pull T.d_pull ["rod", "weights"] (spPull K A) := ok_pull T.toEvB
  have GL : FnOk P w K mg base CX0 1 T.f_listed T.d_listed ["row"] (spListed K) := ok_listed T.toEvS
  refine T.pulls.fn.okX scPulls (fun vs H Q E h => ?_) (fun cdv Ar outer s0 H vs Q E hr h => ?_)
  · obtain ⟨d, s, N, rfl, _⟩ := h
    rfl
  obtain ⟨d, s, N, rfl, D, ws, g⟩ := h
  have hr1 : Room 1 _ := hr.mono (by decide)
  refine ⟨_, pss_cons (ps_setLc (i := 1) (own := [("rod", 2)]) (g := gName 2) (tt := tYes) (te := tCall (spPull K A) [] E0 (tCons (tVar 2) (tCons (tFld K (tVar 0) "weights") tNil))) rfl scPulls.nd rfl rfl (sw_true rfl rfl rfl (by decide +kernel)) (pi_list (pe_fld (pe_fld (pv 0) rfl) rfl))
      (blkOk_by (N := ["self", "found", "rod", "pull"]) (sc := defScope (sD 5)) (by decide +kernel)) (fun _ _ _ _ _ => pg_name (i := 2) scPulls.nd rfl (Or.inl rfl)) (fun _ _ _ _ _ => pts_nil)
      (fun _ _ _ _ _ => pcall T.pull GP hr pass0 (pa_cons (pv 2) (pa_cons (pe_fld (pv 0) rfl) pa_nil))))
    (pss_one (ps_ret (pe_op op_cat (pe_lst (pa_cons (pe_callTy call_int1 rfl T.z_int (by decide +kernel) (pa_cons (pe_callB (cr_all rfl) rfl T.z_all (by decide +kernel) (pa_cons (pe_lc (own := [("pull", 3)]) (g := gName 3) (tt := tYes) rfl scPulls.nd (pi_list (pv 1))
      (blkOk_by (N := ["self", "found", "rod", "pull"]) (sc := defScope (sD 5)) (by decide +kernel)) (fun _ _ _ _ _ => pg_name (i := 3) scPulls.nd rfl (Or.inl rfl)) (fun _ _ _ _ _ => pts_nil)
      (fun _ _ _ _ _ => pe_cmpR op_eq (pv 3) pe_int (nomark _))) pa_nil)) pa_nil)) pa_nil)) (pcall T.listed GL hr1 pass0 (pa_cons (pv 1) pa_nil))))), ?_⟩
  have D0 := D
  obtain ⟨dx, sh, wl, hd, ⟨dy, nl, rl, rs, h1, h2, h3, h4, _⟩, hw, Nw⟩ := D0
  have lr : rs.length = Sy65.rods s.tree := (paired_len h4).trans (rodsOf_len s.tree 0 0)
  have lR : (rodsOf 0 0 s.tree).length = Sy65.rods s.tree := rodsOf_len s.tree 0 0
  have hkr := hooks_rods s.tree
  have h7 := ws.h7
  -- found = [..]
  refine ⟨_, rfl, _, _, dx, _, _, rfl, hd, T.cls.cD, T.cls.d1, dk_shape _ _, _, _, dy, _, _, rfl, h1, T.cls.cS, T.cls.s2, sk_rods _ _ _, rl, rfl, ⟨_, SqL.of h3⟩, fun Dn hDn => lc_list (K := K) (a := rl) (xs := rs.map V.ref)
    (fun i H1 => Same H H1 ∧ H1 Dn = some (.lst ((((rodsOf 0 0 s.tree).take i).map fun r => pullOf r s.hung).map V.int))) ⟨same_new hDn _, upd_same⟩ (fun i H1 _ z => z.1.seq (SqL.of h3)) ?_ ?_⟩
  · rintro i x H1 hx ⟨s1, e1⟩
    obtain ⟨ra, r, rfl, hr1, hr2⟩ := rods_at h4 hx
    have okr := rodsOf_ok s.tree 0 0 ws.wf r (List.mem_of_getElem? hr1)
    refine ⟨rfl, ?_⟩
    refine ⟨_, rfl, _, rfl, _, _, dx, _, _, rfl, s1 _ _ hd, T.cls.cD, T.cls.d2, dk_weights _ _, ra, wl, r, s.hung, rfl, hr2.same s1, SqL.of (s1 _ _ hw), okr.l2, okr.r2, fun H2 s2 => ?_⟩
    refine ⟨_, s2 _ _ e1, ?_, same_upd (s1.trans s2) hDn, ?_⟩
    · rw [List.length_map, List.length_map, List.length_take]
      exact small_line' (by omega)
    · rw [upd_same, take_more hr1, List.map_append, List.map_append]
      rfl
  · rintro H1 ⟨s1, e1⟩
    rw [List.length_map, lr, ← lR, List.take_length] at e1
    have el : ((rodsOf 0 0 s.tree).map fun r => pullOf r s.hung).length = Sy65.rods s.tree := by rw [List.length_map, lR]
    have eb := balanced_eq s.tree s.hung ws.len
    have ep := pulls_eq s.tree s.hung ws.len
    generalize ((rodsOf 0 0 s.tree).map fun r => pullOf r s.hung) = F at *
    -- int(all(..))
    refine ⟨_, rfl, Dn, rfl, ⟨_, SqL.of e1⟩, fun D2 hD2 => lc_list (K := K) (a := Dn) (xs := F.map V.int) (fun i H2 => Same H1 H2 ∧ H2 D2 = some (.lst (((F.take i).map fun z => decide (V.int z = V.int 0)).map V.bl)))
      ⟨same_new hD2 _, upd_same⟩ (fun i H2 _ z => z.1.seq (SqL.of e1)) ?_ ?_⟩
    · rintro i x H2 hx ⟨s2, e2⟩
      rw [List.getElem?_map] at hx
      cases hz : F[i]? with
      | none => rw [hz] at hx; cases hx
      | some z =>
        rw [hz] at hx
        cases hx
        refine ⟨rfl, ?_⟩
        refine ⟨_, rfl, rfl, _, e2, ?_, same_upd s2 hD2, ?_⟩
        · rw [List.length_map, List.length_map, List.length_take]
          exact small_line' (by omega)
        · rw [upd_same, take_more hz, List.map_append, List.map_append]
          rfl
    · rintro H2 ⟨s2, e2⟩
      rw [List.length_map, List.take_length] at e2
      have s12 := s1.trans s2
      refine ⟨D2, _, rfl, SqL.of e2, .inr ⟨_, rfl, (by show 1 ≤ sizeLine; decide), fun p3 hp3 => ?_⟩⟩
      have s3 := same_new hp3 (.lst [V.int (if ((F.map fun z => decide (V.int z = V.int 0)).all id) = true then 1 else 0)])
      refine ⟨_, rfl, Dn, F.map V.int, rfl, SqL.of (s3 _ _ (s2 _ _ e1)), (by rw [List.length_map]; omega), fun p4 H4 s4 e4 => ?_⟩
      refine ⟨p3, p4, _, _, rfl, rfl, s4 _ _ upd_same, e4, small_line (by simp; omega), fun p5 hp5 => ?_⟩
      refine g.ret D rfl ((s12.trans s3).trans s4) hp5 ?_
      rw [upd_same]
      have e6 : ((F.map fun z => decide (V.int z = V.int 0)).all id) = Sy65.balanced s.tree s.hung := by
        rw [← eb, List.all_map]
        congr 1
        funext z
        show decide (V.int z = V.int 0) = decide (z = 0)
        by_cases c : z = 0
        · rw [c, decide_eq_true rfl, decide_eq_true rfl]
        · rw [decide_eq_false c]
          exact decide_eq_false fun q => c (V.int.inj q)
      rw [e6, List.length_map]
      show some (HO.lst (V.int (if Sy65.balanced s.tree s.hung = true then 1 else 0) :: V.int (F.length : Nat) :: F.map V.int)) = _
      have eo : outV (Sy65.step s .pulls).2 = V.int (if Sy65.balanced s.tree s.hung = true then 1 else 0) :: V.int (((Sy65.pulls s.tree s.hung).map fun (p : Nat × Nat) => (p.1 : Int) - (p.2 : Int)).length : Nat) :: ((Sy65.pulls s.tree s.hung).map fun (p : Nat × Nat) => (p.1 : Int) - (p.2 : Int)).map V.int := by
        show (_ :: ((_ : Int) :: (_ ++ [])) : List Int).map V.int = _
        rw [List.append_nil]
        rfl
      rw [eo, ← ep]

theorem scLeast : FnScope ["self", "found"] ["self"] (defScope (sD 6)) := ⟨rfl, rfl, rfl, by decide +kernel, rfl, by decide +kernel, by decide +kernel⟩
theorem ok_least (T : EvD K mg A) : FnOk P w K mg base (L2.CX P w) 4 T.f_least T.d_least ["self"] (spNone A .least) := by
  have GLW : FnOk P w K mg base CX0 3 T.f_leastW T.d_leastW ["shape"] (spLeastW K A) := ok_leastW T.toEvB
  have GL : FnOk P w K mg base CX0 1 T.f_listed T.d_listed ["row"] (spListed K) := ok_listed T.toEvS
  refine T.least.fn.okX scLeast (fun vs H Q E h => ?_) (fun cdv Ar outer s0 H vs Q E hr h => ?_)
  · obtain ⟨d, s, N, rfl, _⟩ := h
    rfl
  obtain ⟨d, s, N, rfl, D, ws, g⟩ := h
  have hr1 : Room 1 _ := hr.mono (by decide)
  refine ⟨_, pss_cons (ps_set (i := 1) scLeast.nd rfl (Or.inl rfl) (pcall T.leastW GLW hr pass0 (pa_cons (pe_fld (pv 0) rfl) pa_nil)))
    (pss_one (ps_ret (pe_op op_cat (pe_lst (pa_cons (pe_callB (cr_sum rfl) rfl T.z_sum (by decide +kernel) (pa_cons (pv 1) pa_nil)) pa_nil)) (pcall T.listed GL hr1 pass0 (pa_cons (pv 1) pa_nil))))), ?_⟩
  have D0 := D
  obtain ⟨dx, sh, wl, hd, hs, hw, Nw⟩ := D0
  obtain ⟨lb, lw, ll, lg⟩ := least_big s.tree ws.wf ws.h7
  refine ⟨_, rfl, _, _, dx, _, _, rfl, hd, T.cls.cD, T.cls.d1, dk_shape _ _, sh, s.tree, N, rfl, hs, ws.wf, ws.h7, fun p1 H1 s1 e1 => ?_⟩
  refine ⟨_, rfl, p1, Sy65.ints (Sy65.least s.tree), rfl, SqL.of e1, (by show 1 ≤ sizeLine; decide), fun p2 hp2 => ?_⟩
  have s2 := same_new hp2 (.lst [V.int (Sy65.ints (Sy65.least s.tree)).sum])
  refine ⟨_, rfl, p1, _, rfl, SqL.of (s2 _ _ e1), (by rw [zs_len]; omega), fun p3 H3 s3 e3 => ?_⟩
  refine ⟨p2, p3, _, _, rfl, rfl, s3 _ _ upd_same, e3, small_line (by simp [zs_len]; omega), fun p4 hp4 => ?_⟩
  refine g.ret D rfl ((s1.trans s2).trans s3) hp4 ?_
  rw [upd_same, ints_sum, zs_len]
  have eo : outV (Sy65.step s .least).2 = V.int ((Sy65.least s.tree).sum : Nat) :: V.int ((Sy65.least s.tree).length : Nat) :: zs (Sy65.least s.tree) := outV_one _ _
  rw [eo]
  rfl
end
end Mob

set_option Elab.async false
set_option linter.all false
set_option maxRecDepth 100000
set_option maxHeartbeats 4000000
namespace Mob
open PySem PySem.Spec PyProof.Rows L2

theorem zs_flat (l : List Nat) : (zs l).all flatV = true := by
  unfold zs
  rw [List.all_map, List.all_eq_true]
  intro z _
  rfl
theorem zs_zero : ∀ l : List Nat, inV (V.int 0) (zs l) = l.contains 0
  | [] => rfl
  | a :: l => by
    have ih := zs_zero l
    unfold inV at ih ⊢
    show (eqV (V.int (a : Nat)) (V.int 0) || (zs l).any fun y => eqV y (V.int 0)) = _
    rw [ih, List.contains_cons]
    congr 1
    show (((a : Nat) : Int) == 0) = (0 == a)
    by_cases c : a = 0
    · subst c; rfl
    · have h1 : ((a : Nat) : Int) ≠ 0 := by omega
      have h2 : (0 : Nat) ≠ a := fun z => c z.symm
      rw [beq_eq_false_iff_ne.mpr h1, beq_eq_false_iff_ne.mpr h2]
theorem no_zero {l : List Nat} (h : l.contains 0 = false) : Pos l := fun x hx => by
  cases x with
  | zero =>
    have : l.contains 0 = true := List.contains_iff_mem.mpr hx
    rw [h] at this
    cases this
  | succ x => exact Nat.succ_pos x
theorem sum_le (M : Nat) : ∀ l : List Nat, (∀ x ∈ l, x ≤ M) → l.sum ≤ l.length * M
  | [], _ => by simp
  | a :: l, h => by
    have ih := sum_le M l fun x hx => h x (List.mem_cons_of_mem _ hx)
    have ha := h a (List.mem_cons_self ..)
    rw [List.sum_cons, List.length_cons, Nat.add_mul]
    omega

section
variable {P : Program} {w : World} {K : PySem.W.Frag} {mg : Str → Option Value} {base : Heap} {A : Cs}

theorem scScale : FnScope ["self", "many", "weights"] ["self", "many"] (defScope (sD 7)) := ⟨rfl, rfl, rfl, by decide +kernel, rfl, by decide +kernel, by decide +kernel⟩
theorem ok_scale (T : EvD K mg A) : FnOk P w K mg base (L2.CX P w) 5 T.f_scale T.d_scale ["self", "many"] (spOne A .scale) := by
  have GW : FnOk P w K mg base (L2.CX P w) 3 T.f_want T.d_want ["truth", "number"] (spWant A) := ok_want T.toEvS
  have GWW : FnOk P w K mg base (L2.CX P w) 4 T.f_wantW T.d_wantW ["weights"] (spWantW K A) := ok_wantW T.toEvS
  have GLW : FnOk P w K mg base CX0 3 T.f_leastW T.d_leastW ["shape"] (spLeastW K A) := ok_leastW T.toEvB
  have GS : FnOk P w K mg base CX0 1 T.f_scaled T.d_scaled ["weights", "many"] (spScaled K) := ok_scaled T.toEvB
  refine T.scale.fn.okX scScale (fun vs H Q E h => ?_) (fun cdv Ar outer s0 H vs Q E hr h => ?_)
  · obtain ⟨d, s, N, n, rfl, _⟩ := h
    rfl
  obtain ⟨d, s, N, n, rfl, n32, D, ws, g⟩ := h
  have hr1 : Room 1 _ := hr.mono (by decide)
  have hr3 : Room 3 _ := hr.mono (by decide)
  refine ⟨_, pss_cons (ps_expr (pcall (E := E) T.want GW hr3 passR (pa_cons (pe_cmpR op_gt (pv 1) pe_int (nomark _)) (pa_cons T.g_BAD.pe pa_nil))))
    (pss_cons (ps_set (i := 2) scScale.nd rfl (Or.inl rfl) (pcall T.scaled GS hr1 pass0 (pa_cons (pcall T.leastW GLW hr3 pass0 (pa_cons (pe_fld (pv 0) rfl) pa_nil)) (pa_cons (pv 1) pa_nil))))
    (pss_cons (ps_expr (pcall (E := E) T.wantW GWW hr passR (pa_cons (pv 2) pa_nil)))
    (pss_cons (ps_fld (pv 0) (pv 2) rfl)
    (pss_one (ps_ret (pe_lst (pa_cons (pe_callB (cr_sum rfl) rfl T.z_sum (by decide +kernel) (pa_cons (pv 2) pa_nil)) pa_nil))))))), ?_⟩
  have D0 := D
  obtain ⟨dx, sh, wl, hd, hs, hw, Nw⟩ := D0
  obtain ⟨lb, lw, ll, lg⟩ := least_big s.tree ws.wf ws.h7
  refine ⟨_, rfl, _, _, rfl, rfl, _, _, rfl, fun c => ?_, fun c => ?_⟩
  rotate_left
  · have c1 := of_decide_eq_false c
    refine g.e (-1) ?_
    show (if n < 1 ∨ _ then _ else _) = _
    rw [if_pos (.inl (by omega))]
  have n1 : 0 < n := by
    have := of_decide_eq_true c
    omega
  refine ⟨_, rfl, _, _, dx, _, _, rfl, hd, T.cls.cD, T.cls.d1, dk_shape _ _, sh, s.tree, N, rfl, hs, ws.wf, ws.h7, fun p1 H1 s1 e1 => ?_⟩
  refine ⟨_, rfl, p1, Sy65.least s.tree, n, rfl, SqL.of e1, by omega, pow_lt n32 (by decide), lg, fun p2 H2 s2 e2 f2 => ?_⟩
  have s12 := s1.trans s2
  have ln : (Sy65.times n (Sy65.least s.tree)).length ≤ 7 := by rw [times_len]; exact ll
  have tm := times_most n (Sy65.least s.tree) 1000000
  refine ⟨_, rfl, p2, _, rfl, SqL.of e2, by omega, fun cw H3 s3 => ?_, fun cw => ?_⟩
  rotate_left
  · refine (g.e (-1) ?_).same s12
    show (if n < 1 ∨ 1000000 < n * (Sy65.least s.tree).foldl max 0 then _ else _) = _
    rw [if_pos (.inr (by
      by_cases z : 1000000 < n * (Sy65.least s.tree).foldl max 0
      · exact z
      · exact absurd (tm.mpr z) cw))]
  have st : Sy65.step s (.scale n) = ({ s with hung := Sy65.times n (Sy65.least s.tree) }, Sy65.ok (n * Sy65.heavy (Sy65.least s.tree) : Nat)) := by
    show (if n < 1 ∨ 1000000 < n * (Sy65.least s.tree).foldl max 0 then _ else _) = _
    rw [if_neg (by
      have := tm.mp cw
      omega)]
  obtain ⟨gq, _⟩ := g
  rw [st] at gq
  have s13 := s12.trans s3
  refine ⟨_, rfl, _, rfl, d, A.D, dx, _, rfl, s13 _ _ hd, T.cls.cD, T.cls.d2, (by show 2 < 1000; decide), ?_⟩
  rw [dp_weights]
  have e3 := s3 _ _ e2
  obtain ⟨D4, F4⟩ := desk_hung (hung := Sy65.times n (Sy65.least s.tree)) (hs.same s13) s13 (s13 _ _ hd) e3 (.inr (s1.free f2))
  have e4 : upd H3 d (.ins A.D dx (dkF sh p2)) p2 = some (.lst (zs (Sy65.times n (Sy65.least s.tree)))) := by
    rw [upd_ne (ne_of e3 (s13 _ _ hd) lst_ne_ins)]
    exact e3
  generalize upd H3 d (.ins A.D dx (dkF sh p2)) = H4 at *
  refine ⟨_, rfl, p2, Sy65.ints (Sy65.times n (Sy65.least s.tree)), rfl, SqL.of e4, (by show 1 ≤ sizeLine; decide), fun p5 hp5 => ?_⟩
  have s5 := same_new hp5 (.lst [V.int (Sy65.ints (Sy65.times n (Sy65.least s.tree))).sum])
  refine gq _ p5 (D4.same s5) (fun b o hb nb => s5 b o (F4 b o hb nb)) ?_ (D4.new F4 hp5)
  rw [upd_same, ints_sum, sum_times]
  rfl

theorem scUp : FnScope ["self", "least", "many"] ["self"] (defScope (sD 8)) := ⟨rfl, rfl, rfl, by decide +kernel, rfl, by decide +kernel, by decide +kernel⟩
theorem ok_up (T : EvD K mg A) : FnOk P w K mg base (L2.CX P w) 4 T.f_up T.d_up ["self"] (spNone A .madeUp) := by
  have GW : FnOk P w K mg base (L2.CX P w) 3 T.f_want T.d_want ["truth", "number"] (spWant A) := ok_want T.toEvS
  have GLW : FnOk P w K mg base CX0 3 T.f_leastW T.d_leastW ["shape"] (spLeastW K A) := ok_leastW T.toEvB
  have GC : FnOk P w K mg base CX0 3 T.f_comm T.d_comm ["weights", "least"] (spComm K) := ok_comm T.toEvB
  have GS : FnOk P w K mg base CX0 1 T.f_scaled T.d_scaled ["weights", "many"] (spScaled K) := ok_scaled T.toEvB
  have GL : FnOk P w K mg base CX0 1 T.f_listed T.d_listed ["row"] (spListed K) := ok_listed T.toEvS
  refine T.up.fn.okX scUp (fun vs H Q E h => ?_) (fun cdv Ar outer s0 H vs Q E hr h => ?_)
  · obtain ⟨d, s, N, rfl, _⟩ := h
    rfl
  obtain ⟨d, s, N, rfl, D, ws, g⟩ := h
  have hr1 : Room 1 _ := hr.mono (by decide)
  refine ⟨_, pss_cons (ps_set (i := 1) scUp.nd rfl (Or.inl rfl) (pcall T.leastW GLW hr pass0 (pa_cons (pe_fld (pv 0) rfl) pa_nil)))
    (pss_cons (ps_set (i := 2) scUp.nd rfl (Or.inl rfl) (pcall T.comm GC hr pass0 (pa_cons (pe_fld (pv 0) rfl) (pa_cons (pv 1) pa_nil))))
    (pss_cons (ps_expr (pcall (E := E) T.want GW hr passR (pa_cons (pe_cmpR op_gt (pv 2) pe_int (nomark _)) (pa_cons T.g_NONE.pe pa_nil))))
    (pss_one (ps_ret (pe_op op_cat (pe_lst (pa_cons (pv 2) pa_nil)) (pcall T.listed GL hr1 pass0 (pa_cons (pcall T.scaled GS hr1 pass0 (pa_cons (pv 1) (pa_cons (pv 2) pa_nil))) pa_nil))))))), ?_⟩
  have D0 := D
  obtain ⟨dx, sh, wl, hd, hs, hw, Nw⟩ := D0
  obtain ⟨lb, lw, ll, lg⟩ := least_big s.tree ws.wf ws.h7
  have hlen := ws.len
  have h7 := ws.h7
  obtain ⟨ce, cp⟩ := common_eq (w := s.hung) lw.1
  have cl : common s.hung (Sy65.least s.tree) ≤ 1000000 := common_le ws.le (by decide)
  refine ⟨_, rfl, _, _, dx, _, _, rfl, hd, T.cls.cD, T.cls.d1, dk_shape _ _, sh, s.tree, N, rfl, hs, ws.wf, ws.h7, fun p1 H1 s1 e1 => ?_⟩
  refine ⟨_, rfl, _, _, dx, _, _, rfl, s1 _ _ hd, T.cls.cD, T.cls.d2, dk_weights _ _, _, rfl, wl, p1, s.hung, _, rfl, SqL.of (s1 _ _ hw), SqL.of e1, by omega, lw, fun H2 s2 => ?_⟩
  have s12 := s1.trans s2
  have est : Sy65.step s .madeUp = (s, match mu s.hung (Sy65.least s.tree) with
      | none => Sy65.ok (-6)
      | some n => ⟨(n : Nat), [Sy65.ints (Sy65.times n (Sy65.least s.tree))]⟩) := rfl
  refine ⟨_, rfl, _, _, rfl, rfl, _, _, rfl, fun c => ?_, fun c => ?_⟩
  · have c1 : 0 < common s.hung (Sy65.least s.tree) := by
      have := of_decide_eq_true c
      omega
    cases em : mu s.hung (Sy65.least s.tree) with
    | none =>
      rw [em] at ce
      rw [ce] at c1
      exact absurd c1 (Nat.lt_irrefl 0)
    | some n =>
      rw [em] at ce est
      have ce' : common s.hung (Sy65.least s.tree) = n := ce
      rw [ce'] at cl ⊢
      refine ⟨_, rfl, (by show 1 ≤ sizeLine; decide), fun p3 hp3 => ?_⟩
      have s3 := same_new hp3 (.lst [V.int (n : Nat)])
      refine ⟨_, rfl, _, rfl, p1, Sy65.least s.tree, n, rfl, SqL.of (s3 _ _ (s2 _ _ e1)), by omega, pow_lt (show n < 2 ^ 20 by omega) (by decide), lg, fun p4 H4 s4 e4 _ => ?_⟩
      have ln : (zs (Sy65.times n (Sy65.least s.tree))).length ≤ 7 := by rw [zs_len, times_len]; exact ll
      refine ⟨p4, _, rfl, SqL.of e4, by omega, fun p5 H5 s5 e5 => ?_⟩
      refine ⟨p3, p5, _, _, rfl, rfl, s5 _ _ (s4 _ _ upd_same), e5, small_line (by simp; omega), fun p6 hp6 => ?_⟩
      refine g.ret D (by rw [est]) (((s12.trans s3).trans s4).trans s5) hp6 ?_
      rw [upd_same, est, zs_len]
      exact congrArg (fun z => some (HO.lst z)) (outV_one _ _).symm
  · have c1 : common s.hung (Sy65.least s.tree) = 0 := by
      have := of_decide_eq_false c
      omega
    refine (g.e (-6) ?_).same s12
    cases em : mu s.hung (Sy65.least s.tree) with
    | none =>
      rw [em] at est
      exact est
    | some n =>
      have := cp n em
      rw [em] at ce
      have ce' : common s.hung (Sy65.least s.tree) = n := ce
      omega

theorem scState : FnScope ["self"] ["self"] (defScope (sD 13)) := ⟨rfl, rfl, rfl, by decide +kernel, rfl, by decide +kernel, by decide +kernel⟩
theorem ok_state (T : EvD K mg A) : FnOk P w K mg base (L2.CX P w) 2 T.f_state T.d_state ["self"] (spNone A .state) := by
  have GL : FnOk P w K mg base CX0 1 T.f_listed T.d_listed ["row"] (spListed K) := ok_listed T.toEvS
  refine T.state.fn.okX scState (fun vs H Q E h => ?_) (fun cdv Ar outer s0 H vs Q E hr h => ?_)
  · obtain ⟨d, s, N, rfl, _⟩ := h
    rfl
  obtain ⟨d, s, N, rfl, D, ws, g⟩ := h
  refine ⟨_, pss_one (ps_ret (pe_op op_cat (pe_op op_cat (pe_lst (pa_cons (pe_callB call_len_seq rfl T.z_len PySem.boot_len (pa_cons (pe_fld (pe_fld (pv 0) rfl) rfl) pa_nil)) pa_nil))
    (pcall T.listed GL hr pass0 (pa_cons (pe_fld (pe_fld (pv 0) rfl) rfl) pa_nil))) (pcall T.listed GL hr pass0 (pa_cons (pe_fld (pv 0) rfl) pa_nil)))), ?_⟩
  have D0 := D
  obtain ⟨dx, sh, wl, hd, ⟨dy, nl, rl, rs, h1, h2, h3, h4, _⟩, hw, Nw⟩ := D0
  have lr : rs.length = Sy65.rods s.tree := (paired_len h4).trans (rodsOf_len s.tree 0 0)
  have hkr := hooks_rods s.tree
  have nlen := numbers_len s.tree
  have hlen := ws.len
  have h7 := ws.h7
  refine ⟨_, rfl, _, _, dx, _, _, rfl, hd, T.cls.cD, T.cls.d1, dk_shape _ _, _, _, dy, _, _, rfl, h1, T.cls.cS, T.cls.s2, sk_rods _ _ _, rl, _, rfl, .inl (SqL.of h3), (by show 1 ≤ sizeLine; decide), fun p1 hp1 => ?_⟩
  have s1 := same_new hp1 (.lst [V.int ((rs.map V.ref).length : Nat)])
  refine ⟨_, rfl, _, _, dx, _, _, rfl, s1 _ _ hd, T.cls.cD, T.cls.d1, dk_shape _ _, _, _, dy, _, _, rfl, s1 _ _ h1, T.cls.cS, T.cls.s1, sk_numbers _ _ _, nl, _, rfl, SqL.of (s1 _ _ h2), (by rw [zs_len]; omega), fun p2 H2 s2 e2 => ?_⟩
  refine ⟨p1, p2, _, _, rfl, rfl, s2 _ _ upd_same, e2, small_line (by simp [zs_len]; omega), fun p3 hp3 => ?_⟩
  have s3 := (s1.trans s2).trans (same_new hp3 (.lst ([V.int ((rs.map V.ref).length : Nat)] ++ V.int ((zs (Sy65.numbers s.tree)).length : Nat) :: zs (Sy65.numbers s.tree))))
  refine ⟨_, rfl, _, _, dx, _, _, rfl, s3 _ _ hd, T.cls.cD, T.cls.d2, dk_weights _ _, wl, _, rfl, SqL.of (s3 _ _ hw), (by rw [zs_len]; omega), fun p4 H4 s4 e4 => ?_⟩
  refine ⟨p3, p4, _, _, rfl, rfl, s4 _ _ upd_same, e4, small_line (by simp [zs_len]; omega), fun p5 hp5 => ?_⟩
  refine g.ret D rfl (s3.trans s4) hp5 ?_
  rw [upd_same, List.length_map, lr, zs_len, zs_len]
  have eo : outV (Sy65.step s .state).2 = V.int (Sy65.rods s.tree : Nat) :: V.int ((Sy65.numbers s.tree).length : Nat) :: (zs (Sy65.numbers s.tree) ++ V.int (s.hung.length : Nat) :: zs s.hung) := by
    show ((_ : Int) :: (((Sy65.ints (Sy65.numbers s.tree)).length : Int) :: (Sy65.ints (Sy65.numbers s.tree) ++ ((Sy65.ints s.hung).length : Int) :: (Sy65.ints s.hung ++ [])))).map V.int = _
    rw [List.append_nil, List.map_cons, List.map_cons, List.map_append, List.map_cons, ints_len, ints_len]
    rfl
  rw [eo]
  simp
end
end Mob

set_option Elab.async false
set_option linter.all false
set_option maxRecDepth 100000
set_option maxHeartbeats 4000000
namespace Mob
open PySem PySem.Spec PyProof.Rows L2

theorem nearest_is {s : Sy65.St} {m : Nat} (hl : Pos (Sy65.least s.tree)) (b : Best (posTimes s.hung (Sy65.least s.tree)) m) : Sy65.nearest s = m := by
  obtain ⟨h1, h2⟩ := nearest_eq (s := s) hl
  rcases b with ⟨e, rfl⟩ | ⟨b1, b2, b3⟩
  · exact h1 e
  · exact h2 m b1 b2 b3
theorem full_eq (l : List Nat) : (l.all fun (w : Nat) => w != 0) = !l.contains 0 := by
  induction l with
  | nil => rfl
  | cons a l ih =>
    rw [List.all_cons, ih, List.contains_cons]
    by_cases c : a = 0
    · subst c; simp
    · have h1 : (a != 0) = true := bne_iff_ne.mpr c
      have h2 : ((0 : Nat) == a) = false := beq_eq_false_iff_ne.mpr fun z => c z.symm
      rw [h1, h2, Bool.true_and, Bool.false_or]

section
variable {P : Program} {w : World} {K : PySem.W.Frag} {mg : Str → Option Value} {base : Heap} {A : Cs}

theorem scMend : FnScope ["self", "least", "weights", "others", "hook"] ["self"] (defScope (sD 9)) := ⟨rfl, rfl, rfl, by decide +kernel, rfl, by decide +kernel, by decide +kernel⟩
theorem ok_mend (T : EvD K mg A) : FnOk P w K mg base (L2.CX P w) 5 T.f_mend T.d_mend ["self"] (spNone A .mend) := by
  have GWW : FnOk P w K mg base (L2.CX P w) 4 T.f_wantW T.d_wantW ["weights"] (spWantW K A) := ok_wantW T.toEvS
  have GLW : FnOk P w K mg base CX0 3 T.f_leastW T.d_leastW ["shape"] (spLeastW K A) := ok_leastW T.toEvB
  have GB : FnOk P w K mg base CX0 3 T.f_best T.d_best ["weights", "least"] (spBest K) := ok_best T.toEvB
  have GS : FnOk P w K mg base CX0 1 T.f_scaled T.d_scaled ["weights", "many"] (spScaled K) := ok_scaled T.toEvB
  have GL : FnOk P w K mg base CX0 1 T.f_listed T.d_listed ["row"] (spListed K) := ok_listed T.toEvS
  refine T.mend.fn.okX scMend (fun vs H Q E h => ?_) (fun cdv Ar outer s0 H vs Q E hr h => ?_)
  · obtain ⟨d, s, N, rfl, _⟩ := h
    rfl
  obtain ⟨d, s, N, rfl, D, ws, g⟩ := h
  have hr1 : Room 1 _ := hr.mono (by decide)
  have hr3 : Room 3 _ := hr.mono (by decide)
  refine ⟨_, pss_cons (ps_set (i := 1) scMend.nd rfl (Or.inl rfl) (pcall T.leastW GLW hr3 pass0 (pa_cons (pe_fld (pv 0) rfl) pa_nil)))
    (pss_cons (ps_set (i := 2) scMend.nd rfl (Or.inr rfl) (pcall T.scaled GS hr1 pass0 (pa_cons (pv 1) (pa_cons (pcall T.best GB hr3 pass0 (pa_cons (pe_fld (pv 0) rfl) (pa_cons (pv 1) pa_nil))) pa_nil))))
    (pss_cons (ps_expr (pcall (E := E) T.wantW GWW hr passR (pa_cons (pv 2) pa_nil)))
    (pss_cons (ps_setLc (i := 3) (own := [("hook", 4)]) (g := gName 4) (tt := tTest (tOp rNe (tOp (rIxL K) (tVar 2) (tVar 4)) (tOp (rIxL K) (tFld K (tVar 0) "weights") (tVar 4)))) rfl scMend.nd rfl rfl (sw_true rfl rfl rfl (by decide +kernel))
      (pi_range1 rfl T.z_range (pa_cons (pe_fld (pe_fld (pv 0) rfl) rfl) pa_nil)) (blkOk_by (N := ["self", "least", "weights", "others", "hook"]) (sc := defScope (sD 9)) (by decide +kernel)) (fun _ _ _ _ _ => pg_name (i := 4) scMend.nd rfl (Or.inl rfl))
      (fun _ _ _ _ _ => pts_one (pt_cmpR op_ne (pe_ix ix_list (pv 2) (pv 4) (fun _ _ => rfl)) (pe_ix ix_list (pe_fld (pv 0) rfl) (pv 4) (fun _ _ => rfl)) (nomark _))) (fun _ _ _ _ _ => pv 4))
    (pss_cons (ps_fld (pv 0) (pv 2) rfl)
    (pss_one (ps_ret (pe_op op_cat (pe_lst (pa_cons (pe_callB call_len_seq rfl T.z_len PySem.boot_len (pa_cons (pv 3) pa_nil)) pa_nil)) (pcall T.listed GL hr1 pass0 (pa_cons (pv 2) pa_nil))))))))), ?_⟩
  have D0 := D
  obtain ⟨dx, sh, wl, hd, hs, hw, Nw⟩ := D0
  obtain ⟨lb, lw, ll, lg⟩ := least_big s.tree ws.wf ws.h7
  have hlen := ws.len
  have h7 := ws.h7
  have llen := least_len s.tree
  refine ⟨_, rfl, _, _, dx, _, _, rfl, hd, T.cls.cD, T.cls.d1, dk_shape _ _, sh, s.tree, N, rfl, hs, ws.wf, ws.h7, fun p1 H1 s1 e1 => ?_⟩
  refine ⟨_, rfl, _, rfl, _, _, dx, _, _, rfl, s1 _ _ hd, T.cls.cD, T.cls.d2, dk_weights _ _, _, rfl, wl, p1, s.hung, _, rfl, SqL.of (s1 _ _ hw), SqL.of e1, by omega, lw, fun n H2 bn s2 => ?_⟩
  have nn := nearest_is lw.1 bn
  have n6 := best_le bn ws.le (by decide)
  refine ⟨p1, Sy65.least s.tree, n, rfl, SqL.of (s2 _ _ e1), by omega, pow_lt (show n < 2 ^ 20 by omega) (by decide), lg, fun p3 H3 s3 e3 f3 => ?_⟩
  have s13 := (s1.trans s2).trans s3
  have fp3 := (s1.trans s2).free f3
  have wlen : (Sy65.times n (Sy65.least s.tree)).length = s.hung.length := by rw [times_len]; omega
  have tm := times_most n (Sy65.least s.tree) 1000000
  have est : Sy65.step s .mend = if 1000000 < n * (Sy65.least s.tree).foldl max 0 then (s, Sy65.ok (-1)) else ({ s with hung := Sy65.times n (Sy65.least s.tree) }, ⟨((s.hung.length - Sy65.right s n : Nat) : Int), [Sy65.ints (Sy65.times n (Sy65.least s.tree))]⟩) := by
    show (if 1000000 < Sy65.nearest s * (Sy65.least s.tree).foldl max 0 then (s, Sy65.ok (-1)) else ({ s with hung := Sy65.times (Sy65.nearest s) (Sy65.least s.tree) }, (⟨((s.hung.length - Sy65.right s (Sy65.nearest s) : Nat) : Int), [Sy65.ints (Sy65.times (Sy65.nearest s) (Sy65.least s.tree))]⟩ : Sy65.Ans))) = _
    rw [nn]
  refine ⟨_, rfl, p3, _, rfl, SqL.of e3, by omega, fun cw H4 s4 => ?_, fun cw => ?_⟩
  rotate_left
  · refine (g.e (-1) ?_).same s13
    rw [est, if_pos]
    by_cases z : 1000000 < n * (Sy65.least s.tree).foldl max 0
    · exact z
    · exact absurd (tm.mpr z) cw
  rw [if_neg (tm.mp cw)] at est
  obtain ⟨gq, _⟩ := g
  rw [est] at gq
  have er : Sy65.right s n = ((s.hung.zip (Sy65.times n (Sy65.least s.tree))).filter fun (x : Nat × Nat) => x.1 == x.2).length := rfl
  rw [er] at gq
  generalize Sy65.times n (Sy65.least s.tree) = W at *
  have s14 := s13.trans s4
  have e4 := s4 _ _ e3
  obtain ⟨dy, nl, rl, rs, y1, y2, y3, y4, y5⟩ := hs.same s14
  -- others = [..]
  refine ⟨_, rfl, _, _, dx, _, _, rfl, s14 _ _ hd, T.cls.cD, T.cls.d1, dk_shape _ _, _, _, dy, _, _, rfl, y1, T.cls.cS, T.cls.s3, sk_hooks _ _ _, _, rfl, by omega, by omega, fun Dn hDn => ?_⟩
  rw [Int.toNat_natCast]
  refine lc_range (fun i H5 => Same H4 H5 ∧ ∃ xs : List V, H5 Dn = some (.lst xs) ∧ xs.length + (((s.hung.zip W).take i).filter fun (x : Nat × Nat) => x.1 == x.2).length = i) ⟨same_new hDn _, [], upd_same, rfl⟩ ?_ ?_
  · rintro i H5 hi ⟨s5, xs, e5, el⟩
    have hx : s.hung[i]? = some (s.hung[i]'(by omega)) := List.getElem?_eq_getElem (by omega)
    have hy : W[i]? = some (W[i]'(by omega)) := List.getElem?_eq_getElem (by omega)
    generalize s.hung[i]'(by omega) = x at hx
    generalize W[i]'(by omega) = y at hy
    refine ⟨rfl, ?_⟩
    refine ⟨_, rfl, _, rfl, p3, _, _, _, rfl, rfl, SqL.of (s5 _ _ e4), at_of (by omega) (zs_get hy), _, rfl, _, _, dx, _, _, rfl, s5 _ _ (s14 _ _ hd), T.cls.cD, T.cls.d2, dk_weights _ _, _, rfl, wl, _, _, _, rfl, rfl, SqL.of (s5 _ _ (s14 _ _ hw)), at_of (by omega) (zs_get hx), rfl, _, rfl, ?_⟩
    rw [zip_take_more hx hy, List.filter_append, List.length_append, List.filter_cons]
    by_cases c : x = y
    · rw [c, decide_eq_true rfl]
      refine iteF ⟨s5, xs, e5, ?_⟩
      rw [if_pos (beq_iff_eq.mpr rfl)]
      show xs.length + (_ + 1) = i + 1
      omega
    · have c1 : ¬ V.int (y : Nat) = V.int (x : Nat) := fun z => c (Int.ofNat.inj (V.int.inj z)).symm
      rw [decide_eq_false c1]
      refine iteT ⟨_, rfl, xs, e5, small_line' (by omega), same_upd s5 hDn, _, upd_same, ?_⟩
      rw [if_neg (by simpa using c), List.length_append]
      show xs.length + 1 + (_ + 0) = i + 1
      omega
  · rintro H5 ⟨s5, xs, e5, el⟩
    rw [List.take_of_length_le (by rw [zip_len]; omega)] at el
    have s15 := s14.trans s5
    refine ⟨_, rfl, _, rfl, d, A.D, dx, _, rfl, s15 _ _ hd, T.cls.cD, T.cls.d2, (by show 2 < 1000; decide), ?_⟩
    rw [dp_weights]
    have e35 := s5 _ _ e4
    obtain ⟨D6, F6⟩ := desk_hung (hung := W) (hs.same s15) s15 (s15 _ _ hd) e35 (.inr fp3)
    have e36 : upd H5 d (.ins A.D dx (dkF sh p3)) p3 = some (.lst (zs W)) := by
      rw [upd_ne (ne_of e35 (s15 _ _ hd) lst_ne_ins)]
      exact e35
    have e56 : upd H5 d (.ins A.D dx (dkF sh p3)) Dn = some (.lst xs) := by
      rw [upd_ne (ne_of e5 (s15 _ _ hd) lst_ne_ins)]
      exact e5
    generalize upd H5 d (.ins A.D dx (dkF sh p3)) = H6 at *
    refine ⟨_, rfl, Dn, xs, rfl, .inl (SqL.of e56), (by show 1 ≤ sizeLine; decide), fun p7 hp7 => ?_⟩
    have s7 := same_new hp7 (.lst [V.int (xs.length : Nat)])
    refine ⟨_, rfl, p3, _, rfl, SqL.of (s7 _ _ e36), (by rw [zs_len]; omega), fun p8 H8 s8 e8 => ?_⟩
    refine ⟨p7, p8, _, _, rfl, rfl, s8 _ _ upd_same, e8, small_line (by simp [zs_len]; omega), fun p9 hp9 => ?_⟩
    have s9 := (s7.trans s8).trans (same_new hp9 (.lst ([V.int (xs.length : Nat)] ++ V.int ((zs W).length : Nat) :: zs W)))
    refine gq _ p9 (D6.same s9) (fun b o hb nb => s9 b o (F6 b o hb nb)) ?_ (D6.new F6 ((s7.trans s8).free hp9))
    rw [upd_same, zs_len, show xs.length = s.hung.length - ((s.hung.zip W).filter fun (x : Nat × Nat) => x.1 == x.2).length by omega]
    exact congrArg (fun z => some (HO.lst z)) (outV_one _ _).symm

theorem scWants : FnScope ["self", "found", "rod"] ["self"] (defScope (sD 10)) := ⟨rfl, rfl, rfl, by decide +kernel, rfl, by decide +kernel, by decide +kernel⟩
theorem ok_wants (T : EvD K mg A) : FnOk P w K mg base (L2.CX P w) 4 T.f_wants T.d_wants ["self"] (spNone A .wants) := by
  have GW : FnOk P w K mg base (L2.CX P w) 3 T.f_want T.d_want ["truth", "number"] (spWant A) := ok_want T.toEvS
  have GA : FnOk P w K mg base CX0 2 T.f_armsW T.d_armsW ["rod", "weights"] (spArmsW K A) := ok_armsW T.toEvB
  have GL : FnOk P w K mg base CX0 1 T.f_listed T.d_listed ["row"] (spListed K) := ok_listed T.toEvS
  refine T.wants.fn.okX scWants (fun vs H Q E h => ?_) (fun cdv Ar outer s0 H vs Q E hr h => ?_)
  · obtain ⟨d, s, N, rfl, _⟩ := h
    rfl
  obtain ⟨d, s, N, rfl, D, ws, g⟩ := h
  have hr1 : Room 1 _ := hr.mono (by decide)
  have hr2 : Room 2 _ := hr.mono (by decide)
  refine ⟨_, pss_cons (ps_expr (pcall (E := E) T.want GW hr passR (pa_cons (pe_cmpR op_notIn_seq pe_int (pe_fld (pv 0) rfl) (by rfl)) (pa_cons T.g_NONE.pe pa_nil))))
    (pss_cons (ps_set (i := 1) scWants.nd rfl (Or.inl rfl) (pe_lst pa_nil))
    (pss_cons (ps_for (passes_of rfl) rfl (pi_list (pe_fld (pe_fld (pv 0) rfl) rfl)) (pg_name (i := 2) scWants.nd rfl (Or.inl rfl))
      (pss_one (ps_expr (pe_bm PySem.F.plainAttrs_list PySem.F.slot_list_extend PySem.F.type_list_extend mt_extend (pv 1) (pa_cons (pcall T.armsW GA hr2 pass0 (pa_cons (pv 2) (pa_cons (pe_fld (pv 0) rfl) pa_nil))) pa_nil)))))
    (pss_one (ps_ret (pe_op op_cat (pe_lst (pa_cons (pe_callB call_len_seq rfl T.z_len PySem.boot_len (pa_cons (pe_fld (pe_fld (pv 0) rfl) rfl) pa_nil)) pa_nil)) (pcall T.listed GL hr1 pass0 (pa_cons (pv 1) pa_nil))))))), ?_⟩
  have D0 := D
  obtain ⟨dx, sh, wl, hd, ⟨dy, nl, rl, rs, h1, h2, h3, h4, _⟩, hw, Nw⟩ := D0
  have lr : rs.length = Sy65.rods s.tree := (paired_len h4).trans (rodsOf_len s.tree 0 0)
  have lR : (rodsOf 0 0 s.tree).length = Sy65.rods s.tree := rodsOf_len s.tree 0 0
  have hkr := hooks_rods s.tree
  have hlen := ws.len
  have h7 := ws.h7
  have est : Sy65.step s .wants = (s, if (!s.hung.contains 0) = false then Sy65.ok (-6) else ⟨(Sy65.rods s.tree : Nat), [Sy65.ints ((Sy65.arms s.tree s.hung).flatMap fun (p : Nat × Nat) => [p.1, p.2])]⟩) := by
    show (s, if (s.hung.all fun (w : Nat) => w != 0) = false then _ else _) = _
    rw [full_eq]
  refine ⟨_, rfl, _, _, dx, _, _, rfl, hd, T.cls.cD, T.cls.d2, dk_weights _ _, wl, _, rfl, .inl (SqL.of hw), rfl, zs_flat _, _, _, rfl, fun c => ?_, fun c => ?_⟩
  rotate_left
  · have c1 : (!inV (V.int 0) (zs s.hung)) = false := c
    rw [zs_zero] at c1
    refine g.e (-6) ?_
    rw [est, if_pos c1]
  have c1 : (!inV (V.int 0) (zs s.hung)) = true := c
  rw [zs_zero] at c1
  rw [if_neg (by rw [c1]; exact Bool.noConfusion)] at est
  have ps : Pos s.hung := no_zero (by
    cases z : s.hung.contains 0 with
    | false => rfl
    | true => rw [z] at c1; cases c1)
  have hsum : s.hung.sum < 2 ^ 1000 := by
    have := sum_le 1000000 s.hung ws.le
    have e2 : s.hung.length * 1000000 ≤ 7 * 1000000 := Nat.mul_le_mul_right _ (by omega)
    exact pow_lt (show s.hung.sum < 2 ^ 23 by omega) (by decide)
  refine ⟨(by show 0 ≤ sizeLine; decide), fun fl hfl => ?_⟩
  have s1 := same_new hfl (.lst ([] : List V))
  refine ⟨_, rfl, _, _, dx, _, _, rfl, s1 _ _ hd, T.cls.cD, T.cls.d1, dk_shape _ _, _, _, dy, _, _, rfl, s1 _ _ h1, T.cls.cS, T.cls.s2, sk_rods _ _ _, rl, rfl, ⟨_, SqL.of (s1 _ _ h3)⟩, for_list (K := K) (a := rl) (xs := rs.map V.ref)
    (fun i σ H' => ∃ v : Option V, σ = [some (.ref d), some (.ref fl), v] ∧ Same H H' ∧ H' fl = some (.lst (zs (((rodsOf 0 0 s.tree).take i).flatMap fun r => armsW r s.hung)))) ⟨none, rfl, s1, upd_same⟩ (fun i σ H' _ ⟨_, _, z, _⟩ => z.seq (SqL.of h3)) ?_ ?_⟩
  · rintro i x σ H' hx ⟨v, rfl, s2, e2⟩
    obtain ⟨ra, r, rfl, hr1', hr2'⟩ := rods_at h4 hx
    have okr := rodsOf_ok s.tree 0 0 ws.wf r (List.mem_of_getElem? hr1')
    rw [Nat.zero_add, ← hlen] at okr
    have ep := (end_pos ps okr).1
    have el := (end_le r s.hung (Nat.le_of_lt okr.fm) (Nat.le_of_lt okr.ml)).1
    refine ⟨_, rfl, .inl ⟨rfl, _, SqL.of e2⟩, _, rfl, _, rfl, _, _, dx, _, _, rfl, s2 _ _ hd, T.cls.cD, T.cls.d2, dk_weights _ _, ra, wl, r, s.hung, rfl, hr2'.same s2, SqL.of (s2 _ _ hw), ep, Nat.lt_of_le_of_lt el hsum, fun p3 H3 s3 e3 => ?_⟩
    have len : (zs (((rodsOf 0 0 s.tree).take i).flatMap fun r => armsW r s.hung)).length ≤ 2 * i := by
      rw [zs_len]
      have key : ∀ l : List R, (l.flatMap fun r => armsW r s.hung).length = 2 * l.length := fun l => by
        induction l with
        | nil => rfl
        | cons a l ih =>
          rw [List.flatMap_cons, List.length_append, ih]
          show 2 + _ = 2 * (l.length + 1)
          omega
      rw [key, List.length_take]
      omega
    have hi : i < (rodsOf 0 0 s.tree).length := (List.getElem?_eq_some_iff.mp hr1').1
    refine ⟨fl, p3, _, _, rfl, rfl, s3 _ _ e2, e3, ?_, some (.ref ra), rfl, same_upd (s2.trans s3) hfl, ?_⟩
    · rw [zs_len (armsW r s.hung)]
      exact small_line (by show _ + 2 ≤ _; omega)
    · rw [upd_same, take_more hr1', List.flatMap_append, zs_app]
      simp
  · rintro σ H' ⟨v, rfl, s2, e2⟩
    rw [List.length_map, lr, ← lR, List.take_length, arms_eq s.tree s.hung hlen] at e2
    have al : ((Sy65.arms s.tree s.hung).flatMap fun (p : Nat × Nat) => [p.1, p.2]).length ≤ 14 := by
      rw [← arms_eq s.tree s.hung hlen]
      have key : ∀ l : List R, (l.flatMap fun r => armsW r s.hung).length = 2 * l.length := fun l => by
        induction l with
        | nil => rfl
        | cons a l ih =>
          rw [List.flatMap_cons, List.length_append, ih]
          show 2 + _ = 2 * (l.length + 1)
          omega
      rw [key]
      omega
    generalize (Sy65.arms s.tree s.hung).flatMap (fun (p : Nat × Nat) => [p.1, p.2]) = AL at *
    refine ⟨_, rfl, _, _, dx, _, _, rfl, s2 _ _ hd, T.cls.cD, T.cls.d1, dk_shape _ _, _, _, dy, _, _, rfl, s2 _ _ h1, T.cls.cS, T.cls.s2, sk_rods _ _ _, rl, _, rfl, .inl (SqL.of (s2 _ _ h3)), (by show 1 ≤ sizeLine; decide), fun p3 hp3 => ?_⟩
    have s3 := same_new hp3 (.lst [V.int ((rs.map V.ref).length : Nat)])
    refine ⟨_, rfl, fl, _, rfl, SqL.of (s3 _ _ e2), (by rw [zs_len]; omega), fun p4 H4 s4 e4 => ?_⟩
    refine ⟨p3, p4, _, _, rfl, rfl, s4 _ _ upd_same, e4, small_line (by simp [zs_len]; omega), fun p5 hp5 => ?_⟩
    refine g.ret D (by rw [est]) ((s2.trans s3).trans s4) hp5 ?_
    rw [upd_same, est, List.length_map, lr, zs_len]
    exact congrArg (fun z => some (HO.lst z)) (outV_one _ _).symm

theorem scWays : FnScope ["self", "k", "weights", "found"] ["self", "k", "weights"] (defScope (sD 11)) := ⟨rfl, rfl, rfl, by decide +kernel, rfl, by decide +kernel, by decide +kernel⟩
theorem ok_ways (T : EvD K mg A) : FnOk P w K mg base (L2.CX P w) 5 T.f_ways T.d_ways ["self", "k", "weights"] (spWays A) := by
  have GW : FnOk P w K mg base (L2.CX P w) 3 T.f_want T.d_want ["truth", "number"] (spWant A) := ok_want T.toEvS
  have GWW : FnOk P w K mg base (L2.CX P w) 4 T.f_wantW T.d_wantW ["weights"] (spWantW K A) := ok_wantW T.toEvS
  have GLW : FnOk P w K mg base CX0 3 T.f_leastW T.d_leastW ["shape"] (spLeastW K A) := ok_leastW T.toEvB
  have GWO : FnOk P w K mg base CX0 2 T.f_waysOf T.d_waysOf ["weights", "least"] (spWaysOf K) := ok_waysOf T.toEvB
  have GL : FnOk P w K mg base CX0 1 T.f_listed T.d_listed ["row"] (spListed K) := ok_listed T.toEvS
  refine T.ways.fn.okX scWays (fun vs H Q E h => ?_) (fun cdv Ar outer s0 H vs Q E hr h => ?_)
  · obtain ⟨d, l, s, N, k, w, rfl, _⟩ := h
    rfl
  obtain ⟨d, l, s, N, k, w, rfl, hl, w60, D, ws, g⟩ := h
  have hr1 : Room 1 _ := hr.mono (by decide)
  have hr2 : Room 2 _ := hr.mono (by decide)
  have hr3 : Room 3 _ := hr.mono (by decide)
  refine ⟨_, pss_cons (ps_expr (pcall (E := E) T.want GW hr3 passR (pa_cons (pe_and (pe_cmpR op_eq (pe_callB call_len_seq rfl T.z_len PySem.boot_len (pa_cons (pv 2) pa_nil)) (pe_fld (pe_fld (pv 0) rfl) rfl) (nomark _)) (pe_one (pe_cmpR op_notIn_seq pe_int (pv 2) (by rfl)))) (pa_cons T.g_BAD.pe pa_nil))))
    (pss_cons (ps_expr (pcall (E := E) T.wantW GWW hr passR (pa_cons (pv 2) pa_nil)))
    (pss_cons (ps_set (i := 3) scWays.nd rfl (Or.inl rfl) (pcall T.waysOf GWO hr2 pass0 (pa_cons (pv 2) (pa_cons (pcall T.leastW GLW hr3 pass0 (pa_cons (pe_fld (pv 0) rfl) pa_nil)) pa_nil))))
    (pss_one (ps_ret (pe_op op_cat (pe_lst (pa_cons (pe_callB call_len_seq rfl T.z_len PySem.boot_len (pa_cons (pv 3) pa_nil)) pa_nil)) (pcall T.listed GL hr1 pass0 (pa_cons (pe_ifExp (pt_cmpR op_lt (pv 1) (pe_callB call_len_seq rfl T.z_len PySem.boot_len (pa_cons (pv 3) pa_nil)) (nomark _))
      (pe_ix ix_list (pv 3) (pv 1) (fun _ _ => rfl)) (pe_lst pa_nil)) pa_nil))))))), ?_⟩
  have D0 := D
  obtain ⟨dx, sh, wl, hd, hs, hw, Nw⟩ := D0
  have hs0 := hs
  obtain ⟨dy, nl, rl, rs, h1, h2, h3, h4, _⟩ := hs0
  obtain ⟨lb, lw, ll, lg⟩ := least_big s.tree ws.wf ws.h7
  have lsp := least_sum_pos s.tree ws.wf
  have hlen := ws.len
  have h7 := ws.h7
  have bad : (w.length ≠ s.hung.length ∨ w.any (fun (x : Nat) => decide (x < 1) || decide (Sy65.MOST < x)) = true) → Sy65.step s (.ways k w) = (s, Sy65.ok (-1)) := fun c => by
    show (s, if w.length ≠ s.hung.length ∨ w.any (fun (x : Nat) => decide (x < 1) || decide (Sy65.MOST < x)) = true then Sy65.ok (-1) else _) = _
    rw [if_pos c]
  have anyof : ∀ x ∈ w, (x < 1 ∨ 1000000 < x) → w.any (fun (x : Nat) => decide (x < 1) || decide (Sy65.MOST < x)) = true := fun x hx c => by
    refine List.any_eq_true.mpr ⟨x, hx, ?_⟩
    rcases c with c | c
    · rw [decide_eq_true c]; rfl
    · rw [decide_eq_true (show Sy65.MOST < x from c), Bool.or_true]
  refine ⟨_, rfl, l, _, rfl, .inl (SqL.of hl), _, rfl, _, _, dx, _, _, rfl, hd, T.cls.cD, T.cls.d1, dk_shape _ _, _, _, dy, _, _, rfl, h1, T.cls.cS, T.cls.s3, sk_hooks _ _ _, rfl, _, rfl, ?_⟩
  rw [zs_len]
  refine ite2 (fun c => ?_) (fun c => ?_)
  rotate_left
  · refine ⟨false, _, rfl, (fun z => by cases z), fun _ => g.e (-1) (bad (.inl fun z => c (decide_eq_true ?_)))⟩
    rw [z, hlen]
  have c1 : w.length = Sy65.hooks s.tree := Int.ofNat.inj (V.int.inj (of_decide_eq_true c))
  refine ⟨_, rfl, l, _, rfl, .inl (SqL.of hl), rfl, zs_flat _, _, _, rfl, fun c2 => ?_, fun c2 => ?_⟩
  rotate_left
  · have c3 : (!inV (V.int 0) (zs w)) = false := c2
    rw [zs_zero] at c3
    have c4 : w.contains 0 = true := by
      cases z : w.contains 0 with
      | true => rfl
      | false => rw [z] at c3; cases c3
    exact g.e (-1) (bad (.inr (anyof 0 (List.contains_iff_mem.mp c4) (.inl (by decide)))))
  have c3 : (!inV (V.int 0) (zs w)) = true := c2
  rw [zs_zero] at c3
  have pw : Pos w := no_zero (by
    cases z : w.contains 0 with
    | false => rfl
    | true => rw [z] at c3; cases c3)
  refine ⟨_, rfl, l, w, rfl, SqL.of hl, by omega, fun cw H1 s1 => ?_, fun cw => ?_⟩
  rotate_left
  · refine g.e (-1) (bad (.inr ?_))
    have : ∃ x ∈ w, 1000000 < x := Classical.byContradiction fun z => cw fun x hx => by
      by_cases y : x ≤ 1000000
      · exact y
      · exact absurd ⟨x, hx, by omega⟩ z
    obtain ⟨x, hx, y⟩ := this
    exact anyof x hx (.inr y)
  have ok : ¬ (w.length ≠ s.hung.length ∨ w.any (fun (x : Nat) => decide (x < 1) || decide (Sy65.MOST < x)) = true) := fun z => by
    rcases z with z | z
    · omega
    · obtain ⟨x, hx, y⟩ := List.any_eq_true.mp z
      have a1 := pw x hx
      have a2 := cw x hx
      rw [decide_eq_false (show ¬ x < 1 by omega), decide_eq_false (show ¬ Sy65.MOST < x by show ¬ 1000000 < x; omega)] at y
      cases y
  have est : Sy65.step s (.ways k w) = (s, match (waysL w (Sy65.least s.tree))[k]? with
      | none => ⟨((waysL w (Sy65.least s.tree)).length : Nat), [[]]⟩
      | some r => ⟨((waysL w (Sy65.least s.tree)).length : Nat), [Sy65.ints r]⟩) := by
    show (s, if w.length ≠ s.hung.length ∨ w.any (fun (x : Nat) => decide (x < 1) || decide (Sy65.MOST < x)) = true then Sy65.ok (-1) else
      match (Sy65.ways s w)[k]? with
      | none => (⟨((Sy65.ways s w).length : Nat), [[]]⟩ : Sy65.Ans)
      | some r => ⟨((Sy65.ways s w).length : Nat), [Sy65.ints r]⟩) = _
    rw [if_neg ok, ways_eq s w ws.wf c1]
    rfl
  have wsum : w.sum < 2 ^ 3000 := by
    have := sum_le 1000000 w cw
    have e2 : w.length * 1000000 ≤ 7 * 1000000 := Nat.mul_le_mul_right _ (by omega)
    exact pow_lt (show w.sum < 2 ^ 23 by omega) (by decide)
  refine ⟨_, rfl, _, rfl, _, _, dx, _, _, rfl, s1 _ _ hd, T.cls.cD, T.cls.d1, dk_shape _ _, sh, s.tree, N, rfl, hs.same s1, ws.wf, ws.h7, fun p2 H2 s2 e2 => ?_⟩
  have s12 := s1.trans s2
  refine ⟨l, p2, w, _, rfl, SqL.of (s12 _ _ hl), SqL.of e2, by omega, lw, lsp, pow_lt lb (by decide), wsum, fun p3 ps H3 s3 e3 hps => ?_⟩
  have s13 := s12.trans s3
  have wl1 : (waysL w (Sy65.least s.tree)).length ≤ 1 := by
    unfold waysL
    split
    · exact Nat.le_refl _
    · exact Nat.zero_le _
  have wl2 : ∀ r ∈ waysL w (Sy65.least s.tree), r.length ≤ 7 := fun r hr => by
    unfold waysL at hr
    split at hr
    · have := List.mem_singleton.mp hr
      rw [this, times_len]
      exact ll
    · cases hr
  have pl := paired_len hps
  generalize waysL w (Sy65.least s.tree) = W at *
  refine ⟨_, rfl, p3, _, rfl, .inl (SqL.of e3), (by show 1 ≤ sizeLine; decide), fun p4 hp4 => ?_⟩
  have s4 := same_new hp4 (.lst [V.int ((ps.map V.ref).length : Nat)])
  have g4 : upd H3 p4 (.lst [V.int ((ps.map V.ref).length : Nat)]) p4 = some (.lst [V.int ((ps.map V.ref).length : Nat)]) := upd_same
  generalize upd H3 p4 (.lst [V.int ((ps.map V.ref).length : Nat)]) = H4 at *
  rw [List.length_map, pl] at g4
  refine ⟨_, rfl, _, rfl, p3, _, rfl, .inl (SqL.of (s4 _ _ e3)), _, _, rfl, rfl, _, rfl, ?_⟩
  rw [List.length_map, pl]
  have fin : ∀ (xs : List V) (q : Addr) (H5 : Hp), Same H4 H5 → H5 q = some (.lst xs) → xs.length ≤ 100 → outV (Sy65.step s (.ways k w)).2 = V.int (W.length : Nat) :: V.int (xs.length : Nat) :: xs →
      spListed K [V.ref q] H5 (fun v H6 => rCat (.ref p4) v H6 Q) E0 := fun xs q H5 s5 e5 xl eo => by
    refine ⟨q, xs, rfl, SqL.of e5, by omega, fun p6 H6 s6 e6 => ?_⟩
    refine ⟨p4, p6, _, _, rfl, rfl, s6 _ _ (s5 _ _ g4), e6, small_line (by simp; omega), fun p7 hp7 => ?_⟩
    refine g.ret D (by rw [est]) (((s13.trans s4).trans s5).trans s6) hp7 ?_
    rw [upd_same, eo]
    rfl
  refine ite2 (fun ck => ?_) (fun ck => ?_)
  · have k1 : k < W.length := by
      have := of_decide_eq_true ck
      omega
    have hk : ps[k]? = some (ps[k]'(by omega)) := List.getElem?_eq_getElem (by omega)
    generalize ps[k]'(by omega) = q at hk
    obtain ⟨r, er, eq⟩ := paired_at hps hk
    refine ⟨_, rfl, _, rfl, p3, _, _, .ref q, rfl, rfl, SqL.of (s4 _ _ e3), atI_nat (by rw [List.getElem?_map, hk]; rfl), ?_⟩
    refine fin (zs r) q _ (Same.refl _) (s4 _ _ eq) ?_ ?_
    · rw [zs_len]
      have := wl2 r (List.mem_of_getElem? er)
      omega
    · rw [est, er, zs_len]
      exact outV_one _ _
  · have k1 : ¬ k < W.length := fun z => ck (decide_eq_true (by omega))
    refine ⟨(by show 0 ≤ sizeLine; decide), fun p5 hp5 => ?_⟩
    refine fin [] p5 _ (same_new hp5 _) upd_same (by show 0 ≤ 100; decide) ?_
    rw [est, List.getElem?_eq_none (by omega)]
    rfl

theorem scMissing : FnScope ["self", "hook", "least", "others", "many"] ["self", "hook"] (defScope (sD 12)) := ⟨rfl, rfl, rfl, by decide +kernel, rfl, by decide +kernel, by decide +kernel⟩
theorem ok_missing (T : EvD K mg A) : FnOk P w K mg base (L2.CX P w) 5 T.f_missing T.d_missing ["self", "hook"] (spOne A .missing) := by
  have GW : FnOk P w K mg base (L2.CX P w) 3 T.f_want T.d_want ["truth", "number"] (spWant A) := ok_want T.toEvS
  have GH : FnOk P w K mg base (L2.CX P w) 4 T.f_wantH T.d_wantH ["self", "hook"] (spWantH A) := ok_wantH T
  have GLW : FnOk P w K mg base CX0 3 T.f_leastW T.d_leastW ["shape"] (spLeastW K A) := ok_leastW T.toEvB
  have GC : FnOk P w K mg base CX0 3 T.f_comm T.d_comm ["weights", "least"] (spComm K) := ok_comm T.toEvB
  refine T.missing.fn.okX scMissing (fun vs H Q E h => ?_) (fun cdv Ar outer s0 H vs Q E hr h => ?_)
  · obtain ⟨d, s, N, n, rfl, _⟩ := h
    rfl
  obtain ⟨d, s, N, h, rfl, _, D, ws, g⟩ := h
  have hr3 : Room 3 _ := hr.mono (by decide)
  refine ⟨_, pss_cons (ps_expr (pe_meth (E := E) (pv 0) T.cls.cD T.wantH.me GH hr T.wantH.bd .nil passR (pa_cons (pv 1) pa_nil)))
    (pss_cons (ps_set (i := 2) scMissing.nd rfl (Or.inl rfl) (pcall T.leastW GLW hr3 pass0 (pa_cons (pe_fld (pv 0) rfl) pa_nil)))
    (pss_cons (ps_set (i := 3) scMissing.nd rfl (Or.inl rfl) (pe_op op_cat (pe_slice sl_list (pe_fld (pv 0) rfl) po_none (po_some (pv 1))) (pe_slice sl_list (pe_fld (pv 0) rfl) (po_some (pe_op op_add (pv 1) pe_int)) po_none)))
    (pss_cons (ps_set (i := 4) scMissing.nd rfl (Or.inl rfl) (pcall T.comm GC hr3 pass0 (pa_cons (pv 3) (pa_cons (pe_op op_cat (pe_slice sl_list (pv 2) po_none (po_some (pv 1))) (pe_slice sl_list (pv 2) (po_some (pe_op op_add (pv 1) pe_int)) po_none)) pa_nil))))
    (pss_cons (ps_expr (pcall (E := E) T.want GW hr3 passR (pa_cons (pe_cmpR op_gt (pv 4) pe_int (nomark _)) (pa_cons T.g_NONE.pe pa_nil))))
    (pss_cons (ps_expr (pcall (E := E) T.want GW hr3 passR (pa_cons (pe_cmpR op_notIn_seq pe_int (pv 3) (by rfl)) (pa_cons T.g_LACK.pe pa_nil))))
    (pss_one (ps_ret (pe_lst (pa_cons (pe_op op_mul (pv 4) (pe_ix ix_list (pv 2) (pv 1) (fun _ _ => rfl))) pa_nil))))))))), ?_⟩
  have D0 := D
  obtain ⟨dx, sh, wl, hd, hs, hw, Nw⟩ := D0
  obtain ⟨lb, lw, ll, lg⟩ := least_big s.tree ws.wf ws.h7
  have hlen := ws.len
  have h7 := ws.h7
  have llen := least_len s.tree
  refine ⟨_, rfl, d, dx, _, rfl, hd, dk_no _ _ (by decide +kernel) (by decide +kernel), _, rfl, d, s, N, h, rfl, D, fun ch => ?_, fun ch => ?_⟩
  rotate_left
  · refine g.e (-2) ?_
    show (s, match s.hung[h]? with | none => Sy65.ok (-2) | some _ => _) = _
    rw [List.getElem?_eq_none (by omega)]
  have hh : s.hung[h]? = some (s.hung[h]'(by omega)) := List.getElem?_eq_getElem (by omega)
  generalize s.hung[h]'(by omega) = hv at hh
  have est : Sy65.step s (.missing h) = (s, match mu (s.hung.take h ++ s.hung.drop (h + 1)) ((Sy65.least s.tree).take h ++ (Sy65.least s.tree).drop (h + 1)) with
      | none => Sy65.ok (-6)
      | some n => if (s.hung.take h ++ s.hung.drop (h + 1)).contains 0 = true then Sy65.ok (-4) else Sy65.ok (n * (Sy65.least s.tree).getD h 0 : Nat)) := by
    rw [← mu_set, ← zipIdx_any0]
    show (s, match s.hung[h]? with | none => Sy65.ok (-2) | some _ => _) = _
    rw [hh]
    rfl
  refine ⟨_, rfl, _, _, dx, _, _, rfl, hd, T.cls.cD, T.cls.d1, dk_shape _ _, sh, s.tree, N, rfl, hs, ws.wf, ws.h7, fun p1 H1 s1 e1 => ?_⟩
  have eh : ((h : Int) + 1) = ((h + 1 : Nat) : Int) := rfl
  -- others
  refine ⟨_, rfl, _, _, dx, _, _, rfl, s1 _ _ hd, T.cls.cD, T.cls.d2, dk_weights _ _, _, rfl, _, rfl, wl, _, rfl, SqL.of (s1 _ _ hw), fun p2 hp2 => ?_⟩
  have s2 := s1.trans (same_new hp2 (.lst (cutV (zs s.hung) none (some (h : Int)))))
  refine ⟨_, rfl, _, _, dx, _, _, rfl, s2 _ _ hd, T.cls.cD, T.cls.d2, dk_weights _ _, _, rfl, _, _, rfl, rfl, _, rfl, wl, _, rfl, SqL.of (s2 _ _ hw), fun p3 hp3 => ?_⟩
  have t3 := same_new hp3 (.lst (cutV (zs s.hung) (some ((h : Int) + 1)) none))
  refine ⟨p2, p3, _, _, rfl, rfl, t3 _ _ upd_same, upd_same, ?_, fun p4 hp4 => ?_⟩
  · rw [cutZ_to, eh, cutZ_from, zs_len, zs_len, List.length_take, List.length_drop]
    exact small_line (by omega)
  have t4 := t3.trans (same_new hp4 (.lst (cutV (zs s.hung) none (some (h : Int)) ++ cutV (zs s.hung) (some ((h : Int) + 1)) none)))
  have s4 := s2.trans t4
  have e14 := t4 _ _ ((same_new hp2 (.lst (cutV (zs s.hung) none (some (h : Int))))) _ _ e1)
  have g4 : upd (upd (upd H1 p2 (.lst (cutV (zs s.hung) none (some (h : Int))))) p3 (.lst (cutV (zs s.hung) (some ((h : Int) + 1)) none))) p4 (.lst (cutV (zs s.hung) none (some (h : Int)) ++ cutV (zs s.hung) (some ((h : Int) + 1)) none)) p4 = some (.lst (zs (s.hung.take h ++ s.hung.drop (h + 1)))) := by
    rw [upd_same, cutZ_to, eh, cutZ_from, zs_app]
  generalize upd (upd (upd H1 p2 (.lst (cutV (zs s.hung) none (some (h : Int))))) p3 (.lst (cutV (zs s.hung) (some ((h : Int) + 1)) none))) p4 (.lst (cutV (zs s.hung) none (some (h : Int)) ++ cutV (zs s.hung) (some ((h : Int) + 1)) none)) = H4 at *
  -- the least ones but that
  refine ⟨_, rfl, _, rfl, _, rfl, _, rfl, p1, _, rfl, SqL.of e14, fun p5 hp5 => ?_⟩
  have t5 := same_new hp5 (.lst (cutV (zs (Sy65.least s.tree)) none (some (h : Int))))
  refine ⟨_, rfl, _, rfl, _, _, rfl, rfl, _, rfl, p1, _, rfl, SqL.of (t5 _ _ e14), fun p6 hp6 => ?_⟩
  have t6 := same_new hp6 (.lst (cutV (zs (Sy65.least s.tree)) (some ((h : Int) + 1)) none))
  refine ⟨p5, p6, _, _, rfl, rfl, t6 _ _ upd_same, upd_same, ?_, fun p7 hp7 => ?_⟩
  · rw [cutZ_to, eh, cutZ_from, zs_len, zs_len, List.length_take, List.length_drop]
    exact small_line (by omega)
  have t7 := (t5.trans t6).trans (same_new hp7 (.lst (cutV (zs (Sy65.least s.tree)) none (some (h : Int)) ++ cutV (zs (Sy65.least s.tree)) (some ((h : Int) + 1)) none)))
  have lm : ∀ x ∈ (Sy65.least s.tree).take h ++ (Sy65.least s.tree).drop (h + 1), x ∈ Sy65.least s.tree := fun x hx => by
    rcases List.mem_append.mp hx with hx | hx
    · exact List.mem_of_mem_take hx
    · exact List.mem_of_mem_drop hx
  have wm : ∀ x ∈ s.hung.take h ++ s.hung.drop (h + 1), x ≤ 1000000 := fun x hx => by
    rcases List.mem_append.mp hx with hx | hx
    · exact ws.le x (List.mem_of_mem_take hx)
    · exact ws.le x (List.mem_of_mem_drop hx)
  have lw' : Lw ((Sy65.least s.tree).take h ++ (Sy65.least s.tree).drop (h + 1)) := ⟨fun x hx => lw.1 x (lm x hx), fun x hx => lw.2 x (lm x hx)⟩
  have ol : (s.hung.take h ++ s.hung.drop (h + 1)).length ≤ 7 := by
    rw [List.length_append, List.length_take, List.length_drop]
    omega
  obtain ⟨ce, cp⟩ := common_eq (w := s.hung.take h ++ s.hung.drop (h + 1)) lw'.1
  have cl := common_le (l := (Sy65.least s.tree).take h ++ (Sy65.least s.tree).drop (h + 1)) wm (by decide)
  refine ⟨p4, p7, s.hung.take h ++ s.hung.drop (h + 1), (Sy65.least s.tree).take h ++ (Sy65.least s.tree).drop (h + 1), rfl, SqL.of (t7 _ _ g4), SqL.of (by rw [upd_same, cutZ_to, eh, cutZ_from, zs_app]), by omega, lw', fun H8 t8 => ?_⟩
  have s8 := (s4.trans t7).trans t8
  have g8 := t8 _ _ (t7 _ _ g4)
  have e18 := t8 _ _ (t7 _ _ e14)
  generalize s.hung.take h ++ s.hung.drop (h + 1) = O at *
  generalize (Sy65.least s.tree).take h ++ (Sy65.least s.tree).drop (h + 1) = L at *
  refine ⟨_, rfl, _, _, rfl, rfl, _, _, rfl, fun c => ?_, fun c => ?_⟩
  rotate_left
  · have c1 : common O L = 0 := by
      have := of_decide_eq_false c
      omega
    refine (g.e (-6) ?_).same s8
    cases em : mu O L with
    | none =>
      rw [em] at est
      exact est
    | some n =>
      have := cp n em
      rw [em] at ce
      have ce' : common O L = n := ce
      omega
  have c1 : 0 < common O L := by
    have := of_decide_eq_true c
    omega
  cases em : mu O L with
  | none =>
    rw [em] at ce
    rw [ce] at c1
    exact absurd c1 (Nat.lt_irrefl 0)
  | some n =>
    rw [em] at ce est
    have ce' : common O L = n := ce
    rw [ce'] at cl ⊢
    dsimp only at est
    refine ⟨_, rfl, p4, _, rfl, .inl (SqL.of g8), rfl, zs_flat _, _, _, rfl, fun c2 => ?_, fun c2 => ?_⟩
    rotate_left
    · have c3 : (!inV (V.int 0) (zs O)) = false := c2
      rw [zs_zero] at c3
      have c4 : O.contains 0 = true := by
        cases z : O.contains 0 with
        | true => rfl
        | false => rw [z] at c3; cases c3
      rw [if_pos c4] at est
      exact (g.e (-4) est).same s8
    have c3 : (!inV (V.int 0) (zs O)) = true := c2
    rw [zs_zero] at c3
    have c4 : ¬ O.contains 0 = true := fun z => by rw [z] at c3; cases c3
    rw [if_neg c4] at est
    have hx : (Sy65.least s.tree)[h]? = some ((Sy65.least s.tree)[h]'(by omega)) := List.getElem?_eq_getElem (by omega)
    generalize (Sy65.least s.tree)[h]'(by omega) = x at hx
    refine ⟨_, rfl, _, rfl, _, rfl, p1, _, _, V.int (x : Nat), rfl, rfl, SqL.of e18, atI_nat (zs_get hx), _, _, rfl, rfl, .inl ⟨by omega, by omega⟩, (by show 1 ≤ sizeLine; decide), fun p9 hp9 => ?_⟩
    refine g.ret D (by rw [est]) s8 hp9 ?_
    rw [upd_same, est, List.getD_eq_getElem?_getD, hx]
    rfl
end
end Mob

set_option Elab.async false
set_option linter.all false
set_option maxRecDepth 100000
set_option maxHeartbeats 4000000
namespace Mob
open PySem PySem.Spec PyProof.Rows L2

theorem ifT {c : Bool} {A B : Prop} (hc : c = true) (h : A) : if c = true then A else B := by
  rw [if_pos hc]
  exact h
theorem ifF {c : Bool} {A B : Prop} (hc : c = false) (h : B) : if c = true then A else B := by
  rw [hc, if_neg Bool.false_ne_true]
  exact h
/-- a method called within a try (turned from the worked proof 30_by_hand) -/
def tMethT (C : Addr) (m : Str) (sp : Sp) (E : L2.St → XK) (ta : TE) (t : TA) : TE := fun σ H Q => ta σ H fun x H1 => ∃ a dx fs, x = .ref a ∧ H1 a = some (.ins C dx fs) ∧ fs.lookup m = none ∧ t σ H1 fun vs H2 => sp (x :: vs) H2 Q (E σ)
theorem pe_methT {X : Cx} {CT : CXT} {k : Nat} {f C : Addr} {fd : FuncData} {ps : List Str} {sp : Sp} {E : L2.St → XK} {m : Str} {pos apos : PySem.Pos} {e o : Expr} {es : List Expr} {ta : TE} {t : TA} {pl : Sem Bool} (he : PE X o ta) (c : Cls X.K C) (hm : Meth X.K C m f)
    (F : FnOk X.prog X.w X.K X.mg X.base CT k f fd ps sp) (hr : Room k X.A) (hb : Binds X.K fd ps []) (hx : ∀ σ, PassesAt CT X σ (E σ)) (ha : PA X (e :: es) t)
    (hst : starEach (e :: es) X.env = (false, eval e X.env) :: starEach es X.env := by rfl) (hpl : (backTo pos (starEach es X.env)).any (·.1) = false := by rfl)
    (ht : eval (.Call (.Attribute o m apos) (e :: es) [] pos) X.env = (do
      let ov ← eval o X.env
      standAt apos.atName
      let (f, first) ← holding [ov] (getMethod ov m pl)
      callWith pos f first (backTo pos (starEach (e :: es) X.env)) (backToKw pos (keywordEach [] X.env))) := by rfl) :
    PE X (.Call (.Attribute o m apos) (e :: es) [] pos) (tMethT C m sp E ta t) := by
  refine ⟨fun pins s σ H Q I h => ?_⟩
  refine PySem.W.methodCall_KW (pl := pl) (thn (he.run pins s σ H _ I h) fun u s1 ⟨x, H1, I1, rx, a, dx, fs, ex, ea, l, q⟩ => ?_) ht
  subst ex
  obtain rfl : u = Value.ref a := rx
  refine getmeth_ok I1 ea c hm l ?_
  refine PySem.W.callWith_K (first := [.ref a]) (h₀ := X.base) I.ok.mod.kin hm.kp (thn (ha.run pos pins s1 σ H1 _ I1 q) fun us s2 ⟨vs, H2, I2, r, q2⟩ => ⟨I2.kIn, ?_⟩) hst hpl
  exact run_fnS (us := .ref a :: us) (vs := .ref a :: vs) F hr hb (hx σ) I2 (.cons rfl r) q2

theorem getD_at {l : List Nat} {i : Nat} (h : i < l.length) : (zs l)[i]? = some (V.int (l.getD i 0 : Nat)) := by
  have e : l[i]? = some (l.getD i 0) := by
    rw [List.getD_eq_getElem?_getD, List.getElem?_eq_getElem h]
    rfl
  exact zs_get e
theorem getD_lt {l : List Nat} {i M : Nat} (h : i < l.length) (b : ∀ x ∈ l, x < M) : l.getD i 0 < M := by
  have e : l[i]? = some (l.getD i 0) := by
    rw [List.getD_eq_getElem?_getD, List.getElem?_eq_getElem h]
    rfl
  exact b _ (List.mem_of_getElem? e)
def spPart (A : Cs) (lo hi : Nat) : Sp := fun vs H Q E => ∃ (d ln lr : Addr) (s : Sy65.St) (N : Addr → Prop) (p : Nat) (ns rs : List Nat), vs = [.ref d, .int p, .ref ln, .ref lr] ∧ lo ≤ p ∧ p < hi ∧ H ln = some (.lst (zs ns)) ∧ H lr = some (.lst (zs rs)) ∧
  ns.length = manyP p ∧ (∀ x ∈ ns, x < 2 ^ 32) ∧ rs.length ≤ 60 ∧ DeskAt A H d s N ∧ WfS s ∧ Good A H d s N (callN p ns rs) Q E
def spAnswer (A : Cs) : Sp := fun vs H Q _ => ∃ (d ln lr : Addr) (s : Sy65.St) (N : Addr → Prop) (p : Nat) (ns rs : List Nat), vs = [.ref d, .int p, .ref ln, .ref lr] ∧ p < 12 ∧ H ln = some (.lst (zs ns)) ∧ H lr = some (.lst (zs rs)) ∧
  ns.length = manyP p ∧ (∀ x ∈ ns, x < 2 ^ 32) ∧ rs.length ≤ 60 ∧ DeskAt A H d s N ∧ WfS s ∧
  ∀ (H' : Hp) (q : Addr), DeskAt A H' d (Sy65.step s (callN p ns rs)).1 (fun b => N b ∨ H b = none) → (∀ b o, H b = some o → b ≠ d → H' b = some o) → H' q = some (.lst (outV (Sy65.step s (callN p ns rs)).2)) → H q = none → Q (.ref q) H'
section
variable {P : Program} {w : World} {K : PySem.W.Frag} {mg : Str → Option Value} {base : Heap} {A : Cs}

theorem scEarly : FnScope ["self", "call", "n", "row"] ["self", "call", "n", "row"] (defScope (sD 14)) := ⟨rfl, rfl, rfl, by decide +kernel, rfl, by decide +kernel, by decide +kernel⟩
theorem ok_early (T : EvD K mg A) : FnOk P w K mg base (L2.CX P w) 128 T.f_early T.d_early ["self", "call", "n", "row"] (spPart A 0 6) := by
  have G0 : FnOk P w K mg base (L2.CX P w) 127 T.f_begins T.d_begins ["self", "numbers"] (spBegins K A) := ok_begins T
  have G1 : FnOk P w K mg base (L2.CX P w) 5 T.f_hang T.d_hang ["self", "hook", "weight"] (spHang A) := ok_hang T
  have G2 : FnOk P w K mg base (L2.CX P w) 4 T.f_arms T.d_arms ["self", "rod", "left", "right"] (spArms A) := ok_arms T
  have G3 : FnOk P w K mg base (L2.CX P w) 3 T.f_pulls T.d_pulls ["self"] (spNone A .pulls) := ok_pulls T
  have G4 : FnOk P w K mg base (L2.CX P w) 4 T.f_least T.d_least ["self"] (spNone A .least) := ok_least T
  have G5 : FnOk P w K mg base (L2.CX P w) 5 T.f_scale T.d_scale ["self", "many"] (spOne A .scale) := ok_scale T
  refine T.early.fn.okX scEarly (fun vs H Q E h => ?_) (fun cdv Ar outer s0 H vs Q E hr h => ?_)
  · obtain ⟨d, ln, lr, s, N, p, ns, rs, rfl, _⟩ := h
    rfl
  obtain ⟨d, ln, lr, s, N, p, ns, rs, rfl, _, hp, hn, hrw, nl, nb, rl, D, ws, g⟩ := h
  have hr5 : Room 5 _ := hr.mono (by decide)
  have hr4 : Room 4 _ := hr.mono (by decide)
  have hr3 : Room 3 _ := hr.mono (by decide)
  refine ⟨_, pss_cons (ps_if (pt_cmpR op_eq (pv 1) pe_int (nomark _)) (pss_one (ps_ret (pe_meth (E := E) (pv 0) T.cls.cD T.begins.me G0 hr T.begins.bd .nil passR (pa_cons (pv 3) pa_nil)))) pss_nil)
    (pss_cons (ps_if (pt_cmpR op_eq (pv 1) pe_int (nomark _)) (pss_one (ps_ret (pe_meth (E := E) (pv 0) T.cls.cD T.hang.me G1 hr5 T.hang.bd .nil passR (pa_cons (pe_ix ix_list (pv 2) pe_int (fun _ _ => rfl)) (pa_cons (pe_ix ix_list (pv 2) pe_int (fun _ _ => rfl)) pa_nil))))) pss_nil)
    (pss_cons (ps_if (pt_cmpR op_eq (pv 1) pe_int (nomark _)) (pss_one (ps_ret (pe_meth (E := E) (pv 0) T.cls.cD T.arms.me G2 hr4 T.arms.bd .nil passR (pa_cons (pe_ix ix_list (pv 2) pe_int (fun _ _ => rfl)) (pa_cons (pe_ix ix_list (pv 2) pe_int (fun _ _ => rfl)) (pa_cons (pe_ix ix_list (pv 2) pe_int (fun _ _ => rfl)) pa_nil)))))) pss_nil)
    (pss_cons (ps_if (pt_cmpR op_eq (pv 1) pe_int (nomark _)) (pss_one (ps_ret (pe_meth0 (E := E) (pv 0) T.cls.cD T.pulls.me G3 hr3 T.pulls.bd .nil passR))) pss_nil)
    (pss_cons (ps_if (pt_cmpR op_eq (pv 1) pe_int (nomark _)) (pss_one (ps_ret (pe_meth0 (E := E) (pv 0) T.cls.cD T.least.me G4 hr4 T.least.bd .nil passR))) pss_nil)
    (pss_one (ps_ret (pe_meth (E := E) (pv 0) T.cls.cD T.scale.me G5 hr5 T.scale.bd .nil passR (pa_cons (pe_ix ix_list (pv 2) pe_int (fun _ _ => rfl)) pa_nil)))))))), ?_⟩
  have D0 := D
  obtain ⟨dx, sh, wl, hd, hs, hw, Nw⟩ := D0
  match p, hp, nl, g with
  | 0, _, nl, g =>
    refine ⟨_, rfl, rfl, _, rfl, ifT (by decide) ?_⟩
    exact ⟨_, rfl, d, dx, _, rfl, hd, dk_no _ _ (by decide +kernel) (by decide +kernel), _, rfl, d, lr, s, N, rs, rfl, SqL.of hrw, rl, D, ws, g⟩
  | 1, _, nl, g =>
    have l2 : ns.length = 2 := nl
    refine ⟨_, rfl, rfl, _, rfl, ifF (by decide) ?_⟩
    refine ⟨_, rfl, rfl, _, rfl, ifT (by decide) ?_⟩
    exact ⟨_, rfl, d, dx, _, rfl, hd, dk_no _ _ (by decide +kernel) (by decide +kernel), _, rfl, ln, _, _, _, rfl, rfl, SqL.of hn, atI_nat (j := 0) (getD_at (by omega)), _, rfl, ln, _, _, _, rfl, rfl, SqL.of hn, atI_nat (j := 1) (getD_at (by omega)), d, s, N, _, _, rfl, D, ws, g⟩
  | 2, _, nl, g =>
    have l3 : ns.length = 3 := nl
    refine ⟨_, rfl, rfl, _, rfl, ifF (by decide) ?_⟩
    refine ⟨_, rfl, rfl, _, rfl, ifF (by decide) ?_⟩
    refine ⟨_, rfl, rfl, _, rfl, ifT (by decide) ?_⟩
    exact ⟨_, rfl, d, dx, _, rfl, hd, dk_no _ _ (by decide +kernel) (by decide +kernel), _, rfl, ln, _, _, _, rfl, rfl, SqL.of hn, atI_nat (j := 0) (getD_at (by omega)), _, rfl, ln, _, _, _, rfl, rfl, SqL.of hn, atI_nat (j := 1) (getD_at (by omega)), _, rfl, ln, _, _, _, rfl, rfl, SqL.of hn, atI_nat (j := 2) (getD_at (by omega)), d, s, N, _, _, _, rfl, D, ws, g⟩
  | 3, _, nl, g =>
    refine ⟨_, rfl, rfl, _, rfl, ifF (by decide) ?_⟩
    refine ⟨_, rfl, rfl, _, rfl, ifF (by decide) ?_⟩
    refine ⟨_, rfl, rfl, _, rfl, ifF (by decide) ?_⟩
    refine ⟨_, rfl, rfl, _, rfl, ifT (by decide) ?_⟩
    exact ⟨_, rfl, d, dx, _, rfl, hd, dk_no _ _ (by decide +kernel) (by decide +kernel), d, s, N, rfl, D, ws, g⟩
  | 4, _, nl, g =>
    refine ⟨_, rfl, rfl, _, rfl, ifF (by decide) ?_⟩
    refine ⟨_, rfl, rfl, _, rfl, ifF (by decide) ?_⟩
    refine ⟨_, rfl, rfl, _, rfl, ifF (by decide) ?_⟩
    refine ⟨_, rfl, rfl, _, rfl, ifF (by decide) ?_⟩
    refine ⟨_, rfl, rfl, _, rfl, ifT (by decide) ?_⟩
    exact ⟨_, rfl, d, dx, _, rfl, hd, dk_no _ _ (by decide +kernel) (by decide +kernel), d, s, N, rfl, D, ws, g⟩
  | 5, _, nl, g =>
    have l1 : ns.length = 1 := nl
    refine ⟨_, rfl, rfl, _, rfl, ifF (by decide) ?_⟩
    refine ⟨_, rfl, rfl, _, rfl, ifF (by decide) ?_⟩
    refine ⟨_, rfl, rfl, _, rfl, ifF (by decide) ?_⟩
    refine ⟨_, rfl, rfl, _, rfl, ifF (by decide) ?_⟩
    refine ⟨_, rfl, rfl, _, rfl, ifF (by decide) ?_⟩
    exact ⟨_, rfl, d, dx, _, rfl, hd, dk_no _ _ (by decide +kernel) (by decide +kernel), _, rfl, ln, _, _, _, rfl, rfl, SqL.of hn, atI_nat (j := 0) (getD_at (by omega)), d, s, N, _, rfl, getD_lt (by omega) nb, D, ws, g⟩
  | p + 6, hp, _, _ => exact absurd hp (by omega)

theorem scLate : FnScope ["self", "call", "n", "row"] ["self", "call", "n", "row"] (defScope (sD 15)) := ⟨rfl, rfl, rfl, by decide +kernel, rfl, by decide +kernel, by decide +kernel⟩
theorem ok_late (T : EvD K mg A) : FnOk P w K mg base (L2.CX P w) 6 T.f_late T.d_late ["self", "call", "n", "row"] (spPart A 6 12) := by
  have G6 : FnOk P w K mg base (L2.CX P w) 4 T.f_up T.d_up ["self"] (spNone A .madeUp) := ok_up T
  have G7 : FnOk P w K mg base (L2.CX P w) 5 T.f_mend T.d_mend ["self"] (spNone A .mend) := ok_mend T
  have G8 : FnOk P w K mg base (L2.CX P w) 4 T.f_wants T.d_wants ["self"] (spNone A .wants) := ok_wants T
  have G9 : FnOk P w K mg base (L2.CX P w) 5 T.f_ways T.d_ways ["self", "k", "weights"] (spWays A) := ok_ways T
  have G10 : FnOk P w K mg base (L2.CX P w) 5 T.f_missing T.d_missing ["self", "hook"] (spOne A .missing) := ok_missing T
  have G11 : FnOk P w K mg base (L2.CX P w) 2 T.f_state T.d_state ["self"] (spNone A .state) := ok_state T
  refine T.late.fn.okX scLate (fun vs H Q E h => ?_) (fun cdv Ar outer s0 H vs Q E hr h => ?_)
  · obtain ⟨d, ln, lr, s, N, p, ns, rs, rfl, _⟩ := h
    rfl
  obtain ⟨d, ln, lr, s, N, p, ns, rs, rfl, h6, hp, hn, hrw, nl, nb, rl, D, ws, g⟩ := h
  have hr4 : Room 4 _ := hr.mono (by decide)
  have hr2 : Room 2 _ := hr.mono (by decide)
  refine ⟨_, pss_cons (ps_if (pt_cmpR op_eq (pv 1) pe_int (nomark _)) (pss_one (ps_ret (pe_meth0 (E := E) (pv 0) T.cls.cD T.up.me G6 hr4 T.up.bd .nil passR))) pss_nil)
    (pss_cons (ps_if (pt_cmpR op_eq (pv 1) pe_int (nomark _)) (pss_one (ps_ret (pe_meth0 (E := E) (pv 0) T.cls.cD T.mend.me G7 hr T.mend.bd .nil passR))) pss_nil)
    (pss_cons (ps_if (pt_cmpR op_eq (pv 1) pe_int (nomark _)) (pss_one (ps_ret (pe_meth0 (E := E) (pv 0) T.cls.cD T.wants.me G8 hr4 T.wants.bd .nil passR))) pss_nil)
    (pss_cons (ps_if (pt_cmpR op_eq (pv 1) pe_int (nomark _)) (pss_one (ps_ret (pe_meth (E := E) (pv 0) T.cls.cD T.ways.me G9 hr T.ways.bd .nil passR (pa_cons (pe_ix ix_list (pv 2) pe_int (fun _ _ => rfl)) (pa_cons (pv 3) pa_nil))))) pss_nil)
    (pss_cons (ps_if (pt_cmpR op_eq (pv 1) pe_int (nomark _)) (pss_one (ps_ret (pe_meth (E := E) (pv 0) T.cls.cD T.missing.me G10 hr T.missing.bd .nil passR (pa_cons (pe_ix ix_list (pv 2) pe_int (fun _ _ => rfl)) pa_nil)))) pss_nil)
    (pss_one (ps_ret (pe_meth0 (E := E) (pv 0) T.cls.cD T.state.me G11 hr2 T.state.bd .nil passR))))))), ?_⟩
  have D0 := D
  obtain ⟨dx, sh, wl, hd, hs, hw, Nw⟩ := D0
  match p, h6, hp, nl, g with
  | 6, _, _, nl, g =>
    refine ⟨_, rfl, rfl, _, rfl, ifT (by decide) ?_⟩
    exact ⟨_, rfl, d, dx, _, rfl, hd, dk_no _ _ (by decide +kernel) (by decide +kernel), d, s, N, rfl, D, ws, g⟩
  | 7, _, _, nl, g =>
    refine ⟨_, rfl, rfl, _, rfl, ifF (by decide) ?_⟩
    refine ⟨_, rfl, rfl, _, rfl, ifT (by decide) ?_⟩
    exact ⟨_, rfl, d, dx, _, rfl, hd, dk_no _ _ (by decide +kernel) (by decide +kernel), d, s, N, rfl, D, ws, g⟩
  | 8, _, _, nl, g =>
    refine ⟨_, rfl, rfl, _, rfl, ifF (by decide) ?_⟩
    refine ⟨_, rfl, rfl, _, rfl, ifF (by decide) ?_⟩
    refine ⟨_, rfl, rfl, _, rfl, ifT (by decide) ?_⟩
    exact ⟨_, rfl, d, dx, _, rfl, hd, dk_no _ _ (by decide +kernel) (by decide +kernel), d, s, N, rfl, D, ws, g⟩
  | 9, _, _, nl, g =>
    have l1 : ns.length = 1 := nl
    refine ⟨_, rfl, rfl, _, rfl, ifF (by decide) ?_⟩
    refine ⟨_, rfl, rfl, _, rfl, ifF (by decide) ?_⟩
    refine ⟨_, rfl, rfl, _, rfl, ifF (by decide) ?_⟩
    refine ⟨_, rfl, rfl, _, rfl, ifT (by decide) ?_⟩
    exact ⟨_, rfl, d, dx, _, rfl, hd, dk_no _ _ (by decide +kernel) (by decide +kernel), _, rfl, ln, _, _, _, rfl, rfl, SqL.of hn, atI_nat (j := 0) (getD_at (by omega)), _, rfl, d, lr, s, N, _, rs, rfl, hrw, rl, D, ws, g⟩
  | 10, _, _, nl, g =>
    have l1 : ns.length = 1 := nl
    refine ⟨_, rfl, rfl, _, rfl, ifF (by decide) ?_⟩
    refine ⟨_, rfl, rfl, _, rfl, ifF (by decide) ?_⟩
    refine ⟨_, rfl, rfl, _, rfl, ifF (by decide) ?_⟩
    refine ⟨_, rfl, rfl, _, rfl, ifF (by decide) ?_⟩
    refine ⟨_, rfl, rfl, _, rfl, ifT (by decide) ?_⟩
    exact ⟨_, rfl, d, dx, _, rfl, hd, dk_no _ _ (by decide +kernel) (by decide +kernel), _, rfl, ln, _, _, _, rfl, rfl, SqL.of hn, atI_nat (j := 0) (getD_at (by omega)), d, s, N, _, rfl, getD_lt (by omega) nb, D, ws, g⟩
  | 11, _, _, nl, g =>
    refine ⟨_, rfl, rfl, _, rfl, ifF (by decide) ?_⟩
    refine ⟨_, rfl, rfl, _, rfl, ifF (by decide) ?_⟩
    refine ⟨_, rfl, rfl, _, rfl, ifF (by decide) ?_⟩
    refine ⟨_, rfl, rfl, _, rfl, ifF (by decide) ?_⟩
    refine ⟨_, rfl, rfl, _, rfl, ifF (by decide) ?_⟩
    exact ⟨_, rfl, d, dx, _, rfl, hd, dk_no _ _ (by decide +kernel) (by decide +kernel), d, s, N, rfl, D, ws, g⟩
  | p + 12, _, hp, _, _ => exact absurd hp (by omega)
  | 0, h6, _, _, _ => exact absurd h6 (by decide)
  | 1, h6, _, _, _ => exact absurd h6 (by decide)
  | 2, h6, _, _, _ => exact absurd h6 (by decide)
  | 3, h6, _, _, _ => exact absurd h6 (by decide)
  | 4, h6, _, _, _ => exact absurd h6 (by decide)
  | 5, h6, _, _, _ => exact absurd h6 (by decide)

/-- return [e.number] -/
def t_suite (A : Cs) : Addr → Value → Option Addr → TS := fun a cls d => tRet (tLst (tCons (tXf a cls d A.E "number" (tVar 4)) tNil))
theorem scAnswer : FnScope ["self", "call", "n", "row", "e"] ["self", "call", "n", "row"] (defScope (sD 16)) := ⟨rfl, rfl, rfl, by decide +kernel, rfl, by decide +kernel, by decide +kernel⟩
theorem ok_answer (T : EvD K mg A) : FnOk P w K mg base CX0 129 T.f_answer T.d_answer ["self", "call", "n", "row"] (spAnswer A) := by
  have GE : FnOk P w K mg base (L2.CX P w) 128 T.f_early T.d_early ["self", "call", "n", "row"] (spPart A 0 6) := ok_early T
  have GL : FnOk P w K mg base (L2.CX P w) 6 T.f_late T.d_late ["self", "call", "n", "row"] (spPart A 6 12) := ok_late T
  refine T.answer.fn.ok scAnswer (fun vs H Q E h => ?_) (fun cdv Ar outer s0 H vs Q E hr h => ?_)
  · obtain ⟨d, ln, lr, s, N, p, ns, rs, rfl, _⟩ := h
    rfl
  obtain ⟨d, ln, lr, s, N, p, ns, rs, rfl, hp, hn, hrw, nl, nb, rl, D, ws, gq⟩ := h
  have hr6 : Room 6 _ := hr.mono (by decide)
  refine ⟨_, pss_one (ps_try_as (i := 4) (tb := fun W => tRet (tIf (tTest (tOp (rI0 fun i j => .bl (decide (i < j))) (tVar 1) (tC (.int 6))))
        (tMethT A.D "early" (spPart A 0 6) (WE W) (tVar 0) (tCons (tVar 1) (tCons (tVar 2) (tCons (tVar 3) tNil)))) (tMethT A.D "late" (spPart A 6 12) (WE W) (tVar 0) (tCons (tVar 1) (tCons (tVar 2) (tCons (tVar 3) tNil))))))
      (ts := t_suite A) (Wout := fun _ _ _ _ => False) rfl rfl scAnswer.nd rfl rfl ⟨rfl, by decide, Or.inl T.g_Ref⟩ takes0
      (fun W pn xe tk _ => pss_one (ps_ret (pe_ifExp (pt_cmpR op_lt (pv 1) pe_int (nomark _))
        (pe_methT (pv 0) T.cls.cD T.early.me GE hr T.early.bd (fun σ => passAt tk σ) (by exact (pa_cons (pv 1) (pa_cons (pv 2) (pa_cons (pv 3) pa_nil)))))
        (pe_methT (pv 0) T.cls.cD T.late.me GL hr6 T.late.bd (fun σ => passAt tk σ) (by exact (pa_cons (pv 1) (pa_cons (pv 2) (pa_cons (pv 3) pa_nil))))))))
      (fun a oe cls d pn hz hf => pss_one (ps_ret (pe_lst (pa_cons (pe_xf T.xf T.nE hz hf (pv 4)) pa_nil))))), ?_⟩
  have D0 := D
  obtain ⟨dx, sh, wl, hd, hs, hw, Nw⟩ := D0
  have bad : ∀ k, Sy65.step s (callN p ns rs) = (s, Sy65.ok k) → Err A H k (WE (wAs K (.ref A.E) 4 (t_suite A) (fun _ _ _ _ => False) { nx := fun _ H' => Q .non H', rt := Q }) (start ["self", "call", "n", "row", "e"] [.ref d, .int p, .ref ln, .ref lr])) := fun k hk H' d' s' hd' => by
    refine ⟨true, T.exm, fun _ a0 _ => ?_, fun q => Bool.noConfusion q⟩
    refine ⟨_, rfl, rfl, rfl, d', _, .int k, rfl, hd', lk_here, (by show 1 ≤ sizeLine; decide), fun p5 hp5 => ?_⟩
    have s5 := s'.trans (same_new hp5 (.lst [V.int k]))
    rw [hk] at gq
    exact gq _ p5 ((D.same s5).mono fun b hb => .inl hb) (fun b o hb _ => s5 b o hb) upd_same (s'.free hp5)
  refine ⟨_, rfl, _, _, rfl, rfl, _, rfl, ?_⟩
  refine ite2 (fun c => ?_) (fun c => ?_)
  · have c1 : p < 6 := by
      have := of_decide_eq_true c
      omega
    exact ⟨_, rfl, d, dx, _, rfl, hd, dk_no _ _ (by decide +kernel) (by decide +kernel), _, rfl, _, rfl, _, rfl, d, ln, lr, s, N, p, ns, rs, rfl, Nat.zero_le _, c1, hn, hrw, nl, nb, rl, D, ws, gq, bad⟩
  · have c1 : 6 ≤ p := by
      by_cases z : p < 6
      · exact absurd (decide_eq_true (by omega)) c
      · omega
    exact ⟨_, rfl, d, dx, _, rfl, hd, dk_no _ _ (by decide +kernel) (by decide +kernel), _, rfl, _, rfl, _, rfl, d, ln, lr, s, N, p, ns, rs, rfl, c1, hp, hn, hrw, nl, nb, rl, D, ws, gq, bad⟩
end
end Mob

set_option Elab.async false
set_option linter.all false
set_option maxRecDepth 100000
set_option maxHeartbeats 4000000
namespace Mob
open PySem PySem.Spec PyProof.Rows L2

theorem wf_init : WfS Sy65.init := ⟨trivial, by decide, rfl, fun x hx => by
  have : x = 0 := by simpa [Sy65.init] using hx
  omega⟩
/-- each call keeps the state well -/
theorem step_wf {s : Sy65.St} (h : WfS s) : ∀ c : Sy65.Call, WfS (Sy65.step s c).1
  | .begins l => by
    show WfS (match Sy65.read 60 l with | some (t, []) => if Sy65.HOOKS < Sy65.hooks t then (s, Sy65.ok (-5)) else (⟨t, List.replicate (Sy65.hooks t) 0⟩, Sy65.ok (Sy65.hooks t : Nat)) | _ => (s, Sy65.ok (-1))).1
    split
    · rename_i t ht
      split
      · exact h
      · rename_i c
        refine ⟨(read_numbers _ _ _ _ ht).2, ?_, List.length_replicate, fun x hx => ?_⟩
        · have c' : ¬ 7 < Sy65.hooks t := c
          show Sy65.hooks t ≤ 7
          omega
        · have := List.eq_of_mem_replicate hx
          omega
    · exact h
  | .hang k w => by
    show WfS (if s.hung.length ≤ k then (s, Sy65.ok (-2)) else if Sy65.MOST < w then (s, Sy65.ok (-1)) else ({ s with hung := s.hung.set k w }, Sy65.ok (Sy65.heavy (s.hung.set k w) : Nat))).1
    split
    · exact h
    · split
      · exact h
      · rename_i c
        refine ⟨h.wf, h.h7, (List.length_set ..).trans h.len, fun x hx => ?_⟩
        rcases List.mem_or_eq_of_mem_set hx with z | z
        · exact h.le x z
        · have c' : ¬ 1000000 < w := c
          omega
  | .arms_ k l r => by
    show WfS (if Sy65.rods s.tree ≤ k then (s, Sy65.ok (-2)) else if l < 1 ∨ 20 < l ∨ r < 1 ∨ 20 < r then (s, Sy65.ok (-1)) else ({ s with tree := Sy65.withArms l r k s.tree }, Sy65.ok 0)).1
    split
    · exact h
    · split
      · exact h
      · refine ⟨withArms_wf (by omega) (by omega) (by omega) (by omega) _ _ h.wf, ?_, ?_, h.le⟩
        · show Sy65.hooks (Sy65.withArms l r k s.tree) ≤ 7
          rw [withArms_hooks]
          exact h.h7
        · show s.hung.length = Sy65.hooks (Sy65.withArms l r k s.tree)
          rw [withArms_hooks]
          exact h.len
  | .pulls => h
  | .least => h
  | .scale n => by
    show WfS (if n < 1 ∨ Sy65.MOST < n * (Sy65.least s.tree).foldl max 0 then (s, Sy65.ok (-1)) else ({ s with hung := Sy65.times n (Sy65.least s.tree) }, Sy65.ok (n * Sy65.heavy (Sy65.least s.tree) : Nat))).1
    split
    · exact h
    · rename_i c
      refine ⟨h.wf, h.h7, ?_, ?_⟩
      · show (Sy65.times n (Sy65.least s.tree)).length = _
        rw [times_len, least_len]
      · exact (times_most n (Sy65.least s.tree) 1000000).mpr fun z => c (.inr z)
  | .madeUp => h
  | .mend => by
    show WfS (if Sy65.MOST < Sy65.nearest s * (Sy65.least s.tree).foldl max 0 then (s, Sy65.ok (-1)) else ({ s with hung := Sy65.times (Sy65.nearest s) (Sy65.least s.tree) }, (_ : Sy65.Ans))).1
    split
    · exact h
    · rename_i c
      refine ⟨h.wf, h.h7, ?_, ?_⟩
      · show (Sy65.times (Sy65.nearest s) (Sy65.least s.tree)).length = _
        rw [times_len, least_len]
      · exact (times_most (Sy65.nearest s) (Sy65.least s.tree) 1000000).mpr c
  | .wants => h
  | .ways k l => h
  | .missing k => h
  | .state => h

/-- all that a desk is made of is tracked -/
theorem DeskAt.off {A : Cs} {H : Hp} {d l : Addr} {s : Sy65.St} {N : Addr → Prop} (h : DeskAt A H d s N) (hl : H l = none) : DeskAt A H d s (fun b => b ≠ l) := by
  have ne : ∀ {b : Addr} {o : HO}, H b = some o → b ≠ l := fun hb => ne_of_none hb hl
  obtain ⟨dx, sh, wl, h1, ⟨dy, nl, rl, rs, y1, y2, y3, y4, _⟩, h3, _⟩ := h
  refine ⟨dx, sh, wl, h1, ⟨dy, nl, rl, rs, y1, y2, y3, y4, ne y1, ne y2, ne y3, fun r hr => ?_⟩, h3, ne h3⟩
  have key : ∀ {rs : List Addr} {m : List R}, RodsAt A H rs m → ∀ r ∈ rs, r ≠ l := by
    intro rs m hm
    induction hm with
    | nil => intro r hr; cases hr
    | cons hx _ ih =>
      intro r hr
      obtain ⟨dz, hz⟩ := hx
      rcases List.mem_cons.mp hr with e | e
      · rw [e]; exact ne hz
      · exact ih r e
  exact key y4 r hr
theorem DeskAt.upd_off {A : Cs} {H : Hp} {d l : Addr} {s : Sy65.St} {o : HO} (h : DeskAt A H d s (fun b => b ≠ l)) (hd : d ≠ l) : DeskAt A (upd H l o) d s (fun b => b ≠ l) := by
  obtain ⟨dx, sh, wl, h1, ⟨dy, nl, rl, rs, y1, y2, y3, y4, n1, n2, n3, n4⟩, h3, h4⟩ := h
  refine ⟨dx, sh, wl, by rw [upd_ne hd]; exact h1, ⟨dy, nl, rl, rs, by rw [upd_ne n1]; exact y1, by rw [upd_ne n2]; exact y2, by rw [upd_ne n3]; exact y3, paired_imp y4 fun r hr x ⟨dz, hz⟩ => ⟨dz, by rw [upd_ne (n4 r hr)]; exact hz⟩, n1, n2, n3, n4⟩, by rw [upd_ne h4]; exact h3, h4⟩

structure EvA (K : PySem.W.Frag) (mg : Str → Option Value) (A : Cs) extends EvD K mg A where
  aF : Addr
  gF : mg "FORMS" = some (.ref aF)
  forms : ∃ fs : List Addr, (∀ H, SqT K H aF (fs.map V.ref)) ∧ ∀ p, p < 12 → ∃ q, fs[p]? = some q ∧ ∀ H, SqT K H q [.int (manyP p : Nat), .int (rowsP p : Nat)]

/-- what the row asks of the calls -/
structure Asked (L : List Nat) (cs : List (List (List Int))) : Prop where
  parse : PyFlat.calls PySy65.shape L.length (Sy65.ints L) = some cs
  inside : cs.all (PyInside.call PySy65.bound) = true
  short : (PySy65.answers (Sy65.ints L)).length ≤ 10000000
  small : ∀ x ∈ L, x < 2 ^ 32
  len : L.length ≤ 6000
def spAnswers (K : PySem.W.Frag) : Sp := fun vs H Q _ => ∃ (a : Addr) (L : List Nat) (cs : List (List (List Int))), vs = [.ref a] ∧ SqL K H a (zs L) ∧ Asked L cs ∧
  ∀ H' p, H' p = some (.lst ((PySy65.answers (Sy65.ints L)).map V.int)) → Q (.ref p) H'
theorem rowOf_one {r rs t : List Nat} (h : rowOf 1 r = some (rs, t)) : ∃ m r', r = m :: r' ∧ m ≤ r'.length ∧ rs = r'.take m ∧ t = r'.drop m := by
  unfold rowOf at h
  rw [if_pos rfl] at h
  cases r with
  | nil => cases h
  | cons m r' =>
    dsimp only at h
    by_cases c : m ≤ r'.length
    · rw [if_pos c] at h
      cases h
      exact ⟨m, r', rfl, c, rfl, rfl⟩
    · rw [if_neg c] at h
      cases h
theorem rowOf_no {k : Nat} {r rs t : List Nat} (hk : k ≠ 1) (h : rowOf k r = some (rs, t)) : rs = [] ∧ t = r := by
  unfold rowOf at h
  rw [if_neg hk] at h
  cases h
  exact ⟨rfl, rfl⟩
def atN (σ : List (Option V)) : Nat := match σ[3]? with
  | some (some (V.int a)) => a.toNat
  | _ => 0
section
variable {P : Program} {w : World} {K : PySem.W.Frag} {mg : Str → Option Value} {base : Heap} {A : Cs}

theorem scAnswers : FnScope ["calls", "desk", "found", "at", "call", "many", "rows", "end", "n", "row", "made"] ["calls"] (defScope sAnswers) := ⟨rfl, rfl, rfl, by decide +kernel, rfl, by decide +kernel, by decide +kernel⟩
theorem ok_answers (T : EvA K mg A) : FnOk P w K mg base CX0 130 T.f_answers T.d_answers ["calls"] (spAnswers K) := by
  have GI : FnOk P w K mg base (L2.CX P w) 127 T.f_dkI T.d_dkI ["self"] (spDeskI A) := ok_deskI T.toEvD
  have GA : FnOk P w K mg base CX0 129 T.f_answer T.d_answer ["self", "call", "n", "row"] (spAnswer A) := ok_answer T.toEvD
  refine T.answers.fn.ok scAnswers (fun vs H Q E h => ?_) (fun cdv Ar outer s0 H vs Q E hr h => ?_)
  · obtain ⟨a, L, cs, rfl, _⟩ := h
    rfl
  obtain ⟨ca, L, cs0, rfl, hS, ak, q⟩ := h
  have hr128 : Room (127 + 1) _ := hr.mono (by decide)
  refine ⟨_, pss_cons (ps_set (i := 1) scAnswers.nd rfl (Or.inl rfl) (pe_make0 T.dkM GI hr128 rfl T.dkG T.dkB .nil passL))
    (pss_cons (ps_set (i := 2) scAnswers.nd rfl (Or.inl rfl) (pe_lst pa_nil))
    (pss_cons (ps_set (i := 3) scAnswers.nd rfl (Or.inl rfl) pe_int)
    (pss_cons (ps_while PassesOwn.never (pt_cmpR op_lt (pv 3) (pe_callB call_len_seq rfl T.z_len PySem.boot_len (pa_cons (pv 0) pa_nil)) (nomark _))
      (pss_cons (ps_set (i := 4) scAnswers.nd rfl (Or.inl rfl) (pe_ix ix_list (pv 0) (pv 3) (fun _ _ => rfl)))
      (pss_cons (ps_asg (pe_ix ix_tup (pe_glob (v := .ref T.aF) rfl T.gF rfl) (pv 4) (fun _ _ => rfl)) (pg_tup (by rfl) (pgs_cons (pg_name (i := 5) scAnswers.nd rfl (Or.inl rfl)) (pgs_cons (pg_name (i := 6) scAnswers.nd rfl (Or.inl rfl)) pgs_nil))))
      (pss_cons (ps_set (i := 7) scAnswers.nd rfl (Or.inl rfl) (pe_op op_add (pe_op op_add (pv 3) pe_int) (pv 5)))
      (pss_cons (ps_set (i := 8) scAnswers.nd rfl (Or.inl rfl) (pe_slice sl_list (pv 0) (po_some (pe_op op_add (pv 3) pe_int)) (po_some (pv 7))))
      (pss_cons (ps_set (i := 9) scAnswers.nd rfl (Or.inl rfl) (pe_lst pa_nil))
      (pss_cons (ps_if (pt_cmpR op_eq (pv 6) pe_int (nomark _))
        (pss_cons (ps_set (i := 9) scAnswers.nd rfl (Or.inl rfl) (pe_slice sl_list (pv 0) (po_some (pe_op op_add (pv 7) pe_int)) (po_some (pe_op op_add (pe_op op_add (pv 7) pe_int) (pe_ix ix_list (pv 0) (pv 7) (fun _ _ => rfl))))))
        (pss_one (ps_set (i := 7) scAnswers.nd rfl (Or.inl rfl) (pe_op op_add (pe_op op_add (pv 7) pe_int) (pe_ix ix_list (pv 0) (pv 7) (fun _ _ => rfl)))))) pss_nil)
      (pss_cons (ps_set (i := 10) scAnswers.nd rfl (Or.inl rfl) (pe_meth (pv 1) T.cls.cD T.answer.me GA hr T.answer.bd .nil pass0 (pa_cons (pv 4) (pa_cons (pv 8) (pa_cons (pv 9) pa_nil)))))
      (pss_cons (ps_expr (pe_bm PySem.F.plainAttrs_list PySem.F.slot_list_append PySem.F.type_list_append mt_append (pv 2) (pa_cons (pe_callB call_len_seq rfl T.z_len PySem.boot_len (pa_cons (pv 10) pa_nil)) pa_nil)))
      (pss_cons (ps_expr (pe_bm PySem.F.plainAttrs_list PySem.F.slot_list_extend PySem.F.type_list_extend mt_extend (pv 2) (pa_cons (pv 10) pa_nil)))
      (pss_one (ps_set (i := 3) scAnswers.nd rfl (Or.inl rfl) (pv 7)))))))))))))
    (pss_one (ps_ret (pv 2)))))), ?_⟩
  -- desk = Desk()
  intro d dx hd0 hdx0 hne
  refine ⟨d, dx, rfl, upd_same, fun H1 D1 f1 => ⟨rfl, ?_⟩⟩
  have s1 : Same H H1 := Same.made hd0 hdx0 f1
  -- found = []; at = 0
  refine ⟨(by show 0 ≤ sizeLine; decide), fun l hl => ?_⟩
  have fl : H l = none := s1.free hl
  have D2 := D1.off hl
  have dl : d ≠ l := by
    obtain ⟨_, _, _, z, _⟩ := D1
    exact ne_of_none z hl
  have hd : H d = none := hd0
  -- the loop
  refine while_by (fun σ H' => ∃ (a f : Nat) (s : Sy65.St) (out : List Int) (cs : List (List (List Int))) (v4 v5 v6 v7 v8 v9 v10 : Option V), σ = [some (.ref ca), some (.ref d), some (.ref l), some (.int a), v4, v5, v6, v7, v8, v9, v10] ∧ Same H H' ∧
      DeskAt A H' d s (fun b => b ≠ l) ∧ WfS s ∧ H' l = some (.lst (out.map V.int)) ∧ a ≤ L.length ∧ PyFlat.calls PySy65.shape f (Sy65.ints (L.drop a)) = some cs ∧ cs.all (PyInside.call PySy65.bound) = true ∧ PySy65.answers (Sy65.ints L) = out ++ rem s cs)
    (fun σ _ => L.length - atN σ) ?_ ?_ (fun σ H Q Q' m ⟨v, h1, u, h2, p, ys, h3, h4, i, j, h5, h6, k, h7, h8⟩ => ⟨v, h1, u, h2, p, ys, h3, h4, i, j, h5, h6, k, h7, m _ _ h8⟩)
  · refine ⟨0, L.length, Sy65.init, [], cs0, none, none, none, none, none, none, none, rfl, same_upd s1 fl, D2.upd_off dl, wf_init, upd_same, Nat.zero_le _, ?_, ak.inside, ?_⟩
    · rw [List.drop_zero]
      exact ak.parse
    · rw [List.nil_append]
      exact answers_rem (by rw [ints_length]; exact ak.parse)
  rintro σ H2 ⟨a, f, s, out, cs, v4, v5, v6, v7, v8, v9, v10, rfl, s2, D, ws, hf, ha, hp, hi, hA⟩
  have hS2 := s2.seq hS
  refine ⟨_, rfl, _, rfl, ca, _, rfl, .inl hS2, _, _, rfl, rfl, _, rfl, ?_⟩
  refine ite2 (fun c => ?_) (fun c => ?_)
  rotate_left
  · -- behind the loop
    have c1 : a = L.length := by
      have : ¬ (a : Int) < ((zs L).length : Int) := fun z => c (decide_eq_true z)
      rw [zs_len] at this
      omega
    rw [c1, List.drop_length] at hp
    have e : cs = [] := by
      cases f with
      | zero => exact (Option.some.inj hp).symm
      | succ f => exact (Option.some.inj hp).symm
    rw [e, rem_nil, List.append_nil] at hA
    refine ⟨_, rfl, q H2 l ?_⟩
    rw [hA]
    exact hf
  have c1 : a < L.length := by
    have := of_decide_eq_true c
    rw [zs_len] at this
    omega
  have hne : L.drop a ≠ [] := fun z => by
    have := congrArg List.length z
    rw [List.length_drop] at this
    simp at this
    omega
  obtain ⟨p, r, rs, t, cs', f', e1, p12, e2, e3, e4, e5⟩ := calls_at hne hp
  have hx : L[a]? = some p := by
    have := congrArg (fun z => z[0]?) e1
    rw [List.getElem?_drop] at this
    exact this
  have er : r = L.drop (a + 1) := by
    have := congrArg (List.drop 1) e1
    rw [List.drop_drop] at this
    exact this.symm
  have rlen : r.length = L.length - (a + 1) := by rw [er, List.length_drop]
  have psmall : ∀ x ∈ r, x < 2 ^ 32 := fun x hx => ak.small x (by rw [er] at hx; exact List.mem_of_mem_drop hx)
  -- call = calls[at]
  refine ⟨_, rfl, _, rfl, ca, _, _, _, rfl, rfl, hS2, atI_nat (zs_get hx), ?_⟩
  -- many, rows = FORMS[call]
  obtain ⟨fs, F1, F2⟩ := T.forms
  obtain ⟨fq, F3, F4⟩ := F2 p p12
  refine ⟨_, rfl, T.aF, _, _, V.ref fq, rfl, rfl, F1 _, atI_nat (by rw [List.getElem?_map, F3]; rfl), ?_⟩
  refine ⟨fq, _, rfl, F4 _, rfl, _, _, rfl, _, _, rfl, rfl, ?_⟩
  -- end = at + 1 + many
  refine ⟨_, rfl, _, _, rfl, rfl, _, rfl, _, _, rfl, rfl, ?_⟩
  have ee : ((a : Int) + 1 + (manyP p : Nat)) = ((a + 1 + manyP p : Nat) : Int) := by omega
  -- n = calls[at + 1:end]
  refine ⟨_, rfl, _, rfl, _, _, rfl, rfl, _, rfl, _, rfl, _, rfl, ca, _, rfl, hS2, fun ln hln => ?_⟩
  have en : cutV (zs L) (some ((a : Int) + 1)) (some ((a : Int) + 1 + (manyP p : Nat))) = zs (r.take (manyP p)) := by
    rw [ee, show ((a : Int) + 1) = ((a + 1 : Nat) : Int) from rfl, cutZ_both]
    unfold cut
    rw [er, show a + 1 + manyP p - (a + 1) = manyP p by omega]
  have s3 := same_new hln (.lst (cutV (zs L) (some ((a : Int) + 1)) (some ((a : Int) + 1 + (manyP p : Nat)))))
  have g3 : upd H2 ln (.lst (cutV (zs L) (some ((a : Int) + 1)) (some ((a : Int) + 1 + (manyP p : Nat))))) ln = some (.lst (zs (r.take (manyP p)))) := by rw [upd_same, en]
  generalize upd H2 ln (.lst (cutV (zs L) (some ((a : Int) + 1)) (some ((a : Int) + 1 + (manyP p : Nat))))) = H3 at *
  -- row = []
  refine ⟨(by show 0 ≤ sizeLine; decide), fun lr hlr => ?_⟩
  have s4 := s3.trans (same_new hlr (.lst ([] : List V)))
  have g4 := same_new hlr (.lst ([] : List V)) _ _ g3
  have h4 : upd H3 lr (.lst ([] : List V)) lr = some (.lst (zs [])) := upd_same
  generalize upd H3 lr (.lst ([] : List V)) = H4 at *
  have nl : (r.take (manyP p)).length = manyP p := by
    rw [List.length_take]
    omega
  have nsm : ∀ x ∈ r.take (manyP p), x < 2 ^ 32 := fun x hx => psmall x (List.mem_of_mem_take hx)
  rw [e4, List.all_cons, Bool.and_eq_true] at hi
  have s24 := s2.trans s4
  have D4 := D.same s4
  have f4 := s4 _ _ hf
  -- the rest of a turn: from the row's list at lr', in the heap H5; b the place behind the call
  have rest : ∀ (D0 : Ends) (lr' : Addr) (H5 : Hp) (b : Nat), Same H4 H5 → H5 lr' = some (.lst (zs rs)) → (rowsP p = 1 ∨ rs = []) → (∀ x ∈ rs, x < 2 ^ 32) → a + 1 ≤ b → b ≤ L.length → t = L.drop b →
      (∀ (H' : Hp) (s' : Sy65.St) (out' : List Int) (v10' : Option V), Same H H' → DeskAt A H' d s' (fun b => b ≠ l) → WfS s' → H' l = some (.lst (out'.map V.int)) → PySy65.answers (Sy65.ints L) = out' ++ rem s' cs' →
        D0.nx [some (.ref ca), some (.ref d), some (.ref l), some (.int b), some (.int p), some (.int (manyP p : Nat)), some (.int (rowsP p : Nat)), some (.int b), some (.ref ln), some (.ref lr'), v10'] H') →
      tSeq (tAsg (tMeth A.D "answer" (spAnswer A) [] E0 (tVar 1) (tCons (tVar 4) (tCons (tVar 8) (tCons (tVar 9) tNil)))) (gName 10))
        (tSeq (tDrop (tBM K "list" rAppend (tVar 2) (tCons (tCB (fun xs H Q => ∃ p ys, xs = [.ref p] ∧ (SqL K H p ys ∨ SqT K H p ys) ∧ Q (.int ys.length) H) (tCons (tVar 10) tNil)) tNil)))
        (tSeq (tDrop (tBM K "list" rExtend (tVar 2) (tCons (tVar 10) tNil))) (tAsg (tVar 7) (gName 3)))) D0
        [some (.ref ca), some (.ref d), some (.ref l), some (.int a), some (.int p), some (.int (manyP p : Nat)), some (.int (rowsP p : Nat)), some (.int b), some (.ref ln), some (.ref lr'), v10] H5 := by
    intro D0 lr' H5 b s5 e9 r60 rsm ab bL tb nx
    have rl60 := inside_row p12 hi.1 r60
    have D5 := D4.same s5
    obtain ⟨dx5, sh5, wl5, hd5, hd5'⟩ := D5
    have f5 := s5 _ _ f4
    refine ⟨_, rfl, d, dx5, _, rfl, hd5, dk_no _ _ (by decide +kernel) (by decide +kernel), _, rfl, _, rfl, _, rfl, d, ln, lr', s, (fun b => b ≠ l), p, r.take (manyP p), rs, rfl, p12, s5 _ _ g4, e9, nl, nsm, rl60, ⟨dx5, sh5, wl5, hd5, hd5'⟩, ws, fun H6 q6 D6 F6 e6 n6 => ?_⟩
    have f6 := F6 _ _ f5 dl.symm
    have ql : q6 ≠ l := fun z => by rw [z, f5] at n6; cases n6
    have co := callOf_at p (r.take (manyP p)) rs p12 nl nsm rsm rl60
    have hA2 := hA
    rw [e4, rem_cons co] at hA2
    have D6' : DeskAt A H6 d (Sy65.step s (callN p (r.take (manyP p)) rs)).1 (fun b => b ≠ l) := D6.mono fun b hb => by
      rcases hb with hb | hb
      · exact hb
      · exact fun z => by rw [z, f5] at hb; cases hb
    have ws6 := step_wf ws (callN p (r.take (manyP p)) rs)
    have S6 : Same H H6 := fun b o hb => F6 b o ((s24.trans s5) b o hb) (ne_of_none hb hd)
    unfold outV at e6
    generalize (Sy65.step s (callN p (r.take (manyP p)) rs)).1 = s' at *
    generalize Sy65Neutral.out (Sy65.step s (callN p (r.take (manyP p)) rs)).2 = o at *
    have hA3 : PySy65.answers (Sy65.ints L) = (out ++ ((o.length : Int) :: o)) ++ rem s' cs' := by
      rw [hA2]
      simp
    have bound : (out ++ ((o.length : Int) :: o)).length ≤ 10000000 := by
      have := ak.short
      rw [hA3, List.length_append] at this
      omega
    rw [List.length_append, List.length_cons] at bound
    refine ⟨_, rfl, .inl ⟨rfl, _, SqL.of f6⟩, _, rfl, q6, _, rfl, .inl (SqL.of e6), l, _, _, rfl, rfl, f6, small_line' (by rw [List.length_map]; omega), ?_⟩
    refine ⟨_, rfl, .inl ⟨rfl, _, SqL.of upd_same⟩, _, rfl, l, q6, _, _, rfl, rfl, upd_same, (by rw [upd_ne ql]; exact e6), small_line (by rw [List.length_append, List.length_map, List.length_map]; show _ + 1 + _ ≤ _; omega), ?_⟩
    refine ⟨_, rfl, ?_⟩
    refine nx _ s' (out ++ ((o.length : Int) :: o)) _ (same_upd (same_upd S6 fl) fl) ((D6'.upd_off dl).upd_off dl) ws6 ?_ hA3
    rw [upd_same, List.length_map]
    simp
  have fin : ∀ (b : Nat) (v9' v10' : Option V) (H' : Hp) (s' : Sy65.St) (out' : List Int), a + 1 ≤ b → b ≤ L.length → t = L.drop b → Same H H' → DeskAt A H' d s' (fun b => b ≠ l) → WfS s' → H' l = some (.lst (out'.map V.int)) → PySy65.answers (Sy65.ints L) = out' ++ rem s' cs' →
      (∃ (a f : Nat) (s : Sy65.St) (out : List Int) (cs : List (List (List Int))) (v4 v5 v6 v7 v8 v9 v10 : Option V), [some (.ref ca), some (.ref d), some (.ref l), some (.int b), some (.int p), some (.int (manyP p : Nat)), some (.int (rowsP p : Nat)), some (.int b), some (.ref ln), v9', v10'] = [some (.ref ca), some (.ref d), some (.ref l), some (.int a), v4, v5, v6, v7, v8, v9, v10] ∧ Same H H' ∧
        DeskAt A H' d s (fun b => b ≠ l) ∧ WfS s ∧ H' l = some (.lst (out.map V.int)) ∧ a ≤ L.length ∧ PyFlat.calls PySy65.shape f (Sy65.ints (L.drop a)) = some cs ∧ cs.all (PyInside.call PySy65.bound) = true ∧ PySy65.answers (Sy65.ints L) = out ++ rem s cs) ∧
      L.length - atN [some (.ref ca), some (.ref d), some (.ref l), some (.int b), some (.int p), some (.int (manyP p : Nat)), some (.int (rowsP p : Nat)), some (.int b), some (.ref ln), v9', v10'] < L.length - atN [some (.ref ca), some (.ref d), some (.ref l), some (.int a), v4, v5, v6, v7, v8, v9, v10] := by
    intro b v9' v10' H' s' out' ab bL tb h1 h2 h3 h4 h5
    refine ⟨⟨b, f', s', out', cs', _, _, _, _, _, _, _, rfl, h1, h2, h3, h4, bL, ?_, hi.2, h5⟩, ?_⟩
    · rw [← tb]
      exact e5
    · show L.length - ((b : Nat) : Int).toNat < L.length - ((a : Nat) : Int).toNat
      rw [Int.toNat_natCast, Int.toNat_natCast]
      omega
  -- if rows == 1: ..
  refine ⟨_, rfl, rfl, _, rfl, ?_⟩
  refine ite2 (fun c2 => ?_) (fun c2 => ?_)
  · have r1 : rowsP p = 1 := Int.ofNat.inj (V.int.inj (of_decide_eq_true c2))
    rw [r1] at e3
    obtain ⟨m, r', e6, e7, e8, e9⟩ := rowOf_one e3
    have er2 : r.drop (manyP p) = L.drop (a + 1 + manyP p) := by rw [er, List.drop_drop]
    rw [er2] at e6
    have hm : L[a + 1 + manyP p]? = some m := by
      have := congrArg (fun z => z[0]?) e6
      rw [List.getElem?_drop] at this
      exact this
    have er' : r' = L.drop (a + 1 + manyP p + 1) := by
      have := congrArg (List.drop 1) e6
      rw [List.drop_drop] at this
      exact this.symm
    have r'len : r'.length = L.length - (a + 1 + manyP p + 1) := by rw [er', List.length_drop]
    have hmlt : a + 1 + manyP p < L.length := (List.getElem?_eq_some_iff.mp hm).1
    have hS4 := s4.seq hS2
    refine ⟨_, rfl, _, rfl, _, _, rfl, rfl, _, rfl, _, rfl, _, _, rfl, rfl, _, rfl, _, rfl, ca, _, _, V.int (m : Nat), rfl, rfl, hS4, at_of ee (zs_get hm), _, _, rfl, rfl, _, rfl, ca, _, rfl, hS4, fun lr2 hlr2 => ?_⟩
    have eb1 : ((a : Int) + 1 + (manyP p : Nat) + 1) = ((a + 1 + manyP p + 1 : Nat) : Int) := by omega
    have eb2 : ((a : Int) + 1 + (manyP p : Nat) + 1 + (m : Nat)) = ((a + 1 + manyP p + 1 + m : Nat) : Int) := by omega
    have ec : cutV (zs L) (some ((a : Int) + 1 + (manyP p : Nat) + 1)) (some ((a : Int) + 1 + (manyP p : Nat) + 1 + (m : Nat))) = zs rs := by
      rw [eb2, eb1, cutZ_both, e8, er']
      unfold cut
      rw [show a + 1 + manyP p + 1 + m - (a + 1 + manyP p + 1) = m by omega]
    have s5 := same_new hlr2 (.lst (cutV (zs L) (some ((a : Int) + 1 + (manyP p : Nat) + 1)) (some ((a : Int) + 1 + (manyP p : Nat) + 1 + (m : Nat)))))
    have g5 : upd H4 lr2 (.lst (cutV (zs L) (some ((a : Int) + 1 + (manyP p : Nat) + 1)) (some ((a : Int) + 1 + (manyP p : Nat) + 1 + (m : Nat))))) lr2 = some (.lst (zs rs)) := by rw [upd_same, ec]
    generalize upd H4 lr2 (.lst (cutV (zs L) (some ((a : Int) + 1 + (manyP p : Nat) + 1)) (some ((a : Int) + 1 + (manyP p : Nat) + 1 + (m : Nat))))) = H5 at *
    refine ⟨_, rfl, _, _, rfl, rfl, _, rfl, _, rfl, ca, _, _, V.int (m : Nat), rfl, rfl, s5.seq hS4, at_of ee (zs_get hm), _, _, rfl, rfl, ?_⟩
    have tb : t = L.drop (a + 1 + manyP p + 1 + m) := by rw [e9, er', List.drop_drop]
    have rsm : ∀ x ∈ rs, x < 2 ^ 32 := fun x hx => ak.small x (by rw [e8, er'] at hx; exact List.mem_of_mem_drop (List.mem_of_mem_take hx))
    refine rest _ lr2 H5 (a + 1 + manyP p + 1 + m) s5 g5 (.inl r1) rsm (by omega) (by omega) tb ?_
    exact fun H' s' out' v10' h1 h2 h3 h4 h5 => fin (a + 1 + manyP p + 1 + m) (some (.ref lr2)) v10' H' s' out' (by omega) (by omega) tb h1 h2 h3 h4 h5
  · have r1 : rowsP p ≠ 1 := fun z => c2 (decide_eq_true (by rw [z]; rfl))
    obtain ⟨e6, e7⟩ := rowOf_no r1 e3
    have tb : t = L.drop (a + 1 + manyP p) := by rw [e7, er, List.drop_drop]
    refine rest _ lr H4 (a + 1 + manyP p) (Same.refl _) (by rw [e6]; exact h4) (.inr e6) (fun x hx => by rw [e6] at hx; cases hx) (by omega) (by omega) tb ?_
    exact fun H' s' out' v10' h1 h2 h3 h4 h5 => fin (a + 1 + manyP p) (some (.ref lr)) v10' H' s' out' (by omega) (by omega) tb h1 h2 h3 h4 h5
end
end Mob

set_option Elab.async false
set_option linter.all false
set_option maxRecDepth 100000
set_option maxHeartbeats 4000000
namespace Mob
open PySem PySem.Spec PyProof.Rows L2
/-- the request, as the walk wants it -/
theorem asked_of {l : List Int} (hlen : l.length ≤ 6000) (hin : l.all (PySem.W.Codec.inInt 0 4294967295) = true) (hask : PySy65.answers_asked l = true) : ∃ (L : List Nat), l = Sy65.ints L ∧ ∃ cs, Asked L cs := by
  have each : ∀ z ∈ l, 0 ≤ z ∧ z ≤ 4294967295 := fun z hz => PySem.W.Codec.inInt_iff.mp (List.all_eq_true.mp hin z hz)
  have e : l = Sy65.ints (l.map Int.toNat) := by
    have key : ∀ l : List Int, (∀ z ∈ l, 0 ≤ z) → l = Sy65.ints (l.map Int.toNat) := by
      intro l
      induction l with
      | nil => intro _; rfl
      | cons a l ih =>
        intro h
        have h1 := h a (List.mem_cons_self ..)
        have h2 := ih fun z hz => h z (List.mem_cons_of_mem _ hz)
        show a :: l = ((a.toNat : Nat) : Int) :: Sy65.ints (l.map Int.toNat)
        rw [← h2, Int.toNat_of_nonneg h1]
    exact key l fun z hz => (each z hz).1
  refine ⟨l.map Int.toNat, e, ?_⟩
  unfold PySy65.answers_asked at hask
  cases hp : PyFlat.calls PySy65.shape l.length l with
  | none => rw [hp] at hask; cases hask
  | some raw =>
    rw [hp] at hask
    dsimp only at hask
    rw [Bool.and_eq_true, Bool.and_eq_true, Bool.and_eq_true, Bool.and_eq_true] at hask
    obtain ⟨⟨⟨⟨h1, h2⟩, h3⟩, h4⟩, h5⟩ := hask
    refine ⟨raw, ?_, h3, ?_, fun x hx => ?_, ?_⟩
    · rw [← e, List.length_map]
      exact hp
    · rw [← e]
      exact of_decide_eq_true h5
    · obtain ⟨z, hz, rfl⟩ := List.mem_map.mp hx
      have := each z hz
      omega
    · rw [List.length_map]
      exact hlen
end Mob

set_option Elab.async false
set_option linter.all false
set_option maxRecDepth 100000
set_option maxHeartbeats 4000000
namespace Mob
open PySem PySem.Spec PyProof.Rows L2
/-- an error of the class at S is what «except S» names (turned from the worked proof 30_by_hand) -/
theorem exm_own {K : PySem.W.Frag} {S : Addr} (h1 : PySem.W.subIn K (.ref S) (.type "BaseException") = some true) (h2 : PySem.W.isClsIn K S = true) (h3 : PySem.W.typeIn K (.ref S) = some (.type "type")) (h4 : PySem.W.subIn K (.ref S) (.ref S) = some true) : PySem.W.exmOne K (.ref S) (.ref S) = some true := by
  have e1 : (PySem.W.subIn K (.ref S) (.type "BaseException") == some true) = true := by rw [h1] <;> rfl
  have e2 : ((PySem.W.clsIn K S).isSome && PySem.W.typeIn K (.ref S) == some (.type "type")) = true := by
    have h2' : (PySem.W.clsIn K S).isSome = true := h2
    rw [h2', h3] <;> rfl
  show (if (PySem.W.subIn K (.ref S) (.type "BaseException") == some true) = true then (if ((PySem.W.clsIn K S).isSome && PySem.W.typeIn K (.ref S) == some (.type "type")) = true then PySem.W.subIn K (.ref S) (.ref S) else none) else none) = some true
  rw [if_pos e1, if_pos e2]
  exact h4
theorem tup_of {K : PySem.W.Frag} {H : Hp} {a : Addr} {o : Obj} {its : Array Value} {n : Nat} {xs : List V} (h : K.lookup a = some o) (hc : o.cls = .type "tuple") (hd : o.data = .seq its n) (hz : its.size ≤ sizeLine) (hv : Vals xs its.toList) : SqT K H a xs := .inr ⟨o, its, n, h, hc, hd, hz, hv⟩
theorem all_mk {P : Program} {w : World} {K : PySem.W.Frag} {h : Heap} {mg : Str → Option Value} {fa : Addr} (X : K.In h) (G : h.Ns mainGlobals mg) (hfa : mg "answers" = some (.ref fa))
    {CR CS CRd CD CE : Addr}
    {f_div : Addr} {od_div an_div : Option Addr} {sl_div : Array (Option Value)} {oc_div kV_div dc_div pm_div cd_div ct_div : Value}
    {f_ends : Addr} {od_ends an_ends : Option Addr} {sl_ends : Array (Option Value)} {oc_ends kV_ends dc_ends pm_ends cd_ends ct_ends : Value}
    {f_pull : Addr} {od_pull an_pull : Option Addr} {sl_pull : Array (Option Value)} {oc_pull kV_pull dc_pull pm_pull cd_pull ct_pull : Value}
    {f_scaled : Addr} {od_scaled an_scaled : Option Addr} {sl_scaled : Array (Option Value)} {oc_scaled kV_scaled dc_scaled pm_scaled cd_scaled ct_scaled : Value}
    {f_lev : Addr} {od_lev an_lev : Option Addr} {sl_lev : Array (Option Value)} {oc_lev kV_lev dc_lev pm_lev cd_lev ct_lev : Value}
    {f_leastW : Addr} {od_leastW an_leastW : Option Addr} {sl_leastW : Array (Option Value)} {oc_leastW kV_leastW dc_leastW pm_leastW cd_leastW ct_leastW : Value}
    {f_timesAt : Addr} {od_timesAt an_timesAt : Option Addr} {sl_timesAt : Array (Option Value)} {oc_timesAt kV_timesAt dc_timesAt pm_timesAt cd_timesAt ct_timesAt : Value}
    {f_allT : Addr} {od_allT an_allT : Option Addr} {sl_allT : Array (Option Value)} {oc_allT kV_allT dc_allT pm_allT cd_allT ct_allT : Value}
    {f_comm : Addr} {od_comm an_comm : Option Addr} {sl_comm : Array (Option Value)} {oc_comm kV_comm dc_comm pm_comm cd_comm ct_comm : Value}
    {f_best : Addr} {od_best an_best : Option Addr} {sl_best : Array (Option Value)} {oc_best kV_best dc_best pm_best cd_best ct_best : Value}
    {f_armsW : Addr} {od_armsW an_armsW : Option Addr} {sl_armsW : Array (Option Value)} {oc_armsW kV_armsW dc_armsW pm_armsW cd_armsW ct_armsW : Value}
    {f_waysOf : Addr} {od_waysOf an_waysOf : Option Addr} {sl_waysOf : Array (Option Value)} {oc_waysOf kV_waysOf dc_waysOf pm_waysOf cd_waysOf ct_waysOf : Value}
    {f_want : Addr} {od_want an_want : Option Addr} {sl_want : Array (Option Value)} {oc_want kV_want dc_want pm_want cd_want ct_want : Value}
    {f_isArm : Addr} {od_isArm an_isArm : Option Addr} {sl_isArm : Array (Option Value)} {oc_isArm kV_isArm dc_isArm pm_isArm cd_isArm ct_isArm : Value}
    {f_rodR : Addr} {od_rodR an_rodR : Option Addr} {sl_rodR : Array (Option Value)} {oc_rodR kV_rodR dc_rodR pm_rodR cd_rodR ct_rodR : Value}
    {f_mobR : Addr} {od_mobR an_mobR : Option Addr} {sl_mobR : Array (Option Value)} {oc_mobR kV_mobR dc_mobR pm_mobR cd_mobR ct_mobR : Value}
    {f_shapeOf : Addr} {od_shapeOf an_shapeOf : Option Addr} {sl_shapeOf : Array (Option Value)} {oc_shapeOf kV_shapeOf dc_shapeOf pm_shapeOf cd_shapeOf ct_shapeOf : Value}
    {f_withA : Addr} {od_withA an_withA : Option Addr} {sl_withA : Array (Option Value)} {oc_withA kV_withA dc_withA pm_withA cd_withA ct_withA : Value}
    {f_listed : Addr} {od_listed an_listed : Option Addr} {sl_listed : Array (Option Value)} {oc_listed kV_listed dc_listed pm_listed cd_listed ct_listed : Value}
    {f_wantW : Addr} {od_wantW an_wantW : Option Addr} {sl_wantW : Array (Option Value)} {oc_wantW kV_wantW dc_wantW pm_wantW cd_wantW ct_wantW : Value}
    {f_answers : Addr} {od_answers an_answers : Option Addr} {sl_answers : Array (Option Value)} {oc_answers kV_answers dc_answers pm_answers cd_answers ct_answers : Value}
    {f_rodI : Addr} {od_rodI an_rodI : Option Addr} {sl_rodI : Array (Option Value)} {oc_rodI kV_rodI dc_rodI pm_rodI cd_rodI ct_rodI : Value}
    {f_shapeI : Addr} {od_shapeI an_shapeI : Option Addr} {sl_shapeI : Array (Option Value)} {oc_shapeI kV_shapeI dc_shapeI pm_shapeI cd_shapeI ct_shapeI : Value}
    {f_readI : Addr} {od_readI an_readI : Option Addr} {sl_readI : Array (Option Value)} {oc_readI kV_readI dc_readI pm_readI cd_readI ct_readI : Value}
    {f_dkI : Addr} {od_dkI an_dkI : Option Addr} {sl_dkI : Array (Option Value)} {oc_dkI kV_dkI dc_dkI pm_dkI cd_dkI ct_dkI : Value}
    {f_take : Addr} {od_take an_take : Option Addr} {sl_take : Array (Option Value)} {oc_take kV_take dc_take pm_take cd_take ct_take : Value}
    {f_begins : Addr} {od_begins an_begins : Option Addr} {sl_begins : Array (Option Value)} {oc_begins kV_begins dc_begins pm_begins cd_begins ct_begins : Value}
    {f_wantH : Addr} {od_wantH an_wantH : Option Addr} {sl_wantH : Array (Option Value)} {oc_wantH kV_wantH dc_wantH pm_wantH cd_wantH ct_wantH : Value}
    {f_hang : Addr} {od_hang an_hang : Option Addr} {sl_hang : Array (Option Value)} {oc_hang kV_hang dc_hang pm_hang cd_hang ct_hang : Value}
    {f_arms : Addr} {od_arms an_arms : Option Addr} {sl_arms : Array (Option Value)} {oc_arms kV_arms dc_arms pm_arms cd_arms ct_arms : Value}
    {f_pulls : Addr} {od_pulls an_pulls : Option Addr} {sl_pulls : Array (Option Value)} {oc_pulls kV_pulls dc_pulls pm_pulls cd_pulls ct_pulls : Value}
    {f_least : Addr} {od_least an_least : Option Addr} {sl_least : Array (Option Value)} {oc_least kV_least dc_least pm_least cd_least ct_least : Value}
    {f_scale : Addr} {od_scale an_scale : Option Addr} {sl_scale : Array (Option Value)} {oc_scale kV_scale dc_scale pm_scale cd_scale ct_scale : Value}
    {f_up : Addr} {od_up an_up : Option Addr} {sl_up : Array (Option Value)} {oc_up kV_up dc_up pm_up cd_up ct_up : Value}
    {f_mend : Addr} {od_mend an_mend : Option Addr} {sl_mend : Array (Option Value)} {oc_mend kV_mend dc_mend pm_mend cd_mend ct_mend : Value}
    {f_wants : Addr} {od_wants an_wants : Option Addr} {sl_wants : Array (Option Value)} {oc_wants kV_wants dc_wants pm_wants cd_wants ct_wants : Value}
    {f_ways : Addr} {od_ways an_ways : Option Addr} {sl_ways : Array (Option Value)} {oc_ways kV_ways dc_ways pm_ways cd_ways ct_ways : Value}
    {f_missing : Addr} {od_missing an_missing : Option Addr} {sl_missing : Array (Option Value)} {oc_missing kV_missing dc_missing pm_missing cd_missing ct_missing : Value}
    {f_state : Addr} {od_state an_state : Option Addr} {sl_state : Array (Option Value)} {oc_state kV_state dc_state pm_state cd_state ct_state : Value}
    {f_early : Addr} {od_early an_early : Option Addr} {sl_early : Array (Option Value)} {oc_early kV_early dc_early pm_early cd_early ct_early : Value}
    {f_late : Addr} {od_late an_late : Option Addr} {sl_late : Array (Option Value)} {oc_late kV_late dc_late pm_late cd_late ct_late : Value}
    {f_answer : Addr} {od_answer an_answer : Option Addr} {sl_answer : Array (Option Value)} {oc_answer kV_answer dc_answer pm_answer cd_answer ct_answer : Value}
    {eN eq : Str} {eNs : Addr} {ebs : List Value} {esn : List Str} {esub : List Value} {eab : Bool} {ecol : Option Bool} {edd : Option Addr} {em0 em1 em2 em3 em5 : Option Value}
    {f_refI : Addr} {od_refI an_refI : Option Addr} {sl_refI : Array (Option Value)} {oc_refI kV_refI dc_refI pm_refI cd_refI ct_refI : Value}
    {tk_BAD : Tok}
    {tk_NOT_THERE : Tok}
    {tk_LACKING : Tok}
    {tk_TOO_MANY : Tok}
    {tk_NONE_SUCH : Tok}
    {tk_HOOK : Tok}
    {tk_LONGEST_ARM : Tok}
    {tk_MOST_HOOKS : Tok}
    {tk_GREATEST_WEIGHT : Tok}
    {aF : Addr} {odF : Option Addr} {nF : Nat} {slF : Array (Option Value)} {q0 : Addr} {od_q0 : Option Addr} {t_q0 u_q0 : Tok} {n_q0 : Nat} {sl_q0 : Array (Option Value)} {q1 : Addr} {od_q1 : Option Addr} {t_q1 u_q1 : Tok} {n_q1 : Nat} {sl_q1 : Array (Option Value)} {q2 : Addr} {od_q2 : Option Addr} {t_q2 u_q2 : Tok} {n_q2 : Nat} {sl_q2 : Array (Option Value)} {q3 : Addr} {od_q3 : Option Addr} {t_q3 u_q3 : Tok} {n_q3 : Nat} {sl_q3 : Array (Option Value)} {q4 : Addr} {od_q4 : Option Addr} {t_q4 u_q4 : Tok} {n_q4 : Nat} {sl_q4 : Array (Option Value)} {q5 : Addr} {od_q5 : Option Addr} {t_q5 u_q5 : Tok} {n_q5 : Nat} {sl_q5 : Array (Option Value)} {q6 : Addr} {od_q6 : Option Addr} {t_q6 u_q6 : Tok} {n_q6 : Nat} {sl_q6 : Array (Option Value)} {q7 : Addr} {od_q7 : Option Addr} {t_q7 u_q7 : Tok} {n_q7 : Nat} {sl_q7 : Array (Option Value)} {q8 : Addr} {od_q8 : Option Addr} {t_q8 u_q8 : Tok} {n_q8 : Nat} {sl_q8 : Array (Option Value)} {q9 : Addr} {od_q9 : Option Addr} {t_q9 u_q9 : Tok} {n_q9 : Nat} {sl_q9 : Array (Option Value)} {q10 : Addr} {od_q10 : Option Addr} {t_q10 u_q10 : Tok} {n_q10 : Nat} {sl_q10 : Array (Option Value)} {q11 : Addr} {od_q11 : Option Addr} {t_q11 u_q11 : Tok} {n_q11 : Nat} {sl_q11 : Array (Option Value)}
    (g_CR : PySem.W.nsIn K mainGlobals "Rod" = some (some (.ref CR)))
    (g_CS : PySem.W.nsIn K mainGlobals "Shape" = some (some (.ref CS)))
    (g_CRd : PySem.W.nsIn K mainGlobals "Reader" = some (some (.ref CRd)))
    (g_CD : PySem.W.nsIn K mainGlobals "Desk" = some (some (.ref CD)))
    (g_CE : PySem.W.nsIn K mainGlobals "Refused" = some (some (.ref CE)))
    (pg_R : PySem.W.plainGet K CR Str.empty = true)
    (hd_R : PySem.W.hasDictIn K CR = true)
    (po_R : PySem.W.plainOver K CR = true)
    (sa_R : PySem.W.findIn K (.ref CR) "__setattr__" = some (some (.builtin "object.__setattr__")))
    (mk_R : PySem.W.makesIn K CR = true)
    (kc_R : PySem.W.keepIn K (.ref CR) = true)
    (n_R_spot : PySem.W.findIn K (.ref CR) "spot" = some none)
    (n_R_left : PySem.W.findIn K (.ref CR) "left" = some none)
    (n_R_right : PySem.W.findIn K (.ref CR) "right" = some none)
    (n_R_first : PySem.W.findIn K (.ref CR) "first" = some none)
    (n_R_middle : PySem.W.findIn K (.ref CR) "middle" = some none)
    (n_R_last : PySem.W.findIn K (.ref CR) "last" = some none)
    (pg_S : PySem.W.plainGet K CS Str.empty = true)
    (hd_S : PySem.W.hasDictIn K CS = true)
    (po_S : PySem.W.plainOver K CS = true)
    (sa_S : PySem.W.findIn K (.ref CS) "__setattr__" = some (some (.builtin "object.__setattr__")))
    (mk_S : PySem.W.makesIn K CS = true)
    (kc_S : PySem.W.keepIn K (.ref CS) = true)
    (n_S_numbers : PySem.W.findIn K (.ref CS) "numbers" = some none)
    (n_S_rods : PySem.W.findIn K (.ref CS) "rods" = some none)
    (n_S_hooks : PySem.W.findIn K (.ref CS) "hooks" = some none)
    (pg_Rd : PySem.W.plainGet K CRd Str.empty = true)
    (hd_Rd : PySem.W.hasDictIn K CRd = true)
    (po_Rd : PySem.W.plainOver K CRd = true)
    (sa_Rd : PySem.W.findIn K (.ref CRd) "__setattr__" = some (some (.builtin "object.__setattr__")))
    (mk_Rd : PySem.W.makesIn K CRd = true)
    (kc_Rd : PySem.W.keepIn K (.ref CRd) = true)
    (n_Rd_numbers : PySem.W.findIn K (.ref CRd) "numbers" = some none)
    (n_Rd_spot : PySem.W.findIn K (.ref CRd) "spot" = some none)
    (n_Rd_rods : PySem.W.findIn K (.ref CRd) "rods" = some none)
    (n_Rd_hooks : PySem.W.findIn K (.ref CRd) "hooks" = some none)
    (pg_D : PySem.W.plainGet K CD Str.empty = true)
    (hd_D : PySem.W.hasDictIn K CD = true)
    (po_D : PySem.W.plainOver K CD = true)
    (sa_D : PySem.W.findIn K (.ref CD) "__setattr__" = some (some (.builtin "object.__setattr__")))
    (mk_D : PySem.W.makesIn K CD = true)
    (kc_D : PySem.W.keepIn K (.ref CD) = true)
    (n_D_shape : PySem.W.findIn K (.ref CD) "shape" = some none)
    (n_D_weights : PySem.W.findIn K (.ref CD) "weights" = some none)
    (a_div : PySem.W.nsIn K mainGlobals "divisor" = some (some (.ref f_div)))
    (l_div : K.lookup f_div = some ⟨oc_div, od_div, .func (PySem.W.fnOf "divisor" "divisor" (defArgs sDiv) (defBody sDiv) (defScope sDiv) .none kV_div dc_div pm_div an_div cd_div ct_div), sl_div⟩)
    (c_div : PySem.W.codeIn K cd_div "divisor" = true)
    (k_div : PySem.W.keepIn K (.ref f_div) = true)
    (a_ends : PySem.W.nsIn K mainGlobals "ends_of" = some (some (.ref f_ends)))
    (l_ends : K.lookup f_ends = some ⟨oc_ends, od_ends, .func (PySem.W.fnOf "ends_of" "ends_of" (defArgs sEnds) (defBody sEnds) (defScope sEnds) .none kV_ends dc_ends pm_ends an_ends cd_ends ct_ends), sl_ends⟩)
    (c_ends : PySem.W.codeIn K cd_ends "ends_of" = true)
    (k_ends : PySem.W.keepIn K (.ref f_ends) = true)
    (a_pull : PySem.W.nsIn K mainGlobals "pull_of" = some (some (.ref f_pull)))
    (l_pull : K.lookup f_pull = some ⟨oc_pull, od_pull, .func (PySem.W.fnOf "pull_of" "pull_of" (defArgs sPull) (defBody sPull) (defScope sPull) .none kV_pull dc_pull pm_pull an_pull cd_pull ct_pull), sl_pull⟩)
    (c_pull : PySem.W.codeIn K cd_pull "pull_of" = true)
    (k_pull : PySem.W.keepIn K (.ref f_pull) = true)
    (a_scaled : PySem.W.nsIn K mainGlobals "scaled" = some (some (.ref f_scaled)))
    (l_scaled : K.lookup f_scaled = some ⟨oc_scaled, od_scaled, .func (PySem.W.fnOf "scaled" "scaled" (defArgs sScaled) (defBody sScaled) (defScope sScaled) .none kV_scaled dc_scaled pm_scaled an_scaled cd_scaled ct_scaled), sl_scaled⟩)
    (c_scaled : PySem.W.codeIn K cd_scaled "scaled" = true)
    (k_scaled : PySem.W.keepIn K (.ref f_scaled) = true)
    (a_lev : PySem.W.nsIn K mainGlobals "levelled" = some (some (.ref f_lev)))
    (l_lev : K.lookup f_lev = some ⟨oc_lev, od_lev, .func (PySem.W.fnOf "levelled" "levelled" (defArgs sLev) (defBody sLev) (defScope sLev) .none kV_lev dc_lev pm_lev an_lev cd_lev ct_lev), sl_lev⟩)
    (c_lev : PySem.W.codeIn K cd_lev "levelled" = true)
    (k_lev : PySem.W.keepIn K (.ref f_lev) = true)
    (a_leastW : PySem.W.nsIn K mainGlobals "least_weights" = some (some (.ref f_leastW)))
    (l_leastW : K.lookup f_leastW = some ⟨oc_leastW, od_leastW, .func (PySem.W.fnOf "least_weights" "least_weights" (defArgs sLeastW) (defBody sLeastW) (defScope sLeastW) .none kV_leastW dc_leastW pm_leastW an_leastW cd_leastW ct_leastW), sl_leastW⟩)
    (c_leastW : PySem.W.codeIn K cd_leastW "least_weights" = true)
    (k_leastW : PySem.W.keepIn K (.ref f_leastW) = true)
    (a_timesAt : PySem.W.nsIn K mainGlobals "times_at" = some (some (.ref f_timesAt)))
    (l_timesAt : K.lookup f_timesAt = some ⟨oc_timesAt, od_timesAt, .func (PySem.W.fnOf "times_at" "times_at" (defArgs sTimesAt) (defBody sTimesAt) (defScope sTimesAt) .none kV_timesAt dc_timesAt pm_timesAt an_timesAt cd_timesAt ct_timesAt), sl_timesAt⟩)
    (c_timesAt : PySem.W.codeIn K cd_timesAt "times_at" = true)
    (k_timesAt : PySem.W.keepIn K (.ref f_timesAt) = true)
    (a_allT : PySem.W.nsIn K mainGlobals "all_times" = some (some (.ref f_allT)))
    (l_allT : K.lookup f_allT = some ⟨oc_allT, od_allT, .func (PySem.W.fnOf "all_times" "all_times" (defArgs sAllT) (defBody sAllT) (defScope sAllT) .none kV_allT dc_allT pm_allT an_allT cd_allT ct_allT), sl_allT⟩)
    (c_allT : PySem.W.codeIn K cd_allT "all_times" = true)
    (k_allT : PySem.W.keepIn K (.ref f_allT) = true)
    (a_comm : PySem.W.nsIn K mainGlobals "common_times" = some (some (.ref f_comm)))
    (l_comm : K.lookup f_comm = some ⟨oc_comm, od_comm, .func (PySem.W.fnOf "common_times" "common_times" (defArgs sComm) (defBody sComm) (defScope sComm) .none kV_comm dc_comm pm_comm an_comm cd_comm ct_comm), sl_comm⟩)
    (c_comm : PySem.W.codeIn K cd_comm "common_times" = true)
    (k_comm : PySem.W.keepIn K (.ref f_comm) = true)
    (a_best : PySem.W.nsIn K mainGlobals "best_times" = some (some (.ref f_best)))
    (l_best : K.lookup f_best = some ⟨oc_best, od_best, .func (PySem.W.fnOf "best_times" "best_times" (defArgs sBest) (defBody sBest) (defScope sBest) .none kV_best dc_best pm_best an_best cd_best ct_best), sl_best⟩)
    (c_best : PySem.W.codeIn K cd_best "best_times" = true)
    (k_best : PySem.W.keepIn K (.ref f_best) = true)
    (a_armsW : PySem.W.nsIn K mainGlobals "arms_wanted" = some (some (.ref f_armsW)))
    (l_armsW : K.lookup f_armsW = some ⟨oc_armsW, od_armsW, .func (PySem.W.fnOf "arms_wanted" "arms_wanted" (defArgs sArmsW) (defBody sArmsW) (defScope sArmsW) .none kV_armsW dc_armsW pm_armsW an_armsW cd_armsW ct_armsW), sl_armsW⟩)
    (c_armsW : PySem.W.codeIn K cd_armsW "arms_wanted" = true)
    (k_armsW : PySem.W.keepIn K (.ref f_armsW) = true)
    (a_waysOf : PySem.W.nsIn K mainGlobals "ways_of" = some (some (.ref f_waysOf)))
    (l_waysOf : K.lookup f_waysOf = some ⟨oc_waysOf, od_waysOf, .func (PySem.W.fnOf "ways_of" "ways_of" (defArgs sWaysOf) (defBody sWaysOf) (defScope sWaysOf) .none kV_waysOf dc_waysOf pm_waysOf an_waysOf cd_waysOf ct_waysOf), sl_waysOf⟩)
    (c_waysOf : PySem.W.codeIn K cd_waysOf "ways_of" = true)
    (k_waysOf : PySem.W.keepIn K (.ref f_waysOf) = true)
    (a_want : PySem.W.nsIn K mainGlobals "want" = some (some (.ref f_want)))
    (l_want : K.lookup f_want = some ⟨oc_want, od_want, .func (PySem.W.fnOf "want" "want" (defArgs sWant) (defBody sWant) (defScope sWant) .none kV_want dc_want pm_want an_want cd_want ct_want), sl_want⟩)
    (c_want : PySem.W.codeIn K cd_want "want" = true)
    (k_want : PySem.W.keepIn K (.ref f_want) = true)
    (a_isArm : PySem.W.nsIn K mainGlobals "is_arm" = some (some (.ref f_isArm)))
    (l_isArm : K.lookup f_isArm = some ⟨oc_isArm, od_isArm, .func (PySem.W.fnOf "is_arm" "is_arm" (defArgs sIsArm) (defBody sIsArm) (defScope sIsArm) .none kV_isArm dc_isArm pm_isArm an_isArm cd_isArm ct_isArm), sl_isArm⟩)
    (c_isArm : PySem.W.codeIn K cd_isArm "is_arm" = true)
    (k_isArm : PySem.W.keepIn K (.ref f_isArm) = true)
    (a_rodR : PySem.W.nsIn K mainGlobals "rod_read" = some (some (.ref f_rodR)))
    (l_rodR : K.lookup f_rodR = some ⟨oc_rodR, od_rodR, .func (PySem.W.fnOf "rod_read" "rod_read" (defArgs sRodR) (defBody sRodR) (defScope sRodR) .none kV_rodR dc_rodR pm_rodR an_rodR cd_rodR ct_rodR), sl_rodR⟩)
    (c_rodR : PySem.W.codeIn K cd_rodR "rod_read" = true)
    (k_rodR : PySem.W.keepIn K (.ref f_rodR) = true)
    (a_mobR : PySem.W.nsIn K mainGlobals "mobile_read" = some (some (.ref f_mobR)))
    (l_mobR : K.lookup f_mobR = some ⟨oc_mobR, od_mobR, .func (PySem.W.fnOf "mobile_read" "mobile_read" (defArgs sMobR) (defBody sMobR) (defScope sMobR) .none kV_mobR dc_mobR pm_mobR an_mobR cd_mobR ct_mobR), sl_mobR⟩)
    (c_mobR : PySem.W.codeIn K cd_mobR "mobile_read" = true)
    (k_mobR : PySem.W.keepIn K (.ref f_mobR) = true)
    (a_shapeOf : PySem.W.nsIn K mainGlobals "shape_of" = some (some (.ref f_shapeOf)))
    (l_shapeOf : K.lookup f_shapeOf = some ⟨oc_shapeOf, od_shapeOf, .func (PySem.W.fnOf "shape_of" "shape_of" (defArgs sShapeOf) (defBody sShapeOf) (defScope sShapeOf) .none kV_shapeOf dc_shapeOf pm_shapeOf an_shapeOf cd_shapeOf ct_shapeOf), sl_shapeOf⟩)
    (c_shapeOf : PySem.W.codeIn K cd_shapeOf "shape_of" = true)
    (k_shapeOf : PySem.W.keepIn K (.ref f_shapeOf) = true)
    (a_withA : PySem.W.nsIn K mainGlobals "with_arms" = some (some (.ref f_withA)))
    (l_withA : K.lookup f_withA = some ⟨oc_withA, od_withA, .func (PySem.W.fnOf "with_arms" "with_arms" (defArgs sWithA) (defBody sWithA) (defScope sWithA) .none kV_withA dc_withA pm_withA an_withA cd_withA ct_withA), sl_withA⟩)
    (c_withA : PySem.W.codeIn K cd_withA "with_arms" = true)
    (k_withA : PySem.W.keepIn K (.ref f_withA) = true)
    (a_listed : PySem.W.nsIn K mainGlobals "listed" = some (some (.ref f_listed)))
    (l_listed : K.lookup f_listed = some ⟨oc_listed, od_listed, .func (PySem.W.fnOf "listed" "listed" (defArgs sListed) (defBody sListed) (defScope sListed) .none kV_listed dc_listed pm_listed an_listed cd_listed ct_listed), sl_listed⟩)
    (c_listed : PySem.W.codeIn K cd_listed "listed" = true)
    (k_listed : PySem.W.keepIn K (.ref f_listed) = true)
    (a_wantW : PySem.W.nsIn K mainGlobals "want_weights" = some (some (.ref f_wantW)))
    (l_wantW : K.lookup f_wantW = some ⟨oc_wantW, od_wantW, .func (PySem.W.fnOf "want_weights" "want_weights" (defArgs sWantW) (defBody sWantW) (defScope sWantW) .none kV_wantW dc_wantW pm_wantW an_wantW cd_wantW ct_wantW), sl_wantW⟩)
    (c_wantW : PySem.W.codeIn K cd_wantW "want_weights" = true)
    (k_wantW : PySem.W.keepIn K (.ref f_wantW) = true)
    (a_answers : PySem.W.nsIn K mainGlobals "answers" = some (some (.ref f_answers)))
    (l_answers : K.lookup f_answers = some ⟨oc_answers, od_answers, .func (PySem.W.fnOf "answers" "answers" (defArgs sAnswers) (defBody sAnswers) (defScope sAnswers) .none kV_answers dc_answers pm_answers an_answers cd_answers ct_answers), sl_answers⟩)
    (c_answers : PySem.W.codeIn K cd_answers "answers" = true)
    (k_answers : PySem.W.keepIn K (.ref f_answers) = true)
    (a_rodI : PySem.W.findIn K (.ref CR) "__init__" = some (some (.ref f_rodI)))
    (i_rodI : PySem.W.isFn K (.ref f_rodI) = true)
    (l_rodI : K.lookup f_rodI = some ⟨oc_rodI, od_rodI, .func (PySem.W.fnOf "__init__" "Rod.__init__" (defArgs sRodI) (defBody sRodI) (defScope sRodI) .none kV_rodI dc_rodI pm_rodI an_rodI cd_rodI ct_rodI), sl_rodI⟩)
    (c_rodI : PySem.W.codeIn K cd_rodI "Rod.__init__" = true)
    (k_rodI : PySem.W.keepIn K (.ref f_rodI) = true)
    (a_shapeI : PySem.W.findIn K (.ref CS) "__init__" = some (some (.ref f_shapeI)))
    (i_shapeI : PySem.W.isFn K (.ref f_shapeI) = true)
    (l_shapeI : K.lookup f_shapeI = some ⟨oc_shapeI, od_shapeI, .func (PySem.W.fnOf "__init__" "Shape.__init__" (defArgs sShapeI) (defBody sShapeI) (defScope sShapeI) .none kV_shapeI dc_shapeI pm_shapeI an_shapeI cd_shapeI ct_shapeI), sl_shapeI⟩)
    (c_shapeI : PySem.W.codeIn K cd_shapeI "Shape.__init__" = true)
    (k_shapeI : PySem.W.keepIn K (.ref f_shapeI) = true)
    (a_readI : PySem.W.findIn K (.ref CRd) "__init__" = some (some (.ref f_readI)))
    (i_readI : PySem.W.isFn K (.ref f_readI) = true)
    (l_readI : K.lookup f_readI = some ⟨oc_readI, od_readI, .func (PySem.W.fnOf "__init__" "Reader.__init__" (defArgs sReadI) (defBody sReadI) (defScope sReadI) .none kV_readI dc_readI pm_readI an_readI cd_readI ct_readI), sl_readI⟩)
    (c_readI : PySem.W.codeIn K cd_readI "Reader.__init__" = true)
    (k_readI : PySem.W.keepIn K (.ref f_readI) = true)
    (a_dkI : PySem.W.findIn K (.ref CD) "__init__" = some (some (.ref f_dkI)))
    (i_dkI : PySem.W.isFn K (.ref f_dkI) = true)
    (l_dkI : K.lookup f_dkI = some ⟨oc_dkI, od_dkI, .func (PySem.W.fnOf "__init__" "Desk.__init__" (defArgs (sD 0)) (defBody (sD 0)) (defScope (sD 0)) .none kV_dkI dc_dkI pm_dkI an_dkI cd_dkI ct_dkI), sl_dkI⟩)
    (c_dkI : PySem.W.codeIn K cd_dkI "Desk.__init__" = true)
    (k_dkI : PySem.W.keepIn K (.ref f_dkI) = true)
    (a_take : PySem.W.findIn K (.ref CRd) "take" = some (some (.ref f_take)))
    (i_take : PySem.W.isFn K (.ref f_take) = true)
    (l_take : K.lookup f_take = some ⟨oc_take, od_take, .func (PySem.W.fnOf "take" "Reader.take" (defArgs sTake) (defBody sTake) (defScope sTake) .none kV_take dc_take pm_take an_take cd_take ct_take), sl_take⟩)
    (c_take : PySem.W.codeIn K cd_take "Reader.take" = true)
    (k_take : PySem.W.keepIn K (.ref f_take) = true)
    (a_begins : PySem.W.findIn K (.ref CD) "begins" = some (some (.ref f_begins)))
    (i_begins : PySem.W.isFn K (.ref f_begins) = true)
    (l_begins : K.lookup f_begins = some ⟨oc_begins, od_begins, .func (PySem.W.fnOf "begins" "Desk.begins" (defArgs (sD 1)) (defBody (sD 1)) (defScope (sD 1)) .none kV_begins dc_begins pm_begins an_begins cd_begins ct_begins), sl_begins⟩)
    (c_begins : PySem.W.codeIn K cd_begins "Desk.begins" = true)
    (k_begins : PySem.W.keepIn K (.ref f_begins) = true)
    (a_wantH : PySem.W.findIn K (.ref CD) "want_hook" = some (some (.ref f_wantH)))
    (i_wantH : PySem.W.isFn K (.ref f_wantH) = true)
    (l_wantH : K.lookup f_wantH = some ⟨oc_wantH, od_wantH, .func (PySem.W.fnOf "want_hook" "Desk.want_hook" (defArgs (sD 2)) (defBody (sD 2)) (defScope (sD 2)) .none kV_wantH dc_wantH pm_wantH an_wantH cd_wantH ct_wantH), sl_wantH⟩)
    (c_wantH : PySem.W.codeIn K cd_wantH "Desk.want_hook" = true)
    (k_wantH : PySem.W.keepIn K (.ref f_wantH) = true)
    (a_hang : PySem.W.findIn K (.ref CD) "hang" = some (some (.ref f_hang)))
    (i_hang : PySem.W.isFn K (.ref f_hang) = true)
    (l_hang : K.lookup f_hang = some ⟨oc_hang, od_hang, .func (PySem.W.fnOf "hang" "Desk.hang" (defArgs (sD 3)) (defBody (sD 3)) (defScope (sD 3)) .none kV_hang dc_hang pm_hang an_hang cd_hang ct_hang), sl_hang⟩)
    (c_hang : PySem.W.codeIn K cd_hang "Desk.hang" = true)
    (k_hang : PySem.W.keepIn K (.ref f_hang) = true)
    (a_arms : PySem.W.findIn K (.ref CD) "arms" = some (some (.ref f_arms)))
    (i_arms : PySem.W.isFn K (.ref f_arms) = true)
    (l_arms : K.lookup f_arms = some ⟨oc_arms, od_arms, .func (PySem.W.fnOf "arms" "Desk.arms" (defArgs (sD 4)) (defBody (sD 4)) (defScope (sD 4)) .none kV_arms dc_arms pm_arms an_arms cd_arms ct_arms), sl_arms⟩)
    (c_arms : PySem.W.codeIn K cd_arms "Desk.arms" = true)
    (k_arms : PySem.W.keepIn K (.ref f_arms) = true)
    (a_pulls : PySem.W.findIn K (.ref CD) "pulls" = some (some (.ref f_pulls)))
    (i_pulls : PySem.W.isFn K (.ref f_pulls) = true)
    (l_pulls : K.lookup f_pulls = some ⟨oc_pulls, od_pulls, .func (PySem.W.fnOf "pulls" "Desk.pulls" (defArgs (sD 5)) (defBody (sD 5)) (defScope (sD 5)) .none kV_pulls dc_pulls pm_pulls an_pulls cd_pulls ct_pulls), sl_pulls⟩)
    (c_pulls : PySem.W.codeIn K cd_pulls "Desk.pulls" = true)
    (k_pulls : PySem.W.keepIn K (.ref f_pulls) = true)
    (a_least : PySem.W.findIn K (.ref CD) "least" = some (some (.ref f_least)))
    (i_least : PySem.W.isFn K (.ref f_least) = true)
    (l_least : K.lookup f_least = some ⟨oc_least, od_least, .func (PySem.W.fnOf "least" "Desk.least" (defArgs (sD 6)) (defBody (sD 6)) (defScope (sD 6)) .none kV_least dc_least pm_least an_least cd_least ct_least), sl_least⟩)
    (c_least : PySem.W.codeIn K cd_least "Desk.least" = true)
    (k_least : PySem.W.keepIn K (.ref f_least) = true)
    (a_scale : PySem.W.findIn K (.ref CD) "scale" = some (some (.ref f_scale)))
    (i_scale : PySem.W.isFn K (.ref f_scale) = true)
    (l_scale : K.lookup f_scale = some ⟨oc_scale, od_scale, .func (PySem.W.fnOf "scale" "Desk.scale" (defArgs (sD 7)) (defBody (sD 7)) (defScope (sD 7)) .none kV_scale dc_scale pm_scale an_scale cd_scale ct_scale), sl_scale⟩)
    (c_scale : PySem.W.codeIn K cd_scale "Desk.scale" = true)
    (k_scale : PySem.W.keepIn K (.ref f_scale) = true)
    (a_up : PySem.W.findIn K (.ref CD) "up" = some (some (.ref f_up)))
    (i_up : PySem.W.isFn K (.ref f_up) = true)
    (l_up : K.lookup f_up = some ⟨oc_up, od_up, .func (PySem.W.fnOf "up" "Desk.up" (defArgs (sD 8)) (defBody (sD 8)) (defScope (sD 8)) .none kV_up dc_up pm_up an_up cd_up ct_up), sl_up⟩)
    (c_up : PySem.W.codeIn K cd_up "Desk.up" = true)
    (k_up : PySem.W.keepIn K (.ref f_up) = true)
    (a_mend : PySem.W.findIn K (.ref CD) "mend" = some (some (.ref f_mend)))
    (i_mend : PySem.W.isFn K (.ref f_mend) = true)
    (l_mend : K.lookup f_mend = some ⟨oc_mend, od_mend, .func (PySem.W.fnOf "mend" "Desk.mend" (defArgs (sD 9)) (defBody (sD 9)) (defScope (sD 9)) .none kV_mend dc_mend pm_mend an_mend cd_mend ct_mend), sl_mend⟩)
    (c_mend : PySem.W.codeIn K cd_mend "Desk.mend" = true)
    (k_mend : PySem.W.keepIn K (.ref f_mend) = true)
    (a_wants : PySem.W.findIn K (.ref CD) "wants" = some (some (.ref f_wants)))
    (i_wants : PySem.W.isFn K (.ref f_wants) = true)
    (l_wants : K.lookup f_wants = some ⟨oc_wants, od_wants, .func (PySem.W.fnOf "wants" "Desk.wants" (defArgs (sD 10)) (defBody (sD 10)) (defScope (sD 10)) .none kV_wants dc_wants pm_wants an_wants cd_wants ct_wants), sl_wants⟩)
    (c_wants : PySem.W.codeIn K cd_wants "Desk.wants" = true)
    (k_wants : PySem.W.keepIn K (.ref f_wants) = true)
    (a_ways : PySem.W.findIn K (.ref CD) "ways" = some (some (.ref f_ways)))
    (i_ways : PySem.W.isFn K (.ref f_ways) = true)
    (l_ways : K.lookup f_ways = some ⟨oc_ways, od_ways, .func (PySem.W.fnOf "ways" "Desk.ways" (defArgs (sD 11)) (defBody (sD 11)) (defScope (sD 11)) .none kV_ways dc_ways pm_ways an_ways cd_ways ct_ways), sl_ways⟩)
    (c_ways : PySem.W.codeIn K cd_ways "Desk.ways" = true)
    (k_ways : PySem.W.keepIn K (.ref f_ways) = true)
    (a_missing : PySem.W.findIn K (.ref CD) "missing" = some (some (.ref f_missing)))
    (i_missing : PySem.W.isFn K (.ref f_missing) = true)
    (l_missing : K.lookup f_missing = some ⟨oc_missing, od_missing, .func (PySem.W.fnOf "missing" "Desk.missing" (defArgs (sD 12)) (defBody (sD 12)) (defScope (sD 12)) .none kV_missing dc_missing pm_missing an_missing cd_missing ct_missing), sl_missing⟩)
    (c_missing : PySem.W.codeIn K cd_missing "Desk.missing" = true)
    (k_missing : PySem.W.keepIn K (.ref f_missing) = true)
    (a_state : PySem.W.findIn K (.ref CD) "state" = some (some (.ref f_state)))
    (i_state : PySem.W.isFn K (.ref f_state) = true)
    (l_state : K.lookup f_state = some ⟨oc_state, od_state, .func (PySem.W.fnOf "state" "Desk.state" (defArgs (sD 13)) (defBody (sD 13)) (defScope (sD 13)) .none kV_state dc_state pm_state an_state cd_state ct_state), sl_state⟩)
    (c_state : PySem.W.codeIn K cd_state "Desk.state" = true)
    (k_state : PySem.W.keepIn K (.ref f_state) = true)
    (a_early : PySem.W.findIn K (.ref CD) "early" = some (some (.ref f_early)))
    (i_early : PySem.W.isFn K (.ref f_early) = true)
    (l_early : K.lookup f_early = some ⟨oc_early, od_early, .func (PySem.W.fnOf "early" "Desk.early" (defArgs (sD 14)) (defBody (sD 14)) (defScope (sD 14)) .none kV_early dc_early pm_early an_early cd_early ct_early), sl_early⟩)
    (c_early : PySem.W.codeIn K cd_early "Desk.early" = true)
    (k_early : PySem.W.keepIn K (.ref f_early) = true)
    (a_late : PySem.W.findIn K (.ref CD) "late" = some (some (.ref f_late)))
    (i_late : PySem.W.isFn K (.ref f_late) = true)
    (l_late : K.lookup f_late = some ⟨oc_late, od_late, .func (PySem.W.fnOf "late" "Desk.late" (defArgs (sD 15)) (defBody (sD 15)) (defScope (sD 15)) .none kV_late dc_late pm_late an_late cd_late ct_late), sl_late⟩)
    (c_late : PySem.W.codeIn K cd_late "Desk.late" = true)
    (k_late : PySem.W.keepIn K (.ref f_late) = true)
    (a_answer : PySem.W.findIn K (.ref CD) "answer" = some (some (.ref f_answer)))
    (i_answer : PySem.W.isFn K (.ref f_answer) = true)
    (l_answer : K.lookup f_answer = some ⟨oc_answer, od_answer, .func (PySem.W.fnOf "answer" "Desk.answer" (defArgs (sD 16)) (defBody (sD 16)) (defScope (sD 16)) .none kV_answer dc_answer pm_answer an_answer cd_answer ct_answer), sl_answer⟩)
    (c_answer : PySem.W.codeIn K cd_answer "Desk.answer" = true)
    (k_answer : PySem.W.keepIn K (.ref f_answer) = true)
    (xE : K.lookup CE = some (excClassObj eN eq CE eNs ebs [.type "ValueError", .type "Exception", .type "BaseException", .type "object"] true esn esub eab ecol edd em0 em1 em2 em3 em5 "ValueError.__new__"))
    (saE : PySem.W.findIn K (.ref CE) "__setattr__" = some (some (.builtin "object.__setattr__")))
    (gaE : PySem.W.findIn K (.ref CE) "__getattribute__" = some (some (.builtin "BaseException.__getattribute__")))
    (ggE : PySem.W.findIn K (.ref CE) "__getattr__" = some none)
    (nE : PySem.W.findIn K (.ref CE) "number" = some none)
    (a_refI : PySem.W.findIn K (.ref CE) "__init__" = some (some (.ref f_refI)))
    (t_refI : PySem.W.typeIn K (.ref f_refI) = some (.type "function"))
    (l_refI : K.lookup f_refI = some ⟨oc_refI, od_refI, .func (PySem.W.fnOf "__init__" "Refused.__init__" (defArgs sRefI) (defBody sRefI) (defScope sRefI) .none kV_refI dc_refI pm_refI an_refI cd_refI ct_refI), sl_refI⟩)
    (c_refI : PySem.W.codeIn K cd_refI "Refused.__init__" = true)
    (k_refI : PySem.W.keepIn K (.ref f_refI) = true)
    (kE : PySem.W.keepIn K (.ref CE) = true)
    (eE : PySem.W.subIn K (.ref CE) (.type "BaseException") = some true)
    (tE : PySem.W.typeIn K (.ref CE) = some (.type "type"))
    (hE : PySem.W.hasDictIn K CE = true)
    (iE : PySem.W.isClsIn K CE = true)
    (sE : PySem.W.subIn K (.ref CE) (.ref CE) = some true)
    (vV : PySem.W.findCls K (.type "ValueError") (.type "type") "__init__" = some (.val (.builtin "ValueError.__init__")))
    (z_sum : PySem.W.nsIn K mainGlobals "sum" = some none)
    (z_reversed : PySem.W.nsIn K mainGlobals "reversed" = some none)
    (z_zip : PySem.W.nsIn K mainGlobals "zip" = some none)
    (z_all : PySem.W.nsIn K mainGlobals "all" = some none)
    (z_max : PySem.W.nsIn K mainGlobals "max" = some none)
    (z_min : PySem.W.nsIn K mainGlobals "min" = some none)
    (z_sorted : PySem.W.nsIn K mainGlobals "sorted" = some none)
    (z_len : PySem.W.nsIn K mainGlobals "len" = some none)
    (z_list : PySem.W.nsIn K mainGlobals "list" = some none)
    (z_range : PySem.W.nsIn K mainGlobals "range" = some none)
    (z_int : PySem.W.nsIn K mainGlobals "int" = some none)
    (z_ValueError : PySem.W.nsIn K mainGlobals "ValueError" = some none)
    (v_BAD : PySem.W.nsIn K mainGlobals "BAD" = some (some (.int (-1) tk_BAD)))
    (v_NOT_THERE : PySem.W.nsIn K mainGlobals "NOT_THERE" = some (some (.int (-2) tk_NOT_THERE)))
    (v_LACKING : PySem.W.nsIn K mainGlobals "LACKING" = some (some (.int (-4) tk_LACKING)))
    (v_TOO_MANY : PySem.W.nsIn K mainGlobals "TOO_MANY" = some (some (.int (-5) tk_TOO_MANY)))
    (v_NONE_SUCH : PySem.W.nsIn K mainGlobals "NONE_SUCH" = some (some (.int (-6) tk_NONE_SUCH)))
    (v_HOOK : PySem.W.nsIn K mainGlobals "HOOK" = some (some (.int (0) tk_HOOK)))
    (v_LONGEST_ARM : PySem.W.nsIn K mainGlobals "LONGEST_ARM" = some (some (.int (20) tk_LONGEST_ARM)))
    (v_MOST_HOOKS : PySem.W.nsIn K mainGlobals "MOST_HOOKS" = some (some (.int (7) tk_MOST_HOOKS)))
    (v_GREATEST_WEIGHT : PySem.W.nsIn K mainGlobals "GREATEST_WEIGHT" = some (some (.int (1000000) tk_GREATEST_WEIGHT)))
    (gF : PySem.W.nsIn K mainGlobals "FORMS" = some (some (.ref aF)))
    (lF : K.lookup aF = some ⟨.type "tuple", odF, .seq #[.ref q0, .ref q1, .ref q2, .ref q3, .ref q4, .ref q5, .ref q6, .ref q7, .ref q8, .ref q9, .ref q10, .ref q11] nF, slF⟩)
    (lq0 : K.lookup q0 = some ⟨.type "tuple", od_q0, .seq #[.int 0 t_q0, .int 1 u_q0] n_q0, sl_q0⟩)
    (lq1 : K.lookup q1 = some ⟨.type "tuple", od_q1, .seq #[.int 2 t_q1, .int 0 u_q1] n_q1, sl_q1⟩)
    (lq2 : K.lookup q2 = some ⟨.type "tuple", od_q2, .seq #[.int 3 t_q2, .int 0 u_q2] n_q2, sl_q2⟩)
    (lq3 : K.lookup q3 = some ⟨.type "tuple", od_q3, .seq #[.int 0 t_q3, .int 0 u_q3] n_q3, sl_q3⟩)
    (lq4 : K.lookup q4 = some ⟨.type "tuple", od_q4, .seq #[.int 0 t_q4, .int 0 u_q4] n_q4, sl_q4⟩)
    (lq5 : K.lookup q5 = some ⟨.type "tuple", od_q5, .seq #[.int 1 t_q5, .int 0 u_q5] n_q5, sl_q5⟩)
    (lq6 : K.lookup q6 = some ⟨.type "tuple", od_q6, .seq #[.int 0 t_q6, .int 0 u_q6] n_q6, sl_q6⟩)
    (lq7 : K.lookup q7 = some ⟨.type "tuple", od_q7, .seq #[.int 0 t_q7, .int 0 u_q7] n_q7, sl_q7⟩)
    (lq8 : K.lookup q8 = some ⟨.type "tuple", od_q8, .seq #[.int 0 t_q8, .int 0 u_q8] n_q8, sl_q8⟩)
    (lq9 : K.lookup q9 = some ⟨.type "tuple", od_q9, .seq #[.int 1 t_q9, .int 1 u_q9] n_q9, sl_q9⟩)
    (lq10 : K.lookup q10 = some ⟨.type "tuple", od_q10, .seq #[.int 1 t_q10, .int 0 u_q10] n_q10, sl_q10⟩)
    (lq11 : K.lookup q11 = some ⟨.type "tuple", od_q11, .seq #[.int 0 t_q11, .int 0 u_q11] n_q11, sl_q11⟩) :
    ∃ fd : FuncData, (∀ (s : Shared) (us : List Value), us.length = (["calls"] : List Str).length → BindsTo s fd ⟨us, []⟩ ((["calls"] : List Str).zip us)) ∧ ∀ base : Heap, K.In base → base.Ns mainGlobals mg → FnOk P w K mg base CX0 130 fa fd ["calls"] (spAnswers K) := by
  have e := hfa.symm.trans (PySem.W.mg_of X G a_answers)
  cases e
  have F_div := fun_mk (st := sDiv) l_div c_div k_div
  have b_div := F_div.binds (ps := ["one", "other"]) fun _ _ _ _ _ _ us hl => match us, hl with | [_, _], _ => rfl
  have F_ends := fun_mk (st := sEnds) l_ends c_ends k_ends
  have b_ends := F_ends.binds (ps := ["rod", "weights"]) fun _ _ _ _ _ _ us hl => match us, hl with | [_, _], _ => rfl
  have F_pull := fun_mk (st := sPull) l_pull c_pull k_pull
  have b_pull := F_pull.binds (ps := ["rod", "weights"]) fun _ _ _ _ _ _ us hl => match us, hl with | [_, _], _ => rfl
  have F_scaled := fun_mk (st := sScaled) l_scaled c_scaled k_scaled
  have b_scaled := F_scaled.binds (ps := ["weights", "many"]) fun _ _ _ _ _ _ us hl => match us, hl with | [_, _], _ => rfl
  have F_lev := fun_mk (st := sLev) l_lev c_lev k_lev
  have b_lev := F_lev.binds (ps := ["rod", "weights"]) fun _ _ _ _ _ _ us hl => match us, hl with | [_, _], _ => rfl
  have F_leastW := fun_mk (st := sLeastW) l_leastW c_leastW k_leastW
  have b_leastW := F_leastW.binds (ps := ["shape"]) fun _ _ _ _ _ _ us hl => match us, hl with | [_], _ => rfl
  have F_timesAt := fun_mk (st := sTimesAt) l_timesAt c_timesAt k_timesAt
  have b_timesAt := F_timesAt.binds (ps := ["weight", "least"]) fun _ _ _ _ _ _ us hl => match us, hl with | [_, _], _ => rfl
  have F_allT := fun_mk (st := sAllT) l_allT c_allT k_allT
  have b_allT := F_allT.binds (ps := ["weights", "least"]) fun _ _ _ _ _ _ us hl => match us, hl with | [_, _], _ => rfl
  have F_comm := fun_mk (st := sComm) l_comm c_comm k_comm
  have b_comm := F_comm.binds (ps := ["weights", "least"]) fun _ _ _ _ _ _ us hl => match us, hl with | [_, _], _ => rfl
  have F_best := fun_mk (st := sBest) l_best c_best k_best
  have b_best := F_best.binds (ps := ["weights", "least"]) fun _ _ _ _ _ _ us hl => match us, hl with | [_, _], _ => rfl
  have F_armsW := fun_mk (st := sArmsW) l_armsW c_armsW k_armsW
  have b_armsW := F_armsW.binds (ps := ["rod", "weights"]) fun _ _ _ _ _ _ us hl => match us, hl with | [_, _], _ => rfl
  have F_waysOf := fun_mk (st := sWaysOf) l_waysOf c_waysOf k_waysOf
  have b_waysOf := F_waysOf.binds (ps := ["weights", "least"]) fun _ _ _ _ _ _ us hl => match us, hl with | [_, _], _ => rfl
  have F_want := fun_mk (st := sWant) l_want c_want k_want
  have b_want := F_want.binds (ps := ["truth", "number"]) fun _ _ _ _ _ _ us hl => match us, hl with | [_, _], _ => rfl
  have F_isArm := fun_mk (st := sIsArm) l_isArm c_isArm k_isArm
  have b_isArm := F_isArm.binds (ps := ["number"]) fun _ _ _ _ _ _ us hl => match us, hl with | [_], _ => rfl
  have F_rodR := fun_mk (st := sRodR) l_rodR c_rodR k_rodR
  have b_rodR := F_rodR.binds (ps := ["reader", "left"]) fun _ _ _ _ _ _ us hl => match us, hl with | [_, _], _ => rfl
  have F_mobR := fun_mk (st := sMobR) l_mobR c_mobR k_mobR
  have b_mobR := F_mobR.binds (ps := ["reader"]) fun _ _ _ _ _ _ us hl => match us, hl with | [_], _ => rfl
  have F_shapeOf := fun_mk (st := sShapeOf) l_shapeOf c_shapeOf k_shapeOf
  have b_shapeOf := F_shapeOf.binds (ps := ["numbers"]) fun _ _ _ _ _ _ us hl => match us, hl with | [_], _ => rfl
  have F_withA := fun_mk (st := sWithA) l_withA c_withA k_withA
  have b_withA := F_withA.binds (ps := ["shape", "place", "left", "right"]) fun _ _ _ _ _ _ us hl => match us, hl with | [_, _, _, _], _ => rfl
  have F_listed := fun_mk (st := sListed) l_listed c_listed k_listed
  have b_listed := F_listed.binds (ps := ["row"]) fun _ _ _ _ _ _ us hl => match us, hl with | [_], _ => rfl
  have F_wantW := fun_mk (st := sWantW) l_wantW c_wantW k_wantW
  have b_wantW := F_wantW.binds (ps := ["weights"]) fun _ _ _ _ _ _ us hl => match us, hl with | [_], _ => rfl
  have F_answers := fun_mk (st := sAnswers) l_answers c_answers k_answers
  have b_answers := F_answers.binds (ps := ["calls"]) fun _ _ _ _ _ _ us hl => match us, hl with | [_], _ => rfl
  have F_rodI := fun_mk (st := sRodI) l_rodI c_rodI k_rodI
  have b_rodI := F_rodI.binds (ps := ["self", "spot", "left", "right", "first", "middle", "last"]) fun _ _ _ _ _ _ us hl => match us, hl with | [_, _, _, _, _, _, _], _ => rfl
  have F_shapeI := fun_mk (st := sShapeI) l_shapeI c_shapeI k_shapeI
  have b_shapeI := F_shapeI.binds (ps := ["self", "numbers", "rods", "hooks"]) fun _ _ _ _ _ _ us hl => match us, hl with | [_, _, _, _], _ => rfl
  have F_readI := fun_mk (st := sReadI) l_readI c_readI k_readI
  have b_readI := F_readI.binds (ps := ["self", "numbers"]) fun _ _ _ _ _ _ us hl => match us, hl with | [_, _], _ => rfl
  have F_dkI := fun_mk (st := (sD 0)) l_dkI c_dkI k_dkI
  have b_dkI := F_dkI.binds (ps := ["self"]) fun _ _ _ _ _ _ us hl => match us, hl with | [_], _ => rfl
  have F_take := fun_mk (st := sTake) l_take c_take k_take
  have b_take := F_take.binds (ps := ["self"]) fun _ _ _ _ _ _ us hl => match us, hl with | [_], _ => rfl
  have F_begins := fun_mk (st := (sD 1)) l_begins c_begins k_begins
  have b_begins := F_begins.binds (ps := ["self", "numbers"]) fun _ _ _ _ _ _ us hl => match us, hl with | [_, _], _ => rfl
  have F_wantH := fun_mk (st := (sD 2)) l_wantH c_wantH k_wantH
  have b_wantH := F_wantH.binds (ps := ["self", "hook"]) fun _ _ _ _ _ _ us hl => match us, hl with | [_, _], _ => rfl
  have F_hang := fun_mk (st := (sD 3)) l_hang c_hang k_hang
  have b_hang := F_hang.binds (ps := ["self", "hook", "weight"]) fun _ _ _ _ _ _ us hl => match us, hl with | [_, _, _], _ => rfl
  have F_arms := fun_mk (st := (sD 4)) l_arms c_arms k_arms
  have b_arms := F_arms.binds (ps := ["self", "rod", "left", "right"]) fun _ _ _ _ _ _ us hl => match us, hl with | [_, _, _, _], _ => rfl
  have F_pulls := fun_mk (st := (sD 5)) l_pulls c_pulls k_pulls
  have b_pulls := F_pulls.binds (ps := ["self"]) fun _ _ _ _ _ _ us hl => match us, hl with | [_], _ => rfl
  have F_least := fun_mk (st := (sD 6)) l_least c_least k_least
  have b_least := F_least.binds (ps := ["self"]) fun _ _ _ _ _ _ us hl => match us, hl with | [_], _ => rfl
  have F_scale := fun_mk (st := (sD 7)) l_scale c_scale k_scale
  have b_scale := F_scale.binds (ps := ["self", "many"]) fun _ _ _ _ _ _ us hl => match us, hl with | [_, _], _ => rfl
  have F_up := fun_mk (st := (sD 8)) l_up c_up k_up
  have b_up := F_up.binds (ps := ["self"]) fun _ _ _ _ _ _ us hl => match us, hl with | [_], _ => rfl
  have F_mend := fun_mk (st := (sD 9)) l_mend c_mend k_mend
  have b_mend := F_mend.binds (ps := ["self"]) fun _ _ _ _ _ _ us hl => match us, hl with | [_], _ => rfl
  have F_wants := fun_mk (st := (sD 10)) l_wants c_wants k_wants
  have b_wants := F_wants.binds (ps := ["self"]) fun _ _ _ _ _ _ us hl => match us, hl with | [_], _ => rfl
  have F_ways := fun_mk (st := (sD 11)) l_ways c_ways k_ways
  have b_ways := F_ways.binds (ps := ["self", "k", "weights"]) fun _ _ _ _ _ _ us hl => match us, hl with | [_, _, _], _ => rfl
  have F_missing := fun_mk (st := (sD 12)) l_missing c_missing k_missing
  have b_missing := F_missing.binds (ps := ["self", "hook"]) fun _ _ _ _ _ _ us hl => match us, hl with | [_, _], _ => rfl
  have F_state := fun_mk (st := (sD 13)) l_state c_state k_state
  have b_state := F_state.binds (ps := ["self"]) fun _ _ _ _ _ _ us hl => match us, hl with | [_], _ => rfl
  have F_early := fun_mk (st := (sD 14)) l_early c_early k_early
  have b_early := F_early.binds (ps := ["self", "call", "n", "row"]) fun _ _ _ _ _ _ us hl => match us, hl with | [_, _, _, _], _ => rfl
  have F_late := fun_mk (st := (sD 15)) l_late c_late k_late
  have b_late := F_late.binds (ps := ["self", "call", "n", "row"]) fun _ _ _ _ _ _ us hl => match us, hl with | [_, _, _, _], _ => rfl
  have F_answer := fun_mk (st := (sD 16)) l_answer c_answer k_answer
  have b_answer := F_answer.binds (ps := ["self", "call", "n", "row"]) fun _ _ _ _ _ _ us hl => match us, hl with | [_, _, _, _], _ => rfl
  have F_refI := fun_mk (st := sRefI) l_refI c_refI k_refI
  have b_refI := F_refI.binds (ps := ["self", "number"]) fun _ _ _ _ _ _ us hl => match us, hl with | [_, _], _ => rfl
  have cl_R : Cls K CR := ⟨pg_R, hd_R, po_R, sa_R⟩
  have cl_S : Cls K CS := ⟨pg_S, hd_S, po_S, sa_S⟩
  have cl_Rd : Cls K CRd := ⟨pg_Rd, hd_Rd, po_Rd, sa_Rd⟩
  have cl_D : Cls K CD := ⟨pg_D, hd_D, po_D, sa_D⟩
  have cls : ClsOk K ⟨CR, CS, CRd, CD, CE⟩ := ⟨cl_R, cl_S, cl_Rd, cl_D, n_R_spot, n_R_left, n_R_right, n_R_first, n_R_middle, n_R_last, n_S_numbers, n_S_rods, n_S_hooks, n_Rd_numbers, n_Rd_spot, n_Rd_rods, n_Rd_hooks, n_D_shape, n_D_weights⟩
  have oex : OexC K CE := ⟨⟨_, _, _, _, _, _, _, _, _, _, _, _, _, _, _, xE, by decide +kernel⟩, saE, eE, tE, kE⟩
  let T : EvA K mg ⟨CR, CS, CRd, CD, CE⟩ := {
    cls := cls
    f_div := f_div
    d_div := (PySem.W.fnOf "divisor" "divisor" (defArgs sDiv) (defBody sDiv) (defScope sDiv) .none kV_div dc_div pm_div an_div cd_div ct_div)
    f_ends := f_ends
    d_ends := (PySem.W.fnOf "ends_of" "ends_of" (defArgs sEnds) (defBody sEnds) (defScope sEnds) .none kV_ends dc_ends pm_ends an_ends cd_ends ct_ends)
    f_pull := f_pull
    d_pull := (PySem.W.fnOf "pull_of" "pull_of" (defArgs sPull) (defBody sPull) (defScope sPull) .none kV_pull dc_pull pm_pull an_pull cd_pull ct_pull)
    f_scaled := f_scaled
    d_scaled := (PySem.W.fnOf "scaled" "scaled" (defArgs sScaled) (defBody sScaled) (defScope sScaled) .none kV_scaled dc_scaled pm_scaled an_scaled cd_scaled ct_scaled)
    f_lev := f_lev
    d_lev := (PySem.W.fnOf "levelled" "levelled" (defArgs sLev) (defBody sLev) (defScope sLev) .none kV_lev dc_lev pm_lev an_lev cd_lev ct_lev)
    f_leastW := f_leastW
    d_leastW := (PySem.W.fnOf "least_weights" "least_weights" (defArgs sLeastW) (defBody sLeastW) (defScope sLeastW) .none kV_leastW dc_leastW pm_leastW an_leastW cd_leastW ct_leastW)
    f_timesAt := f_timesAt
    d_timesAt := (PySem.W.fnOf "times_at" "times_at" (defArgs sTimesAt) (defBody sTimesAt) (defScope sTimesAt) .none kV_timesAt dc_timesAt pm_timesAt an_timesAt cd_timesAt ct_timesAt)
    f_allT := f_allT
    d_allT := (PySem.W.fnOf "all_times" "all_times" (defArgs sAllT) (defBody sAllT) (defScope sAllT) .none kV_allT dc_allT pm_allT an_allT cd_allT ct_allT)
    f_comm := f_comm
    d_comm := (PySem.W.fnOf "common_times" "common_times" (defArgs sComm) (defBody sComm) (defScope sComm) .none kV_comm dc_comm pm_comm an_comm cd_comm ct_comm)
    f_best := f_best
    d_best := (PySem.W.fnOf "best_times" "best_times" (defArgs sBest) (defBody sBest) (defScope sBest) .none kV_best dc_best pm_best an_best cd_best ct_best)
    f_armsW := f_armsW
    d_armsW := (PySem.W.fnOf "arms_wanted" "arms_wanted" (defArgs sArmsW) (defBody sArmsW) (defScope sArmsW) .none kV_armsW dc_armsW pm_armsW an_armsW cd_armsW ct_armsW)
    f_waysOf := f_waysOf
    d_waysOf := (PySem.W.fnOf "ways_of" "ways_of" (defArgs sWaysOf) (defBody sWaysOf) (defScope sWaysOf) .none kV_waysOf dc_waysOf pm_waysOf an_waysOf cd_waysOf ct_waysOf)
    f_want := f_want
    d_want := (PySem.W.fnOf "want" "want" (defArgs sWant) (defBody sWant) (defScope sWant) .none kV_want dc_want pm_want an_want cd_want ct_want)
    f_isArm := f_isArm
    d_isArm := (PySem.W.fnOf "is_arm" "is_arm" (defArgs sIsArm) (defBody sIsArm) (defScope sIsArm) .none kV_isArm dc_isArm pm_isArm an_isArm cd_isArm ct_isArm)
    f_rodR := f_rodR
    d_rodR := (PySem.W.fnOf "rod_read" "rod_read" (defArgs sRodR) (defBody sRodR) (defScope sRodR) .none kV_rodR dc_rodR pm_rodR an_rodR cd_rodR ct_rodR)
    f_mobR := f_mobR
    d_mobR := (PySem.W.fnOf "mobile_read" "mobile_read" (defArgs sMobR) (defBody sMobR) (defScope sMobR) .none kV_mobR dc_mobR pm_mobR an_mobR cd_mobR ct_mobR)
    f_shapeOf := f_shapeOf
    d_shapeOf := (PySem.W.fnOf "shape_of" "shape_of" (defArgs sShapeOf) (defBody sShapeOf) (defScope sShapeOf) .none kV_shapeOf dc_shapeOf pm_shapeOf an_shapeOf cd_shapeOf ct_shapeOf)
    f_withA := f_withA
    d_withA := (PySem.W.fnOf "with_arms" "with_arms" (defArgs sWithA) (defBody sWithA) (defScope sWithA) .none kV_withA dc_withA pm_withA an_withA cd_withA ct_withA)
    f_listed := f_listed
    d_listed := (PySem.W.fnOf "listed" "listed" (defArgs sListed) (defBody sListed) (defScope sListed) .none kV_listed dc_listed pm_listed an_listed cd_listed ct_listed)
    f_wantW := f_wantW
    d_wantW := (PySem.W.fnOf "want_weights" "want_weights" (defArgs sWantW) (defBody sWantW) (defScope sWantW) .none kV_wantW dc_wantW pm_wantW an_wantW cd_wantW ct_wantW)
    f_answers := fa
    d_answers := (PySem.W.fnOf "answers" "answers" (defArgs sAnswers) (defBody sAnswers) (defScope sAnswers) .none kV_answers dc_answers pm_answers an_answers cd_answers ct_answers)
    f_rodI := f_rodI
    d_rodI := (PySem.W.fnOf "__init__" "Rod.__init__" (defArgs sRodI) (defBody sRodI) (defScope sRodI) .none kV_rodI dc_rodI pm_rodI an_rodI cd_rodI ct_rodI)
    f_shapeI := f_shapeI
    d_shapeI := (PySem.W.fnOf "__init__" "Shape.__init__" (defArgs sShapeI) (defBody sShapeI) (defScope sShapeI) .none kV_shapeI dc_shapeI pm_shapeI an_shapeI cd_shapeI ct_shapeI)
    f_readI := f_readI
    d_readI := (PySem.W.fnOf "__init__" "Reader.__init__" (defArgs sReadI) (defBody sReadI) (defScope sReadI) .none kV_readI dc_readI pm_readI an_readI cd_readI ct_readI)
    f_dkI := f_dkI
    d_dkI := (PySem.W.fnOf "__init__" "Desk.__init__" (defArgs (sD 0)) (defBody (sD 0)) (defScope (sD 0)) .none kV_dkI dc_dkI pm_dkI an_dkI cd_dkI ct_dkI)
    f_take := f_take
    d_take := (PySem.W.fnOf "take" "Reader.take" (defArgs sTake) (defBody sTake) (defScope sTake) .none kV_take dc_take pm_take an_take cd_take ct_take)
    f_begins := f_begins
    d_begins := (PySem.W.fnOf "begins" "Desk.begins" (defArgs (sD 1)) (defBody (sD 1)) (defScope (sD 1)) .none kV_begins dc_begins pm_begins an_begins cd_begins ct_begins)
    f_wantH := f_wantH
    d_wantH := (PySem.W.fnOf "want_hook" "Desk.want_hook" (defArgs (sD 2)) (defBody (sD 2)) (defScope (sD 2)) .none kV_wantH dc_wantH pm_wantH an_wantH cd_wantH ct_wantH)
    f_hang := f_hang
    d_hang := (PySem.W.fnOf "hang" "Desk.hang" (defArgs (sD 3)) (defBody (sD 3)) (defScope (sD 3)) .none kV_hang dc_hang pm_hang an_hang cd_hang ct_hang)
    f_arms := f_arms
    d_arms := (PySem.W.fnOf "arms" "Desk.arms" (defArgs (sD 4)) (defBody (sD 4)) (defScope (sD 4)) .none kV_arms dc_arms pm_arms an_arms cd_arms ct_arms)
    f_pulls := f_pulls
    d_pulls := (PySem.W.fnOf "pulls" "Desk.pulls" (defArgs (sD 5)) (defBody (sD 5)) (defScope (sD 5)) .none kV_pulls dc_pulls pm_pulls an_pulls cd_pulls ct_pulls)
    f_least := f_least
    d_least := (PySem.W.fnOf "least" "Desk.least" (defArgs (sD 6)) (defBody (sD 6)) (defScope (sD 6)) .none kV_least dc_least pm_least an_least cd_least ct_least)
    f_scale := f_scale
    d_scale := (PySem.W.fnOf "scale" "Desk.scale" (defArgs (sD 7)) (defBody (sD 7)) (defScope (sD 7)) .none kV_scale dc_scale pm_scale an_scale cd_scale ct_scale)
    f_up := f_up
    d_up := (PySem.W.fnOf "up" "Desk.up" (defArgs (sD 8)) (defBody (sD 8)) (defScope (sD 8)) .none kV_up dc_up pm_up an_up cd_up ct_up)
    f_mend := f_mend
    d_mend := (PySem.W.fnOf "mend" "Desk.mend" (defArgs (sD 9)) (defBody (sD 9)) (defScope (sD 9)) .none kV_mend dc_mend pm_mend an_mend cd_mend ct_mend)
    f_wants := f_wants
    d_wants := (PySem.W.fnOf "wants" "Desk.wants" (defArgs (sD 10)) (defBody (sD 10)) (defScope (sD 10)) .none kV_wants dc_wants pm_wants an_wants cd_wants ct_wants)
    f_ways := f_ways
    d_ways := (PySem.W.fnOf "ways" "Desk.ways" (defArgs (sD 11)) (defBody (sD 11)) (defScope (sD 11)) .none kV_ways dc_ways pm_ways an_ways cd_ways ct_ways)
    f_missing := f_missing
    d_missing := (PySem.W.fnOf "missing" "Desk.missing" (defArgs (sD 12)) (defBody (sD 12)) (defScope (sD 12)) .none kV_missing dc_missing pm_missing an_missing cd_missing ct_missing)
    f_state := f_state
    d_state := (PySem.W.fnOf "state" "Desk.state" (defArgs (sD 13)) (defBody (sD 13)) (defScope (sD 13)) .none kV_state dc_state pm_state an_state cd_state ct_state)
    f_early := f_early
    d_early := (PySem.W.fnOf "early" "Desk.early" (defArgs (sD 14)) (defBody (sD 14)) (defScope (sD 14)) .none kV_early dc_early pm_early an_early cd_early ct_early)
    f_late := f_late
    d_late := (PySem.W.fnOf "late" "Desk.late" (defArgs (sD 15)) (defBody (sD 15)) (defScope (sD 15)) .none kV_late dc_late pm_late an_late cd_late ct_late)
    f_answer := f_answer
    d_answer := (PySem.W.fnOf "answer" "Desk.answer" (defArgs (sD 16)) (defBody (sD 16)) (defScope (sD 16)) .none kV_answer dc_answer pm_answer an_answer cd_answer ct_answer)
    f_refI := f_refI
    d_refI := (PySem.W.fnOf "__init__" "Refused.__init__" (defArgs sRefI) (defBody sRefI) (defScope sRefI) .none kV_refI dc_refI pm_refI an_refI cd_refI ct_refI)
    div := ⟨F_div, b_div, PySem.W.mg_of X G a_div⟩
    ends := ⟨F_ends, b_ends, PySem.W.mg_of X G a_ends⟩
    pull := ⟨F_pull, b_pull, PySem.W.mg_of X G a_pull⟩
    scaled := ⟨F_scaled, b_scaled, PySem.W.mg_of X G a_scaled⟩
    lev := ⟨F_lev, b_lev, PySem.W.mg_of X G a_lev⟩
    leastW := ⟨F_leastW, b_leastW, PySem.W.mg_of X G a_leastW⟩
    timesAt := ⟨F_timesAt, b_timesAt, PySem.W.mg_of X G a_timesAt⟩
    allT := ⟨F_allT, b_allT, PySem.W.mg_of X G a_allT⟩
    comm := ⟨F_comm, b_comm, PySem.W.mg_of X G a_comm⟩
    best := ⟨F_best, b_best, PySem.W.mg_of X G a_best⟩
    armsW := ⟨F_armsW, b_armsW, PySem.W.mg_of X G a_armsW⟩
    waysOf := ⟨F_waysOf, b_waysOf, PySem.W.mg_of X G a_waysOf⟩
    want := ⟨F_want, b_want, PySem.W.mg_of X G a_want⟩
    isArm := ⟨F_isArm, b_isArm, PySem.W.mg_of X G a_isArm⟩
    rodR := ⟨F_rodR, b_rodR, PySem.W.mg_of X G a_rodR⟩
    mobR := ⟨F_mobR, b_mobR, PySem.W.mg_of X G a_mobR⟩
    shapeOf := ⟨F_shapeOf, b_shapeOf, PySem.W.mg_of X G a_shapeOf⟩
    withA := ⟨F_withA, b_withA, PySem.W.mg_of X G a_withA⟩
    listed := ⟨F_listed, b_listed, PySem.W.mg_of X G a_listed⟩
    wantW := ⟨F_wantW, b_wantW, PySem.W.mg_of X G a_wantW⟩
    answers := ⟨F_answers, b_answers, PySem.W.mg_of X G a_answers⟩
    rodI := ⟨F_rodI, b_rodI, ⟨mk_R, a_rodI, i_rodI, kc_R⟩, PySem.W.mg_of X G g_CR⟩
    shapeI := ⟨F_shapeI, b_shapeI, ⟨mk_S, a_shapeI, i_shapeI, kc_S⟩, PySem.W.mg_of X G g_CS⟩
    readI := ⟨F_readI, b_readI, ⟨mk_Rd, a_readI, i_readI, kc_Rd⟩, PySem.W.mg_of X G g_CRd⟩
    dkF' := F_dkI
    dkB := b_dkI
    dkM := ⟨mk_D, a_dkI, i_dkI, kc_D⟩
    dkG := PySem.W.mg_of X G g_CD
    take := ⟨F_take, b_take, ⟨a_take, i_take, k_take⟩⟩
    begins := ⟨F_begins, b_begins, ⟨a_begins, i_begins, k_begins⟩⟩
    wantH := ⟨F_wantH, b_wantH, ⟨a_wantH, i_wantH, k_wantH⟩⟩
    hang := ⟨F_hang, b_hang, ⟨a_hang, i_hang, k_hang⟩⟩
    arms := ⟨F_arms, b_arms, ⟨a_arms, i_arms, k_arms⟩⟩
    pulls := ⟨F_pulls, b_pulls, ⟨a_pulls, i_pulls, k_pulls⟩⟩
    least := ⟨F_least, b_least, ⟨a_least, i_least, k_least⟩⟩
    scale := ⟨F_scale, b_scale, ⟨a_scale, i_scale, k_scale⟩⟩
    up := ⟨F_up, b_up, ⟨a_up, i_up, k_up⟩⟩
    mend := ⟨F_mend, b_mend, ⟨a_mend, i_mend, k_mend⟩⟩
    wants := ⟨F_wants, b_wants, ⟨a_wants, i_wants, k_wants⟩⟩
    ways := ⟨F_ways, b_ways, ⟨a_ways, i_ways, k_ways⟩⟩
    missing := ⟨F_missing, b_missing, ⟨a_missing, i_missing, k_missing⟩⟩
    state := ⟨F_state, b_state, ⟨a_state, i_state, k_state⟩⟩
    early := ⟨F_early, b_early, ⟨a_early, i_early, k_early⟩⟩
    late := ⟨F_late, b_late, ⟨a_late, i_late, k_late⟩⟩
    answer := ⟨F_answer, b_answer, ⟨a_answer, i_answer, k_answer⟩⟩
    refF := F_refI
    refB := b_refI
    g_Ref := PySem.W.mg_of X G g_CE
    oex := oex
    iE := a_refI
    tI := t_refI
    nE := nE
    xf := ⟨gaE, ggE, eE, hE⟩
    exm := exm_own eE iE tE sE
    vV := vV
    z_sum := PySem.W.mg_none_of X G z_sum
    z_reversed := PySem.W.mg_none_of X G z_reversed
    z_zip := PySem.W.mg_none_of X G z_zip
    z_all := PySem.W.mg_none_of X G z_all
    z_max := PySem.W.mg_none_of X G z_max
    z_min := PySem.W.mg_none_of X G z_min
    z_sorted := PySem.W.mg_none_of X G z_sorted
    z_len := PySem.W.mg_none_of X G z_len
    z_list := PySem.W.mg_none_of X G z_list
    z_range := PySem.W.mg_none_of X G z_range
    z_int := PySem.W.mg_none_of X G z_int
    z_VE := PySem.W.mg_none_of X G z_ValueError
    g_BAD := ⟨_, PySem.W.mg_of X G v_BAD⟩
    g_NOT := ⟨_, PySem.W.mg_of X G v_NOT_THERE⟩
    g_LACK := ⟨_, PySem.W.mg_of X G v_LACKING⟩
    g_MANY := ⟨_, PySem.W.mg_of X G v_TOO_MANY⟩
    g_NONE := ⟨_, PySem.W.mg_of X G v_NONE_SUCH⟩
    g_HOOK := ⟨_, PySem.W.mg_of X G v_HOOK⟩
    g_LONG := ⟨_, PySem.W.mg_of X G v_LONGEST_ARM⟩
    g_MOST := ⟨_, PySem.W.mg_of X G v_MOST_HOOKS⟩
    g_GREAT := ⟨_, PySem.W.mg_of X G v_GREATEST_WEIGHT⟩
    aF := aF
    gF := PySem.W.mg_of X G gF
    forms := ⟨[q0, q1, q2, q3, q4, q5, q6, q7, q8, q9, q10, q11], fun H => tup_of lF rfl rfl (by show 12 ≤ sizeLine; decide) (.cons rfl (.cons rfl (.cons rfl (.cons rfl (.cons rfl (.cons rfl (.cons rfl (.cons rfl (.cons rfl (.cons rfl (.cons rfl (.cons rfl (.nil))))))))))))), fun p hp => match p, hp with
    | 0, _ => ⟨q0, rfl, fun H => tup_of lq0 rfl rfl (by show 2 ≤ sizeLine; decide) (.cons ⟨_, rfl⟩ (.cons ⟨_, rfl⟩ .nil))⟩
    | 1, _ => ⟨q1, rfl, fun H => tup_of lq1 rfl rfl (by show 2 ≤ sizeLine; decide) (.cons ⟨_, rfl⟩ (.cons ⟨_, rfl⟩ .nil))⟩
    | 2, _ => ⟨q2, rfl, fun H => tup_of lq2 rfl rfl (by show 2 ≤ sizeLine; decide) (.cons ⟨_, rfl⟩ (.cons ⟨_, rfl⟩ .nil))⟩
    | 3, _ => ⟨q3, rfl, fun H => tup_of lq3 rfl rfl (by show 2 ≤ sizeLine; decide) (.cons ⟨_, rfl⟩ (.cons ⟨_, rfl⟩ .nil))⟩
    | 4, _ => ⟨q4, rfl, fun H => tup_of lq4 rfl rfl (by show 2 ≤ sizeLine; decide) (.cons ⟨_, rfl⟩ (.cons ⟨_, rfl⟩ .nil))⟩
    | 5, _ => ⟨q5, rfl, fun H => tup_of lq5 rfl rfl (by show 2 ≤ sizeLine; decide) (.cons ⟨_, rfl⟩ (.cons ⟨_, rfl⟩ .nil))⟩
    | 6, _ => ⟨q6, rfl, fun H => tup_of lq6 rfl rfl (by show 2 ≤ sizeLine; decide) (.cons ⟨_, rfl⟩ (.cons ⟨_, rfl⟩ .nil))⟩
    | 7, _ => ⟨q7, rfl, fun H => tup_of lq7 rfl rfl (by show 2 ≤ sizeLine; decide) (.cons ⟨_, rfl⟩ (.cons ⟨_, rfl⟩ .nil))⟩
    | 8, _ => ⟨q8, rfl, fun H => tup_of lq8 rfl rfl (by show 2 ≤ sizeLine; decide) (.cons ⟨_, rfl⟩ (.cons ⟨_, rfl⟩ .nil))⟩
    | 9, _ => ⟨q9, rfl, fun H => tup_of lq9 rfl rfl (by show 2 ≤ sizeLine; decide) (.cons ⟨_, rfl⟩ (.cons ⟨_, rfl⟩ .nil))⟩
    | 10, _ => ⟨q10, rfl, fun H => tup_of lq10 rfl rfl (by show 2 ≤ sizeLine; decide) (.cons ⟨_, rfl⟩ (.cons ⟨_, rfl⟩ .nil))⟩
    | 11, _ => ⟨q11, rfl, fun H => tup_of lq11 rfl rfl (by show 2 ≤ sizeLine; decide) (.cons ⟨_, rfl⟩ (.cons ⟨_, rfl⟩ .nil))⟩
    | p + 12, hp => absurd hp (by omega)⟩ }
  exact ⟨(PySem.W.fnOf "answers" "answers" (defArgs sAnswers) (defBody sAnswers) (defScope sAnswers) .none kV_answers dc_answers pm_answers an_answers cd_answers ct_answers), fun s us hu => match us, hu with | [_], _ => .of_eq rfl, fun base _ _ => ok_answers T⟩
end Mob
open PySem PySem.W PyProof.Rows
set_option maxRecDepth 100000 in
set_option maxHeartbeats 16000000 in
theorem PySem.Challenge.cw_hungmobile_s01_answers_holds : PySem.Challenge.rw_hungmobile_s01_answers.Holds := by
  w_on; k_headS; (case hw => exact ⟨[.list [.int 3]], by decide +kernel, by decide +kernel⟩)
  k_fillS
  refine L2.walk_specK (r := PySem.Challenge.rw_hungmobile_s01_answers) (k := 130) (CX := L2.CX0) (ps := ["calls"]) (sp := Mob.spAnswers) (by decide +kernel) rfl rfl ⟨rfl, by decide, by decide⟩ (fun w h Y => PySem.W.kIn_of Y) ?F ?S (fun _ _ _ _ z => z)
  case F =>
    intro w mg fa h Y KX G hmg
    refine' Mob.all_mk KX G hmg ?g_CR ?g_CS ?g_CRd ?g_CD ?g_CE ?pg_R ?hd_R ?po_R ?sa_R ?mk_R ?kc_R ?n_R_spot ?n_R_left ?n_R_right ?n_R_first ?n_R_middle ?n_R_last ?pg_S ?hd_S ?po_S ?sa_S ?mk_S ?kc_S ?n_S_numbers ?n_S_rods ?n_S_hooks ?pg_Rd ?hd_Rd ?po_Rd ?sa_Rd ?mk_Rd ?kc_Rd ?n_Rd_numbers ?n_Rd_spot ?n_Rd_rods ?n_Rd_hooks ?pg_D ?hd_D ?po_D ?sa_D ?mk_D ?kc_D ?n_D_shape ?n_D_weights ?a_div ?l_div ?c_div ?k_div ?a_ends ?l_ends ?c_ends ?k_ends ?a_pull ?l_pull ?c_pull ?k_pull ?a_scaled ?l_scaled ?c_scaled ?k_scaled ?a_lev ?l_lev ?c_lev ?k_lev ?a_leastW ?l_leastW ?c_leastW ?k_leastW ?a_timesAt ?l_timesAt ?c_timesAt ?k_timesAt ?a_allT ?l_allT ?c_allT ?k_allT ?a_comm ?l_comm ?c_comm ?k_comm ?a_best ?l_best ?c_best ?k_best ?a_armsW ?l_armsW ?c_armsW ?k_armsW ?a_waysOf ?l_waysOf ?c_waysOf ?k_waysOf ?a_want ?l_want ?c_want ?k_want ?a_isArm ?l_isArm ?c_isArm ?k_isArm ?a_rodR ?l_rodR ?c_rodR ?k_rodR ?a_mobR ?l_mobR ?c_mobR ?k_mobR ?a_shapeOf ?l_shapeOf ?c_shapeOf ?k_shapeOf ?a_withA ?l_withA ?c_withA ?k_withA ?a_listed ?l_listed ?c_listed ?k_listed ?a_wantW ?l_wantW ?c_wantW ?k_wantW ?a_answers ?l_answers ?c_answers ?k_answers ?a_rodI ?i_rodI ?l_rodI ?c_rodI ?k_rodI ?a_shapeI ?i_shapeI ?l_shapeI ?c_shapeI ?k_shapeI ?a_readI ?i_readI ?l_readI ?c_readI ?k_readI ?a_dkI ?i_dkI ?l_dkI ?c_dkI ?k_dkI ?a_take ?i_take ?l_take ?c_take ?k_take ?a_begins ?i_begins ?l_begins ?c_begins ?k_begins ?a_wantH ?i_wantH ?l_wantH ?c_wantH ?k_wantH ?a_hang ?i_hang ?l_hang ?c_hang ?k_hang ?a_arms ?i_arms ?l_arms ?c_arms ?k_arms ?a_pulls ?i_pulls ?l_pulls ?c_pulls ?k_pulls ?a_least ?i_least ?l_least ?c_least ?k_least ?a_scale ?i_scale ?l_scale ?c_scale ?k_scale ?a_up ?i_up ?l_up ?c_up ?k_up ?a_mend ?i_mend ?l_mend ?c_mend ?k_mend ?a_wants ?i_wants ?l_wants ?c_wants ?k_wants ?a_ways ?i_ways ?l_ways ?c_ways ?k_ways ?a_missing ?i_missing ?l_missing ?c_missing ?k_missing ?a_state ?i_state ?l_state ?c_state ?k_state ?a_early ?i_early ?l_early ?c_early ?k_early ?a_late ?i_late ?l_late ?c_late ?k_late ?a_answer ?i_answer ?l_answer ?c_answer ?k_answer ?xE ?saE ?gaE ?ggE ?nE ?a_refI ?t_refI ?l_refI ?c_refI ?k_refI ?kE ?eE ?tE ?hE ?iE ?sE ?vV ?z_sum ?z_reversed ?z_zip ?z_all ?z_max ?z_min ?z_sorted ?z_len ?z_list ?z_range ?z_int ?z_ValueError ?v_BAD ?v_NOT_THERE ?v_LACKING ?v_TOO_MANY ?v_NONE_SUCH ?v_HOOK ?v_LONGEST_ARM ?v_MOST_HOOKS ?v_GREATEST_WEIGHT ?gF ?lF ?lq0 ?lq1 ?lq2 ?lq3 ?lq4 ?lq5 ?lq6 ?lq7 ?lq8 ?lq9 ?lq10 ?lq11
    (case g_CR => k_is)
    (case g_CS => k_is)
    (case g_CRd => k_is)
    (case g_CD => k_is)
    (case g_CE => k_is)
    (case pg_R => k_is)
    (case hd_R => k_is)
    (case po_R => k_is)
    (case sa_R => k_is)
    (case mk_R => k_is)
    (case kc_R => k_is)
    (case n_R_spot => k_is)
    (case n_R_left => k_is)
    (case n_R_right => k_is)
    (case n_R_first => k_is)
    (case n_R_middle => k_is)
    (case n_R_last => k_is)
    (case pg_S => k_is)
    (case hd_S => k_is)
    (case po_S => k_is)
    (case sa_S => k_is)
    (case mk_S => k_is)
    (case kc_S => k_is)
    (case n_S_numbers => k_is)
    (case n_S_rods => k_is)
    (case n_S_hooks => k_is)
    (case pg_Rd => k_is)
    (case hd_Rd => k_is)
    (case po_Rd => k_is)
    (case sa_Rd => k_is)
    (case mk_Rd => k_is)
    (case kc_Rd => k_is)
    (case n_Rd_numbers => k_is)
    (case n_Rd_spot => k_is)
    (case n_Rd_rods => k_is)
    (case n_Rd_hooks => k_is)
    (case pg_D => k_is)
    (case hd_D => k_is)
    (case po_D => k_is)
    (case sa_D => k_is)
    (case mk_D => k_is)
    (case kc_D => k_is)
    (case n_D_shape => k_is)
    (case n_D_weights => k_is)
    (case a_div => k_is)
    (case l_div => k_is)
    (case c_div => k_is)
    (case k_div => k_is)
    (case a_ends => k_is)
    (case l_ends => k_is)
    (case c_ends => k_is)
    (case k_ends => k_is)
    (case a_pull => k_is)
    (case l_pull => k_is)
    (case c_pull => k_is)
    (case k_pull => k_is)
    (case a_scaled => k_is)
    (case l_scaled => k_is)
    (case c_scaled => k_is)
    (case k_scaled => k_is)
    (case a_lev => k_is)
    (case l_lev => k_is)
    (case c_lev => k_is)
    (case k_lev => k_is)
    (case a_leastW => k_is)
    (case l_leastW => k_is)
    (case c_leastW => k_is)
    (case k_leastW => k_is)
    (case a_timesAt => k_is)
    (case l_timesAt => k_is)
    (case c_timesAt => k_is)
    (case k_timesAt => k_is)
    (case a_allT => k_is)
    (case l_allT => k_is)
    (case c_allT => k_is)
    (case k_allT => k_is)
    (case a_comm => k_is)
    (case l_comm => k_is)
    (case c_comm => k_is)
    (case k_comm => k_is)
    (case a_best => k_is)
    (case l_best => k_is)
    (case c_best => k_is)
    (case k_best => k_is)
    (case a_armsW => k_is)
    (case l_armsW => k_is)
    (case c_armsW => k_is)
    (case k_armsW => k_is)
    (case a_waysOf => k_is)
    (case l_waysOf => k_is)
    (case c_waysOf => k_is)
    (case k_waysOf => k_is)
    (case a_want => k_is)
    (case l_want => k_is)
    (case c_want => k_is)
    (case k_want => k_is)
    (case a_isArm => k_is)
    (case l_isArm => k_is)
    (case c_isArm => k_is)
    (case k_isArm => k_is)
    (case a_rodR => k_is)
    (case l_rodR => k_is)
    (case c_rodR => k_is)
    (case k_rodR => k_is)
    (case a_mobR => k_is)
    (case l_mobR => k_is)
    (case c_mobR => k_is)
    (case k_mobR => k_is)
    (case a_shapeOf => k_is)
    (case l_shapeOf => k_is)
    (case c_shapeOf => k_is)
    (case k_shapeOf => k_is)
    (case a_withA => k_is)
    (case l_withA => k_is)
    (case c_withA => k_is)
    (case k_withA => k_is)
    (case a_listed => k_is)
    (case l_listed => k_is)
    (case c_listed => k_is)
    (case k_listed => k_is)
    (case a_wantW => k_is)
    (case l_wantW => k_is)
    (case c_wantW => k_is)
    (case k_wantW => k_is)
    (case a_answers => k_is)
    (case l_answers => k_is)
    (case c_answers => k_is)
    (case k_answers => k_is)
    (case a_rodI => k_is)
    (case i_rodI => k_is)
    (case l_rodI => k_is)
    (case c_rodI => k_is)
    (case k_rodI => k_is)
    (case a_shapeI => k_is)
    (case i_shapeI => k_is)
    (case l_shapeI => k_is)
    (case c_shapeI => k_is)
    (case k_shapeI => k_is)
    (case a_readI => k_is)
    (case i_readI => k_is)
    (case l_readI => k_is)
    (case c_readI => k_is)
    (case k_readI => k_is)
    (case a_dkI => k_is)
    (case i_dkI => k_is)
    (case l_dkI => k_is)
    (case c_dkI => k_is)
    (case k_dkI => k_is)
    (case a_take => k_is)
    (case i_take => k_is)
    (case l_take => k_is)
    (case c_take => k_is)
    (case k_take => k_is)
    (case a_begins => k_is)
    (case i_begins => k_is)
    (case l_begins => k_is)
    (case c_begins => k_is)
    (case k_begins => k_is)
    (case a_wantH => k_is)
    (case i_wantH => k_is)
    (case l_wantH => k_is)
    (case c_wantH => k_is)
    (case k_wantH => k_is)
    (case a_hang => k_is)
    (case i_hang => k_is)
    (case l_hang => k_is)
    (case c_hang => k_is)
    (case k_hang => k_is)
    (case a_arms => k_is)
    (case i_arms => k_is)
    (case l_arms => k_is)
    (case c_arms => k_is)
    (case k_arms => k_is)
    (case a_pulls => k_is)
    (case i_pulls => k_is)
    (case l_pulls => k_is)
    (case c_pulls => k_is)
    (case k_pulls => k_is)
    (case a_least => k_is)
    (case i_least => k_is)
    (case l_least => k_is)
    (case c_least => k_is)
    (case k_least => k_is)
    (case a_scale => k_is)
    (case i_scale => k_is)
    (case l_scale => k_is)
    (case c_scale => k_is)
    (case k_scale => k_is)
    (case a_up => k_is)
    (case i_up => k_is)
    (case l_up => k_is)
    (case c_up => k_is)
    (case k_up => k_is)
    (case a_mend => k_is)
    (case i_mend => k_is)
    (case l_mend => k_is)
    (case c_mend => k_is)
    (case k_mend => k_is)
    (case a_wants => k_is)
    (case i_wants => k_is)
    (case l_wants => k_is)
    (case c_wants => k_is)
    (case k_wants => k_is)
    (case a_ways => k_is)
    (case i_ways => k_is)
    (case l_ways => k_is)
    (case c_ways => k_is)
    (case k_ways => k_is)
    (case a_missing => k_is)
    (case i_missing => k_is)
    (case l_missing => k_is)
    (case c_missing => k_is)
    (case k_missing => k_is)
    (case a_state => k_is)
    (case i_state => k_is)
    (case l_state => k_is)
    (case c_state => k_is)
    (case k_state => k_is)
    (case a_early => k_is)
    (case i_early => k_is)
    (case l_early => k_is)
    (case c_early => k_is)
    (case k_early => k_is)
    (case a_late => k_is)
    (case i_late => k_is)
    (case l_late => k_is)
    (case c_late => k_is)
    (case k_late => k_is)
    (case a_answer => k_is)
    (case i_answer => k_is)
    (case l_answer => k_is)
    (case c_answer => k_is)
    (case k_answer => k_is)
    (case xE => k_is)
    (case saE => k_is)
    (case gaE => k_is)
    (case ggE => k_is)
    (case nE => k_is)
    (case a_refI => k_is)
    (case t_refI => k_is)
    (case l_refI => k_is)
    (case c_refI => k_is)
    (case k_refI => k_is)
    (case kE => k_is)
    (case eE => k_is)
    (case tE => k_is)
    (case hE => k_is)
    (case iE => k_is)
    (case sE => first | rfl | k_is)
    (case vV => first | rfl | k_is | decide +kernel)
    (case z_sum => k_is)
    (case z_reversed => k_is)
    (case z_zip => k_is)
    (case z_all => k_is)
    (case z_max => k_is)
    (case z_min => k_is)
    (case z_sorted => k_is)
    (case z_len => k_is)
    (case z_list => k_is)
    (case z_range => k_is)
    (case z_int => k_is)
    (case z_ValueError => k_is)
    (case v_BAD => k_is)
    (case v_NOT_THERE => k_is)
    (case v_LACKING => k_is)
    (case v_TOO_MANY => k_is)
    (case v_NONE_SUCH => k_is)
    (case v_HOOK => k_is)
    (case v_LONGEST_ARM => k_is)
    (case v_MOST_HOOKS => k_is)
    (case v_GREATEST_WEIGHT => k_is)
    (case gF => k_is)
    (case lF => k_is)
    (case lq0 => k_is)
    (case lq1 => k_is)
    (case lq2 => k_is)
    (case lq3 => k_is)
    (case lq4 => k_is)
    (case lq5 => k_is)
    (case lq6 => k_is)
    (case lq7 => k_is)
    (case lq8 => k_is)
    (case lq9 => k_is)
    (case lq10 => k_is)
    (case lq11 => k_is)
  case S =>
    intro K H xs a hO hwi hask hx
    cases hx with
    | cons h1 h2 =>
      cases h2
      cases h1 with
      | lst hs ha =>
        have e := L2.ints_dw a.1 _ ha
        subst e
        have q : ((Codec.inLen 0 6000 a.1 && a.1.all (Codec.inInt 0 4294967295)) && true) = true := hwi
        rw [Bool.and_eq_true, Bool.and_eq_true] at q
        obtain ⟨L, hL, cs, ak⟩ := Mob.asked_of (l := a.1) (Codec.inNat_iff.mp q.1.1).2 q.1.2 hask
        have eL : a.1 = Sy65.ints L := hL
        refine ⟨_, L, cs, rfl, ?_, ak, fun H' p hp => ?_⟩
        · rw [eL] at hs
          exact hs
        · rw [← eL] at hp
          exact .lst (L2.SqL.of hp) (L2.dw_ints _)
#print axioms PySem.Challenge.cw_hungmobile_s01_answers_holds
