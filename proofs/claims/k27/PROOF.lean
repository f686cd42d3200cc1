import PyProof.Rows.All
import Wide.All
import OpenK.AllK
import Wide.FinOn
import HandS.ForMost
import HandS.Walk
import HandS.Deep
import HandS.Wide
import HandS.Flow
import HandS.TupLe
import HandS.SortRule
import HandS.IsInst
import HandS.Lambda
import KE.SortKeyHeap
import KE.DataMinMax
import KE.KTupSum
import KE.GoesEnum
import HandS.Conv
import HandS.Nested
import HandS.Sort
import KE.DataCmp
import HandS.NestedK
import HandS.HeadHook1
import HandS.HeadHook2
import HandS.HeadHook3
import HandS.HeadHook4
import HandS.EndTab
import HandS.HeadWalk
import KE.KStateDown
import HandS.Head0
import HandS.Head1
import HandS.Head2
import HandS.Ends
import HandS.EndBits
import PySem.Challenge.RW_tallyweb_k27_whole_pairs_of_great_webs
set_option Elab.async false
set_option maxHeartbeats 1000000
/-! sums over range, graphs, degrees, the easy half of Erdos-Gallai -/
namespace TW
def sg : Nat → (Nat → Int) → Int
  | 0, _ => 0
  | n + 1, f => sg n f + f n
theorem sg_congr {n : Nat} {f g : Nat → Int} (h : ∀ i, i < n → f i = g i) : sg n f = sg n g := by
  induction n with
  | zero => rfl
  | succ n ih => simp only [sg]; rw [ih (fun i hi => h i (by omega)), h n (by omega)]
theorem sg_add (n : Nat) (f g : Nat → Int) : sg n (fun i => f i + g i) = sg n f + sg n g := by
  induction n with
  | zero => rfl
  | succ n ih => simp only [sg]; rw [ih]; omega
theorem sg_sub (n : Nat) (f g : Nat → Int) : sg n (fun i => f i - g i) = sg n f - sg n g := by
  induction n with
  | zero => rfl
  | succ n ih => simp only [sg]; rw [ih]; omega
theorem sg_mul (n : Nat) (c : Int) (f : Nat → Int) : sg n (fun i => c * f i) = c * sg n f := by
  induction n with
  | zero => simp [sg]
  | succ n ih => simp only [sg]; rw [ih, Int.mul_add]
theorem sg_mulr (n : Nat) (c : Int) (f : Nat → Int) : sg n (fun i => f i * c) = sg n f * c := by
  induction n with
  | zero => simp [sg]
  | succ n ih => simp only [sg]; rw [ih, Int.add_mul]
theorem sg_zero (n : Nat) : sg n (fun _ => 0) = 0 := by
  induction n with
  | zero => rfl
  | succ n ih => simp only [sg]; rw [ih]; rfl
theorem sg_const (n : Nat) (c : Int) : sg n (fun _ => c) = n * c := by
  induction n with
  | zero => simp [sg]
  | succ n ih => simp only [sg]; rw [ih, Int.natCast_succ, Int.add_mul]; omega
theorem sg_mono {n : Nat} {f g : Nat → Int} (h : ∀ i, i < n → f i ≤ g i) : sg n f ≤ sg n g := by
  induction n with
  | zero => exact Int.le_refl _
  | succ n ih =>
    have h1 := ih (fun i hi => h i (by omega))
    have h2 := h n (by omega)
    simp only [sg]
    omega
theorem sg_nonneg {n : Nat} {f : Nat → Int} (h : ∀ i, i < n → 0 ≤ f i) : 0 ≤ sg n f := by
  have := sg_mono (f := fun _ => 0) (g := f) h
  rw [sg_zero] at this
  exact this
theorem sg_swap (n m : Nat) (f : Nat → Nat → Int) : sg n (fun i => sg m (fun j => f i j)) = sg m (fun j => sg n (fun i => f i j)) := by
  induction n with
  | zero => simp only [sg]; rw [sg_zero]
  | succ n ih =>
    simp only [sg]
    rw [ih, ← sg_add]
/-- the indicator -/
def b2 (b : Bool) : Int := if b then 1 else 0
theorem b2_true : b2 true = 1 := rfl
theorem b2_false : b2 false = 0 := rfl
theorem b2_nonneg (b : Bool) : 0 ≤ b2 b := by cases b <;> decide
theorem b2_le (b : Bool) : b2 b ≤ 1 := by cases b <;> decide
theorem sg_one {n k : Nat} (hk : k < n) (c : Int) : sg n (fun i => if i = k then c else 0) = c := by
  induction n with
  | zero => omega
  | succ n ih =>
    simp only [sg]
    by_cases e : n = k
    · subst e
      have : sg n (fun i => if i = n then c else 0) = sg n (fun _ => 0) := sg_congr fun i hi => if_neg (by omega)
      rw [this, sg_zero, if_pos rfl]
      omega
    · rw [ih (by omega), if_neg e]
      omega
theorem sg_pt {n k : Nat} {f : Nat → Int} (hk : k < n) (h : ∀ i, i < n → 0 ≤ f i) : f k ≤ sg n f := by
  have h1 := sg_one hk (f k)
  rw [← h1]
  refine sg_mono fun i hi => ?_
  split
  · rename_i e; rw [e]; omega
  · exact h i hi
theorem sg_zero_of {n : Nat} {f : Nat → Int} (h : ∀ i, i < n → 0 ≤ f i) (z : sg n f ≤ 0) : ∀ i, i < n → f i = 0 := fun i hi => by
  have := sg_pt hi h
  have := h i hi
  omega
/-! ### graphs -/
structure Gr (n : Nat) (g : Nat → Nat → Bool) : Prop where
  sym : ∀ i j, g i j = g j i
  irr : ∀ i, g i i = false
  bnd : ∀ i j, g i j = true → i < n
theorem Gr.bnd2 {n : Nat} {g : Nat → Nat → Bool} (G : Gr n g) {i j : Nat} (h : g i j = true) : j < n := G.bnd j i (by rw [G.sym]; exact h)
theorem Gr.ne {n : Nat} {g : Nat → Nat → Bool} (G : Gr n g) {i j : Nat} (h : g i j = true) : i ≠ j := fun e => by
  subst e
  rw [G.irr] at h
  cases h
def dg (n : Nat) (g : Nat → Nat → Bool) (v : Nat) : Int := sg n (fun u => b2 (g v u))
theorem dg_nonneg (n : Nat) (g : Nat → Nat → Bool) (v : Nat) : 0 ≤ dg n g v := sg_nonneg fun _ _ => b2_nonneg _
/-- one pair's tie set -/
def flip (g : Nat → Nat → Bool) (i j : Nat) (b : Bool) : Nat → Nat → Bool := fun x y => if (x = i ∧ y = j) ∨ (x = j ∧ y = i) then b else g x y
theorem flip_gr {n : Nat} {g : Nat → Nat → Bool} (G : Gr n g) {i j : Nat} {b : Bool} (hi : i < n) (hj : j < n) (hne : i ≠ j) : Gr n (flip g i j b) := by
  refine ⟨fun x y => ?_, fun x => ?_, fun x y h => ?_⟩
  · unfold flip
    by_cases h : (x = i ∧ y = j) ∨ (x = j ∧ y = i)
    · rw [if_pos h, if_pos (by omega)]
    · rw [if_neg h, if_neg (by omega)]
      exact G.sym x y
  · unfold flip
    rw [if_neg (by omega)]
    exact G.irr x
  · unfold flip at h
    split at h
    · omega
    · exact G.bnd x y h
theorem flip_at (g : Nat → Nat → Bool) (i j : Nat) (b : Bool) : flip g i j b i j = b := by unfold flip; rw [if_pos (by omega)]
theorem flip_at' (g : Nat → Nat → Bool) (i j : Nat) (b : Bool) : flip g i j b j i = b := by unfold flip; rw [if_pos (by omega)]
theorem flip_ne {g : Nat → Nat → Bool} {i j x y : Nat} {b : Bool} (h : ¬ ((x = i ∧ y = j) ∨ (x = j ∧ y = i))) : flip g i j b x y = g x y := by unfold flip; rw [if_neg h]
theorem dg_flip {n : Nat} {g : Nat → Nat → Bool} (G : Gr n g) {i j : Nat} {b : Bool} (hi : i < n) (hj : j < n) (hne : i ≠ j) (v : Nat) :
    dg n (flip g i j b) v = dg n g v + (b2 b - b2 (g i j)) * ((if v = i then 1 else 0) + (if v = j then 1 else 0)) := by
  unfold dg
  have key : ∀ u, u < n → b2 (flip g i j b v u) = b2 (g v u) + ((if u = j then (if v = i then (b2 b - b2 (g i j)) else 0) else 0) + (if u = i then (if v = j then (b2 b - b2 (g i j)) else 0) else 0)) := by
    intro u _
    by_cases h : (v = i ∧ u = j) ∨ (v = j ∧ u = i)
    · unfold flip
      rw [if_pos h]
      rcases h with ⟨rfl, rfl⟩ | ⟨rfl, rfl⟩
      · rw [if_pos rfl, if_pos rfl, if_neg (by omega)]
        omega
      · rw [if_neg (by omega), if_pos rfl, if_pos rfl, G.sym v u]
        omega
    · rw [flip_ne h]
      by_cases h1 : u = j
      · rw [if_pos h1, if_neg (by omega), if_neg (by omega)]
        omega
      · rw [if_neg h1]
        by_cases h2 : u = i
        · rw [if_pos h2, if_neg (by omega)]
          omega
        · rw [if_neg h2]
          omega
  rw [sg_congr key, sg_add, sg_add, sg_one hj, sg_one hi]
  split <;> split <;> omega
/-- two ties go out, two come in: the degrees stay -/
def swp (g : Nat → Nat → Bool) (a b c d : Nat) : Nat → Nat → Bool := flip (flip (flip (flip g a b false) c d false) a d true) c b true
theorem swp_gr {n : Nat} {g : Nat → Nat → Bool} (G : Gr n g) {a b c d : Nat} (hab : g a b = true) (hcd : g c d = true) (had : a ≠ d) (hcb : c ≠ b) : Gr n (swp g a b c d) :=
  have ha := G.bnd _ _ hab
  have hb := G.bnd2 hab
  have hc := G.bnd _ _ hcd
  have hd := G.bnd2 hcd
  flip_gr (flip_gr (flip_gr (flip_gr G ha hb (G.ne hab)) hc hd (G.ne hcd)) ha hd had) hc hb hcb
theorem swp_dg {n : Nat} {g : Nat → Nat → Bool} (G : Gr n g) {a b c d : Nat} (hab : g a b = true) (hcd : g c d = true) (had : a ≠ d) (hcb : c ≠ b) (nad : g a d = false) (ncb : g c b = false) (v : Nat) : dg n (swp g a b c d) v = dg n g v := by
  have ha := G.bnd _ _ hab
  have hb := G.bnd2 hab
  have hc := G.bnd _ _ hcd
  have hd := G.bnd2 hcd
  have nab := G.ne hab
  have ncd := G.ne hcd
  have hac : a ≠ c := fun e => by subst e; rw [hcd] at nad; cases nad
  have hbd : b ≠ d := fun e => by subst e; rw [hab] at nad; cases nad
  have G1 := flip_gr G (b := false) ha hb nab
  have G2 := flip_gr G1 (b := false) hc hd ncd
  have G3 := flip_gr G2 (b := true) ha hd had
  unfold swp
  rw [dg_flip G3 hc hb hcb, dg_flip G2 ha hd had, dg_flip G1 hc hd ncd, dg_flip G ha hb nab]
  have e1 : flip g a b false c d = true := by rw [flip_ne (by omega)]; exact hcd
  have e2 : flip (flip g a b false) c d false a d = false := by rw [flip_ne (by omega), flip_ne (by omega)]; exact nad
  have e3 : flip (flip (flip g a b false) c d false) a d true c b = false := by rw [flip_ne (by omega), flip_ne (by omega), flip_ne (by omega)]; exact ncb
  rw [e1, e2, e3, hab]
  simp only [b2_true, b2_false]
  generalize (if v = a then (1 : Int) else 0) = p
  generalize (if v = b then (1 : Int) else 0) = q
  generalize (if v = c then (1 : Int) else 0) = r
  generalize (if v = d then (1 : Int) else 0) = t
  omega
theorem swp_out {g : Nat → Nat → Bool} {a b c d x y : Nat} (h : ¬ ((x = a ∨ x = c) ∧ (y = b ∨ y = d)) ∧ ¬ ((y = a ∨ y = c) ∧ (x = b ∨ x = d))) : swp g a b c d x y = g x y := by
  unfold swp
  rw [flip_ne (by omega), flip_ne (by omega), flip_ne (by omega), flip_ne (by omega)]
theorem swp_ab {g : Nat → Nat → Bool} {a b c d : Nat} (h1 : a ≠ c) (h2 : b ≠ d) (h3 : a ≠ d) (h4 : c ≠ b) (h5 : a ≠ b): swp g a b c d a b = false := by
  unfold swp
  rw [flip_ne (by omega), flip_ne (by omega), flip_ne (by omega), flip_at]
theorem swp_ad {g : Nat → Nat → Bool} {a b c d : Nat} (h1 : a ≠ c) (h2 : b ≠ d) (h5 : a ≠ b) : swp g a b c d a d = true := by
  unfold swp
  rw [flip_ne (by omega), flip_at]
/-- where w's neighbour x is none of v's, and v has as many: v has a neighbour that is none of w's -/
theorem other_nb {n : Nat} {g : Nat → Nat → Bool} (G : Gr n g) {v w x : Nat} (hv : v < n) (hw : w < n) (hvw : v ≠ w) (h1 : g w x = true) (h2 : g v x = false) (hx : x ≠ v) (hd : dg n g w ≤ dg n g v) : ∃ u, g v u = true ∧ g w u = false ∧ u ≠ w := by
  apply Classical.byContradiction
  intro hn
  have hxn := G.bnd2 h1
  have hxw : x ≠ w := (G.ne h1).symm
  have key : ∀ u, u < n → b2 (g v u) + (if u = x then 1 else 0) + (if u = v then b2 (g v w) else 0) ≤ b2 (g w u) + (if u = w then b2 (g v w) else 0) := by
    intro u _
    by_cases e1 : u = v
    · subst e1
      rw [G.irr, if_pos rfl, if_neg (by omega), if_neg (by omega), G.sym w u]
      simp only [b2_false]
      omega
    · by_cases e2 : u = w
      · subst e2
        rw [if_neg (by omega), if_neg e1, if_pos rfl, G.irr]
        simp only [b2_false]
        omega
      · rw [if_neg e1, if_neg e2]
        by_cases e3 : u = x
        · subst e3
          rw [h1, h2, if_pos rfl]
          decide
        · rw [if_neg e3]
          cases hgv : g v u with
          | false =>
            have := b2_nonneg (g w u)
            simp only [b2_false]
            omega
          | true =>
            cases hgw : g w u with
            | true => decide
            | false => exact absurd ⟨u, hgv, hgw, e2⟩ hn
  have h := sg_mono key
  rw [sg_add, sg_add, sg_add, sg_one hxn, sg_one hv, sg_one hw] at h
  unfold dg at hd
  omega
/-! ### the easy half -/
/-- how many of the first n -/
def cnt (n : Nat) (A : Nat → Bool) : Int := sg n (fun i => b2 (A i))
/-- the numbers of those -/
def wt (n : Nat) (A : Nat → Bool) (d : Nat → Int) : Int := sg n (fun i => b2 (A i) * d i)
def EG (n : Nat) (d : Nat → Int) : Prop := ∀ A B : Nat → Bool, (∀ i, A i = true → B i = false) → wt n A d - wt n B d ≤ cnt n A * ((n : Int) - 1 - cnt n B)
theorem EG.congr {n : Nat} {d e : Nat → Int} (h : EG n d) (q : ∀ i, i < n → d i = e i) : EG n e := fun A B hAB => by
  have := h A B hAB
  have e1 : ∀ C, wt n C e = wt n C d := fun C => sg_congr fun i hi => by rw [q i hi]
  rw [e1, e1]
  exact this
theorem eg_of_graph {n : Nat} {g : Nat → Nat → Bool} (G : Gr n g) : EG n (dg n g) := by
  intro A B hAB
  -- pointwise
  have key : ∀ i, i < n → sg n (fun j => b2 (A i) * b2 (g i j)) ≤ sg n (fun j => b2 (B j) * b2 (g j i)) + (b2 (A i) * ((n : Int) - 1 - cnt n B)) := by
    intro i hi
    have e1 : b2 (A i) * ((n : Int) - 1 - cnt n B) = sg n (fun j => b2 (A i) * (1 - b2 (B j) - (if j = i then 1 else 0))) := by
      rw [sg_mul, sg_sub, sg_sub, sg_const, sg_one hi]
      unfold cnt
      congr 1
      omega
    rw [e1, ← sg_add]
    refine sg_mono fun j hj => ?_
    cases ha : A i with
    | false =>
      simp only [b2_false, Int.zero_mul, Int.add_zero]
      exact Int.mul_nonneg (b2_nonneg _) (b2_nonneg _)
    | true =>
      cases hb : B j with
      | false =>
        simp only [b2_false, b2_true, Int.zero_mul, Int.one_mul]
        by_cases e : j = i
        · subst e
          rw [if_pos rfl, G.irr]
          decide
        · rw [if_neg e]
          have := b2_le (g i j)
          omega
      | true =>
        have hne : j ≠ i := fun e => by
          subst e
          rw [hAB j ha] at hb
          cases hb
        simp only [b2_true, Int.one_mul]
        rw [if_neg hne, G.sym j i]
        omega
  have h := sg_mono key
  rw [sg_add, sg_mulr] at h
  have e2 : sg n (fun i => sg n (fun j => b2 (A i) * b2 (g i j))) = wt n A (dg n g) := sg_congr fun i _ => by rw [sg_mul]; rfl
  have e3 : sg n (fun i => sg n (fun j => b2 (B j) * b2 (g j i))) = wt n B (dg n g) := by
    rw [sg_swap]
    exact sg_congr fun i _ => by rw [sg_mul]; rfl
  rw [e2, e3] at h
  unfold cnt at h ⊢
  omega
theorem even_of_graph {n : Nat} {g : Nat → Nat → Bool} (G : Gr n g) : sg n (dg n g) % 2 = 0 := by
  -- by the upper triangle
  have aux : ∀ m, m ≤ n → sg m (fun i => sg m (fun j => b2 (g i j))) % 2 = 0 := by
    intro m
    induction m with
    | zero => intro _; rfl
    | succ m ih =>
      intro hm
      have h := ih (by omega)
      have e : sg (m + 1) (fun i => sg (m + 1) (fun j => b2 (g i j))) = sg m (fun i => sg m (fun j => b2 (g i j))) + 2 * sg m (fun i => b2 (g i m)) := by
        simp only [sg]
        rw [sg_add, G.irr, b2_false]
        have : sg m (fun j => b2 (g m j)) = sg m (fun i => b2 (g i m)) := sg_congr fun i _ => by rw [G.sym]
        rw [this]
        omega
      rw [e]
      omega
  exact aux n (Nat.le_refl _)
end TW
set_option Elab.async false
set_option maxHeartbeats 1000000
/-! the hard half of Erdos-Gallai, by Choudum's induction; exchanges; the two laws of pairs -/
namespace TW
theorem cnt_nonneg (n : Nat) (A : Nat → Bool) : 0 ≤ cnt n A := sg_nonneg fun _ _ => b2_nonneg _
theorem wt_nonneg {n : Nat} {A : Nat → Bool} {d : Nat → Int} (h : ∀ i, i < n → 0 ≤ d i) : 0 ≤ wt n A d := sg_nonneg fun i hi => Int.mul_nonneg (b2_nonneg _) (h i hi)
theorem wt_le {n : Nat} {A : Nat → Bool} {d : Nat → Int} {M : Int} (h : ∀ i, i < n → d i ≤ M) : wt n A d ≤ cnt n A * M := by
  unfold wt cnt
  rw [← sg_mulr]
  exact sg_mono fun i hi => Int.mul_le_mul_of_nonneg_left (h i hi) (b2_nonneg _)
/-- one more in, one out -/
def putS (A : Nat → Bool) (k : Nat) (b : Bool) : Nat → Bool := fun i => if i = k then b else A i
theorem cnt_put {n k : Nat} (A : Nat → Bool) (b : Bool) (hk : k < n) : cnt n (putS A k b) = cnt n A + (b2 b - b2 (A k)) := by
  unfold cnt
  rw [← sg_one hk (b2 b - b2 (A k)), ← sg_add]
  refine sg_congr fun i _ => ?_
  unfold putS
  by_cases e : i = k
  · subst e; rw [if_pos rfl, if_pos rfl]; omega
  · rw [if_neg e, if_neg e]; omega
theorem wt_put {n k : Nat} (A : Nat → Bool) (b : Bool) (d : Nat → Int) (hk : k < n) : wt n (putS A k b) d = wt n A d + (b2 b - b2 (A k)) * d k := by
  unfold wt
  rw [← sg_one hk ((b2 b - b2 (A k)) * d k), ← sg_add]
  refine sg_congr fun i _ => ?_
  unfold putS
  by_cases e : i = k
  · subst e; rw [if_pos rfl, if_pos rfl, Int.sub_mul]; omega
  · rw [if_neg e, if_neg e]; omega
/-- d with c more at k -/
def ad (d : Nat → Int) (k : Nat) (c : Int) : Nat → Int := fun i => if i = k then d i + c else d i
theorem ad_at (d : Nat → Int) (k : Nat) (c : Int) : ad d k c k = d k + c := if_pos rfl
theorem ad_ne {d : Nat → Int} {k i : Nat} {c : Int} (h : i ≠ k) : ad d k c i = d i := if_neg h
theorem sg_ad {n k : Nat} (d : Nat → Int) (c : Int) (hk : k < n) : sg n (ad d k c) = sg n d + c := by
  have : sg n (ad d k c) = sg n (fun i => d i + (if i = k then c else 0)) := sg_congr fun i _ => by
    unfold ad
    by_cases e : i = k
    · rw [if_pos e, if_pos e]
    · rw [if_neg e, if_neg e]; omega
  rw [this, sg_add, sg_one hk]
theorem wt_ad {n k : Nat} (A : Nat → Bool) (d : Nat → Int) (c : Int) (hk : k < n) : wt n A (ad d k c) = wt n A d + b2 (A k) * c := by
  unfold wt
  rw [← sg_one hk (b2 (A k) * c), ← sg_add]
  refine sg_congr fun i _ => ?_
  unfold ad
  by_cases e : i = k
  · subst e; rw [if_pos rfl, if_pos rfl, Int.mul_add]
  · rw [if_neg e, if_neg e]; omega
theorem cnt_disj {n : Nat} {A B : Nat → Bool} (h : ∀ i, A i = true → B i = false) : cnt n A + cnt n B ≤ n := by
  unfold cnt
  rw [← sg_add]
  have : sg n (fun i => b2 (A i) + b2 (B i)) ≤ sg n (fun _ => 1) := sg_mono fun i _ => by
    cases ha : A i with
    | false => have := b2_le (B i); simp only [b2_false]; omega
    | true => rw [h i ha]; decide
  rw [sg_const] at this
  omega
theorem wt_disj {n : Nat} {A B : Nat → Bool} {d : Nat → Int} (h : ∀ i, A i = true → B i = false) (hd : ∀ i, i < n → 0 ≤ d i) (e : cnt n A + cnt n B = n) : wt n A d + wt n B d = sg n d := by
  -- every i is in one of them
  have h1 : sg n (fun i => 1 - b2 (A i) - b2 (B i)) = 0 := by
    rw [sg_sub, sg_sub, sg_const]
    unfold cnt at e
    omega
  have h2 := sg_zero_of (f := fun i => 1 - b2 (A i) - b2 (B i)) (fun i _ => by
    cases ha : A i with
    | false => have := b2_le (B i); simp only [b2_false]; omega
    | true => rw [h i ha]; decide) (Int.le_of_eq h1)
  unfold wt
  rw [← sg_add]
  refine sg_congr fun i hi => ?_
  have q := h2 i hi
  rw [← Int.add_mul]
  rw [show b2 (A i) + b2 (B i) = 1 by omega]
  omega
/-- a greatest one -/
theorem greatest : ∀ (n : Nat) (d : Nat → Int), 0 < n → ∃ t, t < n ∧ ∀ i, i < n → d i ≤ d t
  | 0, _, h => by omega
  | 1, d, _ => ⟨0, by omega, fun i hi => by rw [show i = 0 by omega]; exact Int.le_refl _⟩
  | n + 2, d, _ => by
    obtain ⟨t, h1, h2⟩ := greatest (n + 1) d (by omega)
    by_cases e : d t ≤ d (n + 1)
    · refine ⟨n + 1, by omega, fun i hi => ?_⟩
      by_cases e2 : i = n + 1
      · rw [e2]; exact Int.le_refl _
      · exact Int.le_trans (h2 i (by omega)) e
    · refine ⟨t, by omega, fun i hi => ?_⟩
      by_cases e2 : i = n + 1
      · rw [e2]; omega
      · exact h2 i (by omega)
/-- the least of those with a property -/
theorem least_of : ∀ (n : Nat) (d : Nat → Int) (P : Nat → Prop), (∃ s, s < n ∧ P s) → ∃ s, s < n ∧ P s ∧ ∀ i, i < n → P i → d s ≤ d i
  | 0, _, _, h => by obtain ⟨_, h, _⟩ := h; omega
  | n + 1, d, P, h => by
    by_cases hx : ∃ s, s < n ∧ P s
    · obtain ⟨s, h1, h2, h3⟩ := least_of n d P hx
      by_cases e : P n ∧ d n < d s
      · refine ⟨n, by omega, e.1, fun i hi hp => ?_⟩
        by_cases e2 : i = n
        · rw [e2]; exact Int.le_refl _
        · have := h3 i (by omega) hp
          omega
      · refine ⟨s, by omega, h2, fun i hi hp => ?_⟩
        by_cases e2 : i = n
        · subst e2
          have : ¬ d i < d s := fun q => e ⟨hp, q⟩
          omega
        · exact h3 i (by omega) hp
    · obtain ⟨s, h1, h2⟩ := h
      have es : s = n := Classical.byContradiction fun q => hx ⟨s, by omega, h2⟩
      subst es
      exact ⟨s, h1, h2, fun i hi hp => by
        by_cases e2 : i = s
        · rw [e2]; exact Int.le_refl _
        · exact absurd ⟨i, by omega, hp⟩ hx⟩
/-- the step of the induction keeps the condition -/
theorem eg_step {n t s : Nat} {d : Nat → Int} (E : EG n d) (h0 : ∀ i, i < n → 0 ≤ d i) (he : sg n d % 2 = 0) (ht : t < n) (hs : s < n) (hts : s ≠ t) (hmax : ∀ i, i < n → d i ≤ d t) (hpos : 1 ≤ d s) : EG n (ad (ad d t (-1)) s (-1)) := by
  have dt1 : 1 ≤ d t := Int.le_trans hpos (hmax s hs)
  have h0' : ∀ i, i < n → 0 ≤ ad (ad d t (-1)) s (-1) i := fun i hi => by
    by_cases e : i = s
    · subst e; rw [ad_at, ad_ne hts]; omega
    · rw [ad_ne e]
      by_cases e2 : i = t
      · subst e2; rw [ad_at]; omega
      · rw [ad_ne e2]; exact h0 i hi
  have wle : ∀ A, wt n A (ad (ad d t (-1)) s (-1)) = wt n A d - b2 (A t) - b2 (A s) := fun A => by
    rw [wt_ad A _ _ hs, wt_ad A _ _ ht]; omega
  -- the greatest one not among the B
  have part : ∀ A B : Nat → Bool, (∀ i, A i = true → B i = false) → B t = false → wt n A (ad (ad d t (-1)) s (-1)) - wt n B (ad (ad d t (-1)) s (-1)) ≤ cnt n A * ((n : Int) - 1 - cnt n B) := by
    intro A B hAB hB
    have q := E A B hAB
    rw [wle, wle, hB]
    have a1 := b2_nonneg (A t)
    have a2 := b2_nonneg (A s)
    cases hBs : B s with
    | false => simp only [b2_false]; omega
    | true =>
      have hAs : A s = false := by
        cases z : A s with
        | false => rfl
        | true => rw [hAB s z] at hBs; cases hBs
      rw [hAs]
      cases hAt : A t with
      | true => simp only [b2_false, b2_true]; omega
      | false =>
        simp only [b2_false, b2_true]
        apply Classical.byContradiction
        intro hn
        have tight : wt n A d - wt n B d = cnt n A * ((n : Int) - 1 - cnt n B) := by omega
        have q2 := E (putS A t true) B (fun i hi => by
          unfold putS at hi
          by_cases e : i = t
          · rw [e]; exact hB
          · rw [if_neg e] at hi; exact hAB i hi)
        rw [wt_put A true d ht, cnt_put A true ht, hAt] at q2
        simp only [b2_false, b2_true] at q2
        have hM : d t ≤ (n : Int) - 1 - cnt n B := by
          have e1 : (cnt n A + (1 - 0)) * ((n : Int) - 1 - cnt n B) = cnt n A * ((n : Int) - 1 - cnt n B) + ((n : Int) - 1 - cnt n B) := by rw [show (1 : Int) - 0 = 1 by rfl, Int.add_mul, Int.one_mul]
          rw [e1] at q2
          omega
        have hA : wt n A d ≤ cnt n A * ((n : Int) - 1 - cnt n B) := wt_le fun i hi => Int.le_trans (hmax i hi) hM
        have hBw : d s ≤ wt n B d := by
          have z := sg_pt (f := fun i => b2 (B i) * d i) hs fun i hi => Int.mul_nonneg (b2_nonneg _) (h0 i hi)
          have z' : b2 (B s) * d s ≤ wt n B d := z
          rw [hBs, b2_true] at z'
          omega
        omega
  intro A B hAB
  cases hBt : B t with
  | false => exact part A B hAB hBt
  | true =>
    have hAt : A t = false := by
      cases z : A t with
      | false => rfl
      | true => rw [hAB t z] at hBt; cases hBt
    have dis := cnt_disj (n := n) hAB
    have ca := cnt_nonneg n A
    have cb := cnt_nonneg n B
    by_cases hbig : cnt n A ≤ d t - 1
    · have q := part A (putS B t false) (fun i hi => by
        unfold putS
        by_cases e : i = t
        · rw [if_pos e]
        · rw [if_neg e]; exact hAB i hi) (by unfold putS; rw [if_pos rfl])
      rw [wt_put B false _ ht, cnt_put B false ht, hBt, ad_ne hts.symm, ad_at] at q
      simp only [b2_false, b2_true] at q
      have e1 : cnt n A * ((n : Int) - 1 - (cnt n B + (0 - 1))) = cnt n A * ((n : Int) - 1 - cnt n B) + cnt n A := by
        rw [show (n : Int) - 1 - (cnt n B + (0 - 1)) = ((n : Int) - 1 - cnt n B) + 1 by omega, Int.mul_add, Int.mul_one]
      rw [e1] at q
      omega
    · -- few: the greatest number is at most |A|
      have hA : wt n A (ad (ad d t (-1)) s (-1)) ≤ cnt n A * d t := wt_le fun i hi => by
        have := hmax i hi
        by_cases e : i = s
        · subst e; rw [ad_at, ad_ne hts]; omega
        · rw [ad_ne e]
          by_cases e2 : i = t
          · subst e2; rw [ad_at]; omega
          · rw [ad_ne e2]; exact this
      have hB0 : 0 ≤ wt n B (ad (ad d t (-1)) s (-1)) := wt_nonneg h0'
      by_cases hN : d t ≤ (n : Int) - 1 - cnt n B
      · have : cnt n A * d t ≤ cnt n A * ((n : Int) - 1 - cnt n B) := Int.mul_le_mul_of_nonneg_left hN ca
        omega
      · -- A and B are all, |A| = d t
        have ea : cnt n A = d t := by omega
        have en : cnt n A + cnt n B = n := by omega
        have hall := wt_disj (d := ad (ad d t (-1)) s (-1)) hAB h0' en
        rw [sg_ad _ _ hs, sg_ad _ _ ht] at hall
        have hBt1 : d t - 1 ≤ wt n B (ad (ad d t (-1)) s (-1)) := by
          have z := sg_pt (f := fun i => b2 (B i) * ad (ad d t (-1)) s (-1) i) ht fun i hi => Int.mul_nonneg (b2_nonneg _) (h0' i hi)
          have z' : b2 (B t) * ad (ad d t (-1)) s (-1) t ≤ wt n B (ad (ad d t (-1)) s (-1)) := z
          rw [hBt, b2_true, ad_ne hts.symm, ad_at] at z'
          omega
        have e3 : (n : Int) - 1 - cnt n B = d t - 1 := by omega
        rw [e3, ea]
        rw [ea] at hA
        have e4 : d t * (d t - 1) = d t * d t - d t := by rw [Int.mul_sub, Int.mul_one]
        have e5 : (d t * d t - d t) % 2 = 0 := by
          have : d t % 2 = 0 ∨ d t % 2 = 1 := by omega
          rw [← e4]
          rcases this with z | z
          · obtain ⟨k, hk⟩ : ∃ k, d t = 2 * k := ⟨d t / 2, by omega⟩
            rw [hk, Int.mul_assoc]
            omega
          · obtain ⟨k, hk⟩ : ∃ k, d t - 1 = k * 2 := ⟨(d t - 1) / 2, by omega⟩
            rw [hk, ← Int.mul_assoc]
            omega
        rw [e4]
        generalize d t * d t = X at *
        omega
end TW
set_option Elab.async false
set_option maxHeartbeats 1000000
namespace TW
theorem cnt_sing {n t : Nat} (ht : t < n) : cnt n (fun i => decide (i = t)) = 1 := by
  unfold cnt
  refine Eq.trans (sg_congr fun i _ => ?_) (sg_one ht 1)
  show b2 (decide (i = t)) = _
  by_cases e : i = t
  · rw [if_pos e, decide_eq_true e]; rfl
  · rw [if_neg e, decide_eq_false e]; rfl
theorem wt_sing {n t : Nat} (ht : t < n) (d : Nat → Int) : wt n (fun i => decide (i = t)) d = d t := by
  unfold wt
  refine Eq.trans (sg_congr fun i _ => ?_) (sg_one ht (d t))
  show b2 (decide (i = t)) * d i = _
  by_cases e : i = t
  · rw [if_pos e, decide_eq_true e, e, b2_true]; omega
  · rw [if_neg e, decide_eq_false e, b2_false]; omega
/-- no number below nought, an even sum, no room below nought: there is a graph -/
theorem graph_of_eg (n : Nat) : ∀ (k : Nat) (d : Nat → Int), (∀ i, i < n → 0 ≤ d i) → sg n d = 2 * k → EG n d → ∃ g, Gr n g ∧ ∀ v, v < n → dg n g v = d v
  | 0, d, h0, hs, _ => by
    have hz := sg_zero_of h0 (by omega)
    refine ⟨fun _ _ => false, ⟨fun _ _ => rfl, fun _ => rfl, fun _ _ h => (nomatch h)⟩, fun v hv => ?_⟩
    rw [hz v hv]
    exact sg_zero n
  | k + 1, d, h0, hs, E => by
    have hn : 0 < n := by
      cases n with
      | zero => simp only [sg] at hs; omega
      | succ n => omega
    obtain ⟨t, ht, hmax⟩ := greatest n d hn
    have ht1 : 1 ≤ d t := by
      apply Classical.byContradiction
      intro hc
      have : sg n d ≤ sg n (fun _ => 0) := sg_mono fun i hi => by have := hmax i hi; omega
      rw [sg_zero] at this
      omega
    -- another positive one
    have hex : ∃ s, s < n ∧ (s ≠ t ∧ 1 ≤ d s) := by
      apply Classical.byContradiction
      intro hc
      have hz : ∀ i, i < n → i ≠ t → d i = 0 := fun i hi hne => by
        have := h0 i hi
        apply Classical.byContradiction
        intro q
        exact hc ⟨i, hi, hne, by omega⟩
      have q := E (fun i => decide (i = t)) (fun i => !decide (i = t)) (fun i h => by rw [h]; rfl)
      have c1 : cnt n (fun i => decide (i = t)) = 1 := cnt_sing ht
      have c2 : cnt n (fun i => !decide (i = t)) = n - 1 := by
        have : cnt n (fun i => !decide (i = t)) = sg n (fun i => 1 - b2 (decide (i = t))) := sg_congr fun i _ => by
          show b2 (!decide (i = t)) = 1 - b2 (decide (i = t))
          cases decide (i = t) <;> rfl
        have c1' : sg n (fun i => b2 (decide (i = t))) = 1 := cnt_sing ht
        rw [this, sg_sub, sg_const, c1']
        omega
      have w1 : wt n (fun i => decide (i = t)) d = d t := wt_sing ht d
      have w2 : wt n (fun i => !decide (i = t)) d = 0 := by
        unfold wt
        refine Eq.trans (sg_congr fun i hi => ?_) (sg_zero n)
        show b2 (!decide (i = t)) * d i = 0
        by_cases e : i = t
        · rw [decide_eq_true e]; simp only [Bool.not_true, b2_false]; omega
        · rw [hz i hi e]; omega
      rw [c1, c2, w1, w2] at q
      omega
    obtain ⟨s, hs', ⟨hts, hpos⟩, hmin⟩ := least_of n d (fun s => s ≠ t ∧ 1 ≤ d s) hex
    have E' := eg_step E h0 (by omega) ht hs' hts hmax hpos
    have d't : ad (ad d t (-1)) s (-1) t = d t - 1 := by rw [ad_ne hts.symm, ad_at]; rfl
    have d's : ad (ad d t (-1)) s (-1) s = d s - 1 := by rw [ad_at, ad_ne hts]; rfl
    have d'o : ∀ i, i ≠ t → i ≠ s → ad (ad d t (-1)) s (-1) i = d i := fun i h1 h2 => by rw [ad_ne h2, ad_ne h1]
    obtain ⟨g, G, hg⟩ := graph_of_eg n k (ad (ad d t (-1)) s (-1)) (fun i hi => by
      by_cases e1 : i = t
      · rw [e1, d't]; omega
      · by_cases e2 : i = s
        · rw [e2, d's]; omega
        · rw [d'o i e1 e2]; exact h0 i hi) (by rw [sg_ad _ _ hs', sg_ad _ _ ht]; omega) E'
    -- a graph of the lessened one without the tie
    have hno : ∃ g, Gr n g ∧ (∀ v, v < n → dg n g v = ad (ad d t (-1)) s (-1) v) ∧ g t s = false := by
      cases hts2 : g t s with
      | false => exact ⟨g, G, hg, hts2⟩
      | true =>
        -- a positive place that is not tied to t
        have hm : ∃ m, m < n ∧ m ≠ t ∧ g t m = false ∧ 1 ≤ d m := by
          apply Classical.byContradiction
          intro hc
          have all : ∀ i, i < n → i ≠ t → 1 ≤ d i → g t i = true := fun i hi hne hp => by
            cases z : g t i with
            | true => rfl
            | false => exact absurd ⟨i, hi, hne, z, hp⟩ hc
          -- t with the zeros
          have q := E (fun i => decide (i = t)) (fun i => decide (i ≠ t ∧ d i ≤ 0)) (fun i h => decide_eq_false fun z => z.1 (of_decide_eq_true h))
          have c1 : cnt n (fun i => decide (i = t)) = 1 := cnt_sing ht
          have w1 : wt n (fun i => decide (i = t)) d = d t := wt_sing ht d
          have w2 : wt n (fun i => decide (i ≠ t ∧ d i ≤ 0)) d = 0 := by
            unfold wt
            refine Eq.trans (sg_congr fun i hi => ?_) (sg_zero n)
            show b2 (decide (i ≠ t ∧ d i ≤ 0)) * d i = 0
            by_cases e : i ≠ t ∧ d i ≤ 0
            · have := h0 i hi
              rw [show d i = 0 by omega]
              omega
            · rw [decide_eq_false e]; simp only [b2_false]; omega
          rw [c1, w1, w2] at q
          have dt := hg t ht
          rw [d't] at dt
          have low : sg n (fun i => 1 - b2 (decide (i ≠ t ∧ d i ≤ 0)) - b2 (decide (i = t))) ≤ dg n g t := sg_mono fun i hi => by
            by_cases e : i = t
            · subst e
              rw [G.irr, decide_eq_true rfl, decide_eq_false (by omega)]
              decide
            · by_cases e2 : d i ≤ 0
              · rw [decide_eq_true ⟨e, e2⟩, decide_eq_false e]
                have := b2_nonneg (g t i)
                simp only [b2_true, b2_false]
                omega
              · rw [all i hi e (by omega), decide_eq_false e, decide_eq_false (by omega)]
                decide
          have c1' : sg n (fun i => b2 (decide (i = t))) = 1 := cnt_sing ht
          have c2' : cnt n (fun i => decide (i ≠ t ∧ d i ≤ 0)) = sg n (fun i => b2 (decide (i ≠ t ∧ d i ≤ 0))) := rfl
          rw [sg_sub, sg_sub, sg_const, c1'] at low
          rw [c2'] at q
          omega
        obtain ⟨m, hmn, hmt, hgm, hdm⟩ := hm
        have hms : m ≠ s := fun e => by rw [e, hts2] at hgm; cases hgm
        have hdeg : dg n g s ≤ dg n g m := by
          rw [hg s hs', hg m hmn, d's, d'o m hmt hms]
          have := hmin m hmn ⟨hmt, hdm⟩
          omega
        obtain ⟨u, h1, h2, h3⟩ := other_nb G hmn hs' hms (x := t) (by rw [G.sym]; exact hts2) (by rw [G.sym]; exact hgm) hmt.symm hdeg
        -- t-s, m-u out; t-u.. : swp t s u m: t s and u m out; t m and u s in
        have hum : g u m = true := by rw [G.sym]; exact h1
        have hus : g u s = false := by rw [G.sym]; exact h2
        have hut : t ≠ u := fun e => by rw [e, hus] at hts2; cases hts2
        refine ⟨swp g t s u m, swp_gr G hts2 hum hmt.symm h3, fun v hv => ?_, swp_ab hut hms.symm hmt.symm h3 hts.symm⟩
        rw [swp_dg G hts2 hum hmt.symm h3 hgm hus]
        exact hg v hv
    obtain ⟨g1, G1, hg1, hno1⟩ := hno
    refine ⟨flip g1 t s true, flip_gr G1 ht hs' hts.symm, fun v hv => ?_⟩
    rw [dg_flip G1 ht hs' hts.symm, hno1, hg1 v hv]
    simp only [b2_true, b2_false]
    by_cases e1 : v = t
    · subst e1
      rw [if_pos rfl, if_neg hts.symm, d't]
      omega
    · by_cases e2 : v = s
      · subst e2
        rw [if_pos rfl, if_neg e1, d's]
        omega
      · rw [if_neg e1, if_neg e2, d'o v e1 e2]
        omega
/-! ### exchanges at one place -/
/-- v's ties to the candidates C turned to the told ones T, as many, all of which have no lesser degrees -/
theorem hh_exchange {n : Nat} (v : Nat) (hv : v < n) (C T : Nat → Bool) (hC : C v = false) : ∀ (k : Nat) (g : Nat → Nat → Bool), Gr n g → (∀ x, C x = true → x < n) →
    (∀ p q, C p = true → C q = true → T p = true → T q = false → dg n g q ≤ dg n g p) →
    sg n (fun x => b2 (C x && T x)) = sg n (fun x => b2 (C x && g v x)) →
    sg n (fun x => b2 (C x && (T x && !g v x))) = k →
    ∃ g', Gr n g' ∧ (∀ u, dg n g' u = dg n g u) ∧ (∀ x, C x = true → g' v x = T x) ∧ ∀ x, C x = false → g' v x = g v x
  | 0, g, G, hCn, hord, hcnt, hk => by
    refine ⟨g, G, fun _ => rfl, fun x hx => ?_, fun _ _ => rfl⟩
    have hz := sg_zero_of (n := n) (f := fun x => b2 (C x && (T x && !g v x))) (fun _ _ => b2_nonneg _) (by omega)
    -- T within g's, as many: the same
    have hsub : ∀ x, x < n → b2 (C x && T x) ≤ b2 (C x && g v x) := fun x hx => by
      have := hz x hx
      revert this
      cases C x <;> cases T x <;> cases g v x <;> decide
    have hd : sg n (fun x => b2 (C x && g v x) - b2 (C x && T x)) = 0 := by rw [sg_sub]; omega
    have he := sg_zero_of (f := fun x => b2 (C x && g v x) - b2 (C x && T x)) (fun x hx => by have := hsub x hx; omega) (by omega) x (hCn x hx)
    revert he
    rw [hx]
    cases T x <;> cases g v x <;> decide
  | k + 1, g, G, hCn, hord, hcnt, hk => by
    -- one of T that is not tied, one not of T that is
    obtain ⟨p, hp⟩ : ∃ p, p < n ∧ C p = true ∧ T p = true ∧ g v p = false := by
      apply Classical.byContradiction
      intro hc
      have : sg n (fun x => b2 (C x && (T x && !g v x))) = sg n (fun _ => 0) := sg_congr fun x hx => by
        cases h1 : C x <;> cases h2 : T x <;> cases h3 : g v x <;> first | rfl | exact absurd ⟨x, hx, h1, h2, h3⟩ hc
      rw [sg_zero] at this
      omega
    obtain ⟨q, hq⟩ : ∃ q, q < n ∧ C q = true ∧ T q = false ∧ g v q = true := by
      apply Classical.byContradiction
      intro hc
      have h1 : sg n (fun x => b2 (C x && g v x) + b2 (C x && (T x && !g v x))) ≤ sg n (fun x => b2 (C x && T x)) := sg_mono fun x hx => by
        cases h1 : C x <;> cases h2 : T x <;> cases h3 : g v x <;> first | decide | exact absurd ⟨x, hx, h1, h2, h3⟩ hc
      rw [sg_add] at h1
      omega
    obtain ⟨hpn, hCp, hTp, hgp⟩ := hp
    obtain ⟨hqn, hCq, hTq, hgq⟩ := hq
    have hpq : p ≠ q := fun e => by rw [e, hTq] at hTp; cases hTp
    have hpv : p ≠ v := fun e => by rw [e, hC] at hCp; cases hCp
    have hqv : q ≠ v := fun e => by rw [e, hC] at hCq; cases hCq
    obtain ⟨u, h1, h2, h3⟩ := other_nb G hpn hqn hpq (x := v) (by rw [G.sym]; exact hgq) (by rw [G.sym]; exact hgp) hpv.symm (hord p q hCp hCq hTp hTq)
    have hup : g u p = true := by rw [G.sym]; exact h1
    have huq : g u q = false := by rw [G.sym]; exact h2
    have huv : v ≠ u := fun e => by rw [e, huq] at hgq; cases hgq
    -- v q and u p out, v p and u q in
    have G1 := swp_gr G hgq hup hpv.symm h3
    have D1 := fun w => swp_dg G hgq hup hpv.symm h3 hgp huq w
    have a1 : swp g v q u p v q = false := swp_ab huv hpq.symm hpv.symm h3 hqv.symm
    have a2 : swp g v q u p v p = true := swp_ad huv hpq.symm hqv.symm
    have a3 : ∀ x, x ≠ p → x ≠ q → swp g v q u p v x = g v x := fun x h4 h5 => swp_out (by omega)
    have e1 : sg n (fun x => b2 (C x && (T x && !swp g v q u p v x))) = k := by
      have : sg n (fun x => b2 (C x && (T x && !swp g v q u p v x))) = sg n (fun x => b2 (C x && (T x && !g v x)) - (if x = p then 1 else 0)) := sg_congr fun x hx => by
        by_cases e : x = p
        · subst e; rw [a2, hCp, hTp, hgp, if_pos rfl]; rfl
        · rw [if_neg e]
          by_cases e2 : x = q
          · subst e2; rw [hTq]; simp
          · rw [a3 x e e2]; omega
      rw [this, sg_sub, sg_one hpn]
      omega
    have e2 : sg n (fun x => b2 (C x && T x)) = sg n (fun x => b2 (C x && swp g v q u p v x)) := by
      have : sg n (fun x => b2 (C x && swp g v q u p v x)) = sg n (fun x => b2 (C x && g v x) + (if x = p then 1 else 0) - (if x = q then 1 else 0)) := sg_congr fun x hx => by
        by_cases e : x = p
        · subst e; rw [a2, hCp, hgp, if_pos rfl, if_neg hpq]; rfl
        · rw [if_neg e]
          by_cases e2 : x = q
          · subst e2; rw [a1, hCq, hgq, if_pos rfl]; rfl
          · rw [a3 x e e2, if_neg e2]; omega
      rw [this, sg_sub, sg_add, sg_one hpn, sg_one hqn]
      omega
    obtain ⟨g', G', hd', hT', hF'⟩ := hh_exchange v hv C T hC k (swp g v q u p) G1 hCn (fun p' q' x1 x2 x3 x4 => by rw [D1, D1]; exact hord p' q' x1 x2 x3 x4) e2 e1
    refine ⟨g', G', fun w => by rw [hd', D1], hT', fun x hx => ?_⟩
    rw [hF' x hx]
    exact a3 x (fun e => by rw [e, hCp] at hx; cases hx) (fun e => by rw [e, hCq] at hx; cases hx)
theorem sg_nat {n : Nat} {f : Nat → Int} (h : ∀ i, i < n → 0 ≤ f i) : ∃ k : Nat, sg n f = k := ⟨(sg n f).toNat, by have := sg_nonneg h; omega⟩
theorem hh_ex {n : Nat} {g : Nat → Nat → Bool} (G : Gr n g) {v : Nat} (hv : v < n) (C T : Nat → Bool) (hC : C v = false) (hCn : ∀ x, C x = true → x < n)
    (hord : ∀ p q, C p = true → C q = true → T p = true → T q = false → dg n g q ≤ dg n g p) (hcnt : sg n (fun x => b2 (C x && T x)) = sg n (fun x => b2 (C x && g v x))) :
    ∃ g', Gr n g' ∧ (∀ u, dg n g' u = dg n g u) ∧ (∀ x, C x = true → g' v x = T x) ∧ ∀ x, C x = false → g' v x = g v x := by
  obtain ⟨k, hk⟩ := sg_nat (n := n) (f := fun x => b2 (C x && (T x && !g v x))) fun _ _ => b2_nonneg _
  exact hh_exchange v hv C T hC k g G hCn hord hcnt hk
/-! ### the laws of pairs -/
/-- G of d with the tie, H of d with one more at both: one of d without the tie -/
theorem without {n : Nat} {g h : Nat → Nat → Bool} (G : Gr n g) (H : Gr n h) {i j : Nat} (hi : i < n) (hj : j < n) (hij : i ≠ j) (hg : g i j = true)
    (hd : ∀ v, v < n → dg n h v = dg n g v + ((if v = i then 1 else 0) + (if v = j then 1 else 0))) : ∃ f, Gr n f ∧ (∀ v, v < n → dg n f v = dg n g v) ∧ f i j = false := by
  by_cases hx : ∃ v, v < n ∧ v ≠ i ∧ g i v = false ∧ dg n g j ≤ dg n g v
  · obtain ⟨v, hvn, hvi, hgv, hdv⟩ := hx
    have hvj : v ≠ j := fun e => by rw [e, hg] at hgv; cases hgv
    obtain ⟨u, h1, h2, h3⟩ := other_nb G hvn hj hvj (x := i) (by rw [G.sym]; exact hg) (by rw [G.sym]; exact hgv) hvi.symm hdv
    have huv : g u v = true := by rw [G.sym]; exact h1
    have huj : g u j = false := by rw [G.sym]; exact h2
    have hiu : i ≠ u := fun e => by rw [e, huj] at hg; cases hg
    exact ⟨swp g i j u v, swp_gr G hg huv hvi.symm h3, fun w _ => swp_dg G hg huv hvi.symm h3 hgv huj w, swp_ab hiu hvj.symm hvi.symm h3 hij⟩
  · have all : ∀ v, v < n → v ≠ i → dg n g j ≤ dg n g v → g i v = true := fun v h1 h2 h3 => by
      cases z : g i v with
      | true => rfl
      | false => exact absurd ⟨v, h1, h2, z, h3⟩ hx
    -- a graph of the greater one with the tie
    have key : ∃ f, Gr n f ∧ (∀ v, dg n f v = dg n h v) ∧ f i j = true := by
      cases hh : h i j with
      | true => exact ⟨h, H, fun _ => rfl, hh⟩
      | false =>
        obtain ⟨v, hv⟩ : ∃ v, v < n ∧ h i v = true ∧ g i v = false := by
          apply Classical.byContradiction
          intro hc
          have : sg n (fun v => b2 (h i v)) ≤ sg n (fun v => b2 (g i v)) := sg_mono fun v hv => by
            cases h1 : h i v <;> cases h2 : g i v <;> first | decide | exact absurd ⟨v, hv, h1, h2⟩ hc
          have q := hd i hi
          rw [if_pos rfl, if_neg hij] at q
          unfold dg at q
          omega
        obtain ⟨hvn, hhv, hgv⟩ := hv
        have hvi : v ≠ i := (H.ne hhv).symm
        have hvj : v ≠ j := fun e => by rw [e, hh] at hhv; cases hhv
        have hlt : dg n g v < dg n g j := by
          apply Classical.byContradiction
          intro q
          have := all v hvn hvi (by omega)
          rw [hgv] at this
          cases this
        have hdeg : dg n h v ≤ dg n h j := by
          rw [hd v hvn, hd j hj, if_neg hvi, if_neg hvj, if_neg hij.symm, if_pos rfl]
          omega
        obtain ⟨u, h1, h2, h3⟩ := other_nb H hj hvn hvj.symm (x := i) (by rw [H.sym]; exact hhv) (by rw [H.sym]; exact hh) hij hdeg
        have huj : h u j = true := by rw [H.sym]; exact h1
        have huv : h u v = false := by rw [H.sym]; exact h2
        have hiu : i ≠ u := fun e => by rw [e, huv] at hhv; cases hhv
        -- i v, u j out; i j, u v in
        exact ⟨swp h i v u j, swp_gr H hhv huj hij h3, fun w => swp_dg H hhv huj hij h3 hh huv w, swp_ad hiu hvj hvi.symm⟩
    obtain ⟨f, F, hf, hfij⟩ := key
    refine ⟨flip f i j false, flip_gr F hi hj hij, fun v hv => ?_, flip_at f i j false⟩
    rw [dg_flip F hi hj hij, hfij, hf, hd v hv]
    simp only [b2_true, b2_false]
    generalize (if v = i then (1 : Int) else 0) = p
    generalize (if v = j then (1 : Int) else 0) = q
    omega
/-- G of d without the tie, H of d with one fewer at both: one of d with the tie -/
theorem withit {n : Nat} {g h : Nat → Nat → Bool} (G : Gr n g) (H : Gr n h) {i j : Nat} (hi : i < n) (hj : j < n) (hij : i ≠ j) (hg : g i j = false)
    (hd : ∀ v, v < n → dg n h v = dg n g v - ((if v = i then 1 else 0) + (if v = j then 1 else 0))) : ∃ f, Gr n f ∧ (∀ v, v < n → dg n f v = dg n g v) ∧ f i j = true := by
  by_cases hx : ∃ v, v < n ∧ g i v = true ∧ dg n g v ≤ dg n g j
  · obtain ⟨v, hvn, hgv, hdv⟩ := hx
    have hvi : v ≠ i := (G.ne hgv).symm
    have hvj : v ≠ j := fun e => by rw [e, hg] at hgv; cases hgv
    obtain ⟨u, h1, h2, h3⟩ := other_nb G hj hvn hvj.symm (x := i) (by rw [G.sym]; exact hgv) (by rw [G.sym]; exact hg) hij hdv
    have huj : g u j = true := by rw [G.sym]; exact h1
    have huv : g u v = false := by rw [G.sym]; exact h2
    have hiu : i ≠ u := fun e => by rw [e, huv] at hgv; cases hgv
    exact ⟨swp g i v u j, swp_gr G hgv huj hij h3, fun w _ => swp_dg G hgv huj hij h3 hg huv w, swp_ad hiu hvj hvi.symm⟩
  · have all : ∀ v, v < n → g i v = true → dg n g j < dg n g v := fun v h1 h2 => by
      apply Classical.byContradiction
      intro q
      exact hx ⟨v, h1, h2, by omega⟩
    have key : ∃ f, Gr n f ∧ (∀ v, dg n f v = dg n h v) ∧ f i j = false := by
      cases hh : h i j with
      | false => exact ⟨h, H, fun _ => rfl, hh⟩
      | true =>
        obtain ⟨v, hv⟩ : ∃ v, v < n ∧ g i v = true ∧ h i v = false := by
          apply Classical.byContradiction
          intro hc
          have : sg n (fun v => b2 (g i v)) ≤ sg n (fun v => b2 (h i v)) := sg_mono fun v hv => by
            cases h1 : g i v <;> cases h2 : h i v <;> first | decide | exact absurd ⟨v, hv, h1, h2⟩ hc
          have q := hd i hi
          rw [if_pos rfl, if_neg hij] at q
          unfold dg at q
          omega
        obtain ⟨hvn, hgv, hhv⟩ := hv
        have hvi : v ≠ i := (G.ne hgv).symm
        have hvj : v ≠ j := fun e => by rw [e, hg] at hgv; cases hgv
        have hlt := all v hvn hgv
        have hdeg : dg n h j ≤ dg n h v := by
          rw [hd v hvn, hd j hj, if_neg hvi, if_neg hvj, if_neg hij.symm, if_pos rfl]
          omega
        obtain ⟨u, h1, h2, h3⟩ := other_nb H hvn hj hvj (x := i) (by rw [H.sym]; exact hh) (by rw [H.sym]; exact hhv) hvi.symm hdeg
        have huv : h u v = true := by rw [H.sym]; exact h1
        have huj : h u j = false := by rw [H.sym]; exact h2
        have hiu : i ≠ u := fun e => by rw [e, huj] at hh; cases hh
        -- i j, u v out; i v, u j in
        exact ⟨swp h i j u v, swp_gr H hh huv hvi.symm h3, fun w => swp_dg H hh huv hvi.symm h3 hhv huj w, swp_ab hiu hvj.symm hvi.symm h3 hij⟩
    obtain ⟨f, F, hf, hfij⟩ := key
    refine ⟨flip f i j true, flip_gr F hi hj hij, fun v hv => ?_, flip_at f i j true⟩
    rw [dg_flip F hi hj hij, hfij, hf, hd v hv]
    simp only [b2_true, b2_false]
    generalize (if v = i then (1 : Int) else 0) = p
    generalize (if v = j then (1 : Int) else 0) = q
    omega
end TW
set_option Elab.async false
set_option maxHeartbeats 1000000
/-! mirrors of order_of, room_at, wall_of; a tally without a wall -/
namespace TW
def lsum (l : List Nat) (f : Nat → Int) : Int := (l.map f).sum
theorem lsum_nil (f : Nat → Int) : lsum [] f = 0 := rfl
theorem lsum_cons (a : Nat) (l : List Nat) (f : Nat → Int) : lsum (a :: l) f = f a + lsum l f := by unfold lsum; rw [List.map_cons, List.sum_cons]
theorem lsum_append (l m : List Nat) (f : Nat → Int) : lsum (l ++ m) f = lsum l f + lsum m f := by
  induction l with
  | nil => rw [List.nil_append, lsum_nil]; omega
  | cons a l ih => rw [List.cons_append, lsum_cons, lsum_cons, ih]; omega
theorem lsum_perm {l m : List Nat} (h : l.Perm m) (f : Nat → Int) : lsum l f = lsum m f := by
  induction h with
  | nil => rfl
  | cons x _ ih => rw [lsum_cons, lsum_cons, ih]
  | swap x y l => rw [lsum_cons, lsum_cons, lsum_cons, lsum_cons]; omega
  | trans _ _ h1 h2 => rw [h1, h2]
theorem lsum_congr {l : List Nat} {f g : Nat → Int} (h : ∀ x ∈ l, f x = g x) : lsum l f = lsum l g := by
  unfold lsum; rw [List.map_congr_left h]
theorem lsum_range (n : Nat) (f : Nat → Int) : lsum (List.range n) f = sg n f := by
  induction n with
  | zero => rfl
  | succ n ih => rw [List.range_succ, lsum_append, ih, lsum_cons, lsum_nil]; simp only [sg]; omega
/-- a part of a list without repeats of the places, by its indicator -/
theorem lsum_part {n : Nat} {a b : List Nat} (h : (a ++ b).Perm (List.range n)) (f : Nat → Int) : lsum a f = sg n (fun x => b2 (decide (x ∈ a)) * f x) := by
  have nd : (a ++ b).Nodup := h.nodup_iff.mpr List.nodup_range
  have h1 : lsum (a ++ b) (fun x => b2 (decide (x ∈ a)) * f x) = lsum a f + 0 := by
    rw [lsum_append]
    have e1 : lsum a (fun x => b2 (decide (x ∈ a)) * f x) = lsum a f := lsum_congr fun x hx => by rw [decide_eq_true hx, b2_true]; omega
    have e2 : lsum b (fun x => b2 (decide (x ∈ a)) * f x) = lsum b (fun _ => 0) := lsum_congr fun x hx => by
      rw [decide_eq_false (fun ha => (List.nodup_append.mp nd).2.2 x ha x hx rfl), b2_false]; omega
    rw [e1, e2]
    have : ∀ l : List Nat, lsum l (fun _ => 0) = 0 := fun l => by
      induction l with
      | nil => rfl
      | cons a l ih => rw [lsum_cons, ih]; rfl
    rw [this]
  rw [lsum_perm h, lsum_range] at h1
  omega
theorem lsum_one (l : List Nat) : lsum l (fun _ => 1) = l.length := by
  induction l with
  | nil => rfl
  | cons a l ih => rw [lsum_cons, ih, List.length_cons]; omega
/-! ### tallies -/
def tv (t : List Int) (i : Nat) : Int := t.getD i 0
theorem tv_lt {t : List Int} {i : Nat} (h : i < t.length) : tv t i = t[i] := by unfold tv; rw [List.getD_eq_getElem?_getD, List.getElem?_eq_getElem h]; rfl
theorem tv_get {t : List Int} {i : Nat} (h : i < t.length) : t[i]? = some (tv t i) := by rw [tv_lt h]; exact List.getElem?_eq_getElem h
theorem tv_cons_succ (a : Int) (t : List Int) (i : Nat) : tv (a :: t) (i + 1) = tv t i := by unfold tv; simp
theorem sg_shift (n : Nat) (f : Nat → Int) : sg (n + 1) f = f 0 + sg n (fun i => f (i + 1)) := by
  induction n with
  | zero => simp [sg]
  | succ n ih => rw [sg, ih]; simp only [sg]; omega
theorem sg_tv : ∀ t : List Int, sg t.length (tv t) = t.sum
  | [] => rfl
  | a :: t => by
    rw [List.length_cons, sg_shift, List.sum_cons, ← sg_tv t]
    congr 1
/-- the order of places: falling numbers, of equal ones the lesser place first -/
def kle (d : Nat → Int) (a b : Nat) : Bool := decide (0 - d a < 0 - d b ∨ (0 - d a = 0 - d b ∧ (a : Int) ≤ b))
theorem kle_trans (d : Nat → Int) (a b c : Nat) (h1 : kle d a b = true) (h2 : kle d b c = true) : kle d a c = true := by
  unfold kle at *
  simp only [decide_eq_true_eq] at *
  omega
theorem kle_total (d : Nat → Int) (a b : Nat) : (kle d a b || kle d b a) = true := by
  unfold kle
  simp only [Bool.or_eq_true, decide_eq_true_eq]
  omega
theorem kle_ge {d : Nat → Int} {a b : Nat} (h : kle d a b = true) : d b ≤ d a := by
  unfold kle at h
  simp only [decide_eq_true_eq] at h
  omega
def byK (d : Nat → Int) (l : List Nat) : List Nat := l.mergeSort (kle d)
theorem byK_perm (d : Nat → Int) (l : List Nat) : (byK d l).Perm l := List.mergeSort_perm _ _
theorem byK_sorted (d : Nat → Int) (l : List Nat) : (byK d l).Pairwise (fun a b => kle d a b = true) := List.pairwise_mergeSort (kle_trans d) (kle_total d) l
theorem byK_top {d : Nat → Int} {l : List Nat} {m p q : Nat} (hp : p ∈ (byK d l).take m) (hq : q ∈ l) (hn : q ∉ (byK d l).take m) : d q ≤ d p := by
  have hq' : q ∈ byK d l := (byK_perm d l).mem_iff.mpr hq
  rw [← List.take_append_drop m (byK d l)] at hq'
  have hd : q ∈ (byK d l).drop m := (List.mem_append.mp hq').resolve_left hn
  have hs := byK_sorted d l
  rw [← List.take_append_drop m (byK d l)] at hs
  exact kle_ge ((List.pairwise_append.mp hs).2.2 p hp q hd)
theorem byK_length (d : Nat → Int) (l : List Nat) : (byK d l).length = l.length := (byK_perm d l).length_eq
def orderOf (t : List Int) : List Nat := byK (tv t) (List.range t.length)
theorem orderOf_perm (t : List Int) : (orderOf t).Perm (List.range t.length) := byK_perm _ _
theorem orderOf_length (t : List Int) : (orderOf t).length = t.length := by unfold orderOf; rw [byK_length, List.length_range]
theorem orderOf_lt {t : List Int} {p : Nat} (h : p ∈ orderOf t) : p < t.length := List.mem_range.mp ((orderOf_perm t).mem_iff.mp h)
theorem orderOf_nodup (t : List Int) : (orderOf t).Nodup := (orderOf_perm t).nodup_iff.mpr List.nodup_range
/-! ### rooms -/
def roomGo (d : Nat → Int) (r : Int) : Nat → List Nat → Int → Int
  | _, [], acc => acc
  | k, p :: l, acc => roomGo d r (k + 1) l (if (k : Int) < r then acc - d p else acc + (if r < d p then r else d p))
def roomOf (t : List Int) (r : Int) : Int := roomGo (tv t) r 0 (orderOf t) (r * (r - 1))
theorem roomGo_eq (d : Nat → Int) (r : Nat) : ∀ (l : List Nat) (k : Nat) (acc : Int), roomGo d r k l acc = acc - lsum (l.take (r - k)) d + lsum (l.drop (r - k)) (fun p => min (d p) r)
  | [], k, acc => by rw [List.take_nil, List.drop_nil, lsum_nil, lsum_nil]; unfold roomGo; omega
  | p :: l, k, acc => by
    unfold roomGo
    rw [roomGo_eq d r l (k + 1)]
    by_cases h : k < r
    · rw [if_pos (by omega), show r - k = (r - (k + 1)) + 1 by omega, List.take_succ_cons, List.drop_succ_cons, lsum_cons]
      omega
    · rw [if_neg (by omega), show r - k = 0 by omega, show r - (k + 1) = 0 by omega, List.take_zero, List.drop_zero, List.take_zero, List.drop_zero, lsum_cons, lsum_nil]
      rw [show (if (r : Int) < d p then (r : Int) else d p) = min (d p) r by split <;> omega]
      omega
/-- the room by the indicator of the first r places -/
theorem room_eq (t : List Int) (r : Nat) : roomOf t r = (r : Int) * ((r : Int) - 1) - wt t.length (fun x => decide (x ∈ (orderOf t).take r)) (fun x => tv t x + min (tv t x) r) + sg t.length (fun x => min (tv t x) r) := by
  unfold roomOf
  rw [roomGo_eq, Nat.sub_zero]
  have hp : ((orderOf t).take r ++ (orderOf t).drop r).Perm (List.range t.length) := by rw [List.take_append_drop]; exact orderOf_perm t
  have e1 := lsum_part hp (tv t)
  have e2 := lsum_part hp (fun x => min (tv t x) r)
  have e3 : lsum ((orderOf t).take r) (fun x => min (tv t x) r) + lsum ((orderOf t).drop r) (fun x => min (tv t x) r) = sg t.length (fun x => min (tv t x) r) := by
    rw [← lsum_append, lsum_perm hp, lsum_range]
  have e4 : wt t.length (fun x => decide (x ∈ (orderOf t).take r)) (fun x => tv t x + min (tv t x) r) = lsum ((orderOf t).take r) (tv t) + lsum ((orderOf t).take r) (fun x => min (tv t x) r) := by
    rw [e1, e2, ← sg_add]
    exact sg_congr fun x _ => by rw [Int.mul_add]
  omega
theorem cnt_take (t : List Int) {r : Nat} (hr : r ≤ t.length) : cnt t.length (fun x => decide (x ∈ (orderOf t).take r)) = r := by
  have hp : ((orderOf t).take r ++ (orderOf t).drop r).Perm (List.range t.length) := by rw [List.take_append_drop]; exact orderOf_perm t
  have e := lsum_part hp (fun _ => 1)
  rw [lsum_one, List.length_take, orderOf_length, Nat.min_eq_left hr] at e
  rw [e]
  exact sg_congr fun x _ => (Int.mul_one _).symm
/-! ### walls -/
inductive Wall where
  | below (k : Nat) | odd | wall (r : Nat)
  deriving DecidableEq
/-- the first r from a on, of m, whose room is below nought -/
def wallFrom (t : List Int) : Nat → Nat → Option Wall
  | _, 0 => none
  | a, m + 1 => if roomOf t a < 0 then some (.wall a) else wallFrom t (a + 1) m
def negFrom : Nat → List Int → Option Wall
  | _, [] => none
  | k, x :: l => if x < 0 then some (.below k) else negFrom (k + 1) l
def wallOf (t : List Int) : Option Wall :=
  match negFrom 0 t with
  | some w => some w
  | none => if Int.fmod t.sum 2 = 1 then some .odd else wallFrom t 1 t.length
theorem wallFrom_none {t : List Int} : ∀ {m a : Nat}, wallFrom t a m = none ↔ ∀ r, a ≤ r → r < a + m → 0 ≤ roomOf t r
  | 0, a => by
    refine ⟨fun _ r h1 h2 => by omega, fun _ => rfl⟩
  | m + 1, a => by
    unfold wallFrom
    by_cases h : roomOf t a < 0
    · rw [if_pos h]
      refine ⟨fun z => (by cases z), fun z => ?_⟩
      have := z a (Nat.le_refl _) (by omega)
      omega
    · rw [if_neg h, wallFrom_none (m := m) (a := a + 1)]
      refine ⟨fun z r h1 h2 => ?_, fun z r h1 h2 => z r (by omega) (by omega)⟩
      by_cases e : r = a
      · subst e; omega
      · exact z r (by omega) (by omega)
theorem negFrom_none : ∀ {l : List Int} {k : Nat}, negFrom k l = none ↔ ∀ x ∈ l, 0 ≤ x
  | [], k => by simp [negFrom]
  | x :: l, k => by
    unfold negFrom
    by_cases h : x < 0
    · rw [if_pos h]
      refine ⟨fun z => (by cases z), fun z => ?_⟩
      have := z x (List.mem_cons_self ..)
      omega
    · rw [if_neg h, negFrom_none]
      refine ⟨fun z y hy => ?_, fun z y hy => z y (List.mem_cons_of_mem _ hy)⟩
      rcases List.mem_cons.mp hy with rfl | hy
      · omega
      · exact z y hy
theorem wallOf_none {t : List Int} : wallOf t = none ↔ (∀ x ∈ t, 0 ≤ x) ∧ t.sum % 2 = 0 ∧ ∀ r : Nat, 1 ≤ r → r ≤ t.length → 0 ≤ roomOf t r := by
  have hfm : Int.fmod t.sum 2 = t.sum % 2 := Int.fmod_eq_emod_of_nonneg _ (by omega)
  unfold wallOf
  cases h : negFrom 0 t with
  | some w =>
    refine ⟨fun z => (by cases z), fun z => ?_⟩
    have := (negFrom_none (k := 0)).mpr z.1
    rw [h] at this
    cases this
  | none =>
    have h1 := negFrom_none.mp h
    show (if Int.fmod t.sum 2 = 1 then some Wall.odd else wallFrom t 1 t.length) = none ↔ _
    rw [hfm]
    by_cases h2 : t.sum % 2 = 1
    · rw [if_pos h2]
      refine ⟨fun z => (by cases z), fun z => ?_⟩
      have := z.2.1
      omega
    · rw [if_neg h2, wallFrom_none]
      refine ⟨fun z => ⟨h1, by omega, fun r a b => z r a (by omega)⟩, fun z r a b => z.2.2 r a (by omega)⟩
/-- what a tally without a wall keeps -/
structure Fine (n : Nat) (d : Nat → Int) : Prop where
  pos : ∀ i, i < n → 0 ≤ d i
  even : sg n d % 2 = 0
  eg : EG n d
theorem mem_tv {t : List Int} : (∀ x ∈ t, 0 ≤ x) ↔ ∀ i, i < t.length → 0 ≤ tv t i := by
  refine ⟨fun h i hi => by rw [tv_lt hi]; exact h _ (List.getElem_mem hi), fun h x hx => ?_⟩
  obtain ⟨i, hi, e⟩ := List.mem_iff_getElem.mp hx
  rw [← e, ← tv_lt hi]
  exact h i hi
theorem fine_of_none {t : List Int} (h : wallOf t = none) : Fine t.length (tv t) := by
  obtain ⟨h1, h2, h3⟩ := wallOf_none.mp h
  have pos := mem_tv.mp h1
  refine ⟨pos, by rw [sg_tv]; exact h2, fun A B hAB => ?_⟩
  have ca := cnt_nonneg t.length A
  have cb := cnt_nonneg t.length B
  have dis := cnt_disj (n := t.length) hAB
  obtain ⟨r, hr⟩ : ∃ r : Nat, cnt t.length A = r := ⟨(cnt t.length A).toNat, by omega⟩
  have wB := wt_nonneg (A := B) pos
  by_cases h0 : r = 0
  · -- none of the A
    have zA : wt t.length A (tv t) ≤ 0 := by
      have z := sg_zero_of (n := t.length) (f := fun i => b2 (A i)) (fun _ _ => b2_nonneg _) (by unfold cnt at hr; omega)
      refine Int.le_of_eq (Eq.trans (sg_congr fun i hi => ?_) (sg_zero t.length))
      have := z i hi
      show b2 (A i) * _ = 0
      rw [this, Int.zero_mul]
    rw [hr, h0, show ((0 : Nat) : Int) = 0 by rfl, Int.zero_mul]
    omega
  · have hroom := h3 r (by omega) (by omega)
    rw [room_eq] at hroom
    have ct := cnt_take t (r := r) (by omega)
    -- the first r have the most
    have top : wt t.length A (fun x => tv t x + min (tv t x) r) ≤ wt t.length (fun x => decide (x ∈ (orderOf t).take r)) (fun x => tv t x + min (tv t x) r) := by
      -- the r-th of the order parts them
      have hlen : r - 1 < (orderOf t).length := by rw [orderOf_length]; omega
      have hin : (orderOf t)[r - 1] ∈ (orderOf t).take r := by
        rw [List.mem_take_iff_getElem]
        exact ⟨r - 1, by omega, rfl⟩
      have hge : ∀ x, x < t.length → x ∈ (orderOf t).take r → tv t (orderOf t)[r - 1] ≤ tv t x := fun x _ hx => by
        obtain ⟨k, hk, e⟩ := List.mem_take_iff_getElem.mp hx
        by_cases ek : k = r - 1
        · subst ek; rw [e]; exact Int.le_refl _
        · rw [← e]
          have := List.pairwise_iff_getElem.mp (byK_sorted (tv t) (List.range t.length)) k (r - 1) (by unfold orderOf at *; omega) (by unfold orderOf at *; omega) (by omega)
          exact kle_ge this
      have hle : ∀ x, x < t.length → ¬ x ∈ (orderOf t).take r → tv t x ≤ tv t (orderOf t)[r - 1] := fun x hx hn => byK_top hin (List.mem_range.mpr hx) hn
      generalize hc : tv t (orderOf t)[r - 1] = c at hge hle
      have z : sg t.length (fun x => (b2 (A x) - b2 (decide (x ∈ (orderOf t).take r))) * ((tv t x + min (tv t x) r) - (c + min c r))) ≤ sg t.length (fun _ => 0) := sg_mono fun x hx => by
        cases ha : A x with
        | false =>
          by_cases ht : x ∈ (orderOf t).take r
          · rw [decide_eq_true ht]
            have := hge x hx ht
            simp only [b2_true, b2_false]
            omega
          · rw [decide_eq_false ht]
            simp only [b2_false]
            omega
        | true =>
          by_cases ht : x ∈ (orderOf t).take r
          · rw [decide_eq_true ht]
            simp only [b2_true]
            omega
          · rw [decide_eq_false ht]
            have := hle x hx ht
            simp only [b2_true, b2_false]
            omega
      rw [sg_zero] at z
      have e : sg t.length (fun x => (b2 (A x) - b2 (decide (x ∈ (orderOf t).take r))) * ((tv t x + min (tv t x) r) - (c + min c r))) =
          wt t.length A (fun x => tv t x + min (tv t x) r) - wt t.length (fun x => decide (x ∈ (orderOf t).take r)) (fun x => tv t x + min (tv t x) r) - (cnt t.length A - cnt t.length (fun x => decide (x ∈ (orderOf t).take r))) * (c + min c r) := by
        unfold wt cnt
        rw [← sg_sub, ← sg_sub, ← sg_mulr, ← sg_sub]
        exact sg_congr fun x _ => by rw [Int.mul_sub, Int.sub_mul]
      rw [e, ct, hr, Int.sub_self, Int.zero_mul] at z
      omega
    -- each other one at most r, or its own number
    have rest : sg t.length (fun x => min (tv t x) r) ≤ wt t.length A (fun x => min (tv t x) r) + (wt t.length B (tv t) + (r : Int) * (t.length - cnt t.length A - cnt t.length B)) := by
      have e : (r : Int) * (t.length - cnt t.length A - cnt t.length B) = sg t.length (fun x => (r : Int) * (1 - b2 (A x) - b2 (B x))) := by
        rw [sg_mul, sg_sub, sg_sub, sg_const]
        unfold cnt
        congr 1
        omega
      rw [e]
      unfold wt
      rw [← sg_add, ← sg_add]
      refine sg_mono fun x hx => ?_
      have p := pos x hx
      cases ha : A x with
      | true =>
        rw [hAB x ha]
        simp only [b2_true, b2_false]
        omega
      | false =>
        cases B x <;> simp only [b2_true, b2_false] <;> omega
    have e5 : wt t.length A (fun x => tv t x + min (tv t x) r) = wt t.length A (tv t) + wt t.length A (fun x => min (tv t x) r) := by
      unfold wt
      rw [← sg_add]
      exact sg_congr fun x _ => by rw [Int.mul_add]
    rw [hr] at rest ⊢
    have e6 : (r : Int) * ((t.length : Int) - 1 - cnt t.length B) = (r : Int) * ((r : Int) - 1) + (r : Int) * (t.length - r - cnt t.length B) := by
      rw [← Int.mul_add]
      congr 1
      omega
    omega
theorem none_of_fine {t : List Int} (F : Fine t.length (tv t)) : wallOf t = none := by
  refine wallOf_none.mpr ⟨mem_tv.mpr F.pos, by rw [← sg_tv]; exact F.even, fun r h1 h2 => ?_⟩
  have ct := cnt_take t h2
  rw [room_eq]
  have q := F.eg (fun x => decide (x ∈ (orderOf t).take r)) (fun x => !decide (x ∈ (orderOf t).take r) && decide (tv t x < r)) (fun x h => by rw [h]; rfl)
  rw [ct] at q
  have e4 : wt t.length (fun x => decide (x ∈ (orderOf t).take r)) (fun x => tv t x + min (tv t x) r) = wt t.length (fun x => decide (x ∈ (orderOf t).take r)) (tv t) + wt t.length (fun x => decide (x ∈ (orderOf t).take r)) (fun x => min (tv t x) r) := by
    unfold wt
    rw [← sg_add]
    exact sg_congr fun x _ => by rw [Int.mul_add]
  have e : sg t.length (fun x => min (tv t x) r) = wt t.length (fun x => decide (x ∈ (orderOf t).take r)) (fun x => min (tv t x) r) + (wt t.length (fun x => !decide (x ∈ (orderOf t).take r) && decide (tv t x < r)) (tv t) + (r : Int) * (t.length - r - cnt t.length (fun x => !decide (x ∈ (orderOf t).take r) && decide (tv t x < r)))) := by
    have e1 : (r : Int) * (t.length - r - cnt t.length (fun x => !decide (x ∈ (orderOf t).take r) && decide (tv t x < r))) = sg t.length (fun x => (r : Int) * (1 - b2 (decide (x ∈ (orderOf t).take r)) - b2 (!decide (x ∈ (orderOf t).take r) && decide (tv t x < r)))) := by
      rw [sg_mul, sg_sub, sg_sub, sg_const]
      unfold cnt at ct ⊢
      dsimp only at ct ⊢
      rw [ct]
      congr 1
      omega
    rw [e1]
    unfold wt
    rw [← sg_add, ← sg_add]
    refine sg_congr fun x hx => ?_
    dsimp only
    by_cases ht : x ∈ (orderOf t).take r
    · rw [decide_eq_true ht]
      simp only [Bool.not_true, Bool.false_and, b2_true, b2_false]
      omega
    · rw [decide_eq_false ht]
      by_cases hr : tv t x < r
      · rw [decide_eq_true hr]
        simp only [Bool.not_false, Bool.true_and, b2_true, b2_false]
        omega
      · rw [decide_eq_false hr]
        simp only [Bool.not_false, Bool.true_and, b2_false]
        omega
  have e6 : (r : Int) * ((t.length : Int) - 1 - cnt t.length (fun x => !decide (x ∈ (orderOf t).take r) && decide (tv t x < r))) = (r : Int) * ((r : Int) - 1) + (r : Int) * (t.length - r - cnt t.length (fun x => !decide (x ∈ (orderOf t).take r) && decide (tv t x < r))) := by
    rw [← Int.mul_add]
    congr 1
    omega
  omega
theorem none_iff {t : List Int} : wallOf t = none ↔ Fine t.length (tv t) := ⟨fine_of_none, none_of_fine⟩
theorem fine_of_graph {n : Nat} {g : Nat → Nat → Bool} (G : Gr n g) {d : Nat → Int} (h : ∀ v, v < n → dg n g v = d v) : Fine n d :=
  ⟨fun i hi => by rw [← h i hi]; exact dg_nonneg n g i, by rw [← sg_congr h]; exact even_of_graph G, (eg_of_graph G).congr h⟩
theorem graph_of_fine {n : Nat} {d : Nat → Int} (F : Fine n d) : ∃ g, Gr n g ∧ ∀ v, v < n → dg n g v = d v := by
  have h0 := sg_nonneg F.pos
  have he := F.even
  obtain ⟨k, hk⟩ : ∃ k : Nat, sg n d = 2 * k := ⟨(sg n d / 2).toNat, by omega⟩
  exact graph_of_eg n k d F.pos hk F.eg
end TW
set_option Elab.async false
set_option maxHeartbeats 1000000
/-! ties, webs as they are told, laid -/
namespace TW
abbrev Tie := Nat × Nat
def degT : List Tie → Nat → Int
  | [], _ => 0
  | p :: es, v => degT es v + ((if p.1 = v then 1 else 0) + (if p.2 = v then 1 else 0))
theorem degT_append : ∀ (es fs : List Tie) (v : Nat), degT (es ++ fs) v = degT es v + degT fs v
  | [], fs, v => by simp [degT]
  | p :: es, fs, v => by
    rw [List.cons_append]
    simp only [degT]
    rw [degT_append es fs v]
    omega
theorem degT_perm {es fs : List Tie} (h : es.Perm fs) (v : Nat) : degT es v = degT fs v := by
  induction h with
  | nil => rfl
  | cons x _ ih => simp only [degT]; rw [ih]
  | swap x y l => simp only [degT]; omega
  | trans _ _ h1 h2 => rw [h1, h2]
def norm (p : Tie) : Tie := (min p.1 p.2, max p.1 p.2)
theorem norm_lt {p : Tie} (h : p.1 < p.2) : norm p = p := by
  unfold norm
  rw [Nat.min_eq_left (Nat.le_of_lt h), Nat.max_eq_right (Nat.le_of_lt h)]
theorem norm_sw (a b : Nat) : norm (a, b) = norm (b, a) := by
  unfold norm
  rw [Nat.min_comm, Nat.max_comm]
theorem degT_norm (v : Nat) : ∀ es : List Tie, degT (es.map norm) v = degT es v
  | [] => rfl
  | p :: es => by
    rw [List.map_cons]
    simp only [degT]
    rw [degT_norm v es]
    unfold norm
    dsimp only
    by_cases h : p.1 ≤ p.2
    · rw [Nat.min_eq_left h, Nat.max_eq_right h]
    · rw [Nat.min_eq_right (by omega), Nat.max_eq_left (by omega)]
      omega
def tallyT (n : Nat) (es : List Tie) : List Int := (List.range n).map (degT es)
theorem tallyT_length (n : Nat) (es : List Tie) : (tallyT n es).length = n := by unfold tallyT; rw [List.length_map, List.length_range]
theorem tv_tallyT {n : Nat} {es : List Tie} {v : Nat} (h : v < n) : tv (tallyT n es) v = degT es v := by
  unfold tv tallyT
  rw [List.getD_eq_getElem?_getD, List.getElem?_map, List.getElem?_range h]
  rfl
theorem tally_ext {t u : List Int} (hl : t.length = u.length) (h : ∀ i, i < t.length → tv t i = tv u i) : t = u := by
  apply List.ext_getElem hl
  intro i h1 h2
  have := h i h1
  rw [tv_lt h1, tv_lt h2] at this
  exact this
/-- the order of ties -/
def tle (p q : Tie) : Bool := decide ((p.1 : Int) < q.1 ∨ ((p.1 : Int) = q.1 ∧ (p.2 : Int) ≤ q.2))
def tlt (p q : Tie) : Prop := p.1 < q.1 ∨ (p.1 = q.1 ∧ p.2 < q.2)
instance (p q : Tie) : Decidable (tlt p q) := by unfold tlt; exact inferInstance
theorem tle_trans (a b c : Tie) (h1 : tle a b = true) (h2 : tle b c = true) : tle a c = true := by
  unfold tle at *
  simp only [decide_eq_true_eq] at *
  omega
theorem tle_total (a b : Tie) : (tle a b || tle b a) = true := by
  unfold tle
  simp only [Bool.or_eq_true, decide_eq_true_eq]
  omega
def srt (es : List Tie) : List Tie := es.mergeSort tle
theorem srt_perm (es : List Tie) : (srt es).Perm es := List.mergeSort_perm _ _
def madeT (es : List Tie) : List Tie := srt (es.map norm)
/-- ties of which a web can be made -/
structure GoodT (n : Nat) (es : List Tie) : Prop where
  fit : ∀ p ∈ es, p.1 ≠ p.2 ∧ p.1 < n ∧ p.2 < n
  nd : (es.map norm).Nodup
/-- a web as webs are told -/
structure WebOk (n : Nat) (es : List Tie) : Prop where
  fit : ∀ p ∈ es, p.1 < p.2 ∧ p.2 < n
  asc : es.Pairwise tlt
theorem WebOk.nodup {n : Nat} {es : List Tie} (h : WebOk n es) : es.Nodup := h.asc.imp fun {a b} q e => by
  subst e
  unfold tlt at q
  omega
theorem madeT_ok {n : Nat} {es : List Tie} (h : GoodT n es) : WebOk n (madeT es) := by
  have hp := srt_perm (es.map norm)
  refine ⟨fun p hp' => ?_, ?_⟩
  · have := hp.mem_iff.mp hp'
    obtain ⟨q, hq, rfl⟩ := List.mem_map.mp this
    have := h.fit q hq
    unfold norm
    dsimp only
    omega
  · have hs : (madeT es).Pairwise (fun a b => tle a b = true) := List.pairwise_mergeSort tle_trans tle_total _
    have hn : (madeT es).Nodup := hp.nodup_iff.mpr h.nd
    refine (hs.and hn).imp fun {a b} q => ?_
    obtain ⟨q1, q2⟩ := q
    unfold tle at q1
    simp only [decide_eq_true_eq] at q1
    unfold tlt
    have : ¬ (a.1 = b.1 ∧ a.2 = b.2) := fun e => q2 (Prod.ext e.1 e.2)
    omega
theorem madeT_deg (es : List Tie) (v : Nat) : degT (madeT es) v = degT es v := by
  unfold madeT
  rw [degT_perm (srt_perm _), degT_norm]
theorem mem_madeT {es : List Tie} {p : Tie} : p ∈ madeT es ↔ ∃ q ∈ es, norm q = p := by
  unfold madeT
  rw [(srt_perm _).mem_iff, List.mem_map]
/-- a told web's graph -/
def graphT (es : List Tie) : Nat → Nat → Bool := fun a b => decide (a ≠ b ∧ norm (a, b) ∈ es)
theorem graphT_gr {n : Nat} {es : List Tie} (h : WebOk n es) : Gr n (graphT es) := by
  refine ⟨fun i j => ?_, fun i => ?_, fun i j hij => ?_⟩
  · unfold graphT
    rw [norm_sw i j]
    exact decide_eq_decide.mpr ⟨fun x => ⟨x.1.symm, x.2⟩, fun x => ⟨x.1.symm, x.2⟩⟩
  · exact decide_eq_false fun x => x.1 rfl
  · have := (of_decide_eq_true hij).2
    have := h.fit _ this
    unfold norm at this
    dsimp only at this
    omega
theorem graphT_dg {n : Nat} : ∀ {es : List Tie}, WebOk n es → ∀ v, v < n → dg n (graphT es) v = degT es v
  | [], _, v, _ => by
    unfold dg graphT
    refine Eq.trans (sg_congr fun u _ => ?_) (sg_zero n)
    rw [decide_eq_false (by simp)]
    rfl
  | p :: es, h, v, hv => by
    have h' : WebOk n es := ⟨fun q hq => h.fit q (List.mem_cons_of_mem _ hq), (List.pairwise_cons.mp h.asc).2⟩
    have ih := graphT_dg h' v hv
    have hp := h.fit p (List.mem_cons_self ..)
    have hnot : p ∉ es := fun q => by
      have := (List.pairwise_cons.mp h.asc).1 p q
      unfold tlt at this
      omega
    simp only [degT]
    rw [← ih]
    unfold dg
    have e1 : ((if p.1 = v then (1 : Int) else 0) + (if p.2 = v then 1 else 0)) = sg n (fun u => (if u = p.2 then (if p.1 = v then (1 : Int) else 0) else 0) + (if u = p.1 then (if p.2 = v then (1 : Int) else 0) else 0)) := by
      rw [sg_add, sg_one hp.2, sg_one (by omega)]
    rw [e1, ← sg_add]
    refine sg_congr fun u hu => ?_
    unfold graphT
    by_cases hx : v ≠ u ∧ norm (v, u) = p
    · have e2 : norm (v, u) ∉ es := by rw [hx.2]; exact hnot
      rw [decide_eq_true ⟨hx.1, by rw [hx.2]; exact List.mem_cons_self ..⟩, decide_eq_false (fun z => e2 z.2)]
      have hx2 := hx.2
      unfold norm at hx2
      have a1 : p.1 = min v u := by rw [← hx2]
      have a2 : p.2 = max v u := by rw [← hx2]
      simp only [b2_true, b2_false]
      by_cases hvu : v < u
      · rw [if_pos (by omega), if_pos (by omega), if_neg (by omega)]
        omega
      · have := hx.1
        rw [if_neg (by omega), if_pos (by omega), if_pos (by omega)]
        omega
    · have e2 : ((if u = p.2 then (if p.1 = v then (1 : Int) else 0) else 0) + (if u = p.1 then (if p.2 = v then (1 : Int) else 0) else 0)) = 0 := by
        by_cases c1 : u = p.2 ∧ p.1 = v
        · exfalso
          apply hx
          refine ⟨by omega, ?_⟩
          unfold norm
          dsimp only
          apply Prod.ext <;> dsimp only <;> omega
        · by_cases c2 : u = p.1 ∧ p.2 = v
          · exfalso
            apply hx
            refine ⟨by omega, ?_⟩
            unfold norm
            dsimp only
            apply Prod.ext <;> dsimp only <;> omega
          · by_cases d1 : u = p.2
            · rw [if_pos d1, if_neg (fun z => c1 ⟨d1, z⟩)]
              by_cases d2 : u = p.1
              · omega
              · rw [if_neg d2]; rfl
            · rw [if_neg d1]
              by_cases d2 : u = p.1
              · rw [if_pos d2, if_neg (fun z => c2 ⟨d2, z⟩)]; rfl
              · rw [if_neg d2]; rfl
      rw [e2, Int.add_zero]
      congr 1
      refine decide_eq_decide.mpr ⟨fun z => ⟨z.1, ?_⟩, fun z => ⟨z.1, List.mem_cons_of_mem _ z.2⟩⟩
      rcases List.mem_cons.mp z.2 with q | q
      · exact absurd ⟨z.1, q⟩ hx
      · exact q
/-! ### laid -/
theorem sg_mem {n : Nat} : ∀ {l : List Nat}, l.Nodup → (∀ x ∈ l, x < n) → sg n (fun x => b2 (decide (x ∈ l))) = l.length
  | [], _, _ => by
    refine Eq.trans (sg_congr fun x _ => ?_) (sg_zero n)
    rw [decide_eq_false (by simp)]
    rfl
  | a :: l, h, hl => by
    have hn := List.nodup_cons.mp h
    have ih := sg_mem hn.2 (n := n) fun x hx => hl x (List.mem_cons_of_mem _ hx)
    have : sg n (fun x => b2 (decide (x ∈ a :: l))) = sg n (fun x => b2 (decide (x ∈ l)) + (if x = a then 1 else 0)) := sg_congr fun x _ => by
      by_cases e : x = a
      · subst e
        rw [decide_eq_true (List.mem_cons_self ..), decide_eq_false hn.1, if_pos rfl]
        rfl
      · rw [if_neg e, Int.add_zero]
        congr 1
        exact decide_eq_decide.mpr ⟨fun z => (List.mem_cons.mp z).resolve_left e, fun z => List.mem_cons_of_mem _ z⟩
    rw [this, sg_add, ih, sg_one (hl a (List.mem_cons_self ..)), List.length_cons]
    omega
def decL (L : List Int) : List Nat → List Int
  | [] => L
  | o :: l => decL (L.set o (tv L o - 1)) l
theorem decL_length : ∀ (l : List Nat) (L : List Int), (decL L l).length = L.length
  | [], _ => rfl
  | o :: l, L => by unfold decL; rw [decL_length l, List.length_set]
theorem tv_set {L : List Int} {o v : Nat} {x : Int} (h : o < L.length) : tv (L.set o x) v = if v = o then x else tv L v := by
  unfold tv
  rw [List.getD_eq_getElem?_getD, List.getD_eq_getElem?_getD, List.getElem?_set]
  by_cases e : o = v
  · subst e
    rw [if_pos rfl, if_pos h, if_pos rfl]
    rfl
  · rw [if_neg e, if_neg (fun z => e z.symm)]
theorem tv_decL : ∀ {l : List Nat} {L : List Int} {v : Nat}, l.Nodup → (∀ x ∈ l, x < L.length) → tv (decL L l) v = tv L v - b2 (decide (v ∈ l))
  | [], L, v, _, _ => by
    unfold decL
    rw [decide_eq_false (by simp), b2_false]
    omega
  | o :: l, L, v, h, hl => by
    have hn := List.nodup_cons.mp h
    have ho := hl o (List.mem_cons_self ..)
    unfold decL
    rw [tv_decL hn.2 (fun x hx => by rw [List.length_set]; exact hl x (List.mem_cons_of_mem _ hx)), tv_set ho]
    by_cases e : v = o
    · subst e
      rw [if_pos rfl, decide_eq_true (List.mem_cons_self ..), decide_eq_false hn.1]
      simp only [b2_true, b2_false]
      omega
    · rw [if_neg e]
      congr 2
      exact decide_eq_decide.mpr ⟨fun z => List.mem_cons_of_mem _ z, fun z => (List.mem_cons.mp z).resolve_left e⟩
/-- the places to which a place is tied when it is laid -/
def topL (L : List Int) (p n : Nat) : List Nat := (byK (tv L) (List.range' (p + 1) (n - (p + 1)))).take (tv L p).toNat
theorem topL_mem {L : List Int} {p n x : Nat} (h : x ∈ topL L p n) : p < x ∧ x < n := by
  have := (byK_perm _ _).mem_iff.mp (List.mem_of_mem_take h)
  rw [List.mem_range'_1] at this
  omega
theorem topL_nodup (L : List Int) (p n : Nat) : (topL L p n).Nodup := by
  have : (byK (tv L) (List.range' (p + 1) (n - (p + 1)))).Nodup := (byK_perm _ _).nodup_iff.mpr (List.nodup_range' ..)
  exact this.sublist (List.take_sublist _ _)
def laidAt (t : List Int) : Nat → List Int × List Tie
  | 0 => (t, [])
  | p + 1 => (decL (laidAt t p).1 (topL (laidAt t p).1 p t.length), (laidAt t p).2 ++ (topL (laidAt t p).1 p t.length).map fun u => (p, u))
def laidTies (t : List Int) : List Tie := (laidAt t t.length).2
theorem laidAt_length (t : List Int) : ∀ p, (laidAt t p).1.length = t.length
  | 0 => rfl
  | p + 1 => by unfold laidAt; dsimp only; rw [decL_length]; exact laidAt_length t p
theorem degT_map_pair (p : Nat) (v : Nat) : ∀ l : List Nat, l.Nodup → degT (l.map fun u => (p, u)) v = (if p = v then (l.length : Int) else 0) + b2 (decide (v ∈ l))
  | [], _ => by
    rw [decide_eq_false (by simp), b2_false]
    show (0 : Int) = _
    split <;> rfl
  | a :: l, h => by
    have hn := List.nodup_cons.mp h
    rw [List.map_cons]
    simp only [degT]
    rw [degT_map_pair p v l hn.2, List.length_cons]
    by_cases e : a = v
    · subst e
      rw [decide_eq_true (List.mem_cons_self ..), decide_eq_false hn.1, if_pos rfl]
      simp only [b2_true, b2_false]
      split <;> omega
    · rw [if_neg e]
      have : decide (v ∈ a :: l) = decide (v ∈ l) := decide_eq_decide.mpr ⟨fun z => (List.mem_cons.mp z).resolve_left (fun q => e q.symm), fun z => List.mem_cons_of_mem _ z⟩
      rw [this]
      split <;> omega
structure LaidInv (t : List Int) (p : Nat) : Prop where
  gr : ∃ g, Gr t.length g ∧ ∀ v, v < t.length → dg t.length g v = if p ≤ v then tv (laidAt t p).1 v else 0
  deg : ∀ v, v < t.length → tv t v = degT (laidAt t p).2 v + if p ≤ v then tv (laidAt t p).1 v else 0
  fit : ∀ e ∈ (laidAt t p).2, e.1 < p ∧ e.1 < e.2 ∧ e.2 < t.length
  nd : (laidAt t p).2.Nodup
theorem LaidInv.pos {t : List Int} {p : Nat} (I : LaidInv t p) (hp : p < t.length) : 0 ≤ tv (laidAt t p).1 p := by
  obtain ⟨g, _, hg⟩ := I.gr
  have := hg p hp
  rw [if_pos (Nat.le_refl _)] at this
  rw [← this]
  exact dg_nonneg _ _ _
theorem laid_zero {t : List Int} (F : Fine t.length (tv t)) : LaidInv t 0 := by
  obtain ⟨g, G, hg⟩ := graph_of_fine F
  refine ⟨⟨g, G, fun v hv => by rw [hg v hv, if_pos (Nat.zero_le _)]; rfl⟩, fun v hv => ?_, fun e he => (nomatch he), List.nodup_nil⟩
  rw [if_pos (Nat.zero_le _)]
  show tv t v = 0 + tv t v
  omega
theorem laid_succ {t : List Int} {p : Nat} (hp : p < t.length) (I : LaidInv t p) : LaidInv t (p + 1) := by
  obtain ⟨g, G, hg⟩ := I.gr
  have hL := laidAt_length t p
  have tn := topL_nodup (laidAt t p).1 p t.length
  have tm : ∀ x ∈ topL (laidAt t p).1 p t.length, p < x ∧ x < t.length := fun x hx => topL_mem hx
  have hpos := I.pos hp
  have gz : ∀ x, x < p → ∀ y, g y x = false := fun x hx y => by
    cases z : g y x with
    | false => rfl
    | true =>
      have d0 := hg x (by omega)
      rw [if_neg (by omega)] at d0
      have := sg_zero_of (n := t.length) (f := fun u => b2 (g x u)) (fun _ _ => b2_nonneg _) (Int.le_of_eq d0) y (G.bnd _ _ z)
      rw [show g x y = true by rw [G.sym]; exact z] at this
      cases this
  -- the candidates and the told ones
  have e1 : sg t.length (fun x => b2 (decide (p < x ∧ x < t.length) && g p x)) = tv (laidAt t p).1 p := by
    have d := hg p hp
    rw [if_pos (Nat.le_refl _)] at d
    rw [← d]
    refine sg_congr fun x hx => ?_
    by_cases c : p < x
    · rw [decide_eq_true ⟨c, hx⟩, Bool.true_and]
    · rw [decide_eq_false (fun z => c z.1), Bool.false_and]
      by_cases e : x = p
      · rw [e, G.irr]
      · rw [gz x (by omega) p]
  have eC : sg t.length (fun x => b2 (decide (p < x ∧ x < t.length))) = (t.length - (p + 1) : Nat) := by
    have z := sg_mem (n := t.length) (l := List.range' (p + 1) (t.length - (p + 1))) (List.nodup_range' ..) (fun x hx => by
      rw [List.mem_range'_1] at hx
      omega)
    rw [List.length_range'] at z
    rw [← z]
    refine sg_congr fun x hx => ?_
    congr 1
    refine decide_eq_decide.mpr ?_
    rw [List.mem_range'_1]
    omega
  have hle : tv (laidAt t p).1 p ≤ (t.length - (p + 1) : Nat) := by
    rw [← e1, ← eC]
    refine sg_mono fun x _ => ?_
    cases decide (p < x ∧ x < t.length) <;> cases g p x <;> decide
  have tl : ((topL (laidAt t p).1 p t.length).length : Int) = tv (laidAt t p).1 p := by
    unfold topL
    rw [List.length_take, byK_length, List.length_range']
    omega
  have e2 : sg t.length (fun x => b2 (decide (p < x ∧ x < t.length) && decide (x ∈ topL (laidAt t p).1 p t.length))) = tv (laidAt t p).1 p := by
    rw [← tl, ← sg_mem tn (fun x hx => (tm x hx).2)]
    refine sg_congr fun x hx => ?_
    by_cases c : x ∈ topL (laidAt t p).1 p t.length
    · rw [decide_eq_true c, decide_eq_true (tm x c)]
      rfl
    · rw [decide_eq_false c, Bool.and_false]
  obtain ⟨g', G', hd', hT, -⟩ := hh_ex G hp (fun x => decide (p < x ∧ x < t.length)) (fun x => decide (x ∈ topL (laidAt t p).1 p t.length)) (decide_eq_false (by omega)) (fun x hx => (of_decide_eq_true hx).2)
    (fun a b ha hb h1 h2 => by
      have ha := of_decide_eq_true ha
      have hb := of_decide_eq_true hb
      have h1 := of_decide_eq_true h1
      have h2 := of_decide_eq_false h2
      rw [hg a ha.2, hg b hb.2, if_pos (by omega), if_pos (by omega)]
      exact byK_top (m := (tv (laidAt t p).1 p).toNat) h1 (by rw [List.mem_range'_1]; omega) h2) (by rw [e1, e2])
  have gz' : ∀ x, x < p → ∀ y, g' y x = false := fun x hx y => by
    cases z : g' y x with
    | false => rfl
    | true =>
      have d0 := hg x (by omega)
      rw [if_neg (by omega), ← hd'] at d0
      have := sg_zero_of (n := t.length) (f := fun u => b2 (g' x u)) (fun _ _ => b2_nonneg _) (Int.le_of_eq d0) y (G'.bnd _ _ z)
      rw [show g' x y = true by rw [G'.sym]; exact z] at this
      cases this
  have new : ∀ v, v < t.length → p < v → tv (laidAt t (p + 1)).1 v = tv (laidAt t p).1 v - b2 (decide (v ∈ topL (laidAt t p).1 p t.length)) := fun v hv hpv => by
    show tv (decL _ _) v = _
    exact tv_decL tn (fun x hx => by rw [hL]; exact (tm x hx).2)
  refine ⟨⟨fun x y => g' x y && (decide (x ≠ p) && decide (y ≠ p)), ⟨fun x y => ?_, fun x => ?_, fun x y h => ?_⟩, fun v hv => ?_⟩, fun v hv => ?_, fun e he => ?_, ?_⟩
  · rw [G'.sym x y, Bool.and_comm (decide (x ≠ p))]
  · rw [G'.irr, Bool.false_and]
  · rw [Bool.and_eq_true] at h
    exact G'.bnd x y h.1
  · unfold dg
    by_cases c : p + 1 ≤ v
    · rw [if_pos c, new v hv (by omega)]
      have : sg t.length (fun u => b2 (g' v u && (decide (v ≠ p) && decide (u ≠ p)))) = sg t.length (fun u => b2 (g' v u) - if u = p then b2 (g' v p) else 0) := sg_congr fun u hu => by
        rw [decide_eq_true (show v ≠ p by omega), Bool.true_and]
        by_cases e : u = p
        · subst e
          rw [decide_eq_false (by omega), if_pos rfl, Bool.and_false, b2_false]
          omega
        · rw [decide_eq_true e, if_neg e, Bool.and_true]
          omega
      have d := hg v hv
      rw [if_pos (by omega), ← hd'] at d
      unfold dg at d
      rw [this, sg_sub, sg_one hp, d, G'.sym v p, hT v (decide_eq_true ⟨by omega, hv⟩)]
    · rw [if_neg c]
      refine Eq.trans (sg_congr fun u hu => ?_) (sg_zero t.length)
      dsimp only
      by_cases e : v = p
      · rw [decide_eq_false (show ¬ v ≠ p by omega), Bool.false_and, Bool.and_false]
        rfl
      · rw [G'.sym, gz' v (by omega) u, Bool.false_and]
        rfl
  · have q := I.deg v hv
    show tv t v = degT ((laidAt t p).2 ++ (topL (laidAt t p).1 p t.length).map fun u => (p, u)) v + _
    rw [degT_append, degT_map_pair p v _ tn]
    by_cases c : p + 1 ≤ v
    · rw [if_pos c, new v hv (by omega), if_neg (show ¬ p = v by omega)]
      rw [if_pos (by omega)] at q
      omega
    · rw [if_neg c]
      by_cases e : p = v
      · subst e
        rw [if_pos (Nat.le_refl _)] at q
        rw [if_pos rfl, tl, decide_eq_false (fun z => by have := tm p z; omega), b2_false]
        omega
      · rw [if_neg (by omega)] at q
        rw [if_neg e, decide_eq_false (fun z => by have := tm v z; omega), b2_false]
        omega
  · rcases List.mem_append.mp he with h | h
    · have := I.fit e h
      omega
    · obtain ⟨u, hu, rfl⟩ := List.mem_map.mp h
      have := tm u hu
      dsimp only
      omega
  · show ((laidAt t p).2 ++ (topL (laidAt t p).1 p t.length).map fun u => (p, u)).Nodup
    refine List.nodup_append.mpr ⟨I.nd, List.Pairwise.map _ (fun a b h e => h (Prod.mk.inj e).2) tn, fun a ha b hb e => ?_⟩
    obtain ⟨u, hu, rfl⟩ := List.mem_map.mp hb
    have := I.fit a ha
    rw [e] at this
    dsimp only at this
    omega
theorem laid_inv {t : List Int} (F : Fine t.length (tv t)) : ∀ p, p ≤ t.length → LaidInv t p
  | 0, _ => laid_zero F
  | p + 1, h => laid_succ (by omega) (laid_inv F p (by omega))
theorem laid_good {t : List Int} (F : Fine t.length (tv t)) : GoodT t.length (laidTies t) := by
  have I := laid_inv F t.length (Nat.le_refl _)
  refine ⟨fun p hp => ?_, ?_⟩
  · have := I.fit p hp
    omega
  · have : (laidTies t).map norm = laidTies t := by
      have h : ∀ e ∈ laidTies t, norm e = e := fun e he => norm_lt (I.fit e he).2.1
      exact (List.map_congr_left h).trans (List.map_id _)
    rw [this]
    exact I.nd
theorem laid_deg {t : List Int} (F : Fine t.length (tv t)) (v : Nat) (hv : v < t.length) : degT (laidTies t) v = tv t v := by
  have q := (laid_inv F t.length (Nat.le_refl _)).deg v hv
  rw [if_neg (by omega)] at q
  unfold laidTies
  omega
theorem laid_pos {t : List Int} (F : Fine t.length (tv t)) (p : Nat) (hp : p < t.length) : 0 ≤ tv (laidAt t p).1 p := (laid_inv F p (by omega)).pos hp
end TW
set_option Elab.async false
set_option maxHeartbeats 1000000
/-! a web in which a place is tied to just the told ones; what is told of a pair -/
namespace TW
def oth (n i : Nat) : List Nat := (List.range n).filter fun o => decide (o ≠ i)
def sk (i k : Nat) : Nat := if k < i then k else k + 1
theorem sk_ne (i k : Nat) : sk i k ≠ i := by unfold sk; split <;> omega
theorem sk_lt {n i k : Nat} (hi : i < n) : sk i k < n ↔ k < n - 1 := by unfold sk; split <;> omega
theorem sk_mono {i a b : Nat} : sk i a < sk i b ↔ a < b := by unfold sk; split <;> split <;> omega
theorem sk_inj {i a b : Nat} (h : sk i a = sk i b) : a = b := by unfold sk at h; split at h <;> split at h <;> omega
theorem sk_surj {i v : Nat} (h : v ≠ i) : ∃ k, sk i k = v := by
  by_cases c : v < i
  · exact ⟨v, by unfold sk; rw [if_pos c]⟩
  · exact ⟨v - 1, by unfold sk; rw [if_neg (by omega)]; omega⟩
theorem oth_eq : ∀ {n i : Nat}, i < n → oth n i = (List.range (n - 1)).map (sk i)
  | 0, _, h => by omega
  | n + 1, i, h => by
    unfold oth
    rw [List.range_succ, List.filter_append]
    by_cases e : n = i
    · subst e
      have e1 : [n].filter (fun o => decide (o ≠ n)) = [] := by simp
      have e2 : (List.range n).filter (fun o => decide (o ≠ n)) = List.range n := List.filter_eq_self.mpr fun a ha => decide_eq_true (by have := List.mem_range.mp ha; omega)
      rw [e1, e2, List.append_nil, Nat.add_sub_cancel]
      refine Eq.symm (Eq.trans (List.map_congr_left (g := id) fun a ha => ?_) (List.map_id _))
      have := List.mem_range.mp ha
      unfold sk
      rw [if_pos this]
      rfl
    · have ih := oth_eq (n := n) (i := i) (by omega)
      unfold oth at ih
      rw [ih, Nat.add_sub_cancel]
      have e1 : [n].filter (fun o => decide (o ≠ i)) = [n] := List.filter_eq_self.mpr fun a ha => decide_eq_true (by rw [List.mem_singleton.mp ha]; exact e)
      have e2 : n = (n - 1) + 1 := by omega
      have e3 : List.range n = List.range (n - 1) ++ [n - 1] := by
        rw [← List.range_succ]
        exact congrArg List.range e2
      rw [e1, e3, List.map_append]
      congr 1
      show [n] = [sk i (n - 1)]
      unfold sk
      rw [if_neg (by omega)]
      congr 1
theorem oth_length {n i : Nat} (h : i < n) : (oth n i).length = n - 1 := by rw [oth_eq h, List.length_map, List.length_range]
theorem oth_get {n i k : Nat} (h : i < n) (hk : k < n - 1) : (oth n i)[k]? = some (sk i k) := by
  rw [oth_eq h, List.getElem?_map, List.getElem?_range hk]
  rfl
theorem oth_getD {n i k : Nat} (h : i < n) (hk : k < n - 1) : (oth n i).getD k 0 = sk i k := by
  rw [List.getD_eq_getElem?_getD, oth_get h hk]
  rfl
theorem sg_skip : ∀ {n i : Nat}, i < n → ∀ f : Nat → Int, sg n f = f i + sg (n - 1) (fun k => f (sk i k))
  | 0, _, h, _ => by omega
  | n + 1, i, h, f => by
    rw [Nat.add_sub_cancel]
    by_cases e : n = i
    · subst e
      have : sg n (fun k => f (sk n k)) = sg n f := sg_congr fun k hk => by unfold sk; rw [if_pos hk]
      rw [this]
      simp only [sg]
      omega
    · have ih := sg_skip (n := n) (i := i) (by omega) f
      have e2 : n = (n - 1) + 1 := by omega
      have e3 : sg n (fun k => f (sk i k)) = sg (n - 1) (fun k => f (sk i k)) + f n := by
        have : sg n (fun k => f (sk i k)) = sg ((n - 1) + 1) (fun k => f (sk i k)) := congrArg (fun m => sg m fun k => f (sk i k)) e2
        rw [this]
        simp only [sg]
        congr 2
        unfold sk
        rw [if_neg (by omega)]
        omega
      simp only [sg]
      rw [ih, e3]
      omega
/-- what is left to the others -/
def resid (t : List Int) (i : Nat) (near : List Nat) : List Int := (oth t.length i).map fun o => tv t o - (if o ∈ near then 1 else 0)
theorem resid_length {t : List Int} {i : Nat} {near : List Nat} (h : i < t.length) : (resid t i near).length = t.length - 1 := by unfold resid; rw [List.length_map, oth_length h]
theorem tv_resid {t : List Int} {i k : Nat} {near : List Nat} (h : i < t.length) (hk : k < t.length - 1) : tv (resid t i near) k = tv t (sk i k) - (if sk i k ∈ near then 1 else 0) := by
  unfold resid
  rw [tv, List.getD_eq_getElem?_getD, List.getElem?_map, oth_get h hk]
  rfl
def webByE (t : List Int) (i : Nat) (near : List Nat) : List Tie := (madeT (laidTies (resid t i near))).map (fun p => ((oth t.length i).getD p.1 0, (oth t.length i).getD p.2 0)) ++ near.map fun o => (i, o)
def webBy (t : List Int) (i : Nat) (near : List Nat) : List Tie := madeT (webByE t i near)
/-- there is a graph in which i has just those neighbours -/
structure NearOk (t : List Int) (i : Nat) (near : List Nat) : Prop where
  hi : i < t.length
  nd : near.Nodup
  lt : ∀ x ∈ near, x < t.length ∧ x ≠ i
  gr : ∃ f, Gr t.length f ∧ (∀ v, v < t.length → dg t.length f v = tv t v) ∧ ∀ x, x < t.length → f i x = decide (x ∈ near)
theorem NearOk.many {t : List Int} {i : Nat} {near : List Nat} (N : NearOk t i near) : (near.length : Int) = tv t i := by
  obtain ⟨f, F, hf, hn⟩ := N.gr
  rw [← hf i N.hi, ← sg_mem N.nd fun x hx => (N.lt x hx).1]
  exact sg_congr fun x hx => by rw [hn x hx]
theorem resid_fine {t : List Int} {i : Nat} {near : List Nat} (N : NearOk t i near) : Fine (resid t i near).length (tv (resid t i near)) := by
  obtain ⟨f, F, hf, hn⟩ := N.gr
  have hi := N.hi
  rw [resid_length hi]
  refine fine_of_graph (g := fun a b => f (sk i a) (sk i b)) ⟨fun a b => F.sym _ _, fun a => F.irr _, fun a b h => (sk_lt hi).mp (F.bnd _ _ h)⟩ fun a ha => ?_
  rw [tv_resid hi ha, ← hf (sk i a) ((sk_lt hi).mpr ha)]
  have e := sg_skip hi (fun u => b2 (f (sk i a) u))
  unfold dg
  dsimp only
  rw [e, F.sym (sk i a) i, hn (sk i a) ((sk_lt hi).mpr ha)]
  by_cases c : sk i a ∈ near
  · rw [decide_eq_true c, if_pos c, b2_true]
    omega
  · rw [decide_eq_false c, if_neg c, b2_false]
    omega
theorem resid_none {t : List Int} {i : Nat} {near : List Nat} (N : NearOk t i near) : wallOf (resid t i near) = none := none_of_fine (resid_fine N)
theorem degT_none {v : Nat} : ∀ {es : List Tie}, (∀ p ∈ es, p.1 ≠ v ∧ p.2 ≠ v) → degT es v = 0
  | [], _ => rfl
  | p :: es, h => by
    have := h p (List.mem_cons_self ..)
    simp only [degT]
    rw [degT_none fun q hq => h q (List.mem_cons_of_mem _ hq), if_neg this.1, if_neg this.2]
    rfl
theorem degT_sk (i a : Nat) : ∀ es : List Tie, degT (es.map fun p => (sk i p.1, sk i p.2)) (sk i a) = degT es a
  | [] => rfl
  | p :: es => by
    rw [List.map_cons]
    simp only [degT]
    rw [degT_sk i a es]
    have e1 : (if sk i p.1 = sk i a then (1 : Int) else 0) = if p.1 = a then 1 else 0 := by
      by_cases c : p.1 = a
      · rw [if_pos c, if_pos (by rw [c])]
      · rw [if_neg c, if_neg (fun z => c (sk_inj z))]
    have e2 : (if sk i p.2 = sk i a then (1 : Int) else 0) = if p.2 = a then 1 else 0 := by
      by_cases c : p.2 = a
      · rw [if_pos c, if_pos (by rw [c])]
      · rw [if_neg c, if_neg (fun z => c (sk_inj z))]
    rw [e1, e2]
theorem resid_laid {t : List Int} {i : Nat} {near : List Nat} (N : NearOk t i near) : WebOk (t.length - 1) (madeT (laidTies (resid t i near))) := by
  have := madeT_ok (laid_good (resid_fine N))
  rw [resid_length N.hi] at this
  exact this
theorem webByE_eq {t : List Int} {i : Nat} {near : List Nat} (N : NearOk t i near) : webByE t i near = (madeT (laidTies (resid t i near))).map (fun p => (sk i p.1, sk i p.2)) ++ near.map fun o => (i, o) := by
  have W := resid_laid N
  unfold webByE
  congr 1
  refine List.map_congr_left fun p hp => ?_
  have := W.fit p hp
  rw [oth_getD N.hi (by omega), oth_getD N.hi (by omega)]
theorem webByE_good {t : List Int} {i : Nat} {near : List Nat} (N : NearOk t i near) : GoodT t.length (webByE t i near) := by
  have W := resid_laid N
  rw [webByE_eq N]
  refine ⟨fun p hp => ?_, ?_⟩
  · rcases List.mem_append.mp hp with h | h
    · obtain ⟨q, hq, rfl⟩ := List.mem_map.mp h
      have := W.fit q hq
      refine ⟨fun z => ?_, (sk_lt N.hi).mpr (by omega), (sk_lt N.hi).mpr (by omega)⟩
      have := sk_inj z
      omega
    · obtain ⟨o, ho, rfl⟩ := List.mem_map.mp h
      have := N.lt o ho
      exact ⟨fun z => this.2 z.symm, N.hi, this.1⟩
  · rw [List.map_append, List.map_map, List.map_map]
    have e1 : (madeT (laidTies (resid t i near))).map (norm ∘ fun p => (sk i p.1, sk i p.2)) = (madeT (laidTies (resid t i near))).map fun p => (sk i p.1, sk i p.2) :=
      List.map_congr_left fun p hp => norm_lt (sk_mono.mpr (W.fit p hp).1)
    rw [e1]
    refine List.nodup_append.mpr ⟨List.Pairwise.map (fun p : Tie => (sk i p.1, sk i p.2)) (fun (a b : Tie) (h : a ≠ b) e => h ?_) W.nodup, List.Pairwise.map (norm ∘ fun o => (i, o)) (fun (a b : Nat) (h : a ≠ b) e => h ?_) N.nd, fun a ha b hb e => ?_⟩
    · have := Prod.mk.inj e
      exact Prod.ext (sk_inj this.1) (sk_inj this.2)
    · have e : norm (i, a) = norm (i, b) := e
      unfold norm at e
      have e := Prod.mk.inj e
      dsimp only at e
      omega
    · obtain ⟨p, hp, rfl⟩ := List.mem_map.mp ha
      obtain ⟨o, ho, rfl⟩ := List.mem_map.mp hb
      have h1 := sk_ne i p.1
      have h2 := sk_ne i p.2
      have e : (sk i p.1, sk i p.2) = norm (i, o) := e
      unfold norm at e
      have e := Prod.mk.inj e
      dsimp only at e
      omega
theorem webBy_ok {t : List Int} {i : Nat} {near : List Nat} (N : NearOk t i near) : WebOk t.length (webBy t i near) := madeT_ok (webByE_good N)
theorem webBy_deg {t : List Int} {i : Nat} {near : List Nat} (N : NearOk t i near) (v : Nat) (hv : v < t.length) : degT (webBy t i near) v = tv t v := by
  unfold webBy
  rw [madeT_deg, webByE_eq N, degT_append, degT_map_pair i v near N.nd]
  have W := resid_laid N
  by_cases c : v = i
  · subst c
    rw [if_pos rfl, decide_eq_false (fun z => (N.lt v z).2 rfl), b2_false, N.many, degT_none]
    · omega
    · intro p hp
      obtain ⟨q, hq, rfl⟩ := List.mem_map.mp hp
      exact ⟨sk_ne _ _, sk_ne _ _⟩
  · obtain ⟨a, rfl⟩ := sk_surj c
    have ha := (sk_lt N.hi).mp hv
    rw [degT_sk, madeT_deg, laid_deg (resid_fine N) a (by rw [resid_length N.hi]; exact ha), tv_resid N.hi ha, if_neg (sk_ne i a).symm]
    by_cases d : sk i a ∈ near
    · rw [if_pos d, decide_eq_true d, b2_true]
      omega
    · rw [if_neg d, decide_eq_false d, b2_false]
      omega
theorem webBy_tally {t : List Int} {i : Nat} {near : List Nat} (N : NearOk t i near) : tallyT t.length (webBy t i near) = t :=
  tally_ext (tallyT_length _ _) fun v hv => by
    rw [tallyT_length] at hv
    rw [tv_tallyT hv, webBy_deg N v hv]
theorem webBy_tie {t : List Int} {i : Nat} {near : List Nat} (N : NearOk t i near) (j : Nat) : norm (i, j) ∈ webBy t i near ↔ j ∈ near := by
  unfold webBy
  rw [mem_madeT, webByE_eq N]
  constructor
  · rintro ⟨q, hq, e⟩
    rcases List.mem_append.mp hq with h | h
    · obtain ⟨p, _, rfl⟩ := List.mem_map.mp h
      have h1 := sk_ne i p.1
      have h2 := sk_ne i p.2
      unfold norm at e
      have e := Prod.mk.inj e
      dsimp only at e
      omega
    · obtain ⟨o, ho, rfl⟩ := List.mem_map.mp h
      have : o = j := by
        unfold norm at e
        have e := Prod.mk.inj e
        dsimp only at e
        omega
      rw [← this]
      exact ho
  · intro h
    exact ⟨(i, j), List.mem_append_right _ (List.mem_map.mpr ⟨j, h, rfl⟩), rfl⟩
/-! ### one more, one fewer at two places -/
def mv1 (t : List Int) (i : Nat) (c : Int) : List Int := t.set i (tv t i + c)
def mv2 (t : List Int) (i j : Nat) (c : Int) : List Int := mv1 (mv1 t i c) j c
theorem mv1_length (t : List Int) (i : Nat) (c : Int) : (mv1 t i c).length = t.length := by unfold mv1; rw [List.length_set]
theorem mv2_length (t : List Int) (i j : Nat) (c : Int) : (mv2 t i j c).length = t.length := by unfold mv2; rw [mv1_length, mv1_length]
theorem tv_mv1 {t : List Int} {i v : Nat} {c : Int} (h : i < t.length) : tv (mv1 t i c) v = tv t v + if v = i then c else 0 := by
  unfold mv1
  rw [tv_set h]
  by_cases e : v = i
  · rw [if_pos e, if_pos e, e]
  · rw [if_neg e, if_neg e]; omega
theorem tv_mv2 {t : List Int} {i j v : Nat} {c : Int} (hi : i < t.length) (hj : j < t.length) : tv (mv2 t i j c) v = tv t v + ((if v = i then c else 0) + (if v = j then c else 0)) := by
  unfold mv2
  rw [tv_mv1 (by rw [mv1_length]; exact hj), tv_mv1 hi]
  omega
theorem mv2_comm {t : List Int} {i j : Nat} {c : Int} (hi : i < t.length) (hj : j < t.length) : mv2 t i j c = mv2 t j i c :=
  tally_ext (by rw [mv2_length, mv2_length]) fun v hv => by
    rw [tv_mv2 hi hj, tv_mv2 hj hi]
    omega
inductive Told where
  | all (w : Wall) | none (w : Wall) | some (a b : List Tie)
  deriving DecidableEq
def restOf (t : List Int) (i j : Nat) : List Nat := (orderOf t).filter fun p => decide (p ≠ i ∧ p ≠ j)
def near1 (t : List Int) (i j : Nat) : List Nat := j :: (restOf t i j).take (tv t i - 1).toNat
def near2 (t : List Int) (i j : Nat) : List Nat := (restOf t i j).take (tv t i).toNat
def toldOf (t : List Int) (i j : Nat) : Told :=
  match wallOf (mv2 t i j 1) with
  | .some w => .all w
  | .none => match wallOf (mv2 t i j (-1)) with
    | .some w => .none w
    | .none => .some (webBy t i (near1 t i j)) (webBy t i (near2 t i j))
theorem rest_mem {t : List Int} {i j p : Nat} : p ∈ restOf t i j ↔ p < t.length ∧ p ≠ i ∧ p ≠ j := by
  unfold restOf
  rw [List.mem_filter, (orderOf_perm t).mem_iff, List.mem_range, decide_eq_true_eq]
theorem rest_nodup (t : List Int) (i j : Nat) : (restOf t i j).Nodup := (orderOf_nodup t).sublist (List.filter_sublist ..)
theorem rest_top {t : List Int} {i j m p q : Nat} (hp : p ∈ (restOf t i j).take m) (hq : q ∈ restOf t i j) (hn : q ∉ (restOf t i j).take m) : tv t q ≤ tv t p := by
  have hs : (restOf t i j).Pairwise (fun a b => kle (tv t) a b = true) := (byK_sorted (tv t) (List.range t.length)).sublist (List.filter_sublist ..)
  rw [← List.take_append_drop m (restOf t i j)] at hq
  have hd : q ∈ (restOf t i j).drop m := (List.mem_append.mp hq).resolve_left hn
  rw [← List.take_append_drop m (restOf t i j)] at hs
  exact kle_ge ((List.pairwise_append.mp hs).2.2 p hp q hd)
/-- a graph with the told tie or without it: one in which the others are the greatest -/
theorem near_of {t : List Int} {i j : Nat} (hi : i < t.length) (hj : j < t.length) (hij : i ≠ j) {f : Nat → Nat → Bool} (F : Gr t.length f) (hf : ∀ v, v < t.length → dg t.length f v = tv t v) :
    ∃ f', Gr t.length f' ∧ (∀ v, v < t.length → dg t.length f' v = tv t v) ∧ f' i j = f i j ∧ (tv t i - b2 (f i j)) = ((restOf t i j).take (tv t i - b2 (f i j)).toNat).length ∧
      ∀ x, x < t.length → x ≠ j → f' i x = decide (x ∈ (restOf t i j).take (tv t i - b2 (f i j)).toNat) := by
  have e1 : sg t.length (fun x => b2 (decide (x ∈ restOf t i j) && f i x)) = tv t i - b2 (f i j) := by
    rw [← hf i hi]
    unfold dg
    rw [← sg_one hj (b2 (f i j)), ← sg_sub]
    refine sg_congr fun x hx => ?_
    by_cases c : x = j
    · subst c
      rw [decide_eq_false (fun z => (rest_mem.mp z).2.2 rfl), if_pos rfl, Bool.false_and, b2_false]
      omega
    · rw [if_neg c]
      by_cases d : x = i
      · subst d
        rw [F.irr, Bool.and_false]
        rfl
      · rw [decide_eq_true (rest_mem.mpr ⟨hx, d, c⟩), Bool.true_and]
        omega
  have eC : sg t.length (fun x => b2 (decide (x ∈ restOf t i j))) = (restOf t i j).length := sg_mem (rest_nodup t i j) fun x hx => (rest_mem.mp hx).1
  have hle : tv t i - b2 (f i j) ≤ (restOf t i j).length := by
    rw [← e1, ← eC]
    refine sg_mono fun x _ => ?_
    cases decide (x ∈ restOf t i j) <;> cases f i x <;> decide
  have h0 : 0 ≤ tv t i - b2 (f i j) := by
    rw [← e1]
    exact sg_nonneg fun _ _ => b2_nonneg _
  have tl : tv t i - b2 (f i j) = ((restOf t i j).take (tv t i - b2 (f i j)).toNat).length := by
    rw [List.length_take]
    omega
  have tn : ((restOf t i j).take (tv t i - b2 (f i j)).toNat).Nodup := (rest_nodup t i j).sublist (List.take_sublist _ _)
  have tm : ∀ x ∈ (restOf t i j).take (tv t i - b2 (f i j)).toNat, x ∈ restOf t i j := fun x hx => List.mem_of_mem_take hx
  obtain ⟨f', F', hd', hT, hN⟩ := hh_ex F hi (fun x => decide (x ∈ restOf t i j)) (fun x => decide (x ∈ (restOf t i j).take (tv t i - b2 (f i j)).toNat)) (decide_eq_false fun z => (rest_mem.mp z).2.1 rfl) (fun x hx => (rest_mem.mp (of_decide_eq_true hx)).1)
    (fun a b ha hb h1 h2 => by
      have ha := of_decide_eq_true ha
      have hb := of_decide_eq_true hb
      rw [hf a (rest_mem.mp ha).1, hf b (rest_mem.mp hb).1]
      exact rest_top (of_decide_eq_true h1) hb (of_decide_eq_false h2))
    (by
      rw [e1]
      refine Eq.trans ?_ tl.symm
      rw [← sg_mem tn fun x hx => (rest_mem.mp (tm x hx)).1]
      refine sg_congr fun x hx => ?_
      by_cases c : x ∈ (restOf t i j).take (tv t i - b2 (f i j)).toNat
      · rw [decide_eq_true c, decide_eq_true (tm x c)]
        rfl
      · rw [decide_eq_false c, Bool.and_false])
  refine ⟨f', F', fun v hv => by rw [hd', hf v hv], hN j (decide_eq_false fun z => (rest_mem.mp z).2.2 rfl), tl, fun x hx hxj => ?_⟩
  by_cases c : x = i
  · subst c
    rw [F'.irr, decide_eq_false fun z => (rest_mem.mp (tm x z)).2.1 rfl]
  · exact hT x (decide_eq_true (rest_mem.mpr ⟨hx, c, hxj⟩))
section
variable {n : Nat} {es : List Tie} {i j : Nat}
/-- the wall of one more at both: the tie is there -/
theorem tie_of_all (W : WebOk n es) (hi : i < n) (hj : j < n) (hij : i ≠ j) (h : wallOf (mv2 (tallyT n es) i j 1) ≠ none) : norm (i, j) ∈ es := by
  have G := graphT_gr W
  have hl := tallyT_length n es
  cases c : graphT es i j with
  | true => exact (of_decide_eq_true c).2
  | false =>
    exfalso
    apply h
    apply none_of_fine
    rw [mv2_length, hl]
    refine fine_of_graph (flip_gr G (b := true) hi hj hij) fun v hv => ?_
    rw [dg_flip G hi hj hij, c, graphT_dg W v hv, tv_mv2 (by omega) (by omega), tv_tallyT hv]
    simp only [b2_true, b2_false]
    omega
/-- the wall of one fewer at both: the tie is not there -/
theorem no_tie_of_none (W : WebOk n es) (hi : i < n) (hj : j < n) (hij : i ≠ j) (h : wallOf (mv2 (tallyT n es) i j (-1)) ≠ none) : norm (i, j) ∉ es := fun hm => by
  have G := graphT_gr W
  have hl := tallyT_length n es
  have c : graphT es i j = true := decide_eq_true ⟨hij, hm⟩
  apply h
  apply none_of_fine
  rw [mv2_length, hl]
  refine fine_of_graph (flip_gr G (b := false) hi hj hij) fun v hv => ?_
  rw [dg_flip G hi hj hij, c, graphT_dg W v hv, tv_mv2 (by omega) (by omega), tv_tallyT hv]
  simp only [b2_true, b2_false]
  by_cases e1 : v = i <;> by_cases e2 : v = j <;> simp only [e1, e2, if_true, if_false] <;> omega
theorem tally_none (W : WebOk n es) : wallOf (tallyT n es) = none := by
  apply none_of_fine
  rw [tallyT_length]
  exact fine_of_graph (graphT_gr W) fun v hv => by rw [graphT_dg W v hv, tv_tallyT hv]
theorem fine_graph {t : List Int} (h : wallOf t = none) : ∃ g, Gr t.length g ∧ ∀ v, v < t.length → dg t.length g v = tv t v := graph_of_fine (fine_of_none h)
theorem some_without {t : List Int} (hi : i < t.length) (hj : j < t.length) (hij : i ≠ j) (h0 : wallOf t = none) (h1 : wallOf (mv2 t i j 1) = none) : NearOk t i (near2 t i j) := by
  obtain ⟨g, G, hg⟩ := fine_graph h0
  obtain ⟨f, F, hf, hfn⟩ : ∃ f, Gr t.length f ∧ (∀ v, v < t.length → dg t.length f v = tv t v) ∧ f i j = false := by
    cases c : g i j with
    | false => exact ⟨g, G, hg, c⟩
    | true =>
      obtain ⟨h, H, hh⟩ := fine_graph h1
      rw [mv2_length] at H hh
      obtain ⟨f, F, hf, e⟩ := without G H hi hj hij c fun v hv => by rw [hh v hv, tv_mv2 hi hj, hg v hv]
      exact ⟨f, F, fun v hv => by rw [hf v hv, hg v hv], e⟩
  obtain ⟨f', F', hf', e, tl, hN⟩ := near_of hi hj hij F hf
  rw [hfn, b2_false, Int.sub_zero] at hN tl
  refine ⟨hi, (rest_nodup t i j).sublist (List.take_sublist _ _), fun x hx => ?_, f', F', hf', fun x hx => ?_⟩
  · have := rest_mem.mp (List.mem_of_mem_take hx)
    exact ⟨this.1, this.2.1⟩
  · by_cases c : x = j
    · subst c
      rw [e, hfn]
      exact (decide_eq_false fun z => (rest_mem.mp (List.mem_of_mem_take z)).2.2 rfl).symm
    · exact hN x hx c
theorem some_with {t : List Int} (hi : i < t.length) (hj : j < t.length) (hij : i ≠ j) (h0 : wallOf t = none) (h1 : wallOf (mv2 t i j (-1)) = none) : NearOk t i (near1 t i j) ∧ 1 ≤ tv t i := by
  obtain ⟨g, G, hg⟩ := fine_graph h0
  obtain ⟨f, F, hf, hfn⟩ : ∃ f, Gr t.length f ∧ (∀ v, v < t.length → dg t.length f v = tv t v) ∧ f i j = true := by
    cases c : g i j with
    | true => exact ⟨g, G, hg, c⟩
    | false =>
      obtain ⟨h, H, hh⟩ := fine_graph h1
      rw [mv2_length] at H hh
      obtain ⟨f, F, hf, e⟩ := withit G H hi hj hij c fun v hv => by
        rw [hh v hv, tv_mv2 hi hj, hg v hv]
        by_cases e1 : v = i <;> by_cases e2 : v = j <;> simp only [e1, e2, if_true, if_false] <;> omega
      exact ⟨f, F, fun v hv => by rw [hf v hv, hg v hv], e⟩
  obtain ⟨f', F', hf', e, tl, hN⟩ := near_of hi hj hij F hf
  rw [hfn, b2_true] at hN tl
  refine ⟨⟨hi, List.nodup_cons.mpr ⟨fun z => (rest_mem.mp (List.mem_of_mem_take z)).2.2 rfl, (rest_nodup t i j).sublist (List.take_sublist _ _)⟩, fun x hx => ?_, f', F', hf', fun x hx => ?_⟩, by omega⟩
  · rcases List.mem_cons.mp hx with rfl | hx
    · exact ⟨hj, hij.symm⟩
    · have := rest_mem.mp (List.mem_of_mem_take hx)
      exact ⟨this.1, this.2.1⟩
  · by_cases c : x = j
    · subst c
      rw [e, hfn]
      exact (decide_eq_true (List.mem_cons_self ..)).symm
    · rw [hN x hx c]
      exact decide_eq_decide.mpr ⟨fun z => List.mem_cons_of_mem _ z, fun z => (List.mem_cons.mp z).resolve_left c⟩
end
theorem near2_no (t : List Int) (i j : Nat) : j ∉ near2 t i j := fun z => (rest_mem.mp (List.mem_of_mem_take z)).2.2 rfl
/-! ### walls know the numbers alone -/
def roomV (r : Int) : Nat → List Int → Int → Int
  | _, [], acc => acc
  | k, x :: l, acc => roomV r (k + 1) l (if (k : Int) < r then acc - x else acc + (if r < x then r else x))
theorem roomGo_V (d : Nat → Int) (r : Int) : ∀ (l : List Nat) (k : Nat) (acc : Int), roomGo d r k l acc = roomV r k (l.map d) acc
  | [], _, _ => rfl
  | p :: l, k, acc => by
    rw [List.map_cons]
    unfold roomGo roomV
    exact roomGo_V d r l (k + 1) _
theorem map_range_tv (t : List Int) : (List.range t.length).map (tv t) = t := by
  apply List.ext_getElem
  · rw [List.length_map, List.length_range]
  · intro i h1 h2
    rw [List.getElem_map, List.getElem_range, tv_lt h2]
theorem order_vals_perm (t : List Int) : ((orderOf t).map (tv t)).Perm t := by
  have := (orderOf_perm t).map (tv t)
  rw [map_range_tv] at this
  exact this
theorem order_vals_sorted (t : List Int) : ((orderOf t).map (tv t)).Pairwise (fun a b => b ≤ a) := List.Pairwise.map _ (fun _ _ h => kle_ge h) (byK_sorted (tv t) (List.range t.length))
theorem order_vals_eq {t u : List Int} (h : t.Perm u) : (orderOf t).map (tv t) = (orderOf u).map (tv u) :=
  List.Perm.eq_of_pairwise (le := fun a b => b ≤ a) (fun a b _ _ h1 h2 => Int.le_antisymm h2 h1) (order_vals_sorted t) (order_vals_sorted u) ((order_vals_perm t).trans (h.trans (order_vals_perm u).symm))
theorem room_perm {t u : List Int} (h : t.Perm u) (r : Int) : roomOf t r = roomOf u r := by
  unfold roomOf
  rw [roomGo_V, roomGo_V, order_vals_eq h]
theorem sum_perm {t u : List Int} (h : t.Perm u) : t.sum = u.sum := by
  induction h with
  | nil => rfl
  | cons x _ ih => rw [List.sum_cons, List.sum_cons, ih]
  | swap x y l => rw [List.sum_cons, List.sum_cons, List.sum_cons, List.sum_cons]; omega
  | trans _ _ h1 h2 => rw [h1, h2]
theorem wall_perm {t u : List Int} (h : t.Perm u) : wallOf t = none ↔ wallOf u = none := by
  rw [wallOf_none, wallOf_none, sum_perm h, h.length_eq]
  refine ⟨fun z => ⟨fun x hx => z.1 x (h.mem_iff.mpr hx), z.2.1, fun r a b => by rw [← room_perm h]; exact z.2.2 r a b⟩, fun z => ⟨fun x hx => z.1 x (h.mem_iff.mp hx), z.2.1, fun r a b => by rw [room_perm h]; exact z.2.2 r a b⟩⟩
theorem count_set (t : List Int) (x z : Int) : ∀ i, i < t.length → ((t.set i x).count z : Int) = t.count z - b2 (decide (tv t i = z)) + b2 (decide (x = z)) := by
  induction t with
  | nil => intro i h; simp at h
  | cons a t ih =>
    intro i h
    cases i with
    | zero =>
      rw [List.set_cons_zero, List.count_cons, List.count_cons]
      show _ = _ - b2 (decide (a = z)) + _
      have e : ∀ y : Int, (if (y == z) = true then 1 else 0 : Nat) = if y = z then 1 else 0 := fun y => by
        by_cases c : y = z
        · rw [if_pos c, if_pos (by simpa using c)]
        · rw [if_neg c, if_neg (by simpa using c)]
      rw [e, e]
      by_cases c1 : x = z <;> by_cases c2 : a = z <;> simp [c1, c2, b2] <;> omega
    | succ i =>
      rw [List.set_cons_succ, List.count_cons, List.count_cons, tv_cons_succ]
      have := ih i (by rw [List.length_cons] at h; omega)
      omega
theorem count_mv2 {t : List Int} {i j : Nat} (c z : Int) (hi : i < t.length) (hj : j < t.length) (hij : i ≠ j) :
    ((mv2 t i j c).count z : Int) = t.count z - (b2 (decide (tv t i = z)) + b2 (decide (tv t j = z))) + (b2 (decide (tv t i + c = z)) + b2 (decide (tv t j + c = z))) := by
  unfold mv2
  have e1 := count_set (mv1 t i c) (tv (mv1 t i c) j + c) z j (by rw [mv1_length]; exact hj)
  have e2 := count_set t (tv t i + c) z i hi
  have e3 : tv (mv1 t i c) j = tv t j := by rw [tv_mv1 hi, if_neg hij.symm]; omega
  rw [e3] at e1
  have e4 : mv1 (mv1 t i c) j c = (mv1 t i c).set j (tv t j + c) := by
    show (mv1 t i c).set j (tv (mv1 t i c) j + c) = _
    rw [e3]
  rw [e4, e1]
  unfold mv1
  rw [e2]
  omega
/-- the pair's numbers -/
def pk (t : List Int) (i j : Nat) : Int × Int := (if tv t j < tv t i then tv t j else tv t i, if tv t i < tv t j then tv t j else tv t i)
theorem wall_key {t : List Int} {i j i' j' : Nat} (c : Int) (hi : i < t.length) (hj : j < t.length) (hij : i ≠ j) (hi' : i' < t.length) (hj' : j' < t.length) (hij' : i' ≠ j') (h : pk t i j = pk t i' j') :
    wallOf (mv2 t i j c) = none ↔ wallOf (mv2 t i' j' c) = none := by
  apply wall_perm
  rw [List.perm_iff_count]
  intro z
  have e1 := count_mv2 c z hi hj hij
  have e2 := count_mv2 c z hi' hj' hij'
  unfold pk at h
  have h := Prod.mk.inj h
  have : (tv t i = tv t i' ∧ tv t j = tv t j') ∨ (tv t i = tv t j' ∧ tv t j = tv t i') := by
    have h1 := h.1
    have h2 := h.2
    by_cases a : tv t j < tv t i <;> by_cases b : tv t i < tv t j <;> by_cases a' : tv t j' < tv t i' <;> by_cases b' : tv t i' < tv t j' <;> simp only [a, b, a', b', if_true, if_false] at h1 h2 <;> omega
  rcases this with ⟨p, q⟩ | ⟨p, q⟩
  · rw [p, q] at e1
    omega
  · rw [p, q] at e1
    omega
end TW
set_option Elab.async false
set_option linter.all false
set_option maxRecDepth 100000
set_option maxHeartbeats 4000000
/-! rules of our own: sum, min, max, enumerate, in of tuples -/
namespace L2
open PySem PySem.Spec PyProof.Rows
section
variable {X : Cx}
/-- sum(t), t a tuple of ints -/
theorem cr_sumT (hc : X.calm = true) : CallR X (.builtin "sum") (fun vs H Q => ∃ (a : Addr) (ns : List Int), vs = [V.ref a] ∧ (SqL X.K H a (ns.map V.int) ∨ SqT X.K H a (ns.map V.int)) ∧ Q (.int ns.sum) H) := by
  intro pins s σ H vs us Q I r h
  obtain ⟨a, ns, rfl, hs, q⟩ := h
  rcases hs with hs | hs
  · exact cr_sum hc pins s σ H _ us Q I r ⟨a, ns, rfl, hs, q⟩
  · obtain ⟨its, rv, hl, _⟩ := I.tuple hs
    rw [Vals.ref1 r]
    have hi := rv.ints
    obtain ⟨xs, hx⟩ := hi.allInts.items
    have hn : numsOf its.toArray.toList = ns := by rw [show its.toArray.toList = its from rfl, hi.numsOf]
    have hl' : s.heap.IsTuple a its.toArray := hl
    rw [hx] at hl' hn
    rw [nums_intItems] at hn
    refine PySem.W.ktm_sumG (I.ok.hd hc) hl' fun h' tk t' hk => ?_
    rw [preSum_eq, List.take_of_length_le (by simp), hn]
    exact ⟨.int _, H, I.kept hk, ⟨_, rfl⟩, q⟩
theorem reads_pair {s : Shared} {i j : Int} {u1 u2 : Value} (r1 : RelV (.int i) u1) (r2 : RelV (.int j) u2) : ∃ as, ReadsAll s.heap [u1, u2] [.int i, .int j] as := by
  obtain ⟨t, rfl⟩ := r1
  obtain ⟨t', rfl⟩ := r2
  exact ⟨_, .cons (.int i t) (.cons (.int j t') .nil)⟩
theorem alike_pair (i j : Int) : PySem.W.AlikeAll [.int i, .int j] := by
  refine ⟨fun x hx y hy => ?_, fun x hx => ?_⟩
  · rcases List.mem_cons.mp hx with rfl | hx
    · rcases List.mem_cons.mp hy with rfl | hy
      · rfl
      · obtain rfl := List.mem_singleton.mp hy
        rfl
    · obtain rfl := List.mem_singleton.mp hx
      rcases List.mem_cons.mp hy with rfl | hy
      · rfl
      · obtain rfl := List.mem_singleton.mp hy
        rfl
  · rcases List.mem_cons.mp hx with rfl | hx
    · intro z; cases z
    · obtain rfl := List.mem_singleton.mp hx
      intro z; cases z
/-- min(p), p a pair of ints -/
theorem cr_min2T (hc : X.calm = true) (hu : X.A.units + 64 < cLine) : CallR X (.builtin "min") (fun vs H Q => ∃ (a : Addr) (i j : Int), vs = [V.ref a] ∧ SqT X.K H a [.int i, .int j] ∧ Q (.int (min i j)) H) := by
  intro pins s σ H vs us Q I r h
  obtain ⟨a, i, j, rfl, hs, q⟩ := h
  obtain ⟨its, rv, hl, _⟩ := I.tuple hs
  obtain ⟨u1, u2, rfl, r1, r2⟩ := vals2 rv
  rw [Vals.ref1 r]
  obtain ⟨as, rd⟩ := reads_pair (s := s) r1 r2
  refine PySem.W.min_tuple_data (I.ok.hd hc) hl rd (alike_pair i j) ?_ fun k v h' tk bs hv hr hk => ?_
  · show X.A.units + 1 + PyData.depthAll [.int i, .int j] < cLine
    have : PyData.depthAll [.int i, .int j] = 0 := by simp [PyData.depthAll, PyData.depth]
    omega
  · have e : PySem.W.minD (.int i) [.int j] = .int (min i j) := PySem.W.minD_ints i [j]
    rw [e] at hr
    have hv' : ∃ t, v = .int (min i j) t := by
      cases hr
      exact ⟨_, rfl⟩
    obtain ⟨t, rfl⟩ := hv'
    exact ⟨.int _, H, I.kept hk, ⟨_, rfl⟩, q⟩
theorem cr_max2T (hc : X.calm = true) (hu : X.A.units + 64 < cLine) : CallR X (.builtin "max") (fun vs H Q => ∃ (a : Addr) (i j : Int), vs = [V.ref a] ∧ SqT X.K H a [.int i, .int j] ∧ Q (.int (max i j)) H) := by
  intro pins s σ H vs us Q I r h
  obtain ⟨a, i, j, rfl, hs, q⟩ := h
  obtain ⟨its, rv, hl, _⟩ := I.tuple hs
  obtain ⟨u1, u2, rfl, r1, r2⟩ := vals2 rv
  rw [Vals.ref1 r]
  obtain ⟨as, rd⟩ := reads_pair (s := s) r1 r2
  refine PySem.W.max_tuple_data (I.ok.hd hc) hl rd (alike_pair i j) ?_ fun k v h' tk bs hv hr hk => ?_
  · show X.A.units + 1 + PyData.depthAll [.int i, .int j] < cLine
    have : PyData.depthAll [.int i, .int j] = 0 := by simp [PyData.depthAll, PyData.depth]
    omega
  · have e : PySem.W.maxD (.int i) [.int j] = .int (max i j) := PySem.W.maxD_ints i [j]
    rw [e] at hr
    have hv' : ∃ t, v = .int (max i j) t := by
      cases hr
      exact ⟨_, rfl⟩
    obtain ⟨t, rfl⟩ := hv'
    exact ⟨.int _, H, I.kept hk, ⟨_, rfl⟩, q⟩
/-- x in t, x not in t: t a list or a tuple of data of any depth -/
def rInT (K : PySem.W.Frag) : R2 := fun x y H Q => ∃ d ds, Dp K H x d ∧ (Dp K H y (.tuple ds) ∧ SeqAt.shaped (.tuple ds) = true ∨ Dp K H y (.list ds) ∧ SeqAt.shaped (.list ds) = true) ∧ SeqAt.shaped d = true ∧ Q (.bl (ds.any fun z => PyData.eqv z d)) H
def rNotInT (K : PySem.W.Frag) : R2 := fun x y H Q => ∃ d ds, Dp K H x d ∧ Dp K H y (.tuple ds) ∧ SeqAt.shaped d = true ∧ SeqAt.shaped (.tuple ds) = true ∧ Q (.bl (!ds.any fun z => PyData.eqv z d)) H
theorem op_inT (hu : X.A.units + 65 < cLine) : OpR X (compareOp .In) (rInT X.K) := by
  intro pins s σ H x y v u Q I rx ry h
  obtain ⟨d, ds, hd, he, sd, q⟩ := h
  rcases he with ⟨he, se⟩ | ⟨he, se⟩
  · obtain ⟨as, r1⟩ := Dp.reads I d x v hd rx
    obtain ⟨bs, r2⟩ := Dp.reads I (.tuple ds) y u he ry
    exact SeqAt.in_tuple_reads r2 r1 (SeqAt.canLay_of_shaped se) (SeqAt.canLay_of_shaped sd) (room_in_shaped sd hu) ⟨.bl _, H, I, rfl, q⟩
  · exact op_inD hu pins s σ H x y v u Q I rx ry ⟨d, ds, hd, he, sd, se, q⟩
theorem op_notInT (hu : X.A.units + 65 < cLine) : OpR X (compareOp .NotIn) (rNotInT X.K) := by
  intro pins s σ H x y v u Q I rx ry h
  obtain ⟨d, ds, hd, he, sd, se, q⟩ := h
  obtain ⟨as, r1⟩ := Dp.reads I d x v hd rx
  obtain ⟨bs, r2⟩ := Dp.reads I (.tuple ds) y u he ry
  exact SeqAt.notIn_tuple_reads r2 r1 (SeqAt.canLay_of_shaped se) (SeqAt.canLay_of_shaped sd) (room_in_shaped sd hu) ⟨.bl _, H, I, rfl, q⟩
end
end L2
set_option Elab.async false
set_option linter.all false
set_option maxRecDepth 100000
set_option maxHeartbeats 4000000
/-! enumerate of a list or a tuple -/
namespace PySem
theorem meets_enumerate_newB1 {v : Value} {o : Obj} {H : Heap → Prop} (B : Begins v o H) :
    Meets (Builtin.«enumerate.__new__» ⟨[.type "enumerate", v], []⟩) (fun _ R s => H s.heap ∧
      R (.ok (.ret (.ref (s.heap.push o).objs.size))) { s with heap := (s.heap.push o).push { cls := .type "enumerate", data := .fields #[.none, .bool false, .ref s.heap.objs.size, rawInt 0, .none, .none] } }) :=
  .of_wp fun prog w A R s h => by
    obtain ⟨hp, g, d, tk, os⟩ := s
    obtain ⟨h1, h⟩ := h
    have hsub := sub_enumerate
    have q1 : ∀ {A' : Around} {E : Value → Shared → Prop} {Q : Value → Shared → Prop}, Q (.ref hp.objs.size) ⟨hp.push o, g, d, tk, os⟩ → wpAny (model prog w) A' (pyIter v) Q E ⟨hp, g, d, tk, os⟩ :=
      fun q => B.iter prog w _ _ ⟨hp, g, d, tk, os⟩ _ h1 q
    wp_walk using q1
    refine wpAny_stack_any fun st => wpAny_pure ?_
    split
    · rename_i c _ _ _ _ _
      cases (c == Value.type "enumerate")
      · wp_walk using q1
        exact ⟨_, rfl, h⟩
      · wp_walk using q1
        exact ⟨_, rfl, h⟩
    · wp_walk using q1
      exact ⟨_, rfl, h⟩
theorem call_enumerate_begins {prog : Program} {w : World} {A : Around} {E : Value → Shared → Prop} {s : Shared} {v : Value} {o : Obj} {H : Heap → Prop} {Q : Value → Shared → Prop} (B : Begins v o H) (h1 : H s.heap)
    (h : ∀ h', IsEnum h' (s.heap.objs.size + 1) s.heap.objs.size 0 .none → h'.get? s.heap.objs.size = some o → h'.objs.size = s.heap.objs.size + 2 →
      (∀ b o, s.heap.get? b = some o → h'.get? b = some o) → Q (.ref (s.heap.objs.size + 1)) { s with heap := h' }) :
    wpAny (model prog w) A (call (.type "enumerate") [v]) Q E s := by
  refine callType_new F.called_enumerate (by decide) (F.typeCall_enumerate_1 _) (F.newCall_enumerate_1 _) (fun obj => F.args_object_init_2 obj _) F.entry_enumerate_new
    (meets_enumerate_newB1 B) ⟨h1, ?_⟩
  have hz : (s.heap.push o).objs.size = s.heap.objs.size + 1 := Heap.size_push ..
  show _ ∧ _
  rw [hz]
  have he : IsEnum ((s.heap.push o).push { cls := .type "enumerate", data := .fields #[.none, .bool false, .ref s.heap.objs.size, rawInt 0, .none, .none] }) (s.heap.objs.size + 1) s.heap.objs.size 0 .none := by
    have := Heap.get?_push_size (s.heap.push o) (o := { cls := .type "enumerate", data := .fields #[.none, .bool false, .ref s.heap.objs.size, rawInt 0, .none, .none] }) rfl
    rw [hz] at this; exact this
  refine ⟨⟨_, he, rfl⟩, h _ he (Heap.get?_push_of_some _ (Heap.get?_push_size _ B.free)) (by rw [Heap.size_push, hz]) fun b o x => Heap.get?_push_of_some _ (Heap.get?_push_of_some _ x)⟩
end PySem
namespace L2
open PySem PySem.Spec PyProof.Rows
/-- the tuple at a, each item in a new pair -/
def IteT (K : PySem.W.Frag) (a : Addr) : It :=
  ⟨fun i H => ∃ (xs : List V) (x : V), SqT K H a xs ∧ xs[i]? = some x, fun i H v H' => ∃ T x, v = .ref T ∧ H T = none ∧ H' = upd H T (.tup [.int (i : Nat), x]) ∧ ∀ xs, SqT K H a xs → xs[i]? = some x, fun i H => ∃ xs : List V, SqT K H a xs ∧ xs.length = i⟩
theorem turn_enumT {P : Program} {w : World} {K : PySem.W.Frag} {elts : List Expr} {kk : Nat} {tpos : Pos} (a e it : Addr) :
    Turn P w K (.Tuple elts kk tpos) (IteT K a) [e, it] e (fun i h => (∃ old, IsEnum h e it ((i : Nat) : Int) old) ∧ h.IsTupleIter it a i ∧ e ≠ it ∧ e ≠ a ∧ a ≠ it) where
  mem := by simp
  obj := fun i h st b hb => by
    obtain ⟨⟨old, he⟩, ⟨o, ho, hc, hd⟩, _⟩ := st
    have e' : b = e ∨ b = it := by simpa using hb
    rcases e' with z | z
    · rw [z]; exact ⟨_, he, fun v q => nomatch q⟩
    · rw [z]; exact ⟨o, ho, fun v q => by rw [hd] at q; cases q⟩
  keep := fun i h h' st k => let ⟨⟨old, he⟩, hi, hne⟩ := st; ⟨⟨old, k e (by simp) _ he⟩, hi.at fun o q => k it (by simp) o q, hne⟩
  item := by
    intro X hP hw hK hc i pins s σ H E I hf st hg
    subst hP hw hK
    obtain ⟨⟨old, he⟩, hit, hne, hea, hai⟩ := st
    obtain ⟨xs, x, hq, hx⟩ := hg
    obtain ⟨its, rv, p, hz⟩ := I.tuple hq
    obtain ⟨u, hu, ru⟩ := rv.get hx
    have hel : e < s.heap.objs.size := Heap.lt_size he
    have hil : it < s.heap.objs.size := by obtain ⟨_, q, _⟩ := hit; exact Heap.lt_size q
    have hlt : i < its.toArray.size := by
      have := (List.getElem?_eq_some_iff.mp hu).1
      simpa using this
    refine wpAny_pyNext_enum_itemD (Draws.tuple (A := X.A.in1) (I.ok.hd hc) it a hai its.toArray) he ⟨hit, p⟩ hlt hne (fun z => ?_) fun y h' tk hP ho hit' hT hsz hk => ?_
    · rcases List.mem_cons.mp z with z | z
      · exact hne z
      · exact hea (List.mem_singleton.mp z)
    · have ey : y = u := by
        have h1 : its[i]? = some y := by simpa using hP
        rw [hu] at h1
        exact (Option.some.inj h1).symm
      subst ey
      refine ⟨_, rfl, wpAny_letOwnedTupleGo_enum (s := { s with heap := h', toks := tk + 1 }) ho fun h'' he' sb => ?_⟩
      have hT2 : h''.get? s.heap.objs.size = some { cls := .type "tuple", data := .seq #[.int i tk, y] } := (sb.2 _ (Nat.ne_of_gt hel)).trans hT
      have new : ObjOk X.prog X.w (upd H s.heap.objs.size (.tup [.int (i : Nat), x])) h'' s.heap.objs.size (.tup [.int (i : Nat), x]) :=
        ⟨by show 2 ≤ sizeLine; decide, [.int i tk, y], .cons ⟨_, rfl⟩ (.cons ru .nil), ⟨_, hT2, rfl, _, rfl⟩⟩
      have I1 : Inv X pins σ (upd H s.heap.objs.size (.tup [.int (i : Nat), x])) { s with heap := h'', toks := tk + 1 } :=
        I.turnedNew (ch := [e, it]) (fun b ob hb q => (sb.2 b (fun z => hb (by simp [z]))).trans (hk b ob (fun z => hb (by simp [z])) (fun z => hb (by simp [z])) q)) hf (Nat.le_refl _) new
      refine ⟨.ref s.heap.objs.size, _, I1, rfl, ⟨_, x, rfl, I.hok.fresh (Nat.le_refl _), rfl, fun ys hy => by rw [I.tuple_inj hy hq]; exact hx⟩, ⟨⟨y, ?_⟩, hit'.1.at fun o q => (sb.2 it (Ne.symm hne)).trans q, hne, hea, hai⟩, fun b hb => ?_⟩
      · have e1 : ((i + 1 : Nat) : Int) = (i : Int) + 1 := by omega
        rw [e1]; exact he'
      · have hb' : b < s.heap.objs.size := by
          have e' : b = e ∨ b = it := by simpa using hb
          rcases e' with z | z
          · rw [z]; exact hel
          · rw [z]; exact hil
        rw [upd_ne (Nat.ne_of_lt hb')]
        exact (hf b hb).1
  done := by
    intro X hP hw hK hc i pins s σ H E I hf st hg
    subst hP hw hK
    obtain ⟨⟨old, he⟩, hit, hne, hea, hai⟩ := st
    obtain ⟨xs, hq, hx⟩ := hg
    obtain ⟨its, rv, p, hz⟩ := I.tuple hq
    obtain ⟨f0, f1, f2, f3, f4, f5⟩ := hf it (by simp)
    have hl := rv.length
    have hsz : its.toArray.size = i := by simp; omega
    have hst : s.heap.IsTupleIter it a its.toArray.size ∧ s.heap.IsTuple a its.toArray := ⟨by rw [hsz]; exact hit, p⟩
    exact wpAny_pyNext_enum_endD (Draws.tuple (A := X.A.in1) (I.ok.hd hc) it a hai its.toArray) he hst fun h' eb => ⟨rfl, I.turned (t' := s.toks) (fun b o hb q => eb b o hb q) f0 f1 f3 f4 f5⟩
  self := fun A i s Q E st h => let ⟨⟨_, he⟩, _⟩ := st; wpAny_pyIter_enum he h
def iEnumS (K : PySem.W.Frag) (ta : TA) : TI := fun σ H R => ta σ H fun vs H1 => ∃ (a : Addr) (xs : List V), vs = [.ref a] ∧ (SqL K H1 a xs ∧ R (Ite K a) H1 ∨ SqT K H1 a xs ∧ R (IteT K a) H1)
theorem pi_enumS {X : Cx} {e : Expr} {ta : TA} {p pos tpos : Pos} {elts : List Expr} {kk : Nat} (hg : Gl X "enumerate") (hm : X.mg "enumerate" = none) (ha : PA X [e] ta) (hs : starEach [e] X.env = [(false, eval e X.env)] := by rfl) :
    PI X (.Tuple elts kk tpos) (.Call (.Name "enumerate" p) [e] [] pos) (iEnumS X.K ta) := by
  refine ⟨fun pins s σ H R I h => ?_⟩
  refine Call_ (ld_blt I hg hm boot_enumerate (PyProof.Rows.callWith_type1 (thn (ha.run pos pins s σ H _ I h) fun us s1 ⟨vs, H1, I1, r1, q1⟩ => ?_) hs rfl))
  obtain ⟨a, xs, ex, hq⟩ := q1
  subst ex
  cases r1 with
  | cons r rr =>
    cases rr
    cases r
    rcases hq with ⟨hq, q⟩ | ⟨hq, q⟩
    · obtain ⟨its, rv, p', hz⟩ := I1.list hq
      refine call_enumerate_list p'.isList fun h' he hit hsz hk => wpAny_pyIter_enum he ?_
      have I2 : Inv X pins σ H1 { s1 with heap := h' } := I1.kept (t' := s1.toks) hk
      refine ⟨s1.heap.objs.size + 1, [s1.heap.objs.size + 1, s1.heap.objs.size], _, _, H1, rfl, I2, turn_enum a (s1.heap.objs.size + 1) s1.heap.objs.size, ⟨⟨.none, he⟩, hit, Nat.succ_ne_self _⟩, fun b hb => ?_, q⟩
      have e' : b = s1.heap.objs.size + 1 ∨ b = s1.heap.objs.size := by simpa using hb
      have hle : s1.heap.objs.size ≤ b := by
        rcases e' with z | z
        · rw [z]; exact Nat.le_add_right _ _
        · rw [z]; exact Nat.le_refl _
      exact I1.fpOk hle (I1.hok.fresh hle)
    · obtain ⟨its, rv, p', hz⟩ := I1.tuple hq
      have p2 : s1.heap.IsTuple a its.toArray := p'
      have hal : a < s1.heap.objs.size := p'.lt
      refine call_enumerate_begins (begins_tuple a its.toArray) p2 fun h' he hit hsz hk => wpAny_pyIter_enum he ?_
      have I2 : Inv X pins σ H1 { s1 with heap := h' } := I1.kept (t' := s1.toks) hk
      refine ⟨s1.heap.objs.size + 1, [s1.heap.objs.size + 1, s1.heap.objs.size], _, _, H1, rfl, I2, turn_enumT a (s1.heap.objs.size + 1) s1.heap.objs.size, ⟨⟨.none, he⟩, ⟨_, hit, rfl, rfl⟩, Nat.succ_ne_self _, Nat.ne_of_gt (Nat.lt_succ_of_lt hal), Nat.ne_of_lt hal⟩, fun b hb => ?_, q⟩
      have e' : b = s1.heap.objs.size + 1 ∨ b = s1.heap.objs.size := by simpa using hb
      have hle : s1.heap.objs.size ≤ b := by
        rcases e' with z | z
        · rw [z]; exact Nat.le_add_right _ _
        · rw [z]; exact Nat.le_refl _
      exact I1.fpOk hle (I1.hok.fresh hle)
/-- both kinds: at each turn a new pair of the place and the item -/
theorem walk_enumT {K : PySem.W.Frag} {a : Addr} {xs : List V} : Walk (IteT K a) xs.length (fun H => SqT K H a xs) (YPair (fun i => some (.int (i : Nat))) (fun i => xs[i]?)) := by
  refine ⟨fun i _ hi q => ⟨xs, xs[i], q, by simp [hi]⟩, fun _ q => ⟨xs, q, rfl⟩, fun i H v H' _ q y => ?_⟩
  obtain ⟨T, x, h1, h2, h3, h4⟩ := y
  exact ⟨T, .int (i : Nat), x, h1, h2, h3, rfl, h4 xs q⟩
end L2
set_option Elab.async false
set_option linter.all false
set_option maxRecDepth 100000
set_option maxHeartbeats 4000000
/-! sorted(xs, key=lambda p: (0 - t[p], p)): t a captured list or tuple of ints -/
namespace TWR
open PySem PySem.Spec PyProof.Rows L2
/-- a list or a tuple of those ints stands at a -/
def SeqAtH (h : Heap) (a : Addr) (its : List Value) : Prop := h.IsList a its.toArray ∨ IsTup h a its.toArray
theorem SeqAtH.keeps {h h' : Heap} {a : Addr} {its : List Value} (x : SeqAtH h a its) (k : ∀ b o, h.get? b = some o → h'.get? b = some o) : SeqAtH h' a its := by
  rcases x with x | x
  · exact .inl (x.at fun o e => k a o e)
  · obtain ⟨o, e, r⟩ := x
    exact .inr ⟨o, k a o e, r⟩
section
variable {prog : Program} {w : World} {A : Around} {E : Value → Shared → Prop} {s : Shared}
/-- x[y] in the lambda: x captured, y its own name -/
theorem lam_item {env : Env} {x y : Str} {p1 p2 p3 : Pos} {m : Str → Option Value} {c a : Addr} {its : List Value} {ns : List Int} {i : Nat} {t : Tok} {Q : Value → Shared → Prop}
    (hk : env.scope.kind = .function) (hx : env.kindOf x = some .free) (hc : env.cells.lookup x = some c) (hcell : s.heap.IsCell c (some (.ref a))) (hq : SeqAtH s.heap a its) (hi : IntsAre its ns)
    (hy : env.kindOf y = some .local) (hn : s.heap.Ns env.locals m) (hm : m y = some (.int i t)) (hil : i < ns.length) (h63 : ns.length ≤ sizeLine)
    (h : ∀ t', Q (.int (ns.getD i 0) t') s)
    (hdx : (x == ("__debug__" : Str)) = false := by decide) (hcx : (x == ("__classdict__" : Str)) = false := by decide) (hdy : (y == ("__debug__" : Str)) = false := by decide) :
    wpAny (model prog w) A (eval (.Subscript (.Name x p1) (.Name y p2) p3) env) Q E s := by
  refine Subscript_ (wpAny_Name (wpAny_loadName_free hk hx hc hcell ?_ hcx) hdx)
  refine wpAny_Name (wpAny_loadName_local hk hy hn hm ?_) hdy
  have hl := hi.length
  have h0 : i < its.length := by omega
  obtain ⟨t', ht'⟩ := hi.get i (ns.getD i 0) (by rw [List.getD_eq_getElem?_getD, List.getElem?_eq_getElem hil]; rfl)
  have hz := line63
  rcases hq with hq | hq
  · refine item_listR hq (by omega) (by omega) (x := .int (ns.getD i 0) t') (by simpa using ht') (h t') ?_
    rfl
  · refine subscriptTail_builtinR (x := .int (ns.getD i 0) t') hq.typeIs slot_tuple_getitem.lookup
      (getItem_tuple (j := i) (Q := fun r s' => r = .int (ns.getD i 0) t' ∧ Q r s') hq (by omega) (by omega) (seqIndex_of (by omega) (by rw [List.size_toArray]; omega)) (by simpa using ht') ⟨rfl, h t'⟩) ?_
    rfl
/-- the two forms of the key's first part -/
inductive KeyForm (x y : Str) : Expr → Prop
  | sub (p1 p2 p3 p4 p5 : Pos) (k : Nat) : KeyForm x y (.BinOp (.Constant (.int 0) k p4) .Sub (.Subscript (.Name x p1) (.Name y p2) p3) p5)
  | neg (p1 p2 p3 p4 : Pos) : KeyForm x y (.UnaryOp .USub (.Subscript (.Name x p1) (.Name y p2) p3) p4)
theorem lam_first {env : Env} {x y : Str} {e0 : Expr} (kf : KeyForm x y e0) {m : Str → Option Value} {c a : Addr} {its : List Value} {ns : List Int} {i : Nat} {t : Tok} {Q : Value → Shared → Prop}
    (hk : env.scope.kind = .function) (hx : env.kindOf x = some .free) (hc : env.cells.lookup x = some c) (hcell : s.heap.IsCell c (some (.ref a))) (hq : SeqAtH s.heap a its) (hi : IntsAre its ns)
    (hy : env.kindOf y = some .local) (hn : s.heap.Ns env.locals m) (hm : m y = some (.int i t)) (hil : i < ns.length) (h63 : ns.length ≤ sizeLine)
    (h : ∀ t' tk, Q (.int (0 - ns.getD i 0) t') { s with toks := tk })
    (hdx : (x == ("__debug__" : Str)) = false := by decide) (hcx : (x == ("__classdict__" : Str)) = false := by decide) (hdy : (y == ("__debug__" : Str)) = false := by decide) :
    wpAny (model prog w) A (eval e0 env) Q E s := by
  cases kf with
  | sub p1 p2 p3 p4 p5 k =>
    refine wpAny_BinOp (wpAny_Constant_int (lam_item hk hx hc hcell hq hi hy hn hm hil h63 (fun t' => ?_) hdx hcx hdy))
    exact sub_int (h _ _)
  | neg p1 p2 p3 p4 =>
    refine UnaryOp_ (lam_item hk hx hc hcell hq hi hy hn hm hil h63 (fun t' => ?_) hdx hcx hdy)
    refine neg_int ?_
    rw [show -ns.getD i 0 = 0 - ns.getD i 0 by omega]
    exact h _ _
/-- the key: (.., y) -/
theorem lam_tuple {env : Env} {x y : Str} {e0 : Expr} (kf : KeyForm x y e0) {pn pt : Pos} {kk : Nat} {m : Str → Option Value} {c a : Addr} {its : List Value} {ns : List Int} {i : Nat} {t : Tok} {Q : Value → Shared → Prop}
    (hk : env.scope.kind = .function) (hx : env.kindOf x = some .free) (hc : env.cells.lookup x = some c) (hcell : s.heap.IsCell c (some (.ref a))) (hq : SeqAtH s.heap a its) (hi : IntsAre its ns)
    (hy : env.kindOf y = some .local) (hn : s.heap.Ns env.locals m) (hm : m y = some (.int i t)) (hil : i < ns.length) (h63 : ns.length ≤ sizeLine)
    (h : ∀ t' tk, Q (.ref s.heap.objs.size) { s with heap := s.heap.push { cls := .type "tuple", data := .seq #[.int (0 - ns.getD i 0) t', .int i t] }, toks := tk })
    (hst : backTo pt (starEach [e0, .Name y pn] env) = [(false, eval e0 env), (false, eval (.Name y pn) env)])
    (hdx : (x == ("__debug__" : Str)) = false := by decide) (hcx : (x == ("__classdict__" : Str)) = false := by decide) (hdy : (y == ("__debug__" : Str)) = false := by decide) :
    wpAny (model prog w) A (eval (.Tuple [e0, .Name y pn] kk pt) env) Q E s := by
  refine wpAny_Tuple_spliced ?_
  rw [hst]
  refine Calls.spliced_cons (lam_first kf hk hx hc hcell hq hi hy hn hm hil h63 (fun t' tk => ?_) hdx hcx hdy)
  refine Calls.spliced_cons (wpAny_Name (wpAny_loadName_local hk hy hn hm ?_) hdy)
  refine Calls.spliced_nil ⟨by show 2 ≤ sizeLine; decide, ?_⟩
  exact h t' tk
/-- what a call of the lambda gives -/
theorem lam_call {x y : Str} {e0 : Expr} (kf : KeyForm x y e0) {pn pt : Pos} {kk : Nat} {q : Str} {params : Arguments} {scope : Scope} {cl : List (Str × Addr)} {pm ctv : Value} {f c' c a : Addr} {its : List Value} {ns : List Int} {i : Nat} {v : Value}
    (hf : s.heap.get? f = some (PySem.W.kla_obj "<lambda>" q params (.Tuple [e0, .Name y pn] kk pt) scope cl pm c' ctv)) (hcr : s.heap.CodeRec (.ref c') q) (hlim : s.heap.NoLimit) (hroom : A.depth < recursionLimit)
    (hbind : ∀ (pm cv ctv v : Value), bindArgs (PySem.W.kla_fn "<lambda>" q params (.Tuple [e0, .Name y pn] kk pt) scope cl pm cv ctv) ⟨[v], []⟩ = pure [(y, v)])
    (hsk : scope.kind = .function) (hco : scope.isCoroutine = false) (hgen : scope.isGenerator = false) (hnc : ∀ z ∈ scope.names, z.2 ≠ .cell) (hly : scope.names.lookup y = some .local) (hlx : scope.names.lookup x = some .free)
    (hc : cl.lookup x = some c) (hcell : s.heap.IsCell c (some (.ref a))) (hq : SeqAtH s.heap a its) (hi : IntsAre its ns) (hv : ∃ t, v = .int i t) (hil : i < ns.length) (h63 : ns.length ≤ sizeLine)
    (hst : ∀ env, backTo pt (starEach [e0, .Name y pn] env) = [(false, eval e0 env), (false, eval (.Name y pn) env)])
    (hdx : (x == ("__debug__" : Str)) = false := by decide) (hcx : (x == ("__classdict__" : Str)) = false := by decide) (hdy : (y == ("__debug__" : Str)) = false := by decide) :
    wpAny (model prog w) A (call (.ref f) [v]) (PySem.W.KeyPure (.tuple [.int (0 - ns.getD i 0), .int i]) s) (fun _ _ => False) s := by
  obtain ⟨t, rfl⟩ := hv
  refine wpAny_call ?_
  refine PySem.W.kla_callFunE hroom hf rfl hco hgen rfl hcr ?_
  rw [hbind]
  refine wpAny_pure (wpAny_newFunctionEnv hnc (fun z hz => ?_) (fun h₁ hns hsb => ⟨hlim.fresh _ hsb, ?_⟩) hsk)
  · obtain rfl := List.mem_singleton.mp hz
    exact hly
  · show codeAny _ _ (.expr _ (PySem.W.envX q scope s.heap.objs.size f (.ref c') cl)) _ _
    have kp : ∀ b o, s.heap.get? b = some o → h₁.get? b = some o := fun b o e => hsb.extBut b o (Nat.ne_of_lt (Heap.lt_size e)) (Heap.get?_push_of_some _ e)
    refine PySem.W.kla_codeExpr ?_
    have hcell' : h₁.IsCell c (some (.ref a)) := by
      obtain ⟨o, e, d⟩ := hcell
      exact ⟨o, kp _ _ e, d⟩
    refine lam_tuple (t := t) (s := { s with heap := h₁, toks := s.toks + [((y, Value.int i t) : Str × Value)].length }) kf (m := fun z => ([((y, Value.int i t) : Str × Value)]).reverse.lookup z) hsk hlx hc hcell' (hq.keeps kp) hi hly hns ?_ hil h63 (fun t' tk => ?_) (hst _) hdx hcx hdy
    · show ([((y, Value.int i t) : Str × Value)]).lookup y = _
      simp [List.lookup]
    · refine ⟨_, _, rfl, fun b o e => Heap.get?_push_of_some _ (kp b o e), ?_⟩
      exact Reads.tuple (as := []) (Heap.get?_push_size _ rfl) rfl rfl (.cons (as := []) (bs := []) (.int _ _) (.cons (as := []) (bs := []) (.int _ _) .nil))
/-- sorted(v, key=f), v walked by collect -/
theorem sorted_coll {v f : Value} {kw : List (Str × Value)} {b : Bool} {β : Type} {R : Value → β → Prop} {bs : List β} {Q : Value → Shared → Prop} (k : β → PyData)
    (hcol : ∀ (Q' : List Value → Shared → Prop) (E' : Value → Shared → Prop), (∀ (h' : Heap) (tk : Nat) (vs : List Value), (∀ b o, s.heap.get? b = some o → h'.get? b = some o) → PySem.W.EachIs R vs bs → Q' vs { s with heap := h', toks := tk }) → wpAny (model prog w) A.in1 (collect v) Q' E' s)
    (hal : PySem.W.AllAlike (bs.map k)) (hk : PySem.W.Sortable (bs.map k)) (hL : bs.length ≤ sizeLine)
    (hu : ∀ x, x ∈ bs → A.units + 2 + (k x).depth < cLine) (ha1 : argsOk "sorted" ⟨[v], kw⟩) (ha2 : ∀ x, argsOk "list.sort" ⟨[.ref x], kw⟩) (ht : ∀ x, Builtin.«list.sort» ⟨[.ref x], kw⟩ = ksk_tree x f b)
    (turn : ∀ (v : Value) (x : β), R v x → x ∈ bs → ∀ (h : Heap) (tk : Nat), (∀ b o, s.heap.get? b = some o → h.get? b = some o) →
      wpAny (model prog w) A.in1.in1 (call f [v]) (PySem.W.KeyPure (k x) { s with heap := h, toks := tk }) (fun _ _ => False) { s with heap := h, toks := tk })
    (h : ∀ (h1 : Heap) out c h' tk, (∀ b o, s.heap.get? b = some o → h1.get? b = some o) → (∀ b o, h1.get? b = some o → h'.get? b = some o) → h'.get? h1.objs.size = some (seqObj "list" (List.toArray out) c) → out.length = bs.length → PySem.W.EachIs R out (bs.mergeSort (PySem.W.dataLe b k)) →
      Q (.ref h1.objs.size) { s with heap := h', toks := tk }) :
    wpAny (model prog w) A (call (.builtin "sorted") [v] kw) Q E s := by
  refine call_function_entry_kw kind_sorted plain_sorted entry_sorted ha1 ?_
  unfold Builtin.«sorted»
  refine wpAny_bind (m := checkCount "sorted" 1 1 _) (wpAny_pure ?_)
  refine wpAny_bind (hcol _ _ fun h1 tk1 vs k1 e => ?_)
  have hLv : vs.length ≤ sizeLine := by rw [e.length]; exact hL
  refine wpAny_bind (wpAny_newList ?_ hLv)
  have hat : (h1.push (seqObj "list" vs.toArray 0)).get? h1.objs.size = some (seqObj "list" vs.toArray 0) := Heap.get?_push_size _ rfl
  have k2 : ∀ b o, s.heap.get? b = some o → (h1.push (seqObj "list" vs.toArray 0)).get? b = some o := fun b o q => Heap.get?_push_of_some _ (k1 b o q)
  show wpAny _ _ _ _ _ { s with heap := h1.push (seqObj "list" vs.toArray 0), toks := tk1 }
  have up : ∀ {g : Heap}, PySem.W.KeepsBut h1.objs.size (h1.push (seqObj "list" vs.toArray 0)) g → ∀ b o, h1.get? b = some o → g.get? b = some o := fun {g} kp b o q =>
    kp b o (Nat.ne_of_lt (Heap.lt_size q)) (Heap.get?_push_of_some _ q)
  refine wpAny_bind (wpAny_holding (wpAny_call_entry_kw slot_list_sort ⟨_, hat, rfl⟩ entry_list_sort ?body (ha2 _)))
  case body =>
    show wpAny (model prog w) A.in1.in1 (Builtin.«list.sort» ⟨[.ref h1.objs.size], kw⟩) _ _ _
    rw [ht]
    refine PySem.W.keyH_tree (kz := bs.map k) (s := { s with heap := h1.push (seqObj "list" vs.toArray 0), toks := tk1 }) hat (by rw [List.length_map]; exact e.length.symm) hLv hal hk (PySem.W.bound_map (A := A.in1.in1) hu)
      (PySem.W.keyH_turns (s := { s with heap := h1.push (seqObj "list" vs.toArray 0), toks := tk1 }) e fun v x hR hx h tk kp => turn v x hR hx h tk fun b o q => up kp b o (k1 b o q)) fun h' tk out c kp hD ko => ⟨_, rfl, ?_⟩
    exact wpAny_pure ⟨_, rfl, h h1 out c h' tk k1 (up kp) hD ((ko.length (by rw [List.length_map]; exact e.length.symm)).trans e.length) (PySem.W.keyedOut_each k ko e)⟩
end
end TWR
set_option Elab.async false
set_option linter.all false
set_option maxRecDepth 100000
set_option maxHeartbeats 4000000
/-! the rule for sorted(xs, key=lambda p: (0 - t[p], p)) -/
namespace TWR
open PySem PySem.Spec PyProof.Rows L2 LamX
theorem cr_range1 {X : Cx} : CallR X (.type "range") (fun vs H Q => ∃ j, vs = [V.int j] ∧ ∀ p, H p = none → Q (.ref p) (upd H p (.rng 0 j))) := by
  intro pins s σ H vs us Q I r h
  obtain ⟨j, rfl, q⟩ := h
  obtain ⟨u1, rfl, ri⟩ := vals1 r
  obtain ⟨t, rfl⟩ := ri
  refine call_range_1 ⟨.ref s.heap.objs.size, upd H s.heap.objs.size (.rng 0 j), I.laid (t' := s.toks + 1 + 1) (fun b o e => Heap.get?_push_of_some _ e) (Nat.le_refl _) ?_, rfl, q _ (I.hok.fresh (Nat.le_refl _))⟩
  exact ⟨s.toks, t, s.toks + 1, Heap.get?_push_size _ rfl⟩
/-- a list or a tuple of ints -/
def SqI (K : PySem.W.Frag) (H : Hp) (a : Addr) (ns : List Int) : Prop := SqL K H a (ns.map V.int) ∨ SqT K H a (ns.map V.int)
def natV (b : Nat) : V := .int (b : Int)
/-- all but the tables stay -/
theorem ExtN.seq {K : PySem.W.Frag} {H H' : Hp} {a : Addr} {xs : List V} (e : ExtN H H') (h : SqL K H a xs) : SqL K H' a xs := by
  rcases h with (h | ⟨o, h⟩) | h
  · exact .inl (.inl (e _ _ h fun ps z => by cases z))
  · exact .inl (.inr ⟨o, e _ _ h fun ps z => by cases z⟩)
  · exact .inr h
theorem ExtN.tup {K : PySem.W.Frag} {H H' : Hp} {a : Addr} {xs : List V} (e : ExtN H H') (h : SqT K H a xs) : SqT K H' a xs := by
  rcases h with (h | ⟨o, h⟩) | h
  · exact .inl (.inl (e _ _ h fun ps z => by cases z))
  · exact .inl (.inr ⟨o, e _ _ h fun ps z => by cases z⟩)
  · exact .inr h
theorem SqI.ext {K : PySem.W.Frag} {H H' : Hp} {a : Addr} {ns : List Int} (e : ExtN H H') (h : SqI K H a ns) : SqI K H' a ns := h.elim (fun z => .inl (ExtN.seq e z)) fun z => .inr (ExtN.tup e z)
/-- nothing but a table may have stood there -/
def New (H : Hp) (p : Addr) : Prop := ∀ o, H p = some o → ∃ ps, o = .tbl ps
theorem New.of {H H' : Hp} {p : Addr} (e : ExtN H H') (h : H' p = none) : New H p := fun o z => by
  apply Classical.byContradiction
  intro hn
  have := e p o z fun ps q => hn ⟨ps, q⟩
  rw [h] at this
  cases this
theorem New.ne {H : Hp} {p a : Addr} {o : HO} (n : New H p) (h : H a = some o) (ho : ∀ ps, o ≠ .tbl ps := by intro _ z; cases z) : a ≠ p := fun e => by
  subst e
  obtain ⟨ps, z⟩ := n o h
  exact ho ps z
/-- what is sorted: a list of those places, or the range of so many -/
def SrcIs (K : PySem.W.Frag) (H : Hp) (l : Addr) (bs : List Nat) : Prop := SqL K H l (bs.map natV) ∨ ∃ n : Nat, H l = some (.rng 0 n) ∧ bs = List.range n
/-- the order of the keys -/
def keyLe (ns : List Int) (a b : Nat) : Bool := decide (0 - ns.getD a 0 < 0 - ns.getD b 0 ∨ (0 - ns.getD a 0 = 0 - ns.getD b 0 ∧ (a : Int) ≤ b))
def tSortLam (K : PySem.W.Frag) (T : List (Addr × Str)) (jx : Nat) (te : TE) : TE := fun σ H Q => te σ H fun v H1 => ∃ (l a : Addr) (bs : List Nat) (ns : List Int), v = .ref l ∧ σ[jx]? = some (some (.ref a)) ∧ SqI K H1 a ns ∧ SrcIs K H1 l bs ∧
  (∀ b ∈ bs, b < ns.length) ∧ bs.length ≤ 1000 ∧ Tabs T H1 ∧ ∀ H2 p, ExtN H1 H2 → Tabs T H2 → New H1 p → H2 p = some (.lst ((bs.mergeSort (keyLe ns)).map natV)) → Q (.ref p) H2
theorem vals_each : ∀ {bs : List Nat} {us : List Value}, Vals (bs.map natV) us → PySem.W.EachIs (fun v b => ∃ t, v = .int (b : Int) t) us bs
  | [], _, r => by cases r; exact .nil
  | b :: bs, _, r => by
    cases r with
    | cons r1 r2 => exact .cons r1 (vals_each r2)
theorem each_vals : ∀ {bs : List Nat} {us : List Value}, PySem.W.EachIs (fun v b => ∃ t, v = .int (b : Int) t) us bs → Vals (bs.map natV) us
  | [], _, r => by cases r; exact .nil
  | b :: bs, _, r => by
    cases r with
    | cons r1 r2 => exact .cons r1 (each_vals r2)
section
variable {X : Cx}
theorem pe_sortLam {T : List (Addr × Str)} {c0 P : Addr} {e e0 : Expr} {te : TE} {x y : Str} {jx kk k : Nat} {params : Arguments} {scope : Scope} {p pos lpos kpos pn pt : Pos}
    (hg : Gl X "sorted") (hm : X.mg "sorted" = none) (he : PE X e te) (kf : KeyForm x y e0)
    (TB : TabB X.base X.mg c0 P) (hcode : X.env.code = .ref c0) (hmT : (P, X.env.qual ++ "<lambda>") ∈ T) (hu : ∀ p ∈ T, p.1 = P → p.2 = X.env.qual ++ "<lambda>") (hr : Room k X.A)
    (hN : X.N[jx]? = some x) (hx : X.env.scope.names.lookup x = some .cell)
    (hdef : defaultsOf params X.env = ([], []))
    (hbind : ∀ (q : Str) (cl : List (Str × Addr)) (pm cv ctv v : Value), bindArgs (PySem.W.kla_fn "<lambda>" q params (.Tuple [e0, .Name y pn] kk pt) scope cl pm cv ctv) ⟨[v], []⟩ = pure [(y, v)])
    (hnm : scope.names = [(y, .local), (x, .free)]) (hyx : (x == y) = false) (hsk : scope.kind = .function) (hco : scope.isCoroutine = false) (hgen : scope.isGenerator = false)
    (hst : ∀ env, backTo pt (starEach [e0, .Name y pn] env) = [(false, eval e0 env), (false, eval (.Name y pn) env)])
    (na : backTo pos (starEach [e] X.env) = [(false, eval e X.env)] := by rfl)
    (hdx : (x == ("__debug__" : Str)) = false := by decide) (hcx : (x == ("__classdict__" : Str)) = false := by decide) (hdy : (y == ("__debug__" : Str)) = false := by decide) :
    PE X (.Call (.Name "sorted" p) [e] [⟨some "key", .Lambda params (.Tuple [e0, .Name y pn] kk pt) scope lpos, kpos⟩] pos) (tSortLam X.K T jx te) := by
  have hfree : ∀ z ∈ scope.names, z.2 = .free → X.env.scope.names.lookup z.1 = some .cell := fun z hz e => by
    rw [hnm] at hz
    rcases List.mem_cons.mp hz with rfl | hz
    · cases e
    · obtain rfl := List.mem_singleton.mp hz
      exact hx
  refine ⟨fun pins s σ H Q I h => ?_⟩
  refine wpAny_Call_Name_kw (ld_blt I hg hm boot_sorted ?_)
  refine PyProof.Rows.callWith_kw (env := X.env) (e := e) (rest := []) (kws := [⟨some "key", .Lambda params (.Tuple [e0, .Name y pn] kk pt) scope lpos, kpos⟩]) ?_ (by rw [na]; rfl) (by rw [na]; rfl) rfl rfl
  rw [na]
  refine Calls.spliced_cons (thn (he.run pins s σ H _ I h) fun u s1 ⟨v, H1, I1, r1, q1⟩ => Calls.spliced_nil ?_)
  obtain ⟨l, a, bs, ns, rfl, ha, hq, hsrc, hlt, hlen, hT, q⟩ := q1
  obtain rfl : u = Value.ref l := r1
  show wpAny _ _ (evalAll ((do let v ← eval (.Lambda params (.Tuple [e0, .Name y pn] kk pt) scope lpos) X.env; standAt pos; pure v) :: [])) _ _ s1
  refine wpAny_evalAll_cons (wpAny_bind (lam_make2 I1 TB hcode hmT hu hT hdef (fun z hz e => I1.ok.has _ (.inl (hfree z hz e))) fun f c' pm ctv H2 s' I2 eN T2 hf hfn hfr hco' => wpAny_bind (wpAny_standAt (wpAny_pure (wpAny_evalAll_nil ?_)))))
  show wpAny _ _ (call (.builtin "sorted") [.ref l] [(Str.ofString "key", .ref f)]) _ _ s'
  -- the captured cell
  have hl2 := I2.loc
  obtain ⟨m, hns, hlk⟩ := hl2
  obtain ⟨u, ru, lk⟩ := hlk jx x (.ref a) hN ha (.inr (.inl hx))
  obtain rfl : u = Value.ref a := ru
  obtain ⟨c, hc, hcell⟩ : ∃ c, X.env.cells.lookup x = some c ∧ s'.heap.IsCell c (some (.ref a)) := by
    rcases lk with ⟨k1, _⟩ | ⟨_, c, e1, e2⟩
    · have k1 : X.env.scope.names.lookup x = some .local := k1
      rw [hx] at k1
      cases k1
    · exact ⟨c, e1, e2⟩
  have hcl : (cloFrom X.env.cells scope.names []).lookup x = some c := by
    rw [hnm]
    unfold cloFrom cloFrom cloFrom
    simp [hc]
  have hq2 := SqI.ext eN hq
  obtain ⟨its, rv, hqH, hzL⟩ : ∃ its : List Value, Vals (ns.map V.int) its ∧ SeqAtH s'.heap a its ∧ (ns.map V.int).length ≤ sizeLine := by
    rcases hq2 with z | z
    · obtain ⟨its, rv, pl, hz⟩ := I2.list z
      exact ⟨its, rv, .inl pl.isList, hz⟩
    · obtain ⟨its, rv, pl, hz⟩ := I2.tuple z
      exact ⟨its, rv, .inr pl, hz⟩
  rw [List.length_map] at hzL
  have hi := rv.ints
  have hcr : s'.heap.CodeRec (.ref c') (X.env.qual ++ "<lambda>") := by
    obtain ⟨⟨oc, vs, t, h1, h2, h3⟩, _, _⟩ := I2.hok c' _ hco'
    exact ⟨c', oc, vs, t, rfl, h1, h2, h3⟩
  have hsl := sizeLine_eq
  refine sorted_coll (β := Nat) (b := false) (R := fun v (b : Nat) => ∃ t, v = .int (b : Int) t) (bs := bs) (fun b : Nat => PyData.tuple [.int (0 - ns.getD b 0), .int (b : Int)]) ?_ (PySem.W.AllAlike.of fun b b' => rfl) (PySem.W.Sortable.tuples fun b => ⟨_, _, rfl⟩) (by omega)
    (fun b hb => ?_) (ksk_s1 _ _) (fun x => ksk_l1 _ _) (fun x => ksk_t1 _ _) (fun v b hv hb h tk kp => ?_) fun h1 out c2 h' tk k1 k2 hD hlo heo => ?_
  · intro Q' E' hQ'
    rcases hsrc with hs | ⟨n, hs, rfl⟩
    · obtain ⟨us, ru, pl, hz⟩ := I2.list (ExtN.seq eN hs)
      refine collect_list pl.isList (hQ' _ s'.toks us (fun b o e => ?_) (vals_each ru)) (by rw [← ru.length]; exact hz)
      rw [Heap.get?_update_ne _ _ _ _ (Nat.ne_of_lt (Heap.lt_size e))]
      exact Heap.get?_push_of_some _ e
    · have hs2 := eN l _ hs fun ps z => by cases z
      obtain ⟨t1, t2, t3, ho⟩ := (show ObjOk X.prog X.w H2 s'.heap l (.rng 0 n) from I2.hok l _ hs2)
      rw [List.length_range] at hlen
      refine collect_range (A := X.A.in1) (n := n) hr.hd ho (small_one (by decide) (by decide) (by omega) (by omega)) (by rw [rangeSize_nat]; omega) (by omega) fun h' tk acc kp hit => hQ' h' tk acc.toList kp ?_
      have hv := vals_rg (a := 0) (b := (n : Int)) (acc := acc) (by rw [show ((n : Int) - 0).toNat = n by omega]; exact hit)
      have e : rgV 0 (n : Int) = (List.range n).map natV := by
        unfold rgV
        rw [show ((n : Int) - 0).toNat = n by omega]
        refine List.map_congr_left fun i _ => ?_
        show V.int (0 + (i : Int)) = V.int (i : Int)
        rw [Int.zero_add]
      rw [e] at hv
      exact vals_each hv
  · have := hr.un
    have e : PyData.depth (.tuple [.int (0 - ns.getD b 0), .int (b : Int)]) ≤ 1 := by simp [PyData.depth, PyData.depthAll]
    omega
  · refine lam_call (s := { s' with heap := h, toks := tk }) kf (kp _ _ hf) ?_ (I2.nolimit.keeps kp) hr.depth (fun pm cv ctv v => hbind _ _ pm cv ctv v) hsk hco hgen (fun z hz => ?_) (by rw [hnm]; simp [List.lookup]) (by rw [hnm]; simp [List.lookup, hyx]) hcl ?_ (hqH.keeps kp) hi hv (hlt b hb) hzL hst hdx hcx hdy
    · obtain ⟨c1, oc, vs, t, e1, h1, h2, h3⟩ := hcr
      exact ⟨c1, oc, vs, t, e1, kp _ _ h1, h2, h3⟩
    · rw [hnm] at hz
      rcases List.mem_cons.mp hz with rfl | hz
      · intro e; cases e
      · obtain rfl := List.mem_singleton.mp hz
        intro e; cases e
    · obtain ⟨o, e, d⟩ := hcell
      exact ⟨o, kp _ _ e, d⟩
  · have e1 : PySem.W.dataLe false (fun b : Nat => PyData.tuple [.int (0 - ns.getD b 0), .int (b : Int)]) = keyLe ns := PySem.W.dataLe_ii (β := Nat) (fun b => 0 - ns.getD b 0) (fun b => (b : Int))
    rw [e1] at heo
    have I3 : Inv X pins σ H2 { s' with heap := h1, toks := tk } := I2.kept k1
    have fr := I3.hok.fresh (Nat.le_refl _)
    have fr1 : New H1 h1.objs.size := New.of eN fr
    refine ⟨.ref h1.objs.size, upd H2 h1.objs.size (.lst ((bs.mergeSort (keyLe ns)).map natV)), I3.laid (t' := tk) (h' := h') k2 (Nat.le_refl _) ⟨?_, out, c2, each_vals heo, hD⟩, rfl, q _ _ ?_ ?_ fr1 upd_same⟩
    · rw [List.length_map, List.length_mergeSort]
      omega
    · intro b o e n
      rw [upd_ne (ne_of_none (eN b o e n) fr)]
      exact eN b o e n
    · exact T2.ext fun b o e => by rw [upd_ne (ne_of_none e fr)]; exact e
end
end TWR
set_option Elab.async false
set_option linter.all false
set_option maxRecDepth 100000
set_option maxHeartbeats 4000000
/-! the text by places; heaps that grow -/
namespace TWR
open PySem PySem.Spec PyProof.Rows L2 LamX
def topS (i : Nat) : Stmt := PySem.Challenge.pw_tallyweb_k27_whole_pairs_of_great_webs.main.body.getD i (.Pass ⟨0, 0, 0, 0⟩)
abbrev sTiesFit : Stmt := topS 8
theorem scTiesFit : FnScope ["places", "ties", "seen", "one", "other", "low", "high"] ["places", "ties"] (defScope sTiesFit) := ⟨rfl, rfl, rfl, by decide +kernel, rfl, by decide +kernel, by decide +kernel⟩
abbrev sMade : Stmt := topS 9
theorem scMade : FnScope ["places", "ties", "tie"] ["places", "ties"] (defScope sMade) := ⟨rfl, rfl, rfl, by decide +kernel, rfl, by decide +kernel, by decide +kernel⟩
abbrev sTallyOf : Stmt := topS 10
theorem scTallyOf : FnScope ["web", "places", "ties", "tally", "one", "other"] ["web"] (defScope sTallyOf) := ⟨rfl, rfl, rfl, by decide +kernel, rfl, by decide +kernel, by decide +kernel⟩
abbrev sLookAtPlace : Stmt := topS 11
theorem scLookAtPlace : FnScope ["many", "place"] ["many", "place"] (defScope sLookAtPlace) := ⟨rfl, rfl, rfl, by decide +kernel, rfl, by decide +kernel, by decide +kernel⟩
abbrev sLookAtTally : Stmt := topS 13
theorem scLookAtTally : FnScope ["tally"] ["tally"] (defScope sLookAtTally) := ⟨rfl, rfl, rfl, by decide +kernel, rfl, by decide +kernel, by decide +kernel⟩
abbrev sOrderOf : Stmt := topS 14
theorem scOrderOf : FnScope ["tally"] ["tally"] (defScope sOrderOf) := ⟨rfl, rfl, rfl, by decide +kernel, rfl, by decide +kernel, by decide +kernel⟩
abbrev sMoved : Stmt := topS 15
theorem scMoved : FnScope ["tally", "place", "more", "told"] ["tally", "place", "more"] (defScope sMoved) := ⟨rfl, rfl, rfl, by decide +kernel, rfl, by decide +kernel, by decide +kernel⟩
abbrev sRoomAt : Stmt := topS 17
theorem scRoomAt : FnScope ["tally", "r", "order", "room", "k", "place"] ["tally", "r"] (defScope sRoomAt) := ⟨rfl, rfl, rfl, by decide +kernel, rfl, by decide +kernel, by decide +kernel⟩
abbrev sWallOf : Stmt := topS 18
theorem scWallOf : FnScope ["tally", "place", "number", "r"] ["tally"] (defScope sWallOf) := ⟨rfl, rfl, rfl, by decide +kernel, rfl, by decide +kernel, by decide +kernel⟩
abbrev sWallShows : Stmt := topS 19
theorem scWallShows : FnScope ["tally", "wall"] ["tally", "wall"] (defScope sWallShows) := ⟨rfl, rfl, rfl, by decide +kernel, rfl, by decide +kernel, by decide +kernel⟩
abbrev sGreatestOf : Stmt := topS 22
theorem scGreatestOf : FnScope ["numbers", "places", "many"] ["numbers", "places", "many"] (defScope sGreatestOf) := ⟨rfl, rfl, rfl, by decide +kernel, rfl, by decide +kernel, by decide +kernel⟩
abbrev sLaid : Stmt := topS 23
theorem scLaid : FnScope ["tally", "left", "ties", "place", "others", "other"] ["tally"] (defScope sLaid) := ⟨rfl, rfl, rfl, by decide +kernel, rfl, by decide +kernel, by decide +kernel⟩
abbrev sAnswered : Stmt := topS 24
theorem scAnswered : FnScope ["tally", "wall"] ["tally"] (defScope sAnswered) := ⟨rfl, rfl, rfl, by decide +kernel, rfl, by decide +kernel, by decide +kernel⟩
abbrev sIsTold : Stmt := topS 25
theorem scIsTold : FnScope ["web", "places", "ties", "k", "one", "other"] ["web"] (defScope sIsTold) := ⟨rfl, rfl, rfl, by decide +kernel, rfl, by decide +kernel, by decide +kernel⟩
abbrev sIsWebOf : Stmt := topS 26
theorem scIsWebOf : FnScope ["tally", "web"] ["tally", "web"] (defScope sIsWebOf) := ⟨rfl, rfl, rfl, by decide +kernel, rfl, by decide +kernel, by decide +kernel⟩
abbrev sAnswerShows : Stmt := topS 27
theorem scAnswerShows : FnScope ["tally", "told"] ["tally", "told"] (defScope sAnswerShows) := ⟨rfl, rfl, rfl, by decide +kernel, rfl, by decide +kernel, by decide +kernel⟩
abbrev sLookAtWebs : Stmt := topS 29
theorem scLookAtWebs : FnScope ["tally"] ["tally"] (defScope sLookAtWebs) := ⟨rfl, rfl, rfl, by decide +kernel, rfl, by decide +kernel, by decide +kernel⟩
abbrev sLookAtPair : Stmt := topS 30
theorem scLookAtPair : FnScope ["tally", "one", "other"] ["tally", "one", "other"] (defScope sLookAtPair) := ⟨rfl, rfl, rfl, by decide +kernel, rfl, by decide +kernel, by decide +kernel⟩
abbrev sBothMoved : Stmt := topS 31
theorem scBothMoved : FnScope ["tally", "one", "other", "more"] ["tally", "one", "other", "more"] (defScope sBothMoved) := ⟨rfl, rfl, rfl, by decide +kernel, rfl, by decide +kernel, by decide +kernel⟩
abbrev sWebBy : Stmt := topS 32
theorem scWebBy : FnScope ["tally", "place", "near", "others", "found", "ties", "other", "one"] ["tally", "place", "near"] (defScope sWebBy) := ⟨rfl, rfl, rfl, by decide +kernel, rfl, by decide +kernel, by decide +kernel⟩
abbrev sPairTold : Stmt := topS 33
theorem scPairTold : FnScope ["tally", "one", "other", "wall", "rest", "with_it", "place"] ["tally", "one", "other"] (defScope sPairTold) := ⟨rfl, rfl, rfl, by decide +kernel, rfl, by decide +kernel, by decide +kernel⟩
abbrev sPairIn : Stmt := topS 34
theorem scPairIn : FnScope ["web", "one", "other"] ["web", "one", "other"] (defScope sPairIn) := ⟨rfl, rfl, rfl, by decide +kernel, rfl, by decide +kernel, by decide +kernel⟩
abbrev sPairShows : Stmt := topS 35
theorem scPairShows : FnScope ["tally", "one", "other", "told", "web"] ["tally", "one", "other", "told"] (defScope sPairShows) := ⟨rfl, rfl, rfl, by decide +kernel, rfl, by decide +kernel, by decide +kernel⟩
abbrev sPairsWithWall : Stmt := topS 36
theorem scPairsWithWall : FnScope ["tally", "more", "known", "pairs", "one", "other", "numbers"] ["tally", "more"] (defScope sPairsWithWall) := ⟨rfl, rfl, rfl, by decide +kernel, rfl, by decide +kernel, by decide +kernel⟩
abbrev sAlways : Stmt := topS 37
theorem scAlways : FnScope ["tally"] ["tally"] (defScope sAlways) := ⟨rfl, rfl, rfl, by decide +kernel, rfl, by decide +kernel, by decide +kernel⟩
abbrev sNever : Stmt := topS 38
theorem scNever : FnScope ["tally"] ["tally"] (defScope sNever) := ⟨rfl, rfl, rfl, by decide +kernel, rfl, by decide +kernel, by decide +kernel⟩
abbrev sLawCellAt : Stmt := topS 40
theorem scLawCellAt : FnScope ["script", "k"] ["script", "k"] (defScope sLawCellAt) := ⟨rfl, rfl, rfl, by decide +kernel, rfl, by decide +kernel, by decide +kernel⟩
abbrev sLawMixed : Stmt := topS 41
theorem scLawMixed : FnScope ["cell", "k", "bound", "prime", "one"] ["cell", "k", "bound"] (defScope sLawMixed) := ⟨rfl, rfl, rfl, by decide +kernel, rfl, by decide +kernel, by decide +kernel⟩
abbrev sLawPairs : Stmt := topS 42
theorem scLawPairs : FnScope ["places", "pairs", "one", "other"] ["places"] (defScope sLawPairs) := ⟨rfl, rfl, rfl, by decide +kernel, rfl, by decide +kernel, by decide +kernel⟩
abbrev sLawTies : Stmt := topS 43
theorem scLawTies : FnScope ["places", "cell", "way", "ties", "rest", "k", "pair"] ["places", "cell", "way"] (defScope sLawTies) := ⟨rfl, rfl, rfl, by decide +kernel, rfl, by decide +kernel, by decide +kernel⟩
abbrev sLawWebRight : Stmt := topS 44
theorem scLawWebRight : FnScope ["found", "tally", "counts", "last", "tie"] ["found", "tally"] (defScope sLawWebRight) := ⟨rfl, rfl, rfl, by decide +kernel, rfl, by decide +kernel, by decide +kernel⟩
abbrev sLawRight : Stmt := topS 45
theorem scLawRight : FnScope ["tally", "ties", "pair", "found", "lists", "more", "near"] ["tally", "ties", "pair", "found", "lists"] (defScope sLawRight) := ⟨rfl, rfl, rfl, by decide +kernel, rfl, by decide +kernel, by decide +kernel⟩
abbrev sLaw : Stmt := topS 46
theorem scLaw : FnScope ["script", "base", "places", "ties", "tally", "lists", "pairs", "pair", "found", "cell"] ["script"] (defScope sLaw) := ⟨rfl, rfl, rfl, by decide +kernel, rfl, by decide +kernel, by decide +kernel⟩

/-! ### heaps -/
abbrev Tbls := List (Addr × Str)
/-- all but the tables stays, the tables stay tables -/
structure Gw (T : Tbls) (H H' : Hp) : Prop where
  ext : ExtN H H'
  tab : Tabs T H → Tabs T H'
section
variable {T : Tbls} {K : PySem.W.Frag} {H H1 H2 H' : Hp} {a p : Addr} {o : HO}
theorem Gw.refl (T : Tbls) (H : Hp) : Gw T H H := ⟨ExtN.refl H, id⟩
theorem Gw.trans (x : Gw T H H1) (y : Gw T H1 H2) : Gw T H H2 := ⟨x.ext.trans y.ext, fun t => y.tab (x.tab t)⟩
theorem Gw.same (e : Same H H') : Gw T H H' := ⟨ExtN.of e, fun t => t.ext e⟩
theorem Gw.new (h : H p = none) : Gw T H (upd H p o) := Gw.same fun b z e => by rw [upd_ne (ne_of_none e h)]; exact e
theorem Gw.to (x : Gw T H H1) (h : H1 p = none) : Gw T H (upd H1 p o) := x.trans (Gw.new h)
theorem Gw.at (x : Gw T H H') (h : H a = some o) (ho : ∀ ps, o ≠ .tbl ps := by intro _ z; cases z) : H' a = some o := x.ext a o h ho
theorem Gw.seq {xs : List V} (x : Gw T H H') (h : SqL K H a xs) : SqL K H' a xs := ExtN.seq x.ext h
theorem Gw.tup {xs : List V} (x : Gw T H H') (h : SqT K H a xs) : SqT K H' a xs := ExtN.tup x.ext h
theorem Gw.sqi {ns : List Int} (x : Gw T H H') (h : SqI K H a ns) : SqI K H' a ns := SqI.ext x.ext h
theorem Gw.fresh (x : Gw T H H') (h : H' p = none) : New H p := New.of x.ext h
theorem Gw.newer (x : Gw T H H') (h : New H' p) : New H p := fun z e => by
  apply Classical.byContradiction
  intro hn
  exact hn (h z (x.ext p z e fun ps q => hn ⟨ps, q⟩))
theorem New.none (h : H p = Option.none) : New H p := fun o e => by rw [h] at e; cases e
/-- an own list or dict is written -/
theorem Gw.mut {u : HO} (x : Gw T H H1) (n : New H p) (h : H1 p = some o) (ho : (∃ xs, o = .lst xs) ∨ ∃ kvs, o = .dT kvs) : Gw T H (upd H1 p u) := by
  have hne : ∀ ps, o ≠ .tbl ps := fun ps z => by rcases ho with ⟨_, e⟩ | ⟨_, e⟩ <;> rw [e] at z <;> cases z
  have hcode : ∀ q, o ≠ CodeO p q := fun q z => by unfold CodeO at z; rcases ho with ⟨_, e⟩ | ⟨_, e⟩ <;> rw [e] at z <;> cases z
  refine ⟨fun b z e hb => ?_, fun t q hq => ?_⟩
  · have : b ≠ p := n.ne e hb
    rw [upd_ne this]
    exact x.ext b z e hb
  · obtain ⟨ps, h1, h2, h3⟩ := x.tab t q hq
    refine ⟨ps, ?_, h2, fun pos cv hc => ?_⟩
    · rw [upd_ne (ne_of h1 h (fun z => hne ps z.symm))]
      exact h1
    · obtain ⟨c, e1, e2⟩ := h3 pos cv hc
      refine ⟨c, e1, ?_⟩
      rw [upd_ne]
      · exact e2
      · intro z
        subst z
        rw [h] at e2
        exact hcode _ (Option.some.inj e2)
end
/-! ### data -/
section
variable {T : Tbls} {K : PySem.W.Frag} {H H' : Hp}
mutual
theorem Dp.ext (e : ExtN H H') : ∀ (d : PyData) (v : V), Dp K H v d → Dp K H' v d
  | .none, _, h => by cases h; exact .non
  | .bool b, _, h => by cases h; exact .bl b
  | .int i, _, h => by cases h; exact .int i
  | .str x, _, h => by cases h; exact .str x
  | .list ds, _, h => by
    cases h with
    | lst hs ha => exact .lst (ExtN.seq e hs) (DpAll.ext e ds _ ha)
  | .tuple ds, _, h => by
    cases h with
    | tup hs ha => exact .tup (ExtN.tup e hs) (DpAll.ext e ds _ ha)
  | .dict kvs, _, h => by cases h
theorem DpAll.ext (e : ExtN H H') : ∀ (ds : List PyData) (vs : List V), DpAll K H vs ds → DpAll K H' vs ds
  | [], _, h => by cases h; exact .nil
  | d :: ds, _, h => by
    cases h with
    | cons h1 h2 => exact .cons (Dp.ext e d _ h1) (DpAll.ext e ds _ h2)
end
theorem Gw.dp {d : PyData} {v : V} (x : Gw T H H') (h : Dp K H v d) : Dp K H' v d := Dp.ext x.ext d v h
theorem Gw.dps {ds : List PyData} {vs : List V} (x : Gw T H H') (h : DpAll K H vs ds) : DpAll K H' vs ds := DpAll.ext x.ext ds vs h
theorem dps_len : ∀ {vs : List V} {ds : List PyData}, DpAll K H vs ds → vs.length = ds.length
  | _, _, .nil => rfl
  | _, _, .cons _ t => by rw [List.length_cons, List.length_cons, dps_len t]
theorem dps_get : ∀ {vs : List V} {ds : List PyData} {i : Nat} {d : PyData}, DpAll K H vs ds → ds[i]? = some d → ∃ v, vs[i]? = some v ∧ Dp K H v d
  | _, _, _, _, .nil, e => by simp at e
  | _, _, 0, _, .cons h _, e => by simp at e; subst e; exact ⟨_, rfl, h⟩
  | _, _, i + 1, _, .cons _ t, e => by
    obtain ⟨v, e1, e2⟩ := dps_get (i := i) t (by simpa using e)
    exact ⟨v, by simpa using e1, e2⟩
theorem dps_at {vs : List V} {ds : List PyData} {i : Nat} {v : V} (h : DpAll K H vs ds) (e : vs[i]? = some v) : ∃ d, ds[i]? = some d ∧ Dp K H v d := by
  have hl := dps_len h
  have hi := (List.getElem?_eq_some_iff.mp e).1
  obtain ⟨v', e1, e2⟩ := dps_get h (i := i) (d := ds[i]'(by omega)) (List.getElem?_eq_getElem _)
  rw [e] at e1
  cases e1
  exact ⟨_, List.getElem?_eq_getElem _, e2⟩
theorem dps_app : ∀ {vs us : List V} {ds es : List PyData}, DpAll K H vs ds → DpAll K H us es → DpAll K H (vs ++ us) (ds ++ es)
  | _, _, _, _, .nil, t => t
  | _, _, _, _, .cons h r, t => .cons h (dps_app r t)
theorem dpAll_ints : ∀ ns : List Int, DpAll K H (ns.map V.int) (ns.map PyData.int)
  | [] => .nil
  | n :: ns => .cons (.int n) (dpAll_ints ns)
end
/-! ### webs as data -/
def tieD (p : Nat × Nat) : PyData := .tuple [.int p.1, .int p.2]
def tiesD (es : List (Nat × Nat)) : PyData := .tuple (es.map tieD)
def webD (n : Nat) (es : List (Nat × Nat)) : PyData := .tuple [.int n, tiesD es]
def tiesL (es : List (Nat × Nat)) : PyData := .list (es.map tieD)
section
variable {T : Tbls} {K : PySem.W.Frag} {H H' : Hp}
theorem tie_of {v : V} {p : Nat × Nat} (h : Dp K H v (tieD p)) : ∃ a, v = .ref a ∧ SqT K H a [natV p.1, natV p.2] := by
  unfold tieD at h
  cases h with
  | tup hs ha =>
    cases ha with
    | cons h1 t =>
      cases t with
      | cons h2 t2 =>
        cases t2
        cases h1
        cases h2
        exact ⟨_, rfl, hs⟩
theorem tie_mk {a : Addr} {p : Nat × Nat} (h : SqT K H a [natV p.1, natV p.2]) : Dp K H (.ref a) (tieD p) := .tup h (.cons (.int _) (.cons (.int _) .nil))
theorem ties_of {v : V} {es : List (Nat × Nat)} (h : Dp K H v (tiesD es)) : ∃ a xs, v = .ref a ∧ SqT K H a xs ∧ DpAll K H xs (es.map tieD) := by
  unfold tiesD at h
  cases h with
  | tup hs ha => exact ⟨_, _, rfl, hs, ha⟩
theorem tiesL_of {v : V} {es : List (Nat × Nat)} (h : Dp K H v (tiesL es)) : ∃ a xs, v = .ref a ∧ SqL K H a xs ∧ DpAll K H xs (es.map tieD) := by
  unfold tiesL at h
  cases h with
  | lst hs ha => exact ⟨_, _, rfl, hs, ha⟩
theorem web_of {v : V} {n : Nat} {es : List (Nat × Nat)} (h : Dp K H v (webD n es)) : ∃ a b xs, v = .ref a ∧ SqT K H a [natV n, .ref b] ∧ SqT K H b xs ∧ DpAll K H xs (es.map tieD) := by
  unfold webD at h
  cases h with
  | tup hs ha =>
    cases ha with
    | cons h1 t =>
      cases t with
      | cons h2 t2 =>
        cases t2
        cases h1
        obtain ⟨b, xs, rfl, h3, h4⟩ := ties_of h2
        exact ⟨_, b, xs, rfl, hs, h3, h4⟩
theorem web_mk {a b : Addr} {n : Nat} {es : List (Nat × Nat)} {xs : List V} (h1 : SqT K H a [natV n, .ref b]) (h2 : SqT K H b xs) (h3 : DpAll K H xs (es.map tieD)) : Dp K H (.ref a) (webD n es) := .tup h1 (.cons (.int _) (.cons (.tup h2 h3) .nil))
end
/-! ### defs as they are called -/
section
variable (P : Program) (w : World) (K : PySem.W.Frag) (mg : Str → Option Value) (base : Heap)
/-- the def x stands there -/
structure Dn (x : Str) (st : Stmt) (ps : List Str) : Prop where
  ex : ∃ f fd, Fun K x x st f fd ∧ mg x = some (.ref f) ∧ Binds K fd ps []
/-- .. and keeps the promise, by level k -/
def Has (k : Nat) (x : Str) (ps : List Str) (sp : Sp) : Prop := ∃ f fd, FnOk P w K mg base CX0 k f fd ps sp ∧ mg x = some (.ref f) ∧ PySem.W.keepIn K (.ref f) = true ∧ Binds K fd ps []
/-- the built-ins that the text uses are not hidden -/
structure NoB : Prop where
  len : mg "len" = none
  range : mg "range" = none
  sorted : mg "sorted" = none
  enumerate : mg "enumerate" = none
  min : mg "min" = none
  max : mg "max" = none
  sum : mg "sum" = none
  list : mg "list" = none
  tuple : mg "tuple" = none
  int : mg "int" = none
  isinstance : mg "isinstance" = none
end
/-- a def whose code object is known -/
structure FunC (K : PySem.W.Frag) (x : Str) (st : Stmt) (f : Addr) (fd : FuncData) (c : Addr) : Prop where
  ex : ∃ (oc : Value) (od : Option Addr) (kV doc pm : Value) (an : Option Addr) (ct : Value) (osl : Array (Option Value)),
    fd = PySem.W.fnOf x x (defArgs st) (defBody st) (defScope st) .none kV doc pm an (.ref c) ct ∧ K.lookup f = some ⟨oc, od, .func fd, osl⟩ ∧ PySem.W.codeIn K (.ref c) x = true
  kp : PySem.W.keepIn K (.ref f) = true
theorem FunC.ok {P : Program} {w : World} {K : PySem.W.Frag} {mg : Str → Option Value} {base : Heap} {x : Str} {st : Stmt} {f c : Addr} {fd : FuncData} {N ps : List Str} {k : Nat} {sp : Sp} (F : FunC K x st f fd c) (S : FnScope N ps (defScope st)) (len : ∀ vs H Q E, sp vs H Q E → vs.length = ps.length)
    (hbody : ∀ (A : Around) (outer : List Env) (s : Shared) (H : Hp) (vs : List V) (Q : VK) (E : XK), Room k (A.deeper (envOfC x (defScope st) s.heap.objs.size f (.ref c))) → sp vs H Q E →
      ∃ t, PSs (cxOf CX0 P w K mg base N x (defScope st) f (.ref c) A outer s H E).nox (defBody st) t ∧ t { nx := fun _ H' => Q .non H', rt := Q } (start N vs) H) : FnOk P w K mg base CX0 (k + 1) f fd ps sp := by
  obtain ⟨oc, od, kV, doc, pm, an, ct, osl, rfl, lk, hcd⟩ := F.ex
  refine fn_of lk hcd S len fun A outer s H vs Q E hr hsp => ?_
  obtain ⟨t, h, q⟩ := hbody A outer s H vs Q E hr hsp
  exact ⟨t, h.nox, q⟩
theorem FunC.binds {K : PySem.W.Frag} {x : Str} {st : Stmt} {f c : Addr} {fd : FuncData} {ps : List Str} (F : FunC K x st f fd c)
    (h : ∀ (kV doc pm : Value) (an : Option Addr) (cdv ct : Value) (us : List Value), us.length = ps.length → bindArgs (PySem.W.fnOf x x (defArgs st) (defBody st) (defScope st) .none kV doc pm an cdv ct) ⟨us, []⟩ = pure (ps.zip us)) : Binds K fd ps [] := by
  obtain ⟨oc, od, kV, doc, pm, an, ct, osl, rfl, lk, hcd⟩ := F.ex
  exact .all (h kV doc pm an (.ref c) ct)
end TWR
set_option Elab.async false
set_option linter.all false
set_option maxRecDepth 100000
set_option maxHeartbeats 4000000
namespace TWR
open PySem PySem.Spec PyProof.Rows L2 LamX
theorem ifF {c A B : Prop} [Decidable c] (hc : ¬ c) (h : B) : if decide c = true then A else B := by
  rw [decide_eq_false hc]
  exact iteF h
theorem ifT {c A B : Prop} [Decidable c] (hc : c) (h : A) : if decide c = true then A else B := by
  rw [decide_eq_true hc]
  exact iteT h
def qOrd : Str := ("order_of" : Str) ++ ".<locals>." ++ "<lambda>"
def qGre : Str := ("greatest_of" : Str) ++ ".<locals>." ++ "<lambda>"
/-- the tables of the two defs that make lambdas -/
def Tq (p1 p2 : Addr) : Tbls := [(p1, qOrd), (p2, qGre)]
section
variable {P : Program} {w : World} {K : PySem.W.Frag} {mg : Str → Option Value} {base : Heap}
def spLAT (K : PySem.W.Frag) : Sp := fun vs H Q _ => ∃ (a : Addr) (ns : List Int), vs = [.ref a] ∧ SqI K H a ns ∧ 1 ≤ ns.length ∧ ns.length ≤ 24 ∧ Q .non H
theorem ok_look_at_tally (D : Dn K mg "look_at_tally" sLookAtTally ["tally"]) (B : NoB mg) (hM : ∃ t, mg "MOST_PLACES_webs" = some (.int 24 t)) : Has P w K mg base 1 "look_at_tally" ["tally"] (spLAT K) := by
  obtain ⟨f, fd, F, hm, hb⟩ := D.ex
  refine ⟨f, fd, ?_, hm, F.kp, hb⟩
  obtain ⟨t24, hM⟩ := hM
  refine F.ok scLookAtTally (fun vs H Q E h => ?_) (fun cdv A outer s H vs Q E hr h => ?_)
  · obtain ⟨a, ns, rfl, _⟩ := h
    rfl
  · obtain ⟨a, ns, rfl, hS, h1, h24, q⟩ := h
    refine ⟨_, pss_one (ps_if (PW.pt (pw_or (pt_cmpR op_lt (pe_callB call_len_seq (by rfl) B.len PySem.boot_len (pa_cons (pv 0) pa_nil)) pe_int (nomark _))
      (pw_or1 (pt_cmpR op_gt (pe_callB call_len_seq (by rfl) B.len PySem.boot_len (pa_cons (pv 0) pa_nil)) (pe_glob (v := .int 24) rfl hM ⟨_, rfl⟩) (nomark _))))) pss_never pss_nil), ?_⟩
    have hl : SqL K H a (ns.map V.int) ∨ SqT K H a (ns.map V.int) := hS
    have e1 : ((ns.map V.int).length : Int) = ns.length := by rw [List.length_map]
    refine ⟨.ref a, rfl, a, _, rfl, hl, _, 1, rfl, rfl, _, rfl, ifF (by omega) ?_⟩
    refine ⟨.ref a, rfl, a, _, rfl, hl, _, 24, rfl, rfl, _, rfl, ifF (by omega) ?_⟩
    exact q
def spLAP : Sp := fun vs H Q _ => ∃ (n i : Nat), vs = [natV n, natV i] ∧ i < n ∧ Q .non H
theorem ok_look_at_place (D : Dn K mg "look_at_place" sLookAtPlace ["many", "place"]) : Has P w K mg base 1 "look_at_place" ["many", "place"] spLAP := by
  obtain ⟨f, fd, F, hm, hb⟩ := D.ex
  refine ⟨f, fd, ?_, hm, F.kp, hb⟩
  refine F.ok scLookAtPlace (fun vs H Q E h => ?_) (fun cdv A outer s H vs Q E hr h => ?_)
  · obtain ⟨n, i, rfl, _⟩ := h
    rfl
  · obtain ⟨n, i, rfl, hin, q⟩ := h
    refine ⟨_, pss_one (ps_if (PW.pt (pw_or (pt_cmpR op_lt (pv 1) pe_int (nomark _)) (pw_or1 (pt_cmpR op_ge (pv 1) (pv 0) (nomark _))))) pss_never pss_nil), ?_⟩
    refine ⟨natV i, rfl, _, _, rfl, rfl, _, rfl, ifF (by omega) ?_⟩
    refine ⟨natV i, rfl, natV n, rfl, _, _, rfl, rfl, _, rfl, ifF (by omega) ?_⟩
    exact q
/-- order_of -/
def spOrd (T : Tbls) (K : PySem.W.Frag) : Sp := fun vs H Q _ => ∃ (a : Addr) (ns : List Int), vs = [.ref a] ∧ SqI K H a ns ∧ 1 ≤ ns.length ∧ ns.length ≤ 24 ∧ Tabs T H ∧
  ∀ H' p, Gw T H H' → New H p → H' p = some (.lst ((TW.orderOf ns).map natV)) → Q (.ref p) H'
/-- a def that makes a lambda: its code object, its table -/
structure DnC (K : PySem.W.Frag) (mg : Str → Option Value) (base : Heap) (x : Str) (st : Stmt) (ps : List Str) (c p : Addr) : Prop where
  ex : ∃ f fd, FunC K x st f fd c ∧ mg x = some (.ref f) ∧ Binds K fd ps []
  tab : TabB base mg c p
theorem ok_order_of {p1 p2 c1 : Addr} (D : DnC K mg base "order_of" sOrderOf ["tally"] c1 p1) (hp : p1 ≠ p2) (B : NoB mg) (HL : Has P w K mg base 1 "look_at_tally" ["tally"] (spLAT K)) : Has P w K mg base 2 "order_of" ["tally"] (spOrd (Tq p1 p2) K) := by
  obtain ⟨f, fd, F, hm, hb⟩ := D.ex
  refine ⟨f, fd, ?_, hm, F.kp, hb⟩
  obtain ⟨f1, fd1, G1, m1, k1, b1⟩ := HL
  refine F.ok scOrderOf (fun vs H Q E h => ?_) (fun A outer s H vs Q E hr h => ?_)
  · obtain ⟨a, ns, rfl, _⟩ := h
    rfl
  · obtain ⟨a, ns, rfl, hS, h1, h24, hT, q⟩ := h
    have tq : (p1, qOrd) ∈ Tq p1 p2 := List.mem_cons_self ..
    have tu : ∀ p ∈ Tq p1 p2, p.1 = p1 → p.2 = qOrd := fun p hp' e => by
      rcases List.mem_cons.mp hp' with rfl | hp'
      · rfl
      · obtain rfl := List.mem_singleton.mp hp'
        exact absurd e.symm hp
    refine ⟨_, pss_cons (ps_expr (pe_call G1 hr (by rfl) m1 k1 b1 .nil pass0 (pa_cons (pv 0) pa_nil)))
      (pss_one (ps_ret (pe_sortLam (T := Tq p1 p2) (x := "tally") (y := "place") (jx := 0) (k := 1) (c0 := c1) (P := p1) rfl B.sorted (pe_callTy cr_range1 (by rfl) B.range (by decide +kernel) (pa_cons (pe_callB call_len_seq (by rfl) B.len PySem.boot_len (pa_cons (pv 0) pa_nil)) pa_nil))
        (KeyForm.sub _ _ _ _ _ _) D.tab rfl tq tu hr rfl rfl rfl (fun _ _ _ _ _ _ => rfl) rfl (by decide) rfl rfl rfl (fun _ => rfl)))), ?_⟩
    refine ⟨.ref a, rfl, a, ns, rfl, hS, h1, h24, ?_⟩
    refine ⟨.ref a, rfl, a, _, rfl, hS, _, rfl, fun r nr => ?_⟩
    have g1 : Gw (Tq p1 p2) H (upd H r (.rng 0 ((ns.map V.int).length))) := Gw.new nr
    rw [List.length_map] at g1 ⊢
    refine ⟨r, a, List.range ns.length, ns, rfl, rfl, g1.sqi hS, .inr ⟨ns.length, upd_same, rfl⟩, fun b hb => List.mem_range.mp hb, by rw [List.length_range]; omega, g1.tab hT, fun H2 p eN T2 n2 e => ?_⟩
    exact q H2 p ⟨g1.ext.trans eN, fun _ => T2⟩ (g1.newer n2) e
end
end TWR
set_option Elab.async false
set_option linter.all false
set_option maxRecDepth 100000
set_option maxHeartbeats 4000000
namespace TWR
open PySem PySem.Spec PyProof.Rows L2 LamX
theorem tv_at {ns : List Int} {i : Nat} (h : i < ns.length) : (ns.map V.int)[i]? = some (V.int (TW.tv ns i)) := by
  rw [List.getElem?_map, TW.tv_get h]
  rfl
section
variable {P : Program} {w : World} {K : PySem.W.Frag} {mg : Str → Option Value} {base : Heap} {T : Tbls} {H : Hp} {a : Addr} {ns : List Int}
theorem ix_of {i : Nat} {Q : VK} (h : SqI K H a ns) (hi : i < ns.length) (q : Q (.int (TW.tv ns i)) H) : rIx K (.ref a) (natV i) H Q := by
  rcases h with h | h
  · exact .inl ⟨a, _, _, _, rfl, rfl, h, atI_nat (tv_at hi), q⟩
  · exact .inr (.inl ⟨a, _, _, _, rfl, rfl, h, atI_nat (tv_at hi), q⟩)
theorem ixNat {n j : Nat} (hj : j < n) : ixN n (j : Int) = some j := by
  unfold ixN
  rw [if_pos (by omega), if_pos (by omega)]
  simp
theorem lst_set (ns : List Int) (i : Nat) (x : Int) : (ns.map V.int).set i (.int x) = (ns.set i x).map V.int := by rw [List.map_set]
/-- moved -/
def spMov (T : Tbls) (K : PySem.W.Frag) : Sp := fun vs H Q _ => ∃ (a : Addr) (ns : List Int) (i : Nat) (c : Int), vs = [.ref a, natV i, .int c] ∧ SqI K H a ns ∧ 1 ≤ ns.length ∧ ns.length ≤ 24 ∧ i < ns.length ∧
  ∀ H' p, Gw T H H' → New H p → H' p = some (.lst ((TW.mv1 ns i c).map V.int)) → Q (.ref p) H'
theorem ok_moved (D : Dn K mg "moved" sMoved ["tally", "place", "more"]) (B : NoB mg) (HL : Has P w K mg base 1 "look_at_tally" ["tally"] (spLAT K)) (HP : Has P w K mg base 1 "look_at_place" ["many", "place"] spLAP) :
    Has P w K mg base 2 "moved" ["tally", "place", "more"] (spMov T K) := by
  obtain ⟨f, fd, F, hm, hb⟩ := D.ex
  refine ⟨f, fd, ?_, hm, F.kp, hb⟩
  obtain ⟨f1, fd1, G1, m1, k1, b1⟩ := HL
  obtain ⟨f2, fd2, G2, m2, k2, b2⟩ := HP
  refine F.ok scMoved (fun vs H Q E h => ?_) (fun cdv A outer s H vs Q E hr h => ?_)
  · obtain ⟨a, ns, i, c, rfl, _⟩ := h
    rfl
  · obtain ⟨a, ns, i, c, rfl, hS, h1, h24, hi, q⟩ := h
    refine ⟨_, pss_cons (ps_expr (pe_call G1 hr (by rfl) m1 k1 b1 .nil pass0 (pa_cons (pv 0) pa_nil)))
      (pss_cons (ps_expr (pe_call G2 hr (by rfl) m2 k2 b2 .nil pass0 (pa_cons (pe_callB call_len_seq (by rfl) B.len PySem.boot_len (pa_cons (pv 0) pa_nil)) (pa_cons (pv 1) pa_nil))))
      (pss_cons (ps_set (i := 3) scMoved.nd rfl (.inl rfl) (pe_callTy call_list_of (by rfl) B.list (by decide +kernel) (pa_cons (pv 0) pa_nil)))
      (pss_cons (ps_asg (pe_op op_add (pe_ix ix_list (pv 3) (pv 1) (fun _ _ => rfl)) (pv 2)) (pg_sub (pv 3) (pv 1) set_list))
      (pss_one (ps_ret (pv 3)))))), ?_⟩
    have hl : SqL K H a (ns.map V.int) ∨ SqT K H a (ns.map V.int) := hS
    refine ⟨.ref a, rfl, a, ns, rfl, hS, h1, h24, ?_⟩
    refine ⟨.ref a, rfl, a, _, rfl, hl, natV i, rfl, ns.length, i, ?_, hi, ?_⟩
    · rw [List.length_map]; rfl
    refine ⟨.ref a, rfl, a, _, rfl, hl, fun p np => ?_⟩
    refine ⟨.ref p, rfl, natV i, rfl, p, _, _, _, rfl, rfl, .inl (.inl upd_same), atI_nat (tv_at hi), .int c, rfl, _, _, rfl, rfl, ?_⟩
    refine ⟨.ref p, rfl, natV i, rfl, p, _, _, i, rfl, rfl, upd_same, ixNat (by rw [List.length_map]; exact hi), ?_⟩
    refine ⟨.ref p, rfl, ?_⟩
    rw [upd_upd, lst_set]
    exact q _ p (Gw.new np) (New.none np) upd_same
/-- both_moved -/
def spBoth (T : Tbls) (K : PySem.W.Frag) : Sp := fun vs H Q _ => ∃ (a : Addr) (ns : List Int) (i j : Nat) (c : Int), vs = [.ref a, natV i, natV j, .int c] ∧ SqI K H a ns ∧ 1 ≤ ns.length ∧ ns.length ≤ 24 ∧ i < ns.length ∧ j < ns.length ∧
  ∀ H' p, Gw T H H' → New H p → H' p = some (.lst ((TW.mv2 ns i j c).map V.int)) → Q (.ref p) H'
theorem ok_both_moved (D : Dn K mg "both_moved" sBothMoved ["tally", "one", "other", "more"]) (HM : Has P w K mg base 2 "moved" ["tally", "place", "more"] (spMov T K)) :
    Has P w K mg base 3 "both_moved" ["tally", "one", "other", "more"] (spBoth T K) := by
  obtain ⟨f, fd, F, hm, hb⟩ := D.ex
  refine ⟨f, fd, ?_, hm, F.kp, hb⟩
  obtain ⟨f1, fd1, G1, m1, k1, b1⟩ := HM
  refine F.ok scBothMoved (fun vs H Q E h => ?_) (fun cdv A outer s H vs Q E hr h => ?_)
  · obtain ⟨a, ns, i, j, c, rfl, _⟩ := h
    rfl
  · obtain ⟨a, ns, i, j, c, rfl, hS, h1, h24, hi, hj, q⟩ := h
    refine ⟨_, pss_one (ps_ret (pe_call G1 hr (by rfl) m1 k1 b1 .nil pass0 (pa_cons (pe_call G1 hr (by rfl) m1 k1 b1 .nil pass0 (pa_cons (pv 0) (pa_cons (pv 1) (pa_cons (pv 3) pa_nil)))) (pa_cons (pv 2) (pa_cons (pv 3) pa_nil))))), ?_⟩
    refine ⟨.ref a, rfl, natV i, rfl, .int c, rfl, a, ns, i, c, rfl, hS, h1, h24, hi, fun H1 p g1 n1 e1 => ?_⟩
    have hl := TW.mv1_length ns i c
    refine ⟨natV j, rfl, .int c, rfl, p, TW.mv1 ns i c, j, c, rfl, .inl (.inl (.inl e1)), by omega, by omega, by omega, fun H2 p2 g2 n2 e2 => ?_⟩
    exact q H2 p2 (g1.trans g2) (g1.newer n2) e2
/-- a for over enumerate of a list or a tuple of ints -/
theorem for_enumI {g : TG} {tb : TS} {D : Ends} {σ : L2.St} {H0 : Hp} (hS : SqI K H0 a ns) (hg0 : Gw T H0 H) (Pv : Nat → L2.St → Hp → Prop) (h0 : Pv 0 σ H) (hG : ∀ i σ H', i ≤ ns.length → Pv i σ H' → Gw T H0 H')
    (hs : ∀ i σ H' p, i < ns.length → Pv i σ H' → H' p = none → g (.ref p) σ (upd H' p (.tup [natV i, .int (TW.tv ns i)])) fun σ2 H2 => tb { D with nx := Pv (i + 1), ct := Pv (i + 1), bk := D.nx } σ2 H2) (hd : ∀ σ H', Pv ns.length σ H' → D.nx σ H') :
    (SqL K H a (ns.map V.int) ∧ ∃ W : Nat → Nat → L2.St → Hp → Prop, (∃ m, W 0 m σ H) ∧ ∀ i m σ H, W i m σ H →
      ((Ite K a).stop i H ∧ D.nx σ H) ∨ ((Ite K a).go i H ∧ ∃ N : L2.St → Hp → Prop, (∀ σ' H', N σ' H' → ∃ m', m' < m ∧ W (i + 1) m' σ' H') ∧ ∀ x H', (Ite K a).yld i H x H' → g x σ H' fun σ2 H2 => tb { D with nx := N, ct := N, bk := D.nx } σ2 H2)) ∨
    (SqT K H a (ns.map V.int) ∧ ∃ W : Nat → Nat → L2.St → Hp → Prop, (∃ m, W 0 m σ H) ∧ ∀ i m σ H, W i m σ H →
      ((IteT K a).stop i H ∧ D.nx σ H) ∨ ((IteT K a).go i H ∧ ∃ N : L2.St → Hp → Prop, (∀ σ' H', N σ' H' → ∃ m', m' < m ∧ W (i + 1) m' σ' H') ∧ ∀ x H', (IteT K a).yld i H x H' → g x σ H' fun σ2 H2 => tb { D with nx := N, ct := N, bk := D.nx } σ2 H2)) := by
  have turn : ∀ i x σ H1 H', i < (ns.map V.int).length → Pv i σ H1 → YPair (fun i => some (.int (i : Nat))) (fun i => (ns.map V.int)[i]?) i H1 x H' → g x σ H' fun σ2 H2 => tb { D with nx := Pv (i + 1), ct := Pv (i + 1), bk := D.nx } σ2 H2 := by
    intro i x σ H1 H' hi p y
    rw [List.length_map] at hi
    obtain ⟨p', x1, x2, rfl, nP, rfl, e1, e2⟩ := y
    have e1 := Option.some.inj e1
    have e2 : (ns.map V.int)[i]? = some x2 := e2
    rw [tv_at hi] at e2
    have e2 := Option.some.inj e2
    subst e1 e2
    exact hs i σ H1 p' hi p nP
  rcases hS with hS | hS
  · refine .inl ⟨hg0.seq hS, for_it (walk_enum (K := K) (a := a) (xs := ns.map V.int)) Pv h0 (fun i σ H' hi p => ?_) turn (fun σ H' p => ?_)⟩
    · exact (hG i σ H' (by rw [List.length_map] at hi; exact hi) p).seq hS
    · rw [List.length_map] at p
      exact hd σ H' p
  · refine .inr ⟨hg0.tup hS, for_it (walk_enumT (K := K) (a := a) (xs := ns.map V.int)) Pv h0 (fun i σ H' hi p => ?_) turn (fun σ H' p => ?_)⟩
    · exact (hG i σ H' (by rw [List.length_map] at hi; exact hi) p).tup hS
    · rw [List.length_map] at p
      exact hd σ H' p
/-- room_at -/
def spRoom (T : Tbls) (K : PySem.W.Frag) : Sp := fun vs H Q _ => ∃ (a : Addr) (ns : List Int) (r : Nat), vs = [.ref a, natV r] ∧ SqI K H a ns ∧ 1 ≤ ns.length ∧ ns.length ≤ 24 ∧ r ≤ 24 ∧ Tabs T H ∧
  ∀ H', Gw T H H' → Q (.int (TW.roomOf ns r)) H'
theorem ok_room_at (D : Dn K mg "room_at" sRoomAt ["tally", "r"]) (B : NoB mg) (HO : Has P w K mg base 2 "order_of" ["tally"] (spOrd T K)) :
    Has P w K mg base 3 "room_at" ["tally", "r"] (spRoom T K) := by
  obtain ⟨f, fd, F, hm, hb⟩ := D.ex
  refine ⟨f, fd, ?_, hm, F.kp, hb⟩
  obtain ⟨f1, fd1, G1, m1, k1, b1⟩ := HO
  refine F.ok scRoomAt (fun vs H Q E h => ?_) (fun cdv A outer s H vs Q E hr h => ?_)
  · obtain ⟨a, ns, r, rfl, _⟩ := h
    rfl
  · obtain ⟨a, ns, r, rfl, hS, h1, h24, hr24, hT, q⟩ := h
    refine ⟨_, pss_cons (ps_set (i := 2) scRoomAt.nd rfl (.inl rfl) (pe_call G1 hr (by rfl) m1 k1 b1 .nil pass0 (pa_cons (pv 0) pa_nil)))
      (pss_cons (ps_set (i := 3) scRoomAt.nd rfl (.inl rfl) (pe_op op_mul (pv 1) (pe_op op_sub (pv 1) pe_int)))
      (pss_cons (ps_for PassesOwn.never rfl (pi_enumS (by rfl) B.enumerate (pa_cons (pv 2) pa_nil)) (pg_tup rfl (pgs_cons (pg_name (i := 4) scRoomAt.nd rfl (.inl rfl)) (pgs_cons (pg_name (i := 5) scRoomAt.nd rfl (.inl rfl)) pgs_nil)))
        (pss_one (ps_if (pt_cmpR op_lt (pv 4) (pv 1) (nomark _))
          (pss_one (ps_set (i := 3) scRoomAt.nd rfl (.inl rfl) (pe_op op_sub (pv 3) (pe_ix ix_seq (pv 0) (pv 5) (fun _ _ => rfl)))))
          (pss_one (ps_set (i := 3) scRoomAt.nd rfl (.inl rfl) (pe_op op_add (pv 3) (pe_callB (call_min2 rfl) (by rfl) B.min boot_min (pa_cons (pe_ix ix_seq (pv 0) (pv 5) (fun _ _ => rfl)) (pa_cons (pv 1) pa_nil)))))))))
      (pss_one (ps_ret (pv 3))))), ?_⟩
    refine ⟨.ref a, rfl, a, ns, rfl, hS, h1, h24, hT, fun H1 o g1 n1 e1 => ?_⟩
    refine ⟨natV r, rfl, natV r, rfl, (r : Int), 1, rfl, rfl, (r : Int), (r : Int) - 1, rfl, rfl, .inl ⟨by omega, by omega⟩, ?_⟩
    have hO : SqL K H1 o ((TW.orderOf ns).map natV) := .inl (.inl e1)
    refine ⟨.ref o, rfl, o, _, rfl, .inl ⟨hO, ?_⟩⟩
    refine for_it (walk_enum (K := K) (a := o) (xs := (TW.orderOf ns).map natV)) (fun i σ H3 => ∃ acc y4 y5, σ = [some (.ref a), some (natV r), some (.ref o), some (.int acc), y4, y5] ∧ Gw T H1 H3 ∧ TW.roomGo (TW.tv ns) r i ((TW.orderOf ns).drop i) acc = TW.roomOf ns r)
      ⟨_, none, none, rfl, Gw.refl T H1, rfl⟩ (fun i σ H3 _ hP => ?_) (fun i x σ H3 H' hi hP hy => ?_) (fun σ H3 hP => ?_)
    · obtain ⟨_, _, _, _, g, _⟩ := hP
      exact g.seq hO
    · obtain ⟨acc, y4, y5, rfl, g, eR⟩ := hP
      rw [List.length_map] at hi
      obtain ⟨p, x1, x2, rfl, nP, rfl, e2, e3⟩ := hy
      have e2 := Option.some.inj e2
      have e3 : ((TW.orderOf ns).map natV)[i]? = some x2 := e3
      rw [List.getElem?_map, List.getElem?_eq_getElem hi] at e3
      have e3 := Option.some.inj e3
      subst e2 e3
      have hpl : (TW.orderOf ns)[i] < ns.length := TW.orderOf_lt (List.getElem_mem hi)
      rw [List.drop_eq_getElem_cons hi] at eR
      unfold TW.roomGo at eR
      have g2 := g.to (o := .tup [.int (i : Nat), natV (TW.orderOf ns)[i]]) nP
      have hS2 : SqI K (upd H3 p (.tup [.int (i : Nat), natV (TW.orderOf ns)[i]])) a ns := (g1.trans g2).sqi hS
      refine ⟨p, _, rfl, .inl (.inl upd_same), rfl, _, _, rfl, _, _, rfl, rfl, ?_⟩
      refine ⟨.int (i : Nat), rfl, natV r, rfl, _, _, rfl, rfl, _, rfl, ite2 (fun c => ?_) (fun c => ?_)⟩
      · have c := of_decide_eq_true c
        rw [if_pos c] at eR
        refine ⟨.int acc, rfl, .ref a, rfl, natV (TW.orderOf ns)[i], rfl, ix_of hS2 hpl ⟨_, _, rfl, rfl, _, _, _, rfl, g2, eR⟩⟩
      · have c : ¬ (i : Int) < r := fun z => c (decide_eq_true z)
        rw [if_neg c] at eR
        refine ⟨.int acc, rfl, .ref a, rfl, natV (TW.orderOf ns)[i], rfl, ix_of hS2 hpl ⟨natV r, rfl, _, _, rfl, _, _, rfl, rfl, _, _, _, rfl, g2, eR⟩⟩
    · obtain ⟨acc, y4, y5, rfl, g, eR⟩ := hP
      rw [List.length_map, List.drop_length] at eR
      have eR : acc = TW.roomOf ns r := eR
      refine ⟨.int acc, rfl, ?_⟩
      rw [eR]
      exact q H3 (g1.trans g)
end
end TWR
set_option Elab.async false
set_option linter.all false
set_option maxRecDepth 100000
set_option maxHeartbeats 4000000
namespace TWR
open PySem PySem.Spec PyProof.Rows L2 LamX
theorem negFrom_cons (k : Nat) (x : Int) (l : List Int) : TW.negFrom k (x :: l) = if x < 0 then some (.below k) else TW.negFrom (k + 1) l := rfl
theorem wallFrom_succ (t : List Int) (a m : Nat) : TW.wallFrom t a (m + 1) = if TW.roomOf t a < 0 then some (.wall a) else TW.wallFrom t (a + 1) m := rfl
/-- a truth that is known -/
theorem bl_of {Q : VK} {H : Hp} {c : Prop} [Decidable c] (hc : c) (q : Q (.bl true) H) : Q (.bl (decide c)) H := by
  rw [decide_eq_true hc]
  exact q
theorem blF_of {Q : VK} {H : Hp} {c : Prop} [Decidable c] (hc : ¬ c) (q : Q (.bl false) H) : Q (.bl (decide c)) H := by
  rw [decide_eq_false hc]
  exact q
def wallD : Option TW.Wall → PyData
  | none => .none
  | some (.below k) => .tuple [.str "below", .int (k : Int)]
  | some .odd => .tuple [.str "odd"]
  | some (.wall r) => .tuple [.str "wall", .int (r : Int)]
section
variable {P : Program} {w : World} {K : PySem.W.Frag} {mg : Str → Option Value} {base : Heap} {T : Tbls} {H : Hp} {a : Addr} {ns : List Int}
def spWall (T : Tbls) (K : PySem.W.Frag) : Sp := fun vs H Q _ => ∃ (a : Addr) (ns : List Int), vs = [.ref a] ∧ SqI K H a ns ∧ 1 ≤ ns.length ∧ ns.length ≤ 24 ∧ Tabs T H ∧
  ∀ H' v, Gw T H H' → Dp K H' v (wallD (TW.wallOf ns)) → Q v H'
theorem ok_wall_of (D : Dn K mg "wall_of" sWallOf ["tally"]) (B : NoB mg) (HL : Has P w K mg base 1 "look_at_tally" ["tally"] (spLAT K)) (HR : Has P w K mg base 3 "room_at" ["tally", "r"] (spRoom T K)) :
    Has P w K mg base 4 "wall_of" ["tally"] (spWall T K) := by
  obtain ⟨f, fd, F, hm, hb⟩ := D.ex
  refine ⟨f, fd, ?_, hm, F.kp, hb⟩
  obtain ⟨f1, fd1, G1, m1, k1, b1⟩ := HL
  obtain ⟨f2, fd2, G2, m2, k2, b2⟩ := HR
  refine F.ok scWallOf (fun vs H Q E h => ?_) (fun cdv A outer s H vs Q E hr h => ?_)
  · obtain ⟨a, ns, rfl, _⟩ := h
    rfl
  · obtain ⟨a, ns, rfl, hS, h1, h24, hT, q⟩ := h
    refine ⟨_, pss_cons (ps_expr (pe_call G1 (hr.mono (by decide)) (by rfl) m1 k1 b1 .nil pass0 (pa_cons (pv 0) pa_nil)))
      (pss_cons (ps_for PassesOwn.never rfl (pi_enumS (by rfl) B.enumerate (pa_cons (pv 0) pa_nil)) (pg_tup rfl (pgs_cons (pg_name (i := 1) scWallOf.nd rfl (.inl rfl)) (pgs_cons (pg_name (i := 2) scWallOf.nd rfl (.inl rfl)) pgs_nil)))
        (pss_one (ps_if (pt_cmpR op_lt (pv 2) pe_int (nomark _)) (pss_one (ps_ret (pe_tup (pa_cons pe_str (pa_cons (pv 1) pa_nil))))) pss_nil)))
      (pss_cons (ps_if (pt_cmpR op_eq (pe_op op_modN (pe_callB (cr_sumT rfl) (by rfl) B.sum boot_sum (pa_cons (pv 0) pa_nil)) pe_int) pe_int (nomark _)) (pss_one (ps_ret (pe_tup (pa_cons pe_str pa_nil)))) pss_nil)
      (pss_cons (ps_for PassesOwn.never rfl (pi_range2 (by rfl) B.range (pa_cons pe_int (pa_cons (pe_op op_add (pe_callB call_len_seq (by rfl) B.len PySem.boot_len (pa_cons (pv 0) pa_nil)) pe_int) pa_nil))) (pg_name (i := 3) scWallOf.nd rfl (.inl rfl))
        (pss_one (ps_if (pt_cmpR op_lt (pe_call G2 hr (by rfl) m2 k2 b2 .nil pass0 (pa_cons (pv 0) (pa_cons (pv 3) pa_nil))) pe_int (nomark _)) (pss_one (ps_ret (pe_tup (pa_cons pe_str (pa_cons (pv 3) pa_nil))))) pss_nil)))
      (pss_one (ps_ret pe_non))))), ?_⟩
    refine ⟨.ref a, rfl, a, ns, rfl, hS, h1, h24, ?_⟩
    refine ⟨.ref a, rfl, a, ns.map V.int, rfl, ?_⟩
    refine for_enumI hS (Gw.refl T H) (fun i σ H3 => ∃ y1 y2, σ = [some (.ref a), y1, y2, none] ∧ Gw T H H3 ∧ TW.negFrom i (ns.drop i) = TW.negFrom 0 ns) ⟨none, none, rfl, Gw.refl T H, rfl⟩ (fun i σ H3 _ hP => ?_) (fun i σ H3 p hi hP nP => ?_) (fun σ H3 hP => ?_)
    · obtain ⟨_, _, _, g, _⟩ := hP
      exact g
    · obtain ⟨y1, y2, rfl, g, eN⟩ := hP
      have g2 := g.to (o := .tup [natV i, .int (TW.tv ns i)]) nP
      rw [List.drop_eq_getElem_cons hi, ← TW.tv_lt hi, negFrom_cons] at eN
      refine ⟨p, _, rfl, .inl (.inl upd_same), rfl, _, _, rfl, _, _, rfl, rfl, ?_⟩
      refine ⟨.int (TW.tv ns i), rfl, _, _, rfl, rfl, _, rfl, ite2 (fun c => ?_) (fun c => ?_)⟩
      · have c := of_decide_eq_true c
        rw [if_pos c] at eN
        refine ⟨natV i, rfl, by show 2 ≤ sizeLine; decide, fun t nt => ?_⟩
        refine q _ _ (g2.to nt) ?_
        have : TW.wallOf ns = some (.below i) := by unfold TW.wallOf; rw [← eN]
        rw [this]
        exact .tup (.inl (.inl upd_same)) (.cons (.str _) (.cons (.int _) .nil))
      · have c : ¬ TW.tv ns i < 0 := fun z => c (decide_eq_true z)
        rw [if_neg c] at eN
        exact ⟨_, _, rfl, g2, eN⟩
    · obtain ⟨y1, y2, rfl, g, eN⟩ := hP
      rw [List.drop_length] at eN
      have eN : TW.negFrom 0 ns = none := eN.symm
      have hS3 := g.sqi hS
      refine ⟨.ref a, rfl, a, ns, rfl, hS3, ns.sum, 2, rfl, rfl, (show (2 : Int) ≠ 0 by decide), rfl, _, rfl, ite2 (fun c => ?_) (fun c => ?_)⟩
      · have c := V.int.inj (of_decide_eq_true c)
        refine ⟨by show 1 ≤ sizeLine; decide, fun t nt => ?_⟩
        refine q _ _ (g.to nt) ?_
        have : TW.wallOf ns = some .odd := by
          unfold TW.wallOf
          rw [eN]
          exact if_pos c
        rw [this]
        exact .tup (.inl (.inl upd_same)) (.cons (.str _) .nil)
      · have c : ¬ Int.fmod ns.sum 2 = 1 := fun z => c (decide_eq_true (congrArg V.int z))
        have hW : TW.wallOf ns = TW.wallFrom ns 1 ns.length := by
          unfold TW.wallOf
          rw [eN]
          exact if_neg c
        have hl : SqL K H3 a (ns.map V.int) ∨ SqT K H3 a (ns.map V.int) := hS3
        have el : ((ns.map V.int).length : Int) = ns.length := by rw [List.length_map]
        refine ⟨.ref a, rfl, a, _, rfl, hl, _, _, rfl, rfl, 1, (ns.length : Int) + 1, ?_, ⟨by decide, by decide, by omega, by omega⟩, ?_⟩
        · rw [el]
        have en : ((ns.length : Int) + 1 - 1).toNat = ns.length := by omega
        rw [en]
        refine for_range (lo := 1) (n := ns.length) (fun i σ H4 => ∃ y3, σ = [some (.ref a), y1, y2, y3] ∧ Gw T H H4 ∧ TW.wallFrom ns (1 + i) (ns.length - i) = TW.wallFrom ns 1 ns.length) ⟨none, rfl, g, rfl⟩ (fun i σ H4 hi hP => ?_) (fun σ H4 hP => ?_)
        · obtain ⟨y3, rfl, g4, eW⟩ := hP
          have er : V.int (1 + (i : Int)) = natV (1 + i) := congrArg V.int (by omega)
          rw [show ns.length - i = (ns.length - (i + 1)) + 1 by omega, wallFrom_succ] at eW
          refine ⟨.ref a, rfl, _, rfl, a, ns, 1 + i, by rw [er]; rfl, g4.sqi hS, h1, h24, by omega, g4.tab hT, fun H5 g5 => ?_⟩
          refine ⟨_, _, rfl, rfl, _, rfl, ite2 (fun c => ?_) (fun c => ?_)⟩
          · have c := of_decide_eq_true c
            rw [if_pos c] at eW
            refine ⟨_, rfl, by show 2 ≤ sizeLine; decide, fun t nt => ?_⟩
            refine q _ _ ((g4.trans g5).to nt) ?_
            rw [hW, ← eW, er]
            exact .tup (.inl (.inl upd_same)) (.cons (.str _) (.cons (.int _) .nil))
          · have c : ¬ TW.roomOf ns ((1 + i : Nat) : Int) < 0 := fun z => c (decide_eq_true z)
            rw [if_neg c] at eW
            exact ⟨_, rfl, g4.trans g5, by rw [show 1 + (i + 1) = 1 + i + 1 by omega]; exact eW⟩
        · obtain ⟨y3, rfl, g4, eW⟩ := hP
          rw [Nat.sub_self] at eW
          have eW : TW.wallFrom ns 1 ns.length = none := eW.symm
          refine q _ _ g4 ?_
          rw [hW, eW]
          exact .non
/-- wall_shows, of the told wall -/
def spWS (T : Tbls) (K : PySem.W.Frag) : Sp := fun vs H Q _ => ∃ (a : Addr) (v : V) (ns : List Int) (wl : TW.Wall), vs = [.ref a, v] ∧ SqI K H a ns ∧ 1 ≤ ns.length ∧ ns.length ≤ 24 ∧ Tabs T H ∧ TW.wallOf ns = some wl ∧ Dp K H v (wallD (some wl)) ∧
  ∀ H', Gw T H H' → Q (.bl true) H'
theorem wallFrom_some {t : List Int} : ∀ {m a r : Nat}, TW.wallFrom t a m = some (.wall r) → a ≤ r ∧ r < a + m ∧ TW.roomOf t r < 0
  | 0, _, _, h => by cases h
  | m + 1, a, r, h => by
    unfold TW.wallFrom at h
    by_cases c : TW.roomOf t a < 0
    · rw [if_pos c] at h
      cases h
      exact ⟨Nat.le_refl _, by omega, c⟩
    · rw [if_neg c] at h
      have := wallFrom_some h
      omega
theorem wallFrom_wall {t : List Int} : ∀ {m a : Nat} {wl : TW.Wall}, TW.wallFrom t a m = some wl → ∃ r, wl = .wall r
  | 0, _, _, h => by cases h
  | m + 1, a, wl, h => by
    unfold TW.wallFrom at h
    by_cases c : TW.roomOf t a < 0
    · rw [if_pos c] at h
      cases h
      exact ⟨a, rfl⟩
    · rw [if_neg c] at h
      exact wallFrom_wall h
theorem negFrom_some : ∀ {l : List Int} {k : Nat} {wl : TW.Wall}, TW.negFrom k l = some wl → ∃ j, wl = .below (k + j) ∧ j < l.length ∧ TW.tv l j < 0
  | [], _, _, h => by cases h
  | x :: l, k, wl, h => by
    unfold TW.negFrom at h
    by_cases c : x < 0
    · rw [if_pos c] at h
      cases h
      exact ⟨0, rfl, by rw [List.length_cons]; omega, c⟩
    · rw [if_neg c] at h
      obtain ⟨j, e, h1, h2⟩ := negFrom_some h
      refine ⟨j + 1, by rw [e]; congr 1; omega, by rw [List.length_cons]; omega, ?_⟩
      rw [TW.tv_cons_succ]
      exact h2
/-- what a told wall says -/
theorem wall_says {t : List Int} {wl : TW.Wall} (h : TW.wallOf t = some wl) : (∃ k, wl = .below k ∧ k < t.length ∧ TW.tv t k < 0) ∨ (wl = .odd ∧ Int.fmod t.sum 2 = 1) ∨ ∃ r, wl = .wall r ∧ 1 ≤ r ∧ r ≤ t.length ∧ TW.roomOf t r < 0 := by
  unfold TW.wallOf at h
  cases hn : TW.negFrom 0 t with
  | some w' =>
    rw [hn] at h
    cases h
    obtain ⟨j, e, h1, h2⟩ := negFrom_some hn
    exact .inl ⟨j, by rw [e, Nat.zero_add], h1, h2⟩
  | none =>
    rw [hn] at h
    have h : (if Int.fmod t.sum 2 = 1 then some TW.Wall.odd else TW.wallFrom t 1 t.length) = some wl := h
    by_cases c : Int.fmod t.sum 2 = 1
    · rw [if_pos c] at h
      cases h
      exact .inr (.inl ⟨rfl, c⟩)
    · rw [if_neg c] at h
      obtain ⟨r, rfl⟩ := wallFrom_wall h
      have := wallFrom_some h
      exact .inr (.inr ⟨r, rfl, this.1, by omega, this.2.2⟩)
theorem tup2_of {v : V} {x : Str} {i : Int} (h : Dp K H v (.tuple [.str x, .int i])) : ∃ b, v = .ref b ∧ SqT K H b [.str x, .int i] := by
  cases h with
  | tup hs ha =>
    cases ha with
    | cons h1 t =>
      cases t with
      | cons h2 t2 =>
        cases t2
        cases h1
        cases h2
        exact ⟨_, rfl, hs⟩
theorem ok_wall_shows (D : Dn K mg "wall_shows" sWallShows ["tally", "wall"]) (B : NoB mg) (HL : Has P w K mg base 1 "look_at_tally" ["tally"] (spLAT K)) (HR : Has P w K mg base 3 "room_at" ["tally", "r"] (spRoom T K)) :
    Has P w K mg base 4 "wall_shows" ["tally", "wall"] (spWS T K) := by
  obtain ⟨f, fd, F, hm, hb⟩ := D.ex
  refine ⟨f, fd, ?_, hm, F.kp, hb⟩
  obtain ⟨f1, fd1, G1, m1, k1, b1⟩ := HL
  obtain ⟨f2, fd2, G2, m2, k2, b2⟩ := HR
  refine F.ok scWallShows (fun vs H Q E h => ?_) (fun cdv A outer s H vs Q E hr h => ?_)
  · obtain ⟨a, v, ns, wl, rfl, _⟩ := h
    rfl
  · obtain ⟨a, v, ns, wl, rfl, hS, h1, h24, hT, hw, hv, q⟩ := h
    refine ⟨_, pss_cons (ps_expr (pe_call G1 (hr.mono (by decide)) (by rfl) m1 k1 b1 .nil pass0 (pa_cons (pv 0) pa_nil)))
      (pss_cons (ps_if (pt_cmpR op_eq (pe_ix ix_tup (pv 1) pe_int (fun _ _ => rfl)) pe_str (nomark _)) (pss_one (ps_ret (pe_cmpR op_eq (pe_op op_modN (pe_callB (cr_sumT rfl) (by rfl) B.sum boot_sum (pa_cons (pv 0) pa_nil)) pe_int) pe_int (nomark _)))) pss_nil)
      (pss_cons (ps_if (pt_cmpR op_eq (pe_ix ix_tup (pv 1) pe_int (fun _ _ => rfl)) pe_str (nomark _)) (pss_one (ps_ret (pe_and (pe_chain op_le op_lt pe_int (pe_ix ix_tup (pv 1) pe_int (fun _ _ => rfl)) (pe_callB call_len_seq (by rfl) B.len PySem.boot_len (pa_cons (pv 0) pa_nil)))
          (pe_one (pe_cmpR op_lt (pe_ix ix_seq (pv 0) (pe_ix ix_tup (pv 1) pe_int (fun _ _ => rfl)) (fun _ _ => rfl)) pe_int (nomark _)))))) pss_nil)
      (pss_one (ps_ret (pe_and (pe_chain op_le op_le pe_int (pe_ix ix_tup (pv 1) pe_int (fun _ _ => rfl)) (pe_callB call_len_seq (by rfl) B.len PySem.boot_len (pa_cons (pv 0) pa_nil)))
          (pe_one (pe_cmpR op_lt (pe_call G2 hr (by rfl) m2 k2 b2 .nil pass0 (pa_cons (pv 0) (pa_cons (pe_ix ix_tup (pv 1) pe_int (fun _ _ => rfl)) pa_nil))) pe_int (nomark _)))))))), ?_⟩
    have hl : SqL K H a (ns.map V.int) ∨ SqT K H a (ns.map V.int) := hS
    have el : ((ns.map V.int).length : Int) = ns.length := by rw [List.length_map]
    refine ⟨.ref a, rfl, a, ns, rfl, hS, h1, h24, ?_⟩
    rcases wall_says hw with ⟨k, rfl, hk, hneg⟩ | ⟨rfl, hodd⟩ | ⟨r, rfl, hr1, hr2, hroom⟩
    · obtain ⟨b, rfl, hb2⟩ := tup2_of hv
      refine ⟨.ref b, rfl, b, _, 0, _, rfl, rfl, hb2, atI_nat (j := 0) rfl, rfl, _, rfl, ifF (by decide) ?_⟩
      refine ⟨.ref b, rfl, b, _, 0, _, rfl, rfl, hb2, atI_nat (j := 0) rfl, rfl, _, rfl, ifT rfl ?_⟩
      refine ⟨.ref b, rfl, b, _, 1, _, rfl, rfl, hb2, atI_nat (j := 1) rfl, 0, (k : Int), rfl, rfl, _, rfl, ifT (by omega) ?_⟩
      refine ⟨.ref a, rfl, a, _, rfl, hl, (k : Int), _, rfl, rfl, _, rfl, ifT (by omega) ?_⟩
      refine ⟨.ref a, rfl, .ref b, rfl, b, _, 1, _, rfl, rfl, hb2, atI_nat (j := 1) rfl, ix_of hS hk ⟨_, _, rfl, rfl, ?_⟩⟩
      exact bl_of hneg (q H (Gw.refl T H))
    · obtain ⟨b, rfl, hb2⟩ : ∃ b, v = .ref b ∧ SqT K H b [.str "odd"] := by
        cases hv with
        | tup hs ha =>
          cases ha with
          | cons h1 t =>
            cases t
            cases h1
            exact ⟨_, rfl, hs⟩
      refine ⟨.ref b, rfl, b, _, 0, _, rfl, rfl, hb2, atI_nat (j := 0) rfl, rfl, _, rfl, ifT rfl ?_⟩
      refine ⟨.ref a, rfl, a, ns, rfl, hS, ns.sum, 2, rfl, rfl, (show (2 : Int) ≠ 0 by decide), rfl, ?_⟩
      exact bl_of (c := V.int (Int.fmod ns.sum 2) = V.int 1) (congrArg V.int hodd) (q H (Gw.refl T H))
    · obtain ⟨b, rfl, hb2⟩ := tup2_of hv
      refine ⟨.ref b, rfl, b, _, 0, _, rfl, rfl, hb2, atI_nat (j := 0) rfl, rfl, _, rfl, ifF (by decide) ?_⟩
      refine ⟨.ref b, rfl, b, _, 0, _, rfl, rfl, hb2, atI_nat (j := 0) rfl, rfl, _, rfl, ifF (by decide) ?_⟩
      refine ⟨.ref b, rfl, b, _, 1, _, rfl, rfl, hb2, atI_nat (j := 1) rfl, 1, (r : Int), rfl, rfl, _, rfl, ifT (by omega) ?_⟩
      refine ⟨.ref a, rfl, a, _, rfl, hl, (r : Int), _, rfl, rfl, _, rfl, ifT (by omega) ?_⟩
      refine ⟨.ref a, rfl, .ref b, rfl, b, _, 1, _, rfl, rfl, hb2, atI_nat (j := 1) rfl, a, ns, r, rfl, hS, h1, h24, by omega, hT, fun H' g => ⟨_, _, rfl, rfl, ?_⟩⟩
      exact bl_of hroom (q H' g)
end
end TWR
set_option Elab.async false
set_option linter.all false
set_option maxRecDepth 100000
set_option maxHeartbeats 4000000
namespace TWR
open PySem PySem.Spec PyProof.Rows L2 LamX
theorem cut_take (xs : List V) (m : Nat) : cutV xs none (some (m : Int)) = xs.take m := by
  unfold cutV
  rw [HT.sIx_none, HT.sIx_nat, List.drop_zero, Nat.sub_zero]
  rcases Nat.le_total m xs.length with h | h
  · rw [Nat.min_eq_left h]
  · rw [Nat.min_eq_right h, List.take_of_length_le h, List.take_of_length_le (Nat.le_refl _)]
section
variable {P : Program} {w : World} {K : PySem.W.Frag} {mg : Str → Option Value} {base : Heap} {T : Tbls} {H : Hp} {a : Addr} {ns : List Int}
/-- greatest_of -/
def spGre (T : Tbls) (K : PySem.W.Frag) : Sp := fun vs H Q _ => ∃ (a l : Addr) (ns : List Int) (bs : List Nat) (m : Nat), vs = [.ref a, .ref l, natV m] ∧ SqI K H a ns ∧ SqL K H l (bs.map natV) ∧ (∀ b ∈ bs, b < ns.length) ∧ bs.length ≤ 1000 ∧ Tabs T H ∧
  ∀ H' p, Gw T H H' → New H p → H' p = some (.lst (((TW.byK (TW.tv ns) bs).take m).map natV)) → Q (.ref p) H'
theorem ok_greatest_of {p1 p2 c2 : Addr} (D : DnC K mg base "greatest_of" sGreatestOf ["numbers", "places", "many"] c2 p2) (hp : p1 ≠ p2) (B : NoB mg) : Has P w K mg base 1 "greatest_of" ["numbers", "places", "many"] (spGre (Tq p1 p2) K) := by
  obtain ⟨f, fd, F, hm, hb⟩ := D.ex
  refine ⟨f, fd, ?_, hm, F.kp, hb⟩
  refine F.ok scGreatestOf (fun vs H Q E h => ?_) (fun A outer s H vs Q E hr h => ?_)
  · obtain ⟨a, l, ns, bs, m, rfl, _⟩ := h
    rfl
  · obtain ⟨a, l, ns, bs, m, rfl, hS, hL, hlt, hlen, hT, q⟩ := h
    have tq : (p2, qGre) ∈ Tq p1 p2 := List.mem_cons_of_mem _ (List.mem_cons_self ..)
    have tu : ∀ p ∈ Tq p1 p2, p.1 = p2 → p.2 = qGre := fun p hp' e => by
      rcases List.mem_cons.mp hp' with rfl | hp'
      · exact absurd e hp
      · obtain rfl := List.mem_singleton.mp hp'
        rfl
    refine ⟨_, pss_one (ps_ret (pe_slice sl_list (pe_sortLam (T := Tq p1 p2) (x := "numbers") (y := "place") (jx := 0) (k := 0) (c0 := c2) (P := p2) rfl B.sorted (pv 1)
        (KeyForm.neg _ _ _ _) D.tab rfl tq tu hr rfl rfl rfl (fun _ _ _ _ _ _ => rfl) rfl (by decide) rfl rfl rfl (fun _ => rfl)) po_none (po_some (pv 2)))), ?_⟩
    refine ⟨.ref l, rfl, l, a, bs, ns, rfl, rfl, hS, .inl hL, hlt, hlen, hT, fun H2 p eN T2 n2 e => ?_⟩
    refine ⟨natV m, rfl, (m : Int), rfl, p, _, rfl, .inl (.inl e), fun z nz => ?_⟩
    have g : Gw (Tq p1 p2) H H2 := ⟨eN, fun _ => T2⟩
    rw [cut_take, ← List.map_take]
    exact q _ z (g.to nz) (g.fresh nz) upd_same
/-- ties_fit, of ties that fit -/
def spFit (T : Tbls) (K : PySem.W.Frag) : Sp := fun vs H Q _ => ∃ (l : Addr) (n : Nat) (es : List (Nat × Nat)) (xs : List V), vs = [natV n, .ref l] ∧ SqL K H l xs ∧ DpAll K H xs (es.map tieD) ∧ TW.GoodT n es ∧ es.length ≤ 1000 ∧
  ∀ H', Gw T H H' → Q (.bl true) H'
def tieK (p : Nat × Nat) : List Key := [.inl (p.1 : Int), .inl (p.2 : Int)]
theorem tieK_inj {p q : Nat × Nat} (h : tieK p = tieK q) : p = q := by
  unfold tieK at h
  simp only [List.cons.injEq, Sum.inl.injEq, and_true] at h
  exact Prod.ext (by omega) (by omega)
theorem valV_notin {kvs : List (List Key × V)} {k : List Key} (h : k ∉ kvs.map (·.1)) : valV kvs k = none := by
  unfold valV
  rw [List.find?_eq_none.mpr fun x hx => ?_]
  · rfl
  · intro e
    exact h (by rw [← of_decide_eq_true e]; exact List.mem_map.mpr ⟨x, hx, rfl⟩)
theorem mn_eq (i j : Nat) : V.int (if (j : Int) < i then (j : Int) else i) = natV (min i j) := by
  unfold natV
  congr 1
  split <;> omega
theorem mx_eq (i j : Nat) : V.int (if (j : Int) > i then (j : Int) else i) = natV (max i j) := by
  unfold natV
  congr 1
  split <;> omega
theorem ok_ties_fit (D : Dn K mg "ties_fit" sTiesFit ["places", "ties"]) (B : NoB mg) : Has P w K mg base 1 "ties_fit" ["places", "ties"] (spFit T K) := by
  obtain ⟨f, fd, F, hm, hb⟩ := D.ex
  refine ⟨f, fd, ?_, hm, F.kp, hb⟩
  refine F.ok scTiesFit (fun vs H Q E h => ?_) (fun cdv A outer s H vs Q E hr h => ?_)
  · obtain ⟨l, n, es, xs, rfl, _⟩ := h
    rfl
  · obtain ⟨l, n, es, xs, rfl, hL, hD, hg, hlen, q⟩ := h
    have hu := hu_of hr
    refine ⟨_, pss_cons (ps_set (i := 2) scTiesFit.nd rfl (.inl rfl) pe_dnewT)
      (pss_cons (ps_for PassesOwn.never rfl (pi_list (pv 1)) (pg_tup rfl (pgs_cons (pg_name (i := 3) scTiesFit.nd rfl (.inl rfl)) (pgs_cons (pg_name (i := 4) scTiesFit.nd rfl (.inl rfl)) pgs_nil)))
        (pss_cons (ps_set (i := 5) scTiesFit.nd rfl (.inl rfl) (pe_callB (call_min2 rfl) (by rfl) B.min boot_min (pa_cons (pv 3) (pa_cons (pv 4) pa_nil))))
        (pss_cons (ps_set (i := 6) scTiesFit.nd rfl (.inl rfl) (pe_callB (call_max2 rfl) (by rfl) B.max boot_max (pa_cons (pv 3) (pa_cons (pv 4) pa_nil))))
        (pss_cons (ps_if (PW.pt (pw_or (pt_cmpR op_lt (pv 5) pe_int (nomark _)) (pw_or (pt_cmpR op_eq (pv 5) (pv 6) (nomark _)) (pw_or (pt_cmpR op_ge (pv 6) (pv 0) (nomark _))
            (pw_or1 (pt_cmp (pc_din hu (pe_tup (pa_cons (pv 5) (pa_cons (pv 6) pa_nil))) (pv 2)))))))) pss_never pss_nil)
        (pss_one (ps_dput hu (pv 2) (pe_tup (pa_cons (pv 5) (pa_cons (pv 6) pa_nil))) pe_bl rfl))))))
      (pss_one (ps_ret pe_bl))), ?_⟩
    refine fun d nd => ?_
    have hlx : xs.length = es.length := by rw [dps_len hD, List.length_map]
    have hL0 : SqL K (upd H d (.dT [])) l xs := (Gw.new (T := T) nd).seq hL
    refine ⟨.ref l, rfl, l, rfl, ⟨xs, hL0⟩, ?_⟩
    refine for_list (xs := xs) (fun i σ H3 => ∃ y3 y4 y5 y6, ∃ kvs : List (List Key × V), σ = [some (natV n), some (.ref l), some (.ref d), y3, y4, y5, y6] ∧ Gw T H H3 ∧ H3 d = some (.dT kvs) ∧ kvs.map (·.1) = (es.take i).map fun p => tieK (TW.norm p))
      ⟨none, none, none, none, [], rfl, Gw.new nd, upd_same, rfl⟩ (fun i σ H3 _ hP => ?_) (fun i x σ H3 hx hP => ?_) (fun σ H3 hP => ?_)
    · obtain ⟨_, _, _, _, _, _, g, _⟩ := hP
      exact g.seq hL
    · obtain ⟨y3, y4, y5, y6, kvs, rfl, g, ed, ek⟩ := hP
      have hi : i < es.length := by rw [← hlx]; exact (List.getElem?_eq_some_iff.mp hx).1
      obtain ⟨dd, e1, hd⟩ := dps_at (g.dps hD) hx
      rw [List.getElem?_map, List.getElem?_eq_getElem hi] at e1
      have e1 := Option.some.inj e1
      subst e1
      obtain ⟨t, rfl, ht⟩ := tie_of hd
      have hmem : es[i] ∈ es := List.getElem_mem hi
      have hfit := hg.fit es[i] hmem
      refine ⟨t, _, rfl, ht, rfl, _, _, rfl, _, _, rfl, rfl, ?_⟩
      refine ⟨natV es[i].1, rfl, natV es[i].2, rfl, _, _, rfl, ?_⟩
      refine ⟨natV es[i].1, rfl, natV es[i].2, rfl, _, _, rfl, ?_⟩
      have ea : V.int (if (es[i].2 : Int) < es[i].1 then (es[i].2 : Int) else es[i].1) = natV (TW.norm es[i]).1 := mn_eq _ _
      have eb : V.int (if (es[i].2 : Int) > es[i].1 then (es[i].2 : Int) else es[i].1) = natV (TW.norm es[i]).2 := mx_eq _ _
      rw [ea, eb]
      have hn1 : (TW.norm es[i]).1 < (TW.norm es[i]).2 ∧ (TW.norm es[i]).2 < n := by
        unfold TW.norm
        dsimp only
        omega
      have hnot : tieK (TW.norm es[i]) ∉ kvs.map (·.1) := by
        rw [ek]
        intro hm
        obtain ⟨p, hp, e⟩ := List.mem_map.mp hm
        have e := tieK_inj e
        have h2 : (es.take i ++ es.drop i).map TW.norm = es.map TW.norm := by rw [List.take_append_drop]
        have nd2 := hg.nd
        rw [← h2, List.map_append] at nd2
        refine (List.nodup_append.mp nd2).2.2 (TW.norm p) (List.mem_map.mpr ⟨p, hp, rfl⟩) (TW.norm es[i]) ?_ e
        rw [List.drop_eq_getElem_cons hi]
        exact List.mem_cons_self ..
      refine ⟨_, rfl, _, _, rfl, rfl, _, rfl, ifF (by omega) ?_⟩
      refine ⟨_, rfl, _, rfl, rfl, _, rfl, ifF (fun e => ?_) ?_⟩
      · have := V.int.inj e
        omega
      refine ⟨_, rfl, _, rfl, _, _, rfl, rfl, _, rfl, ifF (by omega) ?_⟩
      refine ⟨_, rfl, _, rfl, by show 2 ≤ sizeLine; decide, fun t2 nt2 => ?_⟩
      have ed2 : upd H3 t2 (.tup [natV (TW.norm es[i]).1, natV (TW.norm es[i]).2]) d = some (.dT kvs) := by rw [upd_ne (ne_of_none ed nt2)]; exact ed
      have ed3 : upd H3 t2 (.tup [natV (TW.norm es[i]).1, natV (TW.norm es[i]).2]) t2 = some (.tup ((tieK (TW.norm es[i])).map kV)) := upd_same
      refine ⟨.ref d, rfl, d, _, rfl, DGet.t (k := tieK (TW.norm es[i])) ed2 ed3, _, rfl, ?_⟩
      rw [valV_notin hnot]
      refine iteF ?_
      refine ⟨.ref d, rfl, natV (TW.norm es[i]).1, rfl, natV (TW.norm es[i]).2, rfl, by show 2 ≤ sizeLine; decide, fun t3 nt3 => ?_⟩
      have g2 := g.to (o := .tup [natV (TW.norm es[i]).1, natV (TW.norm es[i]).2]) nt2
      have g3 := g2.to (o := .tup [natV (TW.norm es[i]).1, natV (TW.norm es[i]).2]) nt3
      have ed4 : upd (upd H3 t2 (.tup [natV (TW.norm es[i]).1, natV (TW.norm es[i]).2])) t3 (.tup [natV (TW.norm es[i]).1, natV (TW.norm es[i]).2]) d = some (.dT kvs) := by rw [upd_ne (ne_of_none ed2 nt3)]; exact ed2
      have hkl : kvs.length ≤ 1000 := by
        have := congrArg List.length ek
        rw [List.length_map, List.length_map, List.length_take] at this
        omega
      refine ⟨d, _, rfl, DPut.t (k := tieK (TW.norm es[i])) ed4 (upd_same (o := .tup ((tieK (TW.norm es[i])).map kV))) (small1000 hkl), ?_⟩
      rw [putK_new _ (valV_notin hnot)]
      refine ⟨_, _, _, _, _, rfl, g3.mut (New.none nd) ed4 (.inr ⟨_, rfl⟩), upd_same, ?_⟩
      rw [List.map_append, ek, List.take_add_one, List.getElem?_eq_getElem hi, List.map_append]
      rfl
    · obtain ⟨_, _, _, _, _, rfl, g, _⟩ := hP
      exact q H3 g
/-- tally_of -/
def spTal (T : Tbls) (K : PySem.W.Frag) : Sp := fun vs H Q _ => ∃ (v : V) (n : Nat) (es : List (Nat × Nat)), vs = [v] ∧ Dp K H v (webD n es) ∧ n ≤ 24 ∧ (∀ p ∈ es, p.1 < n ∧ p.2 < n) ∧
  ∀ H' p, Gw T H H' → New H p → H' p = some (.lst ((TW.tallyT n es).map V.int)) → Q (.ref p) H'
theorem tallyT_nil (n : Nat) : TW.tallyT n [] = List.replicate n 0 := by
  unfold TW.tallyT
  apply List.ext_getElem
  · rw [List.length_map, List.length_range, List.length_replicate]
  · intro i h1 h2
    rw [List.getElem_map, List.getElem_replicate]
    rfl
theorem tallyT_snoc {n : Nat} {es : List (Nat × Nat)} {p : Nat × Nat} (h1 : p.1 < n) (h2 : p.2 < n) : TW.mv1 (TW.mv1 (TW.tallyT n es) p.1 1) p.2 1 = TW.tallyT n (es ++ [p]) := by
  have hl := TW.tallyT_length n es
  refine TW.tally_ext (by rw [TW.mv1_length, TW.mv1_length, TW.tallyT_length, TW.tallyT_length]) fun v hv => ?_
  rw [TW.mv1_length, TW.mv1_length, hl] at hv
  rw [TW.tv_mv1 (by rw [TW.mv1_length, hl]; exact h2), TW.tv_mv1 (by rw [hl]; exact h1), TW.tv_tallyT hv, TW.tv_tallyT hv, TW.degT_append]
  simp only [TW.degT]
  by_cases a : v = p.1 <;> by_cases b : v = p.2
  · rw [if_pos a, if_pos b, if_pos a.symm, if_pos b.symm]; omega
  · rw [if_pos a, if_neg b, if_pos a.symm, if_neg (fun z => b z.symm)]; omega
  · rw [if_neg a, if_pos b, if_neg (fun z => a z.symm), if_pos b.symm]; omega
  · rw [if_neg a, if_neg b, if_neg (fun z => a z.symm), if_neg (fun z => b z.symm)]; omega
theorem ok_tally_of (D : Dn K mg "tally_of" sTallyOf ["web"]) : Has P w K mg base 1 "tally_of" ["web"] (spTal T K) := by
  obtain ⟨f, fd, F, hm, hb⟩ := D.ex
  refine ⟨f, fd, ?_, hm, F.kp, hb⟩
  refine F.ok scTallyOf (fun vs H Q E h => ?_) (fun cdv A outer s H vs Q E hr h => ?_)
  · obtain ⟨v, n, es, rfl, _⟩ := h
    rfl
  · obtain ⟨v, n, es, rfl, hW, h24, hfit, q⟩ := h
    obtain ⟨wa, ta, xs, rfl, hwa, hta, hD⟩ := web_of hW
    refine ⟨_, pss_cons (ps_asg (pv 0) (pg_tup (by rfl) (pgs_cons (pg_name (i := 1) scTallyOf.nd rfl (.inl rfl)) (pgs_cons (pg_name (i := 2) scTallyOf.nd rfl (.inl rfl)) pgs_nil))))
      (pss_cons (ps_set (i := 3) scTallyOf.nd rfl (.inl rfl) (pe_op op_rep (pe_lst (pa_cons pe_int pa_nil)) (pv 1)))
      (pss_cons (ps_for PassesOwn.never rfl (pi_tup (pv 2)) (pg_tup rfl (pgs_cons (pg_name (i := 4) scTallyOf.nd rfl (.inl rfl)) (pgs_cons (pg_name (i := 5) scTallyOf.nd rfl (.inl rfl)) pgs_nil)))
        (pss_cons (ps_asg (pe_op op_add (pe_ix ix_list (pv 3) (pv 4) (fun _ _ => rfl)) pe_int) (pg_sub (pv 3) (pv 4) set_list))
        (pss_one (ps_asg (pe_op op_add (pe_ix ix_list (pv 3) (pv 5) (fun _ _ => rfl)) pe_int) (pg_sub (pv 3) (pv 5) set_list)))))
      (pss_one (ps_ret (pv 3))))), ?_⟩
    refine ⟨.ref wa, rfl, wa, _, rfl, hwa, rfl, _, _, rfl, _, _, rfl, rfl, ?_⟩
    refine ⟨by show 1 ≤ sizeLine; decide, fun l0 n0 => ?_⟩
    refine ⟨natV n, rfl, l0, (n : Int), _, rfl, rfl, upd_same, by omega, by omega, ?_, fun l nl => ?_⟩
    · show 1 * (n : Int).toNat ≤ sizeLine
      have := sizeLine_eq
      omega
    have g0 : Gw T H (upd H l0 (.lst [V.int 0])) := Gw.new n0
    have er : (List.replicate ((n : Int)).toNat [V.int 0]).flatten = (TW.tallyT n (es.take 0)).map V.int := by
      rw [List.take_zero, tallyT_nil, List.map_replicate, Int.toNat_natCast]
      clear h24 hfit hW hwa q
      induction n with
      | zero => rfl
      | succ n ih =>
        rw [List.replicate_succ, List.flatten_cons, ih, List.replicate_succ]
        rfl
    rw [er]
    have hlx : xs.length = es.length := by rw [dps_len hD, List.length_map]
    refine ⟨.ref ta, rfl, ta, rfl, ⟨xs, (g0.to nl).tup hta⟩, ?_⟩
    refine for_tup (xs := xs) (fun i σ H3 => ∃ y4 y5, σ = [some (.ref wa), some (natV n), some (.ref ta), some (.ref l), y4, y5] ∧ Gw T H H3 ∧ H3 l = some (.lst ((TW.tallyT n (es.take i)).map V.int)))
      ⟨none, none, rfl, g0.to nl, upd_same⟩ (fun i σ H3 _ hP => ?_) (fun i x σ H3 hx hP => ?_) (fun σ H3 hP => ?_)
    · obtain ⟨_, _, _, g, _⟩ := hP
      exact g.tup hta
    · obtain ⟨y4, y5, rfl, g, el⟩ := hP
      have hi : i < es.length := by rw [← hlx]; exact (List.getElem?_eq_some_iff.mp hx).1
      obtain ⟨dd, e1, hd⟩ := dps_at (g.dps hD) hx
      rw [List.getElem?_map, List.getElem?_eq_getElem hi] at e1
      have e1 := Option.some.inj e1
      subst e1
      obtain ⟨t, rfl, ht⟩ := tie_of hd
      have hf := hfit es[i] (List.getElem_mem hi)
      have hl : (TW.tallyT n (es.take i)).length = n := TW.tallyT_length _ _
      have hl1 : (TW.mv1 (TW.tallyT n (es.take i)) es[i].1 1).length = n := by rw [TW.mv1_length]; exact hl
      have nl0 : New H l := g0.fresh nl
      refine ⟨t, _, rfl, ht, rfl, _, _, rfl, _, _, rfl, rfl, ?_⟩
      refine ⟨.ref l, rfl, natV es[i].1, rfl, l, _, _, _, rfl, rfl, .inl (.inl el), atI_nat (tv_at (by rw [hl]; exact hf.1)), _, _, rfl, rfl, ?_⟩
      refine ⟨.ref l, rfl, natV es[i].1, rfl, l, _, _, es[i].1, rfl, rfl, el, ixNat (by rw [List.length_map, hl]; exact hf.1), ?_⟩
      rw [lst_set]
      have el2 : upd H3 l (.lst ((TW.mv1 (TW.tallyT n (es.take i)) es[i].1 1).map V.int)) l = some (.lst ((TW.mv1 (TW.tallyT n (es.take i)) es[i].1 1).map V.int)) := upd_same
      refine ⟨.ref l, rfl, natV es[i].2, rfl, l, _, _, _, rfl, rfl, .inl (.inl el2), atI_nat (tv_at (by rw [hl1]; exact hf.2)), _, _, rfl, rfl, ?_⟩
      refine ⟨.ref l, rfl, natV es[i].2, rfl, l, _, _, es[i].2, rfl, rfl, el2, ixNat (by rw [List.length_map, hl1]; exact hf.2), ?_⟩
      rw [lst_set, upd_upd]
      refine ⟨_, _, rfl, g.mut nl0 el (.inl ⟨_, rfl⟩), ?_⟩
      rw [upd_same, List.take_add_one, List.getElem?_eq_getElem hi]
      show some (HO.lst ((TW.mv1 (TW.mv1 (TW.tallyT n (es.take i)) es[i].1 1) es[i].2 1).map V.int)) = _
      rw [tallyT_snoc hf.1 hf.2]
      rfl
    · obtain ⟨_, _, rfl, g, el⟩ := hP
      rw [hlx, List.take_length] at el
      exact ⟨.ref l, rfl, q H3 l g (g0.fresh nl) el⟩
end
end TWR
set_option Elab.async false
set_option linter.all false
set_option maxRecDepth 100000
set_option maxHeartbeats 4000000
namespace TWR
open PySem PySem.Spec PyProof.Rows L2 LamX
/-- new pairs -/
def Rf (H : Hp) (x : V) (p : Nat × Nat) : Prop := ∃ t, x = .ref t ∧ H t = some (.tup [natV p.1, natV p.2])
theorem Rf.ext {H H' : Hp} {x : V} {p : Nat × Nat} (e : ExtN H H') (r : Rf H x p) : Rf H' x p := by
  obtain ⟨t, e1, e2⟩ := r
  exact ⟨t, e1, e t _ e2 fun ps z => by cases z⟩
theorem rfs_ext {H H' : Hp} {xs : List V} {ps : List (Nat × Nat)} (e : ExtN H H') (r : Paired (Rf H) xs ps) : Paired (Rf H') xs ps := Paired.mapP r fun _ _ => Rf.ext e
theorem rfs_dps {K : PySem.W.Frag} {H : Hp} : ∀ {xs : List V} {ps : List (Nat × Nat)}, Paired (Rf H) xs ps → DpAll K H xs (ps.map tieD)
  | _, _, .nil => .nil
  | _, _, .cons r t => by
    obtain ⟨a, rfl, h⟩ := r
    exact .cons (tie_mk (.inl (.inl h))) (rfs_dps t)
/-- the pair at an address -/
def kAt (H : Hp) (x : V) : Int × Int := match x with
  | .ref t => match H t with
    | some (.tup [.int i, .int j]) => (i, j)
    | _ => (0, 0)
  | _ => (0, 0)
theorem kAt_of {H : Hp} {x : V} {p : Nat × Nat} (r : Rf H x p) : kAt H x = ((p.1 : Int), (p.2 : Int)) := by
  obtain ⟨t, rfl, h⟩ := r
  unfold kAt
  dsimp only
  rw [h]
  rfl
def kN (H : Hp) (x : V) : Nat × Nat := ((kAt H x).1.toNat, (kAt H x).2.toNat)
theorem kN_of {H : Hp} {x : V} {p : Nat × Nat} (r : Rf H x p) : kN H x = p := by
  unfold kN
  rw [kAt_of r]
  rfl
theorem paired_map {H : Hp} : ∀ {xs : List V} {ps : List (Nat × Nat)}, Paired (Rf H) xs ps → ps = xs.map (kN H)
  | _, _, .nil => rfl
  | _, _, .cons r t => by rw [List.map_cons, kN_of r, ← paired_map t]
theorem paired_mem {H : Hp} : ∀ {xs : List V} {ps : List (Nat × Nat)}, Paired (Rf H) xs ps → ∀ x ∈ xs, Rf H x (kN H x)
  | _, _, .nil, _, h => (nomatch h)
  | _, _, .cons r t, x, h => by
    rcases List.mem_cons.mp h with rfl | h
    · rw [kN_of r]; exact r
    · exact paired_mem t x h
theorem paired_of {H : Hp} : ∀ {xs : List V}, (∀ x ∈ xs, Rf H x (kN H x)) → Paired (Rf H) xs (xs.map (kN H))
  | [], _ => .nil
  | x :: xs, h => .cons (h x (List.mem_cons_self ..)) (paired_of fun y hy => h y (List.mem_cons_of_mem _ hy))
/-- what sorted gives of new pairs -/
theorem paired_sorted {H : Hp} {xs ys : List V} {ps : List (Nat × Nat)} (r : Paired (Rf H) xs ps) (h1 : SrtO.Srtd (ltP (kAt H)) ys) (h2 : ys.Perm xs) : Paired (Rf H) ys (TW.srt ps) := by
  have hy : ∀ x ∈ ys, Rf H x (kN H x) := fun x hx => paired_mem r x (h2.mem_iff.mp hx)
  have e : ys.map (kN H) = TW.srt ps := by
    refine List.Perm.eq_of_pairwise (le := fun a b => TW.tle a b = true) (fun a b _ _ q1 q2 => ?_) ?_ (List.pairwise_mergeSort TW.tle_trans TW.tle_total _) ?_
    · unfold TW.tle at q1 q2
      simp only [decide_eq_true_eq] at q1 q2
      exact Prod.ext (by omega) (by omega)
    · rw [List.pairwise_map]
      refine List.Pairwise.imp_of_mem ?_ h1
      intro a b ha hb q
      have ra := kAt_of (hy a ha)
      have rb := kAt_of (hy b hb)
      have q := SrtO.lexB_no.mp q
      rw [ra, rb] at q
      unfold TW.tle
      refine decide_eq_true ?_
      dsimp only at q
      omega
    · refine (h2.map (kN H)).trans ?_
      rw [← paired_map r]
      exact (TW.srt_perm ps).symm
  rw [← e]
  exact paired_of hy
section
variable {P : Program} {w : World} {K : PySem.W.Frag} {mg : Str → Option Value} {base : Heap} {T : Tbls} {H : Hp} {a : Addr} {ns : List Int}
def rMin2 (K : PySem.W.Frag) : List V → Hp → VK → Prop := fun vs H Q => ∃ (a : Addr) (i j : Int), vs = [V.ref a] ∧ SqT K H a [.int i, .int j] ∧ Q (.int (min i j)) H
def rMax2 (K : PySem.W.Frag) : List V → Hp → VK → Prop := fun vs H Q => ∃ (a : Addr) (i j : Int), vs = [V.ref a] ∧ SqT K H a [.int i, .int j] ∧ Q (.int (max i j)) H
theorem cr_min2K {X : Cx} (hc : X.calm = true) (hu : X.A.units + 64 < cLine) : CallR X (.builtin "min") (rMin2 X.K) := cr_min2T hc hu
theorem cr_max2K {X : Cx} (hc : X.calm = true) (hu : X.A.units + 64 < cLine) : CallR X (.builtin "max") (rMax2 X.K) := cr_max2T hc hu
/-- made, of ties that fit -/
def spMade (T : Tbls) (K : PySem.W.Frag) : Sp := fun vs H Q _ => ∃ (l : Addr) (n : Nat) (es : List (Nat × Nat)) (xs : List V), vs = [natV n, .ref l] ∧ 1 ≤ n ∧ n ≤ 24 ∧ SqL K H l xs ∧ DpAll K H xs (es.map tieD) ∧ TW.GoodT n es ∧ es.length ≤ 1000 ∧
  ∀ H' v, Gw T H H' → Dp K H' v (webD n (TW.madeT es)) → Q v H'
theorem ok_made (D : Dn K mg "made" sMade ["places", "ties"]) (B : NoB mg) (hM : ∃ t, mg "MOST_PLACES_webs" = some (.int 24 t)) (HF : Has P w K mg base 1 "ties_fit" ["places", "ties"] (spFit T K)) :
    Has P w K mg base 2 "made" ["places", "ties"] (spMade T K) := by
  obtain ⟨f, fd, F, hm, hb⟩ := D.ex
  refine ⟨f, fd, ?_, hm, F.kp, hb⟩
  obtain ⟨f1, fd1, G1, m1, k1, b1⟩ := HF
  obtain ⟨t24, hM⟩ := hM
  refine F.ok scMade (fun vs H Q E h => ?_) (fun cdv A outer s H vs Q E hr h => ?_)
  · obtain ⟨l, n, es, xs, rfl, _⟩ := h
    rfl
  · obtain ⟨l, n, es, xs, rfl, h1, h24, hL, hD, hg, hlen, q⟩ := h
    refine ⟨_, pss_cons (ps_if (PW.pt (pw_or (pt_cmpR op_lt (pv 0) pe_int (nomark _)) (pw_or1 (pt_cmpR op_gt (pv 0) (pe_glob (v := .int 24) rfl hM ⟨_, rfl⟩) (nomark _))))) pss_never pss_nil)
      (pss_cons (ps_if (pt_not (pt_val (pe_call G1 hr (by rfl) m1 k1 b1 .nil pass0 (pa_cons (pv 0) (pa_cons (pv 1) pa_nil))))) pss_never pss_nil)
      (pss_one (ps_ret (pe_tup (pa_cons (pv 0) (pa_cons (pe_callTy call_tuple_of (by rfl) B.tuple (by decide +kernel) (pa_cons (pe_callB cr_sortedPO (by rfl) B.sorted boot_sorted (pa_cons
        (pe_lc (own := [("tie", 2)]) (g := gName 2) (tt := tYes) rfl scMade.nd (pi_list (pv 1)) (blkOk_by (own := [("tie", 2)]) (N := ["places", "ties", "tie"]) (sc := defScope sMade) (by decide +kernel)) (fun _ _ _ _ _ => pg_name (i := 2) scMade.nd rfl (Or.inl rfl)) (fun _ _ _ _ _ => pts_nil)
          (fun _ _ _ _ _ => pe_tup (pa_cons (pe_callB (r := rMin2 K) (cr_min2K rfl hr.units) (by rfl) B.min boot_min (pa_cons (pv 2) pa_nil)) (pa_cons (pe_callB (r := rMax2 K) (cr_max2K rfl hr.units) (by rfl) B.max boot_max (pa_cons (pv 2) pa_nil)) pa_nil)))) pa_nil)) pa_nil)) pa_nil)))))), ?_⟩
    refine ⟨natV n, rfl, _, _, rfl, rfl, _, rfl, ifF (by omega) ?_⟩
    refine ⟨natV n, rfl, _, _, rfl, rfl, _, rfl, ifF (by omega) ?_⟩
    refine ⟨natV n, rfl, .ref l, rfl, l, n, es, xs, rfl, hL, hD, hg, hlen, fun H1 g1 => ⟨true, rfl, iteF ?_⟩⟩
    have hL1 := g1.seq hL
    have hlx : xs.length = es.length := by rw [dps_len hD, List.length_map]
    refine ⟨natV n, rfl, .ref l, rfl, l, rfl, ⟨xs, hL1⟩, fun D nD => ?_⟩
    refine lc_list (xs := xs) (fun i H3 => ∃ acc, H3 D = some (.lst acc) ∧ Gw T H1 H3 ∧ acc.length = i ∧ Paired (Rf H3) acc ((es.map TW.norm).take i)) ⟨[], upd_same, Gw.new nD, rfl, .nil⟩ (fun i H3 _ hP => ?_) (fun i x H3 hx hP => ?_) (fun H3 hP => ?_)
    · obtain ⟨_, _, g, _⟩ := hP
      exact g.seq hL1
    · obtain ⟨acc, eD, g, eA, hR⟩ := hP
      have hi : i < es.length := by rw [← hlx]; exact (List.getElem?_eq_some_iff.mp hx).1
      obtain ⟨dd, e1, hd⟩ := dps_at ((g1.trans g).dps hD) hx
      rw [List.getElem?_map, List.getElem?_eq_getElem hi] at e1
      have e1 := Option.some.inj e1
      subst e1
      obtain ⟨t, rfl, ht⟩ := tie_of hd
      refine ⟨rfl, ?_⟩
      refine ⟨.ref t, rfl, t, _, _, rfl, ht, .ref t, rfl, t, _, _, rfl, ht, by show 2 ≤ sizeLine; decide, fun p np => ?_⟩
      have ea : V.int (min (es[i].1 : Int) (es[i].2 : Int)) = natV (TW.norm es[i]).1 := by
        unfold TW.norm natV
        congr 1
        omega
      have eb : V.int (max (es[i].1 : Int) (es[i].2 : Int)) = natV (TW.norm es[i]).2 := by
        unfold TW.norm natV
        congr 1
        omega
      rw [ea, eb] at *
      have eD2 : upd H3 p (.tup [natV (TW.norm es[i]).1, natV (TW.norm es[i]).2]) D = some (.lst acc) := by rw [upd_ne (ne_of_none eD np)]; exact eD
      have g2 := g.to (o := .tup [natV (TW.norm es[i]).1, natV (TW.norm es[i]).2]) np
      have g3 : Gw T H1 (upd (upd H3 p (.tup [natV (TW.norm es[i]).1, natV (TW.norm es[i]).2])) D (.lst (acc ++ [.ref p]))) := g2.mut (New.none nD) eD2 (.inl ⟨_, rfl⟩)
      refine ⟨acc, eD2, ?_, acc ++ [.ref p], upd_same, g3, by rw [List.length_append, eA]; rfl, ?_⟩
      · rw [eA]
        exact small1000 (by omega)
      · have hne : p ≠ D := fun z => by rw [z, eD] at np; cases np
        have ex : ∀ x q, Rf H3 x q → Rf (upd (upd H3 p (.tup [natV (TW.norm es[i]).1, natV (TW.norm es[i]).2])) D (.lst (acc ++ [.ref p]))) x q := fun x q ⟨t, e1, e2⟩ =>
          ⟨t, e1, by rw [upd_ne (ne_of e2 eD (by intro z; cases z)), upd_ne (ne_of_none e2 np)]; exact e2⟩
        rw [List.take_add_one, List.getElem?_map, List.getElem?_eq_getElem hi]
        exact Paired.snoc (Paired.mapP hR ex) ⟨p, rfl, by rw [upd_ne hne]; exact upd_same⟩
    · obtain ⟨acc, eD, g, eA, hR⟩ := hP
      rw [hlx, List.take_of_length_le (by rw [List.length_map]; exact Nat.le_refl _)] at hR
      refine ⟨D, acc, kAt H3, rfl, .inl (.inl eD), fun x hx => ?_, fun ys p h1 h2 np => ?_⟩
      · have hx2 := paired_mem hR x hx
        obtain ⟨t, e1, e2⟩ := hx2
        have e3 := kAt_of (paired_mem hR x hx)
        refine ⟨t, e1, ?_⟩
        rw [e2, e3]
        rfl
      · have hS := paired_sorted hR h1 h2.perm
        refine ⟨p, ys, rfl, .inl ⟨.inl (.inl upd_same), fun u nu => ?_⟩⟩
        have g2 := (g.to (o := .lst ys) np).to (o := .tup ys) nu
        refine ⟨by show 2 ≤ sizeLine; decide, fun v nv => ?_⟩
        have g3 := g2.to (o := .tup [natV n, .ref u]) nv
        have g4 : Gw T (upd (upd H3 p (.lst ys)) u (.tup ys)) (upd (upd (upd H3 p (.lst ys)) u (.tup ys)) v (.tup [natV n, .ref u])) := Gw.new nv
        refine q _ _ (g1.trans g3) (web_mk (b := u) (xs := ys) (.inl (.inl upd_same)) (g4.tup (.inl (.inl upd_same))) ?_)
        have g5 : Gw T H3 (upd (upd (upd H3 p (.lst ys)) u (.tup ys)) v (.tup [natV n, .ref u])) := ((Gw.new np).to nu).to nv
        exact rfs_dps (rfs_ext g5.ext hS)
end
end TWR
set_option Elab.async false
set_option linter.all false
set_option maxRecDepth 100000
set_option maxHeartbeats 4000000
namespace TWR
open PySem PySem.Spec PyProof.Rows L2 LamX
theorem Rf.mut {H : Hp} {x : V} {p : Nat × Nat} {l : Addr} {ys : List V} {o : HO} (h : H l = some (.lst ys)) (r : Rf H x p) : Rf (upd H l o) x p := by
  obtain ⟨t, e1, e2⟩ := r
  exact ⟨t, e1, by rw [upd_ne (ne_of e2 h (by intro z; cases z))]; exact e2⟩
theorem Rf.new {H : Hp} {x : V} {p : Nat × Nat} {l : Addr} {o : HO} (h : H l = none) (r : Rf H x p) : Rf (upd H l o) x p := by
  obtain ⟨t, e1, e2⟩ := r
  exact ⟨t, e1, by rw [upd_ne (ne_of_none e2 h)]; exact e2⟩
theorem decL_snoc (o : Nat) : ∀ (l : List Nat) (L : List Int), TW.decL L (l ++ [o]) = TW.mv1 (TW.decL L l) o (-1)
  | [], L => rfl
  | x :: l, L => decL_snoc o l _
theorem rg_range (p n : Nat) : rgV ((p : Int) + 1) (n : Int) = (List.range' (p + 1) (n - (p + 1))).map natV := by
  unfold rgV
  rw [List.range'_eq_map_range, List.map_map, show ((n : Int) - ((p : Int) + 1)).toNat = n - (p + 1) by omega]
  refine List.map_congr_left fun i _ => ?_
  show V.int ((p : Int) + 1 + (i : Int)) = V.int (((p + 1 + i : Nat)) : Int)
  exact congrArg V.int (by omega)
theorem topL_len (L : List Int) (p n : Nat) : (TW.topL L p n).length ≤ n := by
  unfold TW.topL
  rw [List.length_take, TW.byK_length, List.length_range']
  omega
theorem laidAt_len (t : List Int) : ∀ p, (TW.laidAt t p).2.length ≤ p * t.length
  | 0 => Nat.zero_le _
  | p + 1 => by
    have h1 := laidAt_len t p
    have h2 := topL_len (TW.laidAt t p).1 p t.length
    show ((TW.laidAt t p).2 ++ (TW.topL (TW.laidAt t p).1 p t.length).map fun u => (p, u)).length ≤ _
    rw [List.length_append, List.length_map, Nat.succ_mul]
    omega
section
variable {P : Program} {w : World} {K : PySem.W.Frag} {mg : Str → Option Value} {base : Heap} {T : Tbls} {H : Hp} {a : Addr} {ns : List Int}
def spLaid (T : Tbls) (K : PySem.W.Frag) : Sp := fun vs H Q _ => ∃ (a : Addr) (ns : List Int), vs = [.ref a] ∧ SqI K H a ns ∧ 1 ≤ ns.length ∧ ns.length ≤ 24 ∧ Tabs T H ∧ (∀ p, p < ns.length → 0 ≤ TW.tv (TW.laidAt ns p).1 p) ∧ TW.GoodT ns.length (TW.laidTies ns) ∧
  ∀ H' v, Gw T H H' → Dp K H' v (webD ns.length (TW.madeT (TW.laidTies ns))) → Q v H'
theorem ok_laid (D : Dn K mg "laid" sLaid ["tally"]) (B : NoB mg) (HG : Has P w K mg base 1 "greatest_of" ["numbers", "places", "many"] (spGre T K)) (HM : Has P w K mg base 2 "made" ["places", "ties"] (spMade T K)) :
    Has P w K mg base 3 "laid" ["tally"] (spLaid T K) := by
  obtain ⟨f, fd, F, hm, hb⟩ := D.ex
  refine ⟨f, fd, ?_, hm, F.kp, hb⟩
  obtain ⟨f1, fd1, G1, m1, k1, b1⟩ := HG
  obtain ⟨f2, fd2, G2, m2, k2, b2⟩ := HM
  refine F.ok scLaid (fun vs H Q E h => ?_) (fun cdv A outer s H vs Q E hr h => ?_)
  · obtain ⟨a, ns, rfl, _⟩ := h
    rfl
  · obtain ⟨a, ns, rfl, hS, h1, h24, hT, hpos, hgood, q⟩ := h
    refine ⟨_, pss_cons (ps_set (i := 1) scLaid.nd rfl (.inl rfl) (pe_callTy call_list_of (by rfl) B.list (by decide +kernel) (pa_cons (pv 0) pa_nil)))
      (pss_cons (ps_set (i := 2) scLaid.nd rfl (.inl rfl) (pe_lst pa_nil))
      (pss_cons (ps_for PassesOwn.never rfl (pi_range1 (by rfl) B.range (pa_cons (pe_callB call_len_seq (by rfl) B.len PySem.boot_len (pa_cons (pv 0) pa_nil)) pa_nil)) (pg_name (i := 3) scLaid.nd rfl (.inl rfl))
        (pss_cons (ps_set (i := 4) scLaid.nd rfl (.inl rfl) (pe_listRg rfl (by rfl) B.list (prg_2 (by rfl) B.range (pe_op op_add (pv 3) pe_int) (pe_callB call_len_seq (by rfl) B.len PySem.boot_len (pa_cons (pv 0) pa_nil)))))
        (pss_one (ps_for PassesOwn.never rfl (pi_list (pe_call G1 (hr.mono (by decide)) (by rfl) m1 k1 b1 .nil pass0 (pa_cons (pv 1) (pa_cons (pv 4) (pa_cons (pe_ix ix_list (pv 1) (pv 3) (fun _ _ => rfl)) pa_nil))))) (pg_name (i := 5) scLaid.nd rfl (.inl rfl))
          (pss_cons (ps_asg (pe_op op_sub (pe_ix ix_list (pv 1) (pv 5) (fun _ _ => rfl)) pe_int) (pg_sub (pv 1) (pv 5) set_list))
          (pss_one (ps_expr (pe_bm PySem.F.plainAttrs_list PySem.F.slot_list_append PySem.F.type_list_append mt_append (pv 2) (pa_cons (pe_tup (pa_cons (pv 3) (pa_cons (pv 5) pa_nil))) pa_nil)))))))))
      (pss_one (ps_ret (pe_call G2 hr (by rfl) m2 k2 b2 .nil pass0 (pa_cons (pe_callB call_len_seq (by rfl) B.len PySem.boot_len (pa_cons (pv 0) pa_nil)) (pa_cons (pv 2) pa_nil))))))), ?_⟩
    have hl : SqL K H a (ns.map V.int) ∨ SqT K H a (ns.map V.int) := hS
    have el : ((ns.map V.int).length : Int) = ns.length := by rw [List.length_map]
    refine ⟨.ref a, rfl, a, _, rfl, hl, fun l nl => ?_⟩
    refine ⟨Nat.zero_le _, fun tt ntt => ?_⟩
    have g0 : Gw T H (upd H l (.lst (ns.map V.int))) := Gw.new nl
    have g1 := g0.to (o := .lst []) ntt
    have ltt : l ≠ tt := ne_of_none upd_same ntt
    have hl1 : SqL K (upd (upd H l (.lst (ns.map V.int))) tt (.lst [])) a (ns.map V.int) ∨ SqT K (upd (upd H l (.lst (ns.map V.int))) tt (.lst [])) a (ns.map V.int) := g1.sqi hS
    refine ⟨.ref a, rfl, a, _, rfl, hl1, _, rfl, by omega, by omega, ?_⟩
    rw [List.length_map, Int.toNat_natCast]
    refine for_range (lo := 0) (n := ns.length) (fun p σ H3 => ∃ y3 y4 y5 acc, σ = [some (.ref a), some (.ref l), some (.ref tt), y3, y4, y5] ∧ Gw T H H3 ∧ H3 l = some (.lst ((TW.laidAt ns p).1.map V.int)) ∧ H3 tt = some (.lst acc) ∧ Paired (Rf H3) acc (TW.laidAt ns p).2)
      ⟨none, none, none, [], rfl, g1, by rw [upd_ne ltt]; exact upd_same, upd_same, .nil⟩ (fun p σ H3 hp hP => ?_) (fun σ H3 hP => ?_)
    · obtain ⟨y3, y4, y5, acc, rfl, g, eL, eT, hR⟩ := hP
      have e0 : V.int (0 + (p : Int)) = natV p := congrArg V.int (by omega)
      rw [e0]
      have hLl : (TW.laidAt ns p).1.length = ns.length := TW.laidAt_length ns p
      have hl3 : SqL K H3 a (ns.map V.int) ∨ SqT K H3 a (ns.map V.int) := g.sqi hS
      refine ⟨natV p, rfl, _, _, rfl, rfl, .ref a, rfl, a, _, rfl, hl3, (p : Int) + 1, ((ns.map V.int).length : Int), rfl, rfl, RgOk.of_le (by omega) (by omega) (by omega) (by omega), fun oth noth => ?_⟩
      have erg : rgV ((p : Int) + 1) ((ns.map V.int).length : Int) = (List.range' (p + 1) (ns.length - (p + 1))).map natV := by
        rw [List.length_map]
        exact rg_range p ns.length
      rw [erg]
      have g2 := g.to (o := .lst ((List.range' (p + 1) (ns.length - (p + 1))).map natV)) noth
      have eL2 : upd H3 oth (.lst ((List.range' (p + 1) (ns.length - (p + 1))).map natV)) l = some (.lst ((TW.laidAt ns p).1.map V.int)) := by rw [upd_ne (ne_of_none eL noth)]; exact eL
      have eT2 : upd H3 oth (.lst ((List.range' (p + 1) (ns.length - (p + 1))).map natV)) tt = some (.lst acc) := by rw [upd_ne (ne_of_none eT noth)]; exact eT
      have hpp := hpos p hp
      have em : V.int (TW.tv (TW.laidAt ns p).1 p) = natV (TW.tv (TW.laidAt ns p).1 p).toNat := congrArg V.int (by omega)
      refine ⟨.ref l, rfl, .ref oth, rfl, .ref l, rfl, natV p, rfl, l, _, _, _, rfl, rfl, .inl (.inl eL2), atI_nat (tv_at (by rw [hLl]; exact hp)), ?_⟩
      refine ⟨l, oth, (TW.laidAt ns p).1, List.range' (p + 1) (ns.length - (p + 1)), (TW.tv (TW.laidAt ns p).1 p).toNat, by rw [em]; rfl, .inl (.inl (.inl eL2)), .inl (.inl upd_same), fun b hb => ?_, by rw [List.length_range']; omega, g2.tab hT, fun H4 qq g4 n4 e4 => ?_⟩
      · rw [List.mem_range'_1] at hb
        rw [hLl]
        omega
      have eL4 := g4.at eL2
      have eT4 := g4.at eT2
      have qnl : l ≠ qq := n4.ne eL2
      have qnt : tt ≠ qq := n4.ne eT2
      have etop : ((TW.byK (TW.tv (TW.laidAt ns p).1) (List.range' (p + 1) (ns.length - (p + 1)))).take (TW.tv (TW.laidAt ns p).1 p).toNat) = TW.topL (TW.laidAt ns p).1 p ns.length := rfl
      rw [etop] at e4
      refine ⟨qq, rfl, ⟨_, .inl (.inl e4)⟩, ?_⟩
      have hR4 : Paired (Rf H4) acc (TW.laidAt ns p).2 := rfs_ext g4.ext (Paired.mapP hR fun _ _ => Rf.new noth)
      refine for_list (xs := (TW.topL (TW.laidAt ns p).1 p ns.length).map natV) (fun j σ H5 => ∃ y5 acc, σ = [some (.ref a), some (.ref l), some (.ref tt), some (natV p), some (.ref oth), y5] ∧ Gw T H H5 ∧ H5 l = some (.lst ((TW.decL (TW.laidAt ns p).1 ((TW.topL (TW.laidAt ns p).1 p ns.length).take j)).map V.int)) ∧
          H5 tt = some (.lst acc) ∧ Paired (Rf H5) acc ((TW.laidAt ns p).2 ++ ((TW.topL (TW.laidAt ns p).1 p ns.length).take j).map fun u => (p, u)) ∧ H5 qq = some (.lst ((TW.topL (TW.laidAt ns p).1 p ns.length).map natV)))
        ⟨y5, acc, rfl, g2.trans g4, eL4, eT4, by rw [List.take_zero, List.map_nil, List.append_nil]; exact hR4, e4⟩ (fun j σ H5 _ hP => ?_) (fun j x σ H5 hx hP => ?_) (fun σ H5 hP => ?_)
      · obtain ⟨_, _, _, _, _, _, _, e⟩ := hP
        exact .inl (.inl e)
      · obtain ⟨y5, acc5, rfl, g5, eL5, eT5, hR5, eq5⟩ := hP
        have hj : j < (TW.topL (TW.laidAt ns p).1 p ns.length).length := by
          have := (List.getElem?_eq_some_iff.mp hx).1
          rw [List.length_map] at this
          exact this
        rw [List.getElem?_map, List.getElem?_eq_getElem hj] at hx
        have hx := Option.some.inj hx
        subst hx
        have ho := TW.topL_mem (List.getElem_mem hj)
        have hdl : (TW.decL (TW.laidAt ns p).1 ((TW.topL (TW.laidAt ns p).1 p ns.length).take j)).length = ns.length := by rw [TW.decL_length, hLl]
        have hlen5 : acc5.length ≤ 1000 := by
          have e := Paired.length hR5
          rw [List.length_append, List.length_map, List.length_take] at e
          have e1 := laidAt_len ns p
          have e2 := topL_len (TW.laidAt ns p).1 p ns.length
          have e3 : p * ns.length ≤ 24 * 24 := Nat.mul_le_mul (by omega) h24
          omega
        refine ⟨.ref l, rfl, natV (TW.topL (TW.laidAt ns p).1 p ns.length)[j], rfl, l, _, _, _, rfl, rfl, .inl (.inl eL5), atI_nat (tv_at (by rw [hdl]; exact ho.2)), _, _, rfl, rfl, ?_⟩
        refine ⟨.ref l, rfl, natV (TW.topL (TW.laidAt ns p).1 p ns.length)[j], rfl, l, _, _, (TW.topL (TW.laidAt ns p).1 p ns.length)[j], rfl, rfl, eL5, ixNat (by rw [List.length_map, hdl]; exact ho.2), ?_⟩
        rw [lst_set]
        have emv : (TW.decL (TW.laidAt ns p).1 ((TW.topL (TW.laidAt ns p).1 p ns.length).take j)).set (TW.topL (TW.laidAt ns p).1 p ns.length)[j] (TW.tv (TW.decL (TW.laidAt ns p).1 ((TW.topL (TW.laidAt ns p).1 p ns.length).take j)) (TW.topL (TW.laidAt ns p).1 p ns.length)[j] - 1) =
            TW.decL (TW.laidAt ns p).1 ((TW.topL (TW.laidAt ns p).1 p ns.length).take (j + 1)) := by
          rw [List.take_add_one, List.getElem?_eq_getElem hj]
          exact (decL_snoc _ _ _).symm
        rw [emv]
        have g6 : Gw T H (upd H5 l (.lst ((TW.decL (TW.laidAt ns p).1 ((TW.topL (TW.laidAt ns p).1 p ns.length).take (j + 1))).map V.int))) := g5.mut (New.none nl) eL5 (.inl ⟨_, rfl⟩)
        generalize TW.decL (TW.laidAt ns p).1 ((TW.topL (TW.laidAt ns p).1 p ns.length).take (j + 1)) = L' at *
        have eT6 : upd H5 l (.lst (L'.map V.int)) tt = some (.lst acc5) := by rw [upd_ne ltt.symm]; exact eT5
        refine ⟨.ref tt, rfl, .inl ⟨rfl, _, .inl (.inl eT6)⟩, natV p, rfl, natV (TW.topL (TW.laidAt ns p).1 p ns.length)[j], rfl, by show 2 ≤ sizeLine; decide, fun z nz => ?_⟩
        have eT7 : upd (upd H5 l (.lst (L'.map V.int))) z (.tup [natV p, natV (TW.topL (TW.laidAt ns p).1 p ns.length)[j]]) tt = some (.lst acc5) := by rw [upd_ne (ne_of_none eT6 nz)]; exact eT6
        refine ⟨tt, acc5, _, rfl, rfl, eT7, small1000 hlen5, ?_⟩
        have g7 := g6.to (o := .tup [natV p, natV (TW.topL (TW.laidAt ns p).1 p ns.length)[j]]) nz
        have ntt' : New H tt := g0.fresh ntt
        refine ⟨_, acc5 ++ [.ref z], rfl, g7.mut ntt' eT7 (.inl ⟨_, rfl⟩), ?_, upd_same, ?_, ?_⟩
        · rw [upd_ne ltt, upd_ne (ne_of_none upd_same nz)]
          exact upd_same
        · rw [List.take_add_one, List.getElem?_eq_getElem hj, List.map_append, ← List.append_assoc]
          refine Paired.snoc (Paired.mapP hR5 fun x q r => Rf.mut eT7 (Rf.new nz (Rf.mut eL5 r))) ⟨z, rfl, ?_⟩
          rw [upd_ne (ne_of_none eT6 nz).symm]
          exact upd_same
        · have e1 : upd H5 l (.lst (L'.map V.int)) qq = some (.lst ((TW.topL (TW.laidAt ns p).1 p ns.length).map natV)) := by rw [upd_ne qnl.symm]; exact eq5
          rw [upd_ne qnt.symm, upd_ne (ne_of_none e1 nz)]
          exact e1
      · obtain ⟨y5, acc5, rfl, g5, eL5, eT5, hR5, _⟩ := hP
        rw [List.length_map, List.take_length] at eL5 hR5
        exact ⟨_, _, _, acc5, rfl, g5, eL5, eT5, hR5⟩
    · obtain ⟨y3, y4, y5, acc, rfl, g, eL, eT, hR⟩ := hP
      have hl3 : SqL K H3 a (ns.map V.int) ∨ SqT K H3 a (ns.map V.int) := g.sqi hS
      have hlen : (TW.laidTies ns).length ≤ 1000 := by
        have e1 := laidAt_len ns ns.length
        have e3 : ns.length * ns.length ≤ 24 * 24 := Nat.mul_le_mul h24 h24
        unfold TW.laidTies
        omega
      refine ⟨.ref a, rfl, a, _, rfl, hl3, .ref tt, rfl, tt, ns.length, TW.laidTies ns, acc, by rw [el]; rfl, h1, h24, .inl (.inl eT), rfs_dps hR, hgood, hlen, fun H' v g' hv => q H' v (g.trans g') hv⟩
/-- answered, of a tally without a wall -/
def ansD (n : Nat) (es : List (Nat × Nat)) : PyData := .tuple [.str "web", webD n es]
def spAns (T : Tbls) (K : PySem.W.Frag) : Sp := fun vs H Q _ => ∃ (a : Addr) (ns : List Int), vs = [.ref a] ∧ SqI K H a ns ∧ 1 ≤ ns.length ∧ ns.length ≤ 24 ∧ Tabs T H ∧ TW.wallOf ns = none ∧
  ∀ H' v, Gw T H H' → Dp K H' v (ansD ns.length (TW.madeT (TW.laidTies ns))) → Q v H'
theorem ok_answered (D : Dn K mg "answered" sAnswered ["tally"]) (HW : Has P w K mg base 4 "wall_of" ["tally"] (spWall T K)) (HL : Has P w K mg base 3 "laid" ["tally"] (spLaid T K)) :
    Has P w K mg base 5 "answered" ["tally"] (spAns T K) := by
  obtain ⟨f, fd, F, hm, hb⟩ := D.ex
  refine ⟨f, fd, ?_, hm, F.kp, hb⟩
  obtain ⟨f1, fd1, G1, m1, k1, b1⟩ := HW
  obtain ⟨f2, fd2, G2, m2, k2, b2⟩ := HL
  refine F.ok scAnswered (fun vs H Q E h => ?_) (fun cdv A outer s H vs Q E hr h => ?_)
  · obtain ⟨a, ns, rfl, _⟩ := h
    rfl
  · obtain ⟨a, ns, rfl, hS, h1, h24, hT, hw, q⟩ := h
    refine ⟨_, pss_cons (ps_set (i := 1) scAnswered.nd rfl (.inl rfl) (pe_call G1 hr (by rfl) m1 k1 b1 .nil pass0 (pa_cons (pv 0) pa_nil)))
      (pss_cons (ps_if (pt_cmpR op_notN (pv 1) pe_non (nomark _)) pss_never pss_nil)
      (pss_one (ps_ret (pe_tup (pa_cons pe_str (pa_cons (pe_call G2 (hr.mono (by decide)) (by rfl) m2 k2 b2 .nil pass0 (pa_cons (pv 0) pa_nil)) pa_nil)))))), ?_⟩
    refine ⟨.ref a, rfl, a, ns, rfl, hS, h1, h24, hT, fun H1 v g1 hv => ?_⟩
    rw [hw] at hv
    have ev : v = .non := by
      unfold wallD at hv
      cases hv
      rfl
    subst ev
    have F := TW.fine_of_none hw
    refine ⟨.non, rfl, rfl, _, rfl, ?_⟩
    refine ⟨.ref a, rfl, a, ns, rfl, g1.sqi hS, h1, h24, g1.tab hT, TW.laid_pos F, TW.laid_good F, fun H2 v g2 hv => ?_⟩
    refine ⟨by show 2 ≤ sizeLine; decide, fun p np => ?_⟩
    refine q _ _ ((g1.trans g2).to np) ?_
    have g3 : Gw T H2 (upd H2 p (.tup [.str "web", v])) := Gw.new np
    exact .tup (.inl (.inl upd_same)) (.cons (.str _) (.cons (g3.dp hv) .nil))
end
end TWR
set_option Elab.async false
set_option linter.all false
set_option maxRecDepth 100000
set_option maxHeartbeats 4000000
namespace TWR
open PySem PySem.Spec PyProof.Rows L2 LamX
def pairI (i j : Int) : PyData := .tuple [.int i, .int j]
theorem pairI_mk {K : PySem.W.Frag} {H : Hp} {a : Addr} {i j : Int} (h : SqT K H a [.int i, .int j]) : Dp K H (.ref a) (pairI i j) := .tup h (.cons (.int _) (.cons (.int _) .nil))
theorem pairI_depth (i j : Int) : (pairI i j).depth ≤ 1 := by simp [pairI, PyData.depth, PyData.depthAll]
/-- t >= u, t <= u of pairs of ints -/
def rGeP (K : PySem.W.Frag) : R2 := fun x y H Q => ∃ (a b : Addr) (i j i' j' : Int), x = .ref a ∧ y = .ref b ∧ SqT K H a [.int i, .int j] ∧ SqT K H b [.int i', .int j'] ∧ Q (.bl (!decide (i < i' ∨ (i = i' ∧ j < j')))) H
def rLeP (K : PySem.W.Frag) : R2 := fun x y H Q => ∃ (a b : Addr) (i j i' j' : Int), x = .ref a ∧ y = .ref b ∧ SqT K H a [.int i, .int j] ∧ SqT K H b [.int i', .int j'] ∧ Q (.bl (!decide (i' < i ∨ (i' = i ∧ j' < j)))) H
theorem op_geP {X : Cx} (hu : X.A.units + 64 < cLine) : OpR X (compareOp .GtE) (rGeP X.K) := by
  intro pins s σ H x y v u Q I rx ry h
  obtain ⟨a, b, i, j, i', j', rfl, rfl, ha, hb, q⟩ := h
  obtain ⟨as, r1⟩ := Dp.reads I (pairI i j) (.ref a) v (pairI_mk ha) rx
  obtain ⟨bs, r2⟩ := Dp.reads I (pairI i' j') (.ref b) u (pairI_mk hb) ry
  have d1 := pairI_depth i j
  refine PySem.W.ge_data r1 r2 rfl (fun z => by cases z) (by omega) ?_
  rw [show PySem.W.dataLt (pairI i j) (pairI i' j') = decide (i < i' ∨ (i = i' ∧ j < j')) from PySem.W.dataLt_ii i j i' j']
  exact ⟨.bl _, H, I, rfl, q⟩
theorem op_leP {X : Cx} (hu : X.A.units + 64 < cLine) : OpR X (compareOp .LtE) (rLeP X.K) := by
  intro pins s σ H x y v u Q I rx ry h
  obtain ⟨a, b, i, j, i', j', rfl, rfl, ha, hb, q⟩ := h
  obtain ⟨as, r1⟩ := Dp.reads I (pairI i j) (.ref a) v (pairI_mk ha) rx
  obtain ⟨bs, r2⟩ := Dp.reads I (pairI i' j') (.ref b) u (pairI_mk hb) ry
  have d1 := pairI_depth i j
  refine PySem.W.le_data r1 r2 rfl (fun z => by cases z) (by omega) ?_
  rw [show PySem.W.dataLt (pairI i' j') (pairI i j) = decide (i' < i ∨ (i' = i ∧ j' < j)) from PySem.W.dataLt_ii i' j' i j]
  exact ⟨.bl _, H, I, rfl, q⟩
/-- a list of ints is what it is -/
theorem ints_shaped (ns : List Int) : SeqAt.shaped (.list (ns.map PyData.int)) = true := by
  have h1 : ∀ ns : List Int, PyData.canLayAll0 (ns.map PyData.int) = true := fun ns => by
    induction ns with
    | nil => simp [PyData.canLayAll0]
    | cons n ns ih => simp [PyData.canLayAll0, PyData.canLay0, ih]
  have h2 : ∀ ns : List Int, PyData.depthAll (ns.map PyData.int) = 0 := fun ns => by
    induction ns with
    | nil => simp [PyData.depthAll]
    | cons n ns ih => simp [PyData.depthAll, PyData.depth, ih]
  show (PyData.canLay0 (.list (ns.map PyData.int)) && decide (PyData.depth (.list (ns.map PyData.int)) ≤ 64)) = true
  rw [Bool.and_eq_true]
  refine ⟨by simp only [PyData.canLay0]; exact h1 ns, decide_eq_true ?_⟩
  simp only [PyData.depth]
  rw [h2]
  decide
theorem lst_dp {K : PySem.W.Frag} {H : Hp} {a : Addr} {ns : List Int} (h : SqL K H a (ns.map V.int)) : Dp K H (.ref a) (.list (ns.map PyData.int)) := .lst h (dpAll_ints ns)
section
variable {P : Program} {w : World} {K : PySem.W.Frag} {mg : Str → Option Value} {base : Heap} {T : Tbls} {H : Hp} {a : Addr} {ns : List Int}
/-- is_told, of a web as webs are told -/
def spTold (T : Tbls) (K : PySem.W.Frag) : Sp := fun vs H Q _ => ∃ (v : V) (n : Nat) (es : List (Nat × Nat)), vs = [v] ∧ Dp K H v (webD n es) ∧ 1 ≤ n ∧ n ≤ 24 ∧ TW.WebOk n es ∧ ∀ H', Gw T H H' → Q (.bl true) H'
theorem ok_is_told (D : Dn K mg "is_told" sIsTold ["web"]) (B : NoB mg) (hM : ∃ t, mg "MOST_PLACES_laying" = some (.int 24 t)) : Has P w K mg base 1 "is_told" ["web"] (spTold T K) := by
  obtain ⟨f, fd, F, hm, hb⟩ := D.ex
  refine ⟨f, fd, ?_, hm, F.kp, hb⟩
  obtain ⟨t24, hM⟩ := hM
  refine F.ok scIsTold (fun vs H Q E h => ?_) (fun cdv A outer s H vs Q E hr h => ?_)
  · obtain ⟨v, n, es, rfl, _⟩ := h
    rfl
  · obtain ⟨v, n, es, rfl, hW, h1, h24, hok, q⟩ := h
    obtain ⟨wa, ta, xs, rfl, hwa, hta, hD⟩ := web_of hW
    refine ⟨_, pss_cons (ps_asg (pv 0) (pg_tup (by rfl) (pgs_cons (pg_name (i := 1) scIsTold.nd rfl (.inl rfl)) (pgs_cons (pg_name (i := 2) scIsTold.nd rfl (.inl rfl)) pgs_nil))))
      (pss_cons (ps_if (PW.pt (pw_or (pt_cmpR op_lt (pv 1) pe_int (nomark _)) (pw_or1 (pt_cmpR op_gt (pv 1) (pe_glob (v := .int 24) rfl hM ⟨_, rfl⟩) (nomark _))))) pss_never pss_nil)
      (pss_cons (ps_for PassesOwn.never rfl (pi_enumS (by rfl) B.enumerate (pa_cons (pv 2) pa_nil)) (pg_tup rfl (pgs_cons (pg_name (i := 3) scIsTold.nd rfl (.inl rfl)) (pgs_cons (pg_tup rfl (pgs_cons (pg_name (i := 4) scIsTold.nd rfl (.inl rfl)) (pgs_cons (pg_name (i := 5) scIsTold.nd rfl (.inl rfl)) pgs_nil))) pgs_nil)))
        (pss_cons (ps_if (PW.pt (pw_or (pt_cmpR op_lt (pv 4) pe_int (nomark _)) (pw_or (pt_cmpR op_ge (pv 4) (pv 5) (nomark _)) (pw_or1 (pt_cmpR op_ge (pv 5) (pv 1) (nomark _)))))) pss_never pss_nil)
        (pss_one (ps_if (PW.pt (pw_and (pt_cmpR op_gt (pv 3) pe_int (nomark _)) (pw_and1 (pt_cmpR (op_geP hr.units) (pe_ix ix_tup (pv 2) (pe_op op_sub (pv 3) pe_int) (fun _ _ => rfl)) (pe_tup (pa_cons (pv 4) (pa_cons (pv 5) pa_nil))) (nomark _))))) pss_never pss_nil))))
      (pss_one (ps_ret pe_bl)))), ?_⟩
    refine ⟨.ref wa, rfl, wa, _, rfl, hwa, rfl, _, _, rfl, _, _, rfl, rfl, ?_⟩
    refine ⟨natV n, rfl, _, _, rfl, rfl, _, rfl, ifF (by omega) ?_⟩
    refine ⟨natV n, rfl, _, _, rfl, rfl, _, rfl, ifF (by omega) ?_⟩
    have hlx : xs.length = es.length := by rw [dps_len hD, List.length_map]
    refine ⟨.ref ta, rfl, ta, xs, rfl, .inr ⟨hta, ?_⟩⟩
    refine for_it (walk_enumT (K := K) (a := ta) (xs := xs)) (fun i σ H3 => ∃ y3 y4 y5, σ = [some (.ref wa), some (natV n), some (.ref ta), y3, y4, y5] ∧ Gw T H H3) ⟨none, none, none, rfl, Gw.refl T H⟩ (fun i σ H3 _ hP => ?_) (fun i x σ H3 H' hi hP hy => ?_) (fun σ H3 hP => ?_)
    · obtain ⟨_, _, _, _, g⟩ := hP
      exact g.tup hta
    · obtain ⟨y3, y4, y5, rfl, g⟩ := hP
      rw [hlx] at hi
      obtain ⟨p, x1, x2, rfl, nP, rfl, e2, e3⟩ := hy
      have e2 := Option.some.inj e2
      have e3 : xs[i]? = some x2 := e3
      subst e2
      have g2 := g.to (o := .tup [natV i, x2]) nP
      obtain ⟨dd, e1, hd⟩ := dps_at (g2.dps hD) e3
      rw [List.getElem?_map, List.getElem?_eq_getElem hi] at e1
      have e1 := Option.some.inj e1
      subst e1
      obtain ⟨t, rfl, ht⟩ := tie_of hd
      have hf := hok.fit es[i] (List.getElem_mem hi)
      refine ⟨p, _, rfl, .inl (.inl upd_same), rfl, natV i, [.ref t], rfl, .ref t, [], rfl, t, _, rfl, ht, rfl, _, _, rfl, _, _, rfl, rfl, rfl, ?_⟩
      refine ⟨natV es[i].1, rfl, _, _, rfl, rfl, _, rfl, ifF (by omega) ?_⟩
      refine ⟨natV es[i].1, rfl, natV es[i].2, rfl, _, _, rfl, rfl, _, rfl, ifF (by omega) ?_⟩
      refine ⟨natV es[i].2, rfl, natV n, rfl, _, _, rfl, rfl, _, rfl, ifF (by omega) ?_⟩
      refine ⟨natV i, rfl, _, _, rfl, rfl, _, rfl, ?_⟩
      by_cases h0 : i = 0
      · refine ifF (by omega) ?_
        exact ⟨_, _, _, rfl, g2⟩
      · refine ifT (by omega) ?_
        have hi1 : i - 1 < es.length := by omega
        obtain ⟨v1, e4, hd1⟩ := dps_get (g2.dps hD) (i := i - 1) (d := tieD es[i - 1]) (by rw [List.getElem?_map, List.getElem?_eq_getElem hi1]; rfl)
        obtain ⟨t1, rfl, ht1⟩ := tie_of hd1
        have ei : (i : Int) - 1 = ((i - 1 : Nat) : Int) := by omega
        refine ⟨.ref ta, rfl, natV i, rfl, _, _, rfl, rfl, ta, xs, ((i - 1 : Nat) : Int), .ref t1, rfl, congrArg V.int ei, g2.tup hta, atI_nat e4, natV es[i].1, rfl, natV es[i].2, rfl, by show 2 ≤ sizeLine; decide, fun z nz => ?_⟩
        have g3 := g2.to (o := .tup [natV es[i].1, natV es[i].2]) nz
        have g4 : Gw T (upd H3 p (.tup [natV i, .ref t])) (upd (upd H3 p (.tup [natV i, .ref t])) z (.tup [natV es[i].1, natV es[i].2])) := Gw.new nz
        have hlt : TW.tlt es[i - 1] es[i] := List.pairwise_iff_getElem.mp hok.asc (i - 1) i hi1 hi (by omega)
        unfold TW.tlt at hlt
        refine ⟨t1, z, _, _, _, _, rfl, rfl, g4.tup ht1, .inl (.inl upd_same), _, rfl, ?_⟩
        rw [decide_eq_true (by omega)]
        refine iteF ?_
        exact ⟨_, _, _, rfl, g3⟩
    · obtain ⟨_, _, _, rfl, g⟩ := hP
      exact q H3 g
/-- is_web_of, of a web of the tally -/
def spIsW (T : Tbls) (K : PySem.W.Frag) : Sp := fun vs H Q _ => ∃ (a : Addr) (v : V) (ns : List Int) (es : List (Nat × Nat)), vs = [.ref a, v] ∧ SqI K H a ns ∧ Dp K H v (webD ns.length es) ∧ 1 ≤ ns.length ∧ ns.length ≤ 24 ∧ TW.WebOk ns.length es ∧ TW.tallyT ns.length es = ns ∧ ∀ H', Gw T H H' → Q (.bl true) H'
theorem ok_is_web_of (D : Dn K mg "is_web_of" sIsWebOf ["tally", "web"]) (B : NoB mg) (HT : Has P w K mg base 1 "is_told" ["web"] (spTold T K)) (HY : Has P w K mg base 1 "tally_of" ["web"] (spTal T K)) :
    Has P w K mg base 2 "is_web_of" ["tally", "web"] (spIsW T K) := by
  obtain ⟨f, fd, F, hm, hb⟩ := D.ex
  refine ⟨f, fd, ?_, hm, F.kp, hb⟩
  obtain ⟨f1, fd1, G1, m1, k1, b1⟩ := HT
  obtain ⟨f2, fd2, G2, m2, k2, b2⟩ := HY
  refine F.ok scIsWebOf (fun vs H Q E h => ?_) (fun cdv A outer s H vs Q E hr h => ?_)
  · obtain ⟨a, v, ns, es, rfl, _⟩ := h
    rfl
  · obtain ⟨a, v, ns, es, rfl, hS, hW, h1, h24, hok, ht, q⟩ := h
    refine ⟨_, pss_one (ps_ret (pe_and (pe_call G1 hr (by rfl) m1 k1 b1 .nil pass0 (pa_cons (pv 1) pa_nil))
      (pe_and (pe_cmpR op_eq (pe_ix ix_tup (pv 1) pe_int (fun _ _ => rfl)) (pe_callB call_len_seq (by rfl) B.len PySem.boot_len (pa_cons (pv 0) pa_nil)) (nomark _))
      (pe_one (pe_cmpR (op_eqD hr.units) (pe_call G2 hr (by rfl) m2 k2 b2 .nil pass0 (pa_cons (pv 1) pa_nil)) (pe_callTy call_list_of (by rfl) B.list (by decide +kernel) (pa_cons (pv 0) pa_nil)) (nomark _)))))), ?_⟩
    refine ⟨v, rfl, v, ns.length, es, rfl, hW, h1, h24, hok, fun H1 g1 => ⟨true, rfl, ?_⟩⟩
    obtain ⟨wa, ta, xs, rfl, hwa, hta, hD⟩ := web_of (g1.dp hW)
    have hl : SqL K H1 a (ns.map V.int) ∨ SqT K H1 a (ns.map V.int) := g1.sqi hS
    refine ⟨.ref wa, rfl, wa, _, 0, _, rfl, rfl, hwa, atI_nat (j := 0) rfl, .ref a, rfl, a, _, rfl, hl, rfl, true, ?_, ?_⟩
    · have e : decide (natV ns.length = V.int ((ns.map V.int).length : Int)) = true := decide_eq_true (by rw [List.length_map]; rfl)
      exact congrArg V.bl e
    refine ⟨.ref wa, rfl, .ref wa, ns.length, es, rfl, g1.dp hW, h24, fun p hp => by have := hok.fit p hp; omega, fun H2 l g2 n2 e2 => ?_⟩
    rw [ht] at e2
    have hl2 : SqL K H2 a (ns.map V.int) ∨ SqT K H2 a (ns.map V.int) := g2.sqi (g1.sqi hS)
    refine ⟨.ref a, rfl, a, _, rfl, hl2, fun l2 nl2 => ?_⟩
    have g3 : Gw T H2 (upd H2 l2 (.lst (ns.map V.int))) := Gw.new nl2
    refine ⟨.list (ns.map PyData.int), .list (ns.map PyData.int), lst_dp (.inl (.inl (g3.at e2))), lst_dp (.inl (.inl upd_same)), ints_shaped ns, ints_shaped ns, ?_⟩
    have e : PyData.eqv (.list (ns.map PyData.int)) (.list (ns.map PyData.int)) = true := SeqAt.eqv_refl _ (SeqAt.canLay_of_shaped (ints_shaped ns))
    have q' := q _ ((g1.trans g2).trans g3)
    rw [← e] at q'
    exact q'
/-- answer_shows, of an answer that is a web -/
def spAShow (T : Tbls) (K : PySem.W.Frag) : Sp := fun vs H Q _ => ∃ (a : Addr) (v : V) (ns : List Int) (es : List (Nat × Nat)), vs = [.ref a, v] ∧ SqI K H a ns ∧ Dp K H v (ansD ns.length es) ∧ 1 ≤ ns.length ∧ ns.length ≤ 24 ∧ Tabs T H ∧ TW.WebOk ns.length es ∧ TW.tallyT ns.length es = ns ∧ ∀ H', Gw T H H' → Q (.bl true) H'
theorem ans_of {v : V} {n : Nat} {es : List (Nat × Nat)} (h : Dp K H v (ansD n es)) : ∃ b u, v = .ref b ∧ SqT K H b [.str "web", u] ∧ Dp K H u (webD n es) := by
  unfold ansD at h
  cases h with
  | tup hs ha =>
    cases ha with
    | cons h1 t =>
      cases t with
      | cons h2 t2 =>
        cases t2
        cases h1
        exact ⟨_, _, rfl, hs, h2⟩
theorem ok_answer_shows (D : Dn K mg "answer_shows" sAnswerShows ["tally", "told"]) (HO : Has P w K mg base 2 "order_of" ["tally"] (spOrd T K)) (HI : Has P w K mg base 2 "is_web_of" ["tally", "web"] (spIsW T K)) :
    Has P w K mg base 3 "answer_shows" ["tally", "told"] (spAShow T K) := by
  obtain ⟨f, fd, F, hm, hb⟩ := D.ex
  refine ⟨f, fd, ?_, hm, F.kp, hb⟩
  obtain ⟨f1, fd1, G1, m1, k1, b1⟩ := HO
  obtain ⟨f2, fd2, G2, m2, k2, b2⟩ := HI
  refine F.ok scAnswerShows (fun vs H Q E h => ?_) (fun cdv A outer s H vs Q E hr h => ?_)
  · obtain ⟨a, v, ns, es, rfl, _⟩ := h
    rfl
  · obtain ⟨a, v, ns, es, rfl, hS, hW, h1, h24, hT, hok, ht, q⟩ := h
    refine ⟨_, pss_cons (ps_expr (pe_call G1 hr (by rfl) m1 k1 b1 .nil pass0 (pa_cons (pv 0) pa_nil)))
      (pss_cons (ps_if (pt_cmpR op_eq (pe_ix ix_tup (pv 1) pe_int (fun _ _ => rfl)) pe_str (nomark _)) pss_never pss_nil)
      (pss_one (ps_ret (pe_call G2 hr (by rfl) m2 k2 b2 .nil pass0 (pa_cons (pv 0) (pa_cons (pe_ix ix_tup (pv 1) pe_int (fun _ _ => rfl)) pa_nil)))))), ?_⟩
    refine ⟨.ref a, rfl, a, ns, rfl, hS, h1, h24, hT, fun H1 p g1 n1 e1 => ?_⟩
    obtain ⟨b, u, rfl, hb2, hu⟩ := ans_of (g1.dp hW)
    refine ⟨.ref b, rfl, b, _, 0, _, rfl, rfl, hb2, atI_nat (j := 0) rfl, rfl, _, rfl, ifF (by decide) ?_⟩
    refine ⟨.ref a, rfl, .ref b, rfl, b, _, 1, _, rfl, rfl, hb2, atI_nat (j := 1) rfl, a, u, ns, es, rfl, g1.sqi hS, hu, h1, h24, hok, ht, fun H2 g2 => q H2 (g1.trans g2)⟩
/-- look_at_webs, look_at_pair: of what they let pass -/
def spLAW (T : Tbls) (K : PySem.W.Frag) : Sp := fun vs H Q _ => ∃ (a : Addr) (ns : List Int), vs = [.ref a] ∧ SqI K H a ns ∧ 1 ≤ ns.length ∧ ns.length ≤ 24 ∧ Tabs T H ∧ TW.wallOf ns = none ∧ ∀ H', Gw T H H' → Q .non H'
theorem ok_look_at_webs (D : Dn K mg "look_at_webs" sLookAtWebs ["tally"]) (HL : Has P w K mg base 1 "look_at_tally" ["tally"] (spLAT K)) (HW : Has P w K mg base 4 "wall_of" ["tally"] (spWall T K)) :
    Has P w K mg base 5 "look_at_webs" ["tally"] (spLAW T K) := by
  obtain ⟨f, fd, F, hm, hb⟩ := D.ex
  refine ⟨f, fd, ?_, hm, F.kp, hb⟩
  obtain ⟨f1, fd1, G1, m1, k1, b1⟩ := HL
  obtain ⟨f2, fd2, G2, m2, k2, b2⟩ := HW
  refine F.ok scLookAtWebs (fun vs H Q E h => ?_) (fun cdv A outer s H vs Q E hr h => ?_)
  · obtain ⟨a, ns, rfl, _⟩ := h
    rfl
  · obtain ⟨a, ns, rfl, hS, h1, h24, hT, hw, q⟩ := h
    refine ⟨_, pss_cons (ps_expr (pe_call G1 (hr.mono (by decide)) (by rfl) m1 k1 b1 .nil pass0 (pa_cons (pv 0) pa_nil)))
      (pss_one (ps_if (pt_cmpR op_notN (pe_call G2 hr (by rfl) m2 k2 b2 .nil pass0 (pa_cons (pv 0) pa_nil)) pe_non (nomark _)) pss_never pss_nil)), ?_⟩
    refine ⟨.ref a, rfl, a, ns, rfl, hS, h1, h24, ?_⟩
    refine ⟨.ref a, rfl, a, ns, rfl, hS, h1, h24, hT, fun H1 v g1 hv => ?_⟩
    rw [hw] at hv
    have ev : v = .non := by
      unfold wallD at hv
      cases hv
      rfl
    subst ev
    exact ⟨rfl, _, rfl, q H1 g1⟩
def spLPair (T : Tbls) (K : PySem.W.Frag) : Sp := fun vs H Q _ => ∃ (a : Addr) (ns : List Int) (i j : Nat), vs = [.ref a, natV i, natV j] ∧ SqI K H a ns ∧ 1 ≤ ns.length ∧ ns.length ≤ 24 ∧ Tabs T H ∧ TW.wallOf ns = none ∧ i < ns.length ∧ j < ns.length ∧ i ≠ j ∧ ∀ H', Gw T H H' → Q .non H'
theorem ok_look_at_pair (D : Dn K mg "look_at_pair" sLookAtPair ["tally", "one", "other"]) (B : NoB mg) (HL : Has P w K mg base 5 "look_at_webs" ["tally"] (spLAW T K)) (HP : Has P w K mg base 1 "look_at_place" ["many", "place"] spLAP) :
    Has P w K mg base 6 "look_at_pair" ["tally", "one", "other"] (spLPair T K) := by
  obtain ⟨f, fd, F, hm, hb⟩ := D.ex
  refine ⟨f, fd, ?_, hm, F.kp, hb⟩
  obtain ⟨f1, fd1, G1, m1, k1, b1⟩ := HL
  obtain ⟨f2, fd2, G2, m2, k2, b2⟩ := HP
  refine F.ok scLookAtPair (fun vs H Q E h => ?_) (fun cdv A outer s H vs Q E hr h => ?_)
  · obtain ⟨a, ns, i, j, rfl, _⟩ := h
    rfl
  · obtain ⟨a, ns, i, j, rfl, hS, h1, h24, hT, hw, hi, hj, hij, q⟩ := h
    refine ⟨_, pss_cons (ps_expr (pe_call G1 hr (by rfl) m1 k1 b1 .nil pass0 (pa_cons (pv 0) pa_nil)))
      (pss_cons (ps_expr (pe_call G2 (hr.mono (by decide)) (by rfl) m2 k2 b2 .nil pass0 (pa_cons (pe_callB call_len_seq (by rfl) B.len PySem.boot_len (pa_cons (pv 0) pa_nil)) (pa_cons (pv 1) pa_nil))))
      (pss_cons (ps_expr (pe_call G2 (hr.mono (by decide)) (by rfl) m2 k2 b2 .nil pass0 (pa_cons (pe_callB call_len_seq (by rfl) B.len PySem.boot_len (pa_cons (pv 0) pa_nil)) (pa_cons (pv 2) pa_nil))))
      (pss_one (ps_if (pt_cmpR op_eq (pv 1) (pv 2) (nomark _)) pss_never pss_nil)))), ?_⟩
    refine ⟨.ref a, rfl, a, ns, rfl, hS, h1, h24, hT, hw, fun H1 g1 => ?_⟩
    have hl : SqL K H1 a (ns.map V.int) ∨ SqT K H1 a (ns.map V.int) := g1.sqi hS
    refine ⟨.ref a, rfl, a, _, rfl, hl, natV i, rfl, ns.length, i, by rw [List.length_map]; rfl, hi, ?_⟩
    refine ⟨.ref a, rfl, a, _, rfl, hl, natV j, rfl, ns.length, j, by rw [List.length_map]; rfl, hj, ?_⟩
    refine ⟨natV i, rfl, natV j, rfl, rfl, _, rfl, ifF (fun e => ?_) (q H1 g1)⟩
    have := V.int.inj e
    omega
end
end TWR
set_option Elab.async false
set_option linter.all false
set_option maxRecDepth 100000
set_option maxHeartbeats 4000000
namespace TWR
open PySem PySem.Spec PyProof.Rows L2 LamX
theorem oth_snoc (k i : Nat) : TW.oth (k + 1) i = TW.oth k i ++ if k = i then [] else [k] := by
  unfold TW.oth
  rw [List.range_succ, List.filter_append]
  congr 1
  by_cases h : k = i
  · rw [if_pos h]
    simp [h]
  · rw [if_neg h]
    simp [h]
theorem oth_le (n i : Nat) : (TW.oth n i).length ≤ n := by
  unfold TW.oth
  have := List.length_filter_le (fun o => decide (o ≠ i)) (List.range n)
  rw [List.length_range] at this
  exact this
theorem inV_nat (o : Nat) (near : List Nat) : inV (natV o) (near.map natV) = decide (o ∈ near) := by
  unfold inV
  rw [List.any_map]
  induction near with
  | nil => rfl
  | cons x l ih =>
    rw [List.any_cons, ih]
    have : ((fun y => eqV y (natV o)) ∘ natV) x = decide (x = o) := by
      show ((x : Int) == (o : Int)) = decide (x = o)
      by_cases h : x = o
      · rw [h, decide_eq_true rfl]; exact beq_self_eq_true _
      · rw [decide_eq_false h, beq_eq_false_iff_ne]
        omega
    rw [this]
    by_cases h1 : x = o
    · simp [h1]
    · have : ¬ o = x := fun z => h1 z.symm
      simp [h1, this]
theorem flat_nats (near : List Nat) : (near.map natV).all flatV = true := by
  rw [List.all_eq_true]
  intro x hx
  obtain ⟨y, _, rfl⟩ := List.mem_map.mp hx
  rfl
theorem nodup_lt {l : List Nat} {n : Nat} (h : l.Nodup) (hl : ∀ x ∈ l, x < n) : l.length ≤ n := by
  have e := TW.sg_mem h hl
  have e1 := TW.sg_mono (n := n) (f := fun x => TW.b2 (decide (x ∈ l))) (g := fun _ => 1) fun i _ => TW.b2_le _
  rw [TW.sg_const, e] at e1
  omega
theorem resid_take (t : List Int) (i k : Nat) (near : List Nat) (h : k < (TW.oth t.length i).length) : (TW.resid t i near).take (k + 1) = (TW.resid t i near).take k ++ [TW.tv t (TW.oth t.length i)[k] - if (TW.oth t.length i)[k] ∈ near then 1 else 0] := by
  unfold TW.resid
  rw [List.take_add_one, List.getElem?_map, List.getElem?_eq_getElem h]
  rfl
section
variable {P : Program} {w : World} {K : PySem.W.Frag} {mg : Str → Option Value} {base : Heap} {T : Tbls} {H : Hp} {a : Addr} {ns : List Int}
def spWebBy (T : Tbls) (K : PySem.W.Frag) : Sp := fun vs H Q _ => ∃ (a b : Addr) (ns : List Int) (i : Nat) (near : List Nat), vs = [.ref a, natV i, .ref b] ∧ SqI K H a ns ∧ 2 ≤ ns.length ∧ ns.length ≤ 24 ∧ SqL K H b (near.map natV) ∧ TW.NearOk ns i near ∧ Tabs T H ∧
  ∀ H' v, Gw T H H' → Dp K H' v (webD ns.length (TW.webBy ns i near)) → Q v H'
theorem ok_web_by (D : Dn K mg "web_by" sWebBy ["tally", "place", "near"]) (B : NoB mg) (HA : Has P w K mg base 5 "answered" ["tally"] (spAns T K)) (HM : Has P w K mg base 2 "made" ["places", "ties"] (spMade T K)) :
    Has P w K mg base 6 "web_by" ["tally", "place", "near"] (spWebBy T K) := by
  obtain ⟨f, fd, F, hm, hb⟩ := D.ex
  refine ⟨f, fd, ?_, hm, F.kp, hb⟩
  obtain ⟨f1, fd1, G1, m1, k1, b1⟩ := HA
  obtain ⟨f2, fd2, G2, m2, k2, b2⟩ := HM
  refine F.ok scWebBy (fun vs H Q E h => ?_) (fun cdv A outer s H vs Q E hr h => ?_)
  · obtain ⟨a, b, ns, i, near, rfl, _⟩ := h
    rfl
  · obtain ⟨a, b, ns, i, near, rfl, hS, h2, h24, hN, hok, hT, q⟩ := h
    refine ⟨_, pss_cons (ps_set (i := 3) scWebBy.nd rfl (.inr rfl)
        (pe_lc (own := [("other", 6)]) (g := gName 6) rfl scWebBy.nd (pi_range1 (by rfl) B.range (pa_cons (pe_callB call_len_seq (by rfl) B.len PySem.boot_len (pa_cons (pv 0) pa_nil)) pa_nil))
          (blkOk_by (own := [("other", 6)]) (N := ["tally", "place", "near", "others", "found", "ties", "other", "one"]) (sc := defScope sWebBy) (by decide +kernel)) (fun _ _ _ _ _ => pg_name (i := 6) scWebBy.nd rfl (Or.inl rfl)) (fun _ _ _ _ _ => pts_one (pt_cmpR op_ne (pv 6) (pv 1) (nomark _))) (fun _ _ _ _ _ => pv 6)))
      (pss_cons (ps_set (i := 4) scWebBy.nd rfl (.inl rfl) (pe_ix ix_tup (pe_call G1 hr (by rfl) m1 k1 b1 .nil pass0 (pa_cons
        (pe_lc (own := [("other", 6)]) (g := gName 6) (tt := tYes) rfl scWebBy.nd (pi_list (pv 3))
          (blkOk_by (own := [("other", 6)]) (N := ["tally", "place", "near", "others", "found", "ties", "other", "one"]) (sc := defScope sWebBy) (by decide +kernel)) (fun _ _ _ _ _ => pg_name (i := 6) scWebBy.nd rfl (Or.inl rfl)) (fun _ _ _ _ _ => pts_nil)
          (fun _ _ _ _ _ => pe_op op_sub (pe_ix (r := rIx K) ix_seq (pv 0) (pv 6) (fun _ _ => rfl)) (pe_callTy call_int1 (by rfl) B.int (by decide +kernel) (pa_cons (pe_cmpR (r := rIn K false) op_in_seq (pv 6) (pv 2) (by with_unfolding_all rfl)) pa_nil)))) pa_nil)) pe_int (fun _ _ => rfl)))
      (pss_cons (ps_setLc (i := 5) (own := [("one", 7), ("other", 6)]) (g := gTup K 2 (gCons (gName 7) (gCons (gName 6) gNil))) (tt := tYes) rfl scWebBy.nd rfl rfl (sw_true rfl rfl rfl (by decide +kernel)) (pi_tup (pe_ix ix_tup (pv 4) pe_int (fun _ _ => rfl)))
          (blkOk_by (own := [("one", 7), ("other", 6)]) (N := ["tally", "place", "near", "others", "found", "ties", "other", "one"]) (sc := defScope sWebBy) (by decide +kernel)) (fun _ _ _ _ _ => pg_tup rfl (pgs_cons (pg_name (i := 7) scWebBy.nd rfl (Or.inl rfl)) (pgs_cons (pg_name (i := 6) scWebBy.nd rfl (Or.inl rfl)) pgs_nil))) (fun _ _ _ _ _ => pts_nil)
          (fun _ _ _ _ _ => pe_tup (pa_cons (pe_ix (r := rIx K) ix_seq (pv 3) (pv 7) (fun _ _ => rfl)) (pa_cons (pe_ix (r := rIx K) ix_seq (pv 3) (pv 6) (fun _ _ => rfl)) pa_nil))))
      (pss_one (ps_ret (pe_call G2 (hr.mono (by decide)) (by rfl) m2 k2 b2 .nil pass0 (pa_cons (pe_callB call_len_seq (by rfl) B.len PySem.boot_len (pa_cons (pv 0) pa_nil)) (pa_cons (pe_op op_cat (pv 5)
        (pe_lc (own := [("other", 6)]) (g := gName 6) (tt := tYes) rfl scWebBy.nd (pi_list (pv 2))
          (blkOk_by (own := [("other", 6)]) (N := ["tally", "place", "near", "others", "found", "ties", "other", "one"]) (sc := defScope sWebBy) (by decide +kernel)) (fun _ _ _ _ _ => pg_name (i := 6) scWebBy.nd rfl (Or.inl rfl)) (fun _ _ _ _ _ => pts_nil)
          (fun _ _ _ _ _ => pe_tup (pa_cons (pv 1) (pa_cons (pv 6) pa_nil))))) pa_nil))))))), ?_⟩
    have hl : SqL K H a (ns.map V.int) ∨ SqT K H a (ns.map V.int) := hS
    have el : ((ns.map V.int).length : Int) = ns.length := by rw [List.length_map]
    have hi := hok.hi
    have hol := TW.oth_length hi
    have hnl : near.length ≤ 24 := Nat.le_trans (nodup_lt hok.nd fun x hx => (hok.lt x hx).1) h24
    refine ⟨.ref a, rfl, a, _, rfl, hl, _, rfl, by omega, by omega, ?_⟩
    rw [List.length_map, Int.toNat_natCast]
    intro d1 nd1
    refine lc_range (lo := 0) (n := ns.length) (fun k H3 => H3 = upd H d1 (.lst ((TW.oth k i).map natV))) rfl (fun k H3 hk hP => ?_) (fun H3 hP => ?_)
    · subst hP
      have e0 : V.int (0 + (k : Int)) = natV k := congrArg V.int (by omega)
      rw [e0]
      refine ⟨rfl, natV k, rfl, natV i, rfl, rfl, _, rfl, ?_⟩
      rw [oth_snoc]
      by_cases c : k = i
      · rw [c, if_pos rfl, List.append_nil]
        rw [show (!decide (natV i = natV i)) = false by rw [decide_eq_true rfl]; rfl]
        rfl
      · rw [if_neg c]
        have e1 : natV k ≠ natV i := fun z => by
          have := V.int.inj z
          omega
        rw [show (!decide (natV k = natV i)) = true by rw [decide_eq_false e1]; rfl]
        refine ⟨natV k, rfl, _, upd_same, ?_, ?_⟩
        · refine small1000 ?_
          rw [List.length_map]
          have := oth_le k i
          omega
        · rw [upd_upd, List.map_append]
          rfl
    subst hP
    have g1 : Gw T H (upd H d1 (.lst ((TW.oth ns.length i).map natV))) := Gw.new nd1
    have hO1 : upd H d1 (.lst ((TW.oth ns.length i).map natV)) d1 = some (.lst ((TW.oth ns.length i).map natV)) := upd_same
    generalize upd H d1 (.lst ((TW.oth ns.length i).map natV)) = H1 at *
    refine ⟨.ref d1, rfl, d1, rfl, ⟨_, .inl (.inl hO1)⟩, fun d2 nd2 => ?_⟩
    refine lc_list (xs := (TW.oth ns.length i).map natV) (fun k H3 => H3 = upd H1 d2 (.lst (((TW.resid ns i near).take k).map V.int))) rfl (fun k H3 _ hP => ?_) (fun k x H3 hx hP => ?_) (fun H3 hP => ?_)
    · subst hP
      exact .inl (.inl (by rw [upd_ne (ne_of_none hO1 nd2)]; exact hO1))
    · subst hP
      have hk : k < (TW.oth ns.length i).length := by
        have := (List.getElem?_eq_some_iff.mp hx).1
        rw [List.length_map] at this
        exact this
      rw [List.getElem?_map, List.getElem?_eq_getElem hk] at hx
      have hx := Option.some.inj hx
      subst hx
      have hlt : (TW.oth ns.length i)[k] < ns.length := by
        have := List.getElem_mem hk
        unfold TW.oth at this
        rw [List.mem_filter, List.mem_range] at this
        exact this.1
      have g2 := g1.to (o := .lst (((TW.resid ns i near).take k).map V.int)) nd2
      refine ⟨rfl, .ref a, rfl, natV (TW.oth ns.length i)[k], rfl, ix_of (g2.sqi hS) hlt ⟨natV (TW.oth ns.length i)[k], rfl, .ref b, rfl, b, near.map natV, rfl, .inl (g2.seq hN), rfl, flat_nats near, .inr ⟨_, rfl, _, _, rfl, rfl, _, upd_same, ?_, ?_⟩⟩⟩
      · refine small1000 ?_
        rw [List.length_map, List.length_take]
        omega
      · rw [upd_upd, resid_take _ _ _ _ hk, List.map_append]
        congr 3
        show [V.int (TW.tv ns (TW.oth ns.length i)[k] - if inV (natV (TW.oth ns.length i)[k]) (near.map natV) = true then 1 else 0)] = [V.int _]
        rw [inV_nat]
        congr 2
        by_cases c : (TW.oth ns.length i)[k] ∈ near
        · simp [c]
        · simp [c]
    rw [List.length_map, List.take_of_length_le (by rw [TW.resid_length hi, hol]; exact Nat.le_refl _)] at hP
    subst hP
    have g2 := g1.to (o := .lst ((TW.resid ns i near).map V.int)) nd2
    have hO2 : upd H1 d2 (.lst ((TW.resid ns i near).map V.int)) d1 = some (.lst ((TW.oth ns.length i).map natV)) := by rw [upd_ne (ne_of_none hO1 nd2)]; exact hO1
    have hR2 : upd H1 d2 (.lst ((TW.resid ns i near).map V.int)) d2 = some (.lst ((TW.resid ns i near).map V.int)) := upd_same
    generalize upd H1 d2 (.lst ((TW.resid ns i near).map V.int)) = H2 at *
    have hrl := TW.resid_length (near := near) hi
    refine ⟨d2, TW.resid ns i near, rfl, .inl (.inl (.inl hR2)), by omega, by omega, g2.tab hT, TW.resid_none hok, fun H4 v g4' hv => ?_⟩
    have g4 := g2.trans g4'
    have hO4 := g4'.at hO2
    obtain ⟨b2, u, rfl, hb2, hu⟩ := ans_of hv
    refine ⟨b2, _, 1, _, rfl, rfl, hb2, atI_nat (j := 1) rfl, ?_⟩
    rw [hrl] at hu
    obtain ⟨wa, ta, xs, rfl, hwa, hta, hD⟩ := web_of hu
    have hE := TW.resid_laid hok
    have hEl : (TW.madeT (TW.laidTies (TW.resid ns i near))).length ≤ 600 := by
      have e1 := laidAt_len (TW.resid ns i near) (TW.resid ns i near).length
      have e3 : (TW.resid ns i near).length * (TW.resid ns i near).length ≤ 24 * 24 := Nat.mul_le_mul (by omega) (by omega)
      unfold TW.madeT
      rw [(TW.srt_perm _).length_eq, List.length_map]
      unfold TW.laidTies
      omega
    have hgood := TW.webByE_good hok
    have hq : ∀ H' v, Gw T H H' → Dp K H' v (webD ns.length (TW.madeT (TW.webByE ns i near))) → Q v H' := q
    have hWE : TW.webByE ns i near = (TW.madeT (TW.laidTies (TW.resid ns i near))).map (fun p => ((TW.oth ns.length i).getD p.1 0, (TW.oth ns.length i).getD p.2 0)) ++ near.map fun o => (i, o) := rfl
    generalize TW.madeT (TW.laidTies (TW.resid ns i near)) = E at hWE hD hE hEl
    have hlx : xs.length = E.length := by rw [dps_len hD, List.length_map]
    refine ⟨.ref wa, rfl, wa, _, 1, _, rfl, rfl, hwa, atI_nat (j := 1) rfl, ta, rfl, ⟨xs, hta⟩, fun d3 nd3 => ?_⟩
    refine lc_tup (xs := xs) (fun k H5 => ∃ acc, H5 d3 = some (.lst acc) ∧ Gw T H4 H5 ∧ acc.length = k ∧ Paired (Rf H5) acc ((E.map fun p => ((TW.oth ns.length i).getD p.1 0, (TW.oth ns.length i).getD p.2 0)).take k)) ⟨[], upd_same, Gw.new nd3, rfl, .nil⟩ (fun k H5 _ hP => ?_) (fun k x H5 hx hP => ?_) (fun H5 hP => ?_)
    · obtain ⟨_, _, g5, _⟩ := hP
      exact g5.tup hta
    · obtain ⟨acc, e3, g5, eA, hR⟩ := hP
      have hk : k < E.length := by rw [← hlx]; exact (List.getElem?_eq_some_iff.mp hx).1
      obtain ⟨dd, e1, hd⟩ := dps_at (g5.dps hD) hx
      rw [List.getElem?_map, List.getElem?_eq_getElem hk] at e1
      have e1 := Option.some.inj e1
      subst e1
      obtain ⟨t, rfl, ht⟩ := tie_of hd
      have hf := hE.fit E[k] (List.getElem_mem hk)
      have hat : ∀ r, r < ns.length - 1 → ((TW.oth ns.length i).map natV)[r]? = some (natV ((TW.oth ns.length i).getD r 0)) := fun r hr => by
        rw [List.getElem?_map, List.getD_eq_getElem?_getD, List.getElem?_eq_getElem (by omega)]
        rfl
      have hO5 : SqL K H5 d1 ((TW.oth ns.length i).map natV) := .inl (.inl (g5.at hO4))
      refine ⟨t, _, rfl, ht, rfl, _, _, rfl, _, _, rfl, rfl, rfl, ?_⟩
      refine ⟨.ref d1, rfl, natV E[k].1, rfl, .inl ⟨d1, _, _, _, rfl, rfl, hO5, atI_nat (hat _ (by omega)), .ref d1, rfl, natV E[k].2, rfl, .inl ⟨d1, _, _, _, rfl, rfl, hO5, atI_nat (hat _ hf.2), by show 2 ≤ sizeLine; decide, fun z nz => ?_⟩⟩⟩
      have e4 : upd H5 z (.tup [natV ((TW.oth ns.length i).getD E[k].1 0), natV ((TW.oth ns.length i).getD E[k].2 0)]) d3 = some (.lst acc) := by rw [upd_ne (ne_of_none e3 nz)]; exact e3
      have g6 := g5.to (o := .tup [natV ((TW.oth ns.length i).getD E[k].1 0), natV ((TW.oth ns.length i).getD E[k].2 0)]) nz
      refine ⟨acc, e4, small1000 (by omega), acc ++ [.ref z], upd_same, g6.mut (New.none nd3) e4 (.inl ⟨_, rfl⟩), by rw [List.length_append, eA]; rfl, ?_⟩
      rw [List.take_add_one, List.getElem?_map, List.getElem?_eq_getElem hk]
      refine Paired.snoc (Paired.mapP hR fun x q r => Rf.mut e4 (Rf.new nz r)) ⟨z, rfl, ?_⟩
      rw [upd_ne (ne_of_none e3 nz).symm]
      exact upd_same
    obtain ⟨acc, e3, g5, eA, hR⟩ := hP
    rw [hlx, List.take_of_length_le (by rw [List.length_map]; exact Nat.le_refl _)] at hR
    have g45 := g4.trans g5
    have hl5 : SqL K H5 a (ns.map V.int) ∨ SqT K H5 a (ns.map V.int) := g45.sqi hS
    have hN5 := g45.seq hN
    refine ⟨.ref a, rfl, a, _, rfl, hl5, .ref d3, rfl, .ref b, rfl, b, rfl, ⟨_, hN5⟩, fun d4 nd4 => ?_⟩
    refine lc_list (xs := near.map natV) (fun k H6 => ∃ acc, H6 d4 = some (.lst acc) ∧ Gw T H5 H6 ∧ acc.length = k ∧ Paired (Rf H6) acc ((near.map fun o => (i, o)).take k)) ⟨[], upd_same, Gw.new nd4, rfl, .nil⟩ (fun k H6 _ hP => ?_) (fun k x H6 hx hP => ?_) (fun H6 hP => ?_)
    · obtain ⟨_, _, g6, _⟩ := hP
      exact g6.seq hN5
    · obtain ⟨acc6, e6, g6, eA6, hR6⟩ := hP
      have hk : k < near.length := by
        have := (List.getElem?_eq_some_iff.mp hx).1
        rw [List.length_map] at this
        exact this
      rw [List.getElem?_map, List.getElem?_eq_getElem hk] at hx
      have hx := Option.some.inj hx
      subst hx
      refine ⟨rfl, natV i, rfl, natV near[k], rfl, by show 2 ≤ sizeLine; decide, fun z nz => ?_⟩
      have e4 : upd H6 z (.tup [natV i, natV near[k]]) d4 = some (.lst acc6) := by rw [upd_ne (ne_of_none e6 nz)]; exact e6
      have g7 := g6.to (o := .tup [natV i, natV near[k]]) nz
      refine ⟨acc6, e4, small1000 (by omega), acc6 ++ [.ref z], upd_same, g7.mut (New.none nd4) e4 (.inl ⟨_, rfl⟩), by rw [List.length_append, eA6]; rfl, ?_⟩
      rw [List.take_add_one, List.getElem?_map, List.getElem?_eq_getElem hk]
      refine Paired.snoc (Paired.mapP hR6 fun x q r => Rf.mut e4 (Rf.new nz r)) ⟨z, rfl, ?_⟩
      rw [upd_ne (ne_of_none e6 nz).symm]
      exact upd_same
    obtain ⟨acc6, e6, g6, eA6, hR6⟩ := hP
    rw [List.length_map, List.take_of_length_le (by rw [List.length_map]; exact Nat.le_refl _)] at hR6
    rw [List.length_map] at eA6
    have e36 := g6.at e3
    have hlen : (acc ++ acc6).length ≤ 1000 := by rw [List.length_append]; omega
    refine ⟨d3, d4, acc, acc6, rfl, rfl, e36, e6, Nat.le_of_lt (by rw [← List.length_append]; exact small1000 hlen), fun d5 nd5 => ?_⟩
    have g7 : Gw T H6 (upd H6 d5 (.lst (acc ++ acc6))) := Gw.new nd5
    refine ⟨d5, ns.length, TW.webByE ns i near, acc ++ acc6, by rw [List.length_map]; rfl, by omega, h24, .inl (.inl upd_same), ?_, hgood, ?_, fun H' v g' hv => hq H' v (((g45.trans g6).trans g7).trans g') hv⟩
    · rw [hWE, List.map_append]
      exact g7.dps (dps_app (g6.dps (rfs_dps hR)) (rfs_dps hR6))
    · rw [hWE, List.length_append, List.length_map, List.length_map]
      omega
end
end TWR
set_option Elab.async false
set_option linter.all false
set_option maxRecDepth 100000
set_option maxHeartbeats 4000000
namespace TWR
open PySem PySem.Spec PyProof.Rows L2 LamX
def toldD (n : Nat) : TW.Told → PyData
  | .all wl => .tuple [.str "all", wallD (some wl)]
  | .none wl => .tuple [.str "none", wallD (some wl)]
  | .some x y => .tuple [.str "some", webD n x, webD n y]
theorem take_snoc {l : List Nat} {k : Nat} (h : k < l.length) : l.take (k + 1) = l.take k ++ [l[k]] := by
  rw [List.take_add_one, List.getElem?_eq_getElem h]
  rfl
theorem wall_ref {K : PySem.W.Frag} {H : Hp} {v : V} {wl : TW.Wall} (h : Dp K H v (wallD (some wl))) : ∃ b, v = .ref b := by
  cases wl <;> (unfold wallD at h; cases h; exact ⟨_, rfl⟩)
section
variable {P : Program} {w : World} {K : PySem.W.Frag} {mg : Str → Option Value} {base : Heap} {T : Tbls} {H : Hp} {a : Addr} {ns : List Int}
def spPT (T : Tbls) (K : PySem.W.Frag) : Sp := fun vs H Q _ => ∃ (a : Addr) (ns : List Int) (i j : Nat), vs = [.ref a, natV i, natV j] ∧ SqI K H a ns ∧ 2 ≤ ns.length ∧ ns.length ≤ 24 ∧ i < ns.length ∧ j < ns.length ∧ i ≠ j ∧ TW.wallOf ns = none ∧ Tabs T H ∧
  ∀ H' v, Gw T H H' → Dp K H' v (toldD ns.length (TW.toldOf ns i j)) → Q v H'
theorem ok_pair_told (D : Dn K mg "pair_told" sPairTold ["tally", "one", "other"]) (B : NoB mg) (HP : Has P w K mg base 6 "look_at_pair" ["tally", "one", "other"] (spLPair T K)) (HB : Has P w K mg base 3 "both_moved" ["tally", "one", "other", "more"] (spBoth T K))
    (HW : Has P w K mg base 4 "wall_of" ["tally"] (spWall T K)) (HO : Has P w K mg base 2 "order_of" ["tally"] (spOrd T K)) (HX : Has P w K mg base 6 "web_by" ["tally", "place", "near"] (spWebBy T K)) :
    Has P w K mg base 7 "pair_told" ["tally", "one", "other"] (spPT T K) := by
  obtain ⟨f, fd, F, hm, hb⟩ := D.ex
  refine ⟨f, fd, ?_, hm, F.kp, hb⟩
  obtain ⟨f1, fd1, G1, m1, k1, b1⟩ := HP
  obtain ⟨f2, fd2, G2, m2, k2, b2⟩ := HB
  obtain ⟨f3, fd3, G3, m3, k3, b3⟩ := HW
  obtain ⟨f4, fd4, G4, m4, k4, b4⟩ := HO
  obtain ⟨f5, fd5, G5, m5, k5, b5⟩ := HX
  refine F.ok scPairTold (fun vs H Q E h => ?_) (fun cdv A outer s H vs Q E hr h => ?_)
  · obtain ⟨a, ns, i, j, rfl, _⟩ := h
    rfl
  · obtain ⟨a, ns, i, j, rfl, hS, h2, h24, hi, hj, hij, hw, hT, q⟩ := h
    refine ⟨_, pss_cons (ps_expr (pe_call G1 hr (by rfl) m1 k1 b1 .nil pass0 (pa_cons (pv 0) (pa_cons (pv 1) (pa_cons (pv 2) pa_nil)))))
      (pss_cons (ps_set (i := 3) scPairTold.nd rfl (.inl rfl) (pe_call G3 (hr.mono (by decide)) (by rfl) m3 k3 b3 .nil pass0 (pa_cons (pe_call G2 (hr.mono (by decide)) (by rfl) m2 k2 b2 .nil pass0 (pa_cons (pv 0) (pa_cons (pv 1) (pa_cons (pv 2) (pa_cons pe_int pa_nil))))) pa_nil)))
      (pss_cons (ps_if (pt_cmpR op_notN (pv 3) pe_non (nomark _)) (pss_one (ps_ret (pe_tup (pa_cons pe_str (pa_cons (pv 3) pa_nil))))) pss_nil)
      (pss_cons (ps_set (i := 3) scPairTold.nd rfl (.inl rfl) (pe_call G3 (hr.mono (by decide)) (by rfl) m3 k3 b3 .nil pass0 (pa_cons (pe_call G2 (hr.mono (by decide)) (by rfl) m2 k2 b2 .nil pass0 (pa_cons (pv 0) (pa_cons (pv 1) (pa_cons (pv 2) (pa_cons (pe_un un_neg pe_int) pa_nil))))) pa_nil)))
      (pss_cons (ps_if (pt_cmpR op_notN (pv 3) pe_non (nomark _)) (pss_one (ps_ret (pe_tup (pa_cons pe_str (pa_cons (pv 3) pa_nil))))) pss_nil)
      (pss_cons (ps_setLc (i := 4) (own := [("place", 6)]) (g := gName 6) rfl scPairTold.nd rfl rfl (sw_true rfl rfl rfl (by decide +kernel)) (pi_list (pe_call G4 (hr.mono (by decide)) (by rfl) m4 k4 b4 .nil pass0 (pa_cons (pv 0) pa_nil)))
          (blkOk_by (own := [("place", 6)]) (N := ["tally", "one", "other", "wall", "rest", "with_it", "place"]) (sc := defScope sPairTold) (by decide +kernel)) (fun _ _ _ _ _ => pg_name (i := 6) scPairTold.nd rfl (Or.inl rfl))
          (fun _ _ _ _ _ => pts_one (PW.pt (pw_and (pt_cmpR op_ne (pv 6) (pv 1) (nomark _)) (pw_and1 (pt_cmpR op_ne (pv 6) (pv 2) (nomark _)))))) (fun _ _ _ _ _ => pv 6))
      (pss_cons (ps_set (i := 5) scPairTold.nd rfl (.inl rfl) (pe_call G5 hr (by rfl) m5 k5 b5 .nil pass0 (pa_cons (pv 0) (pa_cons (pv 1) (pa_cons (pe_op op_cat (pe_lst (pa_cons (pv 2) pa_nil)) (pe_slice sl_list (pv 4) po_none (po_some (pe_op op_sub (pe_ix ix_seq (pv 0) (pv 1) (fun _ _ => rfl)) pe_int)))) pa_nil)))))
      (pss_one (ps_ret (pe_tup (pa_cons pe_str (pa_cons (pv 5) (pa_cons (pe_call G5 hr (by rfl) m5 k5 b5 .nil pass0 (pa_cons (pv 0) (pa_cons (pv 1) (pa_cons (pe_slice sl_list (pv 4) po_none (po_some (pe_ix ix_seq (pv 0) (pv 1) (fun _ _ => rfl)))) pa_nil)))) pa_nil))))))))))))
      , ?_⟩
    have hl1 := TW.mv2_length ns i j 1
    have hl2 := TW.mv2_length ns i j (-1)
    refine ⟨.ref a, rfl, natV i, rfl, natV j, rfl, a, ns, i, j, rfl, hS, by omega, h24, hT, hw, hi, hj, hij, fun H1 g1 => ?_⟩
    refine ⟨.ref a, rfl, natV i, rfl, natV j, rfl, a, ns, i, j, 1, rfl, g1.sqi hS, by omega, h24, hi, hj, fun H2 p2 g2 n2 e2 => ?_⟩
    refine ⟨p2, TW.mv2 ns i j 1, rfl, .inl (.inl (.inl e2)), by omega, by omega, g2.tab (g1.tab hT), fun H3 v3 g3 hv3 => ?_⟩
    have g123 := (g1.trans g2).trans g3
    cases c1 : TW.wallOf (TW.mv2 ns i j 1) with
    | some wl =>
      rw [c1] at hv3
      obtain ⟨b, rfl⟩ := wall_ref hv3
      refine ⟨.ref b, rfl, rfl, _, rfl, ?_⟩
      refine iteT ?_
      refine ⟨.ref b, rfl, by show 2 ≤ sizeLine; decide, fun z nz => ?_⟩
      have g4 : Gw T H3 (upd H3 z (.tup [.str "all", .ref b])) := Gw.new nz
      have et : TW.toldOf ns i j = .all wl := by unfold TW.toldOf; rw [c1]
      refine q _ _ (g123.trans g4) ?_
      rw [et]
      exact .tup (.inl (.inl upd_same)) (.cons (.str _) (.cons (g4.dp hv3) .nil))
    | none =>
      rw [c1] at hv3
      have ev : v3 = .non := by
        unfold wallD at hv3
        cases hv3
        rfl
      subst ev
      refine ⟨.non, rfl, rfl, _, rfl, ?_⟩
      refine ⟨.ref a, rfl, natV i, rfl, natV j, rfl, _, rfl, a, ns, i, j, -1, rfl, g123.sqi hS, by omega, h24, hi, hj, fun H4 p4 g4 n4 e4 => ?_⟩
      refine ⟨p4, TW.mv2 ns i j (-1), rfl, .inl (.inl (.inl e4)), by omega, by omega, g4.tab (g123.tab hT), fun H5 v5 g5 hv5 => ?_⟩
      have gA := (g123.trans g4).trans g5
      cases c2 : TW.wallOf (TW.mv2 ns i j (-1)) with
      | some wl =>
        rw [c2] at hv5
        obtain ⟨b, rfl⟩ := wall_ref hv5
        refine ⟨.ref b, rfl, rfl, _, rfl, ?_⟩
        refine iteT ?_
        refine ⟨.ref b, rfl, by show 2 ≤ sizeLine; decide, fun z nz => ?_⟩
        have g6 : Gw T H5 (upd H5 z (.tup [.str "none", .ref b])) := Gw.new nz
        have et : TW.toldOf ns i j = .none wl := by unfold TW.toldOf; rw [c1]; dsimp only; rw [c2]
        refine q _ _ (gA.trans g6) ?_
        rw [et]
        exact .tup (.inl (.inl upd_same)) (.cons (.str _) (.cons (g6.dp hv5) .nil))
      | none =>
        rw [c2] at hv5
        have ev : v5 = .non := by
          unfold wallD at hv5
          cases hv5
          rfl
        subst ev
        have et : TW.toldOf ns i j = .some (TW.webBy ns i (TW.near1 ns i j)) (TW.webBy ns i (TW.near2 ns i j)) := by unfold TW.toldOf; rw [c1]; dsimp only; rw [c2]
        rw [et] at q
        have N2 := TW.some_without hi hj hij hw c1
        obtain ⟨N1, hpos⟩ := TW.some_with hi hj hij hw c2
        refine ⟨.non, rfl, rfl, _, rfl, ?_⟩
        refine ⟨.ref a, rfl, a, ns, rfl, gA.sqi hS, by omega, h24, gA.tab hT, fun H6 o g6 n6 e6 => ?_⟩
        have gB := gA.trans g6
        refine ⟨o, rfl, ⟨_, .inl (.inl e6)⟩, fun d nd => ?_⟩
        have hol : (TW.orderOf ns).length = ns.length := by rw [(TW.orderOf_perm ns).length_eq, List.length_range]
        refine lc_list (xs := (TW.orderOf ns).map natV) (fun k H7 => H7 = upd H6 d (.lst ((((TW.orderOf ns).take k).filter fun p => decide (p ≠ i ∧ p ≠ j)).map natV))) rfl (fun k H7 _ hP => ?_) (fun k x H7 hx hP => ?_) (fun H7 hP => ?_)
        · subst hP
          exact .inl (.inl (by rw [upd_ne (ne_of_none e6 nd)]; exact e6))
        · subst hP
          have hk : k < (TW.orderOf ns).length := by
            have := (List.getElem?_eq_some_iff.mp hx).1
            rw [List.length_map] at this
            exact this
          rw [List.getElem?_map, List.getElem?_eq_getElem hk] at hx
          have hx := Option.some.inj hx
          subst hx
          rw [take_snoc hk, List.filter_append, List.map_append]
          have hfl : ((((TW.orderOf ns).take k).filter fun p => decide (p ≠ i ∧ p ≠ j)).map natV).length ≤ 1000 := by
            rw [List.length_map]
            have e1 := List.length_filter_le (fun p => decide (p ≠ i ∧ p ≠ j)) ((TW.orderOf ns).take k)
            rw [List.length_take] at e1
            omega
          generalize (TW.orderOf ns)[k] = o1 at *
          have hne : ∀ i : Nat, (!decide (natV o1 = natV i)) = decide (o1 ≠ i) := fun i => by
            by_cases c : o1 = i
            · rw [c]; simp
            · have : natV o1 ≠ natV i := fun z => c (by have := V.int.inj z; omega)
              simp [c, this]
          refine ⟨rfl, natV o1, rfl, natV i, rfl, rfl, _, rfl, ?_⟩
          rw [hne i]
          by_cases d1 : o1 = i
          · rw [decide_eq_false (fun z => z d1)]
            refine iteF (iteF ?_)
            rw [List.filter_cons_of_neg (by simp [d1]), List.filter_nil, List.map_nil, List.append_nil]
          · rw [decide_eq_true d1]
            refine iteT ?_
            refine ⟨natV o1, rfl, natV j, rfl, rfl, _, rfl, ?_⟩
            rw [hne j]
            by_cases d2 : o1 = j
            · rw [decide_eq_false (fun z => z d2)]
              refine iteF ?_
              rw [List.filter_cons_of_neg (by simp [d2]), List.filter_nil, List.map_nil, List.append_nil]
            · rw [decide_eq_true d2]
              refine iteT ?_
              refine ⟨natV o1, rfl, _, upd_same, small1000 hfl, ?_⟩
              rw [upd_upd, List.filter_cons_of_pos (by simp [d1, d2]), List.filter_nil]
              rfl
        rw [List.length_map, List.take_length] at hP
        have hP : H7 = upd H6 d (.lst ((TW.restOf ns i j).map natV)) := hP
        have g7 : Gw T H6 H7 := by rw [hP]; exact Gw.new nd
        have eR : H7 d = some (.lst ((TW.restOf ns i j).map natV)) := by rw [hP]; exact upd_same
        clear hP
        have gC := gB.trans g7
        have er : ((TW.tv ns i - 1).toNat : Int) = TW.tv ns i - 1 := by omega
        refine ⟨.ref a, rfl, natV i, rfl, natV j, rfl, by show 1 ≤ sizeLine; decide, fun b1 nb1 => ?_⟩
        have gD := gC.to (o := .lst [natV j]) nb1
        have eR1 : upd H7 b1 (.lst [natV j]) d = some (.lst ((TW.restOf ns i j).map natV)) := by rw [upd_ne (ne_of_none eR nb1)]; exact eR
        refine ⟨.ref d, rfl, .ref a, rfl, natV i, rfl, ix_of (gD.sqi hS) hi ⟨_, _, rfl, rfl, _, rfl, d, _, rfl, .inl (.inl eR1), fun b2 nb2 => ?_⟩⟩
        rw [← er, cut_take, ← List.map_take]
        have gE := gD.to (o := .lst (((TW.restOf ns i j).take (TW.tv ns i - 1).toNat).map natV)) nb2
        have hrl : (TW.restOf ns i j).length ≤ 24 := Nat.le_trans (nodup_lt (TW.rest_nodup ns i j) fun x hx => (TW.rest_mem.mp hx).1) h24
        refine ⟨b1, b2, [natV j], ((TW.restOf ns i j).take (TW.tv ns i - 1).toNat).map natV, rfl, rfl, by rw [upd_ne (ne_of_none upd_same nb2)]; exact upd_same, upd_same, ?_, fun b3 nb3 => ?_⟩
        · refine Nat.le_of_lt (small1000 ?_)
          rw [List.length_map, List.length_take]
          show 1 + _ ≤ 1000
          omega
        have gF := gE.to (o := .lst ([natV j] ++ ((TW.restOf ns i j).take (TW.tv ns i - 1).toNat).map natV)) nb3
        have eR3 := (((Gw.new (T := T) nb1).to nb2).to (o := .lst ([natV j] ++ ((TW.restOf ns i j).take (TW.tv ns i - 1).toNat).map natV)) nb3).at eR
        have eN : upd (upd (upd H7 b1 (.lst [natV j])) b2 (.lst (((TW.restOf ns i j).take (TW.tv ns i - 1).toNat).map natV))) b3 (.lst ([natV j] ++ ((TW.restOf ns i j).take (TW.tv ns i - 1).toNat).map natV)) b3 = some (.lst ((TW.near1 ns i j).map natV)) := upd_same
        refine ⟨a, b3, ns, i, TW.near1 ns i j, rfl, gF.sqi hS, h2, h24, .inl (.inl eN), N1, gF.tab hT, fun H8 v8 g8 hv8 => ?_⟩
        have gG := gF.trans g8
        have e2 : ((TW.tv ns i).toNat : Int) = TW.tv ns i := by omega
        refine ⟨v8, rfl, .ref a, rfl, natV i, rfl, .ref d, rfl, .ref a, rfl, natV i, rfl, ix_of (gG.sqi hS) hi ⟨_, rfl, d, _, rfl, .inl (.inl (g8.at eR3)), fun b4 nb4 => ?_⟩⟩
        rw [← e2, cut_take, ← List.map_take]
        have g9 : Gw T H8 (upd H8 b4 (.lst (((TW.restOf ns i j).take (TW.tv ns i).toNat).map natV))) := Gw.new nb4
        have gH := gG.trans g9
        refine ⟨a, b4, ns, i, TW.near2 ns i j, rfl, gH.sqi hS, h2, h24, .inl (.inl upd_same), N2, gH.tab hT, fun H9 v9 g10 hv9 => ?_⟩
        refine ⟨by show 3 ≤ sizeLine; decide, fun z nz => ?_⟩
        have g11 : Gw T H9 (upd H9 z (.tup [.str "some", v8, v9])) := Gw.new nz
        refine q _ _ ((gH.trans g10).trans g11) ?_
        exact .tup (.inl (.inl upd_same)) (.cons (.str _) (.cons (((g9.trans g10).trans g11).dp hv8) (.cons (g11.dp hv9) .nil)))
end
end TWR
set_option Elab.async false
set_option linter.all false
set_option maxRecDepth 100000
set_option maxHeartbeats 4000000
namespace TWR
open PySem PySem.Spec PyProof.Rows L2 LamX
theorem room65 {k : Nat} {A : Around} (r : Room k A) : A.units + 65 < cLine := by have := r.un; omega
theorem tie_can (p : Nat × Nat) : PyData.canLay0 (tieD p) = true := by simp [tieD, PyData.canLay0, PyData.canLayAll0]
theorem ties_can (es : List (Nat × Nat)) : PyData.canLayAll0 (es.map tieD) = true := by
  induction es with
  | nil => simp [PyData.canLayAll0]
  | cons n ns ih => simp [PyData.canLayAll0, tie_can, ih]
theorem tie_depth (p : Nat × Nat) : PyData.depth (tieD p) = 1 := by simp [tieD, PyData.depth, PyData.depthAll]
theorem ties_depth (es : List (Nat × Nat)) : PyData.depthAll (es.map tieD) ≤ 1 := by
  induction es with
  | nil => simp [PyData.depthAll]
  | cons n ns ih =>
    simp only [List.map_cons, PyData.depthAll, tie_depth]
    omega
theorem shaped_of {d : PyData} (h1 : PyData.canLay0 d = true) (h2 : PyData.depth d ≤ 64) : SeqAt.shaped d = true := by
  show (PyData.canLay0 d && decide (PyData.depth d ≤ 64)) = true
  rw [h1, decide_eq_true h2]
  rfl
theorem tie_shaped (p : Nat × Nat) : SeqAt.shaped (tieD p) = true := shaped_of (tie_can p) (by rw [tie_depth]; decide)
theorem ties_depth2 (es : List (Nat × Nat)) : PyData.depth (tiesD es) ≤ 2 := by
  have := ties_depth es
  simp only [tiesD, PyData.depth]
  omega
theorem ties_shaped (es : List (Nat × Nat)) : SeqAt.shaped (tiesD es) = true := shaped_of (by simp only [tiesD, PyData.canLay0]; exact ties_can es) (by have := ties_depth2 es; omega)
theorem tiesL_shaped (es : List (Nat × Nat)) : SeqAt.shaped (tiesL es) = true := shaped_of (by simp only [tiesL, PyData.canLay0]; exact ties_can es) (by have := ties_depth es; simp only [tiesL, PyData.depth]; omega)
theorem web_can (n : Nat) (es : List (Nat × Nat)) : PyData.canLay0 (webD n es) = true := by simp [webD, tiesD, PyData.canLay0, PyData.canLayAll0, ties_can]
theorem web_depth (n : Nat) (es : List (Nat × Nat)) : PyData.depth (webD n es) ≤ 3 := by
  have := ties_depth2 es
  simp only [webD, PyData.depth, PyData.depthAll]
  omega
theorem wall_can : ∀ wl : Option TW.Wall, PyData.canLay0 (wallD wl) = true
  | none => by simp [wallD, PyData.canLay0]
  | some (.below k) => by simp [wallD, PyData.canLay0, PyData.canLayAll0]; decide +kernel
  | some .odd => by simp [wallD, PyData.canLay0, PyData.canLayAll0]; decide +kernel
  | some (.wall r) => by simp [wallD, PyData.canLay0, PyData.canLayAll0]; decide +kernel
theorem wall_depth : ∀ wl : Option TW.Wall, PyData.depth (wallD wl) ≤ 1
  | none => by simp [wallD, PyData.depth]
  | some (.below k) => by simp [wallD, PyData.depth, PyData.depthAll]
  | some .odd => by simp [wallD, PyData.depth, PyData.depthAll]
  | some (.wall r) => by simp [wallD, PyData.depth, PyData.depthAll]
theorem wall_shaped (wl : Option TW.Wall) : SeqAt.shaped (wallD wl) = true := shaped_of (wall_can wl) (by have := wall_depth wl; omega)
theorem told_shaped (n : Nat) (td : TW.Told) : SeqAt.shaped (toldD n td) = true := by
  cases td with
  | all wl =>
    have := wall_depth (some wl)
    exact shaped_of (by simp [toldD, PyData.canLay0, PyData.canLayAll0, wall_can]; decide +kernel) (by simp only [toldD, PyData.depth, PyData.depthAll]; omega)
  | none wl =>
    have := wall_depth (some wl)
    exact shaped_of (by simp [toldD, PyData.canLay0, PyData.canLayAll0, wall_can]; decide +kernel) (by simp only [toldD, PyData.depth, PyData.depthAll]; omega)
  | some x y =>
    have h1 := web_depth n x
    have h2 := web_depth n y
    exact shaped_of (by simp [toldD, PyData.canLay0, PyData.canLayAll0, web_can]; decide +kernel) (by simp only [toldD, PyData.depth, PyData.depthAll]; omega)
theorem tie_eqv (p q : Nat × Nat) : PyData.eqv (tieD p) (tieD q) = decide (p = q) := by
  simp only [tieD, PyData.eqv, PyData.eqvAll, Bool.and_true]
  obtain ⟨a, b⟩ := p
  obtain ⟨c, d⟩ := q
  by_cases h : (a, b) = (c, d)
  · rw [decide_eq_true h]
    cases h
    simp
  · rw [decide_eq_false h]
    by_cases h1 : a = c
    · have h2 : b ≠ d := fun z => h (by rw [h1, z])
      have h2 : ¬ (b : Int) = d := by omega
      simp [h2]
    · have h1 : ¬ (a : Int) = c := by omega
      simp [h1]
theorem ties_any (es : List (Nat × Nat)) (p : Nat × Nat) : (es.map tieD).any (fun z => PyData.eqv z (tieD p)) = decide (p ∈ es) := by
  induction es with
  | nil => rfl
  | cons q es ih =>
    rw [List.map_cons, List.any_cons, ih, tie_eqv]
    by_cases h : q = p
    · simp [h]
    · have : ¬ p = q := fun z => h z.symm
      simp [h, this]
theorem eqv_self {d : PyData} (h : SeqAt.shaped d = true) : PyData.eqv d d = true := SeqAt.eqv_refl _ (SeqAt.canLay_of_shaped h)
section
variable {P : Program} {w : World} {K : PySem.W.Frag} {mg : Str → Option Value} {base : Heap} {T : Tbls} {H : Hp} {a : Addr} {ns : List Int}
theorem rIn_tie {x y : V} {p : Nat × Nat} {es : List (Nat × Nat)} {Q : VK} (hx : Dp K H x (tieD p)) (hy : Dp K H y (tiesD es)) (q : Q (.bl (decide (p ∈ es))) H) : rInT K x y H Q :=
  ⟨tieD p, es.map tieD, hx, .inl ⟨hy, ties_shaped es⟩, tie_shaped p, by rw [ties_any]; exact q⟩
theorem rIn_tieL {x y : V} {p : Nat × Nat} {es : List (Nat × Nat)} {Q : VK} (hx : Dp K H x (tieD p)) (hy : Dp K H y (tiesL es)) (q : Q (.bl (decide (p ∈ es))) H) : rInT K x y H Q :=
  ⟨tieD p, es.map tieD, hx, .inr ⟨hy, tiesL_shaped es⟩, tie_shaped p, by rw [ties_any]; exact q⟩
theorem rNotIn_tie {x y : V} {p : Nat × Nat} {es : List (Nat × Nat)} {Q : VK} (hx : Dp K H x (tieD p)) (hy : Dp K H y (tiesD es)) (q : Q (.bl (!decide (p ∈ es))) H) : rNotInT K x y H Q :=
  ⟨tieD p, es.map tieD, hx, hy, tie_shaped p, ties_shaped es, by rw [ties_any]; exact q⟩
/-- pair_in -/
def spPIn (T : Tbls) (K : PySem.W.Frag) : Sp := fun vs H Q _ => ∃ (v : V) (i j n : Nat) (es : List (Nat × Nat)), vs = [v, natV i, natV j] ∧ Dp K H v (webD n es) ∧ ∀ H', Gw T H H' → Q (.bl (decide (TW.norm (i, j) ∈ es))) H'
theorem ok_pair_in (D : Dn K mg "pair_in" sPairIn ["web", "one", "other"]) (B : NoB mg) : Has P w K mg base 1 "pair_in" ["web", "one", "other"] (spPIn T K) := by
  obtain ⟨f, fd, F, hm, hb⟩ := D.ex
  refine ⟨f, fd, ?_, hm, F.kp, hb⟩
  refine F.ok scPairIn (fun vs H Q E h => ?_) (fun cdv A outer s H vs Q E hr h => ?_)
  · obtain ⟨v, i, j, n, es, rfl, _⟩ := h
    rfl
  · obtain ⟨v, i, j, n, es, rfl, hW, q⟩ := h
    refine ⟨_, pss_one (ps_ret (pe_cmpR (op_inT (room65 hr)) (pe_tup (pa_cons (pe_callB (call_min2 rfl) (by rfl) B.min boot_min (pa_cons (pv 1) (pa_cons (pv 2) pa_nil))) (pa_cons (pe_callB (call_max2 rfl) (by rfl) B.max boot_max (pa_cons (pv 1) (pa_cons (pv 2) pa_nil))) pa_nil)))
      (pe_ix ix_tup (pv 0) pe_int (fun _ _ => rfl)) (by with_unfolding_all rfl))), ?_⟩
    obtain ⟨wa, ta, xs, rfl, hwa, hta, hD⟩ := web_of hW
    refine ⟨natV i, rfl, natV j, rfl, _, _, rfl, natV i, rfl, natV j, rfl, _, _, rfl, by show 2 ≤ sizeLine; decide, fun z nz => ?_⟩
    rw [mn_eq, mx_eq]
    have g : Gw T H (upd H z (.tup [natV (min i j), natV (max i j)])) := Gw.new nz
    refine ⟨.ref wa, rfl, wa, _, 1, _, rfl, rfl, g.tup hwa, atI_nat (j := 1) rfl, ?_⟩
    exact rIn_tie (p := TW.norm (i, j)) (tie_mk (.inl (.inl upd_same))) (.tup (g.tup hta) (g.dps hD)) (q _ g)
theorem tupS_of {v : V} {x : Str} {d : PyData} (h : Dp K H v (.tuple [.str x, d])) : ∃ b u, v = .ref b ∧ SqT K H b [.str x, u] ∧ Dp K H u d := by
  cases h with
  | tup hs ha =>
    cases ha with
    | cons h1 t =>
      cases t with
      | cons h2 t2 =>
        cases t2
        cases h1
        exact ⟨_, _, rfl, hs, h2⟩
theorem tupS3_of {v : V} {x : Str} {d e : PyData} (h : Dp K H v (.tuple [.str x, d, e])) : ∃ b u1 u2, v = .ref b ∧ SqT K H b [.str x, u1, u2] ∧ Dp K H u1 d ∧ Dp K H u2 e := by
  cases h with
  | tup hs ha =>
    cases ha with
    | cons h1 t =>
      cases t with
      | cons h2 t2 =>
        cases t2 with
        | cons h3 t3 =>
          cases t3
          cases h1
          exact ⟨_, _, _, rfl, hs, h2, h3⟩
/-- pair_shows, of what is told, the places the other way round -/
def spPSh (T : Tbls) (K : PySem.W.Frag) : Sp := fun vs H Q _ => ∃ (a : Addr) (v : V) (ns : List Int) (i j : Nat), vs = [.ref a, natV j, natV i, v] ∧ SqI K H a ns ∧ 2 ≤ ns.length ∧ ns.length ≤ 24 ∧ i < ns.length ∧ j < ns.length ∧ i ≠ j ∧ TW.wallOf ns = none ∧ Tabs T H ∧
  Dp K H v (toldD ns.length (TW.toldOf ns i j)) ∧ ∀ H', Gw T H H' → Q (.bl true) H'
theorem ok_pair_shows (D : Dn K mg "pair_shows" sPairShows ["tally", "one", "other", "told"]) (HP : Has P w K mg base 6 "look_at_pair" ["tally", "one", "other"] (spLPair T K)) (HB : Has P w K mg base 3 "both_moved" ["tally", "one", "other", "more"] (spBoth T K))
    (HW : Has P w K mg base 4 "wall_shows" ["tally", "wall"] (spWS T K)) (HS : Has P w K mg base 3 "answer_shows" ["tally", "told"] (spAShow T K)) (HI : Has P w K mg base 1 "pair_in" ["web", "one", "other"] (spPIn T K)) :
    Has P w K mg base 7 "pair_shows" ["tally", "one", "other", "told"] (spPSh T K) := by
  obtain ⟨f, fd, F, hm, hb⟩ := D.ex
  refine ⟨f, fd, ?_, hm, F.kp, hb⟩
  obtain ⟨f1, fd1, G1, m1, k1, b1⟩ := HP
  obtain ⟨f2, fd2, G2, m2, k2, b2⟩ := HB
  obtain ⟨f3, fd3, G3, m3, k3, b3⟩ := HW
  obtain ⟨f4, fd4, G4, m4, k4, b4⟩ := HS
  obtain ⟨f5, fd5, G5, m5, k5, b5⟩ := HI
  refine F.ok scPairShows (fun vs H Q E h => ?_) (fun cdv A outer s H vs Q E hr h => ?_)
  · obtain ⟨a, v, ns, i, j, rfl, _⟩ := h
    rfl
  · obtain ⟨a, v, ns, i, j, rfl, hS, h2, h24, hi, hj, hij, hw, hT, hv, q⟩ := h
    refine ⟨_, pss_cons (ps_expr (pe_call G1 hr (by rfl) m1 k1 b1 .nil pass0 (pa_cons (pv 0) (pa_cons (pv 1) (pa_cons (pv 2) pa_nil)))))
      (pss_cons (ps_if (pt_cmpR op_eq (pe_ix ix_tup (pv 3) pe_int (fun _ _ => rfl)) pe_str (nomark _)) (pss_one (ps_ret (pe_call G3 (hr.mono (by decide)) (by rfl) m3 k3 b3 .nil pass0 (pa_cons (pe_call G2 (hr.mono (by decide)) (by rfl) m2 k2 b2 .nil pass0 (pa_cons (pv 0) (pa_cons (pv 1) (pa_cons (pv 2) (pa_cons pe_int pa_nil)))))
        (pa_cons (pe_ix ix_tup (pv 3) pe_int (fun _ _ => rfl)) pa_nil))))) pss_nil)
      (pss_cons (ps_if (pt_cmpR op_eq (pe_ix ix_tup (pv 3) pe_int (fun _ _ => rfl)) pe_str (nomark _)) (pss_one (ps_ret (pe_call G3 (hr.mono (by decide)) (by rfl) m3 k3 b3 .nil pass0 (pa_cons (pe_call G2 (hr.mono (by decide)) (by rfl) m2 k2 b2 .nil pass0 (pa_cons (pv 0) (pa_cons (pv 1) (pa_cons (pv 2) (pa_cons (pe_un un_neg pe_int) pa_nil)))))
        (pa_cons (pe_ix ix_tup (pv 3) pe_int (fun _ _ => rfl)) pa_nil))))) pss_nil)
      (pss_cons (ps_for PassesOwn.never rfl (pi_tup (pe_slice sl_tup (pv 3) (po_some pe_int) po_none)) (pg_name (i := 4) scPairShows.nd rfl (.inl rfl))
        (pss_one (ps_if (pt_not (pt_val (pe_call G4 (hr.mono (by decide)) (by rfl) m4 k4 b4 .nil pass0 (pa_cons (pv 0) (pa_cons (pe_tup (pa_cons pe_str (pa_cons (pv 4) pa_nil))) pa_nil))))) pss_never pss_nil)))
      (pss_one (ps_ret (pe_and (pe_call G5 (hr.mono (by decide)) (by rfl) m5 k5 b5 .nil pass0 (pa_cons (pe_ix ix_tup (pv 3) pe_int (fun _ _ => rfl)) (pa_cons (pv 1) (pa_cons (pv 2) pa_nil))))
        (pe_one (pe_not (pe_call G5 (hr.mono (by decide)) (by rfl) m5 k5 b5 .nil pass0 (pa_cons (pe_ix ix_tup (pv 3) pe_int (fun _ _ => rfl)) (pa_cons (pv 1) (pa_cons (pv 2) pa_nil))))))))))))
      , ?_⟩
    have hl1 := TW.mv2_length ns j i 1
    have hl2 := TW.mv2_length ns j i (-1)
    have hc1 := TW.mv2_comm (c := 1) hi hj
    have hc2 := TW.mv2_comm (c := -1) hi hj
    refine ⟨.ref a, rfl, natV j, rfl, natV i, rfl, a, ns, j, i, rfl, hS, by omega, h24, hT, hw, hj, hi, fun z => hij z.symm, fun H1 g1 => ?_⟩
    have hv1 := g1.dp hv
    cases c1 : TW.wallOf (TW.mv2 ns i j 1) with
    | some wl =>
      have et : TW.toldOf ns i j = .all wl := by unfold TW.toldOf; rw [c1]
      rw [et] at hv1
      obtain ⟨b, u, rfl, hb, hu⟩ := tupS_of hv1
      refine ⟨.ref b, rfl, b, _, 0, _, rfl, rfl, hb, atI_nat (j := 0) rfl, rfl, _, rfl, ifT rfl ?_⟩
      refine ⟨.ref a, rfl, natV j, rfl, natV i, rfl, a, ns, j, i, 1, rfl, g1.sqi hS, by omega, h24, hj, hi, fun H2 p2 g2 n2 e2 => ?_⟩
      refine ⟨.ref b, rfl, b, _, 1, _, rfl, rfl, g2.tup hb, atI_nat (j := 1) rfl, p2, u, TW.mv2 ns j i 1, wl, rfl, .inl (.inl (.inl e2)), by omega, by omega, g2.tab (g1.tab hT), by rw [← hc1]; exact c1, g2.dp hu, fun H3 g3 => q H3 ((g1.trans g2).trans g3)⟩
    | none =>
      cases c2 : TW.wallOf (TW.mv2 ns i j (-1)) with
      | some wl =>
        have et : TW.toldOf ns i j = .none wl := by unfold TW.toldOf; rw [c1]; dsimp only; rw [c2]
        rw [et] at hv1
        obtain ⟨b, u, rfl, hb, hu⟩ := tupS_of hv1
        refine ⟨.ref b, rfl, b, _, 0, _, rfl, rfl, hb, atI_nat (j := 0) rfl, rfl, _, rfl, ifF (by decide) ?_⟩
        refine ⟨.ref b, rfl, b, _, 0, _, rfl, rfl, hb, atI_nat (j := 0) rfl, rfl, _, rfl, ifT rfl ?_⟩
        refine ⟨.ref a, rfl, natV j, rfl, natV i, rfl, _, rfl, a, ns, j, i, -1, rfl, g1.sqi hS, by omega, h24, hj, hi, fun H2 p2 g2 n2 e2 => ?_⟩
        refine ⟨.ref b, rfl, b, _, 1, _, rfl, rfl, g2.tup hb, atI_nat (j := 1) rfl, p2, u, TW.mv2 ns j i (-1), wl, rfl, .inl (.inl (.inl e2)), by omega, by omega, g2.tab (g1.tab hT), by rw [← hc2]; exact c2, g2.dp hu, fun H3 g3 => q H3 ((g1.trans g2).trans g3)⟩
      | none =>
        have et : TW.toldOf ns i j = .some (TW.webBy ns i (TW.near1 ns i j)) (TW.webBy ns i (TW.near2 ns i j)) := by unfold TW.toldOf; rw [c1]; dsimp only; rw [c2]
        have N2 := TW.some_without hi hj hij hw c1
        obtain ⟨N1, hpos⟩ := TW.some_with hi hj hij hw c2
        rw [et] at hv1
        obtain ⟨b, u1, u2, rfl, hb, hu1, hu2⟩ := tupS3_of hv1
        refine ⟨.ref b, rfl, b, _, 0, _, rfl, rfl, hb, atI_nat (j := 0) rfl, rfl, _, rfl, ifF (by decide) ?_⟩
        refine ⟨.ref b, rfl, b, _, 0, _, rfl, rfl, hb, atI_nat (j := 0) rfl, rfl, _, rfl, ifF (by decide) ?_⟩
        refine ⟨.ref b, rfl, _, rfl, b, _, rfl, hb, (show ¬ (HT.sIx 3 0 (some 1) = 0 ∧ HT.sIx 3 3 none = 3) by decide), fun d nd => ?_⟩
        have ec : cutV [V.str "some", u1, u2] (some 1) none = [u1, u2] := rfl
        rw [ec]
        have g2 : Gw T H1 (upd H1 d (.tup [u1, u2])) := Gw.new nd
        have hd2 : SqT K (upd H1 d (.tup [u1, u2])) d [u1, u2] := .inl (.inl upd_same)
        have gA := g1.trans g2
        have W1 := TW.webBy_ok N1
        have W2 := TW.webBy_ok N2
        have T1 := TW.webBy_tally N1
        have T2 := TW.webBy_tally N2
        have I1 := TW.webBy_tie N1 j
        have I2 := TW.webBy_tie N2 j
        generalize TW.webBy ns i (TW.near1 ns i j) = es1 at *
        generalize TW.webBy ns i (TW.near2 ns i j) = es2 at *
        have hu1 := g2.dp hu1
        have hu2 := g2.dp hu2
        have hb := g2.tup hb
        generalize upd H1 d (.tup [u1, u2]) = H2 at *
        refine ⟨d, rfl, ⟨_, hd2⟩, ?_⟩
        refine for_tup (xs := [u1, u2]) (fun k σ H3 => ∃ y4, σ = [some (.ref a), some (natV j), some (natV i), some (.ref b), y4] ∧ Gw T H2 H3) ⟨none, rfl, Gw.refl T H2⟩ (fun k σ H3 _ hP => ?_) (fun k x σ H3 hx hP => ?_) (fun σ H3 hP => ?_)
        · obtain ⟨_, _, g⟩ := hP
          exact g.tup hd2
        · obtain ⟨y4, rfl, g⟩ := hP
          have hx : ∃ es, Dp K H2 x (webD ns.length es) ∧ TW.WebOk ns.length es ∧ TW.tallyT ns.length es = ns := by
            have hk := (List.getElem?_eq_some_iff.mp hx).1
            match k, hk, hx with
            | 0, _, hx =>
              cases hx
              exact ⟨es1, hu1, W1, T1⟩
            | 1, _, hx =>
              cases hx
              exact ⟨es2, hu2, W2, T2⟩
          obtain ⟨es, hx, Wx, Tx⟩ := hx
          refine ⟨.ref a, rfl, x, rfl, by show 2 ≤ sizeLine; decide, fun z nz => ?_⟩
          have g3 := g.to (o := .tup [.str "web", x]) nz
          refine ⟨a, .ref z, ns, es, rfl, (gA.trans g3).sqi hS, .tup (.inl (.inl upd_same)) (.cons (.str _) (.cons (g3.dp hx) .nil)), by omega, h24, g3.tab (gA.tab hT), Wx, Tx, fun H4 g4 => ⟨true, rfl, iteF ?_⟩⟩
          exact ⟨_, rfl, g3.trans g4⟩
        · obtain ⟨y4, rfl, g⟩ := hP
          refine ⟨.ref b, rfl, b, _, 1, _, rfl, rfl, g.tup hb, atI_nat (j := 1) rfl, natV j, rfl, natV i, rfl, u1, j, i, ns.length, es1, rfl, g.dp hu1, fun H4 g4 => ⟨_, rfl, ?_⟩⟩
          have m1 : TW.norm (j, i) ∈ es1 := by rw [TW.norm_sw]; exact I1.mpr (List.mem_cons_self ..)
          have m2 : TW.norm (j, i) ∉ es2 := by rw [TW.norm_sw]; exact fun z => TW.near2_no ns i j (I2.mp z)
          rw [decide_eq_true m1]
          refine iteT ?_
          have g5 := g.trans g4
          refine ⟨.ref b, rfl, b, _, 2, _, rfl, rfl, g5.tup hb, atI_nat (j := 2) rfl, natV j, rfl, natV i, rfl, u2, j, i, ns.length, es2, rfl, g5.dp hu2, fun H6 g6 => ⟨_, rfl, ?_⟩⟩
          rw [decide_eq_false m2]
          exact q H6 ((gA.trans g5).trans g6)
end
end TWR
set_option Elab.async false
set_option linter.all false
set_option maxRecDepth 100000
set_option maxHeartbeats 4000000
namespace TWR
open PySem PySem.Spec PyProof.Rows L2 LamX
theorem Rf.mutD {H : Hp} {x : V} {p : Nat × Nat} {l : Addr} {ys : List (List Key × V)} {o : HO} (h : H l = some (.dT ys)) (r : Rf H x p) : Rf (upd H l o) x p := by
  obtain ⟨t, e1, e2⟩ := r
  exact ⟨t, e1, by rw [upd_ne (ne_of e2 h (by intro z; cases z))]; exact e2⟩
def pkK (ns : List Int) (i j : Nat) : List Key := [.inl (TW.pk ns i j).1, .inl (TW.pk ns i j).2]
theorem pkK_inj {ns : List Int} {i j i' j' : Nat} (h : pkK ns i j = pkK ns i' j') : TW.pk ns i j = TW.pk ns i' j' := by
  unfold pkK at h
  simp only [List.cons.injEq, Sum.inl.injEq, and_true] at h
  exact Prod.ext h.1 h.2
theorem valV_mem {kvs : List (List Key × V)} {k : List Key} {v : V} (h : valV kvs k = some v) : (k, v) ∈ kvs := by
  unfold valV at h
  cases e : kvs.find? fun kv => decide (kv.1 = k) with
  | none => rw [e] at h; cases h
  | some kv =>
    rw [e] at h
    have h1 : kv.1 = k := of_decide_eq_true (List.find?_some (p := fun kv : List Key × V => decide (kv.1 = k)) e)
    have h2 := List.mem_of_find?_eq_some e
    have h := Option.some.inj h
    obtain ⟨a, b⟩ := kv
    dsimp only at h1 h
    rw [← h1, ← h]
    exact h2
/-- what is known -/
def Known (ns : List Int) (c : Int) (kv : List Key × V) : Prop := ∃ i j, i < ns.length ∧ j < ns.length ∧ i ≠ j ∧ kv.1 = pkK ns i j ∧ kv.2 = .bl (decide (TW.wallOf (TW.mv2 ns i j c) ≠ none))
/-- the pairs till there -/
def PwTo (ns : List Int) (c : Int) (i k : Nat) (es : List (Nat × Nat)) : Prop := ∀ p, p ∈ es ↔ p.1 < p.2 ∧ p.2 < ns.length ∧ (p.1 < i ∨ (p.1 = i ∧ p.2 < i + 1 + k)) ∧ TW.wallOf (TW.mv2 ns p.1 p.2 c) ≠ none
theorem PwTo.yes {ns : List Int} {c : Int} {i k : Nat} {es : List (Nat × Nat)} (h : PwTo ns c i k es) (hk : i + 1 + k < ns.length) (hw : TW.wallOf (TW.mv2 ns i (i + 1 + k) c) ≠ none) : PwTo ns c i (k + 1) (es ++ [(i, i + 1 + k)]) := fun p => by
  rw [List.mem_append, h p, List.mem_singleton]
  constructor
  · rintro (⟨h1, h2, h3, h4⟩ | rfl)
    · exact ⟨h1, h2, by omega, h4⟩
    · exact ⟨by show i < i + 1 + k; omega, hk, .inr ⟨rfl, by show i + 1 + k < i + 1 + (k + 1); omega⟩, hw⟩
  · rintro ⟨h1, h2, h3, h4⟩
    by_cases e : p.1 = i ∧ p.2 = i + 1 + k
    · exact .inr (Prod.ext e.1 e.2)
    · exact .inl ⟨h1, h2, by omega, h4⟩
theorem PwTo.no {ns : List Int} {c : Int} {i k : Nat} {es : List (Nat × Nat)} (h : PwTo ns c i k es) (hw : TW.wallOf (TW.mv2 ns i (i + 1 + k) c) = none) : PwTo ns c i (k + 1) es := fun p => by
  rw [h p]
  constructor
  · rintro ⟨h1, h2, h3, h4⟩
    exact ⟨h1, h2, by omega, h4⟩
  · rintro ⟨h1, h2, h3, h4⟩
    refine ⟨h1, h2, ?_, h4⟩
    by_cases e : p.1 = i ∧ p.2 = i + 1 + k
    · rw [e.1, e.2] at h4
      exact absurd hw h4
    · omega
theorem PwTo.row {ns : List Int} {c : Int} {i : Nat} {es : List (Nat × Nat)} (h : PwTo ns c i (ns.length - (i + 1)) es) : PwTo ns c (i + 1) 0 es := fun p => by
  rw [h p]
  constructor
  · rintro ⟨h1, h2, h3, h4⟩
    exact ⟨h1, h2, by omega, h4⟩
  · rintro ⟨h1, h2, h3, h4⟩
    exact ⟨h1, h2, by omega, h4⟩
section
variable {P : Program} {w : World} {K : PySem.W.Frag} {mg : Str → Option Value} {base : Heap} {T : Tbls} {H : Hp} {a : Addr} {ns : List Int}
structure PwI (T : Tbls) (ns : List Int) (c : Int) (kn pr : Addr) (H0 : Hp) (i k : Nat) (H : Hp) : Prop where
  g : Gw T H0 H
  known : ∃ kvs, H kn = some (.dT kvs) ∧ kvs.length ≤ 24 * i + k ∧ ∀ kv ∈ kvs, Known ns c kv
  pairs : ∃ acc es, H pr = some (.lst acc) ∧ Paired (Rf H) acc es ∧ es.length ≤ 24 * i + k ∧ PwTo ns c i k es
def spPww (T : Tbls) (K : PySem.W.Frag) : Sp := fun vs H Q _ => ∃ (a : Addr) (ns : List Int) (c : Int), vs = [.ref a, .int c] ∧ SqI K H a ns ∧ 1 ≤ ns.length ∧ ns.length ≤ 24 ∧ TW.wallOf ns = none ∧ Tabs T H ∧
  ∀ H' v es, Gw T H H' → Dp K H' v (tiesL es) → PwTo ns c ns.length 0 es → Q v H'
theorem ok_pww (D : Dn K mg "pairs_with_wall" sPairsWithWall ["tally", "more"]) (B : NoB mg) (HP : Has P w K mg base 5 "look_at_webs" ["tally"] (spLAW T K)) (HB : Has P w K mg base 3 "both_moved" ["tally", "one", "other", "more"] (spBoth T K))
    (HW : Has P w K mg base 4 "wall_of" ["tally"] (spWall T K)) : Has P w K mg base 6 "pairs_with_wall" ["tally", "more"] (spPww T K) := by
  obtain ⟨f, fd, F, hm, hb⟩ := D.ex
  refine ⟨f, fd, ?_, hm, F.kp, hb⟩
  obtain ⟨f1, fd1, G1, m1, k1, b1⟩ := HP
  obtain ⟨f2, fd2, G2, m2, k2, b2⟩ := HB
  obtain ⟨f3, fd3, G3, m3, k3, b3⟩ := HW
  refine F.ok scPairsWithWall (fun vs H Q E h => ?_) (fun cdv A outer s H vs Q E hr h => ?_)
  · obtain ⟨a, ns, c, rfl, _⟩ := h
    rfl
  · obtain ⟨a, ns, c, rfl, hS, h1, h24, hw, hT, q⟩ := h
    have hu := hu_of hr
    refine ⟨_, pss_cons (ps_expr (pe_call G1 hr (by rfl) m1 k1 b1 .nil pass0 (pa_cons (pv 0) pa_nil)))
      (pss_cons (ps_set (i := 2) scPairsWithWall.nd rfl (.inl rfl) pe_dnewT)
      (pss_cons (ps_set (i := 3) scPairsWithWall.nd rfl (.inl rfl) (pe_lst pa_nil))
      (pss_cons (ps_for PassesOwn.never rfl (pi_range1 (by rfl) B.range (pa_cons (pe_callB call_len_seq (by rfl) B.len PySem.boot_len (pa_cons (pv 0) pa_nil)) pa_nil)) (pg_name (i := 4) scPairsWithWall.nd rfl (.inl rfl))
        (pss_one (ps_for PassesOwn.never rfl (pi_range2 (by rfl) B.range (pa_cons (pe_op op_add (pv 4) pe_int) (pa_cons (pe_callB call_len_seq (by rfl) B.len PySem.boot_len (pa_cons (pv 0) pa_nil)) pa_nil))) (pg_name (i := 5) scPairsWithWall.nd rfl (.inl rfl))
          (pss_cons (ps_set (i := 6) scPairsWithWall.nd rfl (.inl rfl) (pe_tup (pa_cons (pe_callB (call_min2 rfl) (by rfl) B.min boot_min (pa_cons (pe_ix ix_seq (pv 0) (pv 4) (fun _ _ => rfl)) (pa_cons (pe_ix ix_seq (pv 0) (pv 5) (fun _ _ => rfl)) pa_nil)))
              (pa_cons (pe_callB (call_max2 rfl) (by rfl) B.max boot_max (pa_cons (pe_ix ix_seq (pv 0) (pv 4) (fun _ _ => rfl)) (pa_cons (pe_ix ix_seq (pv 0) (pv 5) (fun _ _ => rfl)) pa_nil))) pa_nil))))
          (pss_cons (ps_if (pt_cmp (pc_dnotin hu (pv 6) (pv 2)))
              (pss_one (ps_dput hu (pv 2) (pv 6) (pe_cmpR op_notN (pe_call G3 (hr.mono (by decide)) (by rfl) m3 k3 b3 .nil pass0 (pa_cons (pe_call G2 (hr.mono (by decide)) (by rfl) m2 k2 b2 .nil pass0 (pa_cons (pv 0) (pa_cons (pv 4) (pa_cons (pv 5) (pa_cons (pv 1) pa_nil))))) pa_nil)) pe_non (nomark _)) rfl)) pss_nil)
          (pss_one (ps_if (pt_val (pe_dget hu (pv 2) (pv 6) (fun _ _ => rfl))) (pss_one (ps_expr (pe_bm PySem.F.plainAttrs_list PySem.F.slot_list_append PySem.F.type_list_append mt_append (pv 3) (pa_cons (pe_tup (pa_cons (pv 4) (pa_cons (pv 5) pa_nil))) pa_nil)))) pss_nil)))))))
      (pss_one (ps_ret (pv 3)))))), ?_⟩
    refine ⟨.ref a, rfl, a, ns, rfl, hS, h1, h24, hT, hw, fun H1 g1 => ?_⟩
    refine fun kn nkn => ?_
    refine ⟨Nat.zero_le _, fun pr npr => ?_⟩
    have ekn : upd (upd H1 kn (.dT [])) pr (.lst []) kn = some (.dT []) := by rw [upd_ne (ne_of_none upd_same npr)]; exact upd_same
    have hne : kn ≠ pr := ne_of_none upd_same npr
    have nkn1 : New H1 kn := New.none nkn
    have npr1 : New H1 pr := (Gw.new (T := T) nkn).newer (New.none npr)
    have hS1 := g1.sqi hS
    have g2 : Gw T H1 (upd (upd H1 kn (.dT [])) pr (.lst [])) := (Gw.new nkn).to npr
    have hl2 : SqL K (upd (upd H1 kn (.dT [])) pr (.lst [])) a (ns.map V.int) ∨ SqT K (upd (upd H1 kn (.dT [])) pr (.lst [])) a (ns.map V.int) := g2.sqi hS1
    refine ⟨.ref a, rfl, a, _, rfl, hl2, _, rfl, by rw [List.length_map]; omega, by rw [List.length_map]; omega, ?_⟩
    rw [List.length_map, Int.toNat_natCast]
    have I0 : PwI T ns c kn pr H1 0 0 (upd (upd H1 kn (.dT [])) pr (.lst [])) := ⟨g2, ⟨[], ekn, Nat.zero_le _, fun kv z => (nomatch z)⟩, ⟨[], [], upd_same, .nil, Nat.zero_le _, fun p => ⟨fun z => (nomatch z), fun z => by omega⟩⟩⟩
    generalize upd (upd H1 kn (.dT [])) pr (.lst []) = H2 at *
    refine for_range (lo := 0) (n := ns.length) (fun i σ H3 => ∃ y4 y5 y6, σ = [some (.ref a), some (.int c), some (.ref kn), some (.ref pr), y4, y5, y6] ∧ PwI T ns c kn pr H1 i 0 H3)
      ⟨none, none, none, rfl, I0⟩ (fun i σ H3 hi hP => ?_) (fun σ H3 hP => ?_)
    · obtain ⟨y4, y5, y6, rfl, I⟩ := hP
      have e0 : V.int (0 + (i : Int)) = natV i := congrArg V.int (by omega)
      rw [e0]
      have hl3 : SqL K H3 a (ns.map V.int) ∨ SqT K H3 a (ns.map V.int) := I.g.sqi hS1
      refine ⟨natV i, rfl, _, _, rfl, rfl, .ref a, rfl, a, _, rfl, hl3, (i : Int) + 1, (ns.length : Int), by rw [List.length_map], ⟨by omega, by omega, by omega, by omega⟩, ?_⟩
      have en : ((ns.length : Int) - ((i : Int) + 1)).toNat = ns.length - (i + 1) := by omega
      rw [en]
      refine for_range (lo := (i : Int) + 1) (n := ns.length - (i + 1)) (fun k σ H4 => ∃ y5 y6, σ = [some (.ref a), some (.int c), some (.ref kn), some (.ref pr), some (natV i), y5, y6] ∧ PwI T ns c kn pr H1 i k H4)
        ⟨y5, y6, rfl, I⟩ (fun k σ H4 hk hP => ?_) (fun σ H4 hP => ?_)
      · obtain ⟨y5, y6, rfl, J⟩ := hP
        have ej : V.int ((i : Int) + 1 + (k : Int)) = natV (i + 1 + k) := congrArg V.int (by omega)
        rw [ej]
        have hj : i + 1 + k < ns.length := by omega
        have hS4 := J.g.sqi hS1
        refine ⟨.ref a, rfl, natV i, rfl, ix_of hS4 hi ⟨.ref a, rfl, natV (i + 1 + k), rfl, ix_of hS4 hj ⟨_, _, rfl, .ref a, rfl, natV i, rfl, ix_of hS4 hi ⟨.ref a, rfl, natV (i + 1 + k), rfl, ix_of hS4 hj ⟨_, _, rfl, by show 2 ≤ sizeLine; decide, fun t nt => ?_⟩⟩⟩⟩⟩
        obtain ⟨gJ, ⟨kvs, ekn4, elen, eK⟩, acc, es, epr4, eR, esl, hPw⟩ := J
        have et : upd H4 t (.tup [V.int (if TW.tv ns (i + 1 + k) < TW.tv ns i then TW.tv ns (i + 1 + k) else TW.tv ns i), V.int (if TW.tv ns (i + 1 + k) > TW.tv ns i then TW.tv ns (i + 1 + k) else TW.tv ns i)]) t = some (.tup ((pkK ns i (i + 1 + k)).map kV)) := upd_same
        have g5 := gJ.to (o := .tup [V.int (if TW.tv ns (i + 1 + k) < TW.tv ns i then TW.tv ns (i + 1 + k) else TW.tv ns i), V.int (if TW.tv ns (i + 1 + k) > TW.tv ns i then TW.tv ns (i + 1 + k) else TW.tv ns i)]) nt
        have g45 : Gw T H4 (upd H4 t (.tup [V.int (if TW.tv ns (i + 1 + k) < TW.tv ns i then TW.tv ns (i + 1 + k) else TW.tv ns i), V.int (if TW.tv ns (i + 1 + k) > TW.tv ns i then TW.tv ns (i + 1 + k) else TW.tv ns i)])) := Gw.new nt
        generalize upd H4 t (.tup [V.int (if TW.tv ns (i + 1 + k) < TW.tv ns i then TW.tv ns (i + 1 + k) else TW.tv ns i), V.int (if TW.tv ns (i + 1 + k) > TW.tv ns i then TW.tv ns (i + 1 + k) else TW.tv ns i)]) = H5 at *
        have ekn5 := g45.at ekn4
        have epr5 := g45.at epr4
        have eR5 := rfs_ext g45.ext eR
        refine ⟨.ref t, rfl, .ref kn, rfl, kn, _, rfl, DGet.t (k := pkK ns i (i + 1 + k)) ekn5 et, _, rfl, ?_⟩
        cases hv : valV kvs (pkK ns i (i + 1 + k))
        case' none =>
          refine iteT ?_
          refine ⟨.ref a, rfl, natV i, rfl, natV (i + 1 + k), rfl, .int c, rfl, a, ns, i, i + 1 + k, c, rfl, g5.sqi hS1, h1, h24, hi, hj, fun H6 p6 g6 n6 e6 => ?_⟩
          have hml := TW.mv2_length ns i (i + 1 + k) c
          refine ⟨p6, TW.mv2 ns i (i + 1 + k) c, rfl, .inl (.inl (.inl e6)), by omega, by omega, g6.tab (g5.tab (g1.tab hT)), fun H7 v7 g7 hv7 => ?_⟩
          have g57 := g6.trans g7
          have ekn7 := g57.at ekn5
          have et7 := g57.at et
          have epr7 := g57.at epr5
          have eb : (!decide (v7 = .non)) = decide (TW.wallOf (TW.mv2 ns i (i + 1 + k) c) ≠ none) := by
            cases cw : TW.wallOf (TW.mv2 ns i (i + 1 + k) c) with
            | none =>
              rw [cw] at hv7
              have : v7 = .non := by
                unfold wallD at hv7
                cases hv7
                rfl
              rw [this]
              rfl
            | some wl =>
              rw [cw] at hv7
              obtain ⟨b, rfl⟩ := wall_ref hv7
              rfl
          refine ⟨rfl, .ref kn, rfl, .ref t, rfl, kn, _, rfl, DPut.t (k := pkK ns i (i + 1 + k)) ekn7 et7 (small1000 (by omega)), ?_⟩
          rw [eb, putK_new _ hv]
          have g8 : Gw T H1 (upd H7 kn (.dT (kvs ++ [(pkK ns i (i + 1 + k), .bl (decide (TW.wallOf (TW.mv2 ns i (i + 1 + k) c) ≠ none)))]))) := (g5.trans g57).mut nkn1 ekn7 (.inr ⟨_, rfl⟩)
          have hkv : ∀ kv ∈ kvs ++ [(pkK ns i (i + 1 + k), V.bl (decide (TW.wallOf (TW.mv2 ns i (i + 1 + k) c) ≠ none)))], Known ns c kv := fun kv hkv => by
            rcases List.mem_append.mp hkv with hkv | hkv
            · exact eK kv hkv
            · obtain rfl := List.mem_singleton.mp hkv
              exact ⟨i, i + 1 + k, hi, hj, by omega, rfl, rfl⟩
          have hval : valV (kvs ++ [(pkK ns i (i + 1 + k), V.bl (decide (TW.wallOf (TW.mv2 ns i (i + 1 + k) c) ≠ none)))]) (pkK ns i (i + 1 + k)) = some (.bl (decide (TW.wallOf (TW.mv2 ns i (i + 1 + k) c) ≠ none))) := by
            rw [valV_snoc _ _ _ _ hv, if_pos rfl]
          have hkl : (kvs ++ [(pkK ns i (i + 1 + k), V.bl (decide (TW.wallOf (TW.mv2 ns i (i + 1 + k) c) ≠ none)))]).length ≤ 24 * i + (k + 1) := by
            rw [List.length_append, List.length_singleton]
            omega
          generalize kvs ++ [(pkK ns i (i + 1 + k), V.bl (decide (TW.wallOf (TW.mv2 ns i (i + 1 + k) c) ≠ none)))] = kvs8 at *
          have ekn8 : upd H7 kn (.dT kvs8) kn = some (.dT kvs8) := upd_same
          have et8 : upd H7 kn (.dT kvs8) t = some (.tup ((pkK ns i (i + 1 + k)).map kV)) := by rw [upd_ne (ne_of et7 ekn7 (by intro z; cases z))]; exact et7
          have epr8 : upd H7 kn (.dT kvs8) pr = some (.lst acc) := by rw [upd_ne hne.symm]; exact epr7
          have eR8 : Paired (Rf (upd H7 kn (.dT kvs8))) acc es := Paired.mapP (rfs_ext g57.ext eR5) fun x q r => Rf.mutD ekn7 r
          generalize upd H7 kn (.dT kvs8) = H8 at *
        case' some v =>
          refine iteF ?_
          have hvb : v = .bl (decide (TW.wallOf (TW.mv2 ns i (i + 1 + k) c) ≠ none)) := by
            obtain ⟨i', j', q1, q2, q3, q4, q5⟩ := eK _ (valV_mem hv)
            have q5 : v = .bl (decide (TW.wallOf (TW.mv2 ns i' j' c) ≠ none)) := q5
            have := TW.wall_key c hi hj (by omega) q1 q2 q3 (pkK_inj q4)
            rw [q5]
            congr 1
            rw [decide_eq_decide]
            exact not_congr this.symm
          rw [hvb] at hv
          have g8 := g5
          have hval := hv
          have hkl : kvs.length ≤ 24 * i + (k + 1) := by omega
          have hkv := eK
          have ekn8 := ekn5
          have et8 := et
          have epr8 := epr5
          have eR8 := eR5
        all_goals
          refine ⟨.ref kn, rfl, .ref t, rfl, kn, .bl (decide (TW.wallOf (TW.mv2 ns i (i + 1 + k) c) ≠ none)), rfl, (by have z := DGet.t (k := pkK ns i (i + 1 + k)) ekn8 et8; rw [hval] at z; exact z), _, rfl, ?_⟩
          by_cases cw : TW.wallOf (TW.mv2 ns i (i + 1 + k) c) = none
          · rw [decide_eq_false (fun z => z cw)]
            refine iteF ?_
            exact ⟨_, _, rfl, g8, ⟨_, ekn8, hkl, hkv⟩, acc, es, epr8, eR8, by omega, hPw.no cw⟩
          · rw [decide_eq_true cw]
            refine iteT ?_
            refine ⟨.ref pr, rfl, .inl ⟨rfl, _, .inl (.inl epr8)⟩, natV i, rfl, natV (i + 1 + k), rfl, by show 2 ≤ sizeLine; decide, fun z nz => ?_⟩
            have hzp : pr ≠ z := ne_of_none epr8 nz
            have epr9 : upd _ z (.tup [natV i, natV (i + 1 + k)]) pr = some (.lst acc) := (upd_ne hzp).trans epr8
            refine ⟨pr, acc, _, rfl, rfl, epr9, small1000 (by have := Paired.length eR8; omega), ?_⟩
            refine ⟨_, _, rfl, (g8.to nz).mut npr1 epr9 (.inl ⟨_, rfl⟩), ⟨_, ((upd_ne hne).trans (upd_ne (ne_of_none ekn8 nz))).trans ekn8, hkl, hkv⟩, acc ++ [.ref z], es ++ [(i, i + 1 + k)], upd_same, Paired.snoc (Paired.mapP eR8 fun x q r => Rf.mut epr9 (Rf.new nz r)) ⟨z, rfl, (upd_ne hzp.symm).trans upd_same⟩, ?_, hPw.yes hj cw⟩
            rw [List.length_append, List.length_singleton]
            omega
      · obtain ⟨y5, y6, rfl, J⟩ := hP
        obtain ⟨gJ, ⟨kvs, e1, e2, e3⟩, acc, es, e4, e5, e6, e7⟩ := J
        exact ⟨_, _, _, rfl, gJ, ⟨kvs, e1, by omega, e3⟩, acc, es, e4, e5, by omega, e7.row⟩
    · obtain ⟨y4, y5, y6, rfl, I⟩ := hP
      obtain ⟨gI, _, acc, es, e4, e5, e6, e7⟩ := I
      refine ⟨.ref pr, rfl, ?_⟩
      exact q H3 _ es (g1.trans gI) (.lst (.inl (.inl e4)) (rfs_dps e5)) e7
end
end TWR
set_option Elab.async false
set_option linter.all false
set_option maxRecDepth 100000
set_option maxHeartbeats 4000000
namespace TWR
open PySem PySem.Spec PyProof.Rows L2 LamX
/-- all pairs till there -/
structure AllTo (n i k : Nat) (es : List (Nat × Nat)) : Prop where
  mem : ∀ p, p ∈ es ↔ p.1 < p.2 ∧ p.2 < n ∧ (p.1 < i ∨ (p.1 = i ∧ p.2 < i + 1 + k))
  asc : es.Pairwise TW.tlt
theorem AllTo.snoc {n i k : Nat} {es : List (Nat × Nat)} (h : AllTo n i k es) (hk : i + 1 + k < n) : AllTo n i (k + 1) (es ++ [(i, i + 1 + k)]) := by
  refine ⟨fun p => ?_, ?_⟩
  · rw [List.mem_append, h.mem p, List.mem_singleton]
    constructor
    · rintro (⟨h1, h2, h3⟩ | rfl)
      · exact ⟨h1, h2, by omega⟩
      · exact ⟨by show i < i + 1 + k; omega, hk, .inr ⟨rfl, by show i + 1 + k < i + 1 + (k + 1); omega⟩⟩
    · rintro ⟨h1, h2, h3⟩
      by_cases e : p.1 = i ∧ p.2 = i + 1 + k
      · exact .inr (Prod.ext e.1 e.2)
      · exact .inl ⟨h1, h2, by omega⟩
  · rw [List.pairwise_append]
    refine ⟨h.asc, List.pairwise_singleton .., fun p hp q hq => ?_⟩
    obtain rfl := List.mem_singleton.mp hq
    have := (h.mem p).mp hp
    unfold TW.tlt
    dsimp only
    omega
theorem AllTo.row {n i : Nat} {es : List (Nat × Nat)} (h : AllTo n i (n - (i + 1)) es) : AllTo n (i + 1) 0 es := by
  refine ⟨fun p => ?_, h.asc⟩
  rw [h.mem p]
  constructor
  · rintro ⟨h1, h2, h3⟩
    exact ⟨h1, h2, by omega⟩
  · rintro ⟨h1, h2, h3⟩
    exact ⟨h1, h2, by omega⟩
theorem AllTo.web {n : Nat} {es : List (Nat × Nat)} (h : AllTo n n 0 es) : TW.WebOk n es := ⟨fun p hp => ⟨((h.mem p).mp hp).1, ((h.mem p).mp hp).2.1⟩, h.asc⟩
section
variable {P : Program} {w : World} {K : PySem.W.Frag} {mg : Str → Option Value} {base : Heap} {T : Tbls} {H : Hp} {a : Addr} {ns : List Int}
def spAlw (c : Int) (T : Tbls) (K : PySem.W.Frag) : Sp := fun vs H Q _ => ∃ (a : Addr) (ns : List Int), vs = [.ref a] ∧ SqI K H a ns ∧ 1 ≤ ns.length ∧ ns.length ≤ 24 ∧ TW.wallOf ns = none ∧ Tabs T H ∧
  ∀ H' v es, Gw T H H' → Dp K H' v (tiesL es) → PwTo ns c ns.length 0 es → Q v H'
theorem ok_always (D : Dn K mg "always" sAlways ["tally"]) (HP : Has P w K mg base 6 "pairs_with_wall" ["tally", "more"] (spPww T K)) : Has P w K mg base 7 "always" ["tally"] (spAlw 1 T K) := by
  obtain ⟨f, fd, F, hm, hb⟩ := D.ex
  refine ⟨f, fd, ?_, hm, F.kp, hb⟩
  obtain ⟨f1, fd1, G1, m1, k1, b1⟩ := HP
  refine F.ok scAlways (fun vs H Q E h => ?_) (fun cdv A outer s H vs Q E hr h => ?_)
  · obtain ⟨a, ns, rfl, _⟩ := h
    rfl
  · obtain ⟨a, ns, rfl, hS, h1, h24, hw, hT, q⟩ := h
    refine ⟨_, pss_one (ps_ret (pe_call G1 hr (by rfl) m1 k1 b1 .nil pass0 (pa_cons (pv 0) (pa_cons pe_int pa_nil)))), ?_⟩
    exact ⟨.ref a, rfl, a, ns, 1, rfl, hS, h1, h24, hw, hT, q⟩
theorem ok_never (D : Dn K mg "never" sNever ["tally"]) (HP : Has P w K mg base 6 "pairs_with_wall" ["tally", "more"] (spPww T K)) : Has P w K mg base 7 "never" ["tally"] (spAlw (-1) T K) := by
  obtain ⟨f, fd, F, hm, hb⟩ := D.ex
  refine ⟨f, fd, ?_, hm, F.kp, hb⟩
  obtain ⟨f1, fd1, G1, m1, k1, b1⟩ := HP
  refine F.ok scNever (fun vs H Q E h => ?_) (fun cdv A outer s H vs Q E hr h => ?_)
  · obtain ⟨a, ns, rfl, _⟩ := h
    rfl
  · obtain ⟨a, ns, rfl, hS, h1, h24, hw, hT, q⟩ := h
    refine ⟨_, pss_one (ps_ret (pe_call G1 hr (by rfl) m1 k1 b1 .nil pass0 (pa_cons (pv 0) (pa_cons (pe_un un_neg pe_int) pa_nil)))), ?_⟩
    exact ⟨.ref a, rfl, _, rfl, a, ns, -1, rfl, hS, h1, h24, hw, hT, q⟩
/-- a cell of the script -/
def spCell (K : PySem.W.Frag) : Sp := fun vs H Q _ => ∃ (a : Addr) (xs : List Int) (k : Nat), vs = [.ref a, natV k] ∧ SqL K H a (xs.map V.int) ∧ ∀ z, Q (.int z) H
theorem ok_cell_at (D : Dn K mg "_law_cell_at" sLawCellAt ["script", "k"]) (B : NoB mg) : Has P w K mg base 1 "_law_cell_at" ["script", "k"] (spCell K) := by
  obtain ⟨f, fd, F, hm, hb⟩ := D.ex
  refine ⟨f, fd, ?_, hm, F.kp, hb⟩
  refine F.ok scLawCellAt (fun vs H Q E h => ?_) (fun cdv A outer s H vs Q E hr h => ?_)
  · obtain ⟨a, xs, k, rfl, _⟩ := h
    rfl
  · obtain ⟨a, xs, k, rfl, hS, q⟩ := h
    refine ⟨_, pss_cons (ps_if (pt_cmpR op_lt (pv 1) (pe_callB call_len_seq (by rfl) B.len PySem.boot_len (pa_cons (pv 0) pa_nil)) (nomark _)) (pss_one (ps_ret (pe_ix ix_list (pv 0) (pv 1) (fun _ _ => rfl)))) pss_nil)
      (pss_one (ps_ret pe_int)), ?_⟩
    refine ⟨natV k, rfl, .ref a, rfl, a, _, rfl, .inl hS, _, _, rfl, rfl, _, rfl, ite2 (fun c => ?_) (fun c => ?_)⟩
    · have c := of_decide_eq_true c
      rw [List.length_map] at c
      have hk : k < xs.length := by omega
      exact ⟨.ref a, rfl, natV k, rfl, a, _, _, _, rfl, rfl, hS, atI_nat (tv_at hk), q _⟩
    · exact q 0
theorem lt64 {x : Int} (h1 : 0 ≤ x) (h2 : x < 2305843009213693951) : -(2 ^ 64) < x ∧ x < 2 ^ 64 := by omega
/-- the mixed number: an int -/
def spMix : Sp := fun vs H Q _ => ∃ (c b : Int) (k : Nat), vs = [.int c, natV k, .int b] ∧ 0 < b ∧ ∀ z, Q (.int z) H
theorem ok_mixed (D : Dn K mg "_law_mixed" sLawMixed ["cell", "k", "bound"]) : Has P w K mg base 1 "_law_mixed" ["cell", "k", "bound"] spMix := by
  obtain ⟨f, fd, F, hm, hb⟩ := D.ex
  refine ⟨f, fd, ?_, hm, F.kp, hb⟩
  refine F.ok scLawMixed (fun vs H Q E h => ?_) (fun cdv A outer s H vs Q E hr h => ?_)
  · obtain ⟨c, b, k, rfl, _⟩ := h
    rfl
  · obtain ⟨c, b, k, rfl, hb, q⟩ := h
    refine ⟨_, pss_cons (ps_set (i := 3) scLawMixed.nd rfl (.inl rfl) pe_int)
      (pss_cons (ps_set (i := 4) scLawMixed.nd rfl (.inl rfl) (pe_op op_mod (pe_op op_mul (pe_op op_add (pe_op op_mod (pv 0) (pv 3)) (pe_op op_mul (pe_op op_add (pv 1) pe_int) pe_int)) pe_int) (pv 3)))
      (pss_cons (ps_set (i := 4) scLawMixed.nd rfl (.inl rfl) (pe_op op_mod (pe_op op_mul (pv 4) (pv 4)) (pv 3)))
      (pss_one (ps_ret (pe_op op_mod (pe_op op_fdiv (pe_op op_mod (pe_op op_mul (pe_op op_add (pv 4) (pv 1)) pe_int) (pv 3)) pe_int) (pv 2)))))), ?_⟩
    have hp : (0 : Int) < 2305843009213693951 := by decide
    refine ⟨.int c, rfl, .int 2305843009213693951, rfl, _, _, rfl, rfl, hp, natV k, rfl, _, _, rfl, rfl, _, _, rfl, rfl, .inr ⟨by decide, by decide⟩, _, _, rfl, rfl, _, _, rfl, rfl, .inr ⟨by decide, by decide⟩, _, rfl, _, _, rfl, rfl, hp, ?_⟩
    have h1 := Int.emod_nonneg ((c % 2305843009213693951 + ((k : Int) + 3) * 1000000007) * 1152921504606846883) (show (2305843009213693951 : Int) ≠ 0 by decide)
    have h2 := Int.emod_lt_of_pos ((c % 2305843009213693951 + ((k : Int) + 3) * 1000000007) * 1152921504606846883) hp
    refine ⟨_, rfl, _, rfl, _, _, rfl, rfl, .inl (lt64 h1 h2), _, rfl, _, _, rfl, rfl, hp, ?_⟩
    refine ⟨_, rfl, natV k, rfl, _, _, rfl, rfl, _, _, rfl, rfl, .inr ⟨by decide, by decide⟩, _, rfl, _, _, rfl, rfl, hp, _, _, rfl, rfl, ⟨by decide, by decide⟩, .int b, rfl, _, _, rfl, rfl, hb, q _⟩
/-- all pairs of so many places -/
def spPairs (T : Tbls) : Sp := fun vs H Q _ => ∃ n : Nat, vs = [natV n] ∧ n ≤ 24 ∧ ∀ H' l acc es, Gw T H H' → New H l → H' l = some (.lst acc) → Paired (Rf H') acc es → es.length ≤ 1000 → AllTo n n 0 es → Q (.ref l) H'
theorem ok_law_pairs (D : Dn K mg "_law_pairs" sLawPairs ["places"]) (B : NoB mg) : Has P w K mg base 1 "_law_pairs" ["places"] (spPairs T) := by
  obtain ⟨f, fd, F, hm, hb⟩ := D.ex
  refine ⟨f, fd, ?_, hm, F.kp, hb⟩
  refine F.ok scLawPairs (fun vs H Q E h => ?_) (fun cdv A outer s H vs Q E hr h => ?_)
  · obtain ⟨n, rfl, _⟩ := h
    rfl
  · obtain ⟨n, rfl, h24, q⟩ := h
    refine ⟨_, pss_cons (ps_set (i := 1) scLawPairs.nd rfl (.inl rfl) (pe_lst pa_nil))
      (pss_cons (ps_for PassesOwn.never rfl (pi_range1 (by rfl) B.range (pa_cons (pv 0) pa_nil)) (pg_name (i := 2) scLawPairs.nd rfl (.inl rfl))
        (pss_one (ps_for PassesOwn.never rfl (pi_range2 (by rfl) B.range (pa_cons (pe_op op_add (pv 2) pe_int) (pa_cons (pv 0) pa_nil))) (pg_name (i := 3) scLawPairs.nd rfl (.inl rfl))
          (pss_one (ps_expr (pe_bm PySem.F.plainAttrs_list PySem.F.slot_list_append PySem.F.type_list_append mt_append (pv 1) (pa_cons (pe_tup (pa_cons (pv 2) (pa_cons (pv 3) pa_nil))) pa_nil)))))))
      (pss_one (ps_ret (pv 1)))), ?_⟩
    refine ⟨Nat.zero_le _, fun l nl => ?_⟩
    refine ⟨natV n, rfl, _, rfl, by omega, by omega, ?_⟩
    rw [Int.toNat_natCast]
    refine for_range (lo := 0) (n := n) (fun i σ H3 => ∃ y2 y3 acc es, σ = [some (natV n), some (.ref l), y2, y3] ∧ Gw T H H3 ∧ H3 l = some (.lst acc) ∧ Paired (Rf H3) acc es ∧ es.length ≤ 24 * i ∧ AllTo n i 0 es)
      ⟨none, none, [], [], rfl, Gw.new nl, upd_same, .nil, Nat.zero_le _, ⟨fun p => ⟨fun z => (nomatch z), fun z => by omega⟩, .nil⟩⟩ (fun i σ H3 hi hP => ?_) (fun σ H3 hP => ?_)
    · obtain ⟨y2, y3, acc, es, rfl, g, el, eR, hlen, hA⟩ := hP
      have e0 : V.int (0 + (i : Int)) = natV i := congrArg V.int (by omega)
      rw [e0]
      refine ⟨natV i, rfl, _, _, rfl, rfl, natV n, rfl, (i : Int) + 1, (n : Int), rfl, ⟨by omega, by omega, by omega, by omega⟩, ?_⟩
      have en : ((n : Int) - ((i : Int) + 1)).toNat = n - (i + 1) := by omega
      rw [en]
      refine for_range (lo := (i : Int) + 1) (n := n - (i + 1)) (fun k σ H4 => ∃ y3 acc es, σ = [some (natV n), some (.ref l), some (natV i), y3] ∧ Gw T H H4 ∧ H4 l = some (.lst acc) ∧ Paired (Rf H4) acc es ∧ es.length ≤ 24 * i + k ∧ AllTo n i k es)
        ⟨y3, acc, es, rfl, g, el, eR, hlen, hA⟩ (fun k σ H4 hk hP => ?_) (fun σ H4 hP => ?_)
      · obtain ⟨y3, acc, es, rfl, g, el, eR, hlen, hA⟩ := hP
        have ej : V.int ((i : Int) + 1 + (k : Int)) = natV (i + 1 + k) := congrArg V.int (by omega)
        rw [ej]
        refine ⟨.ref l, rfl, .inl ⟨rfl, _, .inl (.inl el)⟩, natV i, rfl, natV (i + 1 + k), rfl, by show 2 ≤ sizeLine; decide, fun z nz => ?_⟩
        have hzl : l ≠ z := ne_of_none el nz
        have el2 : upd H4 z (.tup [natV i, natV (i + 1 + k)]) l = some (.lst acc) := (upd_ne hzl).trans el
        refine ⟨l, acc, _, rfl, rfl, el2, small1000 (by have := Paired.length eR; omega), ?_⟩
        refine ⟨_, acc ++ [.ref z], es ++ [(i, i + 1 + k)], rfl, (g.to nz).mut (New.none nl) el2 (.inl ⟨_, rfl⟩), upd_same, Paired.snoc (Paired.mapP eR fun x q r => Rf.mut el2 (Rf.new nz r)) ⟨z, rfl, (upd_ne hzl.symm).trans upd_same⟩, ?_, hA.snoc (by omega)⟩
        rw [List.length_append, List.length_singleton]
        omega
      · obtain ⟨y3, acc, es, rfl, g, el, eR, hlen, hA⟩ := hP
        exact ⟨_, _, acc, es, rfl, g, el, eR, by omega, hA.row⟩
    · obtain ⟨y2, y3, acc, es, rfl, g, el, eR, hlen, hA⟩ := hP
      exact ⟨.ref l, rfl, q H3 l acc es g (New.none nl) el eR (by omega) hA⟩
theorem paired_get {F : V → Nat × Nat → Prop} : ∀ {xs : List V} {ps : List (Nat × Nat)} {i : Nat} {x : V}, Paired F xs ps → xs[i]? = some x → ∃ p, ps[i]? = some p ∧ F x p
  | _, _, _, _, .nil, e => by simp at e
  | _, _, 0, _, .cons h _, e => by simp at e; subst e; exact ⟨_, rfl, h⟩
  | _, _, i + 1, _, .cons _ t, e => by
    obtain ⟨p, e1, e2⟩ := paired_get (i := i) t (by simpa using e)
    exact ⟨p, by simpa using e1, e2⟩
structure TiI (T : Tbls) (l pl : Addr) (accP : List V) (esP : List (Nat × Nat)) (H0 : Hp) (i : Nat) (H : Hp) : Prop where
  g : Gw T H0 H
  eP : H pl = some (.lst accP)
  eRP : Paired (Rf H) accP esP
  ex : ∃ acc es, H l = some (.lst acc) ∧ Paired (Rf H) acc es ∧ es.length ≤ i ∧ es.Pairwise TW.tlt ∧ ∀ p ∈ es, p ∈ esP.take i
/-- some ties -/
def spTies (T : Tbls) : Sp := fun vs H Q _ => ∃ (n : Nat) (c y : Int), vs = [natV n, .int c, .int y] ∧ n ≤ 24 ∧ ∀ H' l acc es, Gw T H H' → New H l → H' l = some (.lst acc) → Paired (Rf H') acc es → es.length ≤ 1000 → TW.WebOk n es → Q (.ref l) H'
theorem ok_law_ties (D : Dn K mg "_law_ties" sLawTies ["places", "cell", "way"]) (B : NoB mg) (HM : Has P w K mg base 1 "_law_mixed" ["cell", "k", "bound"] spMix) (HP : Has P w K mg base 1 "_law_pairs" ["places"] (spPairs T)) :
    Has P w K mg base 2 "_law_ties" ["places", "cell", "way"] (spTies T) := by
  obtain ⟨f, fd, F, hm, hb⟩ := D.ex
  refine ⟨f, fd, ?_, hm, F.kp, hb⟩
  obtain ⟨f1, fd1, G1, m1, k1, b1⟩ := HM
  obtain ⟨f2, fd2, G2, m2, k2, b2⟩ := HP
  refine F.ok scLawTies (fun vs H Q E h => ?_) (fun cdv A outer s H vs Q E hr h => ?_)
  · obtain ⟨n, c, y, rfl, _⟩ := h
    rfl
  · obtain ⟨n, c, y, rfl, h24, q⟩ := h
    refine ⟨_, pss_cons (ps_set (i := 3) scLawTies.nd rfl (.inl rfl) (pe_lst pa_nil))
      (pss_cons (ps_set (i := 4) scLawTies.nd rfl (.inl rfl) (pv 1))
      (pss_cons (ps_for PassesOwn.never rfl (pi_enumS (by rfl) B.enumerate (pa_cons (pe_call G2 hr (by rfl) m2 k2 b2 .nil pass0 (pa_cons (pv 0) pa_nil)) pa_nil)) (pg_tup rfl (pgs_cons (pg_name (i := 5) scLawTies.nd rfl (.inl rfl)) (pgs_cons (pg_name (i := 6) scLawTies.nd rfl (.inl rfl)) pgs_nil)))
        (pss_cons (ps_if (PW.pt (pw_and (pt_cmpR op_eq (pv 2) pe_int (nomark _)) (pw_and1 (pt_cmpR op_eq (pe_op op_mod (pv 4) pe_int) pe_int (nomark _)))))
          (pss_one (ps_expr (pe_bm PySem.F.plainAttrs_list PySem.F.slot_list_append PySem.F.type_list_append mt_append (pv 3) (pa_cons (pv 6) pa_nil)))) pss_nil)
        (pss_cons (ps_if (PW.pt (pw_and (pt_cmpR op_gt (pv 2) pe_int (nomark _)) (pw_and1 (pt_cmpR op_lt (pe_call G1 hr (by rfl) m1 k1 b1 .nil pass0 (pa_cons (pv 1) (pa_cons (pv 5) (pa_cons pe_int pa_nil)))) (pv 2) (nomark _)))))
          (pss_one (ps_expr (pe_bm PySem.F.plainAttrs_list PySem.F.slot_list_append PySem.F.type_list_append mt_append (pv 3) (pa_cons (pv 6) pa_nil)))) pss_nil)
        (pss_one (ps_set (i := 4) scLawTies.nd rfl (.inl rfl) (pe_op op_fdiv (pv 4) pe_int))))))
      (pss_one (ps_ret (pv 3))))), ?_⟩
    refine ⟨Nat.zero_le _, fun l nl => ?_⟩
    have g1 : Gw T H (upd H l (.lst [])) := Gw.new nl
    refine ⟨.int c, rfl, natV n, rfl, n, rfl, h24, fun H2 pl accP esP g2 n2 ePl eRP hlen hA => ?_⟩
    have hWP := hA.web
    have eT2 : H2 l = some (.lst []) := g2.at upd_same
    have hpl : l ≠ pl := n2.ne upd_same
    have hPl := Paired.length eRP
    refine ⟨pl, accP, rfl, .inl ⟨.inl (.inl ePl), ?_⟩⟩
    refine for_it (walk_enum (K := K) (a := pl) (xs := accP)) (fun i σ H3 => ∃ r y5 y6, σ = [some (natV n), some (.int c), some (.int y), some (.ref l), some (.int r), y5, y6] ∧ TiI T l pl accP esP H i H3)
      ⟨c, none, none, rfl, g1.trans g2, ePl, eRP, [], [], eT2, .nil, Nat.zero_le _, .nil, fun p z => (nomatch z)⟩ (fun i σ H3 _ hP => ?_) (fun i x σ H3 H' hi hP hy => ?_) (fun σ H3 hP => ?_)
    · obtain ⟨_, _, _, _, I⟩ := hP
      exact .inl (.inl I.eP)
    · obtain ⟨r, y5, y6, rfl, ⟨g, eP, eRP3, acc, es, eT, eR, hl3, hasc, hsub⟩⟩ := hP
      obtain ⟨p, x1, x2, rfl, nP, rfl, e2, e3⟩ := hy
      have e2 : natV i = x1 := Option.some.inj e2
      have e3 : accP[i]? = some x2 := e3
      subst e2
      obtain ⟨pp, e4, hR2⟩ := paired_get eRP3 e3
      have hi2 : i < esP.length := (List.getElem?_eq_some_iff.mp e4).1
      have hpp : esP[i] = pp := by rw [List.getElem?_eq_getElem hi2] at e4; exact Option.some.inj e4
      have etk : esP.take (i + 1) = esP.take i ++ [pp] := by rw [List.take_add_one, e4]; rfl
      have g4 := g.to (o := .tup [natV i, x2]) nP
      have eP4 : upd H3 p (.tup [natV i, x2]) pl = some (.lst accP) := (upd_ne (ne_of_none eP nP)).trans eP
      have eT4 : upd H3 p (.tup [natV i, x2]) l = some (.lst acc) := (upd_ne (ne_of_none eT nP)).trans eT
      have eRP4 : Paired (Rf (upd H3 p (.tup [natV i, x2]))) accP esP := Paired.mapP eRP3 fun x q r => Rf.new nP r
      have eR4 : Paired (Rf (upd H3 p (.tup [natV i, x2]))) acc es := Paired.mapP eR fun x q r => Rf.new nP r
      have hR4 : Rf (upd H3 p (.tup [natV i, x2])) x2 pp := Rf.new nP hR2
      have hup : SqT K (upd H3 p (.tup [natV i, x2])) p [natV i, x2] := .inl (.inl upd_same)
      have no : TiI T l pl accP esP H (i + 1) (upd H3 p (.tup [natV i, x2])) := ⟨g4, eP4, eRP4, acc, es, eT4, eR4, by omega, hasc, fun z hz => by rw [etk]; exact List.mem_append_left _ (hsub z hz)⟩
      have yes : TiI T l pl accP esP H (i + 1) (upd (upd H3 p (.tup [natV i, x2])) l (.lst (acc ++ [x2]))) := by
        refine ⟨g4.mut (New.none nl) eT4 (.inl ⟨_, rfl⟩), (upd_ne hpl.symm).trans eP4, Paired.mapP eRP4 fun x q r => Rf.mut eT4 r, acc ++ [x2], es ++ [pp], upd_same, Paired.snoc (Paired.mapP eR4 fun x q r => Rf.mut eT4 r) (Rf.mut eT4 hR4), ?_, ?_, fun z hz => ?_⟩
        · rw [List.length_append, List.length_singleton]
          omega
        · rw [List.pairwise_append]
          refine ⟨hasc, List.pairwise_singleton .., fun z hz z2 hz2 => ?_⟩
          obtain rfl := List.mem_singleton.mp hz2
          have hz := hsub z hz
          have hpw := hWP.asc
          rw [← List.take_append_drop (i + 1) esP, etk] at hpw
          have := (List.pairwise_append.mp (List.pairwise_append.mp hpw).1).2.2 z hz z2 (List.mem_singleton.mpr rfl)
          exact this
        · rw [etk]
          rcases List.mem_append.mp hz with hz | hz
          · exact List.mem_append_left _ (hsub z hz)
          · exact List.mem_append_right _ hz
      have hsm : acc.length < sizeLine := small1000 (by have := Paired.length eR; omega)
      generalize upd H3 p (.tup [natV i, x2]) = H4 at *
      refine ⟨p, _, rfl, hup, rfl, _, _, rfl, _, _, rfl, rfl, ?_⟩
      refine ⟨.int y, rfl, rfl, _, rfl, ite2 (fun c1 => ?_) (fun c1 => ?_)⟩
      · have c1 := V.int.inj (of_decide_eq_true c1)
        refine ⟨.int r, rfl, _, _, rfl, rfl, (show (0 : Int) < 2 by decide), rfl, _, rfl, ite2 (fun c2 => ?_) (fun c2 => ?_)⟩
        · refine ⟨.ref l, rfl, .inl ⟨rfl, _, .inl (.inl eT4)⟩, x2, rfl, l, acc, _, rfl, rfl, eT4, hsm, ?_⟩
          refine ⟨.int y, rfl, _, _, rfl, rfl, _, rfl, ifF (by omega) ?_⟩
          exact ⟨.int r, rfl, _, _, rfl, rfl, ⟨by decide, by decide⟩, _, _, _, rfl, yes⟩
        · refine ⟨.int y, rfl, _, _, rfl, rfl, _, rfl, ifF (by omega) ?_⟩
          exact ⟨.int r, rfl, _, _, rfl, rfl, ⟨by decide, by decide⟩, _, _, _, rfl, no⟩
      · refine ⟨.int y, rfl, _, _, rfl, rfl, _, rfl, ite2 (fun c2 => ?_) (fun c2 => ?_)⟩
        · refine ⟨.int c, rfl, natV i, rfl, c, 4, i, rfl, by decide, fun z => ?_⟩
          refine ⟨.int y, rfl, _, _, rfl, rfl, _, rfl, ite2 (fun c3 => ?_) (fun c3 => ?_)⟩
          · refine ⟨.ref l, rfl, .inl ⟨rfl, _, .inl (.inl eT4)⟩, x2, rfl, l, acc, _, rfl, rfl, eT4, hsm, ?_⟩
            exact ⟨.int r, rfl, _, _, rfl, rfl, ⟨by decide, by decide⟩, _, _, _, rfl, yes⟩
          · exact ⟨.int r, rfl, _, _, rfl, rfl, ⟨by decide, by decide⟩, _, _, _, rfl, no⟩
        · exact ⟨.int r, rfl, _, _, rfl, rfl, ⟨by decide, by decide⟩, _, _, _, rfl, no⟩
    · obtain ⟨r, y5, y6, rfl, ⟨g, eP, eRP3, acc, es, eT, eR, hl3, hasc, hsub⟩⟩ := hP
      refine ⟨.ref l, rfl, q H3 l acc es g (New.none nl) eT eR (by omega) ⟨fun p hp => hWP.fit p (List.mem_of_mem_take (hsub p hp)), hasc⟩⟩
end
end TWR
set_option Elab.async false
set_option linter.all false
set_option maxRecDepth 100000
set_option maxHeartbeats 4000000
namespace TWR
open PySem PySem.Spec PyProof.Rows L2 LamX
theorem tyT {K : PySem.W.Frag} {H : Hp} {a : Addr} {xs : List V} (h : SqT K H a xs) : TyX K H (.ref a) (.type "tuple") := by
  rcases h with (h | ⟨o, h⟩) | ⟨o, its, n, h1, h2, _⟩
  · exact .base (.tup h)
  · exact .fTuple h
  · exact .kTuple h1 h2
theorem sqT_mut {K : PySem.W.Frag} {H : Hp} {a l : Addr} {xs ys : List V} {u : HO} (e : H l = some (.lst ys)) (h : SqT K H a xs) : SqT K (upd H l u) a xs := by
  rcases h with (h | ⟨o, h⟩) | h
  · exact .inl (.inl ((upd_ne (ne_of h e (by intro z; cases z))).trans h))
  · exact .inl (.inr ⟨o, (upd_ne (ne_of h e (by intro z; cases z))).trans h⟩)
  · exact .inr h
theorem neF {c A B : Prop} [Decidable c] (hc : c) (h : B) : if (!decide c) = true then A else B := by
  rw [decide_eq_true hc]
  exact iteF h
theorem neT {c A B : Prop} [Decidable c] (hc : ¬ c) (h : A) : if (!decide c) = true then A else B := by
  rw [decide_eq_false hc]
  exact iteT h
theorem flat_zeros (n : Nat) : (List.replicate n [V.int 0]).flatten = List.replicate n (V.int 0) := by
  induction n with
  | zero => rfl
  | succ n ih =>
    rw [List.replicate_succ, List.flatten_cons, ih, List.replicate_succ]
    rfl
theorem isi_tup {K : PySem.W.Frag} {H : Hp} {a : Addr} {xs : List V} {Q : VK} (h : SqT K H a xs) (q : Q (.bl true) H) : rIsi K [.ref a, .ty "tuple"] H Q := ⟨_, _, _, _, true, rfl, .ty _, tyT h, kit_ty (by decide +kernel), q⟩
section
variable {P : Program} {w : World} {K : PySem.W.Frag} {mg : Str → Option Value} {base : Heap} {T : Tbls} {H : Hp} {a : Addr} {ns : List Int}
def spWR (T : Tbls) (K : PySem.W.Frag) : Sp := fun vs H Q _ => ∃ (a : Addr) (v : V) (ns : List Int) (es : List (Nat × Nat)), vs = [v, .ref a] ∧ SqL K H a (ns.map V.int) ∧ Dp K H v (webD ns.length es) ∧ 1 ≤ ns.length ∧ ns.length ≤ 24 ∧ TW.WebOk ns.length es ∧ TW.tallyT ns.length es = ns ∧ ∀ H', Gw T H H' → Q (.bl true) H'
theorem ok_web_right (D : Dn K mg "_law_web_right" sLawWebRight ["found", "tally"]) (B : NoB mg) : Has P w K mg base 1 "_law_web_right" ["found", "tally"] (spWR T K) := by
  obtain ⟨f, fd, F, hm, hb⟩ := D.ex
  refine ⟨f, fd, ?_, hm, F.kp, hb⟩
  refine F.ok scLawWebRight (fun vs H Q E h => ?_) (fun cdv A outer s H vs Q E hr h => ?_)
  · obtain ⟨a, v, ns, es, rfl, _⟩ := h
    rfl
  · obtain ⟨a, v, ns, es, rfl, hS, hW, h1, h24, hok, ht, q⟩ := h
    obtain ⟨wa, ta, xs, rfl, hwa, hta, hD⟩ := web_of hW
    refine ⟨_, pss_cons (ps_if (PW.pt (pw_or (pt_not (pt_val (pe_callB call_isi (by rfl) B.isinstance boot_isinstance (pa_cons (pv 0) (pa_cons (pe_bltn (v := .ty "tuple") (by rfl) B.tuple boot_tuple rfl) pa_nil)))))
        (pw_or (pt_cmpR op_ne (pe_callB call_len_seq (by rfl) B.len PySem.boot_len (pa_cons (pv 0) pa_nil)) pe_int (nomark _))
        (pw_or (pt_cmpR op_ne (pe_ix ix_tup (pv 0) pe_int (fun _ _ => rfl)) (pe_callB call_len_seq (by rfl) B.len PySem.boot_len (pa_cons (pv 1) pa_nil)) (nomark _))
        (pw_or1 (pt_not (pt_val (pe_callB call_isi (by rfl) B.isinstance boot_isinstance (pa_cons (pe_ix ix_tup (pv 0) pe_int (fun _ _ => rfl)) (pa_cons (pe_bltn (v := .ty "tuple") (by rfl) B.tuple boot_tuple rfl) pa_nil)))))))))) pss_never pss_nil)
      (pss_cons (ps_set (i := 2) scLawWebRight.nd rfl (.inl rfl) (pe_op op_rep (pe_lst (pa_cons pe_int pa_nil)) (pe_callB call_len_seq (by rfl) B.len PySem.boot_len (pa_cons (pv 1) pa_nil))))
      (pss_cons (ps_set (i := 3) scLawWebRight.nd rfl (.inl rfl) (pe_tup (pa_cons (pe_un un_neg pe_int) (pa_cons (pe_un un_neg pe_int) pa_nil))))
      (pss_cons (ps_for PassesOwn.never rfl (pi_tup (pe_ix ix_tup (pv 0) pe_int (fun _ _ => rfl))) (pg_name (i := 4) scLawWebRight.nd rfl (.inl rfl))
        (pss_cons (ps_if (PW.pt (pw_or (pt_not (pt_val (pe_callB call_isi (by rfl) B.isinstance boot_isinstance (pa_cons (pv 4) (pa_cons (pe_bltn (v := .ty "tuple") (by rfl) B.tuple boot_tuple rfl) pa_nil)))))
            (pw_or (pt_cmpR op_ne (pe_callB call_len_seq (by rfl) B.len PySem.boot_len (pa_cons (pv 4) pa_nil)) pe_int (nomark _))
            (pw_or1 (pt_cmpR (op_leP hr.units) (pv 4) (pv 3) (nomark _)))))) pss_never pss_nil)
        (pss_cons (ps_if (PW.pt (pw_or (pt_cmpR op_lt (pe_ix ix_tup (pv 4) pe_int (fun _ _ => rfl)) pe_int (nomark _)) (pw_or (pt_cmpR op_ge (pe_ix ix_tup (pv 4) pe_int (fun _ _ => rfl)) (pe_ix ix_tup (pv 4) pe_int (fun _ _ => rfl)) (nomark _))
            (pw_or1 (pt_cmpR op_ge (pe_ix ix_tup (pv 4) pe_int (fun _ _ => rfl)) (pe_callB call_len_seq (by rfl) B.len PySem.boot_len (pa_cons (pv 1) pa_nil)) (nomark _)))))) pss_never pss_nil)
        (pss_cons (ps_asg (pe_op op_add (pe_ix ix_list (pv 2) (pe_ix ix_tup (pv 4) pe_int (fun _ _ => rfl)) (fun _ _ => rfl)) pe_int) (pg_sub (pv 2) (pe_ix ix_tup (pv 4) pe_int (fun _ _ => rfl)) set_list))
        (pss_cons (ps_asg (pe_op op_add (pe_ix ix_list (pv 2) (pe_ix ix_tup (pv 4) pe_int (fun _ _ => rfl)) (fun _ _ => rfl)) pe_int) (pg_sub (pv 2) (pe_ix ix_tup (pv 4) pe_int (fun _ _ => rfl)) set_list))
        (pss_one (ps_set (i := 3) scLawWebRight.nd rfl (.inl rfl) (pv 4))))))))
      (pss_one (ps_ret (pe_cmpR (op_eqD hr.units) (pv 2) (pv 1) (nomark _))))))), ?_⟩
    have el : ((ns.map V.int).length : Int) = ns.length := by rw [List.length_map]
    refine ⟨.ref wa, rfl, _, _, _, _, true, rfl, .ty _, tyT hwa, kit_ty (by decide +kernel), true, rfl, iteF ?_⟩
    have hlw : ((([natV ns.length, V.ref ta] : List V).length : Nat) : Int) = 2 := rfl
    refine ⟨.ref wa, rfl, wa, _, rfl, .inr hwa, rfl, _, rfl, neF rfl ?_⟩
    refine ⟨.ref wa, rfl, wa, _, 0, _, rfl, rfl, hwa, atI_nat (j := 0) rfl, .ref a, rfl, a, _, rfl, .inl hS, rfl, _, rfl, neF (by rw [el]; rfl) ?_⟩
    refine ⟨.ref wa, rfl, wa, _, 1, _, rfl, rfl, hwa, atI_nat (j := 1) rfl, _, _, _, _, true, rfl, .ty _, tyT hta, kit_ty (by decide +kernel), true, rfl, iteF ?_⟩
    refine ⟨by show 1 ≤ sizeLine; decide, fun l0 n0 => ?_⟩
    have g0 : Gw T H (upd H l0 (.lst [V.int 0])) := Gw.new n0
    refine ⟨.ref a, rfl, a, _, rfl, .inl (g0.seq hS), l0, _, _, rfl, rfl, upd_same, by omega, by omega, ?_, fun l nl => ?_⟩
    · show 1 * ((ns.map V.int).length : Int).toNat ≤ sizeLine
      have := sizeLine_eq
      omega
    have er : (List.replicate ((ns.map V.int).length : Int).toNat [V.int 0]).flatten = (TW.tallyT ns.length (es.take 0)).map V.int := by
      rw [List.take_zero, tallyT_nil, List.map_replicate, el, Int.toNat_natCast, flat_zeros]
    rw [er]
    have g1 := g0.to (o := .lst ((TW.tallyT ns.length (es.take 0)).map V.int)) nl
    refine ⟨_, rfl, _, rfl, by show 2 ≤ sizeLine; decide, fun z0 nz0 => ?_⟩
    have g2 := g1.to (o := .tup [.int (-1), .int (-1)]) nz0
    have el2 : upd (upd (upd H l0 (.lst [V.int 0])) l (.lst ((TW.tallyT ns.length (es.take 0)).map V.int))) z0 (.tup [.int (-1), .int (-1)]) l = some (.lst ((TW.tallyT ns.length (es.take 0)).map V.int)) := by rw [upd_ne (ne_of_none upd_same nz0)]; exact upd_same
    have ez2 : SqT K (upd (upd (upd H l0 (.lst [V.int 0])) l (.lst ((TW.tallyT ns.length (es.take 0)).map V.int))) z0 (.tup [.int (-1), .int (-1)])) z0 [.int (-1), .int (-1)] := .inl (.inl upd_same)
    have hnl : New H l := g0.fresh nl
    refine ⟨.ref wa, rfl, wa, _, 1, _, rfl, rfl, g2.tup hwa, atI_nat (j := 1) rfl, ta, rfl, ⟨xs, g2.tup hta⟩, ?_⟩
    have hlx : xs.length = es.length := by rw [dps_len hD, List.length_map]
    refine for_tup (xs := xs) (fun i σ H3 => ∃ la y4 lp lq, σ = [some (.ref wa), some (.ref a), some (.ref l), some (.ref la), y4] ∧ Gw T H H3 ∧ H3 l = some (.lst ((TW.tallyT ns.length (es.take i)).map V.int)) ∧ SqT K H3 la [.int lp, .int lq] ∧
        ∀ j (h : j < es.length), i ≤ j → lp < es[j].1 ∨ (lp = es[j].1 ∧ lq < es[j].2))
      ⟨z0, none, -1, -1, rfl, g2, el2, ez2, fun j h _ => .inl (by omega)⟩ (fun i σ H3 _ hP => ?_) (fun i x σ H3 hx hP => ?_) (fun σ H3 hP => ?_)
    · obtain ⟨_, _, _, _, _, g, _⟩ := hP
      exact g.tup hta
    · obtain ⟨la, y4, lp, lq, rfl, g, eL, eZ, hlast⟩ := hP
      have hi : i < es.length := by rw [← hlx]; exact (List.getElem?_eq_some_iff.mp hx).1
      obtain ⟨dd, e1, hd⟩ := dps_at (g.dps hD) hx
      rw [List.getElem?_map, List.getElem?_eq_getElem hi] at e1
      have e1 := Option.some.inj e1
      subst e1
      obtain ⟨t, rfl, ht⟩ := tie_of hd
      have hf := hok.fit es[i] (List.getElem_mem hi)
      have hlt := hlast i hi (Nat.le_refl i)
      have hnx : ∀ j (h : j < es.length), i + 1 ≤ j → (es[i].1 : Int) < es[j].1 ∨ ((es[i].1 : Int) = es[j].1 ∧ (es[i].2 : Int) < es[j].2) := fun j h hj => by
        have : TW.tlt es[i] es[j] := List.pairwise_iff_getElem.mp hok.asc i j hi h (by omega)
        unfold TW.tlt at this
        omega
      have htl : (TW.tallyT ns.length (es.take i)).length = ns.length := TW.tallyT_length _ _
      have htl1 : (TW.mv1 (TW.tallyT ns.length (es.take i)) es[i].1 1).length = ns.length := by rw [TW.mv1_length]; exact htl
      have hS3 := g.seq hS
      refine ⟨.ref t, rfl, _, _, _, _, true, rfl, .ty _, tyT ht, kit_ty (by decide +kernel), true, rfl, iteF ?_⟩
      refine ⟨.ref t, rfl, t, _, rfl, .inr ht, rfl, _, rfl, neF rfl ?_⟩
      refine ⟨.ref t, rfl, .ref la, rfl, t, la, _, _, _, _, rfl, rfl, ht, eZ, _, rfl, ?_⟩
      rw [decide_eq_true hlt]
      refine iteF ?_
      have h0 : rIxT K (.ref t) (.int 0) H3 = fun Q => rIxT K (.ref t) (.int 0) H3 Q := rfl
      refine ⟨.ref t, rfl, t, _, 0, _, rfl, rfl, ht, atI_nat (j := 0) rfl, _, _, rfl, rfl, _, rfl, ifF (by omega) ?_⟩
      refine ⟨.ref t, rfl, t, _, 0, _, rfl, rfl, ht, atI_nat (j := 0) rfl, .ref t, rfl, t, _, 1, _, rfl, rfl, ht, atI_nat (j := 1) rfl, _, _, rfl, rfl, _, rfl, ifF (by omega) ?_⟩
      refine ⟨.ref t, rfl, t, _, 1, _, rfl, rfl, ht, atI_nat (j := 1) rfl, .ref a, rfl, a, _, rfl, .inl hS3, _, _, rfl, rfl, _, rfl, ifF (by rw [el]; omega) ?_⟩
      refine ⟨.ref l, rfl, .ref t, rfl, t, _, 0, _, rfl, rfl, ht, atI_nat (j := 0) rfl, l, _, _, _, rfl, rfl, .inl (.inl eL), atI_nat (tv_at (by rw [htl]; omega)), _, _, rfl, rfl, ?_⟩
      refine ⟨.ref l, rfl, .ref t, rfl, t, _, 0, _, rfl, rfl, ht, atI_nat (j := 0) rfl, l, _, _, es[i].1, rfl, rfl, eL, ixNat (by rw [List.length_map, htl]; omega), ?_⟩
      rw [lst_set]
      have ht2 : SqT K (upd H3 l (.lst ((TW.mv1 (TW.tallyT ns.length (es.take i)) es[i].1 1).map V.int))) t [natV es[i].1, natV es[i].2] := sqT_mut eL ht
      have eL2 : upd H3 l (.lst ((TW.mv1 (TW.tallyT ns.length (es.take i)) es[i].1 1).map V.int)) l = some (.lst ((TW.mv1 (TW.tallyT ns.length (es.take i)) es[i].1 1).map V.int)) := upd_same
      refine ⟨.ref l, rfl, .ref t, rfl, t, _, 1, _, rfl, rfl, ht2, atI_nat (j := 1) rfl, l, _, _, _, rfl, rfl, .inl (.inl eL2), atI_nat (tv_at (by rw [htl1]; omega)), _, _, rfl, rfl, ?_⟩
      refine ⟨.ref l, rfl, .ref t, rfl, t, _, 1, _, rfl, rfl, ht2, atI_nat (j := 1) rfl, l, _, _, es[i].2, rfl, rfl, eL2, ixNat (by rw [List.length_map, htl1]; omega), ?_⟩
      rw [lst_set, upd_upd]
      have em : (TW.mv1 (TW.tallyT ns.length (es.take i)) es[i].1 1).set es[i].2 (TW.tv (TW.mv1 (TW.tallyT ns.length (es.take i)) es[i].1 1) es[i].2 + 1) = TW.tallyT ns.length (es.take (i + 1)) := by
        rw [List.take_add_one, List.getElem?_eq_getElem hi]
        exact tallyT_snoc (by omega) hf.2
      rw [em]
      refine ⟨.ref t, rfl, t, _, es[i].1, es[i].2, rfl, g.mut hnl eL (.inl ⟨_, rfl⟩), upd_same, sqT_mut eL ht, hnx⟩
    · obtain ⟨la, y4, lp, lq, rfl, g, eL, eZ, hlast⟩ := hP
      rw [hlx, List.take_length, ht] at eL
      refine ⟨.ref l, rfl, .ref a, rfl, .list (ns.map PyData.int), .list (ns.map PyData.int), lst_dp (.inl (.inl eL)), lst_dp (g.seq hS), ints_shaped ns, ints_shaped ns, ?_⟩
      rw [eqv_self (ints_shaped ns)]
      exact q H3 g
end
end TWR
set_option Elab.async false
set_option linter.all false
set_option maxRecDepth 100000
set_option maxHeartbeats 4000000
namespace TWR
open PySem PySem.Spec PyProof.Rows L2 LamX
section
variable {P : Program} {w : World} {K : PySem.W.Frag} {mg : Str → Option Value} {base : Heap} {T : Tbls} {H : Hp} {a : Addr} {ns : List Int}
structure RightPre (T : Tbls) (K : PySem.W.Frag) (H : Hp) (a tl ls : Addr) (vp vf v1 v2 : V) (ns : List Int) (es e1 e2 : List (Nat × Nat)) (i j : Nat) : Prop where
  tally : SqL K H a (ns.map V.int)
  n2 : 2 ≤ ns.length
  n24 : ns.length ≤ 24
  none : TW.wallOf ns = Option.none
  web : TW.WebOk ns.length es
  right : TW.tallyT ns.length es = ns
  ties : Dp K H (.ref tl) (tiesL es)
  pair : Dp K H vp (tieD (i, j))
  lt : i < j
  hj : j < ns.length
  found : Dp K H vf (toldD ns.length (TW.toldOf ns i j))
  lists : SqL K H ls [v1, v2]
  l1 : Dp K H v1 (tiesL e1)
  l2 : Dp K H v2 (tiesL e2)
  p1 : PwTo ns 1 ns.length 0 e1
  p2 : PwTo ns (-1) ns.length 0 e2
  tabs : Tabs T H
theorem RightPre.ext {H' : Hp} {tl ls : Addr} {vp vf v1 v2 : V} {es e1 e2 : List (Nat × Nat)} {i j : Nat} (R : RightPre T K H a tl ls vp vf v1 v2 ns es e1 e2 i j) (g : Gw T H H') : RightPre T K H' a tl ls vp vf v1 v2 ns es e1 e2 i j :=
  ⟨g.seq R.tally, R.n2, R.n24, R.none, R.web, R.right, g.dp R.ties, g.dp R.pair, R.lt, R.hj, g.dp R.found, g.seq R.lists, g.dp R.l1, g.dp R.l2, R.p1, R.p2, g.tab R.tabs⟩
def spRight (T : Tbls) (K : PySem.W.Frag) : Sp := fun vs H Q _ => ∃ (a tl ls : Addr) (vp vf v1 v2 : V) (ns : List Int) (es e1 e2 : List (Nat × Nat)) (i j : Nat), vs = [.ref a, .ref tl, vp, vf, .ref ls] ∧ RightPre T K H a tl ls vp vf v1 v2 ns es e1 e2 i j ∧ ∀ H', Gw T H H' → Q (.bl true) H'
theorem dec_iff {c d : Prop} [Decidable c] [Decidable d] (h : c ↔ d) : decide c = decide d := decide_eq_decide.mpr h
theorem ok_law_right (D : Dn K mg "_law_right" sLawRight ["tally", "ties", "pair", "found", "lists"]) (B : NoB mg) (HS : Has P w K mg base 7 "pair_shows" ["tally", "one", "other", "told"] (spPSh T K)) (HR : Has P w K mg base 1 "_law_web_right" ["found", "tally"] (spWR T K))
    (HW : Has P w K mg base 4 "wall_of" ["tally"] (spWall T K)) (HX : Has P w K mg base 4 "wall_shows" ["tally", "wall"] (spWS T K)) : Has P w K mg base 8 "_law_right" ["tally", "ties", "pair", "found", "lists"] (spRight T K) := by
  obtain ⟨f, fd, F, hm, hb⟩ := D.ex
  refine ⟨f, fd, ?_, hm, F.kp, hb⟩
  obtain ⟨f1, fd1, G1, m1, k1, b1⟩ := HS
  obtain ⟨f2, fd2, G2, m2, k2, b2⟩ := HR
  obtain ⟨f3, fd3, G3, m3, k3, b3⟩ := HW
  obtain ⟨f4, fd4, G4, m4, k4, b4⟩ := HX
  refine F.ok scLawRight (fun vs H Q E h => ?_) (fun cdv A outer s H vs Q E hr h => ?_)
  · obtain ⟨a, tl, ls, vp, vf, v1, v2, ns, es, e1, e2, i, j, rfl, _⟩ := h
    rfl
  · obtain ⟨a, tl, ls, vp, vf, v1, v2, ns, es, e1, e2, i, j, rfl, R, q⟩ := h
    have hu5 := room65 hr
    refine ⟨_, pss_cons (ps_if (pt_not (pt_val (pe_call G1 hr (by rfl) m1 k1 b1 .nil pass0 (pa_cons (pv 0) (pa_cons (pe_ix ix_tup (pv 2) pe_int (fun _ _ => rfl)) (pa_cons (pe_ix ix_tup (pv 2) pe_int (fun _ _ => rfl)) (pa_cons (pv 3) pa_nil))))))) pss_never pss_nil)
      (pss_cons (ps_if (PW.pt (pw_or (pt_cmpR op_ne (pe_cmpR op_eq (pe_ix ix_tup (pv 3) pe_int (fun _ _ => rfl)) pe_str (nomark _)) (pe_cmpR (op_inT hu5) (pv 2) (pe_ix ix_list (pv 4) pe_int (fun _ _ => rfl)) (by with_unfolding_all rfl)) (nomark _))
          (pw_or1 (pt_cmpR op_ne (pe_cmpR op_eq (pe_ix ix_tup (pv 3) pe_int (fun _ _ => rfl)) pe_str (nomark _)) (pe_cmpR (op_inT hu5) (pv 2) (pe_ix ix_list (pv 4) pe_int (fun _ _ => rfl)) (by with_unfolding_all rfl)) (nomark _))))) pss_never pss_nil)
      (pss_cons (ps_if (pt_cmpR op_eq (pe_ix ix_tup (pv 3) pe_int (fun _ _ => rfl)) pe_str (nomark _))
          (pss_cons (ps_if (PW.pt (pw_or (pt_not (pt_val (pe_call G2 (hr.mono (by decide)) (by rfl) m2 k2 b2 .nil pass0 (pa_cons (pe_ix ix_tup (pv 3) pe_int (fun _ _ => rfl)) (pa_cons (pv 0) pa_nil)))))
              (pw_or1 (pt_not (pt_val (pe_call G2 (hr.mono (by decide)) (by rfl) m2 k2 b2 .nil pass0 (pa_cons (pe_ix ix_tup (pv 3) pe_int (fun _ _ => rfl)) (pa_cons (pv 0) pa_nil)))))))) pss_never pss_nil)
          (pss_one (ps_ret (pe_and (pe_cmpR (op_inT hu5) (pv 2) (pe_ix ix_tup (pe_ix ix_tup (pv 3) pe_int (fun _ _ => rfl)) pe_int (fun _ _ => rfl)) (by with_unfolding_all rfl))
              (pe_one (pe_cmpR (op_notInT hu5) (pv 2) (pe_ix ix_tup (pe_ix ix_tup (pv 3) pe_int (fun _ _ => rfl)) pe_int (fun _ _ => rfl)) (by with_unfolding_all rfl))))))) pss_nil)
      (pss_cons (ps_set (i := 5) scLawRight.nd rfl (.inl rfl) (pe_ix ix_list (pe_lst (pa_cons pe_int (pa_cons (pe_un un_neg pe_int) pa_nil))) (pe_callTy call_int1 (by rfl) B.int (by decide +kernel) (pa_cons (pe_cmpR op_eq (pe_ix ix_tup (pv 3) pe_int (fun _ _ => rfl)) pe_str (nomark _)) pa_nil)) (fun _ _ => rfl)))
      (pss_cons (ps_set (i := 6) scLawRight.nd rfl (.inl rfl) (pe_callTy call_list_of (by rfl) B.list (by decide +kernel) (pa_cons (pv 0) pa_nil)))
      (pss_cons (ps_asg (pe_op op_add (pe_ix ix_list (pv 6) (pe_ix ix_tup (pv 2) pe_int (fun _ _ => rfl)) (fun _ _ => rfl)) (pv 5)) (pg_sub (pv 6) (pe_ix ix_tup (pv 2) pe_int (fun _ _ => rfl)) set_list))
      (pss_cons (ps_asg (pe_op op_add (pe_ix ix_list (pv 6) (pe_ix ix_tup (pv 2) pe_int (fun _ _ => rfl)) (fun _ _ => rfl)) (pv 5)) (pg_sub (pv 6) (pe_ix ix_tup (pv 2) pe_int (fun _ _ => rfl)) set_list))
      (pss_cons (ps_if (pt_cmpR (op_neD hr.units) (pe_ix ix_tup (pv 3) pe_int (fun _ _ => rfl)) (pe_call G3 (hr.mono (by decide)) (by rfl) m3 k3 b3 .nil pass0 (pa_cons (pv 6) pa_nil)) (nomark _)) pss_never pss_nil)
      (pss_one (ps_ret (pe_and (pe_cmpR op_eq (pe_cmpR op_eq (pe_ix ix_tup (pv 3) pe_int (fun _ _ => rfl)) pe_str (nomark _)) (pe_cmpR (op_inT hu5) (pv 2) (pv 1) (by with_unfolding_all rfl)) (nomark _))
          (pe_one (pe_call G4 (hr.mono (by decide)) (by rfl) m4 k4 b4 .nil pass0 (pa_cons (pv 6) (pa_cons (pe_ix ix_tup (pv 3) pe_int (fun _ _ => rfl)) pa_nil)))))))))))))), ?_⟩
    obtain ⟨tp, rfl, htp⟩ := tie_of R.pair
    have hi : i < ns.length := Nat.lt_trans R.lt R.hj
    have hij : i ≠ j := Nat.ne_of_lt R.lt
    have hj := R.hj
    have hl1 : (TW.mv1 ns i 1).length = ns.length := TW.mv1_length _ _ _
    have hl1' : (TW.mv1 ns i (-1)).length = ns.length := TW.mv1_length _ _ _
    have hl2 := TW.mv2_length ns i j 1
    have hl2' := TW.mv2_length ns i j (-1)
    have hnorm : TW.norm (i, j) = (i, j) := TW.norm_lt R.lt
    have hm1 : (i, j) ∈ e1 ↔ TW.wallOf (TW.mv2 ns i j 1) ≠ none := (R.p1 (i, j)).trans ⟨fun z => z.2.2.2, fun z => ⟨R.lt, hj, .inl hi, z⟩⟩
    have hm2 : (i, j) ∈ e2 ↔ TW.wallOf (TW.mv2 ns i j (-1)) ≠ none := (R.p2 (i, j)).trans ⟨fun z => z.2.2.2, fun z => ⟨R.lt, hj, .inl hi, z⟩⟩
    have ha : TW.wallOf (TW.mv2 ns i j 1) ≠ none → (i, j) ∈ es := fun z => by
      have := TW.tie_of_all R.web hi hj hij (by rw [R.right]; exact z)
      rw [hnorm] at this
      exact this
    have hn : TW.wallOf (TW.mv2 ns i j (-1)) ≠ none → (i, j) ∉ es := fun z => by
      have := TW.no_tie_of_none R.web hi hj hij (by rw [R.right]; exact z)
      rw [hnorm] at this
      exact this
    refine ⟨.ref a, rfl, .ref tp, rfl, tp, _, 1, _, rfl, rfl, htp, atI_nat (j := 1) rfl, .ref tp, rfl, tp, _, 0, _, rfl, rfl, htp, atI_nat (j := 0) rfl, vf, rfl, a, vf, ns, i, j, rfl, .inl R.tally, R.n2, R.n24, hi, hj, hij, R.none, R.tabs, R.found, fun H1 g1 => ⟨true, rfl, iteF ?_⟩⟩
    have R1 := R.ext g1
    have htp1 := g1.tup htp
    have hf1 := R1.found
    cases c1 : TW.wallOf (TW.mv2 ns i j 1) with
    | some wl =>
      have et : TW.toldOf ns i j = .all wl := by unfold TW.toldOf; rw [c1]
      have hin : (i, j) ∈ es := ha (by rw [c1]; exact fun z => nomatch z)
      have hin1 : (i, j) ∈ e1 := hm1.mpr (by rw [c1]; exact fun z => nomatch z)
      have hin2 : (i, j) ∉ e2 := fun z => hn (hm2.mp z) hin
      rw [et] at hf1
      obtain ⟨b, u, rfl, hb, hu⟩ := tupS_of hf1
      refine ⟨.ref b, rfl, b, _, 0, _, rfl, rfl, hb, atI_nat (j := 0) rfl, rfl, .ref tp, rfl, .ref ls, rfl, ls, _, 0, _, rfl, rfl, R1.lists, atI_nat (j := 0) rfl, tieD (i, j), e1.map tieD, R1.pair, .inr ⟨R1.l1, tiesL_shaped e1⟩, tie_shaped (i, j), rfl, _, rfl, ?_⟩
      rw [ties_any, decide_eq_true hin1, decide_eq_true (show V.str "all" = V.str "all" from rfl)]
      refine neF rfl ?_
      refine ⟨.ref b, rfl, b, _, 0, _, rfl, rfl, hb, atI_nat (j := 0) rfl, rfl, .ref tp, rfl, .ref ls, rfl, ls, _, 1, _, rfl, rfl, R1.lists, atI_nat (j := 1) rfl, tieD (i, j), e2.map tieD, R1.pair, .inr ⟨R1.l2, tiesL_shaped e2⟩, tie_shaped (i, j), rfl, _, rfl, ?_⟩
      rw [ties_any, decide_eq_false hin2, decide_eq_false (show ¬ V.str "all" = V.str "none" by decide)]
      refine neF rfl ?_
      refine ⟨.ref b, rfl, b, _, 0, _, rfl, rfl, hb, atI_nat (j := 0) rfl, rfl, _, rfl, ifF (by decide) ?_⟩
      refine ⟨_, rfl, by show 2 ≤ sizeLine; decide, fun l nl => ?_⟩
      have g2 : Gw T H1 (upd H1 l (.lst [.int 1, .int (-1)])) := Gw.new nl
      refine ⟨.ref b, rfl, b, _, 0, _, rfl, rfl, g2.tup hb, atI_nat (j := 0) rfl, rfl, .inr ⟨_, rfl, ?_⟩⟩
      rw [decide_eq_false (show ¬ V.str "all" = V.str "none" by decide)]
      refine ⟨l, _, 0, .int 1, rfl, rfl, .inl (.inl upd_same), atI_nat (j := 0) rfl, ?_⟩
      refine ⟨.ref a, rfl, a, _, rfl, .inl (g2.seq R1.tally), fun m nm => ?_⟩
      have g3 := g2.to (o := .lst (ns.map V.int)) nm
      have eM : upd (upd H1 l (.lst [.int 1, .int (-1)])) m (.lst (ns.map V.int)) m = some (.lst (ns.map V.int)) := upd_same
      have nm1 : New H1 m := g2.fresh nm
      have htp3 := g3.tup htp1
      generalize upd (upd H1 l (.lst [.int 1, .int (-1)])) m (.lst (ns.map V.int)) = H3 at *
      refine ⟨.ref m, rfl, .ref tp, rfl, tp, _, 0, _, rfl, rfl, htp3, atI_nat (j := 0) rfl, m, _, _, _, rfl, rfl, .inl (.inl eM), atI_nat (tv_at hi), .int 1, rfl, _, _, rfl, rfl, ?_⟩
      refine ⟨.ref m, rfl, .ref tp, rfl, tp, _, 0, _, rfl, rfl, htp3, atI_nat (j := 0) rfl, m, _, _, i, rfl, rfl, eM, ixNat (by rw [List.length_map]; exact hi), ?_⟩
      rw [lst_set]
      have eM4 : upd H3 m (.lst ((TW.mv1 ns i 1).map V.int)) m = some (.lst ((TW.mv1 ns i 1).map V.int)) := upd_same
      have htp4 : SqT K (upd H3 m (.lst ((TW.mv1 ns i 1).map V.int))) tp [natV i, natV j] := sqT_mut eM htp3
      refine ⟨.ref m, rfl, .ref tp, rfl, tp, _, 1, _, rfl, rfl, htp4, atI_nat (j := 1) rfl, m, _, _, _, rfl, rfl, .inl (.inl eM4), atI_nat (tv_at (by rw [hl1]; exact hj)), .int 1, rfl, _, _, rfl, rfl, ?_⟩
      refine ⟨.ref m, rfl, .ref tp, rfl, tp, _, 1, _, rfl, rfl, htp4, atI_nat (j := 1) rfl, m, _, _, j, rfl, rfl, eM4, ixNat (by rw [List.length_map, hl1]; exact hj), ?_⟩
      rw [lst_set, upd_upd]
      have g5 : Gw T H1 (upd H3 m (.lst ((TW.mv2 ns i j 1).map V.int))) := g3.mut nm1 eM (.inl ⟨_, rfl⟩)
      have eM5 : upd H3 m (.lst ((TW.mv2 ns i j 1).map V.int)) m = some (.lst ((TW.mv2 ns i j 1).map V.int)) := upd_same
      have eW : upd H3 m (.lst (((TW.mv1 ns i 1).set j (TW.tv (TW.mv1 ns i 1) j + 1)).map V.int)) = upd H3 m (.lst ((TW.mv2 ns i j 1).map V.int)) := rfl
      rw [eW]
      generalize upd H3 m (.lst ((TW.mv2 ns i j 1).map V.int)) = H5 at *
      have n2 := R.n2
      have n24 := R.n24
      refine ⟨.ref b, rfl, b, _, 1, _, rfl, rfl, g5.tup hb, atI_nat (j := 1) rfl, .ref m, rfl, m, TW.mv2 ns i j 1, rfl, .inl (.inl (.inl eM5)), by omega, by omega, g5.tab R1.tabs, fun H6 v6 g6 hv6 => ?_⟩
      rw [c1] at hv6
      have g16 := g5.trans g6
      refine ⟨wallD (some wl), wallD (some wl), g16.dp hu, hv6, wall_shaped _, wall_shaped _, _, rfl, ?_⟩
      rw [eqv_self (wall_shaped _)]
      refine iteF ?_
      refine ⟨.ref b, rfl, b, _, 0, _, rfl, rfl, g16.tup hb, atI_nat (j := 0) rfl, rfl, .ref tp, rfl, .ref tl, rfl, tieD (i, j), es.map tieD, g16.dp R1.pair, .inr ⟨g16.dp R1.ties, tiesL_shaped es⟩, tie_shaped (i, j), rfl, true, ?_, ?_⟩
      · rw [ties_any, decide_eq_true hin, decide_eq_true (show V.str "all" = V.str "all" from rfl)]
        rfl
      refine iteT ?_
      refine ⟨.ref m, rfl, .ref b, rfl, b, _, 1, _, rfl, rfl, g16.tup hb, atI_nat (j := 1) rfl, m, u, TW.mv2 ns i j 1, wl, rfl, .inl (.inl (.inl (g6.at eM5))), by omega, by omega, g16.tab R1.tabs, c1, g16.dp hu, fun H7 g7 => q H7 ((g1.trans g16).trans g7)⟩
    | none =>
      have hin1 : (i, j) ∉ e1 := fun z => hm1.mp z c1
      cases c2 : TW.wallOf (TW.mv2 ns i j (-1)) with
      | some wl =>
        have et : TW.toldOf ns i j = .none wl := by unfold TW.toldOf; rw [c1]; dsimp only; rw [c2]
        have hin2 : (i, j) ∈ e2 := hm2.mpr (by rw [c2]; exact fun z => nomatch z)
        have hin : (i, j) ∉ es := hn (by rw [c2]; exact fun z => nomatch z)
        rw [et] at hf1
        obtain ⟨b, u, rfl, hb, hu⟩ := tupS_of hf1
        refine ⟨.ref b, rfl, b, _, 0, _, rfl, rfl, hb, atI_nat (j := 0) rfl, rfl, .ref tp, rfl, .ref ls, rfl, ls, _, 0, _, rfl, rfl, R1.lists, atI_nat (j := 0) rfl, tieD (i, j), e1.map tieD, R1.pair, .inr ⟨R1.l1, tiesL_shaped e1⟩, tie_shaped (i, j), rfl, _, rfl, ?_⟩
        rw [ties_any, decide_eq_false hin1, decide_eq_false (show ¬ V.str "none" = V.str "all" by decide)]
        refine neF rfl ?_
        refine ⟨.ref b, rfl, b, _, 0, _, rfl, rfl, hb, atI_nat (j := 0) rfl, rfl, .ref tp, rfl, .ref ls, rfl, ls, _, 1, _, rfl, rfl, R1.lists, atI_nat (j := 1) rfl, tieD (i, j), e2.map tieD, R1.pair, .inr ⟨R1.l2, tiesL_shaped e2⟩, tie_shaped (i, j), rfl, _, rfl, ?_⟩
        rw [ties_any, decide_eq_true hin2, decide_eq_true (show V.str "none" = V.str "none" from rfl)]
        refine neF rfl ?_
        refine ⟨.ref b, rfl, b, _, 0, _, rfl, rfl, hb, atI_nat (j := 0) rfl, rfl, _, rfl, ifF (by decide) ?_⟩
        refine ⟨_, rfl, by show 2 ≤ sizeLine; decide, fun l nl => ?_⟩
        have g2 : Gw T H1 (upd H1 l (.lst [.int 1, .int (-1)])) := Gw.new nl
        refine ⟨.ref b, rfl, b, _, 0, _, rfl, rfl, g2.tup hb, atI_nat (j := 0) rfl, rfl, .inr ⟨_, rfl, ?_⟩⟩
        rw [decide_eq_true (show V.str "none" = V.str "none" from rfl)]
        refine ⟨l, _, 1, .int (-1), rfl, rfl, .inl (.inl upd_same), atI_nat (j := 1) rfl, ?_⟩
        refine ⟨.ref a, rfl, a, _, rfl, .inl (g2.seq R1.tally), fun m nm => ?_⟩
        have g3 := g2.to (o := .lst (ns.map V.int)) nm
        have eM : upd (upd H1 l (.lst [.int 1, .int (-1)])) m (.lst (ns.map V.int)) m = some (.lst (ns.map V.int)) := upd_same
        have nm1 : New H1 m := g2.fresh nm
        have htp3 := g3.tup htp1
        generalize upd (upd H1 l (.lst [.int 1, .int (-1)])) m (.lst (ns.map V.int)) = H3 at *
        refine ⟨.ref m, rfl, .ref tp, rfl, tp, _, 0, _, rfl, rfl, htp3, atI_nat (j := 0) rfl, m, _, _, _, rfl, rfl, .inl (.inl eM), atI_nat (tv_at hi), .int (-1), rfl, _, _, rfl, rfl, ?_⟩
        refine ⟨.ref m, rfl, .ref tp, rfl, tp, _, 0, _, rfl, rfl, htp3, atI_nat (j := 0) rfl, m, _, _, i, rfl, rfl, eM, ixNat (by rw [List.length_map]; exact hi), ?_⟩
        rw [lst_set]
        have eM4 : upd H3 m (.lst ((TW.mv1 ns i (-1)).map V.int)) m = some (.lst ((TW.mv1 ns i (-1)).map V.int)) := upd_same
        have htp4 : SqT K (upd H3 m (.lst ((TW.mv1 ns i (-1)).map V.int))) tp [natV i, natV j] := sqT_mut eM htp3
        refine ⟨.ref m, rfl, .ref tp, rfl, tp, _, 1, _, rfl, rfl, htp4, atI_nat (j := 1) rfl, m, _, _, _, rfl, rfl, .inl (.inl eM4), atI_nat (tv_at (by rw [hl1']; exact hj)), .int (-1), rfl, _, _, rfl, rfl, ?_⟩
        refine ⟨.ref m, rfl, .ref tp, rfl, tp, _, 1, _, rfl, rfl, htp4, atI_nat (j := 1) rfl, m, _, _, j, rfl, rfl, eM4, ixNat (by rw [List.length_map, hl1']; exact hj), ?_⟩
        rw [lst_set, upd_upd]
        have g5 : Gw T H1 (upd H3 m (.lst ((TW.mv2 ns i j (-1)).map V.int))) := g3.mut nm1 eM (.inl ⟨_, rfl⟩)
        have eM5 : upd H3 m (.lst ((TW.mv2 ns i j (-1)).map V.int)) m = some (.lst ((TW.mv2 ns i j (-1)).map V.int)) := upd_same
        have eW : upd H3 m (.lst (((TW.mv1 ns i (-1)).set j (TW.tv (TW.mv1 ns i (-1)) j + (-1))).map V.int)) = upd H3 m (.lst ((TW.mv2 ns i j (-1)).map V.int)) := rfl
        rw [eW]
        generalize upd H3 m (.lst ((TW.mv2 ns i j (-1)).map V.int)) = H5 at *
        have n2 := R.n2
        have n24 := R.n24
        refine ⟨.ref b, rfl, b, _, 1, _, rfl, rfl, g5.tup hb, atI_nat (j := 1) rfl, .ref m, rfl, m, TW.mv2 ns i j (-1), rfl, .inl (.inl (.inl eM5)), by omega, by omega, g5.tab R1.tabs, fun H6 v6 g6 hv6 => ?_⟩
        rw [c2] at hv6
        have g16 := g5.trans g6
        refine ⟨wallD (some wl), wallD (some wl), g16.dp hu, hv6, wall_shaped _, wall_shaped _, _, rfl, ?_⟩
        rw [eqv_self (wall_shaped _)]
        refine iteF ?_
        refine ⟨.ref b, rfl, b, _, 0, _, rfl, rfl, g16.tup hb, atI_nat (j := 0) rfl, rfl, .ref tp, rfl, .ref tl, rfl, tieD (i, j), es.map tieD, g16.dp R1.pair, .inr ⟨g16.dp R1.ties, tiesL_shaped es⟩, tie_shaped (i, j), rfl, true, ?_, ?_⟩
        · rw [ties_any, decide_eq_false hin, decide_eq_false (show ¬ V.str "none" = V.str "all" by decide)]
          rfl
        refine iteT ?_
        refine ⟨.ref m, rfl, .ref b, rfl, b, _, 1, _, rfl, rfl, g16.tup hb, atI_nat (j := 1) rfl, m, u, TW.mv2 ns i j (-1), wl, rfl, .inl (.inl (.inl (g6.at eM5))), by omega, by omega, g16.tab R1.tabs, c2, g16.dp hu, fun H7 g7 => q H7 ((g1.trans g16).trans g7)⟩
      | none =>
        have et : TW.toldOf ns i j = .some (TW.webBy ns i (TW.near1 ns i j)) (TW.webBy ns i (TW.near2 ns i j)) := by unfold TW.toldOf; rw [c1]; dsimp only; rw [c2]
        have N2 := TW.some_without hi hj hij R.none c1
        obtain ⟨N1, hpos⟩ := TW.some_with hi hj hij R.none c2
        have hin2 : (i, j) ∉ e2 := fun z => hm2.mp z c2
        have W1 := TW.webBy_ok N1
        have W2 := TW.webBy_ok N2
        have T1 := TW.webBy_tally N1
        have T2 := TW.webBy_tally N2
        have I1 : (i, j) ∈ TW.webBy ns i (TW.near1 ns i j) := by
          have := (TW.webBy_tie N1 j).mpr (List.mem_cons_self ..)
          rw [hnorm] at this
          exact this
        have I2 : (i, j) ∉ TW.webBy ns i (TW.near2 ns i j) := fun z => by
          rw [← hnorm] at z
          exact TW.near2_no ns i j ((TW.webBy_tie N2 j).mp z)
        rw [et] at hf1
        generalize TW.webBy ns i (TW.near1 ns i j) = x1 at *
        generalize TW.webBy ns i (TW.near2 ns i j) = x2 at *
        obtain ⟨b, u1, u2, rfl, hb, hu1, hu2⟩ := tupS3_of hf1
        refine ⟨.ref b, rfl, b, _, 0, _, rfl, rfl, hb, atI_nat (j := 0) rfl, rfl, .ref tp, rfl, .ref ls, rfl, ls, _, 0, _, rfl, rfl, R1.lists, atI_nat (j := 0) rfl, tieD (i, j), e1.map tieD, R1.pair, .inr ⟨R1.l1, tiesL_shaped e1⟩, tie_shaped (i, j), rfl, _, rfl, ?_⟩
        rw [ties_any, decide_eq_false hin1, decide_eq_false (show ¬ V.str "some" = V.str "all" by decide)]
        refine neF rfl ?_
        refine ⟨.ref b, rfl, b, _, 0, _, rfl, rfl, hb, atI_nat (j := 0) rfl, rfl, .ref tp, rfl, .ref ls, rfl, ls, _, 1, _, rfl, rfl, R1.lists, atI_nat (j := 1) rfl, tieD (i, j), e2.map tieD, R1.pair, .inr ⟨R1.l2, tiesL_shaped e2⟩, tie_shaped (i, j), rfl, _, rfl, ?_⟩
        rw [ties_any, decide_eq_false hin2, decide_eq_false (show ¬ V.str "some" = V.str "none" by decide)]
        refine neF rfl ?_
        refine ⟨.ref b, rfl, b, _, 0, _, rfl, rfl, hb, atI_nat (j := 0) rfl, rfl, _, rfl, ifT rfl ?_⟩
        have n2 := R.n2
        refine ⟨.ref b, rfl, b, _, 1, _, rfl, rfl, hb, atI_nat (j := 1) rfl, .ref a, rfl, a, u1, ns, x1, rfl, R1.tally, hu1, by omega, R.n24, W1, T1, fun H2 g2 => ⟨true, rfl, iteF ?_⟩⟩
        refine ⟨.ref b, rfl, b, _, 2, _, rfl, rfl, g2.tup hb, atI_nat (j := 2) rfl, .ref a, rfl, a, u2, ns, x2, rfl, g2.seq R1.tally, g2.dp hu2, by omega, R.n24, W2, T2, fun H3 g3 => ⟨true, rfl, iteF ?_⟩⟩
        have g13 := g2.trans g3
        obtain ⟨wa, ta, xs, rfl, hwa, hta, hD⟩ := web_of (g13.dp hu1)
        obtain ⟨wa2, ta2, xs2, rfl, hwa2, hta2, hD2⟩ := web_of (g13.dp hu2)
        refine ⟨.ref tp, rfl, .ref b, rfl, b, _, 1, _, rfl, rfl, g13.tup hb, atI_nat (j := 1) rfl, wa, _, 1, _, rfl, rfl, hwa, atI_nat (j := 1) rfl, tieD (i, j), x1.map tieD, g13.dp R1.pair, .inl ⟨.tup hta hD, ties_shaped x1⟩, tie_shaped (i, j), true, ?_, ?_⟩
        · rw [ties_any, decide_eq_true I1]
        refine iteT ?_
        refine ⟨.ref tp, rfl, .ref b, rfl, b, _, 2, _, rfl, rfl, g13.tup hb, atI_nat (j := 2) rfl, wa2, _, 1, _, rfl, rfl, hwa2, atI_nat (j := 1) rfl, tieD (i, j), x2.map tieD, g13.dp R1.pair, .tup hta2 hD2, tie_shaped (i, j), ties_shaped x2, ?_⟩
        rw [ties_any, decide_eq_false I2]
        exact q H3 (g1.trans g13)
end
end TWR
set_option Elab.async false
set_option linter.all false
set_option maxRecDepth 100000
set_option maxHeartbeats 4000000
namespace TWR
open PySem PySem.Spec PyProof.Rows L2 LamX
theorem tally_made (n : Nat) (es : List (Nat × Nat)) : TW.tallyT n (TW.madeT es) = TW.tallyT n es := by
  unfold TW.tallyT
  exact List.map_congr_left fun v _ => TW.madeT_deg es v
theorem web_good {n : Nat} {es : List (Nat × Nat)} (h : TW.WebOk n es) : TW.GoodT n es := by
  refine ⟨fun p hp => ?_, ?_⟩
  · have := h.fit p hp
    omega
  · have : es.map TW.norm = es := by
      have := List.map_congr_left (f := TW.norm) (g := id) (l := es) fun p hp => TW.norm_lt (h.fit p hp).1
      rw [this, List.map_id]
    rw [this]
    exact h.nodup
theorem cut_ints (xs : List Int) (lo hi : Option Int) : ∃ ys : List Int, cutV (xs.map V.int) lo hi = ys.map V.int ∧ ys.length ≤ xs.length := by
  unfold cutV
  rw [List.length_map, ← List.map_drop, ← List.map_take]
  refine ⟨_, rfl, ?_⟩
  rw [List.length_take, List.length_drop]
  omega
section
variable {P : Program} {w : World} {K : PySem.W.Frag} {mg : Str → Option Value} {base : Heap} {T : Tbls} {H : Hp} {a : Addr} {ns : List Int}
structure LawBase (T : Tbls) (K : PySem.W.Frag) (H : Hp) (a tl ls : Addr) (v1 v2 : V) (ns : List Int) (es e1 e2 : List (Nat × Nat)) : Prop where
  tally : SqL K H a (ns.map V.int)
  n2 : 2 ≤ ns.length
  n24 : ns.length ≤ 24
  none : TW.wallOf ns = Option.none
  web : TW.WebOk ns.length es
  right : TW.tallyT ns.length es = ns
  ties : Dp K H (.ref tl) (tiesL es)
  lists : SqL K H ls [v1, v2]
  l1 : Dp K H v1 (tiesL e1)
  l2 : Dp K H v2 (tiesL e2)
  p1 : PwTo ns 1 ns.length 0 e1
  p2 : PwTo ns (-1) ns.length 0 e2
  tabs : Tabs T H
theorem LawBase.ext {H' : Hp} {tl ls : Addr} {v1 v2 : V} {es e1 e2 : List (Nat × Nat)} (R : LawBase T K H a tl ls v1 v2 ns es e1 e2) (g : Gw T H H') : LawBase T K H' a tl ls v1 v2 ns es e1 e2 :=
  ⟨g.seq R.tally, R.n2, R.n24, R.none, R.web, R.right, g.dp R.ties, g.seq R.lists, g.dp R.l1, g.dp R.l2, R.p1, R.p2, g.tab R.tabs⟩
/-- pairs of places -/
def PrOk (K : PySem.W.Frag) (H : Hp) (n : Nat) (x : V) : Prop := ∃ i j : Nat, i < j ∧ j < n ∧ Dp K H x (tieD (i, j))
def spLaw (T : Tbls) (K : PySem.W.Frag) : Sp := fun vs H Q _ => ∃ (s : Addr) (xs : List Int), vs = [.ref s] ∧ SqL K H s (xs.map V.int) ∧ xs.length ≤ 63 ∧ Tabs T H ∧ ∀ H', Q (.bl true) H'
theorem ok_law {f : Addr} {fd : FuncData} (F : Fun K "law" "law" sLaw f fd) (B : NoB mg) (HC : Has P w K mg base 1 "_law_cell_at" ["script", "k"] (spCell K)) (HT : Has P w K mg base 2 "_law_ties" ["places", "cell", "way"] (spTies T)) (HM : Has P w K mg base 2 "made" ["places", "ties"] (spMade T K))
    (HY : Has P w K mg base 1 "tally_of" ["web"] (spTal T K)) (HA : Has P w K mg base 7 "always" ["tally"] (spAlw 1 T K)) (HN : Has P w K mg base 7 "never" ["tally"] (spAlw (-1) T K)) (HP : Has P w K mg base 1 "_law_pairs" ["places"] (spPairs T))
    (HX : Has P w K mg base 7 "pair_told" ["tally", "one", "other"] (spPT T K)) (HR : Has P w K mg base 8 "_law_right" ["tally", "ties", "pair", "found", "lists"] (spRight T K)) : FnOk P w K mg base CX0 9 f fd ["script"] (spLaw T K) := by
  obtain ⟨f1, fd1, G1, m1, k1, b1⟩ := HC
  obtain ⟨f2, fd2, G2, m2, k2, b2⟩ := HT
  obtain ⟨f3, fd3, G3, m3, k3, b3⟩ := HM
  obtain ⟨f4, fd4, G4, m4, k4, b4⟩ := HY
  obtain ⟨f5, fd5, G5, m5, k5, b5⟩ := HA
  obtain ⟨f6, fd6, G6, m6, k6, b6⟩ := HN
  obtain ⟨f7, fd7, G7, m7, k7, b7⟩ := HP
  obtain ⟨f8, fd8, G8, m8, k8, b8⟩ := HX
  obtain ⟨f9, fd9, G9, m9, k9, b9⟩ := HR
  refine F.ok scLaw (fun vs H Q E h => ?_) (fun cdv A outer s H vs Q E hr h => ?_)
  · obtain ⟨s, xs, rfl, _⟩ := h
    rfl
  · obtain ⟨sa, cells, rfl, hS, hlen, hT, q⟩ := h
    refine ⟨_, pss_cons (ps_set (i := 1) scLaw.nd rfl (.inl rfl) (pe_op op_mod (pe_call G1 (hr.mono (by decide)) (by rfl) m1 k1 b1 .nil pass0 (pa_cons (pv 0) (pa_cons pe_int pa_nil))) (pe_op op_pow pe_int pe_int)))
      (pss_cons (ps_set (i := 2) scLaw.nd rfl (.inl rfl) (pe_op op_add pe_int (pe_op op_mod (pv 1) pe_int)))
      (pss_cons (ps_if (pt_cmpR op_eq (pe_op op_mod (pe_op op_fdiv (pv 1) pe_int) pe_int) pe_int (nomark _)) (pss_one (ps_set (i := 2) scLaw.nd rfl (.inl rfl) (pe_op op_add pe_int (pe_op op_mod (pe_op op_fdiv (pv 1) pe_int) pe_int)))) pss_nil)
      (pss_cons (ps_set (i := 3) scLaw.nd rfl (.inl rfl) (pe_call G2 (hr.mono (by decide)) (by rfl) m2 k2 b2 .nil pass0 (pa_cons (pv 2) (pa_cons (pe_call G1 (hr.mono (by decide)) (by rfl) m1 k1 b1 .nil pass0 (pa_cons (pv 0) (pa_cons pe_int pa_nil))) (pa_cons (pe_op op_mod (pe_op op_fdiv (pv 1) pe_int) pe_int) pa_nil)))))
      (pss_cons (ps_set (i := 4) scLaw.nd rfl (.inl rfl) (pe_call G4 (hr.mono (by decide)) (by rfl) m4 k4 b4 .nil pass0 (pa_cons (pe_call G3 (hr.mono (by decide)) (by rfl) m3 k3 b3 .nil pass0 (pa_cons (pv 2) (pa_cons (pv 3) pa_nil))) pa_nil)))
      (pss_cons (ps_set (i := 5) scLaw.nd rfl (.inl rfl) (pe_lst (pa_cons (pe_call G5 (hr.mono (by decide)) (by rfl) m5 k5 b5 .nil pass0 (pa_cons (pv 4) pa_nil)) (pa_cons (pe_call G6 (hr.mono (by decide)) (by rfl) m6 k6 b6 .nil pass0 (pa_cons (pv 4) pa_nil)) pa_nil))))
      (pss_cons (ps_set (i := 6) scLaw.nd rfl (.inr rfl) (pe_call G7 (hr.mono (by decide)) (by rfl) m7 k7 b7 .nil pass0 (pa_cons (pv 2) pa_nil)))
      (pss_cons (ps_if (pt_cmpR op_gt (pv 2) pe_int (nomark _))
          (pss_one (ps_set (i := 6) scLaw.nd rfl (.inr rfl) (pe_lc (own := [("cell", 9)]) (g := gName 9) (tt := tYes) rfl scLaw.nd (pi_list (pe_op op_cat (pe_lst (pa_cons (pv 1) pa_nil)) (pe_slice sl_list (pv 0) (po_some pe_int) (po_some pe_int))))
            (blkOk_by (own := [("cell", 9)]) (N := ["script", "base", "places", "ties", "tally", "lists", "pairs", "pair", "found", "cell"]) (sc := defScope sLaw) (by decide +kernel)) (fun _ _ _ _ _ => pg_name (i := 9) scLaw.nd rfl (Or.inl rfl)) (fun _ _ _ _ _ => pts_nil)
            (fun _ _ _ _ _ => pe_ix (r := rIx K) ix_seq (pv 6) (pe_op op_mod (pv 9) (pe_callB (r := fun xs H Q => ∃ p ys, xs = [.ref p] ∧ (SqL K H p ys ∨ SqT K H p ys) ∧ Q (.int ys.length) H) call_len_seq (by rfl) B.len PySem.boot_len (pa_cons (pv 6) pa_nil))) (fun _ _ => rfl))))) pss_nil)
      (pss_cons (ps_for PassesOwn.never rfl (pi_list (pv 6)) (pg_name (i := 7) scLaw.nd rfl (.inl rfl))
        (pss_cons (ps_set (i := 8) scLaw.nd rfl (.inl rfl) (pe_call G8 (hr.mono (by decide)) (by rfl) m8 k8 b8 .nil pass0 (pa_cons (pe_callTy call_tuple_of (by rfl) B.tuple (by decide +kernel) (pa_cons (pv 4) pa_nil)) (pa_cons (pe_ix ix_tup (pv 7) pe_int (fun _ _ => rfl)) (pa_cons (pe_ix ix_tup (pv 7) pe_int (fun _ _ => rfl)) pa_nil)))))
        (pss_one (ps_if (PW.pt (pw_or (pt_cmpR (op_neD hr.units) (pe_call G8 (hr.mono (by decide)) (by rfl) m8 k8 b8 .nil pass0 (pa_cons (pv 4) (pa_cons (pe_ix ix_tup (pv 7) pe_int (fun _ _ => rfl)) (pa_cons (pe_ix ix_tup (pv 7) pe_int (fun _ _ => rfl)) pa_nil)))) (pv 8) (nomark _))
            (pw_or1 (pt_not (pt_val (pe_call G9 hr (by rfl) m9 k9 b9 .nil pass0 (pa_cons (pv 4) (pa_cons (pv 3) (pa_cons (pv 7) (pa_cons (pv 8) (pa_cons (pv 5) pa_nil))))))))))) pss_never pss_nil))))
      (pss_one (ps_ret pe_bl)))))))))), ?_⟩
    refine ⟨.ref sa, rfl, sa, cells, 0, rfl, hS, fun z => ?_⟩
    have h40 : (0 : Int) < 10 ^ (40 : Int).toNat := by decide
    refine ⟨_, _, rfl, rfl, ⟨by decide, by decide, by decide⟩, _, _, rfl, rfl, h40, ?_⟩
    have hb0 := Int.emod_nonneg z (show (10 : Int) ^ (40 : Int).toNat ≠ 0 by decide)
    obtain ⟨bs, hbs⟩ : ∃ bs, z % 10 ^ (40 : Int).toNat = bs := ⟨_, rfl⟩
    rw [hbs] at hb0
    have hp1 := congrArg (fun v => some (some v)) (congrArg V.int hbs)
    refine ⟨.int bs, hp1, _, _, rfl, rfl, (show (0 : Int) < 8 by decide), _, _, rfl, rfl, ?_⟩
    refine ⟨.int bs, hp1, _, _, rfl, rfl, ⟨by decide, by decide⟩, _, _, rfl, rfl, (show (0 : Int) < 8 by decide), rfl, _, rfl, ite2 (fun c => ?A) (fun c => ?B)⟩
    case' A =>
      refine ⟨.int bs, hp1, _, _, rfl, rfl, ⟨by decide, by decide⟩, _, _, rfl, rfl, (show (0 : Int) < 7 by decide), _, _, rfl, rfl, ?_⟩
      obtain ⟨n, en, hn2, hn16⟩ : ∃ n : Nat, 10 + bs / 64 % 7 = (n : Int) ∧ 2 ≤ n ∧ n ≤ 16 := ⟨(10 + bs / 64 % 7).toNat, by omega, by omega, by omega⟩
      have hp2 : V.int (10 + bs / 64 % 7) = natV n := congrArg V.int en
    case' B =>
      obtain ⟨n, en, hn2, hn16⟩ : ∃ n : Nat, 2 + bs % 8 = (n : Int) ∧ 2 ≤ n ∧ n ≤ 16 := ⟨(2 + bs % 8).toNat, by omega, by omega, by omega⟩
      have hp2 : V.int (2 + bs % 8) = natV n := congrArg V.int en
    all_goals
      have hp2 := congrArg (fun v => some (some v)) hp2
      refine ⟨natV n, hp2, .ref sa, rfl, sa, cells, 1, rfl, hS, fun z1 => ?_⟩
      refine ⟨.int bs, hp1, _, _, rfl, rfl, ⟨by decide, by decide⟩, _, _, rfl, rfl, (show (0 : Int) < 4 by decide), n, z1, _, rfl, by omega, fun H1 tl acc es g1 n1 e1 hR hl hW => ?_⟩
      refine ⟨natV n, hp2, .ref tl, rfl, tl, n, es, acc, rfl, by omega, by omega, .inl (.inl e1), rfs_dps hR, web_good hW, hl, fun H2 v2 g2 hv2 => ?_⟩
      refine ⟨v2, n, TW.madeT es, rfl, hv2, by omega, fun p hp => by have := (TW.madeT_ok (web_good hW)).fit p hp; omega, fun H3 a g3 n3 e3 => ?_⟩
      rw [tally_made] at e3
      have hnone := TW.tally_none hW
      have hns := TW.tallyT_length n es
      generalize hn : TW.tallyT n es = ns at e3 hnone hns
      have g03 := (g1.trans g2).trans g3
      refine ⟨.ref a, rfl, a, ns, rfl, .inl (.inl (.inl e3)), by omega, by omega, hnone, g03.tab hT, fun H4 v4 e1s g4 hv4 hp4 => ?_⟩
      refine ⟨.ref a, rfl, a, ns, rfl, .inl (.inl (.inl (g4.at e3))), by omega, by omega, hnone, g4.tab (g03.tab hT), fun H5 v5 e2s g5 hv5 hp5 => ?_⟩
      refine ⟨by show 2 ≤ sizeLine; decide, fun ls nls => ?_⟩
      have gL : Gw T H5 (upd H5 ls (.lst [v4, v5])) := Gw.new nls
      have g05 := (g03.trans g4).trans g5
      have g25 := ((g2.trans g3).trans g4).trans g5
      have LB5 : LawBase T K (upd H5 ls (.lst [v4, v5])) a tl ls v4 v5 ns es e1s e2s :=
        ⟨.inl (.inl (gL.at (g5.at (g4.at e3)))), by omega, by omega, hnone, by rw [hns]; exact hW, by rw [hns]; exact hn, gL.dp (g25.dp (.lst (.inl (.inl e1)) (rfs_dps hR))), .inl (.inl upd_same), gL.dp (g5.dp hv4), gL.dp hv5, hp4, hp5, gL.tab (g05.tab hT)⟩
      have hS5 := gL.seq (g05.seq hS)
      refine ⟨natV n, hp2, n, rfl, by omega, fun H6 pl accP esP g6 n6 e6 hRP hlP hA => ?_⟩
      have LB6 := LB5.ext g6
      have hS6 := g6.seq hS5
      have hPr : ∀ x ∈ accP, PrOk K H6 n x := fun x hx => by
        obtain ⟨t, e, h⟩ := paired_mem hRP x hx
        obtain ⟨k, hk⟩ := List.getElem?_of_mem hx
        obtain ⟨p, e4, r4⟩ := paired_get hRP hk
        have h5 := (hA.mem p).mp (List.mem_of_getElem? e4)
        exact ⟨p.1, p.2, h5.1, h5.2.1, by
          obtain ⟨t, rfl, h6⟩ := r4
          exact tie_mk (.inl (.inl h6))⟩
      have hPl : 0 < accP.length := by
        have : (0, 1) ∈ esP := (hA.mem (0, 1)).mpr ⟨by decide, hn2, .inl (by show 0 < n; omega)⟩
        rw [Paired.length hRP]
        exact List.length_pos_of_mem this
      have hPl2 : accP.length ≤ 1000 := by rw [Paired.length hRP]; exact hlP
      by_cases c : (n : Int) > 9
      case' pos =>
        refine ⟨natV n, hp2, _, _, rfl, rfl, _, rfl, ifT c ?_⟩
        obtain ⟨ys, ey, hyl⟩ := cut_ints cells (some 2) (some 13)
        refine ⟨.int bs, hp1, by show 1 ≤ sizeLine; decide, fun b1 nb1 => ?_⟩
        have gb1 : Gw T H6 (upd H6 b1 (.lst [.int bs])) := Gw.new nb1
        refine ⟨.ref sa, rfl, _, rfl, _, rfl, sa, _, rfl, gb1.seq hS6, fun b2 nb2 => ?_⟩
        rw [ey]
        have gb2 := gb1.to (o := .lst (ys.map V.int)) nb2
        refine ⟨b1, b2, [.int bs], ys.map V.int, rfl, rfl, (upd_ne (ne_of_none upd_same nb2)).trans upd_same, upd_same, ?_, fun b3 nb3 => ?_⟩
        · refine Nat.le_of_lt (small1000 ?_)
          show 1 + (ys.map V.int).length ≤ 1000
          rw [List.length_map]
          omega
        have gb3 := gb2.to (o := .lst ([.int bs] ++ ys.map V.int)) nb3
        have eb3 : upd (upd (upd H6 b1 (.lst [.int bs])) b2 (.lst (ys.map V.int))) b3 (.lst ([.int bs] ++ ys.map V.int)) b3 = some (.lst ((bs :: ys).map V.int)) := upd_same
        generalize upd (upd (upd H6 b1 (.lst [.int bs])) b2 (.lst (ys.map V.int))) b3 (.lst ([.int bs] ++ ys.map V.int)) = H7 at *
        have e67 := gb3.at e6
        refine ⟨b3, rfl, ⟨_, .inl (.inl eb3)⟩, fun d nd => ?_⟩
        refine lc_list (xs := (bs :: ys).map V.int) (fun k H9 => ∃ acc9, H9 d = some (.lst acc9) ∧ acc9.length = k ∧ Gw T H7 H9 ∧ ∀ x ∈ acc9, x ∈ accP) ⟨[], upd_same, rfl, Gw.new nd, fun x z => (nomatch z)⟩ (fun k H9 _ hP => ?_) (fun k x H9 hx hP => ?_) (fun H9 hP => ?_)
        · obtain ⟨_, _, _, g9, _⟩ := hP
          exact .inl (.inl (g9.at eb3))
        · obtain ⟨acc9, e9, ek9, g9, hs9⟩ := hP
          have hk : k < (bs :: ys).length := by
            have := (List.getElem?_eq_some_iff.mp hx).1
            rw [List.length_map] at this
            exact this
          rw [List.getElem?_map, List.getElem?_eq_getElem hk] at hx
          have hx := Option.some.inj hx
          subst hx
          generalize (bs :: ys)[k] = cc
          have e96 : H9 pl = some (.lst accP) := g9.at e67
          have hpos : (0 : Int) < (accP.length : Int) := by omega
          have h0 := Int.emod_nonneg cc (show (accP.length : Int) ≠ 0 by omega)
          have h1 := Int.emod_lt_of_pos cc hpos
          have hm : (cc % (accP.length : Int)).toNat < accP.length := by omega
          have hat : atI accP (cc % (accP.length : Int)) = some accP[(cc % (accP.length : Int)).toNat] := by
            have e := atI_nat (List.getElem?_eq_getElem hm)
            rw [Int.toNat_of_nonneg h0] at e
            exact e
          refine ⟨rfl, .ref pl, rfl, .int cc, rfl, .ref pl, rfl, pl, accP, rfl, .inl (.inl (.inl e96)), _, _, rfl, rfl, hpos, .inl ⟨pl, accP, _, accP[(cc % (accP.length : Int)).toNat], rfl, rfl, .inl (.inl e96), hat, acc9, e9, small1000 ?_, acc9 ++ [accP[(cc % (accP.length : Int)).toNat]], upd_same, ?_, g9.mut (New.none nd) e9 (.inl ⟨_, rfl⟩), fun x hx => ?_⟩⟩
          · rw [List.length_cons] at hk
            omega
          · rw [List.length_append, ek9]
            rfl
          · rcases List.mem_append.mp hx with hx | hx
            · exact hs9 x hx
            · obtain rfl := List.mem_singleton.mp hx
              exact List.getElem_mem hm
        obtain ⟨accF, e8, _, g9, hs9⟩ := hP
        have LB8 := LB6.ext (gb3.trans g9)
        have hF : ∀ x ∈ accF, PrOk K H9 n x := fun x hx => by
          obtain ⟨i, j, h1, h2, h3⟩ := hPr x (hs9 x hx)
          exact ⟨i, j, h1, h2, (gb3.trans g9).dp h3⟩
        clear hPr e6 hRP LB6 LB5 gb1 gb2 gb3 g9 hs9 eb3 e67
        generalize H9 = H8 at *
      case' neg =>
        refine ⟨natV n, hp2, _, _, rfl, rfl, _, rfl, ifF c ?_⟩
        have LB8 := LB6
        have hF := hPr
        have e8 := e6
        clear hPr e6 hRP LB6 LB5
        generalize H6 = H8 at *
        generalize accP = accF at *
      all_goals
        refine ⟨_, rfl, _, rfl, ⟨_, .inl (.inl e8)⟩, ?_⟩
        refine for_list (K := K) (xs := accF) (fun k σ H9 => ∃ y1 y2 y6 y7 y8 y9, σ = [some (.ref sa), y1, y2, some (.ref tl), some (.ref a), some (.ref ls), y6, y7, y8, y9] ∧ Gw T H8 H9) ⟨_, _, _, _, _, _, rfl, Gw.refl T H8⟩ (fun k σ H9 _ hP => ?_) (fun k x σ H9 hx hP => ?_) (fun σ H9 hP => ?_)
        · obtain ⟨_, _, _, _, _, _, _, g9⟩ := hP
          exact .inl (.inl (g9.at e8))
        · obtain ⟨y1, y2, y6, y7, y8, y9, rfl, g9⟩ := hP
          obtain ⟨i, j, hij, hjn, hd⟩ := hF x (List.mem_of_getElem? hx)
          have LB9 := LB8.ext g9
          obtain ⟨t, rfl, ht⟩ := tie_of (g9.dp hd)
          have hj : j < ns.length := by omega
          have hi : i < ns.length := by omega
          have hne : i ≠ j := by omega
          refine ⟨.ref a, rfl, a, _, rfl, .inl ⟨LB9.tally, fun u nu => ?_⟩⟩
          have gu : Gw T H9 (upd H9 u (.tup (ns.map V.int))) := Gw.new nu
          refine ⟨.ref t, rfl, t, _, 0, _, rfl, rfl, gu.tup ht, atI_nat (j := 0) rfl, .ref t, rfl, t, _, 1, _, rfl, rfl, gu.tup ht, atI_nat (j := 1) rfl, u, ns, i, j, rfl, .inr (.inl (.inl upd_same)), LB9.n2, LB9.n24, hi, hj, hne, LB9.none, gu.tab LB9.tabs, fun H10 v10 g10 hv10 => ?_⟩
          have gA := gu.trans g10
          have LB10 := LB9.ext gA
          refine ⟨.ref a, rfl, .ref t, rfl, t, _, 0, _, rfl, rfl, gA.tup ht, atI_nat (j := 0) rfl, .ref t, rfl, t, _, 1, _, rfl, rfl, gA.tup ht, atI_nat (j := 1) rfl, a, ns, i, j, rfl, .inl LB10.tally, LB9.n2, LB9.n24, hi, hj, hne, LB9.none, LB10.tabs, fun H11 v11 g11 hv11 => ?_⟩
          refine ⟨v10, rfl, toldD ns.length (TW.toldOf ns i j), toldD ns.length (TW.toldOf ns i j), hv11, g11.dp hv10, told_shaped _ _, told_shaped _ _, _, rfl, ?_⟩
          rw [eqv_self (told_shaped _ _)]
          refine iteF ?_
          have LB11 := LB10.ext g11
          have gB := gA.trans g11
          refine ⟨.ref a, rfl, .ref tl, rfl, .ref t, rfl, v10, rfl, .ref ls, rfl, a, tl, ls, .ref t, v10, v4, v5, ns, es, e1s, e2s, i, j, rfl, ⟨LB11.tally, LB11.n2, LB11.n24, LB11.none, LB11.web, LB11.right, LB11.ties, gB.dp (g9.dp hd), hij, hj, g11.dp hv10, LB11.lists, LB11.l1, LB11.l2, LB11.p1, LB11.p2, LB11.tabs⟩, fun H12 g12 => ⟨true, rfl, iteF ?_⟩⟩
          exact ⟨_, _, _, _, _, _, rfl, (g9.trans gB).trans g12⟩
        · obtain ⟨y1, y2, y6, y7, y8, y9, rfl, g9⟩ := hP
          exact q H9
end
end TWR
set_option Elab.async false
set_option linter.all false
set_option maxRecDepth 100000
set_option maxHeartbeats 4000000
namespace TWR
open PySem PySem.Spec PyProof.Rows L2 LamX
/-! ### the defs as data -/
def d_sLookAtTally : He.DefD := ⟨("look_at_tally", none), "look_at_tally", "look_at_tally", defArgs sLookAtTally, defBody sLookAtTally, defScope sLookAtTally, [], []⟩
def d_sLookAtPlace : He.DefD := ⟨("look_at_place", none), "look_at_place", "look_at_place", defArgs sLookAtPlace, defBody sLookAtPlace, defScope sLookAtPlace, [], []⟩
def d_sOrderOf : He.DefD := ⟨("order_of", none), "order_of", "order_of", defArgs sOrderOf, defBody sOrderOf, defScope sOrderOf, [], []⟩
def d_sMoved : He.DefD := ⟨("moved", none), "moved", "moved", defArgs sMoved, defBody sMoved, defScope sMoved, [], []⟩
def d_sBothMoved : He.DefD := ⟨("both_moved", none), "both_moved", "both_moved", defArgs sBothMoved, defBody sBothMoved, defScope sBothMoved, [], []⟩
def d_sRoomAt : He.DefD := ⟨("room_at", none), "room_at", "room_at", defArgs sRoomAt, defBody sRoomAt, defScope sRoomAt, [], []⟩
def d_sWallOf : He.DefD := ⟨("wall_of", none), "wall_of", "wall_of", defArgs sWallOf, defBody sWallOf, defScope sWallOf, [], []⟩
def d_sWallShows : He.DefD := ⟨("wall_shows", none), "wall_shows", "wall_shows", defArgs sWallShows, defBody sWallShows, defScope sWallShows, [], []⟩
def d_sGreatestOf : He.DefD := ⟨("greatest_of", none), "greatest_of", "greatest_of", defArgs sGreatestOf, defBody sGreatestOf, defScope sGreatestOf, [], []⟩
def d_sTiesFit : He.DefD := ⟨("ties_fit", none), "ties_fit", "ties_fit", defArgs sTiesFit, defBody sTiesFit, defScope sTiesFit, [], []⟩
def d_sTallyOf : He.DefD := ⟨("tally_of", none), "tally_of", "tally_of", defArgs sTallyOf, defBody sTallyOf, defScope sTallyOf, [], []⟩
def d_sMade : He.DefD := ⟨("made", none), "made", "made", defArgs sMade, defBody sMade, defScope sMade, [], []⟩
def d_sLaid : He.DefD := ⟨("laid", none), "laid", "laid", defArgs sLaid, defBody sLaid, defScope sLaid, [], []⟩
def d_sAnswered : He.DefD := ⟨("answered", none), "answered", "answered", defArgs sAnswered, defBody sAnswered, defScope sAnswered, [], []⟩
def d_sIsTold : He.DefD := ⟨("is_told", none), "is_told", "is_told", defArgs sIsTold, defBody sIsTold, defScope sIsTold, [], []⟩
def d_sIsWebOf : He.DefD := ⟨("is_web_of", none), "is_web_of", "is_web_of", defArgs sIsWebOf, defBody sIsWebOf, defScope sIsWebOf, [], []⟩
def d_sAnswerShows : He.DefD := ⟨("answer_shows", none), "answer_shows", "answer_shows", defArgs sAnswerShows, defBody sAnswerShows, defScope sAnswerShows, [], []⟩
def d_sLookAtWebs : He.DefD := ⟨("look_at_webs", none), "look_at_webs", "look_at_webs", defArgs sLookAtWebs, defBody sLookAtWebs, defScope sLookAtWebs, [], []⟩
def d_sLookAtPair : He.DefD := ⟨("look_at_pair", none), "look_at_pair", "look_at_pair", defArgs sLookAtPair, defBody sLookAtPair, defScope sLookAtPair, [], []⟩
def d_sWebBy : He.DefD := ⟨("web_by", none), "web_by", "web_by", defArgs sWebBy, defBody sWebBy, defScope sWebBy, [], []⟩
def d_sPairTold : He.DefD := ⟨("pair_told", none), "pair_told", "pair_told", defArgs sPairTold, defBody sPairTold, defScope sPairTold, [], []⟩
def d_sPairIn : He.DefD := ⟨("pair_in", none), "pair_in", "pair_in", defArgs sPairIn, defBody sPairIn, defScope sPairIn, [], []⟩
def d_sPairShows : He.DefD := ⟨("pair_shows", none), "pair_shows", "pair_shows", defArgs sPairShows, defBody sPairShows, defScope sPairShows, [], []⟩
def d_sPairsWithWall : He.DefD := ⟨("pairs_with_wall", none), "pairs_with_wall", "pairs_with_wall", defArgs sPairsWithWall, defBody sPairsWithWall, defScope sPairsWithWall, [], []⟩
def d_sAlways : He.DefD := ⟨("always", none), "always", "always", defArgs sAlways, defBody sAlways, defScope sAlways, [], []⟩
def d_sNever : He.DefD := ⟨("never", none), "never", "never", defArgs sNever, defBody sNever, defScope sNever, [], []⟩
def d_sLawCellAt : He.DefD := ⟨("_law_cell_at", none), "_law_cell_at", "_law_cell_at", defArgs sLawCellAt, defBody sLawCellAt, defScope sLawCellAt, [], []⟩
def d_sLawMixed : He.DefD := ⟨("_law_mixed", none), "_law_mixed", "_law_mixed", defArgs sLawMixed, defBody sLawMixed, defScope sLawMixed, [], []⟩
def d_sLawPairs : He.DefD := ⟨("_law_pairs", none), "_law_pairs", "_law_pairs", defArgs sLawPairs, defBody sLawPairs, defScope sLawPairs, [], []⟩
def d_sLawTies : He.DefD := ⟨("_law_ties", none), "_law_ties", "_law_ties", defArgs sLawTies, defBody sLawTies, defScope sLawTies, [], []⟩
def d_sLawWebRight : He.DefD := ⟨("_law_web_right", none), "_law_web_right", "_law_web_right", defArgs sLawWebRight, defBody sLawWebRight, defScope sLawWebRight, [], []⟩
def d_sLawRight : He.DefD := ⟨("_law_right", none), "_law_right", "_law_right", defArgs sLawRight, defBody sLawRight, defScope sLawRight, [], []⟩
def d_sLaw : He.DefD := ⟨("law", none), "law", "law", defArgs sLaw, defBody sLaw, defScope sLaw, [], []⟩
def fnL : List He.DefD := [d_sLookAtTally, d_sLookAtPlace, d_sOrderOf, d_sMoved, d_sBothMoved, d_sRoomAt, d_sWallOf, d_sWallShows, d_sGreatestOf, d_sTiesFit, d_sTallyOf, d_sMade, d_sLaid, d_sAnswered, d_sIsTold, d_sIsWebOf, d_sAnswerShows, d_sLookAtWebs, d_sLookAtPair, d_sWebBy, d_sPairTold, d_sPairIn, d_sPairShows, d_sPairsWithWall, d_sAlways, d_sNever, d_sLawCellAt, d_sLawMixed, d_sLawPairs, d_sLawTies, d_sLawWebRight, d_sLawRight, d_sLaw]
def faL : List He.Fa := [.glo "look_at_tally", .glo "look_at_place", .glo "order_of", .glo "moved", .glo "both_moved", .glo "room_at", .glo "wall_of", .glo "wall_shows", .glo "greatest_of", .glo "ties_fit", .glo "tally_of", .glo "made", .glo "laid", .glo "answered", .glo "is_told", .glo "is_web_of", .glo "answer_shows", .glo "look_at_webs", .glo "look_at_pair", .glo "web_by", .glo "pair_told", .glo "pair_in", .glo "pair_shows", .glo "pairs_with_wall", .glo "always", .glo "never", .glo "_law_cell_at", .glo "_law_mixed", .glo "_law_pairs", .glo "_law_ties", .glo "_law_web_right", .glo "_law_right", .glo "law"] ++ [.free "len", .free "range", .free "sorted", .free "enumerate", .free "min", .free "max", .free "sum", .free "list", .free "tuple", .free "int", .free "isinstance"] ++ [.int "MOST_PLACES_webs" 24, .int "MOST_PLACES_laying" 24]
def tfL : List He.Defn := [("order_of", none), ("greatest_of", none)]
def exL : PySem.W.Frag → Bool := fun K => !(He.cT K ("order_of", none)).2 == (He.cT K ("greatest_of", none)).2
section
variable {P : Program} {w : World} {K : PySem.W.Frag} {mg : Str → Option Value} {base h : Heap} {T : Tbls}
theorem fun_of {x : Str} {st : Stmt} {f : Addr} {fd : FuncData} (F : FunD K x x (defArgs st) (defBody st) (defScope st) [] [] f fd) : Fun K x x st f fd := by
  obtain ⟨oc, od, dV, kV, doc, pm, an, cdv, ct, osl, rfl, lk, hcd, hD, _⟩ := F.ex
  rcases hD with ⟨_, rfl⟩ | ⟨e, _⟩
  · exact ⟨⟨oc, od, kV, doc, pm, an, cdv, ct, osl, rfl, lk, hcd⟩, F.kp⟩
  · exact absurd rfl e
theorem dn_of {x : Str} {st : Stmt} {fd : FuncData} {f : Addr} {ps : List Str} (F : FunD K x x (defArgs st) (defBody st) (defScope st) [] [] f fd) (g : mg x = some (.ref f))
    (hb : ∀ (kV doc pm : Value) (an : Option Addr) (cdv ct : Value) (us : List Value), us.length = ps.length → bindArgs (PySem.W.fnOf x x (defArgs st) (defBody st) (defScope st) .none kV doc pm an cdv ct) ⟨us, []⟩ = pure (ps.zip us)) : Dn K mg x st ps :=
  ⟨_, _, fun_of F, g, F.bindsN hb⟩
theorem dnC_of {x : Str} {st : Stmt} {fd : FuncData} {ps : List Str} (F : FunD K x x (defArgs st) (defBody st) (defScope st) [] [] (He.fAd K (x, none)) fd) (g : mg x = some (.ref (He.fAd K (x, none))))
    (hb : ∀ (kV doc pm : Value) (an : Option Addr) (cdv ct : Value) (us : List Value), us.length = ps.length → bindArgs (PySem.W.fnOf x x (defArgs st) (defBody st) (defScope st) .none kV doc pm an cdv ct) ⟨us, []⟩ = pure (ps.zip us))
    (tb : TabB base mg (He.cT K (x, none)).1 (He.cT K (x, none)).2) : DnC K mg base x st ps (He.cT K (x, none)).1 (He.cT K (x, none)).2 := by
  refine ⟨⟨He.fAd K (x, none), fd, ?_, g, F.bindsN hb⟩, tb⟩
  obtain ⟨oc, od, dV, kV, doc, pm, an, cdv, ct, osl, rfl, lk, hcd, hD, _⟩ := F.ex
  obtain ⟨c, rfl⟩ := He.codeIn_ref hcd
  have e := He.codeOf_eq (p := (x, none)) lk rfl
  have e2 : (He.cT K (x, none)).1 = c := e
  rw [e2]
  rcases hD with ⟨_, rfl⟩ | ⟨z, _⟩
  · exact ⟨⟨oc, od, kV, doc, pm, an, ct, osl, rfl, lk, hcd⟩, F.kp⟩
  · exact absurd rfl z
theorem law_has {f : Addr} {fd : FuncData} (F : FunD K "law" "law" (defArgs sLaw) (defBody sLaw) (defScope sLaw) [] [] f fd) (X : K.In h) (G : h.Ns mainGlobals mg) (c : He.SaysD faL fnL K) (hex : exL K = true) (hT : ∀ p ∈ tfL.map (He.cT K), TabB base mg p.1 p.2) :
    FnOk P w K mg base CX0 9 f fd ["script"] (spLaw (Tq (He.cT K ("order_of", none)).2 (He.cT K ("greatest_of", none)).2) K) := by
  have tO := hT (He.cT K ("order_of", none)) (List.mem_cons_self ..)
  have tG := hT (He.cT K ("greatest_of", none)) (List.mem_cons_of_mem _ (List.mem_cons_self ..))
  have hp : (He.cT K ("order_of", none)).2 ≠ (He.cT K ("greatest_of", none)).2 := fun z => by
    unfold exL at hex
    rw [z] at hex
    simp at hex
  have B : NoB mg := ⟨He.free_ok X G (c.fact 33 (f := .free "len") rfl), He.free_ok X G (c.fact 34 (f := .free "range") rfl), He.free_ok X G (c.fact 35 (f := .free "sorted") rfl), He.free_ok X G (c.fact 36 (f := .free "enumerate") rfl), He.free_ok X G (c.fact 37 (f := .free "min") rfl), He.free_ok X G (c.fact 38 (f := .free "max") rfl), He.free_ok X G (c.fact 39 (f := .free "sum") rfl), He.free_ok X G (c.fact 40 (f := .free "list") rfl), He.free_ok X G (c.fact 41 (f := .free "tuple") rfl), He.free_ok X G (c.fact 42 (f := .free "int") rfl), He.free_ok X G (c.fact 43 (f := .free "isinstance") rfl)⟩
  have M1 := He.int_ok X G (c.fact 44 (f := .int "MOST_PLACES_webs" 24) rfl)
  have M2 := He.int_ok X G (c.fact 45 (f := .int "MOST_PLACES_laying" 24) rfl)
  obtain ⟨fd0, F0⟩ := c.def_ 0 (d := d_sLookAtTally) rfl
  have D0 : Dn K mg "look_at_tally" sLookAtTally ["tally"] := dn_of F0 (He.glo_ok X G (c.fact 0 (f := .glo "look_at_tally") rfl)) (fun _ _ _ _ _ _ us hl => match us, hl with | [_], _ => rfl)
  obtain ⟨fd1, F1⟩ := c.def_ 1 (d := d_sLookAtPlace) rfl
  have D1 : Dn K mg "look_at_place" sLookAtPlace ["many", "place"] := dn_of F1 (He.glo_ok X G (c.fact 1 (f := .glo "look_at_place") rfl)) (fun _ _ _ _ _ _ us hl => match us, hl with | [_, _], _ => rfl)
  obtain ⟨fd2, F2⟩ := c.def_ 2 (d := d_sOrderOf) rfl
  have D2 : DnC K mg base "order_of" sOrderOf ["tally"] _ _ := dnC_of F2 (He.glo_ok X G (c.fact 2 (f := .glo "order_of") rfl)) (fun _ _ _ _ _ _ us hl => match us, hl with | [_], _ => rfl) tO
  obtain ⟨fd3, F3⟩ := c.def_ 3 (d := d_sMoved) rfl
  have D3 : Dn K mg "moved" sMoved ["tally", "place", "more"] := dn_of F3 (He.glo_ok X G (c.fact 3 (f := .glo "moved") rfl)) (fun _ _ _ _ _ _ us hl => match us, hl with | [_, _, _], _ => rfl)
  obtain ⟨fd4, F4⟩ := c.def_ 4 (d := d_sBothMoved) rfl
  have D4 : Dn K mg "both_moved" sBothMoved ["tally", "one", "other", "more"] := dn_of F4 (He.glo_ok X G (c.fact 4 (f := .glo "both_moved") rfl)) (fun _ _ _ _ _ _ us hl => match us, hl with | [_, _, _, _], _ => rfl)
  obtain ⟨fd5, F5⟩ := c.def_ 5 (d := d_sRoomAt) rfl
  have D5 : Dn K mg "room_at" sRoomAt ["tally", "r"] := dn_of F5 (He.glo_ok X G (c.fact 5 (f := .glo "room_at") rfl)) (fun _ _ _ _ _ _ us hl => match us, hl with | [_, _], _ => rfl)
  obtain ⟨fd6, F6⟩ := c.def_ 6 (d := d_sWallOf) rfl
  have D6 : Dn K mg "wall_of" sWallOf ["tally"] := dn_of F6 (He.glo_ok X G (c.fact 6 (f := .glo "wall_of") rfl)) (fun _ _ _ _ _ _ us hl => match us, hl with | [_], _ => rfl)
  obtain ⟨fd7, F7⟩ := c.def_ 7 (d := d_sWallShows) rfl
  have D7 : Dn K mg "wall_shows" sWallShows ["tally", "wall"] := dn_of F7 (He.glo_ok X G (c.fact 7 (f := .glo "wall_shows") rfl)) (fun _ _ _ _ _ _ us hl => match us, hl with | [_, _], _ => rfl)
  obtain ⟨fd8, F8⟩ := c.def_ 8 (d := d_sGreatestOf) rfl
  have D8 : DnC K mg base "greatest_of" sGreatestOf ["numbers", "places", "many"] _ _ := dnC_of F8 (He.glo_ok X G (c.fact 8 (f := .glo "greatest_of") rfl)) (fun _ _ _ _ _ _ us hl => match us, hl with | [_, _, _], _ => rfl) tG
  obtain ⟨fd9, F9⟩ := c.def_ 9 (d := d_sTiesFit) rfl
  have D9 : Dn K mg "ties_fit" sTiesFit ["places", "ties"] := dn_of F9 (He.glo_ok X G (c.fact 9 (f := .glo "ties_fit") rfl)) (fun _ _ _ _ _ _ us hl => match us, hl with | [_, _], _ => rfl)
  obtain ⟨fd10, F10⟩ := c.def_ 10 (d := d_sTallyOf) rfl
  have D10 : Dn K mg "tally_of" sTallyOf ["web"] := dn_of F10 (He.glo_ok X G (c.fact 10 (f := .glo "tally_of") rfl)) (fun _ _ _ _ _ _ us hl => match us, hl with | [_], _ => rfl)
  obtain ⟨fd11, F11⟩ := c.def_ 11 (d := d_sMade) rfl
  have D11 : Dn K mg "made" sMade ["places", "ties"] := dn_of F11 (He.glo_ok X G (c.fact 11 (f := .glo "made") rfl)) (fun _ _ _ _ _ _ us hl => match us, hl with | [_, _], _ => rfl)
  obtain ⟨fd12, F12⟩ := c.def_ 12 (d := d_sLaid) rfl
  have D12 : Dn K mg "laid" sLaid ["tally"] := dn_of F12 (He.glo_ok X G (c.fact 12 (f := .glo "laid") rfl)) (fun _ _ _ _ _ _ us hl => match us, hl with | [_], _ => rfl)
  obtain ⟨fd13, F13⟩ := c.def_ 13 (d := d_sAnswered) rfl
  have D13 : Dn K mg "answered" sAnswered ["tally"] := dn_of F13 (He.glo_ok X G (c.fact 13 (f := .glo "answered") rfl)) (fun _ _ _ _ _ _ us hl => match us, hl with | [_], _ => rfl)
  obtain ⟨fd14, F14⟩ := c.def_ 14 (d := d_sIsTold) rfl
  have D14 : Dn K mg "is_told" sIsTold ["web"] := dn_of F14 (He.glo_ok X G (c.fact 14 (f := .glo "is_told") rfl)) (fun _ _ _ _ _ _ us hl => match us, hl with | [_], _ => rfl)
  obtain ⟨fd15, F15⟩ := c.def_ 15 (d := d_sIsWebOf) rfl
  have D15 : Dn K mg "is_web_of" sIsWebOf ["tally", "web"] := dn_of F15 (He.glo_ok X G (c.fact 15 (f := .glo "is_web_of") rfl)) (fun _ _ _ _ _ _ us hl => match us, hl with | [_, _], _ => rfl)
  obtain ⟨fd16, F16⟩ := c.def_ 16 (d := d_sAnswerShows) rfl
  have D16 : Dn K mg "answer_shows" sAnswerShows ["tally", "told"] := dn_of F16 (He.glo_ok X G (c.fact 16 (f := .glo "answer_shows") rfl)) (fun _ _ _ _ _ _ us hl => match us, hl with | [_, _], _ => rfl)
  obtain ⟨fd17, F17⟩ := c.def_ 17 (d := d_sLookAtWebs) rfl
  have D17 : Dn K mg "look_at_webs" sLookAtWebs ["tally"] := dn_of F17 (He.glo_ok X G (c.fact 17 (f := .glo "look_at_webs") rfl)) (fun _ _ _ _ _ _ us hl => match us, hl with | [_], _ => rfl)
  obtain ⟨fd18, F18⟩ := c.def_ 18 (d := d_sLookAtPair) rfl
  have D18 : Dn K mg "look_at_pair" sLookAtPair ["tally", "one", "other"] := dn_of F18 (He.glo_ok X G (c.fact 18 (f := .glo "look_at_pair") rfl)) (fun _ _ _ _ _ _ us hl => match us, hl with | [_, _, _], _ => rfl)
  obtain ⟨fd19, F19⟩ := c.def_ 19 (d := d_sWebBy) rfl
  have D19 : Dn K mg "web_by" sWebBy ["tally", "place", "near"] := dn_of F19 (He.glo_ok X G (c.fact 19 (f := .glo "web_by") rfl)) (fun _ _ _ _ _ _ us hl => match us, hl with | [_, _, _], _ => rfl)
  obtain ⟨fd20, F20⟩ := c.def_ 20 (d := d_sPairTold) rfl
  have D20 : Dn K mg "pair_told" sPairTold ["tally", "one", "other"] := dn_of F20 (He.glo_ok X G (c.fact 20 (f := .glo "pair_told") rfl)) (fun _ _ _ _ _ _ us hl => match us, hl with | [_, _, _], _ => rfl)
  obtain ⟨fd21, F21⟩ := c.def_ 21 (d := d_sPairIn) rfl
  have D21 : Dn K mg "pair_in" sPairIn ["web", "one", "other"] := dn_of F21 (He.glo_ok X G (c.fact 21 (f := .glo "pair_in") rfl)) (fun _ _ _ _ _ _ us hl => match us, hl with | [_, _, _], _ => rfl)
  obtain ⟨fd22, F22⟩ := c.def_ 22 (d := d_sPairShows) rfl
  have D22 : Dn K mg "pair_shows" sPairShows ["tally", "one", "other", "told"] := dn_of F22 (He.glo_ok X G (c.fact 22 (f := .glo "pair_shows") rfl)) (fun _ _ _ _ _ _ us hl => match us, hl with | [_, _, _, _], _ => rfl)
  obtain ⟨fd23, F23⟩ := c.def_ 23 (d := d_sPairsWithWall) rfl
  have D23 : Dn K mg "pairs_with_wall" sPairsWithWall ["tally", "more"] := dn_of F23 (He.glo_ok X G (c.fact 23 (f := .glo "pairs_with_wall") rfl)) (fun _ _ _ _ _ _ us hl => match us, hl with | [_, _], _ => rfl)
  obtain ⟨fd24, F24⟩ := c.def_ 24 (d := d_sAlways) rfl
  have D24 : Dn K mg "always" sAlways ["tally"] := dn_of F24 (He.glo_ok X G (c.fact 24 (f := .glo "always") rfl)) (fun _ _ _ _ _ _ us hl => match us, hl with | [_], _ => rfl)
  obtain ⟨fd25, F25⟩ := c.def_ 25 (d := d_sNever) rfl
  have D25 : Dn K mg "never" sNever ["tally"] := dn_of F25 (He.glo_ok X G (c.fact 25 (f := .glo "never") rfl)) (fun _ _ _ _ _ _ us hl => match us, hl with | [_], _ => rfl)
  obtain ⟨fd26, F26⟩ := c.def_ 26 (d := d_sLawCellAt) rfl
  have D26 : Dn K mg "_law_cell_at" sLawCellAt ["script", "k"] := dn_of F26 (He.glo_ok X G (c.fact 26 (f := .glo "_law_cell_at") rfl)) (fun _ _ _ _ _ _ us hl => match us, hl with | [_, _], _ => rfl)
  obtain ⟨fd27, F27⟩ := c.def_ 27 (d := d_sLawMixed) rfl
  have D27 : Dn K mg "_law_mixed" sLawMixed ["cell", "k", "bound"] := dn_of F27 (He.glo_ok X G (c.fact 27 (f := .glo "_law_mixed") rfl)) (fun _ _ _ _ _ _ us hl => match us, hl with | [_, _, _], _ => rfl)
  obtain ⟨fd28, F28⟩ := c.def_ 28 (d := d_sLawPairs) rfl
  have D28 : Dn K mg "_law_pairs" sLawPairs ["places"] := dn_of F28 (He.glo_ok X G (c.fact 28 (f := .glo "_law_pairs") rfl)) (fun _ _ _ _ _ _ us hl => match us, hl with | [_], _ => rfl)
  obtain ⟨fd29, F29⟩ := c.def_ 29 (d := d_sLawTies) rfl
  have D29 : Dn K mg "_law_ties" sLawTies ["places", "cell", "way"] := dn_of F29 (He.glo_ok X G (c.fact 29 (f := .glo "_law_ties") rfl)) (fun _ _ _ _ _ _ us hl => match us, hl with | [_, _, _], _ => rfl)
  obtain ⟨fd30, F30⟩ := c.def_ 30 (d := d_sLawWebRight) rfl
  have D30 : Dn K mg "_law_web_right" sLawWebRight ["found", "tally"] := dn_of F30 (He.glo_ok X G (c.fact 30 (f := .glo "_law_web_right") rfl)) (fun _ _ _ _ _ _ us hl => match us, hl with | [_, _], _ => rfl)
  obtain ⟨fd31, F31⟩ := c.def_ 31 (d := d_sLawRight) rfl
  have D31 : Dn K mg "_law_right" sLawRight ["tally", "ties", "pair", "found", "lists"] := dn_of F31 (He.glo_ok X G (c.fact 31 (f := .glo "_law_right") rfl)) (fun _ _ _ _ _ _ us hl => match us, hl with | [_, _, _, _, _], _ => rfl)
  obtain ⟨fd32, F32⟩ := c.def_ 32 (d := d_sLaw) rfl
  have D32 : Dn K mg "law" sLaw ["script"] := dn_of F32 (He.glo_ok X G (c.fact 32 (f := .glo "law") rfl)) (fun _ _ _ _ _ _ us hl => match us, hl with | [_], _ => rfl)
  obtain ⟨TT, hTT⟩ : ∃ TT, Tq (He.cT K ("order_of", none)).2 (He.cT K ("greatest_of", none)).2 = TT := ⟨_, rfl⟩
  have H0 := ok_look_at_tally (P := P) (w := w) (base := base) D0 B M1
  have H1 := ok_look_at_place (P := P) (w := w) (base := base) D1
  have H2 := ok_order_of (P := P) (w := w) (p2 := (He.cT K ("greatest_of", none)).2) D2 hp B H0
  rw [hTT] at H2
  have H3 := ok_moved (T := TT) D3 B H0 H1
  have H4 := ok_both_moved (T := TT) D4 H3
  have H5 := ok_room_at D5 B H2
  have H6 := ok_wall_of D6 B H0 H5
  have H7 := ok_wall_shows D7 B H0 H5
  have H8 := ok_greatest_of (P := P) (w := w) (p1 := (He.cT K ("order_of", none)).2) D8 hp B
  rw [hTT] at H8
  have H9 := ok_ties_fit (P := P) (w := w) (base := base) (T := TT) D9 B
  have H10 := ok_tally_of (P := P) (w := w) (base := base) (T := TT) D10
  have H11 := ok_made (T := TT) D11 B M1 H9
  have H12 := ok_laid (T := TT) D12 B H8 H11
  have H13 := ok_answered D13 H6 H12
  have H14 := ok_is_told (P := P) (w := w) (base := base) (T := TT) D14 B M2
  have H15 := ok_is_web_of (T := TT) D15 B H14 H10
  have H16 := ok_answer_shows D16 H2 H15
  have H17 := ok_look_at_webs D17 H0 H6
  have H18 := ok_look_at_pair D18 B H17 H1
  have H19 := ok_web_by D19 B H13 H11
  have H20 := ok_pair_told D20 B H18 H4 H6 H2 H19
  have H21 := ok_pair_in (P := P) (w := w) (base := base) (T := TT) D21 B
  have H22 := ok_pair_shows D22 H18 H4 H7 H16 H21
  have H23 := ok_pww D23 B H17 H4 H6
  have H24 := ok_always D24 H23
  have H25 := ok_never D25 H23
  have H26 := ok_cell_at (P := P) (w := w) (base := base) D26 B
  have H27 := ok_mixed (P := P) (w := w) (base := base) D27
  have H28 := ok_law_pairs (P := P) (w := w) (base := base) (T := TT) D28 B
  have H29 := ok_law_ties (T := TT) D29 B H27 H28
  have H30 := ok_web_right (P := P) (w := w) (base := base) (T := TT) D30 B
  have H31 := ok_law_right D31 B H22 H30 H6 H7
  rw [hTT]
  exact ok_law (fun_of F) B H26 H29 H11 H10 H24 H25 H28 H20 H31
end
end TWR
set_option Elab.async false
set_option linter.all false
set_option maxRecDepth 100000
set_option maxHeartbeats 0
namespace TWR
open PySem PySem.Spec PyProof.Rows L2 LamX
abbrev RowL : PySem.W.OpenRow := PySem.W.OpenLaw.row PySem.Challenge.rw_tallyweb_k27_whole_pairs_of_great_webs
abbrev hkL : PySem.W.Hook := He.hookX 4 faL fnL [] tfL exL
def obL (s : PySem.W.SharedT) : He.AlX := He.obsX 4 faL fnL [] tfL exL (HandSHeadRun.getT s)
theorem obL_eq (s : PySem.W.SharedT) : obL s = hkL.obs s.abs := He.obsX_eq (HandSHeadRun.getT_eq s)
def nmA : List Str := ["TallyError", "BadWeb", "BadTally", "NoPlace", "NoWeb", "MOST_PLACES_webs", "ties_fit", "made", "tally_of", "look_at_place", "look_at_tally", "order_of", "moved", "room_at", "wall_of", "wall_shows", "MOST_PLACES_laying", "greatest_of", "laid", "answered"]
def nmB : List Str := ["is_told", "is_web_of", "answer_shows", "look_at_webs", "look_at_pair", "both_moved", "web_by", "pair_told", "pair_in", "pair_shows", "pairs_with_wall", "always", "never", "_law_cell_at", "_law_mixed", "_law_pairs", "_law_ties", "_law_web_right", "_law_right"]
def nmL : List Str := nmA ++ nmB
theorem runL (w : World) : HandSHeadRun.RunEq RowL (PySem.W.view RowL.prog [46]) hkL obL 20000 nmL w := by
  intro os
  kernel_rfl
end TWR
set_option Elab.async false
set_option linter.all false
set_option maxRecDepth 100000
set_option maxHeartbeats 0
namespace TWR
open PySem PySem.Spec PyProof.Rows L2 LamX
theorem lawAt {w : World} {mg : Str → Option Value} {fa : Addr} {h : Heap} (Y : hkL.says w h) (G : h.Ns mainGlobals mg) (hmg : mg "law" = some (.ref fa)) :
    ∃ K : PySem.W.Frag, K.In h ∧ LawAtS PySem.Challenge.rw_tallyweb_k27_whole_pairs_of_great_webs w K CX0 9 63 "script" mg fa h := by
  obtain ⟨K, KX, c⟩ := Y
  have cd := c.t.d
  have out : ∀ p ∈ tfL.map (He.cT K), K.lookup p.2 = none := fun p hp => by
    obtain ⟨x, hx, rfl⟩ := List.mem_map.mp hp
    exact c.out x hx
  have emp : ∀ p ∈ tfL.map (He.cT K), h.get? p.2 = some { cls := .none, data := .fields #[] } := fun p hp => by
    obtain ⟨x, hx, rfl⟩ := List.mem_map.mp hp
    exact c.empty x hx
  have hds : ∀ p ∈ tfL.map (He.cT K), PySem.W.CodeHd h p.1 p.2 := fun p hp => by
    obtain ⟨x, hx, rfl⟩ := List.mem_map.mp hp
    exact PySem.W.codeHd_of_K KX (c.hd x hx)
  obtain ⟨fd, F⟩ := cd.def_ 32 (d := d_sLaw) rfl
  have e := hmg.symm.trans (He.glo_ok KX G (cd.fact 32 (f := .glo "law") rfl))
  cases e
  have b := FunD.bindsA (ps := ["script"]) F fun _ _ _ _ _ _ us hl => match us, hl with | [_], _ => rfl
  refine ⟨K, KX, fd, tfL.map (He.cT K), spLaw (Tq (He.cT K ("order_of", none)).2 (He.cT K ("greatest_of", none)).2) K, emp, out, hds, fun s v => b s [v] rfl, fun H a ns hl _ hT hS => ?_, fun base KB GB hTB => ?_⟩
  · refine ⟨a, ns, rfl, hS, hl, fun p hp => ?_, fun _ => rfl⟩
    have t1 := hT (He.cT K ("order_of", none)) (List.mem_cons_self ..)
    have t2 := hT (He.cT K ("greatest_of", none)) (List.mem_cons_of_mem _ (List.mem_cons_self ..))
    rcases List.mem_cons.mp hp with rfl | hp
    · exact TabS.nil t1
    · obtain rfl := List.mem_singleton.mp hp
      exact TabS.nil t2
  · exact law_has F KX G cd c.more hTB
end TWR
open PySem PySem.W PySem.Calls PyProof.Rows in
theorem PySem.Challenge.cw_tallyweb_k27_whole_pairs_of_great_webs_holds : PySem.Challenge.rw_tallyweb_k27_whole_pairs_of_great_webs.Holds := by
  w_on; o_law
  refine HandSHeadRun.head_any (r := OpenLaw.row PySem.Challenge.rw_tallyweb_k27_whole_pairs_of_great_webs) (q := view (OpenLaw.row PySem.Challenge.rw_tallyweb_k27_whole_pairs_of_great_webs).prog [46]) (H := TWR.hkL) (ob := TWR.obL) (M := 20000) (loose := TWR.nmL) (d := HandSHeadRun.topDef (OpenLaw.row PySem.Challenge.rw_tallyweb_k27_whole_pairs_of_great_webs).prog 46) (kwd := []) TWR.obL_eq
    (by kernel_rfl) (fun s => by kernel_rfl) TWR.runL (by kernel_rfl) (by kernel_rfl) (by kernel_rfl) (by rfl) (by first | assumption | decide +kernel) (by decide +kernel) ⟨rfl, rfl, rfl, rfl, rfl, by decide +kernel⟩ ?hw ?hc
  case hw => w_witness2
  case hc =>
    refine LamX.walk_ofTsE (l := PySem.Challenge.rw_tallyweb_k27_whole_pairs_of_great_webs) (n := 63) (k := 9) (x := "script") (CX := fun _ => L2.CX0) rfl (by decide) (by kernel_rfl) ⟨rfl, by decide, by decide⟩ ?F (fun _ _ _ _ _ z => z)
    intro w mg fa h Y G hmg0
    have hmg : mg ("law" : PySem.Str) = some (.ref fa) := by
      have e : (HandSHeadRun.topDef (OpenLaw.row PySem.Challenge.rw_tallyweb_k27_whole_pairs_of_great_webs).prog 46).name = ("law" : PySem.Str) := by kernel_rfl
      rw [← e]
      exact hmg0
    exact TWR.lawAt Y G hmg
