import PyProof.Rows.All
import Wide.All
import OpenK.AllK
import Wide.FinOn
import HandS.ForExc
import HandS.ForMost
import HandS.Wide
import HandS.IsInst
import HandS.Flow
import HandS.Style
import HandS.Defaults
import HandS.HeadHook1
import HandS.HeadHook2
import HandS.Zip
import HandS.Deep
import HandS.Head0
import HandS.Head1
import HandS.Head2
import HandS.HeadEnd
import PySem.Challenge.RW_laidover_k14_whole_costs
set_option Elab.async false
set_option linter.all false
set_option maxRecDepth 100000
set_option maxHeartbeats 4000000
namespace G
/-! ### numbers of two parts, with one below -/
structure Pt where
  x : Int
  y : Int
  w : Int
deriving DecidableEq
/-- the divisor -/
def g3 (a b w : Int) : Int := if 0 < w then (Int.gcd (Int.gcd a b) w : Int) else -(Int.gcd (Int.gcd a b) w : Int)
def low (a b w : Int) : Pt := ⟨a / g3 a b w, b / g3 a b w, w / g3 a b w⟩
def Norm (p : Pt) : Prop := 0 < p.w ∧ Int.gcd (Int.gcd p.x p.y) p.w = 1
instance {p : Pt} : Decidable (Norm p) := inferInstanceAs (Decidable (_ ∧ _))
def Pt.re (p : Pt) : Rat := (p.x : Rat) / (p.w : Rat)
def Pt.im (p : Pt) : Rat := (p.y : Rat) / (p.w : Rat)
section
variable {a b w : Int}
theorem g3_abs : (g3 a b w).natAbs = Int.gcd (Int.gcd a b) w := by unfold g3; split <;> omega
theorem g3_pos (h : w ≠ 0) : 0 < Int.gcd (Int.gcd a b) w := Int.gcd_pos_of_ne_zero_right _ h
theorem g3_ne (h : w ≠ 0) : g3 a b w ≠ 0 := by
  have := g3_pos (a := a) (b := b) h
  unfold g3; split <;> omega
theorem g3_dvd_of {z : Int} (h : (Int.gcd (Int.gcd a b) w : Int) ∣ z) : g3 a b w ∣ z := by
  unfold g3; split
  · exact h
  · exact Int.neg_dvd.mpr h
theorem g3_dvd_w : g3 a b w ∣ w := g3_dvd_of (Int.gcd_dvd_right _ _)
theorem g3_dvd_a : g3 a b w ∣ a := g3_dvd_of (Int.dvd_trans (Int.gcd_dvd_left _ _) (Int.gcd_dvd_left _ _))
theorem g3_dvd_b : g3 a b w ∣ b := g3_dvd_of (Int.dvd_trans (Int.gcd_dvd_left _ _) (Int.gcd_dvd_right _ _))
theorem low_w_pos (h : w ≠ 0) : 0 < (low a b w).w := by
  have hg := g3_pos (a := a) (b := b) h
  show 0 < w / g3 a b w
  obtain ⟨k, hk⟩ := g3_dvd_w (a := a) (b := b) (w := w)
  have hne := g3_ne (a := a) (b := b) h
  have e : w / g3 a b w = k := by
    conv => lhs; lhs; rw [hk]
    exact Int.mul_ediv_cancel_left k hne
  rw [e]
  have hk0 : ¬ k ≤ 0 := fun hk0 => by
    by_cases hw : 0 < w
    · have h1 : 0 < g3 a b w := by unfold g3; rw [if_pos hw]; omega
      have h2 : g3 a b w * k ≤ 0 := Int.mul_nonpos_of_nonneg_of_nonpos (by omega) hk0
      omega
    · have h1 : g3 a b w < 0 := by unfold g3; rw [if_neg hw]; omega
      have h2 : 0 ≤ g3 a b w * k := Int.mul_nonneg_of_nonpos_of_nonpos (by omega) hk0
      omega
  omega
theorem gcd3_ediv {a b c g : Int} (h1 : g ∣ a) (h2 : g ∣ b) (h3 : g ∣ c) : Int.gcd (Int.gcd (a / g) (b / g)) (c / g) = Int.gcd (Int.gcd a b) c / g.natAbs := by
  rw [Int.gcd_ediv h1 h2]
  have e : ((Int.gcd a b / g.natAbs : Nat) : Int) = (Int.gcd a b : Int) / (g.natAbs : Int) := by simp
  rw [e]
  have h4 : (g.natAbs : Int) ∣ (Int.gcd a b : Int) := Int.natAbs_dvd.mpr (Int.dvd_coe_gcd h1 h2)
  have h5 : (g.natAbs : Int) ∣ c := Int.natAbs_dvd.mpr h3
  have e2 : Int.gcd ((Int.gcd a b : Int) / (g.natAbs : Int)) (c / g) = Int.gcd ((Int.gcd a b : Int) / (g.natAbs : Int)) (c / (g.natAbs : Int)) := by
    rcases Int.natAbs_eq g with h | h
    · rw [← h]
    · rw [h, Int.natAbs_neg, Int.natAbs_natCast, Int.ediv_neg, Int.gcd_neg]
  rw [e2, Int.gcd_ediv h4 h5]
  simp
theorem low_norm (h : w ≠ 0) : Norm (low a b w) := by
  refine ⟨low_w_pos h, ?_⟩
  show Int.gcd (Int.gcd (a / g3 a b w) (b / g3 a b w)) (w / g3 a b w) = 1
  rw [gcd3_ediv g3_dvd_a g3_dvd_b g3_dvd_w, g3_abs]
  exact Nat.div_self (g3_pos h)
theorem low_x : (low a b w).x * g3 a b w = a := Int.ediv_mul_cancel g3_dvd_a
theorem low_y : (low a b w).y * g3 a b w = b := Int.ediv_mul_cancel g3_dvd_b
theorem low_w : (low a b w).w * g3 a b w = w := Int.ediv_mul_cancel g3_dvd_w
theorem castne {z : Int} (h : z ≠ 0) : (z : Rat) ≠ 0 := fun e => h (by exact_mod_cast e)
theorem low_re (h : w ≠ 0) : (low a b w).re = (a : Rat) / (w : Rat) := by
  have h1 := castne (g3_ne (a := a) (b := b) h)
  have h2 := castne (show (low a b w).w ≠ 0 by have := low_w_pos (a := a) (b := b) h; omega)
  have h3 := castne h
  have e1 : ((low a b w).x : Rat) * (g3 a b w : Rat) = (a : Rat) := by exact_mod_cast congrArg (fun z : Int => (z : Rat)) (low_x (a := a) (b := b) (w := w))
  have e2 : ((low a b w).w : Rat) * (g3 a b w : Rat) = (w : Rat) := by exact_mod_cast congrArg (fun z : Int => (z : Rat)) (low_w (a := a) (b := b) (w := w))
  unfold Pt.re
  rw [← e1, ← e2] at *
  grind
theorem low_im (h : w ≠ 0) : (low a b w).im = (b : Rat) / (w : Rat) := by
  have h1 := castne (g3_ne (a := a) (b := b) h)
  have h2 := castne (show (low a b w).w ≠ 0 by have := low_w_pos (a := a) (b := b) h; omega)
  have h3 := castne h
  have e1 : ((low a b w).y : Rat) * (g3 a b w : Rat) = (b : Rat) := by exact_mod_cast congrArg (fun z : Int => (z : Rat)) (low_y (a := a) (b := b) (w := w))
  have e2 : ((low a b w).w : Rat) * (g3 a b w : Rat) = (w : Rat) := by exact_mod_cast congrArg (fun z : Int => (z : Rat)) (low_w (a := a) (b := b) (w := w))
  unfold Pt.im
  rw [← e1, ← e2] at *
  grind
end
theorem norm_dvd {p q : Pt} (hp : Norm p) (hx : p.x * q.w = q.x * p.w) (hy : p.y * q.w = q.y * p.w) : p.w ∣ q.w := by
  have h1 : p.w ∣ p.x * q.w := ⟨q.x, by rw [hx, Int.mul_comm]⟩
  have h2 : p.w ∣ p.y * q.w := ⟨q.y, by rw [hy, Int.mul_comm]⟩
  have h3 : p.w ∣ p.w * q.w := ⟨q.w, rfl⟩
  have h4 : p.w ∣ (Int.gcd (Int.gcd (p.x * q.w) (p.y * q.w)) (p.w * q.w) : Int) := Int.dvd_coe_gcd (Int.dvd_coe_gcd h1 h2) h3
  rw [Int.gcd_mul_right] at h4
  have e : ((Int.gcd p.x p.y * q.w.natAbs : Nat) : Int) = (Int.gcd p.x p.y : Int) * (q.w.natAbs : Int) := by simp
  rw [e] at h4
  have e2 : Int.gcd ((Int.gcd p.x p.y : Int) * (q.w.natAbs : Int)) (p.w * q.w) = Int.gcd ((Int.gcd p.x p.y : Int) * (q.w.natAbs : Int)) (p.w * (q.w.natAbs : Int)) := by
    rcases Int.natAbs_eq q.w with h | h
    · rw [← h]
    · rw [h, Int.natAbs_neg, Int.natAbs_natCast, Int.mul_neg, Int.gcd_neg]
  rw [e2, Int.gcd_mul_right, hp.2] at h4
  rw [Nat.one_mul] at h4
  first | exact Int.dvd_natAbs.mp (by simpa using h4) | simpa using h4
theorem pt_eq {p q : Pt} (hp : Norm p) (hq : Norm q) (hx : p.x * q.w = q.x * p.w) (hy : p.y * q.w = q.y * p.w) : p = q := by
  have h1 := norm_dvd hp hx hy
  have h2 := norm_dvd hq hx.symm hy.symm
  have hw : p.w = q.w := Int.dvd_antisymm (Int.le_of_lt hp.1) (Int.le_of_lt hq.1) h1 h2
  have hne : q.w ≠ 0 := by have := hq.1; omega
  cases p; cases q
  simp only at hw hx hy hne
  subst hw
  rw [Int.mul_eq_mul_right_iff hne] at hx hy
  rw [hx, hy]
theorem Norm.ne {p : Pt} (hp : Norm p) : (p.w : Rat) ≠ 0 := castne (by have := hp.1; omega)
theorem Norm.nz {p : Pt} (hp : Norm p) : p.w ≠ 0 := by have := hp.1; omega
theorem cross {p q : Pt} (hp : p.w ≠ 0) (hq : q.w ≠ 0) {x y : Int} (h : (x : Rat) / (p.w : Rat) = (y : Rat) / (q.w : Rat)) : x * q.w = y * p.w := by
  have h1 := castne hp
  have h2 := castne hq
  have : (x : Rat) * (q.w : Rat) = (y : Rat) * (p.w : Rat) := by grind
  exact_mod_cast this
/-- points at the same place are the same -/
theorem val_inj {p q : Pt} (hp : Norm p) (hq : Norm q) (hx : p.re = q.re) (hy : p.im = q.im) : p = q := pt_eq hp hq (cross hp.nz hq.nz hx) (cross hp.nz hq.nz hy)
theorem low_self {p : Pt} (hp : Norm p) : low p.x p.y p.w = p := val_inj (low_norm hp.nz) hp (low_re hp.nz) (low_im hp.nz)

/-! ### the numbers' operations -/
def plus (p q : Pt) : Pt := low (p.x * q.w + q.x * p.w) (p.y * q.w + q.y * p.w) (p.w * q.w)
def minus (p q : Pt) : Pt := low (p.x * q.w - q.x * p.w) (p.y * q.w - q.y * p.w) (p.w * q.w)
def times (p q : Pt) : Pt := low (p.x * q.x - p.y * q.y) (p.x * q.y + p.y * q.x) (p.w * q.w)
def flipped (p : Pt) : Pt := ⟨p.x, -p.y, p.w⟩
def by_ (p q : Pt) : Pt := low ((p.x * q.x + p.y * q.y) * q.w) ((p.y * q.x - p.x * q.y) * q.w) (p.w * (q.x * q.x + q.y * q.y))
section
variable {p q : Pt}
theorem mulnz {a b : Int} (h : a ≠ 0) (k : b ≠ 0) : a * b ≠ 0 := fun e => (Int.mul_eq_zero.mp e).elim h k
theorem plus_norm (hp : p.w ≠ 0) (hq : q.w ≠ 0) : Norm (plus p q) := low_norm (mulnz hp hq)
theorem minus_norm (hp : p.w ≠ 0) (hq : q.w ≠ 0) : Norm (minus p q) := low_norm (mulnz hp hq)
theorem times_norm (hp : p.w ≠ 0) (hq : q.w ≠ 0) : Norm (times p q) := low_norm (mulnz hp hq)
theorem flipped_norm (hp : Norm p) : Norm (flipped p) := ⟨hp.1, by show Int.gcd (Int.gcd p.x (-p.y)) p.w = 1; rw [Int.gcd_neg]; exact hp.2⟩
theorem plus_re (hp : p.w ≠ 0) (hq : q.w ≠ 0) : (plus p q).re = p.re + q.re := by
  have h1 := castne hp; have h2 := castne hq
  unfold plus; rw [low_re (mulnz hp hq)]; unfold Pt.re
  simp only [Rat.intCast_add, Rat.intCast_mul]; grind
theorem plus_im (hp : p.w ≠ 0) (hq : q.w ≠ 0) : (plus p q).im = p.im + q.im := by
  have h1 := castne hp; have h2 := castne hq
  unfold plus; rw [low_im (mulnz hp hq)]; unfold Pt.im
  simp only [Rat.intCast_add, Rat.intCast_mul]; grind
theorem minus_re (hp : p.w ≠ 0) (hq : q.w ≠ 0) : (minus p q).re = p.re - q.re := by
  have h1 := castne hp; have h2 := castne hq
  unfold minus; rw [low_re (mulnz hp hq)]; unfold Pt.re
  simp only [Rat.intCast_sub, Rat.intCast_mul]; grind
theorem minus_im (hp : p.w ≠ 0) (hq : q.w ≠ 0) : (minus p q).im = p.im - q.im := by
  have h1 := castne hp; have h2 := castne hq
  unfold minus; rw [low_im (mulnz hp hq)]; unfold Pt.im
  simp only [Rat.intCast_sub, Rat.intCast_mul]; grind
theorem times_re (hp : p.w ≠ 0) (hq : q.w ≠ 0) : (times p q).re = p.re * q.re - p.im * q.im := by
  have h1 := castne hp; have h2 := castne hq
  unfold times; rw [low_re (mulnz hp hq)]; unfold Pt.re Pt.im
  simp only [Rat.intCast_sub, Rat.intCast_mul]; grind
theorem times_im (hp : p.w ≠ 0) (hq : q.w ≠ 0) : (times p q).im = p.re * q.im + p.im * q.re := by
  have h1 := castne hp; have h2 := castne hq
  unfold times; rw [low_im (mulnz hp hq)]; unfold Pt.re Pt.im
  simp only [Rat.intCast_add, Rat.intCast_mul]; grind
theorem flipped_re : (flipped p).re = p.re := rfl
theorem flipped_im : (flipped p).im = -p.im := by
  unfold flipped Pt.im
  simp only [Rat.intCast_neg]; grind
theorem sq_nn (a : Int) : 0 ≤ a * a := by
  rcases Int.le_total 0 a with h | h
  · exact Int.mul_nonneg h h
  · exact Int.mul_nonneg_of_nonpos_of_nonpos h h
theorem sq_pos_of {a b : Int} (h : a ≠ 0 ∨ b ≠ 0) : 0 < a * a + b * b := by
  have h1 : 0 ≤ a * a := sq_nn a
  have h2 : 0 ≤ b * b := sq_nn b
  rcases h with h | h
  · have : a * a ≠ 0 := mulnz h h
    omega
  · have : b * b ≠ 0 := mulnz h h
    omega
end
/-! ### shares -/
structure Sh where
  t : Int
  b : Int
deriving DecidableEq
def shr (t b : Int) : Sh := ⟨t / g3 t 0 b, b / g3 t 0 b⟩
def Sh.pt (s : Sh) : Pt := ⟨s.t, 0, s.b⟩
def Sh.Norm (s : Sh) : Prop := 0 < s.b ∧ Int.gcd s.t s.b = 1
def Sh.val (s : Sh) : Rat := (s.t : Rat) / (s.b : Rat)
theorem shr_pt (t b : Int) : (shr t b).pt = low t 0 b := by unfold shr low Sh.pt; simp
theorem Sh.Norm.pt {s : Sh} (h : s.Norm) : G.Norm s.pt := ⟨h.1, by show Int.gcd (Int.gcd s.t 0) s.b = 1; rw [Int.gcd_zero]; simpa [Int.gcd] using h.2⟩
theorem Sh.Norm.of {s : Sh} (h : G.Norm s.pt) : s.Norm := ⟨h.1, by have := h.2; unfold Sh.pt at this; simpa [Int.gcd] using this⟩
theorem shr_norm {t b : Int} (h : b ≠ 0) : (shr t b).Norm := Sh.Norm.of (by rw [shr_pt]; exact low_norm h)
theorem shr_val {t b : Int} (h : b ≠ 0) : (shr t b).val = (t : Rat) / (b : Rat) := by
  have := low_re (a := t) (b := 0) h
  rw [← shr_pt] at this
  exact this
theorem sh_inj {s r : Sh} (h1 : s.Norm) (h2 : r.Norm) (e : s.val = r.val) : s = r := by
  have : s.pt = r.pt := val_inj h1.pt h2.pt e (by unfold Sh.pt Pt.im; simp [Rat.div_def])
  cases s; cases r
  unfold Sh.pt at this
  simp at this
  simp [this]
def size (p : Pt) : Sh := shr (p.x * p.x + p.y * p.y) (p.w * p.w)
theorem size_norm {p : Pt} (h : p.w ≠ 0) : (size p).Norm := shr_norm (mulnz h h)
theorem size_val {p : Pt} (h : p.w ≠ 0) : (size p).val = p.re * p.re + p.im * p.im := by
  have h1 := castne h
  unfold size; rw [shr_val (mulnz h h)]; unfold Pt.re Pt.im
  simp only [Rat.intCast_add, Rat.intCast_mul]; grind
end G

/-! G: data (no heap) over the hand layer. What an expression gives, what a block does, told of data alone. -/
namespace G
open PySem PySem.Spec L2

/-! ### data -/
inductive D where
  | non | bl (b : Bool) | int (i : Int) | str (x : Str) | lst (xs : List D) | tup (xs : List D) | opq (n : Nat)
mutual
def D.dec : (a b : D) → Decidable (a = b)
  | .non, .non => Decidable.isTrue rfl
  | .bl a, .bl b => if h : a = b then Decidable.isTrue (by rw [h]) else Decidable.isFalse (fun e => h (by injection e))
  | .int a, .int b => if h : a = b then Decidable.isTrue (by rw [h]) else Decidable.isFalse (fun e => h (by injection e))
  | .str a, .str b => if h : a = b then Decidable.isTrue (by rw [h]) else Decidable.isFalse (fun e => h (by injection e))
  | .opq a, .opq b => if h : a = b then Decidable.isTrue (by rw [h]) else Decidable.isFalse (fun e => h (by injection e))
  | .lst a, .lst b => match D.decA a b with | Decidable.isTrue h => Decidable.isTrue (by rw [h]) | Decidable.isFalse h => Decidable.isFalse (fun e => h (by injection e))
  | .tup a, .tup b => match D.decA a b with | Decidable.isTrue h => Decidable.isTrue (by rw [h]) | Decidable.isFalse h => Decidable.isFalse (fun e => h (by injection e))
  | .non, .bl _ | .non, .int _ | .non, .str _ | .non, .lst _ | .non, .tup _ | .non, .opq _ => Decidable.isFalse (fun e => nomatch e)
  | .bl _, .non | .bl _, .int _ | .bl _, .str _ | .bl _, .lst _ | .bl _, .tup _ | .bl _, .opq _ => Decidable.isFalse (fun e => nomatch e)
  | .int _, .non | .int _, .bl _ | .int _, .str _ | .int _, .lst _ | .int _, .tup _ | .int _, .opq _ => Decidable.isFalse (fun e => nomatch e)
  | .str _, .non | .str _, .bl _ | .str _, .int _ | .str _, .lst _ | .str _, .tup _ | .str _, .opq _ => Decidable.isFalse (fun e => nomatch e)
  | .lst _, .non | .lst _, .bl _ | .lst _, .int _ | .lst _, .str _ | .lst _, .tup _ | .lst _, .opq _ => Decidable.isFalse (fun e => nomatch e)
  | .tup _, .non | .tup _, .bl _ | .tup _, .int _ | .tup _, .str _ | .tup _, .lst _ | .tup _, .opq _ => Decidable.isFalse (fun e => nomatch e)
  | .opq _, .non | .opq _, .bl _ | .opq _, .int _ | .opq _, .str _ | .opq _, .lst _ | .opq _, .tup _ => Decidable.isFalse (fun e => nomatch e)
def D.decA : (a b : List D) → Decidable (a = b)
  | [], [] => Decidable.isTrue rfl
  | [], _ :: _ => Decidable.isFalse (fun e => nomatch e)
  | _ :: _, [] => Decidable.isFalse (fun e => nomatch e)
  | a :: as, b :: bs => match D.dec a b with
    | Decidable.isFalse h => Decidable.isFalse (fun e => h (by injection e))
    | Decidable.isTrue h => match D.decA as bs with
      | Decidable.isTrue h' => Decidable.isTrue (by rw [h, h'])
      | Decidable.isFalse h' => Decidable.isFalse (fun e => h' (by injection e))
end
instance : DecidableEq D := D.dec

/-- heaps: what stood stands -/
def Ex (H H' : Hp) : Prop := ∀ a o, H a = some o → H' a = some o
theorem Ex.refl (H : Hp) : Ex H H := fun _ _ h => h
theorem Ex.trans {H H1 H2 : Hp} (a : Ex H H1) (b : Ex H1 H2) : Ex H H2 := fun x o h => b x o (a x o h)
theorem Ex.new {H : Hp} {p : Addr} {o : HO} (h : H p = none) : Ex H (upd H p o) := fun a u e => by
  rw [upd_ne (ne_of_none e h)]
  exact e
theorem Ex.free {H H' : Hp} (e : Ex H H') {p : Addr} (h : H' p = none) : H p = none := by
  cases h1 : H p with
  | none => rfl
  | some o => rw [e p o h1] at h; cases h
theorem Ex.rd {H H' : Hp} {a : Addr} {u : HO} (e : Ex H H') (h : Rd H a u) : Rd H' a u := by
  rcases h with h | ⟨o, h⟩
  · exact .inl (e a _ h)
  · exact .inr ⟨o, e a _ h⟩
theorem Ex.l {K : PySem.W.Frag} {H H' : Hp} {a : Addr} {xs : List V} (e : Ex H H') (h : SqL K H a xs) : SqL K H' a xs := by
  rcases h with h | h
  · exact .inl (e.rd h)
  · exact .inr h
theorem Ex.t {K : PySem.W.Frag} {H H' : Hp} {a : Addr} {xs : List V} (e : Ex H H') (h : SqT K H a xs) : SqT K H' a xs := by
  rcases h with h | h
  · exact .inl (e.rd h)
  · exact .inr h

/-- the town: a list of a row's address and a count; the row: ints, one at least -/
def townO (t r : Addr) : Heap → Prop := fun h => ∃ (k : Int) (tk : Tok) (n : Nat), h.get? t = some { cls := .type "list", data := .seq #[.ref r, .int k tk] n }
def rowO (r : Addr) : Heap → Prop := fun h => ∃ (ns : List Int) (its : List Value) (n : Nat), ns ≠ [] ∧ ns.length ≤ sizeLine ∧ Vals (ns.map V.int) its ∧ h.get? r = some { cls := .type "list", data := .seq its.toArray n }

mutual
/-- the value v stands for the data d in the heap H -/
inductive Rp (K : PySem.W.Frag) (H : Hp) : V → D → Prop
  | non : Rp K H .non .non
  | bl (b : Bool) : Rp K H (.bl b) (.bl b)
  | int (i : Int) : Rp K H (.int i) (.int i)
  | str (x : Str) : Rp K H (.str x) (.str x)
  | lst {a : Addr} {xs : List V} {ds : List D} : H a = some (.lst xs) → RpA K H xs ds → Rp K H (.ref a) (.lst ds)
  | tup {a : Addr} {xs : List V} {ds : List D} : SqT K H a xs → RpA K H xs ds → Rp K H (.ref a) (.tup ds)
  | town {t r : Addr} : H t = some (.ext (townO t r)) → H r = some (.ext (rowO r)) → Rp K H (.ref t) (.opq 0)
  | scr {a : Addr} {ns : List Int} : SqL K H a (ns.map V.int) → ns.length ≤ 63 → Rp K H (.ref a) (.opq 1)
inductive RpA (K : PySem.W.Frag) (H : Hp) : List V → List D → Prop
  | nil : RpA K H [] []
  | cons {v : V} {vs : List V} {d : D} {ds : List D} : Rp K H v d → RpA K H vs ds → RpA K H (v :: vs) (d :: ds)
end
section
variable {K : PySem.W.Frag} {H H' : Hp}
mutual
theorem Rp.mono (e : Ex H H') : ∀ (d : D) (v : V), Rp K H v d → Rp K H' v d
  | .non, _, h => by cases h; exact .non
  | .bl _, _, h => by cases h; exact .bl _
  | .int _, _, h => by cases h; exact .int _
  | .str _, _, h => by cases h; exact .str _
  | .lst ds, _, h => by cases h with | lst hs ha => exact .lst (e _ _ hs) (RpA.mono e ds _ ha)
  | .tup ds, _, h => by cases h with | tup hs ha => exact .tup (e.t hs) (RpA.mono e ds _ ha)
  | .opq _, _, h => by cases h with | town h1 h2 => exact .town (e _ _ h1) (e _ _ h2) | scr h1 h2 => exact .scr (e.l h1) h2
theorem RpA.mono (e : Ex H H') : ∀ (ds : List D) (vs : List V), RpA K H vs ds → RpA K H' vs ds
  | [], _, h => by cases h; exact .nil
  | d :: ds, _, h => by cases h with | cons h1 h2 => exact .cons (Rp.mono e d _ h1) (RpA.mono e ds _ h2)
end
theorem Rp.up {v : V} {d : D} (h : Rp K H v d) (e : Ex H H') : Rp K H' v d := Rp.mono e d v h
theorem RpA.up {vs : List V} {ds : List D} (h : RpA K H vs ds) (e : Ex H H') : RpA K H' vs ds := RpA.mono e ds vs h
theorem RpA.length : ∀ {vs : List V} {ds : List D}, RpA K H vs ds → vs.length = ds.length
  | _, _, .nil => rfl
  | _, _, .cons _ t => by simp [RpA.length t]
theorem RpA.get : ∀ {vs : List V} {ds : List D} {i : Nat} {d : D}, RpA K H vs ds → ds[i]? = some d → ∃ v, vs[i]? = some v ∧ Rp K H v d
  | _, _, _, _, .nil, e => by simp at e
  | _, _, 0, _, .cons h _, e => by simp at e; subst e; exact ⟨_, rfl, h⟩
  | _, _, i + 1, d, .cons _ t, e => by
    obtain ⟨v, h1, h2⟩ := RpA.get (i := i) (d := d) t (by simpa using e)
    exact ⟨v, by simpa using h1, h2⟩
theorem RpA.getV : ∀ {vs : List V} {ds : List D} {i : Nat} {v : V}, RpA K H vs ds → vs[i]? = some v → ∃ d, ds[i]? = some d ∧ Rp K H v d
  | _, _, _, _, .nil, e => by simp at e
  | _, _, 0, _, .cons h _, e => by simp at e; subst e; exact ⟨_, rfl, h⟩
  | _, _, i + 1, d, .cons _ t, e => by
    obtain ⟨v, h1, h2⟩ := RpA.getV (i := i) (v := d) t (by simpa using e)
    exact ⟨v, by simpa using h1, h2⟩
theorem RpA.app : ∀ {vs us : List V} {ds es : List D}, RpA K H vs ds → RpA K H us es → RpA K H (vs ++ us) (ds ++ es)
  | _, _, _, _, .nil, h => h
  | _, _, _, _, .cons h t, h' => .cons h (RpA.app t h')
theorem RpA.drop : ∀ {vs : List V} {ds : List D} (n : Nat), RpA K H vs ds → RpA K H (vs.drop n) (ds.drop n)
  | _, _, 0, h => h
  | _, _, _ + 1, .nil => .nil
  | _, _, n + 1, .cons _ t => RpA.drop n t
theorem RpA.take : ∀ {vs : List V} {ds : List D} (n : Nat), RpA K H vs ds → RpA K H (vs.take n) (ds.take n)
  | _, _, 0, _ => .nil
  | _, _, _ + 1, .nil => .nil
  | _, _, n + 1, .cons h t => .cons h (RpA.take n t)
end

/-! ### data as the library's deep == has it -/
mutual
def D.py : D → PyData
  | .non => .none | .bl b => .bool b | .int i => .int i | .str x => .str x
  | .lst xs => .list (D.pyA xs) | .tup xs => .tuple (D.pyA xs) | .opq _ => .none
def D.pyA : List D → List PyData
  | [] => []
  | d :: ds => d.py :: D.pyA ds
end
mutual
/-- no opaque thing, at most n levels -/
def D.sh : D → Nat → Bool
  | .non, _ => true
  | .bl _, _ => true
  | .int _, _ => true
  | .str x, _ => PyData.strOk x
  | .opq _, _ => false
  | .lst xs, n => decide (0 < n) && D.shA xs (n - 1)
  | .tup xs, n => decide (0 < n) && D.shA xs (n - 1)
def D.shA : List D → Nat → Bool
  | [], _ => true
  | d :: ds, n => D.sh d n && D.shA ds n
end
abbrev D.shp (n : Nat) (d : D) : Bool := D.sh d n
abbrev D.shpA (n : Nat) (ds : List D) : Bool := D.shA ds n
theorem shp_lst {n : Nat} {xs : List D} : D.shp (n + 1) (.lst xs) = D.shpA n xs := by show (decide (0 < n + 1) && D.shA xs (n + 1 - 1)) = _; simp
theorem shp_tup {n : Nat} {xs : List D} : D.shp (n + 1) (.tup xs) = D.shpA n xs := by show (decide (0 < n + 1) && D.shA xs (n + 1 - 1)) = _; simp
theorem shpA_cons {n : Nat} {d : D} {ds : List D} : D.shpA n (d :: ds) = (D.shp n d && D.shpA n ds) := rfl
theorem shpA_all {n : Nat} : ∀ {ds : List D}, (∀ d ∈ ds, D.shp n d = true) → D.shpA n ds = true
  | [], _ => rfl
  | d :: ds, h => by rw [shpA_cons, h d List.mem_cons_self, shpA_all fun x hx => h x (List.mem_cons_of_mem _ hx)]; rfl
theorem shp_inv {n : Nat} {xs : List D} (h : D.shp n (.lst xs) = true ∨ D.shp n (.tup xs) = true) : ∃ m, n = m + 1 ∧ D.shpA m xs = true := by
  have h' : (decide (0 < n) && D.shA xs (n - 1)) = true := h.elim id id
  rw [Bool.and_eq_true, decide_eq_true_eq] at h'
  exact ⟨n - 1, by omega, h'.2⟩
mutual
theorem D.shp_ok : ∀ (d : D) (n : Nat), D.shp n d = true → d.py.canLay0 = true ∧ d.py.depth ≤ n
  | .non, n, _ => ⟨rfl, Nat.zero_le _⟩
  | .bl _, n, _ => ⟨rfl, Nat.zero_le _⟩
  | .int _, n, _ => ⟨rfl, Nat.zero_le _⟩
  | .str x, n, h => by
    have h' : PyData.strOk x = true := h
    exact ⟨by simpa [D.py, PyData.canLay0] using h', by simp [D.py, PyData.depth]⟩
  | .lst xs, n, h => by
    obtain ⟨m, rfl, h'⟩ := shp_inv (.inl h)
    obtain ⟨a, b⟩ := D.shpA_ok xs m h'
    exact ⟨by simpa [D.py, PyData.canLay0] using a, by simpa [D.py, PyData.depth] using b⟩
  | .tup xs, n, h => by
    obtain ⟨m, rfl, h'⟩ := shp_inv (.inr h)
    obtain ⟨a, b⟩ := D.shpA_ok xs m h'
    exact ⟨by simpa [D.py, PyData.canLay0] using a, by simpa [D.py, PyData.depth] using b⟩
  | .opq _, n, h => Bool.noConfusion h
theorem D.shpA_ok : ∀ (ds : List D) (n : Nat), D.shpA n ds = true → PyData.canLayAll0 (D.pyA ds) = true ∧ PyData.depthAll (D.pyA ds) ≤ n
  | [], n, _ => ⟨by simp [D.pyA, PyData.canLayAll0], by simp [D.pyA, PyData.depthAll]⟩
  | d :: ds, n, h => by
    rw [shpA_cons, Bool.and_eq_true] at h
    obtain ⟨a, b⟩ := D.shp_ok d n h.1
    obtain ⟨a', b'⟩ := D.shpA_ok ds n h.2
    exact ⟨by simp [D.pyA, PyData.canLayAll0, a, a'], by simp [D.pyA, PyData.depthAll]; omega⟩
end
theorem D.shp_shaped {d : D} {n : Nat} (h : D.shp n d = true) (hn : n ≤ 64) : SeqAt.shaped d.py = true := by
  obtain ⟨a, b⟩ := D.shp_ok d n h
  unfold SeqAt.shaped
  rw [a, Bool.true_and]
  exact decide_eq_true (by omega)
mutual
theorem Rp.dp {K : PySem.W.Frag} {H : Hp} : ∀ (d : D) (v : V) (n : Nat), D.shp n d = true → Rp K H v d → Dp K H v d.py
  | .non, _, _, _, h => by cases h; exact .non
  | .bl _, _, _, _, h => by cases h; exact .bl _
  | .int _, _, _, _, h => by cases h; exact .int _
  | .str _, _, _, _, h => by cases h; exact .str _
  | .lst xs, _, n, s, h => by
    obtain ⟨m, rfl, s'⟩ := shp_inv (.inl s)
    cases h with | lst hs ha => exact .lst (SqL.of hs) (RpA.dp xs _ m s' ha)
  | .tup xs, _, n, s, h => by
    obtain ⟨m, rfl, s'⟩ := shp_inv (.inr s)
    cases h with | tup hs ha => exact .tup hs (RpA.dp xs _ m s' ha)
  | .opq _, _, n, s, _ => Bool.noConfusion s
theorem RpA.dp {K : PySem.W.Frag} {H : Hp} : ∀ (ds : List D) (vs : List V) (n : Nat), D.shpA n ds = true → RpA K H vs ds → DpAll K H vs (D.pyA ds)
  | [], _, _, _, h => by cases h; exact .nil
  | d :: ds, _, n, s, h => by
    rw [shpA_cons, Bool.and_eq_true] at s
    cases h with | cons h1 h2 => exact .cons (Rp.dp d _ n s.1 h1) (RpA.dp ds _ n s.2 h2)
end
/-- == of data -/
def deq (d e : D) : Bool := PyData.eqv d.py e.py
end G

namespace G
open PySem PySem.Spec L2

/-! ### heaps that grow: Hi what the data stand in, H all that is tracked -/
structure Gr (Hi H Hi' H' : Hp) : Prop where
  i : Ex Hi Hi'
  o : Ex H H'
  sub : Ex Hi' H'
  new : ∀ a, Hi a = none → (∃ u, Hi' a = some u) → H a = none
theorem Gr.refl {Hi H : Hp} (s : Ex Hi H) : Gr Hi H Hi H := ⟨Ex.refl _, Ex.refl _, s, fun a h ⟨u, z⟩ => by rw [h] at z; cases z⟩
theorem Gr.trans {Hi H Hi1 H1 Hi2 H2 : Hp} (a : Gr Hi H Hi1 H1) (b : Gr Hi1 H1 Hi2 H2) : Gr Hi H Hi2 H2 := ⟨a.i.trans b.i, a.o.trans b.o, b.sub, fun c h z => by
  cases q : Hi1 c with
  | some u => exact a.new c h ⟨u, q⟩
  | none => exact a.o.free (b.new c q z)⟩
/-- only H grows -/
theorem Gr.out {Hi H H' : Hp} (s : Ex Hi H) (e : Ex H H') : Gr Hi H Hi H' := ⟨Ex.refl _, e, s.trans e, fun a h ⟨u, z⟩ => by rw [h] at z; cases z⟩
/-- a new object, both -/
theorem Gr.mk1 {Hi H : Hp} {p : Addr} {o : HO} (s : Ex Hi H) (h : H p = none) : Gr Hi H (upd Hi p o) (upd H p o) := ⟨Ex.new (s.free h), Ex.new h, fun a u e => by
    by_cases z : a = p
    · subst z; rw [upd_same] at e ⊢; exact e
    · rw [upd_ne z] at e ⊢; exact s a u e, fun a q ⟨u, z⟩ => by
    by_cases y : a = p
    · subst y; exact h
    · rw [upd_ne y, q] at z; cases z⟩

/-! ### slots, told as data -/
/-- what stands at an address of one's own -/
inductive Cl where
  | lst (ds : List D)
def ClOk (K : PySem.W.Frag) (Hi : Hp) (a : Addr) : HO → Cl → Prop
  | .lst vs, .lst ds => RpA K Hi vs ds
  | _, _ => False
inductive Sl where
  /-- nothing is known -/
  | emp
  /-- the slot holds this -/
  | dat (d : D)
  /-- a list of this def's own, that it may change -/
  | cl (c : Cl)
abbrev Sl.lst (ds : List D) : Sl := .cl (.lst ds)
def SlOk (K : PySem.W.Frag) (B Hi H : Hp) : Option V → Sl → Prop
  | _, .emp => True
  | some v, .dat d => Rp K Hi v d
  | some v, .cl c => ∃ a o, v = V.ref a ∧ B a = none ∧ Hi a = none ∧ H a = some o ∧ ClOk K Hi a o c
  | none, _ => False
def Sl.own : Sl → Bool
  | .cl _ => true
  | _ => false
structure StOk (K : PySem.W.Frag) (B Hi H : Hp) (σ : L2.St) (ρ : List Sl) : Prop where
  sub : Ex Hi H
  len : σ.length = ρ.length
  at_ : ∀ (i : Nat) (x : Option V) (s : Sl), σ[i]? = some x → ρ[i]? = some s → SlOk K B Hi H x s
  sep : ∀ (i j : Nat) (s t : Sl) (a : Addr), ρ[i]? = some s → ρ[j]? = some t → s.own = true → t.own = true → σ[i]? = some (some (V.ref a)) → σ[j]? = some (some (V.ref a)) → i = j
section
variable {K : PySem.W.Frag} {B Hi H Hi' H' : Hp} {σ : L2.St} {ρ : List Sl}
theorem ClOk.up {a : Addr} {o : HO} {c : Cl} (h : ClOk K Hi a o c) (e : Ex Hi Hi') : ClOk K Hi' a o c := by
  cases c with
  | lst ds =>
    cases o with
    | lst vs => exact RpA.up (show RpA K Hi vs ds from h) e
    | _ => exact h.elim
theorem SlOk.grow {x : Option V} {s : Sl} (g : Gr Hi H Hi' H') (h : SlOk K B Hi H x s) : SlOk K B Hi' H' x s := by
  cases s with
  | emp => cases x <;> trivial
  | dat d =>
    cases x with
    | none => exact h
    | some v => exact Rp.up (show Rp K Hi v d from h) g.i
  | cl c =>
    cases x with
    | none => exact h
    | some v =>
      obtain ⟨a, o, ev, b, n, e, r⟩ := h
      refine ⟨a, o, ev, b, ?_, g.o _ _ e, r.up g.i⟩
      cases q : Hi' a with
      | none => rfl
      | some u => rw [g.new a n ⟨u, q⟩] at e; cases e
theorem StOk.grow (S : StOk K B Hi H σ ρ) (g : Gr Hi H Hi' H') : StOk K B Hi' H' σ ρ :=
  ⟨g.sub, S.len, fun i x s a b => (S.at_ i x s a b).grow g, S.sep⟩
theorem StOk.get {i : Nat} {s : Sl} (S : StOk K B Hi H σ ρ) (h : ρ[i]? = some s) : ∃ x, σ[i]? = some x ∧ SlOk K B Hi H x s := by
  obtain ⟨hi, _⟩ := List.getElem?_eq_some_iff.mp h
  have hs : i < σ.length := by rw [S.len]; exact hi
  have e : σ[i]? = some σ[i] := List.getElem?_eq_getElem hs
  exact ⟨_, e, S.at_ i _ _ e h⟩
theorem StOk.dat {i : Nat} {d : D} (S : StOk K B Hi H σ ρ) (h : ρ[i]? = some (.dat d)) : ∃ v, σ[i]? = some (some v) ∧ Rp K Hi v d := by
  obtain ⟨x, e, q⟩ := S.get h
  cases x with
  | none => exact q.elim
  | some v => exact ⟨v, e, q⟩
theorem StOk.own {i : Nat} {c : Cl} (S : StOk K B Hi H σ ρ) (h : ρ[i]? = some (.cl c)) : ∃ a o, σ[i]? = some (some (V.ref a)) ∧ B a = none ∧ Hi a = none ∧ H a = some o ∧ ClOk K Hi a o c := by
  obtain ⟨x, e, q⟩ := S.get h
  cases x with
  | none => exact q.elim
  | some v =>
    obtain ⟨a, o, ev, z⟩ := q
    subst ev
    exact ⟨a, o, e, z⟩
/-- what a change of slot i leaves -/
theorem sep_set {i : Nat} {x : Option V} {t : Sl} (hS : ∀ (i j : Nat) (s t : Sl) (a : Addr), ρ[i]? = some s → ρ[j]? = some t → s.own = true → t.own = true → σ[i]? = some (some (V.ref a)) → σ[j]? = some (some (V.ref a)) → i = j)
    (hl : σ.length = ρ.length) (ht : t.own = true → ∀ a, x = some (V.ref a) → ∀ j s, ρ[j]? = some s → s.own = true → j ≠ i → σ[j]? ≠ some (some (V.ref a))) :
    ∀ (j k : Nat) (s u : Sl) (a : Addr), (ρ.set i t)[j]? = some s → (ρ.set i t)[k]? = some u → s.own = true → u.own = true → (σ.set i x)[j]? = some (some (V.ref a)) → (σ.set i x)[k]? = some (some (V.ref a)) → j = k := by
  intro j k s u a a1 a2 o1 o2 b1 b2
  by_cases hj : i = j
  · by_cases hk : i = k
    · exact hj.symm.trans hk
    · exfalso
      subst hj
      by_cases hlt : i < σ.length
      · rw [List.getElem?_set_self hlt] at b1
        rw [List.getElem?_set_self (by rw [← hl]; exact hlt)] at a1
        rw [List.getElem?_set_ne hk] at a2 b2
        cases a1
        exact ht o1 a (Option.some.inj b1) k u a2 o2 (fun e => hk e.symm) b2
      · rw [List.getElem?_eq_none (by simpa using hlt)] at b1; cases b1
  · by_cases hk : i = k
    · exfalso
      subst hk
      by_cases hlt : i < σ.length
      · rw [List.getElem?_set_self hlt] at b2
        rw [List.getElem?_set_self (by rw [← hl]; exact hlt)] at a2
        rw [List.getElem?_set_ne hj] at a1 b1
        cases a2
        exact ht o2 a (Option.some.inj b2) j s a1 o1 (fun e => hj e.symm) b1
      · rw [List.getElem?_eq_none (by simpa using hlt)] at b2; cases b2
    · rw [List.getElem?_set_ne hj] at a1 b1
      rw [List.getElem?_set_ne hk] at a2 b2
      exact hS j k s u a a1 a2 o1 o2 b1 b2
theorem at_set {i : Nat} {x : Option V} {t : Sl} (hl : σ.length = ρ.length) (hx : SlOk K B Hi H x t) (hS : ∀ (j : Nat) (y : Option V) (s : Sl), j ≠ i → σ[j]? = some y → ρ[j]? = some s → SlOk K B Hi H y s) :
    ∀ (j : Nat) (y : Option V) (s : Sl), (σ.set i x)[j]? = some y → (ρ.set i t)[j]? = some s → SlOk K B Hi H y s := by
  intro j y s a b
  by_cases h : i = j
  · subst h
    by_cases hlt : i < σ.length
    · rw [List.getElem?_set_self hlt] at a
      rw [List.getElem?_set_self (by rw [← hl]; exact hlt)] at b
      cases a; cases b; exact hx
    · rw [List.getElem?_eq_none (by simpa using hlt)] at a; cases a
  · rw [List.getElem?_set_ne h] at a b
    exact hS j y s (fun e => h e.symm) a b
/-- a slot takes a datum -/
theorem StOk.set {i : Nat} {v : V} {d : D} (S : StOk K B Hi H σ ρ) (r : Rp K Hi v d) : StOk K B Hi H (σ.set i (some v)) (ρ.set i (.dat d)) :=
  ⟨S.sub, by simp [S.len], at_set S.len r fun j y s _ => S.at_ j y s, sep_set S.sep S.len fun h => nomatch h⟩
/-- .. is forgotten -/
theorem StOk.wipe1 {i : Nat} (S : StOk K B Hi H σ ρ) : StOk K B Hi H (σ.set i none) (ρ.set i .emp) :=
  ⟨S.sub, by simp [S.len], at_set S.len trivial fun j y s _ => S.at_ j y s, sep_set S.sep S.len fun h => nomatch h⟩
theorem set_same {α : Type} : ∀ {l : List α} {i : Nat} {x : α}, l[i]? = some x → l.set i x = l
  | [], _, _, h => by simp at h
  | _ :: _, 0, _, h => by simp at h; subst h; rfl
  | a :: l, i + 1, x, h => by rw [List.set_cons_succ, set_same (l := l) (i := i) (by simpa using h)]
/-- a thing of one's own is changed -/
theorem StOk.wr {i : Nat} {a : Addr} {c c' : Cl} {o : HO} (S : StOk K B Hi H σ ρ) (hi : ρ[i]? = some (.cl c)) (ha : σ[i]? = some (some (V.ref a))) (r : ClOk K Hi a o c') :
    StOk K B Hi (upd H a o) σ (ρ.set i (.cl c')) := by
  obtain ⟨a', u, e1, b1, n1, x1, r1⟩ := S.own hi
  rw [ha] at e1; cases e1
  have key : StOk K B Hi (upd H a o) (σ.set i (some (V.ref a))) (ρ.set i (.cl c')) := by
    refine ⟨fun c u z => ?_, by simp [S.len], at_set S.len ⟨a, o, rfl, b1, n1, upd_same, r⟩ fun j x s hj p q => ?_, sep_set S.sep S.len fun _ c e j s hs ho hj hc => ?_⟩
    · rw [upd_ne (ne_of_none z n1)]; exact S.sub c u z
    · have z := S.at_ j x s p q
      cases s with
      | emp => cases x <;> trivial
      | dat d => cases x <;> exact z
      | cl f =>
        cases x with
        | none => exact z
        | some v =>
          obtain ⟨c, o2, ev, b2, n2, x2, r2⟩ := z
          subst ev
          have hc : c ≠ a := fun e => by subst e; exact hj (S.sep j i _ _ c q hi rfl rfl p ha)
          exact ⟨c, o2, rfl, b2, n2, by rw [upd_ne hc]; exact x2, r2⟩
    · cases e
      exact hj (S.sep j i _ _ a hs hi ho rfl hc ha)
  rw [set_same ha] at key
  exact key
/-- a slot takes a new thing of one's own -/
theorem StOk.own1 {i : Nat} {p : Addr} {c : Cl} {o : HO} (S : StOk K B Hi H σ ρ) (bh : Ex B H) (hp : H p = none) (r : ClOk K Hi p o c) :
    StOk K B Hi (upd H p o) (σ.set i (some (V.ref p))) (ρ.set i (.cl c)) := by
  have S1 := S.grow (Gr.out (H' := upd H p o) S.sub (Ex.new hp))
  refine ⟨S1.sub, by simp [S.len], at_set S.len ⟨p, o, rfl, bh.free hp, S.sub.free hp, upd_same, r⟩ fun j y s _ => S1.at_ j y s, sep_set S.sep S.len fun _ c e j s hs ho hj hc => ?_⟩
  cases e
  cases s with
  | cl f =>
    obtain ⟨a', u, e1, b1, n1, x1, r1⟩ := S.own hs
    rw [hc] at e1; cases e1
    rw [hp] at x1; cases x1
  | _ => cases ho
/-- a thing of one's own becomes a datum -/
theorem StOk.frz {i : Nat} {c : Cl} {d : D} {Bi : Hp} (S : StOk K B Hi H σ ρ) (hi : ρ[i]? = some (.cl c)) (g : Gr Bi B Hi H)
    (hd : ∀ a o Hj, ClOk K Hi a o c → Ex Hi Hj → Hj a = some o → Rp K Hj (V.ref a) d) :
    ∃ Hi', Gr Bi B Hi' H ∧ Ex Hi Hi' ∧ StOk K B Hi' H σ (ρ.set i (.dat d)) ∧ ∃ a, σ[i]? = some (some (V.ref a)) ∧ Rp K Hi' (V.ref a) d := by
  obtain ⟨a, o, e1, b1, n1, x1, r1⟩ := S.own hi
  have ex : Ex Hi (upd Hi a o) := Ex.new n1
  have sub : Ex (upd Hi a o) H := fun c u z => by
    by_cases h : c = a
    · subst h; rw [upd_same] at z; cases z; exact x1
    · rw [upd_ne h] at z; exact g.sub c u z
  have rd : Rp K (upd Hi a o) (V.ref a) d := hd a o _ r1 ex upd_same
  have key : StOk K B (upd Hi a o) H (σ.set i (some (V.ref a))) (ρ.set i (.dat d)) := by
    refine ⟨sub, by simp [S.len], at_set S.len rd fun j x s hj p q => ?_, sep_set S.sep S.len fun h => nomatch h⟩
    have z := S.at_ j x s p q
    cases s with
    | emp => cases x <;> trivial
    | dat d =>
      cases x with
      | none => exact z
      | some v => exact Rp.up (show Rp K Hi v d from z) ex
    | cl f =>
      cases x with
      | none => exact z
      | some v =>
        obtain ⟨c, o2, ev, b2, n2, x2, r2⟩ := z
        subst ev
        have hc : c ≠ a := fun e => by subst e; exact hj (S.sep j i _ _ c q hi rfl rfl p e1)
        exact ⟨c, o2, rfl, b2, by rw [upd_ne hc]; exact n2, x2, r2.up ex⟩
  rw [set_same e1] at key
  exact ⟨upd Hi a o, ⟨g.i.trans ex, g.o, sub, fun c h z => by
    by_cases hc : c = a
    · subst hc; exact b1
    · obtain ⟨u, z⟩ := z
      rw [upd_ne hc] at z
      exact g.new c h ⟨u, z⟩⟩, ex, key, a, e1, rd⟩
end
end G

namespace G
open PySem PySem.Spec L2

/-- e is not starred -/
def nst (e : Expr) : Bool := match e with
  | .Starred _ _ => false
  | _ => true
theorem se_of {e : Expr} {es : List Expr} {env : Env} (h : nst e = true) : starEach (e :: es) env = (false, eval e env) :: starEach es env := by
  cases e <;> first | rfl | cases h
/-! ### what is asked, with no reading between -/
section
variable {X : Cx}
def wE (X : Cx) (e : Expr) : TE := fun σ H Q => ∀ (pins : List (Addr × Obj)) (s : Shared), Inv X pins σ H s → wpAny (model X.prog X.w) X.A (eval e X.env) (EP X pins σ Q) X.xe s
def wT (X : Cx) (e : Expr) : TT := fun σ H Q => ∀ (pins : List (Addr × Obj)) (s : Shared), Inv X pins σ H s → wpAny (model X.prog X.w) X.A (isTrue e X.env (eval e X.env)) (TP X pins σ Q) X.xe s
def wW (X : Cx) (e : Expr) : TT := fun σ H Q => ∀ (whole : Sem Value) (pins : List (Addr × Obj)) (s : Shared), Inv X pins σ H s → wpAny (model X.prog X.w) X.A (isTrue e X.env whole) (TP X pins σ Q) X.xe s
def wA (X : Cx) (es : List Expr) : TA := fun σ H Q => ∀ (pos : Pos) (pins : List (Addr × Obj)) (s : Shared), Inv X pins σ H s → wpAny (model X.prog X.w) X.A (spliced (backTo pos (starEach es X.env))) (AP X pins σ Q) X.xe s
def wS (X : Cx) (st : Stmt) : TS := fun Dn σ H => ∀ (pins : List (Addr × Obj)) (s : Shared), Inv X pins σ H s → wpAny (model X.prog X.w) X.A (exec st X.env) (SP X pins Dn) X.xe s
def wSs (X : Cx) (st : List Stmt) : TS := fun Dn σ H => ∀ (pins : List (Addr × Obj)) (s : Shared), Inv X pins σ H s → wpAny (model X.prog X.w) X.A (execs st X.env) (SP X pins Dn) X.xe s
def wG (X : Cx) (tg : Expr) : TG := fun v σ H Q => ∀ (pins : List (Addr × Obj)) (s : Shared) (u : Value), Inv X pins σ H s → RelV v u →
  wpAny (model X.prog X.w) X.A (assign tg X.env u) (fun _ s' => ∃ σ' H', Inv X pins σ' H' s' ∧ Q σ' H') X.xe s
def wI (X : Cx) (tg iter : Expr) : TI := fun σ H R => ∀ (pins : List (Addr × Obj)) (s : Shared), Inv X pins σ H s →
  wpAny (model X.prog X.w) X.A (eval iter X.env) (fun v s1 => wpAny (model X.prog X.w) X.A (pyIter v) (PIE X pins σ tg R) X.xe s1) X.xe s
theorem pe_w {e : Expr} : PE X e (wE X e) := ⟨fun pins s _ _ _ I h => h pins s I⟩
theorem pt_w {e : Expr} : PT X e (wT X e) := ⟨fun pins s _ _ _ I h => h pins s I⟩
theorem pw_w {e : Expr} : PW X e (wW X e) := ⟨fun wh pins s _ _ _ I h => h wh pins s I⟩
theorem pa_w {es : List Expr} : PA X es (wA X es) := ⟨fun pos pins s _ _ _ I h => h pos pins s I⟩
theorem ps_w {st : Stmt} : PS X st (wS X st) := ⟨fun pins s _ _ _ I h => h pins s I⟩
theorem pss_w {st : List Stmt} : PSs X st (wSs X st) := ⟨fun pins s _ _ _ I h => h pins s I⟩
theorem pg_w {tg : Expr} : PG X tg (wG X tg) := ⟨fun pins s _ _ v u _ I r h => h pins s u I r⟩
theorem pi_w {tg iter : Expr} : PI X tg iter (wI X tg iter) := ⟨fun pins s _ _ _ I h => h pins s I⟩
variable {σ : L2.St} {H : Hp}
theorem wE.of {e : Expr} {t : TE} {Q : VK} (h : PE X e t) (q : t σ H Q) : wE X e σ H Q := fun pins s I => h.run pins s σ H Q I q
theorem wT.of {e : Expr} {t : TT} {Q : Bool → Hp → Prop} (h : PT X e t) (q : t σ H Q) : wT X e σ H Q := fun pins s I => h.run pins s σ H Q I q
theorem wW.of {e : Expr} {t : TT} {Q : Bool → Hp → Prop} (h : PW X e t) (q : t σ H Q) : wW X e σ H Q := fun wh pins s I => h.run wh pins s σ H Q I q
theorem wA.of {es : List Expr} {t : TA} {Q : List V → Hp → Prop} (h : PA X es t) (q : t σ H Q) : wA X es σ H Q := fun pos pins s I => h.run pos pins s σ H Q I q
theorem wS.of {st : Stmt} {t : TS} {Dn : Ends} (h : PS X st t) (q : t Dn σ H) : wS X st Dn σ H := fun pins s I => h.run pins s σ H Dn I q
theorem wSs.of {st : List Stmt} {t : TS} {Dn : Ends} (h : PSs X st t) (q : t Dn σ H) : wSs X st Dn σ H := fun pins s I => h.run pins s σ H Dn I q
theorem wSs.cons {st : Stmt} {rest : List Stmt} {t : TS} {Dn : Ends} (h : PS X st t) (q : t { Dn with nx := wSs X rest Dn } σ H) : wSs X (st :: rest) Dn σ H := wSs.of (pss_cons h pss_w) q
end

/-! ### the judgements -/
/-- what is raised (by the class's name) is wished -/
def Rs (X : Cx) (Ψ : Str → Prop) (Hi H : Hp) (σ : L2.St) (W : WX) : Prop := ∀ x Hi' H', Ψ x → Gr Hi H Hi' H' → W (.ref (He.ga X.K x)) none σ H'
theorem Rs.grow {X : Cx} {Ψ : Str → Prop} {Hi H Hi' H' : Hp} {σ : L2.St} {W : WX} (r : Rs X Ψ Hi H σ W) (g : Gr Hi H Hi' H') : Rs X Ψ Hi' H' σ W := fun x a b p q => r x a b p (g.trans q)
/-- e gives a datum of Φ, or raises one of Ψ -/
def QX (X : Cx) (Ψ : Str → Prop) (e : Expr) (ρ : List Sl) (Φ : D → Prop) : Prop := ∀ (B Hi H : Hp) (σ : L2.St) (W : WX), Takes X W → StOk X.K B Hi H σ ρ → Rs X Ψ Hi H σ W →
  ∀ Q : VK, (∀ v d Hi' H', Φ d → Gr Hi H Hi' H' → Rp X.K Hi' v d → Q v H') → wE X e σ H Q
def QA (X : Cx) (Ψ : Str → Prop) (es : List Expr) (ρ : List Sl) (Φ : List D → Prop) : Prop := ∀ (B Hi H : Hp) (σ : L2.St) (W : WX), Takes X W → StOk X.K B Hi H σ ρ → Rs X Ψ Hi H σ W →
  ∀ Q : List V → Hp → Prop, (∀ vs ds Hi' H', Φ ds → Gr Hi H Hi' H' → RpA X.K Hi' vs ds → Q vs H') → wA X es σ H Q
def QT (X : Cx) (Ψ : Str → Prop) (e : Expr) (ρ : List Sl) (Φ : Bool → Prop) : Prop := ∀ (B Hi H : Hp) (σ : L2.St) (W : WX), Takes X W → StOk X.K B Hi H σ ρ → Rs X Ψ Hi H σ W →
  ∀ Q : Bool → Hp → Prop, (∀ b Hi' H', Φ b → Gr Hi H Hi' H' → Q b H') → wT X e σ H Q
def QW (X : Cx) (Ψ : Str → Prop) (e : Expr) (ρ : List Sl) (Φ : Bool → Prop) : Prop := ∀ (B Hi H : Hp) (σ : L2.St) (W : WX), Takes X W → StOk X.K B Hi H σ ρ → Rs X Ψ Hi H σ W →
  ∀ Q : Bool → Hp → Prop, (∀ b Hi' H', Φ b → Gr Hi H Hi' H' → Q b H') → wW X e σ H Q
/-- e gives d -/
abbrev QE (X : Cx) (Ψ : Str → Prop) (e : Expr) (ρ : List Sl) (d : D) : Prop := QX X Ψ e ρ (fun z => z = d)
abbrev QAs (X : Cx) (Ψ : Str → Prop) (es : List Expr) (ρ : List Sl) (ds : List D) : Prop := QA X Ψ es ρ (fun z => z = ds)
section
variable {X : Cx} {Ψ : Str → Prop} {ρ : List Sl} {Φ Φ' : D → Prop} {Θ Θ' : Bool → Prop} {a b c e : Expr} {es : List Expr} {pos p p2 : Pos}
theorem QX.mono (h : QX X Ψ e ρ Φ) (k : ∀ d, Φ d → Φ' d) : QX X Ψ e ρ Φ' := fun B Hi H σ W tk S r Q q => h B Hi H σ W tk S r Q fun v d Hi' H' z => q v d Hi' H' (k d z)
theorem QA.mono {Φ Φ' : List D → Prop} (h : QA X Ψ es ρ Φ) (k : ∀ d, Φ d → Φ' d) : QA X Ψ es ρ Φ' := fun B Hi H σ W tk S r Q q => h B Hi H σ W tk S r Q fun v d Hi' H' z => q v d Hi' H' (k d z)
theorem QT.mono (h : QT X Ψ e ρ Θ) (k : ∀ d, Θ d → Θ' d) : QT X Ψ e ρ Θ' := fun B Hi H σ W tk S r Q q => h B Hi H σ W tk S r Q fun b Hi' H' z => q b Hi' H' (k b z)
theorem QW.mono (h : QW X Ψ e ρ Θ) (k : ∀ d, Θ d → Θ' d) : QW X Ψ e ρ Θ' := fun B Hi H σ W tk S r Q q => h B Hi H σ W tk S r Q fun b Hi' H' z => q b Hi' H' (k b z)
theorem QE.to {d : D} (h : QE X Ψ e ρ d) (k : Φ d) : QX X Ψ e ρ Φ := QX.mono h fun _ z => by subst z; exact k
theorem QE.is {d d' : D} (h : QE X Ψ e ρ d) (k : d = d') : QE X Ψ e ρ d' := k ▸ h
theorem QAs.to {ds : List D} {Φ : List D → Prop} (h : QAs X Ψ es ρ ds) (k : Φ ds) : QA X Ψ es ρ Φ := QA.mono h fun _ z => by subst z; exact k

/-! ### names, constants -/
theorem qx_var (i : Nat) {x : Str} {d : D} (h : ρ[i]? = some (.dat d)) (k : Φ d) (hN : X.N[i]? = some x := by rfl) (hv : Vis X.env.scope x := by first | exact Or.inl rfl | exact Or.inr (Or.inl rfl) | exact Or.inr (Or.inr rfl)) (hd : (x == ("__debug__" : Str)) = false := by decide)
    (hcd : (x == ("__classdict__" : Str)) = false := by decide) : QX X Ψ (.Name x pos) ρ Φ := fun B Hi H σ W tk S r Q q => by
  obtain ⟨v, e, rp⟩ := S.dat h
  exact wE.of (pe_var hN hv hd hcd) ⟨v, e, q v d Hi H k (Gr.refl S.sub) rp⟩
theorem qv (i : Nat) {x : Str} {d : D} (h : ρ[i]? = some (.dat d) := by rfl) (hN : X.N[i]? = some x := by rfl) (hv : Vis X.env.scope x := by first | exact Or.inl rfl | exact Or.inr (Or.inl rfl) | exact Or.inr (Or.inr rfl)) (hd : (x == ("__debug__" : Str)) = false := by decide)
    (hcd : (x == ("__classdict__" : Str)) = false := by decide) : QE X Ψ (.Name x pos) ρ d := qx_var i h rfl hN hv hd hcd
theorem qx_int {i : Int} {j : Nat} (k : Φ (.int i)) : QX X Ψ (.Constant (.int i) j pos) ρ Φ := fun B Hi H σ W tk S r Q q => wE.of pe_int (q _ _ Hi H k (Gr.refl S.sub) (.int i))
theorem qx_bl {i : Bool} {j : Nat} (k : Φ (.bl i)) : QX X Ψ (.Constant (.bool i) j pos) ρ Φ := fun B Hi H σ W tk S r Q q => wE.of pe_bl (q _ _ Hi H k (Gr.refl S.sub) (.bl i))
theorem qx_non {j : Nat} (k : Φ .non) : QX X Ψ (.Constant .none j pos) ρ Φ := fun B Hi H σ W tk S r Q q => wE.of pe_non (q _ _ Hi H k (Gr.refl S.sub) .non)
theorem qx_str {i : Str} {j : Nat} (k : Φ (.str i)) : QX X Ψ (.Constant (.str i) j pos) ρ Φ := fun B Hi H σ W tk S r Q q => wE.of pe_str (q _ _ Hi H k (Gr.refl S.sub) (.str i))
theorem qi {i : Int} {j : Nat} : QE X Ψ (.Constant (.int i) j pos) ρ (.int i) := qx_int rfl
theorem qb {i : Bool} {j : Nat} : QE X Ψ (.Constant (.bool i) j pos) ρ (.bl i) := qx_bl rfl
theorem qn {j : Nat} : QE X Ψ (.Constant .none j pos) ρ .non := qx_non rfl
theorem qs {i : Str} {j : Nat} : QE X Ψ (.Constant (.str i) j pos) ρ (.str i) := qx_str rfl
/-- a module's constant that stands written -/
theorem qx_glob {x : Str} {v : V} {u : Value} {d : D} (hm : X.mg x = some u) (r : RelV v u) (hd : ∀ H, Rp X.K H v d) (k : Φ d) (hg : Gl X x := by rfl) (hdb : (x == ("__debug__" : Str)) = false := by decide) : QX X Ψ (.Name x pos) ρ Φ :=
  fun B Hi H σ W tk S _ Q q => wE.of (pe_glob hg hm r hdb) (q v d Hi H k (Gr.refl S.sub) (hd Hi))

/-! ### two places -/
def OpD (X : Cx) (r : R2) (R : D → D → (D → Prop) → Prop) : Prop := ∀ (Hi H : Hp) (x y : D) (v u : V) (Φ : D → Prop), Ex Hi H → R x y Φ → Rp X.K Hi v x → Rp X.K Hi u y →
  ∀ Q : VK, (∀ z d Hi' H', Φ d → Gr Hi H Hi' H' → Rp X.K Hi' z d → Q z H') → r v u H Q
theorem bin_go {r : R2} {R : D → D → (D → Prop) → Prop} (hd : OpD X r R) (h : QX X Ψ a ρ fun x => QX X Ψ b ρ fun y => R x y Φ) {B Hi H : Hp} {σ : L2.St} {W : WX} (tk : Takes X W) (S : StOk X.K B Hi H σ ρ) (rs : Rs X Ψ Hi H σ W)
    {Q : VK} (q : ∀ v d Hi' H', Φ d → Gr Hi H Hi' H' → Rp X.K Hi' v d → Q v H') : tOp r (wE X a) (wE X b) σ H Q :=
  h B Hi H σ W tk S rs _ fun v x Hi1 H1 h1 g1 r1 => h1 B Hi1 H1 σ W tk (S.grow g1) (rs.grow g1) _ fun u y Hi2 H2 h2 g2 r2 =>
    hd Hi2 H2 x y v u Φ g2.sub h2 (r1.up g2.i) r2 Q fun z d Hi3 H3 hz g3 r3 => q z d Hi3 H3 hz ((g1.trans g2).trans g3) r3
theorem qx_op {op : Operator} {r : R2} {R : D → D → (D → Prop) → Prop} (ho : OpR X (binaryOp op) r) (hd : OpD X r R) (h : QX X Ψ a ρ fun x => QX X Ψ b ρ fun y => R x y Φ) : QX X Ψ (.BinOp a op b pos) ρ Φ :=
  fun _ _ _ _ _ tk S rs _ q => wE.of (pe_op ho pe_w pe_w) (bin_go hd h tk S rs q)
theorem qx_cmp {op : CmpOp} {r : R2} {R : D → D → (D → Prop) → Prop} (ho : OpR X (compareOp op) r) (hd : OpD X r R) (hm : behindInMarks op b = false) (h : QX X Ψ a ρ fun x => QX X Ψ b ρ fun y => R x y Φ) : QX X Ψ (.Compare a [op] [b] pos) ρ Φ :=
  fun _ _ _ _ _ tk S rs _ q => wE.of (pe_cmpR ho pe_w pe_w hm) (bin_go hd h tk S rs q)
theorem qx_ix {r : R2} {R : D → D → (D → Prop) → Prop} (ho : IxR X r) (hd : OpD X r R) (hp : PlainIx b) (h : QX X Ψ a ρ fun x => QX X Ψ b ρ fun y => R x y Φ) : QX X Ψ (.Subscript a b pos) ρ Φ :=
  fun _ _ _ _ _ tk S rs _ q => wE.of (pe_ix ho pe_w pe_w hp) (bin_go hd h tk S rs q)
/-- a comparison as a test -/
theorem qt_cmp {op : CmpOp} {r : R2} {R : D → D → (D → Prop) → Prop} (ho : OpR X (compareOp op) r) (hd : OpD X r R) (hm : behindInMarks op b = false) (h : QX X Ψ a ρ fun x => QX X Ψ b ρ fun y => R x y fun d => ∃ k, d = .bl k ∧ Θ k) : QT X Ψ (.Compare a [op] [b] pos) ρ Θ :=
  fun _ _ _ _ _ tk S rs Q q => wT.of (pt_cmpR ho pe_w pe_w hm) (bin_go (Q := fun x H' => ∃ k, x = .bl k ∧ Q k H') hd h tk S rs fun v d Hi' H' hz g rp => by
    obtain ⟨k, e, hk⟩ := hz
    subst e
    cases rp
    exact ⟨k, rfl, q k Hi' H' hk g⟩)
theorem od_I0 {g : Int → Int → V} {gd : Int → Int → D} (hg : ∀ H i j, Rp X.K H (g i j) (gd i j)) : OpD X (rI0 g) (fun x y Φ => ∃ i j, x = .int i ∧ y = .int j ∧ Φ (gd i j)) := fun Hi H x y v u Φ s h r1 r2 Q q => by
  obtain ⟨i, j, e1, e2, k⟩ := h
  subst e1 e2
  cases r1; cases r2
  exact ⟨i, j, rfl, rfl, q _ _ Hi H k (Gr.refl s) (hg Hi i j)⟩
theorem od_I {C : Int → Int → Prop} {g : Int → Int → V} {gd : Int → Int → D} (hg : ∀ H i j, Rp X.K H (g i j) (gd i j)) : OpD X (rI C g) (fun x y Φ => ∃ i j, x = .int i ∧ y = .int j ∧ C i j ∧ Φ (gd i j)) := fun Hi H x y v u Φ s h r1 r2 Q q => by
  obtain ⟨i, j, e1, e2, c, k⟩ := h
  subst e1 e2
  cases r1; cases r2
  exact ⟨i, j, rfl, rfl, c, q _ _ Hi H k (Gr.refl s) (hg Hi i j)⟩
/-- == of data -/
theorem od_eqD {n : Nat} (hn : n ≤ 64) : OpD X (rEqD X.K) (fun x y Φ => D.shp n x = true ∧ D.shp n y = true ∧ Φ (.bl (deq x y))) := fun Hi H x y v u Φ s h r1 r2 Q q => by
  obtain ⟨s1, s2, k⟩ := h
  exact ⟨x.py, y.py, Rp.dp x v n s1 (r1.up s), Rp.dp y u n s2 (r2.up s), D.shp_shaped s1 hn, D.shp_shaped s2 hn, q _ _ Hi H k (Gr.refl s) (.bl _)⟩
theorem od_neD {n : Nat} (hn : n ≤ 64) : OpD X (rNeD X.K) (fun x y Φ => D.shp n x = true ∧ D.shp n y = true ∧ Φ (.bl (!deq x y))) := fun Hi H x y v u Φ s h r1 r2 Q q => by
  obtain ⟨s1, s2, k⟩ := h
  exact ⟨x.py, y.py, Rp.dp x v n s1 (r1.up s), Rp.dp y u n s2 (r2.up s), D.shp_shaped s1 hn, D.shp_shaped s2 hn, q _ _ Hi H k (Gr.refl s) (.bl _)⟩
theorem od_ixT : OpD X (rIxT X.K) (fun x y Φ => ∃ ds i d, x = .tup ds ∧ y = .int i ∧ atI ds i = some d ∧ Φ d) := fun Hi H x y v u Φ s h r1 r2 Q q => by
  obtain ⟨ds, i, d, e1, e2, hi, k⟩ := h
  subst e1 e2
  cases r2
  cases r1 with
  | tup hs ha =>
    have hl := ha.length
    unfold atI at hi
    cases e : ixN ds.length i with
    | none => rw [e] at hi; cases hi
    | some j =>
      rw [e] at hi
      obtain ⟨v', h1, h2⟩ := ha.get (show ds[j]? = some d from hi)
      exact ⟨_, _, i, v', rfl, rfl, s.t hs, by unfold atI; rw [hl, e]; exact h1, q _ _ Hi H k (Gr.refl s) h2⟩
theorem od_ixL : OpD X (rIxL X.K) (fun x y Φ => ∃ ds i d, x = .lst ds ∧ y = .int i ∧ atI ds i = some d ∧ Φ d) := fun Hi H x y v u Φ s h r1 r2 Q q => by
  obtain ⟨ds, i, d, e1, e2, hi, k⟩ := h
  subst e1 e2
  cases r2
  cases r1 with
  | lst hs ha =>
    have hl := ha.length
    unfold atI at hi
    cases e : ixN ds.length i with
    | none => rw [e] at hi; cases hi
    | some j =>
      rw [e] at hi
      obtain ⟨v', h1, h2⟩ := ha.get (show ds[j]? = some d from hi)
      exact ⟨_, _, i, v', rfl, rfl, s.l (SqL.of hs), by unfold atI; rw [hl, e]; exact h1, q _ _ Hi H k (Gr.refl s) h2⟩
/-- xs + ys -/
theorem od_cat : OpD X rCat
    (fun x y Φ => ∃ ds es, x = .lst ds ∧ y = .lst es ∧ ds.length + es.length ≤ sizeLine ∧ Φ (.lst (ds ++ es))) := fun Hi H x y v u Φ s h r1 r2 Q q => by
  obtain ⟨ds, es, e1, e2, hz, k⟩ := h
  subst e1 e2
  cases r1 with
  | lst hs ha =>
    cases r2 with
    | lst hs' ha' =>
      refine ⟨_, _, _, _, rfl, rfl, s _ _ hs, s _ _ hs', by rw [ha.length, ha'.length]; exact hz, fun p hp => q _ _ (upd Hi p _) _ k (Gr.mk1 s hp) ?_⟩
      exact .lst upd_same ((ha.app ha').up (Ex.new (s.free hp)))

variable {i j : Int} {ds es' : List D} {d d' : D} {x' y' : D}
theorem qx_add (h : QX X Ψ a ρ fun x => ∃ i, x = .int i ∧ QX X Ψ b ρ fun y => ∃ j, y = .int j ∧ Φ (.int (i + j))) : QX X Ψ (.BinOp a .Add b pos) ρ Φ :=
  qx_op op_add (od_I0 fun _ _ _ => .int _) (h.mono fun _ ⟨i, e, k⟩ => k.mono fun _ ⟨j, e', k'⟩ => ⟨i, j, e, e', k'⟩)
theorem qx_sub (h : QX X Ψ a ρ fun x => ∃ i, x = .int i ∧ QX X Ψ b ρ fun y => ∃ j, y = .int j ∧ Φ (.int (i - j))) : QX X Ψ (.BinOp a .Sub b pos) ρ Φ :=
  qx_op op_sub (od_I0 fun _ _ _ => .int _) (h.mono fun _ ⟨i, e, k⟩ => k.mono fun _ ⟨j, e', k'⟩ => ⟨i, j, e, e', k'⟩)
theorem qx_mul (h : QX X Ψ a ρ fun x => ∃ i, x = .int i ∧ QX X Ψ b ρ fun y => ∃ j, y = .int j ∧ CMulW i j ∧ Φ (.int (i * j))) : QX X Ψ (.BinOp a .Mult b pos) ρ Φ :=
  qx_op op_mulW (od_I fun _ _ _ => .int _) (h.mono fun _ ⟨i, e, k⟩ => k.mono fun _ ⟨j, e', c, k'⟩ => ⟨i, j, e, e', c, k'⟩)
theorem qx_fdiv (h : QX X Ψ a ρ fun x => ∃ i, x = .int i ∧ QX X Ψ b ρ fun y => ∃ j, y = .int j ∧ CDivW i j ∧ Φ (.int (i / j))) : QX X Ψ (.BinOp a .FloorDiv b pos) ρ Φ :=
  qx_op op_fdivW (od_I fun _ _ _ => .int _) (h.mono fun _ ⟨i, e, k⟩ => k.mono fun _ ⟨j, e', c, k'⟩ => ⟨i, j, e, e', c, k'⟩)
theorem qx_mod (h : QX X Ψ a ρ fun x => ∃ i, x = .int i ∧ QX X Ψ b ρ fun y => ∃ j, y = .int j ∧ 0 < j ∧ Φ (.int (i % j))) : QX X Ψ (.BinOp a .Mod b pos) ρ Φ :=
  qx_op op_mod (od_I fun _ _ _ => .int _) (h.mono fun _ ⟨i, e, k⟩ => k.mono fun _ ⟨j, e', c, k'⟩ => ⟨i, j, e, e', c, k'⟩)
theorem qe_add (ha : QE X Ψ a ρ (.int i)) (hb : QE X Ψ b ρ (.int j)) : QE X Ψ (.BinOp a .Add b pos) ρ (.int (i + j)) := qx_add (ha.to ⟨i, rfl, hb.to ⟨j, rfl, rfl⟩⟩)
theorem qe_sub (ha : QE X Ψ a ρ (.int i)) (hb : QE X Ψ b ρ (.int j)) : QE X Ψ (.BinOp a .Sub b pos) ρ (.int (i - j)) := qx_sub (ha.to ⟨i, rfl, hb.to ⟨j, rfl, rfl⟩⟩)
theorem qe_mul (ha : QE X Ψ a ρ (.int i)) (hb : QE X Ψ b ρ (.int j)) (hc : CMulW i j) : QE X Ψ (.BinOp a .Mult b pos) ρ (.int (i * j)) := qx_mul (ha.to ⟨i, rfl, hb.to ⟨j, rfl, hc, rfl⟩⟩)
theorem qe_fdiv (ha : QE X Ψ a ρ (.int i)) (hb : QE X Ψ b ρ (.int j)) (hc : CDivW i j) : QE X Ψ (.BinOp a .FloorDiv b pos) ρ (.int (i / j)) := qx_fdiv (ha.to ⟨i, rfl, hb.to ⟨j, rfl, hc, rfl⟩⟩)
theorem qe_mod (ha : QE X Ψ a ρ (.int i)) (hb : QE X Ψ b ρ (.int j)) (hc : 0 < j) : QE X Ψ (.BinOp a .Mod b pos) ρ (.int (i % j)) := qx_mod (ha.to ⟨i, rfl, hb.to ⟨j, rfl, hc, rfl⟩⟩)
theorem qe_pow (ha : QE X Ψ a ρ (.int i)) (hb : QE X Ψ b ρ (.int j)) (hc : CPow i j) : QE X Ψ (.BinOp a .Pow b pos) ρ (.int (i ^ j.toNat)) := qx_op op_pow (od_I fun _ _ _ => .int _) (ha.to (hb.to ⟨i, j, rfl, rfl, hc, rfl⟩))
theorem qe_ixT (ha : QE X Ψ a ρ (.tup ds)) (hb : QE X Ψ b ρ (.int i)) (h : atI ds i = some d := by rfl) (hp : PlainIx b := by exact fun _ _ => rfl) : QE X Ψ (.Subscript a b pos) ρ d := qx_ix ix_tup od_ixT hp (ha.to (hb.to ⟨ds, i, d, rfl, rfl, h, rfl⟩))
theorem qe_ixL (ha : QE X Ψ a ρ (.lst ds)) (hb : QE X Ψ b ρ (.int i)) (h : atI ds i = some d := by rfl) (hp : PlainIx b := by exact fun _ _ => rfl) : QE X Ψ (.Subscript a b pos) ρ d := qx_ix ix_list od_ixL hp (ha.to (hb.to ⟨ds, i, d, rfl, rfl, h, rfl⟩))
theorem qe_cat (ha : QE X Ψ a ρ (.lst ds)) (hb : QE X Ψ b ρ (.lst es')) (hz : ds.length + es'.length ≤ sizeLine) : QE X Ψ (.BinOp a .Add b pos) ρ (.lst (ds ++ es')) := qx_op op_cat od_cat (ha.to (hb.to ⟨_, _, rfl, rfl, hz, rfl⟩))
/-! ints compared -/
theorem qx_cI {op : CmpOp} {g : Int → Int → Bool} (ho : OpR X (compareOp op) (rI0 fun i j => .bl (g i j))) (hm : behindInMarks op b = false) (h : QX X Ψ a ρ fun x => ∃ i, x = .int i ∧ QX X Ψ b ρ fun y => ∃ j, y = .int j ∧ Φ (.bl (g i j))) : QX X Ψ (.Compare a [op] [b] pos) ρ Φ :=
  qx_cmp ho (od_I0 fun _ _ _ => .bl _) hm (h.mono fun _ ⟨i, e, k⟩ => k.mono fun _ ⟨j, e', k'⟩ => ⟨i, j, e, e', k'⟩)
theorem op_eqI : OpR X (compareOp .Eq) (rI0 fun i j => .bl (decide (i = j))) := fun pins s σ H x y v u Q I r1 r2 ⟨i, j, e1, e2, q⟩ => op_eq pins s σ H x y v u Q I r1 r2 (by
  subst e1 e2
  refine ⟨rfl, ?_⟩
  have : decide (V.int i = V.int j) = decide (i = j) := by simp
  rw [this]; exact q)
theorem op_neI : OpR X (compareOp .NotEq) (rI0 fun i j => .bl (!decide (i = j))) := fun pins s σ H x y v u Q I r1 r2 ⟨i, j, e1, e2, q⟩ => op_ne pins s σ H x y v u Q I r1 r2 (by
  subst e1 e2
  refine ⟨rfl, ?_⟩
  have : decide (V.int i = V.int j) = decide (i = j) := by simp
  rw [this]; exact q)
theorem qe_lt (ha : QE X Ψ a ρ (.int i)) (hb : QE X Ψ b ρ (.int j)) : QE X Ψ (.Compare a [.Lt] [b] pos) ρ (.bl (decide (i < j))) := qx_cI op_lt (nomark _) (ha.to ⟨i, rfl, hb.to ⟨j, rfl, rfl⟩⟩)
theorem qe_le (ha : QE X Ψ a ρ (.int i)) (hb : QE X Ψ b ρ (.int j)) : QE X Ψ (.Compare a [.LtE] [b] pos) ρ (.bl (decide (i ≤ j))) := qx_cI op_le (nomark _) (ha.to ⟨i, rfl, hb.to ⟨j, rfl, rfl⟩⟩)
theorem qe_gt (ha : QE X Ψ a ρ (.int i)) (hb : QE X Ψ b ρ (.int j)) : QE X Ψ (.Compare a [.Gt] [b] pos) ρ (.bl (decide (j < i))) := qx_cI op_gt (nomark _) (ha.to ⟨i, rfl, hb.to ⟨j, rfl, rfl⟩⟩)
theorem qe_ge (ha : QE X Ψ a ρ (.int i)) (hb : QE X Ψ b ρ (.int j)) : QE X Ψ (.Compare a [.GtE] [b] pos) ρ (.bl (decide (j ≤ i))) := qx_cI op_ge (nomark _) (ha.to ⟨i, rfl, hb.to ⟨j, rfl, rfl⟩⟩)
theorem qe_eqI (ha : QE X Ψ a ρ (.int i)) (hb : QE X Ψ b ρ (.int j)) : QE X Ψ (.Compare a [.Eq] [b] pos) ρ (.bl (decide (i = j))) := qx_cI op_eqI (nomark _) (ha.to ⟨i, rfl, hb.to ⟨j, rfl, rfl⟩⟩)
theorem qe_neI (ha : QE X Ψ a ρ (.int i)) (hb : QE X Ψ b ρ (.int j)) : QE X Ψ (.Compare a [.NotEq] [b] pos) ρ (.bl (!decide (i = j))) := qx_cI op_neI (nomark _) (ha.to ⟨i, rfl, hb.to ⟨j, rfl, rfl⟩⟩)
theorem qe_eqD (hu : X.A.units + 64 < cLine) (ha : QE X Ψ a ρ d) (hb : QE X Ψ b ρ d') (h1 : D.shp 8 d = true) (h2 : D.shp 8 d' = true) : QE X Ψ (.Compare a [.Eq] [b] pos) ρ (.bl (deq d d')) := qx_cmp (op_eqD hu) (od_eqD (by decide)) (nomark _) (ha.to (hb.to ⟨h1, h2, rfl⟩))
theorem qe_neD (hu : X.A.units + 64 < cLine) (ha : QE X Ψ a ρ d) (hb : QE X Ψ b ρ d') (h1 : D.shp 8 d = true) (h2 : D.shp 8 d' = true) : QE X Ψ (.Compare a [.NotEq] [b] pos) ρ (.bl (!deq d d')) := qx_cmp (op_neD hu) (od_neD (by decide)) (nomark _) (ha.to (hb.to ⟨h1, h2, rfl⟩))

/-! ### one place -/
theorem qx_neg (h : QX X Ψ a ρ fun x => ∃ i, x = .int i ∧ Φ (.int (-i))) : QX X Ψ (.UnaryOp .USub a pos) ρ Φ := fun B Hi H σ W tk S rs Q q => wE.of (pe_un un_neg pe_w) (h B Hi H σ W tk S rs _ fun v d Hi1 H1 hd g r => by
  obtain ⟨i, e, k⟩ := hd
  subst e
  cases r
  exact ⟨i, rfl, q _ _ Hi1 H1 k g (.int _)⟩)
theorem qe_neg (ha : QE X Ψ a ρ (.int i)) : QE X Ψ (.UnaryOp .USub a pos) ρ (.int (-i)) := qx_neg (ha.to ⟨i, rfl, rfl⟩)

/-! ### argument lists, displays -/
theorem qa_nil {Φ : List D → Prop} (k : Φ []) : QA X Ψ [] ρ Φ := fun B Hi H σ W tk S rs Q q => wA.of pa_nil (q [] [] Hi H k (Gr.refl S.sub) .nil)
theorem qa_cons {Φ : List D → Prop} (h : QX X Ψ e ρ fun d => QA X Ψ es ρ fun ds => Φ (d :: ds)) (hs : starEach (e :: es) X.env = (false, eval e X.env) :: starEach es X.env := by exact se_of rfl) : QA X Ψ (e :: es) ρ Φ :=
  fun B Hi H σ W tk S rs Q q => wA.of (pa_cons pe_w pa_w hs) (h B Hi H σ W tk S rs _ fun v d Hi1 H1 hd g1 r1 =>
    hd B Hi1 H1 σ W tk (S.grow g1) (rs.grow g1) _ fun vs ds Hi2 H2 h2 g2 r2 => q _ _ Hi2 H2 h2 (g1.trans g2) (.cons (r1.up g2.i) r2))
theorem qas_nil : QAs X Ψ [] ρ [] := qa_nil rfl
theorem qas_cons (h : QE X Ψ e ρ d) (hr : QAs X Ψ es ρ ds) (hs : starEach (e :: es) X.env = (false, eval e X.env) :: starEach es X.env := by exact se_of rfl) : QAs X Ψ (e :: es) ρ (d :: ds) := qa_cons (h.to (hr.to rfl)) hs
theorem small {n : Nat} (h : n ≤ 100000) : n ≤ sizeLine := Nat.le_trans h (by decide)
theorem qx_tup {n : Nat} (h : QA X Ψ es ρ fun ds => ds.length ≤ sizeLine ∧ Φ (.tup ds)) : QX X Ψ (.Tuple es n pos) ρ Φ := fun B Hi H σ W tk S rs Q q => wE.of (pe_tup pa_w) (h B Hi H σ W tk S rs _ fun vs ds Hi1 H1 hd g r => by
  refine ⟨by rw [r.length]; exact hd.1, fun p hp => q _ _ (upd Hi1 p _) _ hd.2 (g.trans (Gr.mk1 g.sub hp)) ?_⟩
  exact .tup (SqT.of upd_same) (r.up (Ex.new (g.sub.free hp))))
theorem qx_lst (h : QA X Ψ es ρ fun ds => ds.length ≤ sizeLine ∧ Φ (.lst ds)) : QX X Ψ (.List es pos) ρ Φ := fun B Hi H σ W tk S rs Q q => wE.of (pe_lst pa_w) (h B Hi H σ W tk S rs _ fun vs ds Hi1 H1 hd g r => by
  refine ⟨by rw [r.length]; exact hd.1, fun p hp => q _ _ (upd Hi1 p _) _ hd.2 (g.trans (Gr.mk1 g.sub hp)) ?_⟩
  exact .lst upd_same (r.up (Ex.new (g.sub.free hp))))
theorem qe_tup {n : Nat} (h : QAs X Ψ es ρ ds) (hz : ds.length ≤ 100000 := by exact Nat.le_of_ble_eq_true rfl) : QE X Ψ (.Tuple es n pos) ρ (.tup ds) := qx_tup (h.to ⟨small hz, rfl⟩)
theorem qe_lst (h : QAs X Ψ es ρ ds) (hz : ds.length ≤ 100000 := by exact Nat.le_of_ble_eq_true rfl) : QE X Ψ (.List es pos) ρ (.lst ds) := qx_lst (h.to ⟨small hz, rfl⟩)

/-! ### tests -/
theorem qt_val (h : QX X Ψ e ρ fun d => ∃ k, d = .bl k ∧ Θ k) (he : ∀ whole, isTrue e X.env whole = (do let v ← whole; standAt e.pos; holding [v] (truthy v)) := by intro _; rfl) : QT X Ψ e ρ Θ :=
  fun B Hi H σ W tk S rs Q q => wT.of (pt_val pe_w he) (h B Hi H σ W tk S rs _ fun v d Hi1 H1 hd g r => by
    obtain ⟨k, e, z⟩ := hd
    subst e
    cases r
    exact ⟨k, rfl, q k Hi1 H1 z g⟩)
theorem qt_not (h : QT X Ψ a ρ fun k => Θ (!k)) : QT X Ψ (.UnaryOp .Not a pos) ρ Θ := fun B Hi H σ W tk S rs Q q => wT.of (pt_not pt_w) (h B Hi H σ W tk S rs _ fun k Hi1 H1 z g => q _ Hi1 H1 z g)
theorem QW.t (h : QW X Ψ e ρ Θ) : QT X Ψ e ρ Θ := fun B Hi H σ W tk S rs Q q pins s I => h B Hi H σ W tk S rs Q q _ pins s I
theorem qw_and1 (h : QT X Ψ a ρ Θ) : QW X Ψ (.BoolOp .And [a] pos) ρ Θ := fun B Hi H σ W tk S rs Q q => wW.of (pw_and1 pt_w) (h B Hi H σ W tk S rs Q q)
theorem qw_or1 (h : QT X Ψ a ρ Θ) : QW X Ψ (.BoolOp .Or [a] pos) ρ Θ := fun B Hi H σ W tk S rs Q q => wW.of (pw_or1 pt_w) (h B Hi H σ W tk S rs Q q)
theorem qw_and {rest : List Expr} (h : QT X Ψ a ρ fun k => if k = true then QW X Ψ (.BoolOp .And (b :: rest) pos) ρ Θ else Θ false) : QW X Ψ (.BoolOp .And (a :: b :: rest) pos) ρ Θ :=
  fun B Hi H σ W tk S rs Q q => wW.of (pw_and pt_w pw_w) (h B Hi H σ W tk S rs _ fun k Hi1 H1 z g => by
    cases k with
    | true => exact z B Hi1 H1 σ W tk (S.grow g) (rs.grow g) Q fun b Hi2 H2 zb g2 => q b Hi2 H2 zb (g.trans g2)
    | false => exact q false Hi1 H1 z g)
theorem qw_or {rest : List Expr} (h : QT X Ψ a ρ fun k => if k = true then Θ true else QW X Ψ (.BoolOp .Or (b :: rest) pos) ρ Θ) : QW X Ψ (.BoolOp .Or (a :: b :: rest) pos) ρ Θ :=
  fun B Hi H σ W tk S rs Q q => wW.of (pw_or pt_w pw_w) (h B Hi H σ W tk S rs _ fun k Hi1 H1 z g => by
    cases k with
    | false => exact z B Hi1 H1 σ W tk (S.grow g) (rs.grow g) Q fun b Hi2 H2 zb g2 => q b Hi2 H2 zb (g.trans g2)
    | true => exact q true Hi1 H1 z g)
/-- tests that answer: QB e k -/
abbrev QB (X : Cx) (Ψ : Str → Prop) (e : Expr) (ρ : List Sl) (k : Bool) : Prop := QT X Ψ e ρ (fun z => z = k)
abbrev QWB (X : Cx) (Ψ : Str → Prop) (e : Expr) (ρ : List Sl) (k : Bool) : Prop := QW X Ψ e ρ (fun z => z = k)
variable {k k' : Bool}
theorem QB.to (h : QB X Ψ e ρ k) (z : Θ k) : QT X Ψ e ρ Θ := QT.mono h fun _ e => by subst e; exact z
theorem QB.is (h : QB X Ψ e ρ k) (z : k = k') : QB X Ψ e ρ k' := z ▸ h
theorem qt_b (h : QE X Ψ e ρ (.bl k)) (he : ∀ whole, isTrue e X.env whole = (do let v ← whole; standAt e.pos; holding [v] (truthy v)) := by intro _; rfl) : QB X Ψ e ρ k := qt_val (h.to ⟨k, rfl, rfl⟩) he
theorem qt_notB (h : QB X Ψ a ρ k) : QB X Ψ (.UnaryOp .Not a pos) ρ (!k) := qt_not (h.to rfl)
theorem qt_lt (ha : QE X Ψ a ρ (.int i)) (hb : QE X Ψ b ρ (.int j)) : QB X Ψ (.Compare a [.Lt] [b] pos) ρ (decide (i < j)) := qt_cmp op_lt (od_I0 fun _ _ _ => .bl _) (nomark _) (ha.to (hb.to ⟨i, j, rfl, rfl, _, rfl, rfl⟩))
theorem qt_le (ha : QE X Ψ a ρ (.int i)) (hb : QE X Ψ b ρ (.int j)) : QB X Ψ (.Compare a [.LtE] [b] pos) ρ (decide (i ≤ j)) := qt_cmp op_le (od_I0 fun _ _ _ => .bl _) (nomark _) (ha.to (hb.to ⟨i, j, rfl, rfl, _, rfl, rfl⟩))
theorem qt_gt (ha : QE X Ψ a ρ (.int i)) (hb : QE X Ψ b ρ (.int j)) : QB X Ψ (.Compare a [.Gt] [b] pos) ρ (decide (j < i)) := qt_cmp op_gt (od_I0 fun _ _ _ => .bl _) (nomark _) (ha.to (hb.to ⟨i, j, rfl, rfl, _, rfl, rfl⟩))
theorem qt_ge (ha : QE X Ψ a ρ (.int i)) (hb : QE X Ψ b ρ (.int j)) : QB X Ψ (.Compare a [.GtE] [b] pos) ρ (decide (j ≤ i)) := qt_cmp op_ge (od_I0 fun _ _ _ => .bl _) (nomark _) (ha.to (hb.to ⟨i, j, rfl, rfl, _, rfl, rfl⟩))
theorem qt_eqI (ha : QE X Ψ a ρ (.int i)) (hb : QE X Ψ b ρ (.int j)) : QB X Ψ (.Compare a [.Eq] [b] pos) ρ (decide (i = j)) := qt_cmp op_eqI (od_I0 fun _ _ _ => .bl _) (nomark _) (ha.to (hb.to ⟨i, j, rfl, rfl, _, rfl, rfl⟩))
theorem qt_neI (ha : QE X Ψ a ρ (.int i)) (hb : QE X Ψ b ρ (.int j)) : QB X Ψ (.Compare a [.NotEq] [b] pos) ρ (!decide (i = j)) := qt_cmp op_neI (od_I0 fun _ _ _ => .bl _) (nomark _) (ha.to (hb.to ⟨i, j, rfl, rfl, _, rfl, rfl⟩))
theorem qt_eqD (hu : X.A.units + 64 < cLine) (ha : QE X Ψ a ρ d) (hb : QE X Ψ b ρ d') (h1 : D.shp 8 d = true) (h2 : D.shp 8 d' = true) : QB X Ψ (.Compare a [.Eq] [b] pos) ρ (deq d d') := qt_cmp (op_eqD hu) (od_eqD (by decide)) (nomark _) (ha.to (hb.to ⟨h1, h2, _, rfl, rfl⟩))
theorem qt_neD (hu : X.A.units + 64 < cLine) (ha : QE X Ψ a ρ d) (hb : QE X Ψ b ρ d') (h1 : D.shp 8 d = true) (h2 : D.shp 8 d' = true) : QB X Ψ (.Compare a [.NotEq] [b] pos) ρ (!deq d d') := qt_cmp (op_neD hu) (od_neD (by decide)) (nomark _) (ha.to (hb.to ⟨h1, h2, _, rfl, rfl⟩))
/-- and, or: the right one is asked only where it counts -/
theorem qwb_and1 (h : QB X Ψ a ρ k) : QWB X Ψ (.BoolOp .And [a] pos) ρ k := qw_and1 h
theorem qwb_or1 (h : QB X Ψ a ρ k) : QWB X Ψ (.BoolOp .Or [a] pos) ρ k := qw_or1 h
theorem qwb_and {rest : List Expr} (h : QB X Ψ a ρ k) (h' : k = true → QWB X Ψ (.BoolOp .And (b :: rest) pos) ρ k') : QWB X Ψ (.BoolOp .And (a :: b :: rest) pos) ρ (k && k') := qw_and (h.to (by
  cases k with
  | true => exact h' rfl
  | false => rfl))
theorem qwb_or {rest : List Expr} (h : QB X Ψ a ρ k) (h' : k = false → QWB X Ψ (.BoolOp .Or (b :: rest) pos) ρ k') : QWB X Ψ (.BoolOp .Or (a :: b :: rest) pos) ρ (k || k') := qw_or (h.to (by
  cases k with
  | true => rfl
  | false => exact h' rfl))
/-- .. as values -/
theorem qx_not (h : QX X Ψ a ρ fun x => ∃ k, x = .bl k ∧ Φ (.bl (!k))) : QX X Ψ (.UnaryOp .Not a pos) ρ Φ := fun B Hi H σ W tk S rs Q q => wE.of (pe_not pe_w) (h B Hi H σ W tk S rs _ fun v d Hi1 H1 hd g r => by
  obtain ⟨k, e, z⟩ := hd
  subst e
  cases r
  exact ⟨k, rfl, q _ _ Hi1 H1 z g (.bl _)⟩)
theorem qx_one {op : BoolOp} (h : QX X Ψ a ρ Φ) : QX X Ψ (.BoolOp op [a] pos) ρ Φ := fun B Hi H σ W tk S rs Q q => wE.of (pe_one pe_w) (h B Hi H σ W tk S rs Q q)
theorem qx_and {rest : List Expr} (h : QX X Ψ a ρ fun x => ∃ k, x = .bl k ∧ if k = true then QX X Ψ (.BoolOp .And (b :: rest) pos) ρ Φ else Φ (.bl false)) : QX X Ψ (.BoolOp .And (a :: b :: rest) pos) ρ Φ :=
  fun B Hi H σ W tk S rs Q q => wE.of (pe_and pe_w pe_w) (h B Hi H σ W tk S rs _ fun v d Hi1 H1 hd g r => by
    obtain ⟨k, e, z⟩ := hd
    subst e
    cases r
    refine ⟨k, rfl, ?_⟩
    cases k with
    | true => exact z B Hi1 H1 σ W tk (S.grow g) (rs.grow g) Q fun v d Hi2 H2 zd g2 r2 => q v d Hi2 H2 zd (g.trans g2) r2
    | false => exact q _ _ Hi1 H1 z g (.bl _))
theorem qx_or {rest : List Expr} (h : QX X Ψ a ρ fun x => ∃ k, x = .bl k ∧ if k = true then Φ (.bl true) else QX X Ψ (.BoolOp .Or (b :: rest) pos) ρ Φ) : QX X Ψ (.BoolOp .Or (a :: b :: rest) pos) ρ Φ :=
  fun B Hi H σ W tk S rs Q q => wE.of (pe_or pe_w pe_w) (h B Hi H σ W tk S rs _ fun v d Hi1 H1 hd g r => by
    obtain ⟨k, e, z⟩ := hd
    subst e
    cases r
    refine ⟨k, rfl, ?_⟩
    cases k with
    | false => exact z B Hi1 H1 σ W tk (S.grow g) (rs.grow g) Q fun v d Hi2 H2 zd g2 r2 => q v d Hi2 H2 zd (g.trans g2) r2
    | true => exact q _ _ Hi1 H1 z g (.bl _))
theorem qe_not (h : QE X Ψ a ρ (.bl k)) : QE X Ψ (.UnaryOp .Not a pos) ρ (.bl (!k)) := qx_not (h.to ⟨k, rfl, rfl⟩)
theorem qe_and {rest : List Expr} (h : QE X Ψ a ρ (.bl k)) (h' : k = true → QE X Ψ (.BoolOp .And (b :: rest) pos) ρ (.bl k')) : QE X Ψ (.BoolOp .And (a :: b :: rest) pos) ρ (.bl (k && k')) := qx_and (h.to ⟨k, rfl, by
  cases k with
  | true => exact h' rfl
  | false => rfl⟩)
theorem qe_or {rest : List Expr} (h : QE X Ψ a ρ (.bl k)) (h' : k = false → QE X Ψ (.BoolOp .Or (b :: rest) pos) ρ (.bl k')) : QE X Ψ (.BoolOp .Or (a :: b :: rest) pos) ρ (.bl (k || k')) := qx_or (h.to ⟨k, rfl, by
  cases k with
  | true => rfl
  | false => exact h' rfl⟩)
/-- a if t else b -/
theorem qx_if (h : QT X Ψ c ρ fun k => if k = true then QX X Ψ a ρ Φ else QX X Ψ b ρ Φ) : QX X Ψ (.IfExp c a b pos) ρ Φ := fun B Hi H σ W tk S rs Q q => wE.of (pe_ifExp pt_w pe_w pe_w) (h B Hi H σ W tk S rs _ fun k Hi1 H1 z g => by
  cases k with
  | true => exact z B Hi1 H1 σ W tk (S.grow g) (rs.grow g) Q fun v d Hi2 H2 zd g2 r2 => q v d Hi2 H2 zd (g.trans g2) r2
  | false => exact z B Hi1 H1 σ W tk (S.grow g) (rs.grow g) Q fun v d Hi2 H2 zd g2 r2 => q v d Hi2 H2 zd (g.trans g2) r2)
theorem qe_if (h : QB X Ψ c ρ k) (h1 : k = true → QE X Ψ a ρ d) (h2 : k = false → QE X Ψ b ρ d') : QE X Ψ (.IfExp c a b pos) ρ (if k = true then d else d') := qx_if (h.to (by
  cases k with
  | true => exact h1 rfl
  | false => exact h2 rfl))
end
end G

namespace G
open PySem PySem.Spec L2

/-! ### blocks -/
/-- what is wanted behind a block, of data -/
structure Po where
  nx : List Sl → Prop := fun _ => False
  rt : D → Prop := fun _ => False
  bk : List Sl → Prop := fun _ => False
  ct : List Sl → Prop := fun _ => False
structure Nd (X : Cx) (Bi B : Hp) (R : Po) (Dn : Ends) : Prop where
  nx : ∀ ρ' Hi' H' σ', R.nx ρ' → Gr Bi B Hi' H' → StOk X.K B Hi' H' σ' ρ' → Dn.nx σ' H'
  rt : ∀ v d Hi' H', R.rt d → Gr Bi B Hi' H' → Rp X.K Hi' v d → Dn.rt v H'
  bk : ∀ ρ' Hi' H' σ', R.bk ρ' → Gr Bi B Hi' H' → StOk X.K B Hi' H' σ' ρ' → Dn.bk σ' H'
  ct : ∀ ρ' Hi' H' σ', R.ct ρ' → Gr Bi B Hi' H' → StOk X.K B Hi' H' σ' ρ' → Dn.ct σ' H'
def Rb (X : Cx) (Ψ : Str → Prop) (Bi B : Hp) (W : WX) : Prop := ∀ x σ' Hi' H', Ψ x → Gr Bi B Hi' H' → W (.ref (He.ga X.K x)) none σ' H'
theorem Rb.rs {X : Cx} {Ψ : Str → Prop} {Bi B Hi H : Hp} {W : WX} (r : Rb X Ψ Bi B W) (g : Gr Bi B Hi H) (σ : L2.St) : Rs X Ψ Hi H σ W := fun x a b p q => r x σ a b p (g.trans q)
def QS (X : Cx) (Ψ : Str → Prop) (st : List Stmt) (ρ : List Sl) (R : Po) : Prop := ∀ (Bi B Hi H : Hp) (σ : L2.St) (Dn : Ends) (W : WX), Takes X W → Gr Bi B Hi H → StOk X.K B Hi H σ ρ → Rb X Ψ Bi B W → Nd X Bi B R Dn → wSs X st Dn σ H
section
variable {X : Cx} {Ψ : Str → Prop} {ρ : List Sl} {R : Po} {Φ : D → Prop} {a b c e : Expr} {es : List Expr} {pos p p2 : Pos} {rest body blk els : List Stmt}
theorem QS.mono {R' : Po} (h : QS X Ψ body ρ R) (k1 : ∀ x, R.nx x → R'.nx x) (k2 : ∀ x, R.rt x → R'.rt x) (k3 : ∀ x, R.bk x → R'.bk x) (k4 : ∀ x, R.ct x → R'.ct x) : QS X Ψ body ρ R' := fun Bi B Hi H σ Dn W tk g S rb N =>
  h Bi B Hi H σ Dn W tk g S rb ⟨fun ρ' a b c z => N.nx ρ' a b c (k1 _ z), fun v d a b z => N.rt v d a b (k2 _ z), fun ρ' a b c z => N.bk ρ' a b c (k3 _ z), fun ρ' a b c z => N.ct ρ' a b c (k4 _ z)⟩
theorem qs_nil (k : R.nx ρ) : QS X Ψ [] ρ R := fun Bi B Hi H σ Dn W tk g S rb N => wSs.of pss_nil (N.nx ρ Hi H σ k g S)
theorem qs_pass (k : QS X Ψ rest ρ R) : QS X Ψ (.Pass pos :: rest) ρ R := fun Bi B Hi H σ Dn W tk g S rb N => wSs.cons ps_pass (k Bi B Hi H σ Dn W tk g S rb N)
theorem qs_break (k : R.bk ρ) : QS X Ψ (.Break pos :: rest) ρ R := fun Bi B Hi H σ Dn W tk g S rb N => wSs.cons ps_break (N.bk ρ Hi H σ k g S)
theorem qs_cont (k : R.ct ρ) : QS X Ψ (.Continue pos :: rest) ρ R := fun Bi B Hi H σ Dn W tk g S rb N => wSs.cons ps_continue (N.ct ρ Hi H σ k g S)
/-- x = e -/
theorem qs_set (i : Nat) {x : Str} (h : QX X Ψ e ρ fun d => QS X Ψ rest (ρ.set i (.dat d)) R) (hN : X.N.Nodup) (hi : X.N[i]? = some x := by rfl) (hx : Loc X.env.scope x := by first | exact Or.inl rfl | exact Or.inr rfl)
    (hs : swapsWith e (some (.Name x p)) pos.line X.env = pure false := by rfl) (hf : X.fn x = true ∨ X.env.scope.names.lookup x = some .local := by first | exact .inl rfl | exact .inr rfl) : QS X Ψ (.Assign [.Name x p] e pos :: rest) ρ R :=
  fun Bi B Hi H σ Dn W tk g S rb N => wSs.cons (ps_set hN hi hx pe_w hs hf) (h B Hi H σ W tk S (rb.rs g σ) _ fun v d Hi1 H1 z g1 r1 => z Bi B Hi1 H1 (σ.set i (some v)) Dn W tk (g.trans g1) ((S.grow g1).set r1) rb N)
theorem qs_expr (h : QX X Ψ e ρ fun _ => QS X Ψ rest ρ R) (hs : swapsWith e none pos.line X.env = pure false := by rfl) : QS X Ψ (.Expr e pos :: rest) ρ R :=
  fun Bi B Hi H σ Dn W tk g S rb N => wSs.cons (ps_expr pe_w hs) (h B Hi H σ W tk S (rb.rs g σ) _ fun v d Hi1 H1 z g1 r1 => z Bi B Hi1 H1 σ Dn W tk (g.trans g1) (S.grow g1) rb N)
theorem qs_ret (h : QX X Ψ e ρ R.rt) : QS X Ψ (.Return (some e) pos :: rest) ρ R :=
  fun Bi B Hi H σ Dn W tk g S rb N => wSs.cons (ps_ret pe_w) (h B Hi H σ W tk S (rb.rs g σ) _ fun v d Hi1 H1 z g1 r1 => N.rt v d Hi1 H1 z (g.trans g1) r1)
theorem qs_retN (k : R.rt .non) : QS X Ψ (.Return none pos :: rest) ρ R := fun Bi B Hi H σ Dn W tk g S rb N => wSs.cons ps_retN (N.rt .non .non Hi H k g .non)
/-- return a list of one's own -/
theorem qs_retO (i : Nat) {x : Str} {c : Cl} {d : D} (hi : ρ[i]? = some (.cl c)) (hd : ∀ K Hi a o Hj, ClOk K Hi a o c → Ex Hi Hj → Hj a = some o → Rp K Hj (.ref a) d) (k : R.rt d) (hN : X.N[i]? = some x := by rfl)
    (hv : Vis X.env.scope x := by first | exact Or.inl rfl | exact Or.inr (Or.inl rfl) | exact Or.inr (Or.inr rfl)) (hdb : (x == ("__debug__" : Str)) = false := by decide) (hcd : (x == ("__classdict__" : Str)) = false := by decide) : QS X Ψ (.Return (some (.Name x p)) pos :: rest) ρ R :=
  fun Bi B Hi H σ Dn W tk g S rb N => by
    obtain ⟨Hi', g', _, S', a, e, r⟩ := S.frz hi g (fun a o Hj => hd _ _ a o Hj)
    exact wSs.cons (ps_ret (pe_var hN hv hdb hcd)) ⟨_, e, N.rt _ d Hi' H k g' r⟩
/-- from here on a list of one's own is read alone -/
theorem qs_frz (i : Nat) {c : Cl} {d : D} (hi : ρ[i]? = some (.cl c)) (hd : ∀ K Hi a o Hj, ClOk K Hi a o c → Ex Hi Hj → Hj a = some o → Rp K Hj (.ref a) d) (h : QS X Ψ body (ρ.set i (.dat d)) R) : QS X Ψ body ρ R :=
  fun Bi B Hi H σ Dn W tk g S rb N => by
    obtain ⟨Hi', g', _, S', a, e, r⟩ := S.frz hi g (fun a o Hj => hd _ _ a o Hj)
    exact h Bi B Hi' H σ Dn W tk g' S' rb N
theorem frz_lst {ds : List D} : ∀ (K : PySem.W.Frag) (Hi : Hp) (a : Addr) (o : HO) (Hj : Hp), ClOk K Hi a o (.lst ds) → Ex Hi Hj → Hj a = some o → Rp K Hj (.ref a) (.lst ds) := fun K Hi a o Hj h e z => by
  cases o with
  | lst vs => exact .lst z ((show RpA K Hi vs ds from h).up e)
  | _ => exact h.elim
theorem qs_if (h : QT X Ψ c ρ fun k => if k = true then QS X Ψ blk ρ { R with nx := fun ρ' => QS X Ψ rest ρ' R } else QS X Ψ els ρ { R with nx := fun ρ' => QS X Ψ rest ρ' R }) : QS X Ψ (.If c blk els pos :: rest) ρ R :=
  fun Bi B Hi H σ Dn W tk g S rb N => wSs.cons (ps_if pt_w pss_w pss_w) (h B Hi H σ W tk S (rb.rs g σ) _ fun k Hi1 H1 z g1 => by
    have N' : Nd X Bi B { R with nx := fun ρ' => QS X Ψ rest ρ' R } { Dn with nx := wSs X rest Dn } := ⟨fun ρ' Hi' H' σ' q g' S' => q Bi B Hi' H' σ' Dn W tk g' S' rb N, N.rt, N.bk, N.ct⟩
    cases k with
    | true => exact z Bi B Hi1 H1 σ _ W tk (g.trans g1) (S.grow g1) rb N'
    | false => exact z Bi B Hi1 H1 σ _ W tk (g.trans g1) (S.grow g1) rb N')
/-- .. whose answer is known: both ways -/
theorem qs_ifB {k : Bool} (h : QB X Ψ c ρ k) (h1 : k = true → QS X Ψ blk ρ { R with nx := fun ρ' => QS X Ψ rest ρ' R }) (h2 : k = false → QS X Ψ els ρ { R with nx := fun ρ' => QS X Ψ rest ρ' R }) : QS X Ψ (.If c blk els pos :: rest) ρ R :=
  qs_if (h.to (by
    cases k with
    | true => exact h1 rfl
    | false => exact h2 rfl))
/-- if c: .. return; no else -/
theorem qs_when {k : Bool} (h : QB X Ψ c ρ k) (h1 : k = true → QS X Ψ blk ρ { R with nx := fun ρ' => QS X Ψ rest ρ' R }) (h2 : k = false → QS X Ψ rest ρ R) : QS X Ψ (.If c blk [] pos :: rest) ρ R :=
  qs_ifB h h1 fun z => qs_nil (h2 z)
/-- a, b = x, y -/
theorem qs_par (i j : Nat) {x y : Str} {px py pt : Pos} {kt k2 : Nat} {pt2 : Pos} (h : QX X Ψ a ρ fun d => QX X Ψ b ρ fun d' => QS X Ψ rest ((ρ.set i (.dat d)).set j (.dat d')) R) (hN : X.N.Nodup) (hij : i ≠ j := by decide) (hi : X.N[i]? = some x := by rfl) (hj : X.N[j]? = some y := by rfl)
    (hx : X.env.scope.names.lookup x = some .local := by rfl) (hy : X.env.scope.names.lookup y = some .local := by rfl) (hc : X.calm = true := by rfl)
    (hw : swappedStores [.Tuple [.Name x px, .Name y py] kt pt] (.Tuple [a, b] k2 pt2) X.env = pure (some [x, y]) := by rfl)
    (hs : swapsWithSole [.Tuple [.Name x px, .Name y py] kt pt] (.Tuple [a, b] k2 pt2) pos.line X.env = pure false := by rfl) (he : starEach [a, b] X.env = (false, eval a X.env) :: starEach [b] X.env := by exact se_of rfl) (he2 : starEach [b] X.env = (false, eval b X.env) :: starEach [] X.env := by exact se_of rfl) :
    QS X Ψ (.Assign [.Tuple [.Name x px, .Name y py] kt pt] (.Tuple [a, b] k2 pt2) pos :: rest) ρ R :=
  fun Bi B Hi H σ Dn W tk g S rb N => wSs.cons (ps_par (i := i) (j := j) hc hN hi hj hij hx hy (pa_cons pe_w (pa_cons pe_w pa_nil he2) he) hw hs) (h B Hi H σ W tk S (rb.rs g σ) _ fun v d Hi1 H1 z g1 r1 =>
    z B Hi1 H1 σ W tk (S.grow g1) ((rb.rs g σ).grow g1) _ fun u d' Hi2 H2 z2 g2 r2 => ⟨v, u, rfl, z2 Bi B Hi2 H2 _ Dn W tk ((g.trans g1).trans g2) ((((S.grow g1).grow g2).set (r1.up g2.i)).set r2) rb N⟩)

/-! ### targets -/
/-- tg takes d: the slots from ρ to ρ' -/
def QG (X : Cx) (tg : Expr) (d : D) (ρ ρ' : List Sl) : Prop := ∀ (B Hi H : Hp) (σ : L2.St) (v : V), StOk X.K B Hi H σ ρ → Rp X.K Hi v d → ∀ Q : L2.St → Hp → Prop, (∀ σ', StOk X.K B Hi H σ' ρ' → Q σ' H) → wG X tg v σ H Q
def QGs (X : Cx) (tgs : List Expr) (ds : List D) (ρ ρ' : List Sl) : Prop := ∃ t, PGs X tgs t ∧ ∀ (B Hi H : Hp) (σ : L2.St) (vs : List V), StOk X.K B Hi H σ ρ → RpA X.K Hi vs ds → ∀ Q : L2.St → Hp → Prop, (∀ σ', StOk X.K B Hi H σ' ρ' → Q σ' H) → t vs σ H Q
theorem wG.of {tg : Expr} {g : TG} {v : V} {σ : L2.St} {H : Hp} {Q : L2.St → Hp → Prop} (h : PG X tg g) (q : g v σ H Q) : wG X tg v σ H Q := fun pins s u I r => h.run pins s σ H v u Q I r q
theorem qg_name (i : Nat) {x : Str} {d : D} (hN : X.N.Nodup) (hi : X.N[i]? = some x := by rfl) (hx : Loc X.env.scope x := by first | exact Or.inl rfl | exact Or.inr rfl) (hf : X.fn x = true ∨ X.env.scope.names.lookup x = some .local := by first | exact .inl rfl | exact .inr rfl) :
    QG X (.Name x pos) d ρ (ρ.set i (.dat d)) := fun B Hi H σ v S r Q q => wG.of (pg_name (i := i) hN hi hx hf) (q _ (S.set r))
theorem qgs_nil : QGs X [] [] ρ ρ := ⟨gNil, pgs_nil, fun B Hi H σ vs S r Q q => by cases r; exact ⟨rfl, q _ S⟩⟩
theorem qgs_cons {tg : Expr} {tgs : List Expr} {d : D} {ds : List D} {ρ1 ρ2 : List Sl} (h : QG X tg d ρ ρ1) (hr : QGs X tgs ds ρ1 ρ2) (hs : (assignEach (tg :: tgs) X.env).map (·.2) = assign tg X.env :: (assignEach tgs X.env).map (·.2) := by rfl) : QGs X (tg :: tgs) (d :: ds) ρ ρ2 := by
  obtain ⟨t, ht, hq⟩ := hr
  refine ⟨gCons (wG X tg) t, pgs_cons pg_w ht hs, fun B Hi H σ vs S r Q q => ?_⟩
  cases r with
  | cons r1 r2 => exact ⟨_, _, rfl, h B Hi H σ _ S r1 _ fun σ1 S1 => hq B Hi H σ1 _ S1 r2 Q q⟩
theorem qg_tup {tgs : List Expr} {n : Nat} {ds : List D} {ρ' : List Sl} (h : QGs X tgs ds ρ ρ') (hl : (assignEach tgs X.env).length = ds.length := by rfl) (hst : (assignEach tgs X.env).findIdx? (·.1) = none := by rfl) (hc : X.calm = true := by rfl) :
    QG X (.Tuple tgs n pos) (.tup ds) ρ ρ' := fun B Hi H σ v S r Q q => by
  obtain ⟨t, ht, hq⟩ := h
  cases r with
  | tup hs ha => exact wG.of (pg_tup (n := ds.length) hc ht hl hst) ⟨_, _, rfl, S.sub.t hs, ha.length, hq B Hi H σ _ S ha Q q⟩
/-- target = e -/
theorem qs_asg {tg : Expr} (h : QX X Ψ e ρ fun d => ∃ ρ', QG X tg d ρ ρ' ∧ QS X Ψ rest ρ' R) (hs : swapsWithSole [tg] e pos.line X.env = pure false := by rfl) (hw : swappedStores [tg] e X.env = pure none := by rfl)
    (h1 : (assignEach [tg] X.env).map (·.2) = [assign tg X.env] := by rfl) : QS X Ψ (.Assign [tg] e pos :: rest) ρ R :=
  fun Bi B Hi H σ Dn W tk g S rb N => wSs.cons (ps_asg pe_w pg_w hs hw h1) (h B Hi H σ W tk S (rb.rs g σ) _ fun v d Hi1 H1 z g1 r1 => by
    obtain ⟨ρ', hg, hq⟩ := z
    exact hg B Hi1 H1 σ v (S.grow g1) r1 _ fun σ' S' => hq Bi B Hi1 H1 σ' Dn W tk (g.trans g1) S' rb N)

/-! ### while -/
theorem qs_while {I : Nat → List Sl → Prop} (m0 : Nat) (h0 : I m0 ρ) (hp : PassesOwn (model X.prog X.w) X.A X.env X.xe)
    (hs : ∀ m ρ1, I m ρ1 → QT X Ψ c ρ1 fun k => if k = true then QS X Ψ body ρ1 { nx := fun ρ' => ∃ m', m' < m ∧ I m' ρ', rt := R.rt, bk := fun ρ' => QS X Ψ rest ρ' R, ct := fun ρ' => ∃ m', m' < m ∧ I m' ρ' } else QS X Ψ rest ρ1 R) :
    QS X Ψ (.While c body [] pos :: rest) ρ R :=
  fun Bi B Hi H σ Dn W tk g S rb N => wSs.cons (ps_while hp pt_w pss_w) (by
    refine ⟨fun m σ1 H1 => ∃ ρ1 Hi1, I m ρ1 ∧ Gr Bi B Hi1 H1 ∧ StOk X.K B Hi1 H1 σ1 ρ1, ⟨m0, ρ, Hi, h0, g, S⟩, fun m σ1 H1 hw => ?_⟩
    obtain ⟨ρ1, Hi1, hi, g1, S1⟩ := hw
    refine hs m ρ1 hi B Hi1 H1 σ1 W tk S1 (rb.rs g1 σ1) _ fun k Hi2 H2 z g2 => ?_
    cases k with
    | true =>
      refine ⟨fun σ' H' => ∃ m', m' < m ∧ ∃ ρ' Hi', I m' ρ' ∧ Gr Bi B Hi' H' ∧ StOk X.K B Hi' H' σ' ρ', fun σ' H' q => q, ?_⟩
      refine z Bi B Hi2 H2 σ1 _ W tk (g1.trans g2) (S1.grow g2) rb ⟨fun ρ' Hi' H' σ' q g' S' => ?_, N.rt, fun ρ' Hi' H' σ' q g' S' => q Bi B Hi' H' σ' Dn W tk g' S' rb N, fun ρ' Hi' H' σ' q g' S' => ?_⟩
      · obtain ⟨m', hm, hi'⟩ := q
        exact ⟨m', hm, ρ', Hi', hi', g', S'⟩
      · obtain ⟨m', hm, hi'⟩ := q
        exact ⟨m', hm, ρ', Hi', hi', g', S'⟩
    | false => exact z Bi B Hi2 H2 σ1 Dn W tk (g1.trans g2) (S1.grow g2) rb N)

/-! ### for -/
/-- a for's turn, from the datum -/
abbrev turnPo (X : Cx) (Ψ : Str → Prop) (rest : List Stmt) (R : Po) (I : List Sl → Prop) : Po := { nx := I, rt := R.rt, bk := fun ρ' => QS X Ψ rest ρ' R, ct := I }
end
end G

namespace G
open PySem PySem.Spec L2

section
variable {X : Cx} {Ψ : Str → Prop} {ρ : List Sl} {R : Po} {Φ : D → Prop} {a b c e : Expr} {es : List Expr} {pos p p2 : Pos} {rest body blk els : List Stmt}
theorem Gr.past {Bi B Hi H Hi' H' : Hp} (g : Gr Bi B Hi H) (q : Gr Hi B Hi' H') : Gr Bi B Hi' H' := ⟨g.i.trans q.i, q.o, q.sub, fun c z1 z2 => by
  cases z3 : Hi c with
  | none => exact q.new c z3 z2
  | some u => exact g.new c z1 ⟨u, z3⟩⟩
/-- what holds between the turns -/
abbrev Mid (X : Cx) (Bi B Hi1 : Hp) (I : List Sl → Prop) : L2.St → Hp → Prop := fun σ2 H2 => ∃ ρ2 Hi2, I ρ2 ∧ Gr Bi B Hi2 H2 ∧ Ex Hi1 Hi2 ∧ StOk X.K B Hi2 H2 σ2 ρ2
theorem turn_go {Bi B Hi1 Hi2 H2 : Hp} {σ3 : L2.St} {ρ3 : List Sl} {Dn : Ends} {W : WX} {I : List Sl → Prop} (tk : Takes X W) (g2 : Gr Bi B Hi2 H2) (e2 : Ex Hi1 Hi2) (S3 : StOk X.K B Hi2 H2 σ3 ρ3) (rb : Rb X Ψ Bi B W) (N : Nd X Bi B R Dn)
    (hb : QS X Ψ body ρ3 (turnPo X Ψ rest R I)) : wSs X body { Dn with nx := Mid X Bi B Hi1 I, ct := Mid X Bi B Hi1 I, bk := wSs X rest Dn } σ3 H2 :=
  hb Hi2 B Hi2 H2 σ3 _ W tk ⟨Ex.refl _, g2.o, g2.sub, fun c q ⟨u, z⟩ => by rw [q] at z; cases z⟩ S3 (fun x σ' Hi' H' p q => rb x σ' Hi' H' p (g2.past q))
    ⟨fun ρ' Hi' H' σ' q g' S' => ⟨ρ', Hi', q, g2.past g', e2.trans g'.i, S'⟩, fun v d Hi' H' q g' r' => N.rt v d Hi' H' q (g2.past g') r', fun ρ' Hi' H' σ' q g' S' => q Bi B Hi' H' σ' Dn W tk (g2.past g') S' rb N, fun ρ' Hi' H' σ' q g' S' => ⟨ρ', Hi', q, g2.past g', e2.trans g'.i, S'⟩⟩
/-! ### raise -/
structure ExcF (K : PySem.W.Frag) (mg : Str → Option Value) (x : Str) : Prop where
  g : mg x = some (.ref (He.ga K x))
  ex : PySem.W.excIn K (He.ga K x) He.veBase "ValueError.__new__" = true
  kp : PySem.W.keepIn K (.ref (He.ga K x)) = true
  sb : PySem.W.subIn K (.ref (He.ga K x)) (.type "BaseException") = some true
  ty : PySem.W.typeIn K (.ref (He.ga K x)) = some (.type "type")
theorem qs_raise {x m : Str} {j : Nat} {q1 q2 q3 : Pos} (T : ExcF X.K X.mg x) (k : Ψ x) (hg : Gl X x := by rfl) (hdb : (x == ("__debug__" : Str)) = false := by decide) (hc : X.calm = true := by rfl) :
    QS X Ψ (.Raise (some (.Call (.Name x q1) [.Constant (.str m) j q2] [] q3)) none pos :: rest) ρ R :=
  fun Bi B Hi H σ Dn W tk g S rb N => wSs.cons (ps_raise hc tk (pmk_own PySem.F.excBase_ValueError T.ex T.g T.kp (raises_own T.sb T.ty) hg hdb)) (rb x σ Hi H k g)

/-! ### defs -/
/-- what a def promises, of data: S ds Φ Ψ: all that ds give is in Φ, all that is raised in Ψ -/
abbrev SpD := List D → (D → Prop) → (Str → Prop) → Prop
def spD (K : PySem.W.Frag) (n : Nat) (S : SpD) : Sp := fun vs H Q E => vs.length = n ∧ ∃ (Hi : Hp) (ds : List D) (Φ : D → Prop) (Ψ : Str → Prop), Ex Hi H ∧ RpA K Hi vs ds ∧ S ds Φ Ψ ∧
  (∀ v d Hi' H', Φ d → Gr Hi H Hi' H' → Rp K Hi' v d → Q v H') ∧ ∀ x Hi' H', Ψ x → Gr Hi H Hi' H' → E (.ref (He.ga K x)) none H'
/-- the def x, of n parameters, at level k -/
def FnS (P : Program) (w : World) (K : PySem.W.Frag) (mg : Str → Option Value) (base : Heap) (x : Str) (k n : Nat) (S : SpD) : Prop :=
  (∀ ds Φ Ψ, S ds Φ Ψ → ds.length = n) ∧ ∃ (f : Addr) (fd : FuncData) (ps : List Str), mg x = some (.ref f) ∧ PySem.W.keepIn K (.ref f) = true ∧ Binds K fd ps [] ∧ FnOk P w K mg base (L2.CX P w) k f fd ps (spD K n S)
theorem qx_call {x : Str} {k n : Nat} {S : SpD} (F : FnS X.prog X.w X.K X.mg X.base x k n S) (hr : Room k X.A) (h : QA X Ψ (e :: es) ρ fun ds => S ds Φ Ψ) (hg : Gl X x := by rfl) (hdb : (x == ("__debug__" : Str)) = false := by decide)
    (he : starEach (e :: es) X.env = (false, eval e X.env) :: starEach es X.env := by exact se_of rfl) (hpl : (backTo pos (starEach es X.env)).any (·.1) = false := by rfl) : QX X Ψ (.Call (.Name x p) (e :: es) [] pos) ρ Φ :=
  fun B Hi H σ W tk St rs Q q => by
    obtain ⟨hn, f, fd, ps, g1, kp, bd, ok⟩ := F
    refine wE.of (pe_callS (E := L2.WE W) ok hr hg g1 kp bd (fun σ => passAt tk σ) pa_w hdb he hpl) (h B Hi H σ W tk St rs _ fun vs ds Hi1 H1 z g2 r => ?_)
    exact ⟨by rw [r.length]; exact hn _ _ _ z, Hi1, ds, Φ, Ψ, g2.sub, r, z, fun v d Hi' H' hz g3 r3 => q v d Hi' H' hz (g2.trans g3) r3, fun x Hi' H' hx g3 => rs x Hi' H' hx (g2.trans g3)⟩
theorem start_ok {K : PySem.W.Frag} {Hi H : Hp} {N : List Str} {vs : List V} {ds : List D} (s : Ex Hi H) (r : RpA K Hi vs ds) : StOk K H Hi H (L2.start N vs) (ds.map Sl.dat ++ List.replicate (N.length - ds.length) .emp) := by
  refine ⟨s, by unfold L2.start; simp [r.length], fun i x t a b => ?_, fun i j s t a h1 _ o _ _ _ => ?_⟩
  · unfold L2.start at a
    by_cases hi : i < ds.length
    · rw [List.getElem?_append_left (by simpa [r.length] using hi)] at a
      rw [List.getElem?_append_left (by simpa using hi)] at b
      rw [List.getElem?_map] at a b
      cases e : ds[i]? with
      | none => rw [e] at b; cases b
      | some d =>
        obtain ⟨v, h1, h2⟩ := r.get e
        rw [e] at b
        rw [h1] at a
        cases a; cases b
        exact h2
    · rw [List.getElem?_append_right (by simpa using hi)] at b
      rw [List.getElem?_replicate] at b
      split at b
      · cases b; cases x <;> trivial
      · cases b
  · rcases List.mem_append.mp (List.mem_of_getElem? h1) with h | h
    · obtain ⟨d, _, rfl⟩ := List.mem_map.mp h
      cases o
    · rw [List.eq_of_mem_replicate h] at o
      cases o
/-- THE RULE for a def -/
theorem fnS_of {P : Program} {w : World} {K : PySem.W.Frag} {mg : Str → Option Value} {base : Heap} {x : Str} {st : Stmt} {N ps : List Str} {k : Nat} {S : SpD} {f : Addr} {fd : FuncData}
    (F : FunD K x x (defArgs st) (defBody st) (defScope st) [] [] f fd) (hm : mg x = some (.ref f)) (Sc : FnScope N ps (defScope st)) (hn : ∀ ds Φ Ψ, S ds Φ Ψ → ds.length = ps.length)
    (hb : ∀ (kV doc pm : Value) (an : Option Addr) (cdv ct : Value) (us : List Value), us.length = ps.length → bindArgs (PySem.W.fnOf x x (defArgs st) (defBody st) (defScope st) .none kV doc pm an cdv ct) ⟨us, []⟩ = pure (ps.zip us))
    (body : ∀ (cdv : Value) (A : Around) (outer : List Env) (s : Shared) (H : Hp) (E : XK), Room k (A.deeper (PyProof.Rows.envOfC x (defScope st) s.heap.objs.size f cdv)) → ∀ ds Φ Ψ, S ds Φ Ψ →
      QS (cxOf (L2.CX P w) P w K mg base N x (defScope st) f cdv A outer s H E) Ψ (defBody st) (ds.map Sl.dat ++ List.replicate (N.length - ds.length) .emp) { nx := fun _ => Φ .non, rt := Φ }) :
    FnS P w K mg base x (k + 1) ps.length S := by
  refine ⟨hn, f, fd, ps, hm, F.kp, F.bindsN hb, F.ok Sc (fun vs H Q E h => h.1) fun cdv A outer s H vs Q E hr h => ⟨_, pss_w, ?_⟩⟩
  obtain ⟨_, Hi, ds, Φ, Ψ, sub, r, hS, hQ, hE⟩ := h
  exact body cdv A outer s H E hr ds Φ Ψ hS Hi H Hi H _ _ (fun cls d _ H' => E cls d H') (takes_of rfl rfl rfl rfl) (Gr.refl sub) (start_ok sub r) (fun y _ Hi' H' p q => hE y Hi' H' p q)
    ⟨fun ρ' Hi' H' σ' z g _ => hQ .non .non Hi' H' z g .non, fun v d Hi' H' z g r' => hQ v d Hi' H' z g r', fun _ _ _ _ z => z.elim, fun _ _ _ _ z => z.elim⟩
end
end G

namespace G
open PySem PySem.Spec L2
section
variable {X : Cx} {Ψ : Str → Prop} {ρ : List Sl} {R : Po} {Φ : D → Prop} {a b c e : Expr} {es : List Expr} {pos p p2 : Pos} {rest body blk els : List Stmt}

/-! ### what is walked -/
/-- J walks the data ds from the heap Hi1 on -/
structure Walks (K : PySem.W.Frag) (J : It) (Hi1 : Hp) (ds : List D) : Prop where
  go : ∀ i H, Ex Hi1 H → i < ds.length → J.go i H
  stop : ∀ H, Ex Hi1 H → J.stop ds.length H
  yld : ∀ i H x H' Hi, Ex Hi1 Hi → Ex Hi H → J.yld i H x H' → i < ds.length → ∃ d Hi', ds[i]? = some d ∧ Gr Hi H Hi' H' ∧ Rp K Hi' x d
def QI (X : Cx) (Ψ : Str → Prop) (tg iter : Expr) (ρ : List Sl) (Φ : List D → Prop) : Prop := ∃ wi, PI X tg iter wi ∧ ∀ (B Hi H : Hp) (σ : L2.St) (W : WX), Takes X W → StOk X.K B Hi H σ ρ → Rs X Ψ Hi H σ W →
  ∀ Rr : It → Hp → Prop, (∀ ds Hi1 H1 J, Φ ds → Gr Hi H Hi1 H1 → Walks X.K J Hi1 ds → Rr J H1) → wi σ H Rr
abbrev QIs (X : Cx) (Ψ : Str → Prop) (tg iter : Expr) (ρ : List Sl) (ds : List D) : Prop := QI X Ψ tg iter ρ (fun z => z = ds)
theorem QI.mono {tg iter : Expr} {Φ Φ' : List D → Prop} (h : QI X Ψ tg iter ρ Φ) (k : ∀ d, Φ d → Φ' d) : QI X Ψ tg iter ρ Φ' := by
  obtain ⟨wi, hp, h⟩ := h
  exact ⟨wi, hp, fun B Hi H σ W tk S rs Rr q => h B Hi H σ W tk S rs Rr fun ds Hi1 H1 J z => q ds Hi1 H1 J (k _ z)⟩
theorem QIs.to {tg iter : Expr} {ds : List D} {Φ : List D → Prop} (h : QIs X Ψ tg iter ρ ds) (k : Φ ds) : QI X Ψ tg iter ρ Φ := h.mono fun _ e => by subst e; exact k
theorem qi_lst {tg iter : Expr} {Φ : List D → Prop} (h : QX X Ψ iter ρ fun d => ∃ ds, d = .lst ds ∧ Φ ds) : QI X Ψ tg iter ρ Φ := ⟨_, pi_list pe_w, fun B Hi H σ W tk S rs Rr q => h B Hi H σ W tk S rs _ fun v d Hi1 H1 z g r => by
  obtain ⟨ds, e, k⟩ := z
  subst e
  cases r with
  | @lst a xs _ hs ha =>
    refine ⟨_, rfl, ⟨xs, SqL.of (g.sub _ _ hs)⟩, q ds Hi1 H1 _ k g ⟨fun i H x hi => ?_, fun H x => ⟨xs, SqL.of (x _ _ hs), by rw [ha.length]; exact Nat.le_refl _⟩, fun i H x H' Hi e1 e2 y hi => ?_⟩⟩
    · obtain ⟨v, h1, _⟩ := ha.get (List.getElem?_eq_getElem hi)
      exact ⟨xs, v, SqL.of (x _ _ hs), h1⟩
    · obtain ⟨rfl, hy⟩ := y
      obtain ⟨d, h1, h2⟩ := ha.getV (hy xs (SqL.of (e2 _ _ (e1 _ _ hs))))
      exact ⟨d, Hi, h1, Gr.refl e2, h2.up e1⟩⟩
theorem qi_tup {tg iter : Expr} {Φ : List D → Prop} (h : QX X Ψ iter ρ fun d => ∃ ds, d = .tup ds ∧ Φ ds) : QI X Ψ tg iter ρ Φ := ⟨_, pi_tup pe_w, fun B Hi H σ W tk S rs Rr q => h B Hi H σ W tk S rs _ fun v d Hi1 H1 z g r => by
  obtain ⟨ds, e, k⟩ := z
  subst e
  cases r with
  | @tup a xs _ hs ha =>
    refine ⟨_, rfl, ⟨xs, g.sub.t hs⟩, q ds Hi1 H1 _ k g ⟨fun i H x hi => ?_, fun H x => ⟨xs, x.t hs, by rw [ha.length]; exact Nat.le_refl _⟩, fun i H x H' Hi e1 e2 y hi => ?_⟩⟩
    · obtain ⟨v, h1, _⟩ := ha.get (List.getElem?_eq_getElem hi)
      exact ⟨xs, v, x.t hs, h1⟩
    · obtain ⟨rfl, hy⟩ := y
      obtain ⟨d, h1, h2⟩ := ha.getV (hy xs (e2.t (e1.t hs)))
      exact ⟨d, Hi, h1, Gr.refl e2, h2.up e1⟩⟩
/-- lo, lo + 1, ..: n of them -/
def rangeD (lo : Int) (n : Nat) : List D := (List.range n).map fun (i : Nat) => D.int (lo + i)
theorem rangeD_get {lo : Int} {n i : Nat} (h : i < n) : (rangeD lo n)[i]? = some (.int (lo + i)) := by unfold rangeD; simp [h]
theorem rangeD_length {lo : Int} {n : Nat} : (rangeD lo n).length = n := by unfold rangeD; simp
theorem walks_range {K : PySem.W.Frag} {Hi : Hp} {lo : Int} {n : Nat} : Walks K (Itr lo n) Hi (rangeD lo n) :=
  ⟨fun i H _ hi => by rw [rangeD_length] at hi; exact hi, fun H _ => by rw [rangeD_length]; exact Nat.le_refl n, fun i H x H' Hi' e1 e2 y hi => by
    obtain ⟨rfl, rfl⟩ := y
    rw [rangeD_length] at hi
    exact ⟨_, Hi', rangeD_get hi, Gr.refl e2, .int _⟩⟩
theorem qi_range1 {tg : Expr} {Φ : List D → Prop} (hm : X.mg "range" = none) (h : QA X Ψ [e] ρ fun ds => ∃ n : Int, ds = [.int n] ∧ n ≤ 100000 ∧ -100000 ≤ n ∧ Φ (rangeD 0 n.toNat)) (hg : Gl X "range" := by rfl) (hst : starEach [e] X.env = [(false, eval e X.env)] := by exact se_of rfl) :
    QI X Ψ tg (.Call (.Name "range" p) [e] [] p2) ρ Φ := ⟨_, pi_range1 hg hm pa_w hst, fun B Hi H σ W tk S rs Rr q => h B Hi H σ W tk S rs _ fun vs ds Hi1 H1 z g r => by
  obtain ⟨n, e, h1, h2, k⟩ := z
  subst e
  cases r with
  | cons r rr =>
    cases rr
    cases r
    exact ⟨n, rfl, by omega, by omega, q _ Hi1 H1 _ k g walks_range⟩⟩
theorem qi_range2 {tg e2 : Expr} {Φ : List D → Prop} (hm : X.mg "range" = none) (h : QA X Ψ [e, e2] ρ fun ds => ∃ lo hi : Int, ds = [.int lo, .int hi] ∧ lo ≤ 100000 ∧ -100000 ≤ lo ∧ hi ≤ 100000 ∧ -100000 ≤ hi ∧ Φ (rangeD lo (hi - lo).toNat)) (hg : Gl X "range" := by rfl)
    (hst : starEach [e, e2] X.env = [(false, eval e X.env), (false, eval e2 X.env)] := by rfl) (hst2 : starEach [e2] X.env = [(false, eval e2 X.env)] := by rfl) :
    QI X Ψ tg (.Call (.Name "range" p) [e, e2] [] p2) ρ Φ := ⟨_, pi_range2 hg hm pa_w hst hst2, fun B Hi H σ W tk S rs Rr q => h B Hi H σ W tk S rs _ fun vs ds Hi1 H1 z g r => by
  obtain ⟨lo, hi, e, h1, h2, h3, h4, k⟩ := z
  subst e
  cases r with
  | cons r rr =>
    cases rr with
    | cons r' rr =>
      cases rr
      cases r
      cases r'
      exact ⟨lo, hi, rfl, ⟨by omega, by omega, by omega, by omega⟩, q _ Hi1 H1 _ k g walks_range⟩⟩
theorem pair_new {K : PySem.W.Frag} {Hi H : Hp} {T : Addr} {x y : V} {d d' : D} (s : Ex Hi H) (hT : H T = none) (r1 : Rp K Hi x d) (r2 : Rp K Hi y d') : Gr Hi H (upd Hi T (.tup [x, y])) (upd H T (.tup [x, y])) ∧ Rp K (upd Hi T (.tup [x, y])) (.ref T) (.tup [d, d']) :=
  ⟨Gr.mk1 s hT, .tup (SqT.of upd_same) (.cons (r1.up (Ex.new (s.free hT))) (.cons (r2.up (Ex.new (s.free hT))) .nil))⟩
/-- zip of two lists: as many turns as the shorter one -/
def zipD (ds es : List D) : List D := (ds.zip es).map fun q => .tup [q.1, q.2]
theorem qi_zip {elts : List Expr} {kk : Nat} {tpos : Pos} {e2 : Expr} {Φ : List D → Prop} (hm : X.mg "zip" = none) (h : QA X Ψ [e, e2] ρ fun ds => ∃ xs ys, ds = [.lst xs, .lst ys] ∧ Φ (zipD xs ys)) (hg : Gl X "zip" := by rfl)
    (hs : starEach [e, e2] X.env = (false, eval e X.env) :: starEach [e2] X.env := by exact se_of rfl) (hpl : (backTo p2 (starEach [e2] X.env)).any (·.1) = false := by rfl) : QI X Ψ (.Tuple elts kk tpos) (.Call (.Name "zip" p) [e, e2] [] p2) ρ Φ :=
  ⟨_, pi_zip hg hm pa_w hs hpl, fun B Hi H σ W tk S rs Rr q => h B Hi H σ W tk S rs _ fun vs ds Hi1 H1 z g r => by
    obtain ⟨xs, ys, e, k⟩ := z
    subst e
    cases r with
    | cons r rr =>
      cases rr with
      | cons r' rr =>
        cases rr
        cases r with
        | @lst a1 us _ hs1 ha1 =>
          cases r' with
          | @lst a2 ws _ hs2 ha2 =>
            have hz : (zipD xs ys).length = min xs.length ys.length := by unfold zipD; simp
            refine ⟨_, _, us, ws, rfl, SqL.of (g.sub _ _ hs1), SqL.of (g.sub _ _ hs2), q _ Hi1 H1 _ k g ⟨fun i H x hi => ?_, fun H x => ?_, fun i H v H' Hj e1 e2 y hi => ?_⟩⟩
            · rw [hz] at hi
              obtain ⟨v1, h1, _⟩ := ha1.get (List.getElem?_eq_getElem (show i < xs.length by omega))
              obtain ⟨v2, h2, _⟩ := ha2.get (List.getElem?_eq_getElem (show i < ys.length by omega))
              exact ⟨us, ws, v1, v2, SqL.of (x _ _ hs1), SqL.of (x _ _ hs2), h1, h2⟩
            · refine ⟨us, ws, SqL.of (x _ _ hs1), SqL.of (x _ _ hs2), ?_⟩
              rw [hz, ha1.length, ha2.length]
              omega
            · obtain ⟨T, x1, y1, rfl, hT, rfl, hx, hy⟩ := y
              obtain ⟨d1, h1, r1⟩ := ha1.getV (hx us (SqL.of (e2 _ _ (e1 _ _ hs1))))
              obtain ⟨d2, h2, r2⟩ := ha2.getV (hy ws (SqL.of (e2 _ _ (e1 _ _ hs2))))
              obtain ⟨g2, r3⟩ := pair_new e2 hT (r1.up e1) (r2.up e1)
              refine ⟨_, _, ?_, g2, r3⟩
              unfold zipD
              rw [List.getElem?_map, List.getElem?_zip_eq_some (z := (d1, d2)) |>.mpr ⟨h1, h2⟩]
              rfl⟩
def enumD (ds : List D) : List D := ds.zipIdx.map fun q => .tup [.int q.2, q.1]
theorem qi_enum {elts : List Expr} {kk : Nat} {tpos : Pos} {Φ : List D → Prop} (hm : X.mg "enumerate" = none) (h : QA X Ψ [e] ρ fun ds => ∃ xs, ds = [.lst xs] ∧ Φ (enumD xs)) (hg : Gl X "enumerate" := by rfl)
    (hs : starEach [e] X.env = [(false, eval e X.env)] := by exact se_of rfl) : QI X Ψ (.Tuple elts kk tpos) (.Call (.Name "enumerate" p) [e] [] p2) ρ Φ :=
  ⟨_, pi_enum hg hm pa_w hs, fun B Hi H σ W tk S rs Rr q => h B Hi H σ W tk S rs _ fun vs ds Hi1 H1 z g r => by
    obtain ⟨xs, e, k⟩ := z
    subst e
    cases r with
    | cons r rr =>
      cases rr
      cases r with
      | @lst a1 us _ hs1 ha1 =>
        have hz : (enumD xs).length = xs.length := by unfold enumD; simp
        refine ⟨_, us, rfl, SqL.of (g.sub _ _ hs1), q _ Hi1 H1 _ k g ⟨fun i H x hi => ?_, fun H x => ?_, fun i H v H' Hj e1 e2 y hi => ?_⟩⟩
        · rw [hz] at hi
          obtain ⟨v1, h1, _⟩ := ha1.get (List.getElem?_eq_getElem (show i < xs.length by omega))
          exact ⟨us, v1, SqL.of (x _ _ hs1), h1⟩
        · exact ⟨us, SqL.of (x _ _ hs1), by rw [hz, ha1.length]; exact Nat.le_refl _⟩
        · obtain ⟨T, x1, rfl, hT, rfl, hx⟩ := y
          obtain ⟨d1, h1, r1⟩ := ha1.getV (hx us (SqL.of (e2 _ _ (e1 _ _ hs1))))
          obtain ⟨g2, r3⟩ := pair_new e2 hT (.int (i : Nat)) (r1.up e1)
          refine ⟨_, _, ?_, g2, r3⟩
          unfold enumD
          rw [List.getElem?_map, List.getElem?_zipIdx, h1]
          simp⟩

/-! ### for -/
theorem qs_for {tg iter : Expr} (I : Nat → List Sl → Prop) (hp : PassesOwn (model X.prog X.w) X.A X.env X.xe)
    (h : QI X Ψ tg iter ρ fun ds => I 0 ρ ∧ (∀ i x ρ1, ds[i]? = some x → I i ρ1 → ∃ ρ2, QG X tg x ρ1 ρ2 ∧ QS X Ψ body ρ2 (turnPo X Ψ rest R (I (i + 1)))) ∧ (∀ ρ1, I ds.length ρ1 → QS X Ψ rest ρ1 R))
    (hf : ∀ x, foldedSetIterable iter X.env x = pure x := by intro _; rfl) (hc : X.calm = true := by rfl) : QS X Ψ (.For tg iter body [] pos :: rest) ρ R := by
  obtain ⟨wi, hi, h⟩ := h
  exact fun Bi B Hi H σ Dn W tk g S rb N => wSs.cons (ps_for hp hc hi pg_w pss_w hf) (h B Hi H σ W tk S (rb.rs g σ) _ fun ds Hi1 H1 J z g1 wk => by
    obtain ⟨h0, hs, hd⟩ := z
    refine ⟨fun i m σ H => m = ds.length - i ∧ i ≤ ds.length ∧ Mid X Bi B Hi1 (I i) σ H, ⟨ds.length, by simp, Nat.zero_le _, ρ, Hi1, h0, g.trans g1, Ex.refl _, S.grow g1⟩, ?_⟩
    rintro i m σ2 H2 ⟨rfl, hi, ρ2, Hi2, hi2, g2, e2, S2⟩
    by_cases hlt : i < ds.length
    · refine .inr ⟨wk.go i H2 (e2.trans g2.sub) hlt, Mid X Bi B Hi1 (I (i + 1)), fun σ' H' p' => ⟨ds.length - (i + 1), by omega, rfl, hlt, p'⟩, fun x H' y => ?_⟩
      obtain ⟨d, Hi3, hd3, g3, r3⟩ := wk.yld i H2 x H' Hi2 e2 g2.sub y hlt
      obtain ⟨ρ3, hg, hb⟩ := hs i d ρ2 hd3 hi2
      exact hg B Hi3 H' σ2 x (S2.grow g3) r3 _ fun σ3 S3 => turn_go tk (g2.trans g3) (e2.trans g3.i) S3 rb N hb
    · have e : i = ds.length := by omega
      subst e
      exact .inl ⟨wk.stop H2 (e2.trans g2.sub), hd ρ2 hi2 Bi B Hi2 H2 σ2 Dn W tk g2 S2 rb N⟩)

/-! ### comprehensions -/
/-- in whatever block of this comprehension -/
abbrev BlkX (X : Cx) (scope : Scope) (s : Shared) (H : Hp) (C : Addr) (cl : List (Str × Addr)) (fp : List Addr) : Cx := X.blk s H scope (compEnvC scope cl C X.env) fp
def bE (X : Cx) (scope : Scope) (e : Expr) : TE := fun σ H Q => ∀ s H0 C cl fp, wE (BlkX X scope s H0 C cl fp) e σ H Q
def bT (X : Cx) (scope : Scope) (e : Expr) : TT := fun σ H Q => ∀ s H0 C cl fp, wT (BlkX X scope s H0 C cl fp) e σ H Q
def bG (X : Cx) (scope : Scope) (e : Expr) : TG := fun v σ H Q => ∀ s H0 C cl fp, wG (BlkX X scope s H0 C cl fp) e v σ H Q
theorem pe_b {scope : Scope} (s : Shared) (H : Hp) (C : Addr) (cl : List (Str × Addr)) (fp : List Addr) : PE (BlkX X scope s H C cl fp) e (bE X scope e) := ⟨fun pins t _ _ _ I h => h s H C cl fp pins t I⟩
theorem pt_b {scope : Scope} (s : Shared) (H : Hp) (C : Addr) (cl : List (Str × Addr)) (fp : List Addr) : PT (BlkX X scope s H C cl fp) e (bT X scope e) := ⟨fun pins t _ _ _ I h => h s H C cl fp pins t I⟩
theorem pg_b {scope : Scope} (s : Shared) (H : Hp) (C : Addr) (cl : List (Str × Addr)) (fp : List Addr) : PG (BlkX X scope s H C cl fp) e (bG X scope e) := ⟨fun pins t _ _ v u _ I r h => h s H C cl fp pins t u I r⟩
def wipeS (ρ : List Sl) : List Nat → List Sl
  | [] => ρ
  | v :: vs => (wipeS ρ vs).set v .emp
theorem StOk.wipe {K : PySem.W.Frag} {B Hi H : Hp} {σ : L2.St} (S : StOk K B Hi H σ ρ) : ∀ vs, StOk K B Hi H (L2.wipe σ vs) (wipeS ρ vs)
  | [] => S
  | v :: vs => (S.wipe vs).wipe1
theorem wipe_get {σ : L2.St} {i : Nat} : ∀ vs : List Nat, (L2.wipe σ vs)[i]? = if i ∈ vs then (σ[i]?).map (fun _ => none) else σ[i]?
  | [] => by simp [L2.wipe]
  | v :: vs => by
    have ih := wipe_get (σ := σ) (i := i) vs
    show ((L2.wipe σ vs).set v none)[i]? = _
    by_cases h : v = i
    · subst h
      rw [if_pos List.mem_cons_self]
      by_cases hl : v < σ.length
      · rw [List.getElem?_set_self (by rw [L2.wipe_length]; exact hl), List.getElem?_eq_getElem hl]; rfl
      · rw [List.getElem?_eq_none (by rw [List.length_set, L2.wipe_length]; omega), List.getElem?_eq_none (by omega)]; rfl
    · rw [List.getElem?_set_ne h, ih]
      have : (i ∈ v :: vs) ↔ i ∈ vs := by simp [Ne.symm h]
      by_cases hm : i ∈ vs
      · rw [if_pos hm, if_pos (this.mpr hm)]
      · rw [if_neg hm, if_neg (fun z => hm (this.mp z))]
/-- tg takes d within a block, and changes the block's own names alone -/
def QGb (X : Cx) (scope : Scope) (vs : List Nat) (tg : Expr) (d : D) (ρ ρ' : List Sl) : Prop := ∀ (B Hi H : Hp) (σ : L2.St) (v : V), StOk X.K B Hi H σ ρ → Rp X.K Hi v d → ∀ Q : L2.St → Hp → Prop, (∀ σ', StOk X.K B Hi H σ' ρ' → (L2.wipe σ' vs = L2.wipe σ vs) → Q σ' H) → bG X scope tg v σ H Q
theorem wipe_set {σ : L2.St} {j : Nat} {x : Option V} {vs : List Nat} (h : j ∈ vs) : L2.wipe (σ.set j x) vs = L2.wipe σ vs := by
  apply List.ext_getElem?
  intro i
  rw [wipe_get, wipe_get]
  by_cases hm : i ∈ vs
  · rw [if_pos hm, if_pos hm]
    by_cases hj : j = i
    · subst hj
      by_cases hl : j < σ.length
      · rw [List.getElem?_set_self hl, List.getElem?_eq_getElem hl]; rfl
      · rw [List.getElem?_eq_none (by simpa using hl), List.getElem?_eq_none (by simpa using hl)]
    · rw [List.getElem?_set_ne hj]
  · rw [if_neg hm, if_neg hm, List.getElem?_set_ne (fun e => hm (by rw [← e]; exact h))]
theorem wipe_wipe {σ : L2.St} {vs : List Nat} : L2.wipe (L2.wipe σ vs) vs = L2.wipe σ vs := by
  apply List.ext_getElem?
  intro i
  rw [wipe_get, wipe_get]
  by_cases hm : i ∈ vs
  · rw [if_pos hm, if_pos hm]
    cases σ[i]? <;> rfl
  · rw [if_neg hm, if_neg hm]
theorem qgb_name (i : Nat) {scope : Scope} {x : Str} {d : D} {vs : List Nat} (hN : X.N.Nodup) (hv : i ∈ vs := by decide) (hi : X.N[i]? = some x := by rfl)
    (hx : ∀ s H C cl fp, Loc (BlkX X scope s H C cl fp).env.scope x := by first | exact fun _ _ _ _ _ => Or.inl rfl | exact fun _ _ _ _ _ => Or.inr rfl)
    (hf : ∀ s H C cl fp, (BlkX X scope s H C cl fp).fn x = true ∨ (BlkX X scope s H C cl fp).env.scope.names.lookup x = some .local := by first | exact fun _ _ _ _ _ => Or.inr rfl | exact fun _ _ _ _ _ => Or.inl rfl) :
    QGb X scope vs (.Name x pos) d ρ (ρ.set i (.dat d)) := fun B Hi H σ v S r Q q s H0 C cl fp => wG.of (X := BlkX X scope s H0 C cl fp) (pg_name (i := i) hN hi (hx s H0 C cl fp) (hf s H0 C cl fp)) (q _ (S.set r) (wipe_set hv))
/-- (a, b) -/
theorem qgb_tup2 (i j : Nat) {scope : Scope} {x y : Str} {px py : Pos} {n : Nat} {d d' : D} {vs : List Nat} (hN : X.N.Nodup) (hv : i ∈ vs := by decide) (hv' : j ∈ vs := by decide) (hi : X.N[i]? = some x := by rfl) (hj : X.N[j]? = some y := by rfl)
    (hx : ∀ s H C cl fp, Loc (BlkX X scope s H C cl fp).env.scope x := by first | exact fun _ _ _ _ _ => Or.inl rfl | exact fun _ _ _ _ _ => Or.inr rfl)
    (hy : ∀ s H C cl fp, Loc (BlkX X scope s H C cl fp).env.scope y := by first | exact fun _ _ _ _ _ => Or.inl rfl | exact fun _ _ _ _ _ => Or.inr rfl)
    (hf : ∀ s H C cl fp, (BlkX X scope s H C cl fp).fn x = true ∨ (BlkX X scope s H C cl fp).env.scope.names.lookup x = some .local := by first | exact fun _ _ _ _ _ => Or.inr rfl | exact fun _ _ _ _ _ => Or.inl rfl)
    (hf' : ∀ s H C cl fp, (BlkX X scope s H C cl fp).fn y = true ∨ (BlkX X scope s H C cl fp).env.scope.names.lookup y = some .local := by first | exact fun _ _ _ _ _ => Or.inr rfl | exact fun _ _ _ _ _ => Or.inl rfl) (hc : X.calm = true := by rfl) :
    QGb X scope vs (.Tuple [.Name x px, .Name y py] n pos) (.tup [d, d']) ρ ((ρ.set i (.dat d)).set j (.dat d')) := fun B Hi H σ v S r Q q s H0 C cl fp => by
  cases r with
  | tup hs ha =>
    cases ha with
    | cons r1 ha =>
      cases ha with
      | cons r2 ha =>
        cases ha
        refine wG.of (X := BlkX X scope s H0 C cl fp) (pg_tup (n := 2) hc (pgs_cons (pg_name (i := i) hN hi (hx s H0 C cl fp) (hf s H0 C cl fp)) (pgs_cons (pg_name (i := j) hN hj (hy s H0 C cl fp) (hf' s H0 C cl fp)) pgs_nil))) ?_
        exact ⟨_, _, rfl, S.sub.t hs, rfl, _, _, rfl, _, _, rfl, rfl, q _ ((S.set r1).set r2) (by rw [wipe_set hv', wipe_set hv])⟩
/-- what a comprehension gives: I of the turn and the list so far. Θ: what the test may answer -/
structure LcQ (X : Cx) (scope : Scope) (vs : List Nat) (tg elt : Expr) (ifs : List Expr) (ρ : List Sl) (ds : List D) (I : Nat → List D → Prop) (Φ : D → Prop) : Prop where
  len : ds.length ≤ 100000
  start : I 0 []
  turn : ∀ i d acc, ds[i]? = some d → I i acc → ∃ ρ', QGb X scope vs tg d (wipeS ρ vs) ρ' ∧ ∃ Θ : Bool → Prop, (match ifs with
      | [] => Θ true
      | c :: _ => ∀ s H C cl fp, QT (BlkX X scope s H C cl fp) (fun _ => False) c ρ' Θ) ∧
    (Θ true → ∀ s H C cl fp, QX (BlkX X scope s H C cl fp) (fun _ => False) elt ρ' fun y => I (i + 1) (acc ++ [y])) ∧ (Θ false → I (i + 1) acc)
  fin : ∀ acc, I ds.length acc → acc.length ≤ ds.length → Φ (.lst acc)
def ttOf (X : Cx) (scope : Scope) : List Expr → TT
  | [] => tYes
  | c :: _ => bT X scope c
theorem lc_go {scope : Scope} {vs : List Nat} {tg elt : Expr} {ifs : List Expr} {ds : List D} {I : Nat → List D → Prop} {B Hi1 H1 : Hp} {σ : L2.St} {Q : VK} {J : It} (L : LcQ X scope vs tg elt ifs ρ ds I Φ) (S : StOk X.K B Hi1 H1 σ ρ) (wk : Walks X.K J Hi1 ds)
    (q : ∀ v d Hi' H', Φ d → Gr Hi1 H1 Hi' H' → Rp X.K Hi' v d → Q v H') : ∀ Da, H1 Da = none → ∃ W : Nat → Nat → Hp → Prop, (∃ m, W 0 m (upd H1 Da (.lst []))) ∧ ∀ i m H, W i m H →
      (J.stop i H ∧ Q (.ref Da) H) ∨ (J.go i H ∧ ∃ Nx : Hp → Prop, (∀ H', Nx H' → ∃ m', m' < m ∧ W (i + 1) m' H') ∧ ∀ x H', J.yld i H x H' → bG X scope tg x (L2.wipe σ vs) H' fun σ2 H2 => L2.wipe σ2 vs = L2.wipe σ vs ∧ ttOf X scope ifs σ2 H2 fun b H3 =>
        if b = true then bE X scope elt σ2 H3 fun y H4 => ∃ acc, H4 Da = some (.lst acc) ∧ acc.length < sizeLine ∧ Nx (upd H4 Da (.lst (acc ++ [y]))) else Nx H3) := by
  intro Da hD
  refine ⟨fun i m H => m = ds.length - i ∧ i ≤ ds.length ∧ ∃ Hi2 accV acc, I i acc ∧ acc.length ≤ i ∧ Gr Hi1 H1 Hi2 H ∧ Hi2 Da = none ∧ H Da = some (.lst accV) ∧ RpA X.K Hi2 accV acc,
    ⟨ds.length, by simp, Nat.zero_le _, Hi1, [], [], L.start, Nat.le_refl _, Gr.out S.sub (Ex.new hD), S.sub.free hD, upd_same, .nil⟩, ?_⟩
  rintro i m H ⟨rfl, hi, Hi2, accV, acc, hI, hle, g2, n2, x2, r2⟩
  have hlen := L.len
  by_cases hlt : i < ds.length
  · refine .inr ⟨wk.go i H (g2.i.trans g2.sub) hlt, _, fun H' p => ⟨ds.length - (i + 1), by omega, rfl, hlt, p⟩, fun x H' y => ?_⟩
    obtain ⟨d, Hi3, hd, g3, r3⟩ := wk.yld i H x H' Hi2 g2.i g2.sub y hlt
    obtain ⟨ρ', hg, Θ, ht, hy, hn⟩ := L.turn i d acc hd hI
    have g23 := g2.trans g3
    have keepD : ∀ {Hj Hk : Hp}, Gr Hi2 H Hj Hk → Hj Da = none := fun {Hj Hk} g => by
      cases z : Hj Da with
      | none => rfl
      | some u => rw [g.new Da n2 ⟨u, z⟩] at x2; cases x2
    refine hg B Hi3 H' _ x ((S.wipe vs).grow g23) r3 _ fun σ2 S2 hw => ⟨by rw [hw, wipe_wipe], ?_⟩
    have elt_go : ∀ {Hj Hk : Hp}, Gr Hi2 H Hj Hk → StOk X.K B Hj Hk σ2 ρ' → Θ true → bE X scope elt σ2 Hk fun y H4 => ∃ acc', H4 Da = some (.lst acc') ∧ acc'.length < sizeLine ∧ ∃ Hi2 accV acc, I (i + 1) acc ∧ acc.length ≤ i + 1 ∧ Gr Hi1 H1 Hi2 (upd H4 Da (.lst (acc' ++ [y]))) ∧ Hi2 Da = none ∧ (upd H4 Da (.lst (acc' ++ [y]))) Da = some (.lst accV) ∧ RpA X.K Hi2 accV acc := fun {Hj Hk} gj Sj hΘ s H0 C cl fp => by
      refine hy hΘ s H0 C cl fp B Hj Hk σ2 (fun _ _ _ _ => False) takes0 Sj (fun _ _ _ z => z.elim) _ fun y dy Hi4 H4 hz g4 r4 => ?_
      have g24 := gj.trans g4
      have hD4 := keepD g24
      refine ⟨accV, g24.o _ _ x2, ?_, Hi4, accV ++ [y], acc ++ [dy], hz, by simp; omega, ⟨g2.i.trans g24.i, fun c u z => ?_, fun c u z => ?_, fun c z1 z2 => (g2.trans g24).new c z1 z2⟩, hD4, upd_same, (r2.up g24.i).app (.cons r4 .nil)⟩
      · rw [r2.length]
        exact Nat.lt_of_lt_of_le (Nat.lt_of_le_of_lt hle (Nat.lt_of_lt_of_le hlt hlen)) (by decide)
      · rw [upd_ne (ne_of_none z hD)]; exact (g2.trans g24).o c u z
      · rw [upd_ne (ne_of_none z hD4)]; exact g4.sub c u z
    have no_go : ∀ {Hj Hk : Hp}, Gr Hi2 H Hj Hk → Θ false → ∃ Hi2 accV acc, I (i + 1) acc ∧ acc.length ≤ i + 1 ∧ Gr Hi1 H1 Hi2 Hk ∧ Hi2 Da = none ∧ Hk Da = some (.lst accV) ∧ RpA X.K Hi2 accV acc := fun {Hj Hk} gj hΘ =>
      ⟨Hj, accV, acc, hn hΘ, by omega, g2.trans gj, keepD gj, gj.o _ _ x2, r2.up gj.i⟩
    cases ifs with
    | nil => exact elt_go g3 S2 ht
    | cons c r =>
      intro s H0 C cl fp
      refine ht s H0 C cl fp B Hi3 H' σ2 (fun _ _ _ _ => False) takes0 S2 (fun _ _ _ z => z.elim) _ fun b Hi4 H4 hb g4 => ?_
      cases b with
      | true => exact elt_go (g3.trans g4) (S2.grow g4) hb
      | false => exact no_go (g3.trans g4) hb
  · have e : i = ds.length := by omega
    subst e
    refine .inl ⟨wk.stop H (g2.i.trans g2.sub), q _ (.lst acc) (upd Hi2 Da (.lst accV)) H (L.fin acc hI hle) ⟨g2.i.trans (Ex.new n2), g2.o, fun c u z => ?_, fun c z1 z2 => ?_⟩ (.lst upd_same (r2.up (Ex.new n2)))⟩
    · by_cases h : c = Da
      · subst h; rw [upd_same] at z; cases z; exact x2
      · rw [upd_ne h] at z; exact g2.sub c u z
    · by_cases h : c = Da
      · subst h; exact hD
      · obtain ⟨u, z⟩ := z2
        rw [upd_ne h] at z
        exact g2.new c z1 ⟨u, z⟩
theorem pts_of {scope : Scope} {ifs : List Expr} (hl : ifs.length ≤ 1) (s : Shared) (H : Hp) (C : Addr) (cl : List (Str × Addr)) (fp : List Addr) : PTs (BlkX X scope s H C cl fp) ifs (ttOf X scope ifs) := by
  cases ifs with
  | nil => exact pts_nil
  | cons c r =>
    cases r with
    | nil => exact pts_one (pt_b s H C cl fp)
    | cons _ _ => simp at hl
/-- [elt for tg in iter if ..] -/
theorem qx_lc {scope : Scope} {own : List (Str × Nat)} {tg elt iter : Expr} {ifs : List Expr} (I : Nat → List D → Prop) (hN : X.N.Nodup) (ok : BlkOk X.N X.env.scope scope own) (h : QI X Ψ tg iter ρ fun ds => LcQ X scope (own.map (·.2)) tg elt ifs ρ ds I Φ) (hl : ifs.length ≤ 1 := by decide)
    (hc : X.calm = true := by rfl) (hs : ∀ x, foldedSetIterable iter X.env x = pure x := by intro _; rfl) : QX X Ψ (.ListComp elt [⟨tg, iter, ifs, 0⟩] scope pos) ρ Φ := by
  obtain ⟨wi, hi, h⟩ := h
  exact fun B Hi H σ W tk S rs Q q => wE.of (pe_lc hc hN hi ok (fun s H C cl fp => pg_b s H C cl fp) (fun s H C cl fp => pts_of hl s H C cl fp) (fun s H C cl fp => pe_b s H C cl fp) hs)
    (h B Hi H σ W tk S rs _ fun ds Hi1 H1 J z g wk => lc_go z (S.grow g) wk fun v d Hi' H' hz g' r => q v d Hi' H' hz (g.trans g') r)
/-- name = [..] -/
theorem qs_setLc (i : Nat) {y : Str} {py lp : Pos} {scope : Scope} {own : List (Str × Nat)} {tg elt iter : Expr} {ifs : List Expr} (I : Nat → List D → Prop) (hN : X.N.Nodup) (ok : BlkOk X.N X.env.scope scope own)
    (h : QI X Ψ tg iter ρ fun ds => LcQ X scope (own.map (·.2)) tg elt ifs ρ ds I fun d => QS X Ψ rest (ρ.set i (.dat d)) R) (hl : ifs.length ≤ 1 := by decide) (hy : X.N[i]? = some y := by rfl) (hyl : X.env.scope.names.lookup y = some .local := by rfl)
    (hsw : swapsWith (.ListComp elt [⟨tg, iter, ifs, 0⟩] scope lp) (some (.Name y py)) pos.line X.env = pure true := by exact sw_true rfl rfl rfl (by decide +kernel)) (hc : X.calm = true := by rfl) (hs : ∀ x, foldedSetIterable iter X.env x = pure x := by intro _; rfl) :
    QS X Ψ (.Assign [.Name y py] (.ListComp elt [⟨tg, iter, ifs, 0⟩] scope lp) pos :: rest) ρ R := by
  obtain ⟨wi, hi, h⟩ := h
  exact fun Bi B Hi H σ Dn W tk g S rb N => wSs.cons (ps_setLc (i := i) hc hN hy hyl hsw hi ok (fun s H C cl fp => pg_b s H C cl fp) (fun s H C cl fp => pts_of hl s H C cl fp) (fun s H C cl fp => pe_b s H C cl fp) hs)
    (h B Hi H σ W tk S (rb.rs g σ) _ fun ds Hi1 H1 J z g1 wk => lc_go z (S.grow g1) wk fun v d Hi2 H2 hz g2 r => hz Bi B Hi2 H2 (σ.set i (some v)) Dn W tk ((g.trans g1).trans g2) (((S.grow g1).grow g2).set r) rb N)
/-- the map of a function -/
theorem lcq_map {scope : Scope} {vs : List Nat} {tg elt : Expr} {ds : List D} (f : D → D) (hl : ds.length ≤ 100000) (ht : ∀ d, d ∈ ds → ∃ ρ', QGb X scope vs tg d (wipeS ρ vs) ρ' ∧ ∀ s H C cl fp, QE (BlkX X scope s H C cl fp) (fun _ => False) elt ρ' (f d))
    (k : Φ (.lst (ds.map f))) : LcQ X scope vs tg elt [] ρ ds (fun i acc => acc = (ds.take i).map f) Φ :=
  ⟨hl, by simp, fun i d acc hd hI => by
    obtain ⟨ρ', hg, he⟩ := ht d (List.mem_of_getElem? hd)
    refine ⟨ρ', hg, fun b => b = true, rfl, fun _ s H C cl fp => (he s H C cl fp).to ?_, fun z => Bool.noConfusion z⟩
    rw [hI, List.take_succ, hd]; simp, fun acc hI _ => by
    rw [hI, List.take_length]; exact k⟩
/-- .. of those that pass a test -/
theorem lcq_filter {scope : Scope} {vs : List Nat} {tg elt c : Expr} {ds : List D} (t : D → Bool) (f : D → D) (hl : ds.length ≤ 100000)
    (ht : ∀ d, d ∈ ds → ∃ ρ', QGb X scope vs tg d (wipeS ρ vs) ρ' ∧ (∀ s H C cl fp, QB (BlkX X scope s H C cl fp) (fun _ => False) c ρ' (t d)) ∧ (t d = true → ∀ s H C cl fp, QE (BlkX X scope s H C cl fp) (fun _ => False) elt ρ' (f d)))
    (k : Φ (.lst ((ds.filter t).map f))) : LcQ X scope vs tg elt [c] ρ ds (fun i acc => acc = ((ds.take i).filter t).map f) Φ :=
  ⟨hl, by simp, fun i d acc hd hI => by
    obtain ⟨ρ', hg, hc, he⟩ := ht d (List.mem_of_getElem? hd)
    refine ⟨ρ', hg, fun b => b = t d, hc, fun z s H C cl fp => (he z.symm s H C cl fp).to ?_, fun z => ?_⟩
    · rw [hI, List.take_succ, hd]; simp [← z]
    · rw [hI, List.take_succ, hd]; simp [← z], fun acc hI _ => by
    rw [hI, List.take_length]; exact k⟩
end
end G

namespace G
open PySem PySem.Spec L2
section
variable {X : Cx} {Ψ : Str → Prop} {ρ : List Sl} {R : Po} {Φ : D → Prop} {Θ : Bool → Prop} {a b c e : Expr} {es : List Expr} {pos p p2 : Pos} {rest body blk els : List Stmt} {d d' : D} {ds : List D} {i j : Int}

/-! ### built-in functions -/
def CallD (X : Cx) (r : List V → Hp → VK → Prop) (Q : List D → (D → Prop) → Prop) : Prop := ∀ (Hi H : Hp) (vs : List V) (ds : List D) (Φ : D → Prop), Ex Hi H → Q ds Φ → RpA X.K Hi vs ds →
  ∀ K : VK, (∀ z d Hi' H', Φ d → Gr Hi H Hi' H' → Rp X.K Hi' z d → K z H') → r vs H K
theorem callB_go {r : List V → Hp → VK → Prop} {Qd : List D → (D → Prop) → Prop} (hd : CallD X r Qd) (h : QA X Ψ es ρ fun ds => Qd ds Φ) {B Hi H : Hp} {σ : L2.St} {W : WX} (tk : Takes X W) (S : StOk X.K B Hi H σ ρ) (rs : Rs X Ψ Hi H σ W)
    {Q : VK} (q : ∀ v d Hi' H', Φ d → Gr Hi H Hi' H' → Rp X.K Hi' v d → Q v H') : tCB r (wA X es) σ H Q :=
  h B Hi H σ W tk S rs _ fun vs ds Hi1 H1 z g r1 => hd Hi1 H1 vs ds Φ g.sub z r1 Q fun v d Hi2 H2 hz g2 r2 => q v d Hi2 H2 hz (g.trans g2) r2
theorem qx_callB {id : String} {x : Str} {r : List V → Hp → VK → Prop} {Qd : List D → (D → Prop) → Prop} (hc : CallR X (.builtin id) r) (hd : CallD X r Qd) (hm : X.mg x = none) (hv : bootBuiltins x = some (.builtin id)) (h : QA X Ψ (e :: es) ρ fun ds => Qd ds Φ)
    (hg : Gl X x := by rfl) (hn : x ≠ "__name__" := by decide) (hdb : (x == ("__debug__" : Str)) = false := by decide) (he : starEach (e :: es) X.env = (false, eval e X.env) :: starEach es X.env := by exact se_of rfl) (hpl : (backTo pos (starEach es X.env)).any (·.1) = false := by rfl) :
    QX X Ψ (.Call (.Name x p) (e :: es) [] pos) ρ Φ := fun B Hi H σ W tk S rs Q q => wE.of (pe_callB hc hg hm hv pa_w hn hdb he hpl) (callB_go hd h tk S rs q)
theorem qx_callTy {T : String} {x : Str} {r : List V → Hp → VK → Prop} {Qd : List D → (D → Prop) → Prop} (hc : CallR X (.type T) r) (hd : CallD X r Qd) (hm : X.mg x = none) (hv : bootBuiltins x = some (.type T)) (h : QA X Ψ (e :: es) ρ fun ds => Qd ds Φ)
    (hg : Gl X x := by rfl) (hn : x ≠ "__name__" := by decide) (hdb : (x == ("__debug__" : Str)) = false := by decide) (he : starEach (e :: es) X.env = (false, eval e X.env) :: starEach es X.env := by exact se_of rfl) (hpl : (backTo pos (starEach es X.env)).any (·.1) = false := by rfl) :
    QX X Ψ (.Call (.Name x p) (e :: es) [] pos) ρ Φ := fun B Hi H σ W tk S rs Q q => wE.of (pe_callTy hc hg hm hv pa_w hn hdb he hpl) (callB_go hd h tk S rs q)
theorem cd_abs : CallD X (fun xs H Q => ∃ i, xs = [.int i] ∧ Q (.int (if i < 0 then -i else i)) H) (fun ds Φ => ∃ i, ds = [.int i] ∧ Φ (.int (if i < 0 then -i else i))) := fun Hi H vs ds Φ s h r Q q => by
  obtain ⟨i, e, k⟩ := h
  subst e
  cases r with
  | cons r rr => cases rr; cases r; exact ⟨i, rfl, q _ _ Hi H k (Gr.refl s) (.int _)⟩
theorem cd_max2 : CallD X (fun xs H Q => ∃ i j, xs = [.int i, .int j] ∧ Q (.int (if j > i then j else i)) H) (fun ds Φ => ∃ i j, ds = [.int i, .int j] ∧ Φ (.int (if j > i then j else i))) := fun Hi H vs ds Φ s h r Q q => by
  obtain ⟨i, j, e, k⟩ := h
  subst e
  cases r with
  | cons r rr => cases rr with
    | cons r' rr => cases rr; cases r; cases r'; exact ⟨i, j, rfl, q _ _ Hi H k (Gr.refl s) (.int _)⟩
theorem cd_len : CallD X (fun xs H Q => ∃ p ys, xs = [.ref p] ∧ (SqL X.K H p ys ∨ SqT X.K H p ys) ∧ Q (.int ys.length) H) (fun ds Φ => ∃ xs, (ds = [.lst xs] ∨ ds = [.tup xs]) ∧ Φ (.int xs.length)) := fun Hi H vs ds Φ s h r Q q => by
  obtain ⟨xs, e, k⟩ := h
  rcases e with e | e
  · subst e
    cases r with
    | cons r rr =>
      cases rr
      cases r with
      | lst hs ha => exact ⟨_, _, rfl, .inl (SqL.of (s _ _ hs)), by rw [ha.length]; exact q _ _ Hi H k (Gr.refl s) (.int _)⟩
  · subst e
    cases r with
    | cons r rr =>
      cases rr
      cases r with
      | tup hs ha => exact ⟨_, _, rfl, .inr (s.t hs), by rw [ha.length]; exact q _ _ Hi H k (Gr.refl s) (.int _)⟩
theorem RpA.bls {K : PySem.W.Frag} {H : Hp} : ∀ {bs : List Bool} {vs : List V}, RpA K H vs (bs.map D.bl) → vs = bs.map V.bl
  | [], _, h => by cases h; rfl
  | b :: bs, _, h => by
    cases h with
    | cons h1 h2 => cases h1; rw [RpA.bls h2]; rfl
theorem RpA.ints {K : PySem.W.Frag} {H : Hp} : ∀ {bs : List Int} {vs : List V}, RpA K H vs (bs.map D.int) → vs = bs.map V.int
  | [], _, h => by cases h; rfl
  | b :: bs, _, h => by
    cases h with
    | cons h1 h2 => cases h1; rw [RpA.ints h2]; rfl
theorem cd_all : CallD X (rAll X.K) (fun ds Φ => ∃ bs : List Bool, ds = [.lst (bs.map D.bl)] ∧ Φ (.bl (bs.all id))) := fun Hi H vs ds Φ s h r Q q => by
  obtain ⟨bs, e, k⟩ := h
  subst e
  cases r with
  | cons r rr =>
    cases rr
    cases r with
    | lst hs ha => rw [ha.bls] at hs; exact ⟨_, bs, rfl, SqL.of (s _ _ hs), q _ _ Hi H k (Gr.refl s) (.bl _)⟩
theorem cd_any : CallD X (rAny X.K) (fun ds Φ => ∃ bs : List Bool, ds = [.lst (bs.map D.bl)] ∧ Φ (.bl (bs.any id))) := fun Hi H vs ds Φ s h r Q q => by
  obtain ⟨bs, e, k⟩ := h
  subst e
  cases r with
  | cons r rr =>
    cases rr
    cases r with
    | lst hs ha => rw [ha.bls] at hs; exact ⟨_, bs, rfl, SqL.of (s _ _ hs), q _ _ Hi H k (Gr.refl s) (.bl _)⟩
theorem cd_list : CallD X (fun xs H Q => ∃ p ys, xs = [.ref p] ∧ (SqL X.K H p ys ∨ SqT X.K H p ys) ∧ ∀ l, H l = none → Q (.ref l) (upd H l (.lst ys))) (fun ds Φ => ∃ xs, (ds = [.lst xs] ∨ ds = [.tup xs]) ∧ Φ (.lst xs)) := fun Hi H vs ds Φ s h r Q q => by
  obtain ⟨xs, e, k⟩ := h
  rcases e with e | e
  · subst e
    cases r with
    | cons r rr =>
      cases rr
      cases r with
      | lst hs ha => exact ⟨_, _, rfl, .inl (SqL.of (s _ _ hs)), fun l hl => q _ _ (upd Hi l _) _ k (Gr.mk1 s hl) (.lst upd_same (ha.up (Ex.new (s.free hl))))⟩
  · subst e
    cases r with
    | cons r rr =>
      cases rr
      cases r with
      | tup hs ha => exact ⟨_, _, rfl, .inr (s.t hs), fun l hl => q _ _ (upd Hi l _) _ k (Gr.mk1 s hl) (.lst upd_same (ha.up (Ex.new (s.free hl))))⟩
theorem cd_tuple : CallD X (fun xs H Q => ∃ p ys, xs = [.ref p] ∧ ((SqL X.K H p ys ∧ ∀ l, H l = none → Q (.ref l) (upd H l (.tup ys))) ∨ (SqT X.K H p ys ∧ Q (.ref p) H))) (fun ds Φ => ∃ xs, (ds = [.lst xs] ∨ ds = [.tup xs]) ∧ Φ (.tup xs)) := fun Hi H vs ds Φ s h r Q q => by
  obtain ⟨xs, e, k⟩ := h
  rcases e with e | e
  · subst e
    cases r with
    | cons r rr =>
      cases rr
      cases r with
      | lst hs ha => exact ⟨_, _, rfl, .inl ⟨SqL.of (s _ _ hs), fun l hl => q _ _ (upd Hi l _) _ k (Gr.mk1 s hl) (.tup (SqT.of upd_same) (ha.up (Ex.new (s.free hl))))⟩⟩
  · subst e
    cases r with
    | cons r rr =>
      cases rr
      cases r with
      | tup hs ha => exact ⟨_, _, rfl, .inr ⟨s.t hs, q _ _ Hi H k (Gr.refl s) (.tup hs ha)⟩⟩
theorem qe_abs (hm : X.mg "abs" = none) (h : QE X Ψ e ρ (.int i)) (hg : Gl X "abs" := by rfl) (he : starEach [e] X.env = (false, eval e X.env) :: starEach [] X.env := by exact se_of rfl) (hpl : (backTo pos (starEach [] X.env)).any (·.1) = false := by rfl) :
    QE X Ψ (.Call (.Name "abs" p) [e] [] pos) ρ (.int (if i < 0 then -i else i)) := qx_callB call_abs cd_abs hm (by decide +kernel) ((qas_cons h qas_nil he).to ⟨i, rfl, rfl⟩) hg (by decide) (by decide) he hpl
theorem qe_max2 {e2 : Expr} (hm : X.mg "max" = none) (h : QE X Ψ e ρ (.int i)) (h2 : QE X Ψ e2 ρ (.int j)) (hg : Gl X "max" := by rfl) (he : starEach [e, e2] X.env = (false, eval e X.env) :: starEach [e2] X.env := by exact se_of rfl) (he2 : starEach [e2] X.env = (false, eval e2 X.env) :: starEach [] X.env := by exact se_of rfl) (hpl : (backTo pos (starEach [e2] X.env)).any (·.1) = false := by rfl) (hc : X.calm = true := by rfl) :
    QE X Ψ (.Call (.Name "max" p) [e, e2] [] pos) ρ (.int (if j > i then j else i)) := qx_callB (call_max2 hc) cd_max2 hm (by decide +kernel) ((qas_cons h (qas_cons h2 qas_nil he2) he).to ⟨i, j, rfl, rfl⟩) hg (by decide) (by decide) he hpl
theorem qe_lenL (hm : X.mg "len" = none) (h : QE X Ψ e ρ (.lst ds)) (hg : Gl X "len" := by rfl) (he : starEach [e] X.env = (false, eval e X.env) :: starEach [] X.env := by exact se_of rfl) (hpl : (backTo pos (starEach [] X.env)).any (·.1) = false := by rfl) :
    QE X Ψ (.Call (.Name "len" p) [e] [] pos) ρ (.int ds.length) := qx_callB call_len_seq cd_len hm PySem.boot_len ((qas_cons h qas_nil he).to ⟨ds, .inl rfl, rfl⟩) hg (by decide) (by decide) he hpl
theorem qe_lenT (hm : X.mg "len" = none) (h : QE X Ψ e ρ (.tup ds)) (hg : Gl X "len" := by rfl) (he : starEach [e] X.env = (false, eval e X.env) :: starEach [] X.env := by exact se_of rfl) (hpl : (backTo pos (starEach [] X.env)).any (·.1) = false := by rfl) :
    QE X Ψ (.Call (.Name "len" p) [e] [] pos) ρ (.int ds.length) := qx_callB call_len_seq cd_len hm PySem.boot_len ((qas_cons h qas_nil he).to ⟨ds, .inr rfl, rfl⟩) hg (by decide) (by decide) he hpl
theorem qe_all {bs : List Bool} (hm : X.mg "all" = none) (h : QE X Ψ e ρ (.lst (bs.map D.bl))) (hg : Gl X "all" := by rfl) (he : starEach [e] X.env = (false, eval e X.env) :: starEach [] X.env := by exact se_of rfl) (hpl : (backTo pos (starEach [] X.env)).any (·.1) = false := by rfl) (hc : X.calm = true := by rfl) :
    QE X Ψ (.Call (.Name "all" p) [e] [] pos) ρ (.bl (bs.all id)) := qx_callB (cr_all hc) cd_all hm (by decide +kernel) ((qas_cons h qas_nil he).to ⟨bs, rfl, rfl⟩) hg (by decide) (by decide) he hpl
theorem qe_any {bs : List Bool} (hm : X.mg "any" = none) (h : QE X Ψ e ρ (.lst (bs.map D.bl))) (hg : Gl X "any" := by rfl) (he : starEach [e] X.env = (false, eval e X.env) :: starEach [] X.env := by exact se_of rfl) (hpl : (backTo pos (starEach [] X.env)).any (·.1) = false := by rfl) (hc : X.calm = true := by rfl) :
    QE X Ψ (.Call (.Name "any" p) [e] [] pos) ρ (.bl (bs.any id)) := qx_callB (cr_any hc) cd_any hm (by decide +kernel) ((qas_cons h qas_nil he).to ⟨bs, rfl, rfl⟩) hg (by decide) (by decide) he hpl
theorem qe_listL (hm : X.mg "list" = none) (h : QE X Ψ e ρ (.lst ds)) (hg : Gl X "list" := by rfl) (he : starEach [e] X.env = (false, eval e X.env) :: starEach [] X.env := by exact se_of rfl) (hpl : (backTo pos (starEach [] X.env)).any (·.1) = false := by rfl) :
    QE X Ψ (.Call (.Name "list" p) [e] [] pos) ρ (.lst ds) := qx_callTy call_list_of cd_list hm (by decide +kernel) ((qas_cons h qas_nil he).to ⟨ds, .inl rfl, rfl⟩) hg (by decide) (by decide) he hpl
theorem qe_tupleL (hm : X.mg "tuple" = none) (h : QE X Ψ e ρ (.lst ds)) (hg : Gl X "tuple" := by rfl) (he : starEach [e] X.env = (false, eval e X.env) :: starEach [] X.env := by exact se_of rfl) (hpl : (backTo pos (starEach [] X.env)).any (·.1) = false := by rfl) :
    QE X Ψ (.Call (.Name "tuple" p) [e] [] pos) ρ (.tup ds) := qx_callTy call_tuple_of cd_tuple hm (by decide +kernel) ((qas_cons h qas_nil he).to ⟨ds, .inl rfl, rfl⟩) hg (by decide) (by decide) he hpl

/-! ### isinstance -/
def D.tyN : D → String
  | .non => "NoneType" | .bl _ => "bool" | .int _ => "int" | .str _ => "str" | .lst _ => "list" | .tup _ => "tuple" | .opq _ => "list"
theorem Rp.ty {K : PySem.W.Frag} {Hi H : Hp} {v : V} (s : Ex Hi H) (h : Rp K Hi v d) (ho : ∀ n, d ≠ .opq n) : TyX K H v (.type d.tyN) := by
  cases h with
  | non => exact .base .non
  | bl b => exact .base (.bl b)
  | int i => exact .base (.int i)
  | str x => exact .base (.str x)
  | lst hs ha => exact .base (.lst (s _ _ hs))
  | tup hs ha =>
    rcases s.t hs with (h | ⟨o, h⟩) | ⟨o, its, n, h1, h2, h3, _⟩
    · exact .base (.tup h)
    · exact .fTuple h
    · exact .kTuple h1 h2
  | town h1 h2 => exact absurd rfl (ho 0)
  | scr h1 h2 => exact absurd rfl (ho 1)
theorem qe_isi {T : Str} {Tn : String} {k : Bool} (hm : X.mg "isinstance" = none) (hm2 : X.mg T = none) (hv : bootBuiltins T = some (.type Tn)) (h : QE X Ψ e ρ d) (ho : ∀ n, d ≠ .opq n) (hk : kitB d.tyN Tn = some k)
    (hg : Gl X "isinstance" := by rfl) (hg2 : Gl X T := by rfl) (hn : T ≠ "__name__" := by decide) (hdb : (T == ("__debug__" : Str)) = false := by decide)
    (he : starEach [e, .Name T p2] X.env = (false, eval e X.env) :: starEach [.Name T p2] X.env := by rfl) (he2 : starEach [.Name T p2] X.env = (false, eval (.Name T p2) X.env) :: starEach [] X.env := by rfl) (hpl : (backTo pos (starEach [.Name T p2] X.env)).any (·.1) = false := by rfl) :
    QE X Ψ (.Call (.Name "isinstance" p) [e, .Name T p2] [] pos) ρ (.bl k) := fun B Hi H σ W tk S rs Q q => wE.of (pe_callB call_isi hg hm (by decide +kernel) (pa_cons pe_w (pa_cons (pe_bltn (v := .ty Tn) hg2 hm2 hv rfl hn hdb) pa_nil he2) he) (by decide) (by decide) he hpl)
      (h B Hi H σ W tk S rs _ fun v d2 Hi1 H1 z g r => by
        subst z
        exact ⟨v, .ty Tn, .type d2.tyN, .type Tn, k, rfl, .ty Tn, r.ty g.sub ho, kit_ty hk, q _ _ Hi1 H1 rfl g (.bl k)⟩)
/-- isinstance(x, (S, T)) -/
theorem qe_isi2 {S T : Str} {Sn Tn : String} {q1 q2 q3 : Pos} {kk : Nat} {k1 k2 : Bool} (hm : X.mg "isinstance" = none) (hm1 : X.mg S = none) (hm2 : X.mg T = none) (hv1 : bootBuiltins S = some (.type Sn)) (hv2 : bootBuiltins T = some (.type Tn)) (h : QE X Ψ e ρ d) (ho : ∀ n, d ≠ .opq n) (hk1 : kitB d.tyN Sn = some k1) (hk2 : kitB d.tyN Tn = some k2)
    (hg : Gl X "isinstance" := by rfl) (hg1 : Gl X S := by rfl) (hg2 : Gl X T := by rfl) (hn1 : S ≠ "__name__" := by decide) (hdb1 : (S == ("__debug__" : Str)) = false := by decide) (hn : T ≠ "__name__" := by decide) (hdb : (T == ("__debug__" : Str)) = false := by decide)
    (he : starEach [e, .Tuple [.Name S q1, .Name T q2] kk q3] X.env = (false, eval e X.env) :: starEach [.Tuple [.Name S q1, .Name T q2] kk q3] X.env := by rfl) (he2 : starEach [.Tuple [.Name S q1, .Name T q2] kk q3] X.env = (false, eval (.Tuple [.Name S q1, .Name T q2] kk q3) X.env) :: starEach [] X.env := by rfl)
    (he3 : starEach [.Name S q1, .Name T q2] X.env = (false, eval (.Name S q1) X.env) :: starEach [.Name T q2] X.env := by rfl) (he4 : starEach [.Name T q2] X.env = (false, eval (.Name T q2) X.env) :: starEach [] X.env := by rfl)
    (hpl : (backTo pos (starEach [.Tuple [.Name S q1, .Name T q2] kk q3] X.env)).any (·.1) = false := by rfl) :
    QE X Ψ (.Call (.Name "isinstance" p) [e, .Tuple [.Name S q1, .Name T q2] kk q3] [] pos) ρ (.bl (k1 || k2)) := fun B Hi H σ W tk St rs Q q => wE.of (pe_callB call_isiT hg hm (by decide +kernel)
      (pa_cons pe_w (pa_cons (pe_tup (pa_cons (pe_bltn (v := .ty Sn) hg1 hm1 hv1 rfl hn1 hdb1) (pa_cons (pe_bltn (v := .ty Tn) hg2 hm2 hv2 rfl hn hdb) pa_nil he4) he3)) pa_nil he2) he) (by decide) (by decide) he hpl)
      (h B Hi H σ W tk St rs _ fun v d2 Hi1 H1 z g r => by
        subst z
        refine ⟨by show 2 ≤ sizeLine; decide, fun t ht => ?_⟩
        have g2 : Gr Hi H Hi1 (upd H1 t (.tup [.ty Sn, .ty Tn])) := g.trans (Gr.out g.sub (Ex.new ht))
        refine ⟨v, t, _, .type d2.tyN, [.type Sn, .type Tn], k1 || k2, rfl, upd_same, .cons (.ty Sn) (.cons (.ty Tn) .nil), r.ty g2.sub ho, kitAny_cons (kit_ty hk1) (fun z => kitAny_cons (kit_ty hk2) (fun z2 => by rw [z, z2]; exact kitAny_nil) fun z2 => by rw [z2, Bool.or_true]) fun z => by rw [z, Bool.true_or], q _ _ Hi1 _ rfl g2 (.bl _)⟩)

/-! ### lists: repeated, cut; in -/
theorem od_rep : OpD X rRep (fun x y Φ => ∃ ds k, x = .lst ds ∧ y = .int k ∧ 0 ≤ k ∧ k ≤ 1000 ∧ ds.length * k.toNat ≤ sizeLine ∧ Φ (.lst (List.replicate k.toNat ds).flatten)) := fun Hi H x y v u Φ s h r1 r2 Q q => by
  obtain ⟨ds, k, e1, e2, h0, h1, hz, kk⟩ := h
  subst e1 e2
  cases r2
  cases r1 with
  | @lst a xs _ hs ha =>
    have rep : ∀ n : Nat, RpA X.K Hi (List.replicate n xs).flatten (List.replicate n ds).flatten := fun n => by
      induction n with
      | zero => exact .nil
      | succ n ih => rw [List.replicate_succ, List.replicate_succ, List.flatten_cons, List.flatten_cons]; exact ha.app ih
    refine ⟨_, k, xs, rfl, rfl, s _ _ hs, by omega, by omega, by rw [ha.length]; exact hz, fun p hp => q _ _ (upd Hi p _) _ kk (Gr.mk1 s hp) ?_⟩
    exact .lst upd_same ((rep k.toNat).up (Ex.new (s.free hp)))
theorem qe_rep (ha : QE X Ψ a ρ (.lst ds)) (hb : QE X Ψ b ρ (.int j)) (h0 : 0 ≤ j := by decide) (h1 : j ≤ 1000 := by decide) (hz : ds.length * j.toNat ≤ 100000 := by exact Nat.le_of_ble_eq_true rfl) : QE X Ψ (.BinOp a .Mult b pos) ρ (.lst (List.replicate j.toNat ds).flatten) :=
  qx_op op_rep od_rep (ha.to (hb.to ⟨_, _, rfl, rfl, h0, h1, small hz, rfl⟩))
/-- places of a cut -/
def cutD (xs : List D) (lo hi : Option Int) : List D := (xs.drop (HT.sIx xs.length 0 lo)).take (HT.sIx xs.length xs.length hi - HT.sIx xs.length 0 lo)
def QO (X : Cx) (Ψ : Str → Prop) (e : Option Expr) (ρ : List Sl) (o : Option Int) : Prop := ∃ t, PO X e t ∧ ∀ (B Hi H : Hp) (σ : L2.St) (W : WX), Takes X W → StOk X.K B Hi H σ ρ → Rs X Ψ Hi H σ W → ∀ Q : Option Int → Hp → Prop, (∀ Hi' H', Gr Hi H Hi' H' → Q o H') → t σ H Q
theorem qo_none : QO X Ψ none ρ none := ⟨tNoPart, po_none, fun B Hi H σ W tk S rs Q q => q Hi H (Gr.refl S.sub)⟩
theorem qo_some (h : QE X Ψ e ρ (.int i)) : QO X Ψ (some e) ρ (some i) := ⟨_, po_some pe_w, fun B Hi H σ W tk S rs Q q => h B Hi H σ W tk S rs _ fun v d Hi1 H1 z g r => by
  subst z
  cases r
  exact ⟨i, rfl, q Hi1 H1 g⟩⟩
theorem qe_slL {lo hi : Option Expr} {o1 o2 : Option Int} (h : QE X Ψ e ρ (.lst ds)) (h1 : QO X Ψ lo ρ o1) (h2 : QO X Ψ hi ρ o2) : QE X Ψ (.Subscript e (.Slice lo hi none p2) pos) ρ (.lst (cutD ds o1 o2)) := by
  obtain ⟨t1, q1, h1⟩ := h1
  obtain ⟨t2, q2, h2⟩ := h2
  exact fun B Hi H σ W tk S rs Q q => wE.of (pe_slice sl_list pe_w q1 q2) (h B Hi H σ W tk S rs _ fun v d Hi1 H1 z g r => by
    subst z
    refine h1 B Hi1 H1 σ W tk (S.grow g) (rs.grow g) _ fun Hi2 H2 g2 => h2 B Hi2 H2 σ W tk ((S.grow g).grow g2) ((rs.grow g).grow g2) _ fun Hi3 H3 g3 => ?_
    cases r with
    | @lst a xs _ hs ha =>
      have g23 := g2.trans g3
      refine ⟨_, xs, rfl, SqL.of (g3.sub _ _ (g23.i _ _ hs)), fun l hl => q _ _ (upd Hi3 l _) _ rfl ((g.trans g23).trans (Gr.mk1 g3.sub hl)) ?_⟩
      refine .lst upd_same (RpA.up ?_ (Ex.new (g3.sub.free hl)))
      unfold cutD cutV
      rw [ha.length]
      exact ((ha.up g23.i).drop _).take _)
def memD (d : D) (ds : List D) : Bool := ds.any fun z => deq z d
theorem pyA_any (d : D) : ∀ ds : List D, ((D.pyA ds).any fun z => PyData.eqv z d.py) = memD d ds
  | [] => rfl
  | x :: xs => by
    have ih := pyA_any d xs
    show (PyData.eqv x.py d.py || (D.pyA xs).any fun z => PyData.eqv z d.py) = (deq x d || memD d xs)
    rw [ih]; rfl
theorem od_inD {n : Nat} (hn : n < 64) : OpD X (rInD X.K) (fun x y Φ => ∃ ds, y = .lst ds ∧ D.shp n x = true ∧ D.shpA n ds = true ∧ Φ (.bl (memD x ds))) := fun Hi H x y v u Φ s h r1 r2 Q q => by
  obtain ⟨ds, e, s1, s2, k⟩ := h
  subst e
  have s3 : D.shp (n + 1) (.lst ds) = true := by rw [shp_lst]; exact s2
  refine ⟨x.py, D.pyA ds, Rp.dp x v n s1 (r1.up s), Rp.dp (.lst ds) u (n + 1) s3 (r2.up s), D.shp_shaped s1 (by omega), D.shp_shaped s3 (by omega), ?_⟩
  rw [pyA_any]
  exact q _ _ Hi H k (Gr.refl s) (.bl _)
theorem od_notInD {n : Nat} (hn : n < 64) : OpD X (rNotInD X.K) (fun x y Φ => ∃ ds, y = .lst ds ∧ D.shp n x = true ∧ D.shpA n ds = true ∧ Φ (.bl (!memD x ds))) := fun Hi H x y v u Φ s h r1 r2 Q q => by
  obtain ⟨ds, e, s1, s2, k⟩ := h
  subst e
  have s3 : D.shp (n + 1) (.lst ds) = true := by rw [shp_lst]; exact s2
  refine ⟨x.py, D.pyA ds, Rp.dp x v n s1 (r1.up s), Rp.dp (.lst ds) u (n + 1) s3 (r2.up s), D.shp_shaped s1 (by omega), D.shp_shaped s3 (by omega), ?_⟩
  rw [pyA_any]
  exact q _ _ Hi H k (Gr.refl s) (.bl _)
theorem qt_in (hu : X.A.units + 65 < cLine) (ha : QE X Ψ a ρ d) (hb : QE X Ψ b ρ (.lst ds)) (h1 : D.shp 8 d = true) (h2 : D.shpA 8 ds = true) (hm : behindInMarks .In b = false := by rfl) : QB X Ψ (.Compare a [.In] [b] pos) ρ (memD d ds) := qt_cmp (op_inD hu) (od_inD (n := 8) (by decide)) hm (ha.to (hb.to ⟨ds, rfl, h1, h2, _, rfl, rfl⟩))
theorem qt_notIn (hu : X.A.units + 65 < cLine) (ha : QE X Ψ a ρ d) (hb : QE X Ψ b ρ (.lst ds)) (h1 : D.shp 8 d = true) (h2 : D.shpA 8 ds = true) (hm : behindInMarks .NotIn b = false := by rfl) : QB X Ψ (.Compare a [.NotIn] [b] pos) ρ (!memD d ds) := qt_cmp (op_notInD hu) (od_notInD (n := 8) (by decide)) hm (ha.to (hb.to ⟨ds, rfl, h1, h2, _, rfl, rfl⟩))
end
end G

namespace G
open PySem PySem.Spec L2
/-- what lets a while, a for stand in a def -/
theorem pass_cx {P : Program} {w : World} {K : PySem.W.Frag} {mg : Str → Option Value} {base : Heap} {N : List Str} {qual : Str} {scope : Scope} {f : Addr} {cd : Value} {A : Around} {outer : List Env} {s : Shared} {H : Hp} {E : XK} :
    PassesOwn (model P w) (cxOf (L2.CX P w) P w K mg base N qual scope f cd A outer s H E).A (cxOf (L2.CX P w) P w K mg base N qual scope f cd A outer s H E).env (cxOf (L2.CX P w) P w K mg base N qual scope f cd A outer s H E).xe :=
  passes_of (X := cxOf (L2.CX P w) P w K mg base N qual scope f cd A outer s H E) (K := fun e s'' => L2.CX P w outer H s E e s'') (E₁ := fun e' s'' => L2.CX P w outer H s E e' s'') rfl
/-- the built-in names that the text leaves alone -/
structure Zs (mg : Str → Option Value) : Prop where
  abs : mg "abs" = none
  len : mg "len" = none
  all : mg "all" = none
  any : mg "any" = none
  max : mg "max" = none
  isinstance : mg "isinstance" = none
  int : mg "int" = none
  bool : mg "bool" = none
  tuple : mg "tuple" = none
  list : mg "list" = none
  str : mg "str" = none
  range : mg "range" = none
  zip : mg "zip" = none
  enumerate : mg "enumerate" = none
  sorted : mg "sorted" = none

/-! ### bounds: |i| < 2 ^ n -/
def Bn (n : Nat) (i : Int) : Prop := i.natAbs < 2 ^ n
theorem Bn.mono {n m : Nat} {i : Int} (h : Bn n i) (e : n ≤ m) : Bn m i := Nat.lt_of_lt_of_le h (Nat.pow_le_pow_right (by decide) e)
theorem Bn.mul {n m : Nat} {i j : Int} (h : Bn n i) (k : Bn m j) : Bn (n + m) (i * j) := wide_lt h k
theorem two_add (n m : Nat) : 2 ^ n + 2 ^ m ≤ 2 ^ (max n m + 1) := by
  have h1 : 2 ^ n ≤ 2 ^ (max n m) := Nat.pow_le_pow_right (by decide) (Nat.le_max_left _ _)
  have h2 : 2 ^ m ≤ 2 ^ (max n m) := Nat.pow_le_pow_right (by decide) (Nat.le_max_right _ _)
  rw [Nat.pow_succ]; omega
theorem Bn.add {n m : Nat} {i j : Int} (h : Bn n i) (k : Bn m j) : Bn (max n m + 1) (i + j) := by
  have := two_add n m
  unfold Bn at *
  omega
theorem Bn.sub {n m : Nat} {i j : Int} (h : Bn n i) (k : Bn m j) : Bn (max n m + 1) (i - j) := by
  have := two_add n m
  unfold Bn at *
  omega
theorem Bn.neg {n : Nat} {i : Int} (h : Bn n i) : Bn n (-i) := by unfold Bn at *; omega
theorem Bn.abs {n : Nat} {i : Int} (h : Bn n i) : Bn n (if i < 0 then -i else i) := by split <;> first | exact h.neg | exact h
theorem Bn.div {n : Nat} {i j : Int} (h : Bn n i) (hj : 0 < j) : Bn n (i / j) := by
  unfold Bn at *
  refine Nat.lt_of_le_of_lt ?_ h
  have := Int.natAbs_ediv_le_natAbs i j
  omega
theorem Bn.ite {n m : Nat} {c : Prop} [Decidable c] {i j : Int} (h : Bn n i) (k : Bn m j) : Bn (max n m) (if c then i else j) := by
  split
  · exact h.mono (Nat.le_max_left _ _)
  · exact k.mono (Nat.le_max_right _ _)
theorem Bn.cm {n m : Nat} {i j : Int} (h : Bn n i) (k : Bn m j) (e : n + m ≤ 900000) : CMulW i j := wide_mul (a := n + 1) (b := m + 1) (h.mono (by omega)) (k.mono (by omega)) (by omega) (by omega) (by omega)
theorem Bn.cd {n : Nat} {i j : Int} (h : Bn n j) (hj : 0 < j) (e : n ≤ 8900) : CDivW i j := wide_div (b := n + 1) hj (h.mono (by omega)) (by omega) (by omega)
/-- // by any divisor but 0 -/
def CDivZ (_ j : Int) : Prop := j ≠ 0 ∧ j.natAbs.log2 < 9000
theorem op_fdivZ {X : L2.Cx} : OpR X (binaryOp .FloorDiv) (rI CDivZ fun i j => .int (i.fdiv j)) := opI fun i j _ _ _ _ _ hc q => PyProof.Rows.floordiv_int hc.1 q (.inl (PyProof.noPylong_of_log2 hc.2))
theorem qe_fdivZ {X : L2.Cx} {Ψ : Str → Prop} {ρ : List Sl} {a b : Expr} {pos : Pos} {i j : Int} (ha : QE X Ψ a ρ (.int i)) (hb : QE X Ψ b ρ (.int j)) (hc : CDivZ i j) (hd : j ∣ i) : QE X Ψ (.BinOp a .FloorDiv b pos) ρ (.int (i / j)) :=
  qx_op op_fdivZ (od_I fun _ _ _ => .int _) (ha.to (hb.to ⟨i, j, rfl, rfl, hc, by rw [Int.fdiv_eq_ediv_of_dvd hd]⟩))
theorem Bn.cz {n : Nat} {i j : Int} (h : Bn n j) (hj : j ≠ 0) (e : n ≤ 8900) : CDivZ i j := ⟨hj, Nat.lt_of_lt_of_le (PySem.Flt.log2_lt_of (n := j.natAbs) (k := n + 1) (by omega) (h.mono (by omega))) (by omega)⟩
/-- a call that gives a datum -/
theorem qe_call {X : L2.Cx} {Ψ : Str → Prop} {ρ : List Sl} {e : Expr} {es : List Expr} {pos p : Pos} {x : Str} {k n : Nat} {S : SpD} {ds : List D} {d : D} (F : FnS X.prog X.w X.K X.mg X.base x k n S) (hr : Room k X.A) (h : QAs X Ψ (e :: es) ρ ds) (hs : S ds (fun z => z = d) Ψ) (hg : Gl X x := by rfl) (hdb : (x == ("__debug__" : Str)) = false := by decide)
    (he : starEach (e :: es) X.env = (false, eval e X.env) :: starEach es X.env := by exact se_of rfl) (hpl : (backTo pos (starEach es X.env)).any (·.1) = false := by rfl) : QE X Ψ (.Call (.Name x p) (e :: es) [] pos) ρ d := qx_call F hr (h.to hs) hg hdb he hpl
theorem Room.u65 {k : Nat} {A : Around} (r : Room k A) : A.units + 65 < cLine := by have := r.un; omega
/-- a module's constant -/
def CstT (K : PySem.W.Frag) (mg : Str → Option Value) (x : Str) (d : D) : Prop := ∃ a, mg x = some (.ref a) ∧ ∀ H, Rp K H (.ref a) d
theorem qe_cst {X : L2.Cx} {Ψ : Str → Prop} {ρ : List Sl} {pos : Pos} {x : Str} {d : D} (h : CstT X.K X.mg x d) (hg : Gl X x := by rfl) (hdb : (x == ("__debug__" : Str)) = false := by decide) : QE X Ψ (.Name x pos) ρ d := by
  obtain ⟨a, h1, h2⟩ := h
  exact qx_glob (v := .ref a) h1 rfl h2 rfl hg hdb
/-- a <= b <= c -/
theorem qe_le2 {X : L2.Cx} {Ψ : Str → Prop} {ρ : List Sl} {a b c : Expr} {pos : Pos} {i j k : Int} (ha : QE X Ψ a ρ (.int i)) (hb : QE X Ψ b ρ (.int j)) (hc : i ≤ j → QE X Ψ c ρ (.int k)) (hlm : lastMarks [CmpOp.LtE, CmpOp.LtE] [b, c] = false := by rfl) : QE X Ψ (.Compare a [.LtE, .LtE] [b, c] pos) ρ (.bl (decide (i ≤ j) && decide (j ≤ k))) :=
  fun B Hi H σ W tk S rs Q q => wE.of (pe_chain op_le op_le pe_w pe_w pe_w hlm) (ha B Hi H σ W tk S rs _ fun v1 d1 Hi1 H1 e1 g1 r1 => hb B Hi1 H1 σ W tk (S.grow g1) (rs.grow g1) _ fun v2 d2 Hi2 H2 e2 g2 r2 => by
    subst e1 e2
    cases r1; cases r2
    refine ⟨i, j, rfl, rfl, decide (i ≤ j), rfl, ?_⟩
    by_cases h : i ≤ j
    · rw [decide_eq_true h, if_pos rfl]
      refine hc h B Hi2 H2 σ W tk ((S.grow g1).grow g2) ((rs.grow g1).grow g2) _ fun v3 d3 Hi3 H3 e3 g3 r3 => ?_
      subst e3
      cases r3
      have q2 := q (.bl (decide (j ≤ k))) _ Hi3 H3 (by rw [decide_eq_true h, Bool.true_and]) ((g1.trans g2).trans g3) (.bl _)
      exact ⟨j, k, rfl, rfl, q2⟩
    · rw [decide_eq_false h, if_neg (by decide)]
      exact q (.bl false) _ Hi2 H2 (by rw [decide_eq_false h, Bool.false_and]) (g1.trans g2) (.bl _))
/-! kinds -/
def D.isI : D → Bool
  | .int _ => true
  | _ => false
def D.isIB : D → Bool
  | .int _ => true
  | .bl _ => true
  | _ => false
def D.isB : D → Bool
  | .bl _ => true
  | _ => false
def D.isT : D → Bool
  | .tup _ => true
  | _ => false
def D.isL : D → Bool
  | .lst _ => true
  | .opq _ => true
  | _ => false
def D.isS : D → Bool
  | .str _ => true
  | _ => false
theorem kit_int (d : D) : kitB d.tyN "int" = some d.isIB := by cases d <;> (simp only [D.tyN, D.isIB]; decide +kernel)
theorem kit_bool (d : D) : kitB d.tyN "bool" = some d.isB := by cases d <;> (simp only [D.tyN, D.isB]; decide +kernel)
theorem kit_tuple (d : D) : kitB d.tyN "tuple" = some d.isT := by cases d <;> (simp only [D.tyN, D.isT]; decide +kernel)
theorem kit_list (d : D) : kitB d.tyN "list" = some d.isL := by cases d <;> (simp only [D.tyN, D.isL]; decide +kernel)
theorem kit_str (d : D) : kitB d.tyN "str" = some d.isS := by cases d <;> (simp only [D.tyN, D.isS]; decide +kernel)
/-! all, any of what is mapped -/
section
variable {X : L2.Cx} {Ψ : Str → Prop} {ρ : List Sl} {e : Expr} {pos p : Pos} {ds : List D} {t : D → Bool}
theorem map_bl : ds.map (fun d => D.bl (t d)) = (ds.map t).map D.bl := by rw [List.map_map]; rfl
theorem qe_allM (hm : X.mg "all" = none) (h : QE X Ψ e ρ (.lst (ds.map fun d => .bl (t d)))) (hg : Gl X "all" := by rfl) (he : starEach [e] X.env = (false, eval e X.env) :: starEach [] X.env := by exact se_of rfl) (hpl : (backTo pos (starEach [] X.env)).any (·.1) = false := by rfl) (hc : X.calm = true := by rfl) :
    QE X Ψ (.Call (.Name "all" p) [e] [] pos) ρ (.bl (ds.all t)) := QE.is (qe_all (bs := ds.map t) hm (map_bl ▸ h) hg he hpl hc) (by rw [List.all_map]; rfl)
theorem qe_anyM (hm : X.mg "any" = none) (h : QE X Ψ e ρ (.lst (ds.map fun d => .bl (t d)))) (hg : Gl X "any" := by rfl) (he : starEach [e] X.env = (false, eval e X.env) :: starEach [] X.env := by exact se_of rfl) (hpl : (backTo pos (starEach [] X.env)).any (·.1) = false := by rfl) (hc : X.calm = true := by rfl) :
    QE X Ψ (.Call (.Name "any" p) [e] [] pos) ρ (.bl (ds.any t)) := QE.is (qe_any (bs := ds.map t) hm (map_bl ▸ h) hg he hpl hc) (by rw [List.any_map]; rfl)
end
/-! comprehensions over typed lists -/
section
variable {X : L2.Cx} {ρ : List Sl} {Φ : D → Prop} {scope : Scope} {vs : List Nat} {tg elt c : Expr} {α : Type}
theorem lcq_mapT (enc g : α → D) {ps : List α} (hl : ps.length ≤ 100000) (ht : ∀ p, p ∈ ps → ∃ ρ', QGb X scope vs tg (enc p) (wipeS ρ vs) ρ' ∧ ∀ s H C cl fp, QE (BlkX X scope s H C cl fp) (fun _ => False) elt ρ' (g p))
    (k : Φ (.lst (ps.map g))) : LcQ X scope vs tg elt [] ρ (ps.map enc) (fun i acc => acc = (ps.take i).map g) Φ :=
  ⟨by simpa using hl, by simp, fun i d acc hd hI => by
    rw [List.getElem?_map] at hd
    cases e : ps[i]? with
    | none => rw [e] at hd; cases hd
    | some p =>
      rw [e] at hd
      cases hd
      obtain ⟨ρ', hg, he⟩ := ht p (List.mem_of_getElem? e)
      refine ⟨ρ', hg, fun b => b = true, rfl, fun _ s H C cl fp => (he s H C cl fp).to ?_, fun z => Bool.noConfusion z⟩
      rw [hI, List.take_succ, e]; simp, fun acc hI _ => by
    rw [hI, List.length_map, List.take_length]; exact k⟩
theorem lcq_filterT (enc g : α → D) (t : α → Bool) {ps : List α} (hl : ps.length ≤ 100000)
    (ht : ∀ p, p ∈ ps → ∃ ρ', QGb X scope vs tg (enc p) (wipeS ρ vs) ρ' ∧ (∀ s H C cl fp, QB (BlkX X scope s H C cl fp) (fun _ => False) c ρ' (t p)) ∧ (t p = true → ∀ s H C cl fp, QE (BlkX X scope s H C cl fp) (fun _ => False) elt ρ' (g p)))
    (k : Φ (.lst ((ps.filter t).map g))) : LcQ X scope vs tg elt [c] ρ (ps.map enc) (fun i acc => acc = ((ps.take i).filter t).map g) Φ :=
  ⟨by simpa using hl, by simp, fun i d acc hd hI => by
    rw [List.getElem?_map] at hd
    cases e : ps[i]? with
    | none => rw [e] at hd; cases hd
    | some p =>
      rw [e] at hd
      cases hd
      obtain ⟨ρ', hg, hc, he⟩ := ht p (List.mem_of_getElem? e)
      refine ⟨ρ', hg, fun b => b = t p, hc, fun z s H C cl fp => (he z.symm s H C cl fp).to ?_, fun z => ?_⟩
      · rw [hI, List.take_succ, e]; simp [← z]
      · rw [hI, List.take_succ, e]; simp [← z], fun acc hI _ => by
    rw [hI, List.length_map, List.take_length]; exact k⟩
end
/-! ### is, is not: None, True, False -/
section
variable {X : L2.Cx} {Ψ : Str → Prop} {ρ : List Sl} {Θ : Bool → Prop} {a : Expr} {pos p : Pos} {j : Nat} {d : D}
def D.isN : D → Bool
  | .non => true
  | _ => false
theorem Rp.isN {K : PySem.W.Frag} {H : Hp} {v : V} (h : Rp K H v d) : decide (v = V.non) = d.isN := by
  cases h with
  | non => rfl
  | _ => exact decide_eq_false (fun e => nomatch e)
theorem od_isN : OpD X (fun x y H Q => y = .non ∧ Q (.bl (decide (x = .non))) H) (fun x y Φ => y = .non ∧ Φ (.bl x.isN)) := fun Hi H x y v u Φ s h r1 r2 Q q => by
  obtain ⟨e, k⟩ := h
  subst e
  cases r2
  rw [r1.isN]
  exact ⟨rfl, q _ _ Hi H k (Gr.refl s) (.bl _)⟩
theorem od_notN : OpD X (fun x y H Q => y = .non ∧ Q (.bl (!decide (x = .non))) H) (fun x y Φ => y = .non ∧ Φ (.bl (!x.isN))) := fun Hi H x y v u Φ s h r1 r2 Q q => by
  obtain ⟨e, k⟩ := h
  subst e
  cases r2
  rw [r1.isN]
  exact ⟨rfl, q _ _ Hi H k (Gr.refl s) (.bl _)⟩
theorem qt_isN (h : QE X Ψ a ρ d) : QB X Ψ (.Compare a [.Is] [.Constant .none j p] pos) ρ d.isN := qt_cmp op_isN od_isN (nomark _) (h.to (qn.to ⟨rfl, _, rfl, rfl⟩))
theorem qt_notN (h : QE X Ψ a ρ d) : QB X Ψ (.Compare a [.IsNot] [.Constant .none j p] pos) ρ (!d.isN) := qt_cmp op_notN od_notN (nomark _) (h.to (qn.to ⟨rfl, _, rfl, rfl⟩))
end
end G

namespace G
open PySem PySem.Spec L2
def Pt.d (p : Pt) : D := .tup [.int p.x, .int p.y, .int p.w]
def Sh.d (s : Sh) : D := .tup [.int s.t, .int s.b]
/-- a point within bounds -/
structure Ok (n : Nat) (p : Pt) : Prop where
  x : Bn n p.x
  y : Bn n p.y
  w : Bn n p.w
  pos : 0 < p.w
structure SOk (n : Nat) (s : Sh) : Prop where
  t : Bn n s.t
  b : Bn n s.b
  pos : 0 < s.b
theorem natAbs_g3 {z a b w : Int} (hw : w ≠ 0) : (z / g3 a b w).natAbs ≤ z.natAbs := by
  have h := Int.natAbs_ediv_le_natAbs z (g3 a b w)
  exact h
theorem Bn.g3 {n : Nat} {z a b w : Int} (h : Bn n z) : Bn n (z / g3 a b w) := Nat.lt_of_le_of_lt (Int.natAbs_ediv_le_natAbs z _) h
theorem low_ok {n m l : Nat} {a b w : Int} (h1 : Bn n a) (h2 : Bn m b) (h3 : Bn l w) (hw : w ≠ 0) : Ok (max n (max m l)) (low a b w) :=
  ⟨(h1.g3 : Bn n _).mono (Nat.le_max_left _ _), (h2.g3 : Bn m _).mono (Nat.le_trans (Nat.le_max_left _ _) (Nat.le_max_right _ _)), (h3.g3 : Bn l _).mono (Nat.le_trans (Nat.le_max_right _ _) (Nat.le_max_right _ _)), low_w_pos hw⟩
theorem Ok.mono {n m : Nat} {p : Pt} (h : Ok n p) (e : n ≤ m) : Ok m p := ⟨h.x.mono e, h.y.mono e, h.w.mono e, h.pos⟩
theorem Ok.nz {n : Nat} {p : Pt} (h : Ok n p) : p.w ≠ 0 := by have := h.pos; omega
theorem Ok.pp {n m : Nat} {p q : Pt} (h : Ok n p) (k : Ok m q) : p.w * q.w ≠ 0 := mulnz h.nz k.nz
theorem plus_ok {n m : Nat} {p q : Pt} (h : Ok n p) (k : Ok m q) : Ok (n + m + 1) (plus p q) := (low_ok ((h.x.mul k.w).add (k.x.mul h.w)) ((h.y.mul k.w).add (k.y.mul h.w)) (h.w.mul k.w) (h.pp k)).mono (by omega)
theorem minus_ok {n m : Nat} {p q : Pt} (h : Ok n p) (k : Ok m q) : Ok (n + m + 1) (minus p q) := (low_ok ((h.x.mul k.w).sub (k.x.mul h.w)) ((h.y.mul k.w).sub (k.y.mul h.w)) (h.w.mul k.w) (h.pp k)).mono (by omega)
theorem times_ok {n m : Nat} {p q : Pt} (h : Ok n p) (k : Ok m q) : Ok (n + m + 1) (times p q) := (low_ok ((h.x.mul k.x).sub (h.y.mul k.y)) ((h.x.mul k.y).add (h.y.mul k.x)) (h.w.mul k.w) (h.pp k)).mono (by omega)
theorem flipped_ok {n : Nat} {p : Pt} (h : Ok n p) : Ok n (flipped p) := ⟨h.x, h.y.neg, h.w, h.pos⟩
theorem shr_ok {n m : Nat} {a w : Int} (h1 : Bn n a) (h3 : Bn m w) (hw : w ≠ 0) : SOk (max n m) (shr a w) := ⟨(h1.g3 : Bn n _).mono (Nat.le_max_left _ _), (h3.g3 : Bn m _).mono (Nat.le_max_right _ _), low_w_pos hw⟩
theorem SOk.mono {n m : Nat} {s : Sh} (h : SOk n s) (e : n ≤ m) : SOk m s := ⟨h.t.mono e, h.b.mono e, h.pos⟩
theorem size_ok {n : Nat} {p : Pt} (h : Ok n p) : SOk (2 * n + 1) (size p) := (shr_ok ((h.x.mul h.x).add (h.y.mul h.y)) (h.w.mul h.w) (h.pp h)).mono (by omega)
theorem bn_gcd {n : Nat} {a b : Int} (h : Bn n b) (hb : b ≠ 0) : Bn n (Int.gcd a b : Int) := by
  unfold Bn at *
  have := Int.gcd_le_natAbs_right a hb
  omega
theorem bn_g3 {n : Nat} {a b w : Int} (h : Bn n w) (hw : w ≠ 0) : Bn n (g3 a b w) := by
  have := bn_gcd (a := (Int.gcd a b : Int)) h hw
  unfold g3; split
  · exact this
  · exact this.neg

/-! ### == of points and shares -/
theorem deq_int (i j : Int) : deq (.int i) (.int j) = decide (i = j) := by
  show PyData.eqv (.int i) (.int j) = _
  unfold PyData.eqv
  by_cases h : i = j
  · subst h; simp
  · rw [decide_eq_false h]; simpa using h
theorem deq_tup (a b : List D) : deq (.tup a) (.tup b) = PyData.eqvAll (D.pyA a) (D.pyA b) := by
  show PyData.eqv (.tuple _) (.tuple _) = _
  unfold PyData.eqv; rfl
theorem deq_lst (a b : List D) : deq (.lst a) (.lst b) = PyData.eqvAll (D.pyA a) (D.pyA b) := by
  show PyData.eqv (.list _) (.list _) = _
  unfold PyData.eqv; rfl
theorem eqvA_cons (a b : D) (as bs : List D) : PyData.eqvAll (D.pyA (a :: as)) (D.pyA (b :: bs)) = (deq a b && PyData.eqvAll (D.pyA as) (D.pyA bs)) := by
  show PyData.eqvAll (_ :: _) (_ :: _) = _
  rw [PyData.eqvAll]; rfl
theorem eqvA_nil : PyData.eqvAll (D.pyA []) (D.pyA []) = true := by
  show PyData.eqvAll [] [] = true
  rw [PyData.eqvAll]
theorem deq_pt (p q : Pt) : deq p.d q.d = decide (p = q) := by
  unfold Pt.d
  rw [deq_tup, eqvA_cons, eqvA_cons, eqvA_cons, eqvA_nil, deq_int, deq_int, deq_int]
  cases p; cases q
  simp [Bool.and_true]
theorem deq_sh (p q : Sh) : deq p.d q.d = decide (p = q) := by
  unfold Sh.d
  rw [deq_tup, eqvA_cons, eqvA_cons, eqvA_nil, deq_int, deq_int]
  cases p; cases q
  simp [Bool.and_true]
theorem shp_pt (n : Nat) (p : Pt) : D.shp (n + 1) p.d = true := by unfold Pt.d; rw [shp_tup]; rfl
theorem shp_sh (n : Nat) (p : Sh) : D.shp (n + 1) p.d = true := by unfold Sh.d; rw [shp_tup]; rfl
end G

namespace G
open PySem PySem.Spec L2
/-! ### things of any kind -/
mutual
/-- all numbers within bounds -/
def Db (n : Nat) : D → Prop
  | .int i => Bn n i
  | .lst xs => DbA n xs
  | .tup xs => DbA n xs
  | _ => True
def DbA (n : Nat) : List D → Prop
  | [] => True
  | d :: ds => Db n d ∧ DbA n ds
end
theorem DbA.mem {n : Nat} : ∀ {ds : List D} {d : D}, DbA n ds → d ∈ ds → Db n d
  | x :: xs, d, h, hm => by
    rcases List.mem_cons.mp hm with rfl | hm
    · exact h.1
    · exact DbA.mem h.2 hm
theorem shp_mem {n : Nat} : ∀ {ds : List D} {d : D}, D.shpA n ds = true → d ∈ ds → D.shp n d = true
  | x :: xs, d, h, hm => by
    rw [shpA_cons, Bool.and_eq_true] at h
    rcases List.mem_cons.mp hm with rfl | hm
    · exact h.1
    · exact shp_mem h.2 hm
theorem shp_nopq {n : Nat} {d : D} (h : D.shp n d = true) : ∀ m, d ≠ .opq m := fun m e => by subst e; exact Bool.noConfusion h
theorem shp_tupA {n : Nat} {ds : List D} (h : D.shp n (.tup ds) = true) : D.shpA n ds = true := by
  obtain ⟨m, rfl, h'⟩ := shp_inv (.inr h)
  have up : ∀ (ds : List D) (m : Nat), D.shpA m ds = true → D.shpA (m + 1) ds = true := by
    intro ds
    suffices H : (∀ (d : D) (m : Nat), D.shp m d = true → D.shp (m + 1) d = true) from fun m h => shpA_all fun d hd => H d m (shp_mem h hd)
    intro d
    induction d using D.rec (motive_2 := fun ds => ∀ m, D.shpA m ds = true → D.shpA (m + 1) ds = true) with
    | non => intro m h; rfl
    | bl b => intro m h; rfl
    | int i => intro m h; rfl
    | str x => intro m h; exact h
    | opq n => intro m h; exact h
    | lst xs ih =>
      intro m h
      obtain ⟨m', rfl, h'⟩ := shp_inv (.inl h)
      rw [shp_lst]; exact ih m' h'
    | tup xs ih =>
      intro m h
      obtain ⟨m', rfl, h'⟩ := shp_inv (.inr h)
      rw [shp_tup]; exact ih m' h'
    | nil => rfl
    | cons d ds h1 h2 =>
      rename_i mm hh
      rw [shpA_cons, Bool.and_eq_true] at hh ⊢
      exact ⟨h1 _ hh.1, h2 _ hh.2⟩
  exact up ds m h'
def isWh (d : D) (lo hi : Int) : Bool := match d with
  | .int i => decide (lo ≤ i) && decide (i ≤ hi)
  | _ => false
def isPt (d : D) : Bool := match d with
  | .tup [.int x, .int y, .int w] => decide (0 < w) && decide ((Int.gcd (Int.gcd x y) w : Int) = 1)
  | _ => false
theorem isPt_d (p : Pt) : isPt p.d = decide (Norm p) := by
  show (decide (0 < p.w) && decide ((Int.gcd (Int.gcd p.x p.y) p.w : Int) = 1)) = _
  unfold Norm
  rw [← Bool.decide_and]
  congr 1
  apply propext
  constructor
  · rintro ⟨a, b⟩; exact ⟨a, by omega⟩
  · rintro ⟨a, b⟩; exact ⟨a, by omega⟩
theorem isPt_yes {p : Pt} (h : Norm p) : isPt p.d = true := by rw [isPt_d]; exact decide_eq_true h
theorem isPt_inv {d : D} (h : isPt d = true) : ∃ p : Pt, d = p.d ∧ Norm p := by
  unfold isPt at h
  split at h
  · rename_i x y w
    exact ⟨⟨x, y, w⟩, rfl, by
      rw [Bool.and_eq_true, decide_eq_true_eq, decide_eq_true_eq] at h
      exact ⟨h.1, by have := h.2; show Int.gcd (Int.gcd x y) w = 1; omega⟩⟩
  · cases h
theorem Norm.ok {n : Nat} {p : Pt} (h : Norm p) (b : Db n p.d) : Ok n p := ⟨b.1, b.2.1, b.2.2.1, h.1⟩
theorem Ok.db {n : Nat} {p : Pt} (h : Ok n p) : Db n p.d := ⟨h.x, h.y, h.w, trivial⟩
/-! ### motions -/
structure Mo where
  t : Pt
  s : Pt
  f : Int
deriving DecidableEq
def Mo.d (m : Mo) : D := .tup [m.t.d, m.s.d, .int m.f]
def still : Mo := ⟨⟨1, 0, 1⟩, ⟨0, 0, 1⟩, 0⟩
/-- a motion, within bounds -/
structure MOk (n : Nat) (m : Mo) : Prop where
  t : Ok n m.t
  s : Ok n m.s
  tn : Norm m.t
  sn : Norm m.s
  one : size m.t = ⟨1, 1⟩
  f : m.f = 0 ∨ m.f = 1
def isMo (d : D) : Bool := match d with
  | .tup [a, b, c] => isPt a && (isPt b && (isWh c 0 1 && match a with
    | .tup [.int x, .int y, .int w] => decide (size ⟨x, y, w⟩ = ⟨1, 1⟩)
    | _ => false))
  | _ => false
theorem isMo_yes {n : Nat} {m : Mo} (h : MOk n m) : isMo m.d = true := by
  show (isPt m.t.d && (isPt m.s.d && (isWh (.int m.f) 0 1 && decide (size m.t = ⟨1, 1⟩)))) = true
  rw [isPt_yes h.tn, isPt_yes h.sn, decide_eq_true h.one]
  rcases h.f with e | e <;> rw [e] <;> rfl
theorem isMo_inv {d : D} {n : Nat} (h : isMo d = true) (b : Db n d) : ∃ m : Mo, d = m.d ∧ MOk n m := by
  unfold isMo at h
  split at h
  · rename_i a b' c
    rw [Bool.and_eq_true, Bool.and_eq_true, Bool.and_eq_true] at h
    obtain ⟨h1, h2, h3, h4⟩ := h
    obtain ⟨p, rfl, np⟩ := isPt_inv h1
    obtain ⟨q, rfl, nq⟩ := isPt_inv h2
    obtain ⟨b1, b2, b3, _⟩ := b
    unfold isWh at h3
    split at h3
    · rename_i i
      rw [Bool.and_eq_true, decide_eq_true_eq, decide_eq_true_eq] at h3
      exact ⟨⟨p, q, i⟩, rfl, np.ok b1, nq.ok b2, np, nq, of_decide_eq_true h4, by show i = 0 ∨ i = 1; omega⟩
    · cases h3
  · cases h
theorem MOk.db {n : Nat} {m : Mo} (h : MOk n m) : Db n m.d := ⟨h.t.db, h.s.db, by
  show Bn n m.f
  have : 2 ^ n ≥ 2 := by
    have h1 := h.t.w
    have h2 := h.t.pos
    have h3 : Bn n m.t.w := h1
    unfold Bn at h3
    by_cases hn : n = 0
    · subst hn; omega
    · have : 2 ^ 1 ≤ 2 ^ n := Nat.pow_le_pow_right (by decide) (by omega)
      omega
  unfold Bn
  rcases h.f with e | e <;> rw [e] <;> omega, trivial⟩
theorem MOk.mono {n k : Nat} {m : Mo} (h : MOk n m) (e : n ≤ k) : MOk k m := ⟨h.t.mono e, h.s.mono e, h.tn, h.sn, h.one, h.f⟩
theorem shp_mo (n : Nat) (m : Mo) : D.shp (n + 2) m.d = true := by
  unfold Mo.d; rw [shp_tup, shpA_cons, shpA_cons, shpA_cons, shp_pt, shp_pt]; rfl
theorem deq_mo (m k : Mo) : deq m.d k.d = decide (m = k) := by
  unfold Mo.d
  rw [deq_tup, eqvA_cons, eqvA_cons, eqvA_cons, eqvA_nil, deq_pt, deq_pt, deq_int]
  cases m; cases k
  simp [Bool.and_true]
theorem still_ok : MOk 64 still := ⟨⟨by unfold Bn; decide, by unfold Bn; decide, by unfold Bn; decide, by decide⟩, ⟨by unfold Bn; decide, by unfold Bn; decide, by unfold Bn; decide, by decide⟩, ⟨by decide, by decide⟩, ⟨by decide, by decide⟩, by decide, .inl rfl⟩
/-- its turn has length 1 -/
theorem MOk.unit {n : Nat} {m : Mo} (h : MOk n m) : m.t.re * m.t.re + m.t.im * m.t.im = 1 := by
  have e := size_val h.t.nz
  rw [h.one] at e
  rw [← e]
  show ((1 : Int) : Rat) / ((1 : Int) : Rat) = 1
  grind
theorem size_one {p : Pt} (h : p.w ≠ 0) (e : p.re * p.re + p.im * p.im = 1) : size p = ⟨1, 1⟩ := sh_inj (size_norm h) ⟨by decide, by decide⟩ (by rw [size_val h, e]; show 1 = ((1 : Int) : Rat) / ((1 : Int) : Rat); grind)
/-! what a motion does -/
def ledBy (m : Mo) (p : Pt) : Pt := plus (times m.t (if m.f = 1 then flipped p else p)) m.s
def joined (m k : Mo) : Mo := ⟨times k.t (if k.f = 1 then flipped m.t else m.t), ledBy k m.s, (m.f + k.f) % 2⟩
def backOf (m : Mo) : Mo := if m.f = 1 then ⟨m.t, minus ⟨0, 0, 1⟩ (times m.t (flipped m.s)), 1⟩ else ⟨flipped m.t, minus ⟨0, 0, 1⟩ (times (flipped m.t) m.s), 0⟩
def gap (p q : Pt) : Sh := size (minus p q)
def fl (f : Int) (p : Pt) : Pt := if f = 1 then flipped p else p
theorem fl_ok {n : Nat} {p : Pt} {f : Int} (h : Ok n p) : Ok n (if f = 1 then flipped p else p) := by split; exact flipped_ok h; exact h
theorem fl_re {f : Int} {p : Pt} : (if f = 1 then flipped p else p).re = p.re := by split <;> rfl
theorem fl_im {f : Int} {p : Pt} : (if f = 1 then flipped p else p).im = if f = 1 then -p.im else p.im := by split; exact flipped_im; rfl
theorem ledBy_ok {n k : Nat} {m : Mo} {p : Pt} (h : MOk n m) (hp : Ok k p) : Ok (2 * n + k + 2) (ledBy m p) := (plus_ok (times_ok h.t (fl_ok hp)) h.s).mono (by omega)
theorem ledBy_norm {n k : Nat} {m : Mo} {p : Pt} (h : MOk n m) (hp : Ok k p) : Norm (ledBy m p) := plus_norm (times_ok h.t (fl_ok hp)).nz h.s.nz
theorem ledBy_re {n k : Nat} {m : Mo} {p : Pt} (h : MOk n m) (hp : Ok k p) : (ledBy m p).re = m.t.re * p.re - m.t.im * (if m.f = 1 then -p.im else p.im) + m.s.re := by
  unfold ledBy
  rw [plus_re (times_ok h.t (fl_ok hp)).nz h.s.nz, times_re h.t.nz (fl_ok hp).nz, fl_re, fl_im]
theorem ledBy_im {n k : Nat} {m : Mo} {p : Pt} (h : MOk n m) (hp : Ok k p) : (ledBy m p).im = m.t.re * (if m.f = 1 then -p.im else p.im) + m.t.im * p.re + m.s.im := by
  unfold ledBy
  rw [plus_im (times_ok h.t (fl_ok hp)).nz h.s.nz, times_im h.t.nz (fl_ok hp).nz, fl_re, fl_im]
theorem joined_ok {n k : Nat} {m l : Mo} (h : MOk n m) (hl : MOk k l) : MOk (2 * k + n + 2) (joined m l) :=
  ⟨(times_ok hl.t (fl_ok h.t)).mono (by omega), (ledBy_ok hl h.s).mono (by omega), times_norm hl.t.nz (fl_ok h.t).nz, ledBy_norm hl h.s, size_one (times_ok hl.t (fl_ok h.t)).nz (by
    show (times l.t _).re * (times l.t _).re + (times l.t _).im * (times l.t _).im = 1
    rw [times_re hl.t.nz (fl_ok h.t).nz, times_im hl.t.nz (fl_ok h.t).nz, fl_re, fl_im]
    have h1 := h.unit; have h2 := hl.unit
    split <;> grind), by show (m.f + l.f) % 2 = 0 ∨ (m.f + l.f) % 2 = 1; omega⟩
theorem zero_ok {n : Nat} (h : 0 < n) : Ok n ⟨0, 0, 1⟩ := ⟨by unfold Bn; exact Nat.pow_pos (by decide), by unfold Bn; exact Nat.pow_pos (by decide), by unfold Bn; exact Nat.one_lt_pow (by omega) (by decide), by decide⟩
theorem backOf_ok {n : Nat} {m : Mo} (h : MOk n m) : MOk (2 * n + 3) (backOf m) := by
  have z : Ok 1 ⟨0, 0, 1⟩ := zero_ok (by decide)
  unfold backOf
  split
  · exact ⟨h.t.mono (by omega), (minus_ok z (times_ok h.t (flipped_ok h.s))).mono (by omega), h.tn, minus_norm z.nz (times_ok h.t (flipped_ok h.s)).nz, h.one, .inr rfl⟩
  · refine ⟨(flipped_ok h.t).mono (by omega), (minus_ok z (times_ok (flipped_ok h.t) h.s)).mono (by omega), flipped_norm h.tn, minus_norm z.nz (times_ok (flipped_ok h.t) h.s).nz, size_one (flipped_ok h.t).nz ?_, .inl rfl⟩
    show (flipped m.t).re * (flipped m.t).re + (flipped m.t).im * (flipped m.t).im = 1
    rw [flipped_re, flipped_im]
    have h1 := h.unit
    grind
theorem gap_ok {n m : Nat} {p q : Pt} (h : Ok n p) (k : Ok m q) : SOk (2 * n + 2 * m + 3) (gap p q) := (size_ok (minus_ok h k)).mono (by omega)
theorem gap_norm {n m : Nat} {p q : Pt} (h : Ok n p) (k : Ok m q) : (gap p q).Norm := size_norm (minus_ok h k).nz
theorem gap_val {n m : Nat} {p q : Pt} (h : Ok n p) (k : Ok m q) : (gap p q).val = (p.re - q.re) * (p.re - q.re) + (p.im - q.im) * (p.im - q.im) := by
  unfold gap; rw [size_val (minus_ok h k).nz, minus_re h.nz k.nz, minus_im h.nz k.nz]
/-- equal motions -/
theorem mo_inj {n k : Nat} {m l : Mo} (h : MOk n m) (hl : MOk k l) (h1 : m.t.re = l.t.re) (h2 : m.t.im = l.t.im) (h3 : m.s.re = l.s.re) (h4 : m.s.im = l.s.im) (h5 : m.f = l.f) : m = l := by
  have e1 := val_inj h.tn hl.tn h1 h2
  have e2 := val_inj h.sn hl.sn h3 h4
  cases m; cases l
  simp only at e1 e2 h5
  rw [e1, e2, h5]
end G
namespace G
theorem plus_norm' {n m : Nat} {p q : Pt} (h : Ok n p) (k : Ok m q) : Norm (plus p q) := plus_norm h.nz k.nz
theorem minus_norm' {n m : Nat} {p q : Pt} (h : Ok n p) (k : Ok m q) : Norm (minus p q) := minus_norm h.nz k.nz
theorem times_norm' {n m : Nat} {p q : Pt} (h : Ok n p) (k : Ok m q) : Norm (times p q) := times_norm h.nz k.nz
theorem shpA_pt1 (n : Nat) (p : Pt) : D.shpA (n + 1) [p.d] = true := by rw [shpA_cons, shp_pt]; rfl
theorem shpA_pt2 (n : Nat) (p q : Pt) : D.shpA (n + 1) [p.d, q.d] = true := by rw [shpA_cons, shpA_cons, shp_pt, shp_pt]; rfl
theorem pts1 {p : Pt} (h : Norm p) : [p.d].all isPt = true := by rw [List.all_cons, isPt_yes h]; rfl
theorem pts2 {p q : Pt} (h : Norm p) (k : Norm q) : [p.d, q.d].all isPt = true := by rw [List.all_cons, List.all_cons, isPt_yes h, isPt_yes k]; rfl
end G

namespace G
open PySem PySem.Spec L2
/-! ### the town: what the draws come from -/
theorem upd_back {H : Hp} {a : Addr} {o u : HO} (h : H a = some u) : upd (upd H a o) a u = H := by
  funext b
  unfold upd
  split
  · rename_i e; rw [e]; exact h.symm
  · rfl
theorem upd_swap {H : Hp} {a b : Addr} {o u : HO} (h : a ≠ b) : upd (upd H a o) b u = upd (upd H b u) a o := by
  funext c
  unfold upd
  by_cases h1 : c = b
  · by_cases h2 : c = a
    · exact absurd (h2.symm.trans h1) h
    · rw [if_pos h1, if_neg h2, if_pos h1]
  · rw [if_neg h1]
    by_cases h2 : c = a
    · rw [if_pos h2, if_pos h2]
    · rw [if_neg h2, if_neg h2, if_neg h1]
section
variable {X : L2.Cx} {pins : List (Addr × Obj)} {σ : L2.St} {H : Hp} {s : Shared} {t r : Addr}
theorem vals2 {its : List Value} {r : Addr} {k : Int} (h : Vals [.ref r, .int k] its) : ∃ tk, its = [.ref r, .int k tk] := by
  cases h with
  | cons h1 h2 => cases h2 with
    | cons h2 h3 => cases h3; cases h1; obtain ⟨tk, rfl⟩ := h2; exact ⟨tk, rfl⟩
theorem town_in (I : Inv X pins σ H s) (ht : H t = some (.ext (townO t r))) (hr : H r = some (.ext (rowO r))) :
    t ≠ r ∧ ∃ (k : Int) (ns : List Int), ns ≠ [] ∧ ns.length ≤ sizeLine ∧ Inv X pins σ (upd (upd H t (.lst [.ref r, .int k])) r (.lst (ns.map V.int))) s := by
  obtain ⟨⟨k, tk, n, e1⟩, _, _⟩ := I.hok t _ ht
  obtain ⟨⟨ns, its, n2, hne, hlen, hv, e2⟩, _, _⟩ := I.hok r _ hr
  have htr : t ≠ r := fun e => by
    subst e
    rw [e1] at e2
    injection e2 with e2
    injection e2 with _ _ e2 _
    injection e2 with e2 _
    have e3 : its = [Value.ref t, Value.int k tk] := by simpa using congrArg Array.toList e2.symm
    subst e3
    cases ns with
    | nil => exact hne rfl
    | cons i ns => cases hv with | cons h1 _ => obtain ⟨_, h⟩ := h1; cases h
  refine ⟨htr, k, ns, hne, hlen, ?_⟩
  have I1 : Inv X pins σ (upd H t (.lst [.ref r, .int k])) s := I.write (h' := s.heap) (t' := s.toks) (by rw [ht]; trivial) (.inl rfl) (fun _ _ _ e => e) ⟨_, e1⟩
    ⟨by show 2 ≤ sizeLine; decide, [.ref r, .int k tk], n, .cons rfl (.cons ⟨tk, rfl⟩ .nil), e1⟩
  exact I1.write (h' := s.heap) (t' := s.toks) (by rw [upd_ne (Ne.symm htr), hr]; trivial) (.inl rfl) (fun _ _ _ e => e) ⟨_, e2⟩ ⟨by simpa using hlen, its, n2, hv, e2⟩
theorem town_out {k : Int} {ns : List Int} (I : Inv X pins σ H s) (htr : t ≠ r) (ht : H t = some (.lst [.ref r, .int k])) (hr : H r = some (.lst (ns.map V.int))) (hne : ns ≠ []) :
    Inv X pins σ (upd (upd H t (.ext (townO t r))) r (.ext (rowO r))) s := by
  obtain ⟨z1, its1, n1, hv1, e1⟩ := I.hok t _ ht
  obtain ⟨z2, its, n2, hv, e2⟩ := I.hok r _ hr
  obtain ⟨tk, rfl⟩ := vals2 hv1
  have I1 : Inv X pins σ (upd H t (.ext (townO t r))) s := I.write (h' := s.heap) (t' := s.toks) (by rw [ht]; trivial) (.inl rfl) (fun _ _ _ e => e) ⟨_, e1⟩
    ⟨⟨k, tk, n1, e1⟩, ⟨_, e1⟩, fun h1 h2 ⟨k, tk, n, e⟩ st => ⟨k, tk, n, st _ e⟩⟩
  exact I1.write (h' := s.heap) (t' := s.toks) (by rw [upd_ne (Ne.symm htr), hr]; trivial) (.inl rfl) (fun _ _ _ e => e) ⟨_, e2⟩
    ⟨⟨ns, its, n2, hne, by simpa using z2, hv, e2⟩, ⟨_, e2⟩, fun h1 h2 ⟨ns, its, n, a, b, c, e⟩ st => ⟨ns, its, n, a, b, c, st _ e⟩⟩
end
/-- what a draw ends in -/
abbrev DrawEnd (t r : Addr) (c : Int) (H : Hp) : Ends := { nx := fun _ _ => False, rt := fun v H'' => ∃ (i k' : Int) (ns' : List Int), v = .int i ∧ 0 ≤ i ∧ i < c ∧ ns' ≠ [] ∧ H'' = upd (upd H t (.lst [.ref r, .int k'])) r (.lst (ns'.map V.int)) }
/-- a draw's body -/
theorem qs_draw {X : L2.Cx} {Ψ : Str → Prop} {body : List Stmt} {R : Po} {c : Int} (hk : ∀ i : Int, 0 ≤ i → i < c → R.rt (.int i))
    (h : ∀ (H : Hp) (t r : Addr) (k : Int) (ns : List Int) (x2 x3 x4 x5 : Option V), t ≠ r → ns ≠ [] → H t = some (.lst [.ref r, .int k]) → H r = some (.lst (ns.map V.int)) → wSs X body (DrawEnd t r c H) [some (.ref t), some (.int c), x2, x3, x4, x5] H) :
    QS X Ψ body [.dat (.opq 0), .dat (.int c), .emp, .emp, .emp, .emp] R := fun Bi B Hi H σ Dn W tk g S rb N pins s I => by
  obtain ⟨v0, e0, r0⟩ := S.dat (i := 0) rfl
  obtain ⟨v1, e1, r1⟩ := S.dat (i := 1) rfl
  cases r1
  cases r0 with
  | @town t r ht hr =>
    have ht' := S.sub _ _ ht
    have hr' := S.sub _ _ hr
    obtain ⟨htr, k, ns, hne, hlen, I2⟩ := town_in I ht' hr'
    have hl : σ.length = 6 := S.len
    match σ, hl, e0, e1, I2 with
    | [y0, y1, x2, x3, x4, x5], _, e0, e1, I2 =>
      cases e0; cases e1
      refine thn (h _ t r k ns x2 x3 x4 x5 htr hne (by rw [upd_ne htr, upd_same]) upd_same pins s I2) fun f s' q => ?_
      cases f with
      | ret u =>
        obtain ⟨v, σ', H', I', rv, i, k', ns', rfl, h0, h1, hne', rfl⟩ := q
        have J := town_out I' htr (k := k') (ns := ns') (by rw [upd_ne htr, upd_same]) upd_same hne'
        have e : upd (upd (upd (upd (upd (upd H t (.lst [.ref r, .int k])) r (.lst (ns.map V.int))) t (.lst [.ref r, .int k'])) r (.lst (ns'.map V.int))) t (.ext (townO t r))) r (.ext (rowO r)) = H := by
          funext b
          unfold upd
          by_cases hb : b = r
          · rw [if_pos hb, hb]; exact hr'.symm
          · rw [if_neg hb]
            by_cases hb2 : b = t
            · rw [if_pos hb2, hb2]; exact ht'.symm
            · simp [hb, hb2]
        rw [e] at J
        exact ⟨.int i, σ', H, J, rv, N.rt _ (.int i) Hi H (hk i h0 h1) g (.int i)⟩
      | next => obtain ⟨_, _, _, q⟩ := q; exact q.elim
      | brk => obtain ⟨_, _, _, q⟩ := q; exact q.elim
      | cont => obtain ⟨_, _, _, q⟩ := q; exact q.elim
/-- what the town's making ends in -/
abbrev TownEnd (H : Hp) : Ends := { nx := fun _ _ => False, rt := fun v H'' => ∃ (Hx : Hp) (t r : Addr) (k : Int) (ns : List Int), Ex H Hx ∧ Hx r = none ∧ Hx t = none ∧ t ≠ r ∧ ns ≠ [] ∧ v = .ref t ∧ H'' = upd (upd Hx r (.lst (ns.map V.int))) t (.lst [.ref r, .int k]) }
theorem qs_town {X : L2.Cx} {Ψ : Str → Prop} {body : List Stmt} {R : Po} (hk : R.rt (.opq 0))
    (h : ∀ (H : Hp) (a : Addr) (ns : List Int), SqL X.K H a (ns.map V.int) → ns.length ≤ 63 → wSs X body (TownEnd H) [some (.ref a)] H) : QS X Ψ body [.dat (.opq 1)] R := fun Bi B Hi H σ Dn W tk g S rb N pins s I => by
  obtain ⟨v0, e0, r0⟩ := S.dat (i := 0) rfl
  cases r0 with
  | @scr a ns hs hn =>
    have hl : σ.length = 1 := S.len
    match σ, hl, e0, I with
    | [y0], _, e0, I =>
      cases e0
      refine thn (h H a ns (S.sub.l hs) hn pins s I) fun f s' q => ?_
      cases f with
      | ret u =>
        obtain ⟨v, σ', H', I', rv, Hx, t, r, k, ns', ex, hr, ht, htr, hne', rfl, rfl⟩ := q
        have J := town_out I' htr (k := k) (ns := ns') upd_same (by rw [upd_ne (Ne.symm htr), upd_same]) hne'
        have e : upd (upd (upd (upd Hx r (.lst (ns'.map V.int))) t (.lst [.ref r, .int k])) t (.ext (townO t r))) r (.ext (rowO r)) = upd (upd Hx r (.ext (rowO r))) t (.ext (townO t r)) := by
          rw [upd_upd, upd_swap htr, upd_upd]
        rw [e] at J
        have g1 : Gr Bi B Hi Hx := g.trans (Gr.out S.sub ex)
        have g2 := g1.trans (Gr.mk1 (o := .ext (rowO r)) g1.sub hr)
        have ht2 : upd Hx r (.ext (rowO r)) t = none := by rw [upd_ne htr]; exact ht
        have g3 := g2.trans (Gr.mk1 (o := .ext (townO t r)) g2.sub ht2)
        exact ⟨_, σ', _, J, rv, N.rt _ (.opq 0) _ _ hk g3 (.town upd_same (by rw [upd_ne (Ne.symm htr), upd_same]))⟩
      | next => obtain ⟨_, _, _, q⟩ := q; exact q.elim
      | brk => obtain ⟨_, _, _, q⟩ := q; exact q.elim
      | cont => obtain ⟨_, _, _, q⟩ := q; exact q.elim
/-- the cell that is looked at -/
theorem row_at {ns : List Int} (h : ns ≠ []) (k : Int) : ∃ cell : Int, atI (ns.map V.int) (k % (ns.length : Int)) = some (.int cell) ∧ ∃ j : Nat, ixN (ns.map V.int).length (k % (ns.length : Int)) = some j := by
  have hl : 0 < ns.length := List.length_pos_iff.mpr h
  have h1 : 0 ≤ k % (ns.length : Int) := Int.emod_nonneg _ (by omega)
  have h2 : k % (ns.length : Int) < (ns.length : Int) := Int.emod_lt_of_pos _ (by omega)
  have e : ixN (ns.map V.int).length (k % (ns.length : Int)) = some (k % (ns.length : Int)).toNat := by
    unfold ixN
    rw [List.length_map, if_pos h1, if_pos h2]
  refine ⟨ns[(k % (ns.length : Int)).toNat]'(by omega), ?_, _, e⟩
  unfold atI
  rw [e]
  show (ns.map V.int)[(k % (ns.length : Int)).toNat]? = _
  rw [List.getElem?_map, List.getElem?_eq_getElem (by omega)]
  rfl
end G
namespace G
open PySem PySem.Spec L2
/-- THE RULE for a def that may have defaults; all its places are given -/
theorem fnS_ofD {P : Program} {w : World} {K : PySem.W.Frag} {mg : Str → Option Value} {base : Heap} {x : Str} {st : Stmt} {N ps : List Str} {k : Nat} {S : SpD} {f : Addr} {fd : FuncData} {dvs : List V} {kws : List (Str × V)}
    (F : FunD K x x (defArgs st) (defBody st) (defScope st) dvs kws f fd) (hm : mg x = some (.ref f)) (Sc : FnScope N ps (defScope st)) (hn : ∀ ds Φ Ψ, S ds Φ Ψ → ds.length = ps.length)
    (hb : Binds K fd ps [])
    (body : ∀ (cdv : Value) (A : Around) (outer : List Env) (s : Shared) (H : Hp) (E : XK), Room k (A.deeper (PyProof.Rows.envOfC x (defScope st) s.heap.objs.size f cdv)) → ∀ ds Φ Ψ, S ds Φ Ψ →
      QS (cxOf (L2.CX P w) P w K mg base N x (defScope st) f cdv A outer s H E) Ψ (defBody st) (ds.map Sl.dat ++ List.replicate (N.length - ds.length) .emp) { nx := fun _ => Φ .non, rt := Φ }) :
    FnS P w K mg base x (k + 1) ps.length S := by
  refine ⟨hn, f, fd, ps, hm, F.kp, hb, F.ok Sc (fun vs H Q E h => h.1) fun cdv A outer s H vs Q E hr h => ⟨_, pss_w, ?_⟩⟩
  obtain ⟨_, Hi, ds, Φ, Ψ, sub, r, hS, hQ, hE⟩ := h
  exact body cdv A outer s H E hr ds Φ Ψ hS Hi H Hi H _ _ (fun cls d _ H' => E cls d H') (takes_of rfl rfl rfl rfl) (Gr.refl sub) (start_ok sub r) (fun y _ Hi' H' p q => hE y Hi' H' p q)
    ⟨fun ρ' Hi' H' σ' z g _ => hQ .non .non Hi' H' z g .non, fun v d Hi' H' z g r' => hQ v d Hi' H' z g r', fun _ _ _ _ z => z.elim, fun _ _ _ _ z => z.elim⟩
/-- all places given, one default -/
theorem binds_last {K : PySem.W.Frag} {x : Str} {params : Arguments} {body : List Stmt} {scope : Scope} {v : V} {f : Addr} {fd : FuncData} {ps : List Str} (F : FunD K x x params body scope [v] [] f fd)
    (h : ∀ (T : Addr) (kV doc pm : Value) (an : Option Addr) (cdv ct : Value) (us its : List Value), us.length = ps.length → its.length = 1 →
      ∃ k, bindArgs (PySem.W.fnOf x x params body scope (.ref T) kV doc pm an cdv ct) ⟨us, []⟩ = seqItems? (.ref T) >>= k ∧ k (some its.toArray) = pure (ps.zip (us ++ its.drop 1))) : Binds K fd ps [] := by
  obtain ⟨ds, hv, b⟩ := F.binds1 ps.length 1 (by simp) (by simp) h
  cases hv
  exact b
end G
namespace G
open PySem PySem.Spec L2
/-! ### is True, is False -/
theorem op_isB {X : L2.Cx} : OpR X (compareOp .Is) (fun x y H Q => ∃ k, y = .bl k ∧ Q (.bl (decide (x = .bl k))) H) := by
  intro pins s σ H x y v u Q I rx ry h
  obtain ⟨k, rfl, q⟩ := h
  cases ry
  show wpAny _ _ ((isSame v (Value.bool k)) >>= fun z => pure (Value.bool z)) _ _ s
  refine wpAny_bind (wpAny_isSame_plain ?_ (wpAny_pure (fin_bl I q ?_)))
  · cases x <;> first | (cases rx; rfl) | (obtain ⟨t, rfl⟩ := rx; rfl)
  · cases x <;> first | (cases rx; rfl) | (obtain ⟨t, rfl⟩ := rx; rfl) | skip
    rename_i b
    cases rx
    cases b <;> cases k <;> rfl
def D.isV (d : D) (k : Bool) : Bool := match d with
  | .bl b => b == k
  | _ => false
theorem Rp.isV {K : PySem.W.Frag} {H : Hp} {v : V} {d : D} (h : Rp K H v d) (k : Bool) : decide (v = V.bl k) = d.isV k := by
  cases h with
  | bl b => cases b <;> cases k <;> rfl
  | _ => exact decide_eq_false (fun e => nomatch e)
theorem od_isB {X : L2.Cx} : OpD X (fun x y H Q => ∃ k, y = .bl k ∧ Q (.bl (decide (x = .bl k))) H) (fun x y Φ => ∃ k, y = .bl k ∧ Φ (.bl (x.isV k))) := fun Hi H x y v u Φ s h r1 r2 Q q => by
  obtain ⟨k, e, z⟩ := h
  subst e
  cases r2
  exact ⟨k, rfl, by rw [r1.isV]; exact q _ _ Hi H z (Gr.refl s) (.bl _)⟩
section
variable {X : L2.Cx} {Ψ : Str → Prop} {ρ : List Sl} {a : Expr} {pos p : Pos} {j : Nat} {d : D} {k : Bool}
theorem qe_isB (h : QE X Ψ a ρ d) : QE X Ψ (.Compare a [.Is] [.Constant (.bool k) j p] pos) ρ (.bl (d.isV k)) := qx_cmp op_isB od_isB (nomark _) (h.to (qb.to ⟨k, rfl, rfl⟩))
theorem qt_isB (h : QE X Ψ a ρ d) : QB X Ψ (.Compare a [.Is] [.Constant (.bool k) j p] pos) ρ (d.isV k) := qt_cmp op_isB od_isB (nomark _) (h.to (qb.to ⟨k, rfl, _, rfl, rfl⟩))
end
end G

namespace G
/-! ### motions: plain laws -/
theorem tup_pt (a b c : Int) : D.tup [.int a, .int b, .int c] = Pt.d ⟨a, b, c⟩ := rfl
theorem tup_sh (a b : Int) : D.tup [.int a, .int b] = Sh.d ⟨a, b⟩ := rfl
theorem tup_mo (p q : Pt) (f : Int) : D.tup [p.d, q.d, .int f] = Mo.d ⟨p, q, f⟩ := rfl
theorem still_re : (Pt.mk 1 0 1).re = 1 := by unfold Pt.re; grind
theorem still_im : (Pt.mk 1 0 1).im = 0 := by unfold Pt.im; grind
theorem zero_re : (Pt.mk 0 0 1).re = 0 := by unfold Pt.re; grind
theorem zero_im : (Pt.mk 0 0 1).im = 0 := by unfold Pt.im; grind
section
variable {n k j : Nat} {m l r : Mo} {p q : Pt}
theorem jt_re (h : MOk n m) (hl : MOk k l) : (joined m l).t.re = l.t.re * m.t.re - l.t.im * (if l.f = 1 then -m.t.im else m.t.im) := by
  show (times l.t (if l.f = 1 then flipped m.t else m.t)).re = _
  rw [times_re hl.t.nz (fl_ok h.t).nz, fl_re, fl_im]
theorem jt_im (h : MOk n m) (hl : MOk k l) : (joined m l).t.im = l.t.re * (if l.f = 1 then -m.t.im else m.t.im) + l.t.im * m.t.re := by
  show (times l.t (if l.f = 1 then flipped m.t else m.t)).im = _
  rw [times_im hl.t.nz (fl_ok h.t).nz, fl_re, fl_im]
theorem js_re (h : MOk n m) (hl : MOk k l) : (joined m l).s.re = l.t.re * m.s.re - l.t.im * (if l.f = 1 then -m.s.im else m.s.im) + l.s.re := ledBy_re hl h.s
theorem js_im (h : MOk n m) (hl : MOk k l) : (joined m l).s.im = l.t.re * (if l.f = 1 then -m.s.im else m.s.im) + l.t.im * m.s.re + l.s.im := ledBy_im hl h.s
theorem j_f : (joined m l).f = (m.f + l.f) % 2 := rfl
theorem b_f (h : MOk n m) : (backOf m).f = m.f := by unfold backOf; rcases h.f with e | e <;> simp [e]
theorem bt_re : (backOf m).t.re = m.t.re := by unfold backOf; split <;> first | rfl | exact flipped_re
theorem bt_im : (backOf m).t.im = if m.f = 1 then m.t.im else -m.t.im := by unfold backOf; split <;> first | rfl | exact flipped_im
theorem bs_re (h : MOk n m) : (backOf m).s.re = if m.f = 1 then -(m.t.re * m.s.re + m.t.im * m.s.im) else -(m.t.re * m.s.re + m.t.im * m.s.im) := by
  have z : Ok 1 ⟨0, 0, 1⟩ := zero_ok (by decide)
  unfold backOf
  split
  · rw [minus_re z.nz (times_ok h.t (flipped_ok h.s)).nz, times_re h.t.nz (flipped_ok h.s).nz, flipped_re, flipped_im, zero_re]; grind
  · rw [minus_re z.nz (times_ok (flipped_ok h.t) h.s).nz, times_re (flipped_ok h.t).nz h.s.nz, flipped_re, flipped_im, zero_re]; grind
theorem bs_im (h : MOk n m) : (backOf m).s.im = if m.f = 1 then m.t.re * m.s.im - m.t.im * m.s.re else m.t.im * m.s.re - m.t.re * m.s.im := by
  have z : Ok 1 ⟨0, 0, 1⟩ := zero_ok (by decide)
  unfold backOf
  split
  · rw [minus_im z.nz (times_ok h.t (flipped_ok h.s)).nz, times_im h.t.nz (flipped_ok h.s).nz, flipped_re, flipped_im, zero_im]; grind
  · rw [minus_im z.nz (times_ok (flipped_ok h.t) h.s).nz, times_im (flipped_ok h.t).nz h.s.nz, flipped_re, flipped_im, zero_im]; grind
theorem join_back (h : MOk n m) : joined m (backOf m) = still := by
  have hb := backOf_ok h
  have u := h.unit
  refine mo_inj (joined_ok h hb) still_ok ?_ ?_ ?_ ?_ ?_
  · rw [jt_re h hb, bt_re, bt_im, b_f h]; show _ = (Pt.mk 1 0 1).re; rw [still_re]; split <;> grind
  · rw [jt_im h hb, bt_re, bt_im, b_f h]; show _ = (Pt.mk 1 0 1).im; rw [still_im]; split <;> grind
  · rw [js_re h hb, bt_re, bt_im, bs_re h, b_f h]; show _ = (Pt.mk 0 0 1).re; rw [zero_re]; split <;> grind
  · rw [js_im h hb, bt_re, bt_im, bs_im h, b_f h]; show _ = (Pt.mk 0 0 1).im; rw [zero_im]; split <;> grind
  · rw [j_f, b_f h]; show _ = (0 : Int); rcases h.f with e | e <;> rw [e] <;> rfl
theorem back_join (h : MOk n m) : joined (backOf m) m = still := by
  have hb := backOf_ok h
  have u := h.unit
  refine mo_inj (joined_ok hb h) still_ok ?_ ?_ ?_ ?_ ?_
  · rw [jt_re hb h, bt_re, bt_im]; show _ = (Pt.mk 1 0 1).re; rw [still_re]; split <;> grind
  · rw [jt_im hb h, bt_re, bt_im]; show _ = (Pt.mk 1 0 1).im; rw [still_im]; split <;> grind
  · rw [js_re hb h, bs_re h, bs_im h]; show _ = (Pt.mk 0 0 1).re; rw [zero_re]; split <;> grind
  · rw [js_im hb h, bs_re h, bs_im h]; show _ = (Pt.mk 0 0 1).im; rw [zero_im]; split <;> grind
  · rw [j_f, b_f h]; show _ = (0 : Int); rcases h.f with e | e <;> rw [e] <;> rfl
theorem back_back (h : MOk n m) : backOf (backOf m) = m := by
  have hb := backOf_ok h
  have u := h.unit
  refine mo_inj (backOf_ok hb) h ?_ ?_ ?_ ?_ ?_
  · rw [bt_re, bt_re]
  · rw [bt_im, bt_im, b_f h]; split <;> grind
  · rw [bs_re hb, bt_re, bt_im, bs_re h, bs_im h, b_f h]; split <;> grind
  · rw [bs_im hb, bt_re, bt_im, bs_re h, bs_im h, b_f h]; split <;> grind
  · rw [b_f hb, b_f h]
theorem join_still (h : MOk n m) : joined m still = m := by
  refine mo_inj (joined_ok h still_ok) h ?_ ?_ ?_ ?_ ?_
  · rw [jt_re h still_ok]; show (Pt.mk 1 0 1).re * _ - (Pt.mk 1 0 1).im * _ = _; rw [still_re, still_im]; grind
  · rw [jt_im h still_ok, if_neg (by decide)]; show (Pt.mk 1 0 1).re * _ + (Pt.mk 1 0 1).im * _ = _; rw [still_re, still_im]; grind
  · rw [js_re h still_ok]; show (Pt.mk 1 0 1).re * _ - (Pt.mk 1 0 1).im * _ + (Pt.mk 0 0 1).re = _; rw [still_re, still_im, zero_re]; grind
  · rw [js_im h still_ok, if_neg (by decide)]; show (Pt.mk 1 0 1).re * _ + (Pt.mk 1 0 1).im * _ + (Pt.mk 0 0 1).im = _; rw [still_re, still_im, zero_im]; grind
  · rw [j_f]; show (m.f + 0) % 2 = _; rcases h.f with e | e <;> rw [e] <;> rfl
theorem still_join (h : MOk n m) : joined still m = m := by
  refine mo_inj (joined_ok still_ok h) h ?_ ?_ ?_ ?_ ?_
  · rw [jt_re still_ok h]; show _ * (Pt.mk 1 0 1).re - _ * (if _ then -(Pt.mk 1 0 1).im else (Pt.mk 1 0 1).im) = _; rw [still_re, still_im]; split <;> grind
  · rw [jt_im still_ok h]; show _ * (if _ then -(Pt.mk 1 0 1).im else (Pt.mk 1 0 1).im) + _ * (Pt.mk 1 0 1).re = _; rw [still_re, still_im]; split <;> grind
  · rw [js_re still_ok h]; show _ * (Pt.mk 0 0 1).re - _ * (if _ then -(Pt.mk 0 0 1).im else (Pt.mk 0 0 1).im) + _ = _; rw [zero_re, zero_im]; split <;> grind
  · rw [js_im still_ok h]; show _ * (if _ then -(Pt.mk 0 0 1).im else (Pt.mk 0 0 1).im) + _ * (Pt.mk 0 0 1).re + _ = _; rw [zero_re, zero_im]; split <;> grind
  · rw [j_f]; show (0 + m.f) % 2 = _; rcases h.f with e | e <;> rw [e] <;> rfl
theorem parity {a b : Int} (h : a = 0 ∨ a = 1) (k : b = 0 ∨ b = 1) : ((a + b) % 2 = 1) ↔ ¬((a = 1) ↔ (b = 1)) := by omega
theorem join_led (h : MOk n m) (hl : MOk k l) (hp : Ok j p) : ledBy (joined m l) p = ledBy l (ledBy m p) := by
  have hj := joined_ok h hl
  have h1 := ledBy_ok h hp
  refine val_inj (ledBy_norm hj hp) (ledBy_norm hl h1) ?_ ?_
  · rw [ledBy_re hj hp, ledBy_re hl h1, ledBy_re h hp, ledBy_im h hp, jt_re h hl, jt_im h hl, js_re h hl, j_f]
    rcases h.f with e | e <;> rcases hl.f with e2 | e2 <;> simp [e, e2] <;> grind
  · rw [ledBy_im hj hp, ledBy_im hl h1, ledBy_re h hp, ledBy_im h hp, jt_re h hl, jt_im h hl, js_im h hl, j_f]
    rcases h.f with e | e <;> rcases hl.f with e2 | e2 <;> simp [e, e2] <;> grind
theorem join_assoc (h : MOk n m) (hl : MOk k l) (hr : MOk j r) : joined (joined m l) r = joined m (joined l r) := by
  have h1 := joined_ok h hl
  have h2 := joined_ok hl hr
  refine mo_inj (joined_ok h1 hr) (joined_ok h h2) ?_ ?_ ?_ ?_ ?_
  · rw [jt_re h1 hr, jt_re h h2, jt_re h hl, jt_im h hl, jt_re hl hr, jt_im hl hr, j_f]
    rcases hl.f with e | e <;> rcases hr.f with e2 | e2 <;> simp [e, e2] <;> grind
  · rw [jt_im h1 hr, jt_im h h2, jt_re h hl, jt_im h hl, jt_re hl hr, jt_im hl hr, j_f]
    rcases hl.f with e | e <;> rcases hr.f with e2 | e2 <;> simp [e, e2] <;> grind
  · rw [js_re h1 hr, js_re h h2, js_re h hl, js_im h hl, jt_re hl hr, jt_im hl hr, js_re hl hr, j_f]
    rcases hl.f with e | e <;> rcases hr.f with e2 | e2 <;> simp [e, e2] <;> grind
  · rw [js_im h1 hr, js_im h h2, js_re h hl, js_im h hl, jt_re hl hr, jt_im hl hr, js_im hl hr, j_f]
    rcases hl.f with e | e <;> rcases hr.f with e2 | e2 <;> simp [e, e2] <;> grind
  · show ((m.f + l.f) % 2 + r.f) % 2 = (m.f + (l.f + r.f) % 2) % 2; omega
theorem still_led (hp : Ok j p) (hn : Norm p) : ledBy still p = p := by
  refine val_inj (ledBy_norm still_ok hp) hn ?_ ?_
  · rw [ledBy_re still_ok hp]; show (Pt.mk 1 0 1).re * _ - (Pt.mk 1 0 1).im * _ + (Pt.mk 0 0 1).re = _; rw [still_re, still_im, zero_re]; grind
  · rw [ledBy_im still_ok hp, if_neg (by decide)]; show (Pt.mk 1 0 1).re * _ + (Pt.mk 1 0 1).im * _ + (Pt.mk 0 0 1).im = _; rw [still_re, still_im, zero_im]; grind
theorem back_led (h : MOk n m) (hp : Ok j p) (hn : Norm p) : ledBy (backOf m) (ledBy m p) = p := by
  rw [← join_led h (backOf_ok h) hp, join_back h, still_led hp hn]
theorem led_back (h : MOk n m) (hp : Ok j p) (hn : Norm p) : ledBy m (ledBy (backOf m) p) = p := by
  rw [← join_led (backOf_ok h) h hp, back_join h, still_led hp hn]
theorem led_gap (h : MOk n m) (hp : Ok j p) (hq : Ok k q) : gap (ledBy m p) (ledBy m q) = gap p q := by
  have h1 := ledBy_ok h hp
  have h2 := ledBy_ok h hq
  have u := h.unit
  refine sh_inj (gap_norm h1 h2) (gap_norm hp hq) ?_
  rw [gap_val h1 h2, gap_val hp hq, ledBy_re h hp, ledBy_re h hq, ledBy_im h hp, ledBy_im h hq]
  split <;> grind
theorem gap_swap (hp : Ok j p) (hq : Ok k q) : gap p q = gap q p := sh_inj (gap_norm hp hq) (gap_norm hq hp) (by rw [gap_val hp hq, gap_val hq hp]; grind)
theorem one_pt : size (Pt.mk 1 0 1) = ⟨1, 1⟩ := by decide +kernel
theorem one_norm : Norm (Pt.mk 1 0 1) := ⟨by decide, by decide +kernel⟩
theorem one_ok {n : Nat} (h : 0 < n) : Ok n (Pt.mk 1 0 1) := ⟨by unfold Bn; exact Nat.one_lt_pow (by omega) (by decide), by unfold Bn; exact Nat.pow_pos (by decide), by unfold Bn; exact Nat.one_lt_pow (by omega) (by decide), by show (0 : Int) < 1; decide⟩
/-- the shift from p to q -/
abbrev shiftOf (p q : Pt) : Mo := ⟨⟨1, 0, 1⟩, minus q p, 0⟩
theorem shift_ok (hp : Ok j p) (hq : Ok k q) : MOk (k + j + 1) (shiftOf p q) := ⟨one_ok (by omega), minus_ok hq hp, one_norm, minus_norm hq.nz hp.nz, one_pt, .inl rfl⟩
theorem shift_led (hp : Ok j p) (hq : Ok k q) (nq : Norm q) : ledBy (shiftOf p q) p = q := by
  have h := shift_ok hp hq
  refine val_inj (ledBy_norm h hp) nq ?_ ?_
  · rw [ledBy_re h hp]; show (Pt.mk 1 0 1).re * _ - (Pt.mk 1 0 1).im * _ + (minus q p).re = _; rw [still_re, still_im, minus_re hq.nz hp.nz]; grind
  · rw [ledBy_im h hp, if_neg (show ¬ ((0 : Int) = 1) by decide)]; show (Pt.mk 1 0 1).re * _ + (Pt.mk 1 0 1).im * _ + (minus q p).im = _; rw [still_re, still_im, minus_im hq.nz hp.nz]; grind
/-- the turn about p -/
abbrev turnOf (p t : Pt) : Mo := ⟨t, minus p (times t p), 0⟩
theorem turn_ok {t : Pt} (hp : Ok j p) (ht : Ok k t) (nt : Norm t) (h1 : size t = ⟨1, 1⟩) : MOk (k + 2 * j + 2) (turnOf p t) :=
  ⟨ht.mono (by omega), (minus_ok hp (times_ok ht hp)).mono (by omega), nt, minus_norm hp.nz (times_ok ht hp).nz, h1, .inl rfl⟩
theorem turn_led {t : Pt} (hp : Ok j p) (np : Norm p) (ht : Ok k t) (nt : Norm t) (h1 : size t = ⟨1, 1⟩) : ledBy (turnOf p t) p = p := by
  have h := turn_ok hp ht nt h1
  refine val_inj (ledBy_norm h hp) np ?_ ?_
  · rw [ledBy_re h hp, if_neg (show ¬ ((0 : Int) = 1) by decide)]; show t.re * _ - t.im * _ + (minus p (times t p)).re = _; rw [minus_re hp.nz (times_ok ht hp).nz, times_re ht.nz hp.nz]; grind
  · rw [ledBy_im h hp, if_neg (show ¬ ((0 : Int) = 1) by decide)]; show t.re * _ + t.im * _ + (minus p (times t p)).im = _; rw [minus_im hp.nz (times_ok ht hp).nz, times_im ht.nz hp.nz]; grind
theorem turn_gap {t : Pt} {i : Nat} (hp : Ok j p) (np : Norm p) (ht : Ok k t) (nt : Norm t) (h1 : size t = ⟨1, 1⟩) (hq : Ok i q) : gap (ledBy (turnOf p t) q) p = gap q p := by
  have e := led_gap (turn_ok hp ht nt h1) hq hp
  rw [turn_led hp np ht nt h1] at e
  exact e
end
end G
namespace G
open PySem PySem.Spec L2 in
theorem deq_bl (a b : Bool) : deq (.bl a) (.bl b) = decide (a = b) := by
  cases a <;> cases b <;> (show PyData.eqv (.bool _) (.bool _) = _; unfold PyData.eqv; decide)
theorem MOk.shp {n : Nat} {m : Mo} (_ : MOk n m) : D.shp 8 m.d = true := shp_mo 6 m
end G

namespace G
open PySem PySem.Spec L2
/-! ### the end -/
/-- .. for the law itself -/
theorem fnOk_of {P : Program} {w : World} {K : PySem.W.Frag} {mg : Str → Option Value} {base : Heap} {x : Str} {st : Stmt} {N ps : List Str} {k : Nat} {S : SpD} {f : Addr} {fd : FuncData}
    (F : FunD K x x (defArgs st) (defBody st) (defScope st) [] [] f fd) (hm : mg x = some (.ref f)) (Sc : FnScope N ps (defScope st)) (hn : ∀ ds Φ Ψ, S ds Φ Ψ → ds.length = ps.length)
    (hb : ∀ (kV doc pm : Value) (an : Option Addr) (cdv ct : Value) (us : List Value), us.length = ps.length → bindArgs (PySem.W.fnOf x x (defArgs st) (defBody st) (defScope st) .none kV doc pm an cdv ct) ⟨us, []⟩ = pure (ps.zip us))
    (body : ∀ (cdv : Value) (A : Around) (outer : List Env) (s : Shared) (H : Hp) (E : XK), Room k (A.deeper (PyProof.Rows.envOfC x (defScope st) s.heap.objs.size f cdv)) → ∀ ds Φ Ψ, S ds Φ Ψ →
      QS (cxOf (L2.CX P w) P w K mg base N x (defScope st) f cdv A outer s H E) Ψ (defBody st) (ds.map Sl.dat ++ List.replicate (N.length - ds.length) .emp) { nx := fun _ => Φ .non, rt := Φ }) :
    FnOk P w K mg base (L2.CX P w) (k + 1) f fd ps (spD K ps.length S) := by
  refine F.ok Sc (fun vs H Q E h => h.1) fun cdv A outer s H vs Q E hr h => ⟨_, pss_w, ?_⟩
  obtain ⟨_, Hi, ds, Φ, Ψ, sub, r, hS, hQ, hE⟩ := h
  exact body cdv A outer s H E hr ds Φ Ψ hS Hi H Hi H _ _ (fun cls d _ H' => E cls d H') (takes_of rfl rfl rfl rfl) (Gr.refl sub) (start_ok sub r) (fun y _ Hi' H' p q => hE y Hi' H' p q)
    ⟨fun ρ' Hi' H' σ' z g _ => hQ .non .non Hi' H' z g .non, fun v d Hi' H' z g r' => hQ v d Hi' H' z g r', fun _ _ _ _ z => z.elim, fun _ _ _ _ z => z.elim⟩
/-- what the law promises: True, for each script -/
def spEnd (K : PySem.W.Frag) : Sp := fun vs H Q _ => ∃ (a : Addr) (ns : List Int), vs = [.ref a] ∧ SqL K H a (ns.map V.int) ∧ ns.length ≤ 63 ∧ ∀ H', Q (.bl true) H'
theorem fin_law {P : Program} {w : World} {K : PySem.W.Frag} {mg : Str → Option Value} {base : Heap} {k : Nat} {f : Addr} {fd : FuncData} {ps : List Str} {S : SpD}
    (F : FnOk P w K mg base (L2.CX P w) k f fd ps (spD K 1 S)) (hl : ps.length = 1) (hS : S [.opq 1] (fun z => z = .bl true) (fun _ => False)) : FnOk P w K mg base CX0 k f fd ps (spEnd K) := by
  refine ⟨fun vs H Q E h => ?_, fun A outer s H args us vs Q E hr he hb hv h => ?_⟩
  · obtain ⟨a, ns, rfl, _⟩ := h
    rw [hl]; rfl
  · obtain ⟨a, ns, rfl, hs, hn, hq⟩ := h
    refine codeAny_mono (F.run A outer s H args us [.ref a] Q (fun _ _ _ => False) hr he hb hv ⟨rfl, H, [.opq 1], _, _, Ex.refl _, .cons (.scr hs hn) .nil, hS, fun v d Hi' H' z _ r => ?_, fun x Hi' H' z _ => z.elim⟩) fun r s' q => ?_
    · subst z
      cases r
      exact hq H'
    · cases r with
      | ok fl => cases fl <;> exact q
      | error e =>
        obtain ⟨_, _, _, _, _, _, _, _, _, _, _, _, z⟩ := q
        exact z.elim
/-! constants of the text -/
mutual
def cB (K : PySem.W.Frag) : D → Value → Bool
  | .int i, .int j _ => decide (i = j)
  | .tup ds, .ref a => (match K.lookup a with
    | some ⟨.type c, _, .seq its _, _⟩ => decide (c = "tuple") && (decide (its.size ≤ sizeLine) && cBA K ds its.toList)
    | _ => false)
  | _, _ => false
def cBA (K : PySem.W.Frag) : List D → List Value → Bool
  | [], [] => true
  | d :: ds, u :: us => cB K d u && cBA K ds us
  | _, _ => false
end
mutual
theorem cB_ok {K : PySem.W.Frag} : ∀ (d : D) (u : Value), cB K d u = true → ∃ v, RelV v u ∧ ∀ H, Rp K H v d
  | .int i, u, h => by
    cases u with
    | int j t =>
      have e : i = j := of_decide_eq_true h
      exact ⟨.int i, ⟨t, by rw [e]⟩, fun H => .int i⟩
    | _ => cases h
  | .tup ds, u, h => by
    cases u with
    | ref a =>
      have h1 : (match K.lookup a with
        | some ⟨.type c, _, .seq its _, _⟩ => decide (c = "tuple") && (decide (its.size ≤ sizeLine) && cBA K ds its.toList)
        | _ => false) = true := h
      cases q : K.lookup a with
      | none => rw [q] at h1; cases h1
      | some o =>
        obtain ⟨oc, od, dt, osl⟩ := o
        rw [q] at h1
        cases oc with
        | type c =>
          cases dt with
          | seq its n =>
            have h2 : (decide (c = "tuple") && (decide (its.size ≤ sizeLine) && cBA K ds its.toList)) = true := h1
            rw [Bool.and_eq_true, Bool.and_eq_true] at h2
            obtain ⟨e1, e2, e3⟩ := h2
            obtain ⟨vs, hv, hr⟩ := cBA_ok ds its.toList e3
            exact ⟨.ref a, rfl, fun H => .tup (.inr ⟨_, its, n, q, congrArg Value.type (of_decide_eq_true e1), rfl, of_decide_eq_true e2, hv⟩) (hr H)⟩
          | _ => cases h1
        | _ => cases dt <;> cases h1
    | _ => cases h
  | .non, u, h => by cases u <;> cases h
  | .bl _, u, h => by cases u <;> cases h
  | .str _, u, h => by cases u <;> cases h
  | .lst _, u, h => by cases u <;> cases h
  | .opq _, u, h => by cases u <;> cases h
theorem cBA_ok {K : PySem.W.Frag} : ∀ (ds : List D) (us : List Value), cBA K ds us = true → ∃ vs, Vals vs us ∧ ∀ H, RpA K H vs ds
  | [], [], _ => ⟨[], .nil, fun _ => .nil⟩
  | [], _ :: _, h => by cases h
  | _ :: _, [], h => by cases h
  | d :: ds, u :: us, h => by
    have h' : (cB K d u && cBA K ds us) = true := h
    rw [Bool.and_eq_true] at h'
    obtain ⟨v, r, z⟩ := cB_ok d u h'.1
    obtain ⟨vs, rs, zs⟩ := cBA_ok ds us h'.2
    exact ⟨v :: vs, .cons r rs, fun H => .cons (z H) (zs H)⟩
end
/-- the module's constants -/
def csB (cs : List (Str × D)) (K : PySem.W.Frag) : Bool := cs.all fun q => cB K q.2 (.ref (He.ga K q.1))
abbrev AlG : Type := Bool × He.AlD
def obsG (cs : List (Str × D)) (fa : List He.Fa) (fn : List He.DefD) (K : PySem.W.Frag) : AlG := (csB cs K, He.obsD fa fn K)
def obsGG (n : Nat) (cs : List (Str × D)) (fa : List He.Fa) (fn : List He.DefD) (g : Addr → Option Obj) : AlG := obsG cs fa fn (He.frG g (He.asD g n))
def SaysG (cs : List (Str × D)) (fa : List He.Fa) (fn : List He.DefD) (K : PySem.W.Frag) : Prop := csB cs K = true ∧ He.SaysD fa fn K
def hookG (n : Nat) (cs : List (Str × D)) (fa : List He.Fa) (fn : List He.DefD) : PySem.W.Hook where
  α := AlG
  obs := fun s => obsGG n cs fa fn s.heap.get?
  val := fun _ => (true, He.valD fn)
  says := fun _ h => ∃ K : PySem.W.Frag, K.In h ∧ SaysG cs fa fn K
  of := fun _ _ e => ⟨_, He.frG_in, congrArg (fun z : AlG => z.1) e, congrArg (fun z : AlG => z.2) e⟩
  keeps := fun _ _ _ ⟨K, hK, c⟩ k => ⟨K, PySem.W.Frag.In.keeps hK k, c⟩
theorem obsGG_eq {n : Nat} {cs : List (Str × D)} {fa : List He.Fa} {fn : List He.DefD} {g : Addr → Option Obj} {s : Shared} (h : ∀ a, g a = s.heap.get? a) : obsGG n cs fa fn g = (hookG n cs fa fn).obs s := by
  have e : g = s.heap.get? := funext h
  rw [e] <;> rfl
section
variable {cs : List (Str × D)} {fa : List He.Fa} {fn : List He.DefD} {K : PySem.W.Frag} {h : Heap} {mg : Str → Option Value}
theorem cst_of (c : csB cs K = true) (i : Nat) {x : Str} {d : D} (hi : cs[i]? = some (x, d)) (hm : mg x = some (.ref (He.ga K x))) : CstT K mg x d := by
  obtain ⟨v, r, z⟩ := cB_ok d _ (List.all_eq_true.mp c (x, d) (List.mem_of_getElem? hi))
  refine ⟨He.ga K x, hm, fun H => ?_⟩
  have e : v = .ref (He.ga K x) := by
    cases v with
    | ref a => cases r; rfl
    | int i => obtain ⟨t, r⟩ := r; cases r
    | str i => obtain ⟨t, r⟩ := r; cases r
    | byt i => obtain ⟨t, r⟩ := r; cases r
    | flt i => obtain ⟨t, r⟩ := r; cases r
    | _ => cases r
  rw [← e]
  exact z H
theorem exc_of (X : K.In h) (Gn : h.Ns mainGlobals mg) {x : Str} (c1 : (He.Fa.glo x).ok K = true) (c2 : (He.Fa.exc x).ok K = true) : ExcF K mg x := by
  obtain ⟨a, b, c, d⟩ := He.exc_ok c2
  exact ⟨He.glo_ok X Gn c1, a, b, c, d⟩
end
end G

namespace G
/-! ### sums -/
def plusSh (a b : Sh) : Sh := shr (a.t * b.b + b.t * a.b) (a.b * b.b)
theorem SOk.nz {n : Nat} {a : Sh} (h : SOk n a) : a.b ≠ 0 := by have := h.pos; omega
theorem plusSh_ok {n m : Nat} {a b : Sh} (h : SOk n a) (k : SOk m b) : SOk (n + m + 1) (plusSh a b) := (shr_ok ((h.t.mul k.b).add (k.t.mul h.b)) (h.b.mul k.b) (mulnz h.nz k.nz)).mono (by omega)
theorem plusSh_norm {n m : Nat} {a b : Sh} (h : SOk n a) (k : SOk m b) : (plusSh a b).Norm := shr_norm (mulnz h.nz k.nz)
theorem plusSh_val {a b : Sh} (h : a.b ≠ 0) (k : b.b ≠ 0) : (plusSh a b).val = a.val + b.val := by
  have h1 := castne h; have h2 := castne k
  unfold plusSh; rw [shr_val (mulnz h k)]; unfold Sh.val
  simp only [Rat.intCast_add, Rat.intCast_mul]; grind
theorem nought_ok {n : Nat} (h : 0 < n) : SOk n ⟨0, 1⟩ := ⟨by unfold Bn; exact Nat.pow_pos (by decide), by unfold Bn; exact Nat.one_lt_pow (by omega) (by decide), by show (0 : Int) < 1; decide⟩
theorem nought_norm : Sh.Norm ⟨0, 1⟩ := ⟨by decide, by decide⟩
theorem nought_val : Sh.val ⟨0, 1⟩ = 0 := by unfold Sh.val; grind
def sumS (l : List Sh) : Sh := l.foldl plusSh ⟨0, 1⟩
def sumP (l : List Pt) : Pt := l.foldl plus ⟨0, 0, 1⟩
def rsum : List Rat → Rat
  | [] => 0
  | x :: xs => x + rsum xs
theorem rsum_app : ∀ a b : List Rat, rsum (a ++ b) = rsum a + rsum b
  | [], b => by show rsum b = 0 + rsum b; grind
  | x :: a, b => by show x + rsum (a ++ b) = x + rsum a + rsum b; rw [rsum_app a b]; grind
theorem fold_take {α β : Type} (f : β → α → β) (z : β) {l : List α} {i : Nat} {x : α} (h : l[i]? = some x) : (l.take (i + 1)).foldl f z = f ((l.take i).foldl f z) x := by
  rw [List.take_succ, h]; simp
theorem foldS_ok {n : Nat} : ∀ {l : List Sh} {k : Nat} {z : Sh}, SOk k z → (∀ a ∈ l, SOk n a) → SOk (k + l.length * (n + 1)) (l.foldl plusSh z)
  | [], k, z, hz, _ => by simpa using hz
  | a :: l, k, z, hz, h => by
    have := foldS_ok (l := l) (plusSh_ok hz (h a List.mem_cons_self)) fun b hb => h b (List.mem_cons_of_mem _ hb)
    rw [List.length_cons, Nat.succ_mul]
    exact SOk.mono this (by omega)
theorem foldS_norm {n : Nat} : ∀ {l : List Sh} {k : Nat} {z : Sh}, SOk k z → z.Norm → (∀ a ∈ l, SOk n a) → (l.foldl plusSh z).Norm
  | [], k, z, hz, hn, _ => hn
  | a :: l, k, z, hz, hn, h => foldS_norm (l := l) (plusSh_ok hz (h a List.mem_cons_self)) (plusSh_norm hz (h a List.mem_cons_self)) fun b hb => h b (List.mem_cons_of_mem _ hb)
theorem foldS_val {n : Nat} : ∀ {l : List Sh} {k : Nat} {z : Sh}, SOk k z → (∀ a ∈ l, SOk n a) → (l.foldl plusSh z).val = z.val + rsum (l.map Sh.val)
  | [], k, z, hz, _ => by show z.val = z.val + 0; grind
  | a :: l, k, z, hz, h => by
    show (l.foldl plusSh (plusSh z a)).val = z.val + (a.val + rsum (l.map Sh.val))
    rw [foldS_val (l := l) (plusSh_ok hz (h a List.mem_cons_self)) fun b hb => h b (List.mem_cons_of_mem _ hb), plusSh_val hz.nz (h a List.mem_cons_self).nz]; grind
theorem sumS_ok {n : Nat} {l : List Sh} (h : ∀ a ∈ l, SOk n a) : SOk (1 + l.length * (n + 1)) (sumS l) := foldS_ok (nought_ok (by decide)) h
theorem sumS_norm {n : Nat} {l : List Sh} (h : ∀ a ∈ l, SOk n a) : (sumS l).Norm := foldS_norm (nought_ok (n := 1) (by decide)) nought_norm h
theorem sumS_val {n : Nat} {l : List Sh} (h : ∀ a ∈ l, SOk n a) : (sumS l).val = rsum (l.map Sh.val) := by
  unfold sumS; rw [foldS_val (nought_ok (n := 1) (by decide)) h, nought_val]; grind
theorem foldP_ok {n : Nat} : ∀ {l : List Pt} {k : Nat} {z : Pt}, Ok k z → (∀ a ∈ l, Ok n a) → Ok (k + l.length * (n + 1)) (l.foldl plus z)
  | [], k, z, hz, _ => by simpa using hz
  | a :: l, k, z, hz, h => by
    have := foldP_ok (l := l) (plus_ok hz (h a List.mem_cons_self)) fun b hb => h b (List.mem_cons_of_mem _ hb)
    rw [List.length_cons, Nat.succ_mul]
    exact Ok.mono this (by omega)
theorem foldP_re {n : Nat} : ∀ {l : List Pt} {k : Nat} {z : Pt}, Ok k z → (∀ a ∈ l, Ok n a) → (l.foldl plus z).re = z.re + rsum (l.map Pt.re)
  | [], k, z, hz, _ => by show z.re = z.re + 0; grind
  | a :: l, k, z, hz, h => by
    show (l.foldl plus (plus z a)).re = z.re + (a.re + rsum (l.map Pt.re))
    rw [foldP_re (l := l) (plus_ok hz (h a List.mem_cons_self)) fun b hb => h b (List.mem_cons_of_mem _ hb), plus_re hz.nz (h a List.mem_cons_self).nz]; grind
theorem foldP_im {n : Nat} : ∀ {l : List Pt} {k : Nat} {z : Pt}, Ok k z → (∀ a ∈ l, Ok n a) → (l.foldl plus z).im = z.im + rsum (l.map Pt.im)
  | [], k, z, hz, _ => by show z.im = z.im + 0; grind
  | a :: l, k, z, hz, h => by
    show (l.foldl plus (plus z a)).im = z.im + (a.im + rsum (l.map Pt.im))
    rw [foldP_im (l := l) (plus_ok hz (h a List.mem_cons_self)) fun b hb => h b (List.mem_cons_of_mem _ hb), plus_im hz.nz (h a List.mem_cons_self).nz]; grind
theorem sumP_ok {n : Nat} {l : List Pt} (h : ∀ a ∈ l, Ok n a) : Ok (1 + l.length * (n + 1)) (sumP l) := foldP_ok (zero_ok (by decide)) h
theorem sumP_re {n : Nat} {l : List Pt} (h : ∀ a ∈ l, Ok n a) : (sumP l).re = rsum (l.map Pt.re) := by unfold sumP; rw [foldP_re (zero_ok (n := 1) (by decide)) h, zero_re]; grind
theorem sumP_im {n : Nat} {l : List Pt} (h : ∀ a ∈ l, Ok n a) : (sumP l).im = rsum (l.map Pt.im) := by unfold sumP; rw [foldP_im (zero_ok (n := 1) (by decide)) h, zero_im]; grind
def meanOf (l : List Pt) : Pt := low (sumP l).x (sumP l).y ((sumP l).w * l.length)
theorem len_nz {α : Type} {l : List α} (h : l ≠ []) : (l.length : Int) ≠ 0 := by
  have := List.length_pos_iff.mpr h
  omega
theorem bn_len {α : Type} {l : List α} (h : l.length ≤ 14) : Bn 4 (l.length : Int) := by unfold Bn; omega
theorem meanOf_ok {n : Nat} {l : List Pt} (h : ∀ a ∈ l, Ok n a) (hl : l ≠ []) (h14 : l.length ≤ 14) : Ok (5 + l.length * (n + 1)) (meanOf l) :=
  (low_ok (sumP_ok h).x (sumP_ok h).y ((sumP_ok h).w.mul (bn_len h14)) (mulnz (sumP_ok h).nz (len_nz hl))).mono (by omega)
theorem meanOf_norm {n : Nat} {l : List Pt} (h : ∀ a ∈ l, Ok n a) (hl : l ≠ []) : Norm (meanOf l) := low_norm (mulnz (sumP_ok h).nz (len_nz hl))
theorem meanOf_re {n : Nat} {l : List Pt} (h : ∀ a ∈ l, Ok n a) (hl : l ≠ []) : (meanOf l).re * (l.length : Rat) = rsum (l.map Pt.re) := by
  have h1 := castne (sumP_ok h).nz
  have h2 := castne (len_nz hl)
  rw [← sumP_re h]
  unfold meanOf; rw [low_re (mulnz (sumP_ok h).nz (len_nz hl))]; unfold Pt.re
  have e : (((l.length : Nat) : Int) : Rat) = (l.length : Rat) := by norm_cast
  simp only [Rat.intCast_mul]
  rw [← e]
  grind
theorem meanOf_im {n : Nat} {l : List Pt} (h : ∀ a ∈ l, Ok n a) (hl : l ≠ []) : (meanOf l).im * (l.length : Rat) = rsum (l.map Pt.im) := by
  have h1 := castne (sumP_ok h).nz
  have h2 := castne (len_nz hl)
  rw [← sumP_im h]
  unfold meanOf; rw [low_im (mulnz (sumP_ok h).nz (len_nz hl))]; unfold Pt.im
  have e : (((l.length : Nat) : Int) : Rat) = (l.length : Rat) := by norm_cast
  simp only [Rat.intCast_mul]
  rw [← e]
  grind
end G
namespace G
open PySem PySem.Spec L2
def zd (q : Pt × Pt) : D := .tup [q.1.d, q.2.d]
theorem zip_zd : ∀ (l m : List Pt), zipD (l.map Pt.d) (m.map Pt.d) = (l.zip m).map zd
  | [], _ => rfl
  | _ :: _, [] => rfl
  | a :: l, b :: m => by
    show zd (a, b) :: zipD (l.map Pt.d) (m.map Pt.d) = zd (a, b) :: (l.zip m).map zd
    rw [zip_zd l m]
theorem lcq_zipT {X : L2.Cx} {ρ : List Sl} {Φ : D → Prop} {scope : Scope} {vs : List Nat} {tg elt : Expr} (g : Pt × Pt → D) {l m : List Pt} (hl : (l.zip m).length ≤ 100000)
    (ht : ∀ q, q ∈ l.zip m → ∃ ρ', QGb X scope vs tg (zd q) (wipeS ρ vs) ρ' ∧ ∀ s H C cl fp, QE (BlkX X scope s H C cl fp) (fun _ => False) elt ρ' (g q))
    (k : Φ (.lst ((l.zip m).map g))) : LcQ X scope vs tg elt [] ρ (zipD (l.map Pt.d) (m.map Pt.d)) (fun i acc => acc = ((l.zip m).take i).map g) Φ := by
  rw [zip_zd]
  exact lcq_mapT zd g hl ht k
def costOf (l m : List Pt) : Sh := sumS ((l.zip m).map fun q => gap q.1 q.2)
def behind (f : Pt → Pt) (l m : List Pt) : Sh := sumS ((l.zip m).map fun q => gap (f q.1) q.2)
def shiftTo (l m : List Pt) : Pt := minus (meanOf m) (meanOf l)
/-- a list of points, one to fourteen -/
def prB : D → Bool
  | .lst xs => decide (1 ≤ xs.length) && (decide (xs.length ≤ 14) && xs.all isPt)
  | _ => false
def lenD : D → Nat
  | .lst xs => xs.length
  | _ => 0
theorem prB_pts {l : List Pt} (h : ∀ p ∈ l, Norm p) (h0 : l ≠ []) (h1 : l.length ≤ 14) : prB (.lst (l.map Pt.d)) = true := by
  show (decide (1 ≤ (l.map Pt.d).length) && (decide ((l.map Pt.d).length ≤ 14) && (l.map Pt.d).all isPt)) = true
  have := List.length_pos_iff.mpr h0
  rw [List.length_map, decide_eq_true (show 1 ≤ l.length by omega), decide_eq_true h1, List.all_map]
  simp only [Bool.true_and]
  exact List.all_eq_true.mpr fun p hp => isPt_yes (h p hp)
theorem shp_pts {l : List Pt} : D.shp 8 (.lst (l.map Pt.d)) = true := by
  rw [shp_lst]; exact shpA_all fun d hd => by obtain ⟨p, _, rfl⟩ := List.mem_map.mp hd; exact shp_pt 6 p
theorem mem_zip_of {l m : List Pt} {q : Pt × Pt} (h : q ∈ l.zip m) : q.1 ∈ l ∧ q.2 ∈ m := ⟨(List.of_mem_zip h).1, (List.of_mem_zip h).2⟩
theorem zip_le {l m : List Pt} (h : l.length ≤ 14) : (l.zip m).length ≤ 14 := by rw [List.length_zip]; omega
end G
namespace G
open PySem PySem.Spec L2
/-- a <= b <= c as a test -/
theorem qt_le2 {X : L2.Cx} {Ψ : Str → Prop} {ρ : List Sl} {a b c : Expr} {pos : Pos} {i j k : Int} (ha : QE X Ψ a ρ (.int i)) (hb : QE X Ψ b ρ (.int j)) (hc : i ≤ j → QE X Ψ c ρ (.int k)) (hlm : lastMarks [CmpOp.LtE, CmpOp.LtE] [b, c] = false := by rfl) : QB X Ψ (.Compare a [.LtE, .LtE] [b, c] pos) ρ (decide (i ≤ j) && decide (j ≤ k)) :=
  fun B Hi H σ W tk S rs Q q => wT.of (pt_chain op_le op_le pe_w pe_w pe_w hlm) (ha B Hi H σ W tk S rs _ fun v1 d1 Hi1 H1 e1 g1 r1 => hb B Hi1 H1 σ W tk (S.grow g1) (rs.grow g1) _ fun v2 d2 Hi2 H2 e2 g2 r2 => by
    subst e1 e2
    cases r1; cases r2
    refine ⟨i, j, rfl, rfl, decide (i ≤ j), rfl, ?_⟩
    by_cases h : i ≤ j
    · rw [decide_eq_true h, if_pos rfl]
      refine hc h B Hi2 H2 σ W tk ((S.grow g1).grow g2) ((rs.grow g1).grow g2) _ fun v3 d3 Hi3 H3 e3 g3 r3 => ?_
      subst e3
      cases r3
      have q2 := q (decide (j ≤ k)) Hi3 H3 (by rw [decide_eq_true h, Bool.true_and]) ((g1.trans g2).trans g3)
      exact ⟨j, k, rfl, rfl, _, rfl, q2⟩
    · rw [decide_eq_false h, if_neg (by decide)]
      exact ⟨_, rfl, q false Hi2 H2 (by rw [decide_eq_false h, Bool.false_and]) (g1.trans g2)⟩)
end G
namespace G
theorem prs {l m : List Pt} (nl : ∀ p ∈ l, Norm p) (nm : ∀ p ∈ m, Norm p) (e : l.length = m.length) (h0 : l ≠ []) (h1 : l.length ≤ 14) : prB (.lst (l.map Pt.d)) = true ∧ prB (.lst (m.map Pt.d)) = true ∧ lenD (.lst (l.map Pt.d)) = lenD (.lst (m.map Pt.d)) :=
  ⟨prB_pts nl h0 h1, prB_pts nm (fun h => h0 (List.length_eq_zero_iff.mp (by rw [e, h]; rfl))) (by omega), by show (l.map Pt.d).length = (m.map Pt.d).length; simp [e]⟩
end G
namespace G
/-! the sums as the laws make them -/
def rawS (l : List Sh) : Int × Int := l.foldl (fun z a => (z.1 * a.b + a.t * z.2, z.2 * a.b)) (0, 1)
theorem rawF {n : Nat} : ∀ {l : List Sh} {k : Nat} {z : Int × Int}, Bn k z.1 → Bn k z.2 → 0 < z.2 → (∀ a ∈ l, SOk n a) →
    let r := l.foldl (fun z a => (z.1 * a.b + a.t * z.2, z.2 * a.b)) z
    Bn (k + l.length * (n + 1)) r.1 ∧ Bn (k + l.length * (n + 1)) r.2 ∧ 0 < r.2 ∧ (r.1 : Rat) / (r.2 : Rat) = (z.1 : Rat) / (z.2 : Rat) + rsum (l.map Sh.val)
  | [], k, z, h1, h2, h3, _ => by
    refine ⟨by simpa using h1, by simpa using h2, h3, ?_⟩
    show _ = _ + (0 : Rat); grind
  | a :: l, k, z, h1, h2, h3, h => by
    have ha := h a List.mem_cons_self
    obtain ⟨r1, r2, r3, r4⟩ := rawF (l := l) (k := k + n + 1) (z := (z.1 * a.b + a.t * z.2, z.2 * a.b)) (((h1.mul ha.b).add (ha.t.mul h2)).mono (by omega)) ((h2.mul ha.b).mono (by omega)) (Int.mul_pos h3 ha.pos) fun b hb => h b (List.mem_cons_of_mem _ hb)
    rw [List.length_cons, Nat.succ_mul]
    refine ⟨r1.mono (by omega), r2.mono (by omega), r3, ?_⟩
    have e1 := castne (show z.2 ≠ 0 by omega)
    have e2 := castne ha.nz
    show _ = _ + (a.val + rsum (l.map Sh.val))
    refine r4.trans ?_
    unfold Sh.val
    simp only [Rat.intCast_add, Rat.intCast_mul]
    grind
theorem rawS_ok {n : Nat} {l : List Sh} (h : ∀ a ∈ l, SOk n a) : Bn (1 + l.length * (n + 1)) (rawS l).1 ∧ Bn (1 + l.length * (n + 1)) (rawS l).2 ∧ 0 < (rawS l).2 ∧ shr (rawS l).1 (rawS l).2 = sumS l := by
  obtain ⟨a, b, c, d⟩ := rawF (l := l) (k := 1) (z := (0, 1)) (by unfold Bn; decide) (by unfold Bn; decide) (by decide) h
  have hc : (rawS l).2 ≠ 0 := Int.ne_of_gt c
  refine ⟨a, b, c, sh_inj (shr_norm hc) (sumS_norm h) ?_⟩
  rw [shr_val hc, sumS_val h]
  refine d.trans ?_
  show ((0 : Int) : Rat) / ((1 : Int) : Rat) + _ = _
  grind
end G

namespace G
/-! ### least shifts -/
/-- the shift by s -/
abbrev sft (s : Pt) : Mo := ⟨⟨1, 0, 1⟩, s, 0⟩
section
variable {n k j c : Nat} {l m : List Pt} {s p q : Pt} {mo : Mo}
theorem sft_ok (h : Ok n s) (hs : Norm s) (h0 : 0 < n) : MOk n (sft s) := ⟨one_ok h0, h, one_norm, hs, one_pt, .inl rfl⟩
theorem sft_led (h : Ok n s) (hs : Norm s) (h0 : 0 < n) (hp : Ok k p) : ledBy (sft s) p = plus p s := by
  have hm := sft_ok h hs h0
  refine val_inj (ledBy_norm hm hp) (plus_norm hp.nz h.nz) ?_ ?_
  · rw [ledBy_re hm hp, plus_re hp.nz h.nz]; show (Pt.mk 1 0 1).re * _ - (Pt.mk 1 0 1).im * _ + s.re = _; rw [still_re, still_im]; grind
  · rw [ledBy_im hm hp, plus_im hp.nz h.nz, if_neg (show ¬ ((0 : Int) = 1) by decide)]; show (Pt.mk 1 0 1).re * _ + (Pt.mk 1 0 1).im * _ + s.im = _; rw [still_re, still_im]; grind
theorem behind_congr {f g : Pt → Pt} (h : ∀ p ∈ l, f p = g p) : behind f l m = behind g l m := by
  unfold behind
  congr 1
  exact List.map_congr_left fun q hq => by rw [h _ (mem_zip_of hq).1]
theorem cost_still (ol : ∀ p ∈ l, Ok n p) (nl : ∀ p ∈ l, Norm p) : behind (ledBy still) l m = costOf l m := by
  unfold behind costOf
  congr 1
  exact List.map_congr_left fun q hq => by rw [still_led (ol _ (mem_zip_of hq).1) (nl _ (mem_zip_of hq).1)]
theorem behind_ok {f : Pt → Pt} (hf : ∀ p ∈ l, Ok n (f p)) (om : ∀ p ∈ m, Ok k p) : ∀ a ∈ (l.zip m).map (fun q => gap (f q.1) q.2), SOk (2 * n + 2 * k + 3) a := fun a ha => by
  obtain ⟨q, hq, rfl⟩ := List.mem_map.mp ha
  exact gap_ok (hf _ (mem_zip_of hq).1) (om _ (mem_zip_of hq).2)
theorem behind_norm {f : Pt → Pt} (hf : ∀ p ∈ l, Ok n (f p)) (om : ∀ p ∈ m, Ok k p) : (behind f l m).Norm := sumS_norm (behind_ok hf om)
theorem behind_sok {f : Pt → Pt} (hf : ∀ p ∈ l, Ok n (f p)) (om : ∀ p ∈ m, Ok k p) (hl : l.length ≤ c) : SOk (1 + c * (2 * n + 2 * k + 3 + 1)) (behind f l m) :=
  (sumS_ok (behind_ok hf om)).mono (Nat.add_le_add_left (Nat.mul_le_mul_right _ (by rw [List.length_map, List.length_zip]; omega)) _)
/-- a sum over pairs -/
def zsum (f : Pt → Pt → Rat) : List Pt → List Pt → Rat
  | p :: l, q :: m => f p q + zsum f l m
  | _, _ => 0
theorem rsum_zip (f : Pt → Pt → Rat) : ∀ (l m : List Pt), rsum ((l.zip m).map fun q => f q.1 q.2) = zsum f l m
  | [], _ => rfl
  | _ :: _, [] => rfl
  | p :: l, q :: m => by show f p q + rsum ((l.zip m).map _) = f p q + zsum f l m; rw [rsum_zip f l m]
theorem zsum_congr {f g : Pt → Pt → Rat} : ∀ {l m : List Pt}, (∀ p ∈ l, ∀ q ∈ m, f p q = g p q) → zsum f l m = zsum g l m
  | [], _, _ => rfl
  | _ :: _, [], _ => rfl
  | p :: l, q :: m, h => by
    show f p q + zsum f l m = g p q + zsum g l m
    rw [h p List.mem_cons_self q List.mem_cons_self, zsum_congr fun a ha b hb => h a (List.mem_cons_of_mem _ ha) b (List.mem_cons_of_mem _ hb)]
theorem zsum_swap (f : Pt → Pt → Rat) : ∀ (l m : List Pt), zsum f l m = zsum (fun a b => f b a) m l
  | [], [] => rfl
  | [], _ :: _ => rfl
  | _ :: _, [] => rfl
  | p :: l, q :: m => by show f p q + _ = f p q + _; rw [zsum_swap f l m]
theorem behind_val {f : Pt → Pt} (hf : ∀ p ∈ l, Ok n (f p)) (om : ∀ p ∈ m, Ok k p) :
    (behind f l m).val = zsum (fun p q => ((f p).re - q.re) * ((f p).re - q.re) + ((f p).im - q.im) * ((f p).im - q.im)) l m := by
  unfold behind
  rw [sumS_val (behind_ok hf om), List.map_map, ← rsum_zip]
  congr 1
  exact List.map_congr_left fun q hq => gap_val (hf _ (mem_zip_of hq).1) (om _ (mem_zip_of hq).2)
/-- the sums of squares about another place -/
theorem zsum_shift (x y u v : Rat) : ∀ (l m : List Pt), l.length = m.length →
    zsum (fun p q => (p.re + (x + u) - q.re) * (p.re + (x + u) - q.re) + (p.im + (y + v) - q.im) * (p.im + (y + v) - q.im)) l m =
      zsum (fun p q => (p.re + x - q.re) * (p.re + x - q.re) + (p.im + y - q.im) * (p.im + y - q.im)) l m + (l.length : Rat) * (u * u + v * v) +
        2 * u * (rsum (l.map Pt.re) + (l.length : Rat) * x - rsum (m.map Pt.re)) + 2 * v * (rsum (l.map Pt.im) + (l.length : Rat) * y - rsum (m.map Pt.im))
  | [], [], _ => by show (0 : Rat) = 0 + ((0 : Nat) : Rat) * _ + 2 * u * (0 + ((0 : Nat) : Rat) * x - 0) + 2 * v * (0 + ((0 : Nat) : Rat) * y - 0); grind
  | [], _ :: _, h => by cases h
  | _ :: _, [], h => by cases h
  | p :: l, q :: m, h => by
    have ih := zsum_shift x y u v l m (by simpa using h)
    show _ + zsum _ l m = _ + zsum _ l m + ((l.length + 1 : Nat) : Rat) * _ + 2 * u * (p.re + rsum (l.map Pt.re) + ((l.length + 1 : Nat) : Rat) * x - (q.re + rsum (m.map Pt.re))) + 2 * v * (p.im + rsum (l.map Pt.im) + ((l.length + 1 : Nat) : Rat) * y - (q.im + rsum (m.map Pt.im)))
    rw [ih]
    have e : ((l.length + 1 : Nat) : Rat) = (l.length : Rat) + 1 := by norm_cast
    rw [e]
    grind
theorem shift_mid (ol : ∀ p ∈ l, Ok n p) (om : ∀ p ∈ m, Ok k p) (hl : l ≠ []) (hm : m ≠ []) (e : l.length = m.length) :
    rsum (l.map Pt.re) + (l.length : Rat) * (shiftTo l m).re - rsum (m.map Pt.re) = 0 ∧ rsum (l.map Pt.im) + (l.length : Rat) * (shiftTo l m).im - rsum (m.map Pt.im) = 0 := by
  have z1 := (meanOf_norm ol hl).nz
  have z2 := (meanOf_norm om hm).nz
  unfold shiftTo
  rw [minus_re z2 z1, minus_im z2 z1, ← meanOf_re ol hl, ← meanOf_re om hm, ← meanOf_im ol hl, ← meanOf_im om hm, e]
  exact ⟨by grind, by grind⟩
end
end G
namespace G
section
variable {n k j i : Nat} {l m : List Pt} {s off : Pt} {mo : Mo}
theorem shift_norm (ol : ∀ p ∈ l, Ok n p) (om : ∀ p ∈ m, Ok k p) (hl : l ≠ []) (hm : m ≠ []) : Norm (shiftTo l m) := minus_norm (meanOf_norm om hm).nz (meanOf_norm ol hl).nz
theorem behind_sft (ol : ∀ p ∈ l, Ok n p) (os : Ok i s) (ns : Norm s) (h0 : 0 < i) : behind (ledBy (sft s)) l m = behind (fun p => plus p s) l m := behind_congr fun p hp => sft_led os ns h0 (ol p hp)
theorem plus_val (ol : ∀ p ∈ l, Ok n p) (om : ∀ p ∈ m, Ok k p) (os : Ok i s) :
    (behind (fun p => plus p s) l m).val = zsum (fun p q => (p.re + s.re - q.re) * (p.re + s.re - q.re) + (p.im + s.im - q.im) * (p.im + s.im - q.im)) l m := by
  rw [behind_val (fun p hp => plus_ok (ol p hp) os) om]
  exact zsum_congr fun p hp q _ => by rw [plus_re (ol p hp).nz os.nz, plus_im (ol p hp).nz os.nz]
theorem shift_more (ol : ∀ p ∈ l, Ok n p) (om : ∀ p ∈ m, Ok k p) (hl : l ≠ []) (hm : m ≠ []) (e : l.length = m.length) (os : Ok i (shiftTo l m)) (h0 : 0 < i) (oo : Ok j off) (no : Norm off) (hj : 0 < j) :
    behind (ledBy (sft (ledBy (sft (shiftTo l m)) off))) l m = sumS [behind (ledBy (sft (shiftTo l m))) l m, shr ((gap off ⟨0, 0, 1⟩).t * (l.length : Int)) (gap off ⟨0, 0, 1⟩).b] := by
  have ns := shift_norm ol om hl hm
  have oz : Ok 1 ⟨0, 0, 1⟩ := zero_ok (by decide)
  have og := gap_ok oo oz
  have et : ledBy (sft (shiftTo l m)) off = plus off (shiftTo l m) := sft_led os ns h0 oo
  have ot : Ok (j + i + 1) (plus off (shiftTo l m)) := plus_ok oo os
  have nt : Norm (plus off (shiftTo l m)) := plus_norm oo.nz os.nz
  rw [et, behind_sft ol ot nt (by omega), behind_sft ol os ns h0]
  have ob := behind_sok (c := l.length) (fun p hp => plus_ok (ol p hp) os) om (Nat.le_refl _)
  have oh : SOk (max (2 * j + 2 * 1 + 3 + l.length) (2 * j + 2 * 1 + 3)) (shr ((gap off ⟨0, 0, 1⟩).t * (l.length : Int)) (gap off ⟨0, 0, 1⟩).b) := shr_ok (og.t.mul (show Bn l.length (l.length : Int) by unfold Bn; exact Nat.lt_two_pow_self)) og.b og.nz
  have both : ∀ a ∈ [behind (fun p => plus p (shiftTo l m)) l m, shr ((gap off ⟨0, 0, 1⟩).t * (l.length : Int)) (gap off ⟨0, 0, 1⟩).b], SOk (max (1 + l.length * (2 * (n + i + 1) + 2 * k + 3 + 1)) (max (2 * j + 2 * 1 + 3 + l.length) (2 * j + 2 * 1 + 3))) a := fun a ha => by
    simp only [List.mem_cons, List.not_mem_nil, or_false] at ha
    rcases ha with rfl | rfl
    · exact ob.mono (Nat.le_max_left _ _)
    · exact oh.mono (Nat.le_max_right _ _)
  refine sh_inj (behind_norm (fun p hp => plus_ok (ol p hp) ot) om) (sumS_norm both) ?_
  rw [sumS_val both]
  show _ = (behind _ l m).val + ((shr _ _).val + 0)
  rw [plus_val ol om ot, plus_val ol om os, shr_val og.nz, plus_re oo.nz os.nz, plus_im oo.nz os.nz]
  obtain ⟨h1, h2⟩ := shift_mid ol om hl hm e
  have hz := zsum_shift (shiftTo l m).re (shiftTo l m).im off.re off.im l m e
  rw [h1, h2] at hz
  have eg := gap_val oo oz
  rw [zero_re, zero_im] at eg
  have eq : (((gap off ⟨0, 0, 1⟩).t * (l.length : Int) : Int) : Rat) / ((gap off ⟨0, 0, 1⟩).b : Rat) = (l.length : Rat) * (off.re * off.re + off.im * off.im) := by
    have e2 : (((l.length : Nat) : Int) : Rat) = (l.length : Rat) := by norm_cast
    have e3 := castne og.nz
    have e4 : (gap off ⟨0, 0, 1⟩).val = ((gap off ⟨0, 0, 1⟩).t : Rat) / ((gap off ⟨0, 0, 1⟩).b : Rat) := rfl
    rw [e4] at eg
    simp only [Rat.intCast_mul, e2]
    grind
  rw [eq]
  have c1 : (off.re + (shiftTo l m).re) = (shiftTo l m).re + off.re := by grind
  have c2 : (off.im + (shiftTo l m).im) = (shiftTo l m).im + off.im := by grind
  rw [c1, c2, hz]
  grind
theorem least_swap (ol : ∀ p ∈ l, Ok n p) (om : ∀ p ∈ m, Ok k p) (hl : l ≠ []) (hm : m ≠ []) (os : Ok i (shiftTo l m)) (os' : Ok j (shiftTo m l)) :
    behind (fun p => plus p (shiftTo m l)) m l = behind (fun p => plus p (shiftTo l m)) l m := by
  refine sh_inj (behind_norm (fun p hp => plus_ok (om p hp) os') ol) (behind_norm (fun p hp => plus_ok (ol p hp) os) om) ?_
  rw [plus_val om ol os', plus_val ol om os, zsum_swap]
  have z1 := (meanOf_norm ol hl).nz
  have z2 := (meanOf_norm om hm).nz
  refine zsum_congr fun p _ q _ => ?_
  unfold shiftTo
  rw [minus_re z2 z1, minus_im z2 z1, minus_re z1 z2, minus_im z1 z2]
  grind
theorem cost_led (om : MOk i mo) (ol : ∀ p ∈ l, Ok n p) (omm : ∀ p ∈ m, Ok k p) : costOf (l.map (ledBy mo)) (m.map (ledBy mo)) = costOf l m := by
  unfold costOf
  congr 1
  rw [List.zip_map, List.map_map]
  exact List.map_congr_left fun q hq => led_gap om (ol _ (mem_zip_of hq).1) (omm _ (mem_zip_of hq).2)
end
end G
namespace G
open PySem PySem.Spec L2
theorem lcq_points {X : L2.Cx} {ρ : List Sl} {Φ : D → Prop} {scope : Scope} {vs : List Nat} {tg elt : Expr} {n : Nat} (hn : n ≤ 100000)
    (ht : ∀ d, ∃ ρ', QGb X scope vs tg d (wipeS ρ vs) ρ' ∧ ∀ s H C cl fp (Θ : D → Prop), (∀ p, Ok 3 p → Norm p → Θ p.d) → QX (BlkX X scope s H C cl fp) (fun _ => False) elt ρ' Θ)
    (k : ∀ l : List Pt, l.length = n → (∀ p ∈ l, Ok 3 p) → (∀ p ∈ l, Norm p) → Φ (.lst (l.map Pt.d))) :
    LcQ X scope vs tg elt [] ρ (rangeD 0 n) (fun i acc => ∃ ps : List Pt, acc = ps.map Pt.d ∧ ps.length = i ∧ (∀ p ∈ ps, Ok 3 p) ∧ ∀ p ∈ ps, Norm p) Φ :=
  ⟨by rw [rangeD_length]; exact hn, ⟨[], rfl, rfl, by simp, by simp⟩, fun i d acc _ hI => by
    obtain ⟨ρ', hg, he⟩ := ht d
    refine ⟨ρ', hg, fun b => b = true, rfl, fun _ s H C cl fp => he s H C cl fp _ fun p op np => ?_, fun z => Bool.noConfusion z⟩
    obtain ⟨ps, rfl, hl, h1, h2⟩ := hI
    refine ⟨ps ++ [p], by simp, by simp [hl], fun q hq => ?_, fun q hq => ?_⟩
    · rcases List.mem_append.mp hq with h | h
      · exact h1 q h
      · rw [List.mem_singleton.mp h]; exact op
    · rcases List.mem_append.mp hq with h | h
      · exact h2 q h
      · rw [List.mem_singleton.mp h]; exact np, fun acc hI _ => by
    obtain ⟨ps, rfl, hl, h1, h2⟩ := hI
    rw [rangeD_length] at hl
    exact k ps hl h1 h2⟩
end G


namespace G
open PySem PySem.Spec L2
local macro_rules | `(tactic| walk_at "bn") => `(tactic| first
  | assumption
  | (apply Bn.mul <;> walk_at "bn")
  | (apply Bn.add <;> walk_at "bn")
  | (apply Bn.sub <;> walk_at "bn")
  | (apply Bn.neg <;> walk_at "bn")
  | (apply Bn.abs <;> walk_at "bn")
  | exact (show Bn 64 _ by unfold Bn; decide))
local macro_rules | `(tactic| walk_at "cm") => `(tactic| (apply Bn.cm; (focus walk_at "bn"); (focus walk_at "bn"); omega))
local macro_rules | `(tactic| walk_at "nz") => `(tactic| first
  | assumption
  | omega
  | (apply mulnz <;> walk_at "nz"))
local macro_rules | `(tactic| walk_at "mok") => `(tactic| first
  | assumption
  | (apply joined_ok <;> walk_at "mok")
  | (apply backOf_ok <;> walk_at "mok")
  | exact still_ok)
local macro_rules | `(tactic| walk_at "ok") => `(tactic| first
  | assumption
  | (apply plus_ok <;> walk_at "ok")
  | (apply minus_ok <;> walk_at "ok")
  | (apply times_ok <;> walk_at "ok")
  | (apply flipped_ok <;> walk_at "ok")
  | (apply ledBy_ok <;> first | walk_at "ok" | walk_at "mok")
  | solve_by_elim)
local macro_rules | `(tactic| walk_at "norm") => `(tactic| first
  | assumption
  | (apply flipped_norm <;> walk_at "norm")
  | (apply plus_norm' <;> walk_at "ok")
  | (apply minus_norm' <;> walk_at "ok")
  | (apply times_norm' <;> walk_at "ok")
  | (apply ledBy_norm <;> first | walk_at "ok" | walk_at "mok")
  | solve_by_elim)
local macro_rules | `(tactic| walk_at "shp") => `(tactic| first
  | rfl
  | assumption
  | exact shp_pt _ _
  | exact shp_sh _ _
  | exact shp_mo _ _
  | exact shpA_pt1 _ _
  | exact shpA_pt2 _ _ _
  | exact shp_pts
  | exact (show D.shp 8 _ = true from rfl)
  | solve_by_elim)
local macro_rules | `(tactic| walk_at "pts") => `(tactic| first
  | (apply pts1 <;> walk_at "norm")
  | (apply pts2 <;> walk_at "norm"))
local macro_rules | `(tactic| walk_at "ismo") => `(tactic| (apply isMo_yes <;> walk_at "mok"))
local macro_rules | `(tactic| walk_at "one") => `(tactic| assumption)
local macro_rules | `(tactic| walk_at "db") => `(tactic| first
  | assumption
  | (apply MOk.db <;> walk_at "mok")
  | (apply Ok.db <;> walk_at "ok")
  | solve_by_elim)
local macro_rules | `(tactic| walk_at "nopq") => `(tactic| first | assumption | solve_by_elim | (intro n h; cases h))
local macro_rules | `(tactic| walk_at "sz") => `(tactic| first | omega | assumption | (simp; done) | (simp_all <;> omega))
local macro_rules | `(tactic| walk_at "sok") => `(tactic| first
  | assumption
  | (apply plusSh_ok <;> walk_at "sok")
  | (apply gap_ok <;> walk_at "ok")
  | (apply size_ok <;> walk_at "ok")
  | exact nought_ok (n := 1) (by decide))
local macro_rules | `(tactic| walk_at "oks") => `(tactic| first
  | assumption
  | solve_by_elim)
local macro_rules | `(tactic| walk_at "ne") => `(tactic| first
  | assumption
  | (simp; done))
local macro_rules | `(tactic| walk_at "prs") => `(tactic| (apply prs <;> assumption))
local macro_rules | `(tactic| walk_at "norms") => `(tactic| first | assumption | solve_by_elim)
local macro_rules | `(tactic| walk_at "soks") => `(tactic| first | assumption | solve_by_elim)

def top (i : Nat) : Stmt := PySem.Challenge.pw_laidover_k14_whole_costs.main.body.getD i (.Pass ⟨0, 0, 0, 0⟩)
section
variable {P : Program} {w : World} {K : PySem.W.Frag} {mg : Str → Option Value} {base : Heap} {f : Addr} {fd : FuncData}
abbrev s_law_town : Stmt := top 37
theorem sc_law_town : FnScope ["_law_script"] ["_law_script"] (defScope s_law_town) := ⟨rfl, rfl, rfl, by decide +kernel, rfl, by decide +kernel, by decide +kernel⟩
def S_law_town : SpD := fun ds Φ _ => ds = [.opq 1] ∧ Φ (.opq 0)
theorem ok_law_town (Z : Zs mg) (F : FunD K "_law_town" "_law_town" (defArgs s_law_town) (defBody s_law_town) (defScope s_law_town) [] [] f fd) (hm : mg "_law_town" = some (.ref f)) : FnS P w K mg base "_law_town" 1 1 S_law_town := by
  refine fnS_of (k := 0) F hm sc_law_town (fun ds Φ Ψ h => by obtain ⟨rfl, _⟩ := h; rfl) (fun _ _ _ _ _ _ us hl => match us, hl with | [_], _ => rfl) (fun cdv A outer s H E hr ds Φ Ψ h => ?_)
  obtain ⟨rfl, k⟩ := h
  refine qs_town k fun H a ns hs hn => ?_
  have sh : ∀ l : List Int, D.shp 8 (.lst (l.map D.int)) = true := fun l => by
    rw [shp_lst]; exact shpA_all fun d hd => by obtain ⟨i, _, rfl⟩ := List.mem_map.mp hd; rfl
  have rp : ∀ (H : Hp) (l : List Int), RpA K H (l.map V.int) (l.map D.int) := fun H l => by
    induction l with
    | nil => exact .nil
    | cons i l ih => exact .cons (.int i) ih
  refine wSs.cons (ps_ret (pe_lst (pa_cons (pe_ifExp (pt_cmpR (op_neD hr.units) (pe_var (i := 0) rfl (Or.inl rfl)) (pe_lst pa_nil) (nomark _)) (pe_callTy call_list_of rfl Z.list (by decide +kernel) (pa_cons (pe_var (i := 0) rfl (Or.inl rfl)) pa_nil)) (pe_lst (pa_cons pe_int pa_nil))) (pa_cons pe_int pa_nil)))) ?_
  refine ⟨_, rfl, by show 0 ≤ sizeLine; decide, fun p hp => ?_⟩
  have e1 : Ex H (upd H p (.lst [])) := Ex.new hp
  have hd1 : Dp K (upd H p (.lst [])) (.ref a) (D.lst (ns.map D.int)).py := .lst (e1.l hs) (RpA.dp _ _ 7 (by have := sh ns; rw [shp_lst] at this; exact this) (rp _ ns))
  have hd2 : Dp K (upd H p (.lst [])) (.ref p) (D.lst []).py := .lst (SqL.of upd_same) .nil
  refine ⟨_, _, hd1, hd2, D.shp_shaped (sh ns) (by decide), D.shp_shaped (sh []) (by decide), _, rfl, ?_⟩
  have fin : ∀ (Hx : Hp) (l : List Int), Ex H Hx → l ≠ [] → l.length ≤ 63 → ∀ q, Hx q = none → (tCons (tC (.int 0)) tNil) [some (.ref a)] (upd Hx q (.lst (l.map V.int))) (fun ys H2 => (V.ref q :: ys).length ≤ sizeLine ∧ ∀ p, H2 p = none → (TownEnd H).rt (.ref p) (upd H2 p (.lst (V.ref q :: ys)))) := fun Hx l ex hne hl q hq => by
    refine ⟨by show 2 ≤ sizeLine; decide, fun t ht => ?_⟩
    have hn : Hx t = none := by
      cases z : Hx t with
      | none => rfl
      | some u => rw [upd_ne (ne_of_none z hq), z] at ht; cases ht
    have htq : t ≠ q := fun e => by subst e; rw [upd_same] at ht; cases ht
    exact ⟨Hx, t, q, 0, l, ex, hq, hn, htq, hne, rfl, rfl⟩
  cases ns with
  | nil => exact ⟨by show 1 ≤ sizeLine; decide, fun q hq => fin _ [0] e1 (by simp) (by decide) q hq⟩
  | cons i ns =>
    exact ⟨_, rfl, a, _, rfl, .inl (e1.l hs), fun q hq => fin _ (i :: ns) e1 (by simp) hn q hq⟩
abbrev s_common : Stmt := top 8
theorem sc_common : FnScope ["one", "other"] ["one", "other"] (defScope s_common) := ⟨rfl, rfl, rfl, by decide +kernel, rfl, by decide +kernel, by decide +kernel⟩
def S_common : SpD := fun ds Φ _ => ∃ (a b : Int), ds = [.int a, .int b] ∧ Φ (.int (Int.gcd a b))
theorem ok_common (Z : Zs mg) (F : FunD K "common" "common" (defArgs s_common) (defBody s_common) (defScope s_common) [] [] f fd) (hm : mg "common" = some (.ref f)) : FnS P w K mg base "common" 1 2 S_common := by
  refine fnS_of (k := 0) F hm sc_common (fun ds Φ Ψ h => by obtain ⟨_, _, rfl, _⟩ := h; rfl) (fun _ _ _ _ _ _ us hl => match us, hl with | [_, _], _ => rfl) (fun cdv A outer s H E hr ds Φ Ψ h => ?_)
  obtain ⟨a, b, rfl, k⟩ := h
  refine qs_par 0 1 (QE.to (qe_abs Z.abs (qv 0)) (QE.to (qe_abs Z.abs (qv 1)) ?_)) sc_common.nd
  refine qs_while (I := fun m ρ => ∃ x y : Int, 0 ≤ x ∧ 0 ≤ y ∧ y.toNat = m ∧ Int.gcd x y = Int.gcd a b ∧ ρ = [.dat (.int x), .dat (.int y)]) _ ⟨_, _, ?_, ?_, rfl, ?_, rfl⟩ pass_cx ?_
  · split <;> omega
  · split <;> omega
  · have e : ∀ x : Int, (if x < 0 then -x else x).natAbs = x.natAbs := fun x => by split <;> omega
    unfold Int.gcd; rw [e, e]
  rintro m _ ⟨x, y, hx, hy, hm, hg, rfl⟩
  refine QB.to (qt_neI (qv 1) qi) ?_
  by_cases h0 : y = 0
  · subst h0
    refine qs_ret (QE.to (qv 0) ?_)
    show Φ (.int x)
    have : x = (Int.gcd a b : Int) := by rw [← hg, Int.gcd_zero_right]; omega
    rw [this]; exact k
  · rw [decide_eq_false h0]
    refine qs_par 0 1 (QE.to (qv 1) (QE.to (qe_mod (qv 0) (qv 1) (by omega)) ?_)) sc_common.nd
    refine qs_nil ⟨(x % y).toNat, ?_, y, x % y, hy, Int.emod_nonneg _ h0, rfl, ?_, rfl⟩
    · have := Int.emod_lt_of_pos x (show 0 < y by omega)
      omega
    · rw [← hg]
      obtain ⟨m, rfl⟩ := Int.eq_ofNat_of_zero_le hx
      obtain ⟨n, rfl⟩ := Int.eq_ofNat_of_zero_le hy
      show Nat.gcd n (m % n) = Nat.gcd m n
      rw [Nat.gcd_comm m n, Nat.gcd_rec n m, Nat.gcd_comm]
abbrev s_is_number : Stmt := top 5
theorem sc_is_number : FnScope ["thing"] ["thing"] (defScope s_is_number) := ⟨rfl, rfl, rfl, by decide +kernel, rfl, by decide +kernel, by decide +kernel⟩
def S_is_number : SpD := fun ds Φ _ => ∃ d : D, ds = [d] ∧ (∀ n, d ≠ .opq n) ∧ Φ (.bl d.isI)
theorem ok_is_number (Z : Zs mg) (F : FunD K "is_number" "is_number" (defArgs s_is_number) (defBody s_is_number) (defScope s_is_number) [] [] f fd) (hm : mg "is_number" = some (.ref f)) : FnS P w K mg base "is_number" 1 1 S_is_number := by
  refine fnS_of (k := 0) F hm sc_is_number (fun ds Φ Ψ h => by obtain ⟨_, rfl, _⟩ := h; rfl) (fun _ _ _ _ _ _ us hl => match us, hl with | [_], _ => rfl) (fun cdv A outer s H E hr ds Φ Ψ h => ?_)
  obtain ⟨d, rfl, ho, k⟩ := h
  have e : (d.isIB && !d.isB) = d.isI := by cases d <;> rfl
  refine qs_ret (QE.to (qe_and (qe_isi Z.isinstance Z.int (by decide +kernel) (qv 0) (by walk_at "nopq") (kit_int _)) (fun hb1 => (qx_one (qe_not (qe_isi Z.isinstance Z.bool (by decide +kernel) (qv 0) (by walk_at "nopq") (kit_bool _)))))) (e ▸ k))
abbrev s_is_point : Stmt := top 19
theorem sc_is_point : FnScope ["thing", "one"] ["thing"] (defScope s_is_point) := ⟨rfl, rfl, rfl, by decide +kernel, rfl, by decide +kernel, by decide +kernel⟩
def S_is_point : SpD := fun ds Φ _ => ∃ (d : D) (n : Nat), ds = [d] ∧ D.shp n d = true ∧ Φ (.bl (isPt d))
theorem ok_is_point (Z : Zs mg) (F_common : FnS P w K mg base "common" 1 2 S_common) (F_is_number : FnS P w K mg base "is_number" 1 1 S_is_number) (F : FunD K "is_point" "is_point" (defArgs s_is_point) (defBody s_is_point) (defScope s_is_point) [] [] f fd) (hm : mg "is_point" = some (.ref f)) : FnS P w K mg base "is_point" 2 1 S_is_point := by
  refine fnS_of (k := 1) F hm sc_is_point (fun ds Φ Ψ h => by obtain ⟨_, _, rfl, _⟩ := h; rfl) (fun _ _ _ _ _ _ us hl => match us, hl with | [_], _ => rfl) (fun cdv A outer s H E hr ds Φ Ψ h => ?_)
  obtain ⟨d, n, rfl, hs, k⟩ := h
  have ho := shp_nopq hs
  by_cases ht : d.isT = true
  · cases d with
    | tup xs =>
      have hx := shp_tupA hs
      have hno : ∀ d ∈ xs, ∀ m, d ≠ .opq m := fun d hd => shp_nopq (shp_mem hx hd)
      by_cases h3 : xs.length = 3
      · refine qs_when (QW.t (qwb_or (qt_notB (qt_b (qe_isi Z.isinstance Z.tuple (by decide +kernel) (qv 0) (by walk_at "nopq") (kit_tuple _)))) (fun hb2 => (qwb_or (qt_neI (qe_lenT Z.len (qv 0)) qi) (fun hb1 => (qwb_or1 (qt_notB (qt_b (qe_allM Z.all (qx_lc _ sc_is_point.nd (blkOk_by (N := ["thing", "one"]) (sc := defScope s_is_point) (own := [("one", 1)]) (by decide +kernel)) (qi_tup (QE.to (qv 0) ⟨_, rfl, lcq_map _ (by walk_at "sz") (fun d hd => ⟨_, qgb_name 1 sc_is_point.nd, fun s H C cl fp => (qe_call F_is_number (hr.mono (by decide)) (qas_cons (qv 1) qas_nil) ⟨_, rfl, by walk_at "nopq", rfl⟩)⟩) rfl⟩)))))))))))) (fun hc => ?_) (fun hc => ?_)
        · have e : isPt (.tup xs) = false := by
            unfold isPt
            split
            · simp [D.isI] at hc
              simp_all [D.isT]
            · rfl
          refine qs_ret (QE.to qb (e ▸ k))
        · match xs, h3, hc with
          | [a, b, c], _, hc =>
            have hi : a.isI = true ∧ b.isI = true ∧ c.isI = true := by simp_all [D.isT]
            obtain ⟨h1, h2, h3⟩ := hi
            cases a with
            | int x => cases b with
              | int y => cases c with
                | int w =>
                  refine qs_ret (QE.to (qe_and (qe_gt (qe_ixT (qv 0) qi) qi) (fun hb3 => (qx_one (qe_eqI (qe_call F_common (hr.mono (by decide)) (qas_cons (qe_call F_common (hr.mono (by decide)) (qas_cons (qe_ixT (qv 0) qi) (qas_cons (qe_ixT (qv 0) qi) qas_nil)) ⟨_, _, rfl, rfl⟩) (qas_cons (qe_ixT (qv 0) qi) qas_nil)) ⟨_, _, rfl, rfl⟩) qi)))) k)
                | _ => cases h3
              | _ => cases h2
            | _ => cases h1
      · have e : isPt (.tup xs) = false := by
          unfold isPt
          split
          · rename_i q; injection q with q; subst q; exact absurd rfl h3
          · rfl
        have hne : ((xs.length : Int) = 3) = False := by simp; omega
        refine qs_when (QW.t (qwb_or (qt_notB (qt_b (qe_isi Z.isinstance Z.tuple (by decide +kernel) (qv 0) (by walk_at "nopq") (kit_tuple _)))) (fun hb5 => (qwb_or (qt_neI (qe_lenT Z.len (qv 0)) qi) (fun hb4 => (qwb_or1 (qt_notB (qt_b (qe_allM Z.all (qx_lc _ sc_is_point.nd (blkOk_by (N := ["thing", "one"]) (sc := defScope s_is_point) (own := [("one", 1)]) (by decide +kernel)) (qi_tup (QE.to (qv 0) ⟨_, rfl, lcq_map _ (by walk_at "sz") (fun d hd => ⟨_, qgb_name 1 sc_is_point.nd, fun s H C cl fp => (qe_call F_is_number (hr.mono (by decide)) (qas_cons (qv 1) qas_nil) ⟨_, rfl, by walk_at "nopq", rfl⟩)⟩) rfl⟩)))))))))))) (fun hc => ?_) (fun hc => ?_)
        · refine qs_ret (QE.to qb (e ▸ k))
        · simp [hne] at hc
    | _ => cases ht
  · have e0 : d.isT = false := by simpa using ht
    have e : isPt d = false := by
      unfold isPt
      split
      · cases e0
      · rfl
    refine qs_if (QW.t (qw_or (QB.to (qt_notB (qt_b (qe_isi Z.isinstance Z.tuple (by decide +kernel) (qv 0) (by walk_at "nopq") (kit_tuple _)))) ?_)))
    rw [e0]
    refine qs_ret (QE.to qb (e ▸ k))
abbrev s_look_pairs : Stmt := top 30
theorem sc_look_pairs : FnScope ["one", "other", "rows", "p"] ["one", "other"] (defScope s_look_pairs) := ⟨rfl, rfl, rfl, by decide +kernel, rfl, by decide +kernel, by decide +kernel⟩
def S_look_pairs : SpD := fun ds Φ Ψ => ∃ (d e : D), ds = [d, e] ∧ D.shp 8 d = true ∧ D.shp 8 e = true ∧ (prB d = true ∧ prB e = true ∧ lenD d = lenD e → Φ .non) ∧ (¬ (prB d = true ∧ prB e = true ∧ lenD d = lenD e) → Ψ "BadPairs")
theorem ok_look_pairs (Z : Zs mg) (F_is_point : FnS P w K mg base "is_point" 2 1 S_is_point) (E_BadPairs : ExcF K mg "BadPairs") (F : FunD K "look_pairs" "look_pairs" (defArgs s_look_pairs) (defBody s_look_pairs) (defScope s_look_pairs) [] [] f fd) (hm : mg "look_pairs" = some (.ref f)) : FnS P w K mg base "look_pairs" 3 2 S_look_pairs := by
  refine fnS_of (k := 2) F hm sc_look_pairs (fun ds Φ Ψ h => by obtain ⟨_, _, rfl, _⟩ := h; rfl) (fun _ _ _ _ _ _ us hl => match us, hl with | [_, _], _ => rfl) (fun cdv A outer s H E hr ds Φ Ψ h => ?_)
  obtain ⟨d, e, rfl, hd, he, k1, k2⟩ := h
  have body : ∀ (z : D) (y : Sl) (R : Po), D.shp 8 z = true → (prB z = true → R.nx [.dat d, .dat e, .dat z, y]) → (prB z = false → Ψ "BadPairs") →
      QS (cxOf (L2.CX P w) P w K mg base ["one", "other", "rows", "p"] "look_pairs" (defScope s_look_pairs) f cdv A outer s H E) Ψ (match defBody s_look_pairs with | (.For _ _ b _ _) :: _ => b | _ => []) [.dat d, .dat e, .dat z, y] R := fun z y R hz kk1 kk2 => by
    have ho := shp_nopq hz
    by_cases hl : z.isL = true
    · cases z with
      | lst xs =>
        have hx : D.shpA 7 xs = true := by rw [← shp_lst]; exact hz
        have hxs : ∀ d ∈ xs, D.shp 7 d = true := fun d hd => shp_mem hx hd
        by_cases hlen : xs.length ≤ 100000
        · refine qs_when (QW.t (qwb_or (qt_notB (qt_b (qe_isi Z.isinstance Z.list (by decide +kernel) (qv 2) (by walk_at "nopq") (kit_list _)))) (fun hb3 => (qwb_or (qt_notB (qt_le2 qi (qe_lenL Z.len (qv 2)) (fun hb1 => qi))) (fun hb2 => (qwb_or1 (qt_notB (qt_b (qe_allM Z.all (qx_lc _ sc_look_pairs.nd (blkOk_by (N := ["one", "other", "rows", "p"]) (sc := defScope s_look_pairs) (own := [("p", 3)]) (by decide +kernel)) (qi_lst (QE.to (qv 2) ⟨_, rfl, lcq_map _ (by walk_at "sz") (fun d hd => ⟨_, qgb_name 3 sc_look_pairs.nd, fun s H C cl fp => (qe_call F_is_point (hr.mono (by decide)) (qas_cons (qv 3) qas_nil) ⟨_, _, rfl, by walk_at "shp", rfl⟩)⟩) rfl⟩)))))))))))) (fun hc => ?_) (fun hc => ?_)
          · refine qs_raise E_BadPairs (kk2 ?_)
            show (decide (1 ≤ xs.length) && (decide (xs.length ≤ 14) && xs.all isPt)) = false
            simp [D.isL] at hc
            simp only [Bool.and_eq_false_iff, decide_eq_false_iff_not]
            rcases hc with hc | hc
            · omega
            · right; right
              exact Bool.eq_false_iff.mpr fun ha => by
                obtain ⟨x, h1, h2⟩ := hc
                rw [List.all_eq_true.mp ha x h1] at h2; cases h2
          · refine qs_nil (kk1 ?_)
            show (decide (1 ≤ xs.length) && (decide (xs.length ≤ 14) && xs.all isPt)) = true
            simp [D.isL] at hc
            simp only [Bool.and_eq_true, decide_eq_true_eq]
            exact ⟨by omega, by omega, List.all_eq_true.mpr fun x hx => hc.2 x hx⟩
        · refine qs_if (QW.t (qw_or (QB.to (qt_notB (qt_b (qe_isi Z.isinstance Z.list (by decide +kernel) (qv 2) (by walk_at "nopq") (kit_list _)))) ?_)))
          show QW _ _ _ _ _
          refine qw_or (QB.to (qt_notB (qt_le2 qi (qe_lenL Z.len (qv 2)) (fun hb4 => qi))) ?_)
          have hne : (!(decide ((1 : Int) ≤ xs.length) && decide ((xs.length : Int) ≤ 14))) = true := by simp; omega
          rw [hne]
          refine qs_raise E_BadPairs (kk2 ?_)
          show (decide (1 ≤ xs.length) && (decide (xs.length ≤ 14) && xs.all isPt)) = false
          rw [decide_eq_false (show ¬ xs.length ≤ 14 by omega), Bool.false_and, Bool.and_false]
      | opq n => exact absurd rfl (ho n)
      | _ => cases hl
    · have e0 : z.isL = false := by simpa using hl
      refine qs_if (QW.t (qw_or (QB.to (qt_notB (qt_b (qe_isi Z.isinstance Z.list (by decide +kernel) (qv 2) (by walk_at "nopq") (kit_list _)))) ?_)))
      rw [e0]
      refine qs_raise E_BadPairs (kk2 ?_)
      cases z <;> first | rfl | cases e0
  refine qs_for (I := fun i ρ => ∃ x y : Sl, ρ = [.dat d, .dat e, x, y] ∧ (0 < i → prB d = true) ∧ (1 < i → prB e = true)) pass_cx (qi_tup (QE.to (qe_tup (qas_cons (qv 0) (qas_cons (qv 1) qas_nil))) ⟨_, rfl, ⟨_, _, rfl, by omega, by omega⟩, ?_, ?_⟩))
  · rintro i z _ hz ⟨x, y, rfl, p1, p2⟩
    refine ⟨_, qg_name 2 sc_look_pairs.nd, ?_⟩
    match i, hz with
    | 0, hz =>
      cases hz
      exact body d y _ hd (fun q => ⟨_, _, rfl, fun _ => q, fun h => by omega⟩) (fun q => k2 fun h => by rw [q] at h; cases h.1)
    | 1, hz =>
      cases hz
      exact body e y _ he (fun q => ⟨_, _, rfl, fun _ => p1 (by omega), fun _ => q⟩) (fun q => k2 fun h => by rw [q] at h; cases h.2.1)
  · rintro _ ⟨x, y, rfl, p1, p2⟩
    have q1 := p1 (by show 0 < 2; decide)
    have q2 := p2 (by show 1 < 2; decide)
    match d, e, q1, q2 with
    | .lst xs, .lst ys, q1, q2 =>
      refine qs_when (qt_neI (qe_lenL Z.len (qv 0)) (qe_lenL Z.len (qv 1))) (fun hc => ?_) (fun hc => ?_)
      · exact qs_raise E_BadPairs (k2 fun h => by
          have h3 : xs.length = ys.length := h.2.2
          rw [h3] at hc
          simp at hc)
      · exact qs_nil (k1 ⟨q1, q2, by
          show xs.length = ys.length
          simp at hc
          omega⟩)
abbrev s_lowest : Stmt := top 11
theorem sc_lowest : FnScope ["a", "b", "w", "by"] ["a", "b", "w"] (defScope s_lowest) := ⟨rfl, rfl, rfl, by decide +kernel, rfl, by decide +kernel, by decide +kernel⟩
def S_lowest : SpD := fun ds Φ _ => ∃ (a b w : Int) (n1 n2 n3 : Nat), ds = [.int a, .int b, .int w] ∧ Bn n1 a ∧ Bn n2 b ∧ Bn n3 w ∧ w ≠ 0 ∧ n3 ≤ 8900 ∧ Φ (low a b w).d
theorem ok_lowest (Z : Zs mg) (F_common : FnS P w K mg base "common" 1 2 S_common) (F : FunD K "lowest" "lowest" (defArgs s_lowest) (defBody s_lowest) (defScope s_lowest) [] [] f fd) (hm : mg "lowest" = some (.ref f)) : FnS P w K mg base "lowest" 2 3 S_lowest := by
  refine fnS_of (k := 1) F hm sc_lowest (fun ds Φ Ψ h => by obtain ⟨_, _, _, _, _, _, rfl, _⟩ := h; rfl) (fun _ _ _ _ _ _ us hl => match us, hl with | [_, _, _], _ => rfl) (fun cdv A outer s H E hr ds Φ Ψ h => ?_)
  obtain ⟨a, b, w, n1, n2, n3, rfl, h1, h2, h3, hw, hn, k⟩ := h
  refine qs_set 3 (QE.to (qe_call F_common (hr.mono (by decide)) (qas_cons (qe_call F_common (hr.mono (by decide)) (qas_cons (qv 0) (qas_cons (qv 1) qas_nil)) ⟨_, _, rfl, rfl⟩) (qas_cons (qv 2) qas_nil)) ⟨_, _, rfl, rfl⟩) ?_) sc_lowest.nd
  have e : (if decide (0 < w) = true then D.int (Int.gcd (Int.gcd a b) w : Int) else D.int (-(Int.gcd (Int.gcd a b) w : Int))) = D.int (g3 a b w) := by unfold g3; by_cases h : 0 < w <;> simp [h]
  refine qs_set 3 (QE.to (QE.is (qe_if (qt_gt (qv 2) qi) (fun hb1 => (qv 3)) (fun hb2 => (qe_neg (qv 3)))) e) ?_) sc_lowest.nd
  have cz : ∀ i, CDivZ i (g3 a b w) := fun i => (bn_g3 h3 hw).cz (g3_ne hw) hn
  refine qs_ret (QE.to (qe_tup (qas_cons (qe_fdivZ (qv 0) (qv 3) (cz _) g3_dvd_a) (qas_cons (qe_fdivZ (qv 1) (qv 3) (cz _) g3_dvd_b) (qas_cons (qe_fdivZ (qv 2) (qv 3) (cz _) g3_dvd_w) qas_nil)))) ?_)
  exact k
abbrev s_minus : Stmt := top 13
theorem sc_minus : FnScope ["p", "q"] ["p", "q"] (defScope s_minus) := ⟨rfl, rfl, rfl, by decide +kernel, rfl, by decide +kernel, by decide +kernel⟩
def S_minus : SpD := fun ds Φ _ => ∃ (p q : Pt) (n m : Nat), ds = [p.d, q.d] ∧ Ok n p ∧ Ok m q ∧ n + m ≤ 8000 ∧ Φ (minus p q).d
theorem ok_minus (Z : Zs mg) (F_lowest : FnS P w K mg base "lowest" 2 3 S_lowest) (F : FunD K "minus" "minus" (defArgs s_minus) (defBody s_minus) (defScope s_minus) [] [] f fd) (hm : mg "minus" = some (.ref f)) : FnS P w K mg base "minus" 3 2 S_minus := by
  refine fnS_of (k := 2) F hm sc_minus (fun ds Φ Ψ h => by obtain ⟨_, _, _, _, rfl, _⟩ := h; rfl) (fun _ _ _ _ _ _ us hl => match us, hl with | [_, _], _ => rfl) (fun cdv A outer s H E hr ds Φ Ψ h => ?_)
  obtain ⟨p, q, n, m, rfl, ⟨px, py, pw, pp⟩, ⟨qx, qy, qw, qp⟩, hn, k⟩ := h
  refine qs_ret (QE.to (qe_call F_lowest (hr.mono (by decide)) (qas_cons (qe_sub (qe_mul (qe_ixT (qv 0) qi) (qe_ixT (qv 1) qi) (by walk_at "cm")) (qe_mul (qe_ixT (qv 1) qi) (qe_ixT (qv 0) qi) (by walk_at "cm"))) (qas_cons (qe_sub (qe_mul (qe_ixT (qv 0) qi) (qe_ixT (qv 1) qi) (by walk_at "cm")) (qe_mul (qe_ixT (qv 1) qi) (qe_ixT (qv 0) qi) (by walk_at "cm"))) (qas_cons (qe_mul (qe_ixT (qv 0) qi) (qe_ixT (qv 1) qi) (by walk_at "cm")) qas_nil))) ⟨_, _, _, _, _, _, rfl, by walk_at "bn", by walk_at "bn", by walk_at "bn", by walk_at "nz", by omega, rfl⟩) k)
abbrev s_plus : Stmt := top 12
theorem sc_plus : FnScope ["p", "q"] ["p", "q"] (defScope s_plus) := ⟨rfl, rfl, rfl, by decide +kernel, rfl, by decide +kernel, by decide +kernel⟩
def S_plus : SpD := fun ds Φ _ => ∃ (p q : Pt) (n m : Nat), ds = [p.d, q.d] ∧ Ok n p ∧ Ok m q ∧ n + m ≤ 8000 ∧ Φ (plus p q).d
theorem ok_plus (Z : Zs mg) (F_lowest : FnS P w K mg base "lowest" 2 3 S_lowest) (F : FunD K "plus" "plus" (defArgs s_plus) (defBody s_plus) (defScope s_plus) [] [] f fd) (hm : mg "plus" = some (.ref f)) : FnS P w K mg base "plus" 3 2 S_plus := by
  refine fnS_of (k := 2) F hm sc_plus (fun ds Φ Ψ h => by obtain ⟨_, _, _, _, rfl, _⟩ := h; rfl) (fun _ _ _ _ _ _ us hl => match us, hl with | [_, _], _ => rfl) (fun cdv A outer s H E hr ds Φ Ψ h => ?_)
  obtain ⟨p, q, n, m, rfl, ⟨px, py, pw, pp⟩, ⟨qx, qy, qw, qp⟩, hn, k⟩ := h
  refine qs_ret (QE.to (qe_call F_lowest (hr.mono (by decide)) (qas_cons (qe_add (qe_mul (qe_ixT (qv 0) qi) (qe_ixT (qv 1) qi) (by walk_at "cm")) (qe_mul (qe_ixT (qv 1) qi) (qe_ixT (qv 0) qi) (by walk_at "cm"))) (qas_cons (qe_add (qe_mul (qe_ixT (qv 0) qi) (qe_ixT (qv 1) qi) (by walk_at "cm")) (qe_mul (qe_ixT (qv 1) qi) (qe_ixT (qv 0) qi) (by walk_at "cm"))) (qas_cons (qe_mul (qe_ixT (qv 0) qi) (qe_ixT (qv 1) qi) (by walk_at "cm")) qas_nil))) ⟨_, _, _, _, _, _, rfl, by walk_at "bn", by walk_at "bn", by walk_at "bn", by walk_at "nz", by omega, rfl⟩) k)
abbrev s_mean_of : Stmt := top 28
theorem sc_mean_of : FnScope ["points", "found", "one"] ["points"] (defScope s_mean_of) := ⟨rfl, rfl, rfl, by decide +kernel, rfl, by decide +kernel, by decide +kernel⟩
def S_mean_of : SpD := fun ds Φ _ => ∃ (l : List Pt) (n : Nat), ds = [.lst (l.map Pt.d)] ∧ (∀ p ∈ l, Ok n p) ∧ l ≠ [] ∧ l.length ≤ 14 ∧ n ≤ 500 ∧ Φ (meanOf l).d
theorem ok_mean_of (Z : Zs mg) (F_lowest : FnS P w K mg base "lowest" 2 3 S_lowest) (F_plus : FnS P w K mg base "plus" 3 2 S_plus) (g_ZERO : CstT K mg "ZERO" (Pt.mk 0 0 1).d) (F : FunD K "mean_of" "mean_of" (defArgs s_mean_of) (defBody s_mean_of) (defScope s_mean_of) [] [] f fd) (hm : mg "mean_of" = some (.ref f)) : FnS P w K mg base "mean_of" 4 1 S_mean_of := by
  refine fnS_of (k := 3) F hm sc_mean_of (fun ds Φ Ψ h => by obtain ⟨_, _, rfl, _⟩ := h; rfl) (fun _ _ _ _ _ _ us hl => match us, hl with | [_], _ => rfl) (fun cdv A outer s H E hr ds Φ Ψ h => ?_)
  obtain ⟨l, n, rfl, hl, hne, h14, hn, k⟩ := h
  have lo : ∀ i, Ok (15 + 14 * n) ((l.take i).foldl plus ⟨0, 0, 1⟩) := fun i => by
    have h1 := foldP_ok (l := l.take i) (zero_ok (n := 1) (by decide)) fun a ha => hl a (List.mem_of_mem_take ha)
    have h2 : (l.take i).length * (n + 1) ≤ 14 * (n + 1) := Nat.mul_le_mul_right _ (by rw [List.length_take]; omega)
    exact h1.mono (by omega)
  refine qs_set 1 (QE.to (qe_cst g_ZERO) ?_) sc_mean_of.nd
  refine qs_for (I := fun i ρ => ∃ x : Sl, ρ = [.dat (.lst (l.map Pt.d)), .dat ((l.take i).foldl plus ⟨0, 0, 1⟩).d, x]) pass_cx (qi_lst (QE.to (qv 0) ⟨_, rfl, ⟨_, rfl⟩, ?_, ?_⟩))
  · rintro i d _ hd ⟨x, rfl⟩
    rw [List.getElem?_map] at hd
    cases e : l[i]? with
    | none => rw [e] at hd; cases hd
    | some p =>
      rw [e] at hd; cases hd
      refine ⟨_, qg_name 2 sc_mean_of.nd, ?_⟩
      have op := hl p (List.mem_of_getElem? e)
      have of := lo i
      refine qs_set 1 (QE.to (qe_call F_plus (hr.mono (by decide)) (qas_cons (qv 1) (qas_cons (qv 2) qas_nil)) ⟨_, _, _, _, rfl, by walk_at "ok", by walk_at "ok", by omega, rfl⟩) ?_) sc_mean_of.nd
      exact qs_nil ⟨_, by rw [fold_take plus _ e]; rfl⟩
  · rintro _ ⟨x, rfl⟩
    rw [List.length_map, List.take_length]
    have os := sumP_ok hl
    have oz : Ok (15 + 14 * n) (sumP l) := by
      have h2 : l.length * (n + 1) ≤ 14 * (n + 1) := Nat.mul_le_mul_right _ h14
      exact os.mono (by omega)
    have b1 := oz.x; have b2 := oz.y; have b3 := oz.w; have b4 := bn_len h14
    have z1 := oz.nz; have z2 := len_nz hne
    have b5 : Bn 4 ((l.map Pt.d).length : Int) := by rw [List.length_map]; exact b4
    have z3 : ((l.map Pt.d).length : Int) ≠ 0 := by rw [List.length_map]; exact z2
    have e : low (sumP l).x (sumP l).y ((sumP l).w * ((l.map Pt.d).length : Int)) = meanOf l := by rw [List.length_map]; rfl
    rw [← e] at k
    show QS _ _ _ [.dat (.lst (l.map Pt.d)), .dat (sumP l).d, x] _
    refine qs_ret (QE.to (qe_call F_lowest (hr.mono (by decide)) (qas_cons (qe_ixT (qv 1) qi) (qas_cons (qe_ixT (qv 1) qi) (qas_cons (qe_mul (qe_ixT (qv 1) qi) (qe_lenL Z.len (qv 0)) (by walk_at "cm")) qas_nil))) ⟨_, _, _, _, _, _, rfl, by walk_at "bn", by walk_at "bn", by walk_at "bn", by walk_at "nz", by omega, rfl⟩) k)
abbrev s_share : Stmt := top 9
theorem sc_share : FnScope ["top", "below", "by"] ["top", "below"] (defScope s_share) := ⟨rfl, rfl, rfl, by decide +kernel, rfl, by decide +kernel, by decide +kernel⟩
def S_share : SpD := fun ds Φ _ => ∃ (a w : Int) (n1 n3 : Nat), ds = [.int a, .int w] ∧ Bn n1 a ∧ Bn n3 w ∧ w ≠ 0 ∧ n3 ≤ 8900 ∧ Φ (shr a w).d
theorem ok_share (Z : Zs mg) (F_common : FnS P w K mg base "common" 1 2 S_common) (F : FunD K "share" "share" (defArgs s_share) (defBody s_share) (defScope s_share) [] [] f fd) (hm : mg "share" = some (.ref f)) : FnS P w K mg base "share" 2 2 S_share := by
  refine fnS_of (k := 1) F hm sc_share (fun ds Φ Ψ h => by obtain ⟨_, _, _, _, rfl, _⟩ := h; rfl) (fun _ _ _ _ _ _ us hl => match us, hl with | [_, _], _ => rfl) (fun cdv A outer s H E hr ds Φ Ψ h => ?_)
  obtain ⟨a, w, n1, n3, rfl, h1, h3, hw, hn, k⟩ := h
  refine qs_set 2 (QE.to (qe_call F_common (hr.mono (by decide)) (qas_cons (qv 0) (qas_cons (qv 1) qas_nil)) ⟨_, _, rfl, rfl⟩) ?_) sc_share.nd
  have e0 : Int.gcd (Int.gcd a 0) w = Int.gcd a w := by simp [Int.gcd]
  have e : (if decide (0 < w) = true then D.int (Int.gcd a w : Int) else D.int (-(Int.gcd a w : Int))) = D.int (g3 a 0 w) := by unfold g3; rw [e0]; by_cases h : 0 < w <;> simp [h]
  refine qs_set 2 (QE.to (QE.is (qe_if (qt_gt (qv 1) qi) (fun hb1 => (qv 2)) (fun hb2 => (qe_neg (qv 2)))) e) ?_) sc_share.nd
  have cz : ∀ i, CDivZ i (g3 a 0 w) := fun i => (bn_g3 h3 hw).cz (g3_ne hw) hn
  refine qs_ret (QE.to (qe_tup (qas_cons (qe_fdivZ (qv 0) (qv 2) (cz _) g3_dvd_a) (qas_cons (qe_fdivZ (qv 1) (qv 2) (cz _) g3_dvd_w) qas_nil))) ?_)
  exact k
abbrev s_plus_share : Stmt := top 10
theorem sc_plus_share : FnScope ["one", "other"] ["one", "other"] (defScope s_plus_share) := ⟨rfl, rfl, rfl, by decide +kernel, rfl, by decide +kernel, by decide +kernel⟩
def S_plus_share : SpD := fun ds Φ _ => ∃ (a b : Sh) (n m : Nat), ds = [a.d, b.d] ∧ SOk n a ∧ SOk m b ∧ n + m ≤ 8800 ∧ Φ (plusSh a b).d
theorem ok_plus_share (Z : Zs mg) (F_share : FnS P w K mg base "share" 2 2 S_share) (F : FunD K "plus_share" "plus_share" (defArgs s_plus_share) (defBody s_plus_share) (defScope s_plus_share) [] [] f fd) (hm : mg "plus_share" = some (.ref f)) : FnS P w K mg base "plus_share" 3 2 S_plus_share := by
  refine fnS_of (k := 2) F hm sc_plus_share (fun ds Φ Ψ h => by obtain ⟨_, _, _, _, rfl, _⟩ := h; rfl) (fun _ _ _ _ _ _ us hl => match us, hl with | [_, _], _ => rfl) (fun cdv A outer s H E hr ds Φ Ψ h => ?_)
  obtain ⟨a, b, n, m, rfl, ha, hb, hn, k⟩ := h
  have b1 := ha.t; have b2 := ha.b; have b3 := hb.t; have b4 := hb.b
  have z1 := ha.nz; have z2 := hb.nz
  refine qs_ret (QE.to (qe_call F_share (hr.mono (by decide)) (qas_cons (qe_add (qe_mul (qe_ixT (qv 0) qi) (qe_ixT (qv 1) qi) (by walk_at "cm")) (qe_mul (qe_ixT (qv 1) qi) (qe_ixT (qv 0) qi) (by walk_at "cm"))) (qas_cons (qe_mul (qe_ixT (qv 0) qi) (qe_ixT (qv 1) qi) (by walk_at "cm")) qas_nil)) ⟨_, _, _, _, rfl, by walk_at "bn", by walk_at "bn", by walk_at "nz", by omega, rfl⟩) k)
abbrev s_sum_of : Stmt := top 31
theorem sc_sum_of : FnScope ["squares", "found", "one"] ["squares"] (defScope s_sum_of) := ⟨rfl, rfl, rfl, by decide +kernel, rfl, by decide +kernel, by decide +kernel⟩
def S_sum_of : SpD := fun ds Φ _ => ∃ (l : List Sh) (n c : Nat), ds = [.lst (l.map Sh.d)] ∧ (∀ a ∈ l, SOk n a) ∧ l.length ≤ c ∧ c ≤ 14 ∧ c * (n + 1) ≤ 8400 ∧ Φ (sumS l).d
theorem ok_sum_of (Z : Zs mg) (F_plus_share : FnS P w K mg base "plus_share" 3 2 S_plus_share) (F : FunD K "sum_of" "sum_of" (defArgs s_sum_of) (defBody s_sum_of) (defScope s_sum_of) [] [] f fd) (hm : mg "sum_of" = some (.ref f)) : FnS P w K mg base "sum_of" 4 1 S_sum_of := by
  refine fnS_of (k := 3) F hm sc_sum_of (fun ds Φ Ψ h => by obtain ⟨_, _, _, rfl, _⟩ := h; rfl) (fun _ _ _ _ _ _ us hl => match us, hl with | [_], _ => rfl) (fun cdv A outer s H E hr ds Φ Ψ h => ?_)
  obtain ⟨l, n, c, rfl, hl, hlc, h14, hcn, k⟩ := h
  have hn : l.length * (n + 1) ≤ 8400 := Nat.le_trans (Nat.mul_le_mul_right _ hlc) hcn
  refine qs_set 1 (QE.to (QE.is (qe_tup (qas_cons qi (qas_cons qi qas_nil))) (show _ = (Sh.mk 0 1).d from rfl)) ?_) sc_sum_of.nd
  refine qs_for (I := fun i ρ => ∃ x : Sl, ρ = [.dat (.lst (l.map Sh.d)), .dat ((l.take i).foldl plusSh ⟨0, 1⟩).d, x]) pass_cx (qi_lst (QE.to (qv 0) ⟨_, rfl, ⟨_, rfl⟩, ?_, ?_⟩))
  · rintro i d _ hd ⟨x, rfl⟩
    rw [List.getElem?_map] at hd
    cases e : l[i]? with
    | none => rw [e] at hd; cases hd
    | some p =>
      rw [e] at hd; cases hd
      refine ⟨_, qg_name 2 sc_sum_of.nd, ?_⟩
      have op := hl p (List.mem_of_getElem? e)
      have of := foldS_ok (l := l.take i) (nought_ok (n := 1) (by decide)) fun a ha => hl a (List.mem_of_mem_take ha)
      have hi : i < l.length := (List.getElem?_eq_some_iff.mp e).1
      have h2 : (l.take i).length * (n + 1) + (n + 1) ≤ l.length * (n + 1) := by
        rw [← Nat.succ_mul]
        exact Nat.mul_le_mul_right _ (by rw [List.length_take]; omega)
      refine qs_set 1 (QE.to (qe_call F_plus_share (hr.mono (by decide)) (qas_cons (qv 1) (qas_cons (qv 2) qas_nil)) ⟨_, _, _, _, rfl, by walk_at "sok", by walk_at "sok", by omega, rfl⟩) ?_) sc_sum_of.nd
      exact qs_nil ⟨_, by rw [fold_take plusSh _ e]; rfl⟩
  · rintro _ ⟨x, rfl⟩
    rw [List.length_map, List.take_length]
    refine qs_ret (QE.to (qv 1) k)
abbrev s_size : Stmt := top 16
theorem sc_size : FnScope ["p"] ["p"] (defScope s_size) := ⟨rfl, rfl, rfl, by decide +kernel, rfl, by decide +kernel, by decide +kernel⟩
def S_size : SpD := fun ds Φ _ => ∃ (p : Pt) (n : Nat), ds = [p.d] ∧ Ok n p ∧ n ≤ 4000 ∧ Φ (size p).d
theorem ok_size (Z : Zs mg) (F_share : FnS P w K mg base "share" 2 2 S_share) (F : FunD K "size" "size" (defArgs s_size) (defBody s_size) (defScope s_size) [] [] f fd) (hm : mg "size" = some (.ref f)) : FnS P w K mg base "size" 3 1 S_size := by
  refine fnS_of (k := 2) F hm sc_size (fun ds Φ Ψ h => by obtain ⟨_, _, rfl, _⟩ := h; rfl) (fun _ _ _ _ _ _ us hl => match us, hl with | [_], _ => rfl) (fun cdv A outer s H E hr ds Φ Ψ h => ?_)
  obtain ⟨p, n, rfl, ⟨px, py, pw, pp⟩, hn, k⟩ := h
  refine qs_ret (QE.to (qe_call F_share (hr.mono (by decide)) (qas_cons (qe_add (qe_mul (qe_ixT (qv 0) qi) (qe_ixT (qv 0) qi) (by walk_at "cm")) (qe_mul (qe_ixT (qv 0) qi) (qe_ixT (qv 0) qi) (by walk_at "cm"))) (qas_cons (qe_mul (qe_ixT (qv 0) qi) (qe_ixT (qv 0) qi) (by walk_at "cm")) qas_nil)) ⟨_, _, _, _, rfl, by walk_at "bn", by walk_at "bn", by walk_at "nz", by omega, rfl⟩) k)
abbrev s_gap : Stmt := top 21
theorem sc_gap : FnScope ["p", "q"] ["p", "q"] (defScope s_gap) := ⟨rfl, rfl, rfl, by decide +kernel, rfl, by decide +kernel, by decide +kernel⟩
def S_gap : SpD := fun ds Φ _ => ∃ (p q : Pt) (n m : Nat), ds = [p.d, q.d] ∧ Ok n p ∧ Ok m q ∧ n + m ≤ 3000 ∧ Φ (gap p q).d
theorem ok_gap (Z : Zs mg) (F_size : FnS P w K mg base "size" 3 1 S_size) (F_minus : FnS P w K mg base "minus" 3 2 S_minus) (F : FunD K "gap" "gap" (defArgs s_gap) (defBody s_gap) (defScope s_gap) [] [] f fd) (hm : mg "gap" = some (.ref f)) : FnS P w K mg base "gap" 4 2 S_gap := by
  refine fnS_of (k := 3) F hm sc_gap (fun ds Φ Ψ h => by obtain ⟨_, _, _, _, rfl, _⟩ := h; rfl) (fun _ _ _ _ _ _ us hl => match us, hl with | [_, _], _ => rfl) (fun cdv A outer s H E hr ds Φ Ψ h => ?_)
  obtain ⟨p, q, n, m, rfl, hp, hq, hn, k⟩ := h
  refine qs_ret (QE.to (qe_call F_size (hr.mono (by decide)) (qas_cons (qe_call F_minus (hr.mono (by decide)) (qas_cons (qv 0) (qas_cons (qv 1) qas_nil)) ⟨_, _, _, _, rfl, by walk_at "ok", by walk_at "ok", by omega, rfl⟩) qas_nil) ⟨_, _, rfl, by walk_at "ok", by omega, rfl⟩) k)
abbrev s_least_shift : Stmt := top 34
theorem sc_least_shift : FnScope ["one", "other", "shift", "p", "q"] ["one", "other"] (defScope s_least_shift) := ⟨rfl, rfl, rfl, by decide +kernel, rfl, by decide +kernel, by decide +kernel⟩
def S_least_shift : SpD := fun ds Φ _ => ∃ (l m : List Pt) (n k c : Nat), ds = [.lst (l.map Pt.d), .lst (m.map Pt.d)] ∧ (∀ p ∈ l, Ok n p) ∧ (∀ p ∈ m, Ok k p) ∧ l.length = m.length ∧ l ≠ [] ∧ l.length ≤ c ∧ c ≤ 14 ∧ n ≤ 50 ∧ k ≤ 50 ∧ c * (2 * (n + (5 + c * (k + 1) + (5 + c * (n + 1)) + 1) + 1) + 2 * k + 3 + 1) ≤ 8400 ∧ Φ (.tup [(shiftTo l m).d, (behind (fun p => plus p (shiftTo l m)) l m).d])
theorem ok_least_shift (Z : Zs mg) (F_minus : FnS P w K mg base "minus" 3 2 S_minus) (F_mean_of : FnS P w K mg base "mean_of" 4 1 S_mean_of) (F_sum_of : FnS P w K mg base "sum_of" 4 1 S_sum_of) (F_gap : FnS P w K mg base "gap" 4 2 S_gap) (F_plus : FnS P w K mg base "plus" 3 2 S_plus) (F : FunD K "least_shift" "least_shift" (defArgs s_least_shift) (defBody s_least_shift) (defScope s_least_shift) [] [] f fd) (hm : mg "least_shift" = some (.ref f)) : FnS P w K mg base "least_shift" 5 2 S_least_shift := by
  refine fnS_of (k := 4) F hm sc_least_shift (fun ds Φ Ψ h => by obtain ⟨_, _, _, _, _, rfl, _⟩ := h; rfl) (fun _ _ _ _ _ _ us hl => match us, hl with | [_, _], _ => rfl) (fun cdv A outer s H E hr ds Φ Ψ h => ?_)
  obtain ⟨l, m, n, k', c, rfl, ol, om, e, hne, hlc, hc, hn, hk, hb, k⟩ := h
  have h14 : l.length ≤ 14 := by omega
  have h14m : m.length ≤ 14 := by omega
  have hnem : m ≠ [] := fun h => hne (List.length_eq_zero_iff.mp (by rw [e, h]; rfl))
  have ml := (meanOf_ok ol hne h14).mono (show _ ≤ 5 + c * (n + 1) from Nat.add_le_add_left (Nat.mul_le_mul_right _ hlc) _)
  have mm := (meanOf_ok om hnem h14m).mono (show _ ≤ 5 + c * (k' + 1) from Nat.add_le_add_left (Nat.mul_le_mul_right _ (by omega)) _)
  have c1 : c * (k' + 1) ≤ 14 * (k' + 1) := Nat.mul_le_mul_right _ hc
  have c2 : c * (n + 1) ≤ 14 * (n + 1) := Nat.mul_le_mul_right _ hc
  have osh : Ok (5 + c * (k' + 1) + (5 + c * (n + 1)) + 1) (shiftTo l m) := minus_ok mm ml
  generalize hs : 5 + c * (k' + 1) + (5 + c * (n + 1)) + 1 = S at osh hb
  have oz1 : ∀ q ∈ l.zip m, Ok n q.1 := fun q hq => ol _ (mem_zip_of hq).1
  have oz2 : ∀ q ∈ l.zip m, Ok k' q.2 := fun q hq => om _ (mem_zip_of hq).2
  have hz := zip_le (m := m) h14
  refine qs_set 2 (QE.to (qe_call F_minus (hr.mono (by decide)) (qas_cons (qe_call F_mean_of (hr.mono (by decide)) (qas_cons (qv 1) qas_nil) ⟨_, _, rfl, by walk_at "oks", by walk_at "ne", by walk_at "sz", by omega, rfl⟩) (qas_cons (qe_call F_mean_of (hr.mono (by decide)) (qas_cons (qv 0) qas_nil) ⟨_, _, rfl, by walk_at "oks", by walk_at "ne", by walk_at "sz", by omega, rfl⟩) qas_nil)) ⟨_, _, _, _, rfl, by walk_at "ok", by walk_at "ok", by omega, rfl⟩) ?_) sc_least_shift.nd
  have e1 : D.lst ((l.zip m).map fun q => (gap (plus q.1 (shiftTo l m)) q.2).d) = D.lst (((l.zip m).map fun q => gap (plus q.1 (shiftTo l m)) q.2).map Sh.d) := by rw [List.map_map]; rfl
  have os : ∀ a ∈ (l.zip m).map (fun q => gap (plus q.1 (shiftTo l m)) q.2), SOk (2 * (n + S + 1) + 2 * k' + 3) a := fun a ha => by
    obtain ⟨q, hq, rfl⟩ := List.mem_map.mp ha
    exact gap_ok (plus_ok (oz1 q hq) osh) (oz2 q hq)
  show QS _ _ _ [.dat (.lst (l.map Pt.d)), .dat (.lst (m.map Pt.d)), .dat (shiftTo l m).d, .emp, .emp] _
  refine qs_ret (qx_tup (qa_cons (QE.to (qv 2) (qa_cons (qx_call F_sum_of (hr.mono (by decide)) (QAs.to (qas_cons (QE.is (qx_lc _ sc_least_shift.nd (blkOk_by (N := ["one", "other", "shift", "p", "q"]) (sc := defScope s_least_shift) (own := [("p", 3), ("q", 4)]) (by decide +kernel)) (qi_zip Z.zip (QAs.to (qas_cons (qv 0) (qas_cons (qv 1) qas_nil)) ⟨_, _, rfl, lcq_zipT _ (by walk_at "sz") (fun d hd => ⟨_, qgb_tup2 3 4 sc_least_shift.nd, fun s H C cl fp => (qe_call F_gap (hr.mono (by decide)) (qas_cons (qe_call F_plus (hr.mono (by decide)) (qas_cons (qv 3) (qas_cons (qv 2) qas_nil)) ⟨_, _, _, _, rfl, by walk_at "ok", by walk_at "ok", by omega, rfl⟩) (qas_cons (qv 4) qas_nil)) ⟨_, _, _, _, rfl, by walk_at "ok", by walk_at "ok", by omega, rfl⟩)⟩) rfl⟩))) e1) qas_nil) ⟨_, _, c, rfl, os, by rw [List.length_map, List.length_zip]; omega, hc, hb, qa_nil ⟨small (Nat.le_of_ble_eq_true rfl), k⟩⟩))))))
abbrev s_nearest_shift : Stmt := top 33
theorem sc_nearest_shift : FnScope ["one", "other"] ["one", "other"] (defScope s_nearest_shift) := ⟨rfl, rfl, rfl, by decide +kernel, rfl, by decide +kernel, by decide +kernel⟩
def S_nearest_shift : SpD := fun ds Φ _ => ∃ (l m : List Pt) (n k c : Nat), ds = [.lst (l.map Pt.d), .lst (m.map Pt.d)] ∧ (∀ p ∈ l, Ok n p) ∧ (∀ p ∈ m, Ok k p) ∧ (∀ p ∈ l, Norm p) ∧ (∀ p ∈ m, Norm p) ∧ l.length = m.length ∧ l ≠ [] ∧ l.length ≤ c ∧ c ≤ 14 ∧ n ≤ 50 ∧ k ≤ 50 ∧ c * (2 * (n + (5 + c * (k + 1) + (5 + c * (n + 1)) + 1) + 1) + 2 * k + 3 + 1) ≤ 8400 ∧ Φ (.tup [(shiftTo l m).d, (behind (fun p => plus p (shiftTo l m)) l m).d])
theorem ok_nearest_shift (Z : Zs mg) (F_look_pairs : FnS P w K mg base "look_pairs" 3 2 S_look_pairs) (F_least_shift : FnS P w K mg base "least_shift" 5 2 S_least_shift) (F : FunD K "nearest_shift" "nearest_shift" (defArgs s_nearest_shift) (defBody s_nearest_shift) (defScope s_nearest_shift) [] [] f fd) (hm : mg "nearest_shift" = some (.ref f)) : FnS P w K mg base "nearest_shift" 6 2 S_nearest_shift := by
  refine fnS_of (k := 5) F hm sc_nearest_shift (fun ds Φ Ψ h => by obtain ⟨_, _, _, _, _, rfl, _⟩ := h; rfl) (fun _ _ _ _ _ _ us hl => match us, hl with | [_, _], _ => rfl) (fun cdv A outer s H E hr ds Φ Ψ h => ?_)
  obtain ⟨l, m, n, k', c, rfl, ol, om, nl, nm, e, hne, hlc, hc, hn, hk, hb, k⟩ := h
  have h14 : l.length ≤ 14 := by omega
  refine qs_expr (QE.to (qe_call F_look_pairs (hr.mono (by decide)) (qas_cons (qv 0) (qas_cons (qv 1) qas_nil)) ⟨_, _, rfl, by walk_at "shp", by walk_at "shp", fun _ => rfl, fun h => absurd (by walk_at "prs") h⟩) ?_)
  refine qs_ret (qx_call F_least_shift (hr.mono (by decide)) (QAs.to (qas_cons (qv 0) (qas_cons (qv 1) qas_nil)) ⟨l, m, n, k', c, rfl, ol, om, e, hne, hlc, hc, hn, hk, hb, k⟩))
abbrev s_law_draw : Stmt := top 38
theorem sc_law_draw : FnScope ["_law_town_here", "_law_count", "_law_row", "_law_at", "_law_cell", "_law_mixed"] ["_law_town_here", "_law_count"] (defScope s_law_draw) := ⟨rfl, rfl, rfl, by decide +kernel, rfl, by decide +kernel, by decide +kernel⟩
def S_law_draw : SpD := fun ds Φ _ => ∃ c : Int, ds = [.opq 0, .int c] ∧ 0 < c ∧ c < 1073741824 ∧ ∀ i : Int, 0 ≤ i → i < c → Φ (.int i)
theorem ok_law_draw (Z : Zs mg) (F : FunD K "_law_draw" "_law_draw" (defArgs s_law_draw) (defBody s_law_draw) (defScope s_law_draw) [] [] f fd) (hm : mg "_law_draw" = some (.ref f)) : FnS P w K mg base "_law_draw" 1 2 S_law_draw := by
  refine fnS_of (k := 0) F hm sc_law_draw (fun ds Φ Ψ h => by obtain ⟨_, rfl, _⟩ := h; rfl) (fun _ _ _ _ _ _ us hl => match us, hl with | [_, _], _ => rfl) (fun cdv A outer s H E hr ds Φ Ψ h => ?_)
  obtain ⟨c, rfl, h0, h1, k⟩ := h
  refine qs_draw k fun H t r n ns x2 x3 x4 x5 htr hne ht hr0 => ?_
  refine wSs.cons (ps_set (i := 2) sc_law_draw.nd rfl (.inl rfl) (pe_ix ix_list (pe_var (i := 0) rfl (Or.inl rfl)) pe_int (fun _ _ => rfl))) ⟨_, rfl, t, _, 0, .ref r, rfl, rfl, SqL.of ht, rfl, ?_⟩
  refine wSs.cons (ps_asg (pe_op op_add (pe_ix ix_list (pe_var (i := 0) rfl (Or.inl rfl)) pe_int (fun _ _ => rfl)) pe_int) (pg_sub (pe_var (i := 0) rfl (Or.inl rfl)) pe_int set_list (fun _ => rfl))) ⟨_, rfl, t, _, 1, .int n, rfl, rfl, SqL.of ht, rfl, n, 1, rfl, rfl, _, rfl, t, _, 1, 1, rfl, rfl, ht, rfl, ?_⟩
  have ht1 : upd H t (.lst [.ref r, .int (n + 1)]) t = some (.lst [.ref r, .int (n + 1)]) := upd_same
  have hr1 : upd H t (.lst [.ref r, .int (n + 1)]) r = some (.lst (ns.map V.int)) := by rw [upd_ne (Ne.symm htr)]; exact hr0
  have hl : 0 < ns.length := List.length_pos_iff.mpr hne
  obtain ⟨cell, hc, j, hj⟩ := row_at hne (n + 1)
  have hl2 : ((ns.map V.int).length : Int) = (ns.length : Int) := by simp
  refine wSs.cons (ps_set (i := 3) sc_law_draw.nd rfl (.inl rfl) (pe_op op_mod (pe_ix ix_list (pe_var (i := 0) rfl (Or.inl rfl)) pe_int (fun _ _ => rfl)) (pe_callB call_len_seq rfl Z.len PySem.boot_len (pa_cons (pe_var (i := 2) rfl (Or.inl rfl)) pa_nil)))) ⟨_, rfl, t, _, 1, .int (n + 1), rfl, rfl, SqL.of ht1, rfl, _, rfl, r, _, rfl, .inl (SqL.of hr1), n + 1, _, rfl, rfl, (by rw [hl2]; omega), ?_⟩
  rw [hl2]
  refine wSs.cons (ps_set (i := 4) sc_law_draw.nd rfl (.inl rfl) (pe_ix ix_list (pe_var (i := 2) rfl (Or.inl rfl)) (pe_var (i := 3) rfl (Or.inl rfl)) (fun _ _ => rfl))) ⟨_, rfl, _, rfl, r, _, _, .int cell, rfl, rfl, SqL.of hr1, hc, ?_⟩
  refine wSs.cons (ps_if (pt_cmpR op_ge (pe_var (i := 4) rfl (Or.inl rfl)) pe_int (nomark _)) pss_w pss_w) ⟨_, rfl, cell, _, rfl, rfl, _, rfl, ?_⟩
  by_cases hb : (1000000000000000000 : Int) ≤ cell
  · rw [decide_eq_true hb]
    show wSs _ _ _ _ _
    refine wSs.cons (ps_asg (pe_op op_fdiv (pe_var (i := 4) rfl (Or.inl rfl)) (pe_var (i := 1) rfl (Or.inl rfl))) (pg_sub (pe_var (i := 2) rfl (Or.inl rfl)) (pe_var (i := 3) rfl (Or.inl rfl)) set_list (fun _ => rfl))) ⟨_, rfl, _, rfl, cell, c, rfl, rfl, ⟨h0, h1⟩, _, rfl, _, rfl, r, _, _, j, rfl, rfl, hr1, hj, ?_⟩
    refine wSs.cons (ps_ret (pe_op op_mod (pe_var (i := 4) rfl (Or.inl rfl)) (pe_var (i := 1) rfl (Or.inl rfl)))) ⟨_, rfl, _, rfl, cell, c, rfl, rfl, h0, cell % c, n + 1, ns.set j (cell / c), rfl, Int.emod_nonneg _ (by omega), Int.emod_lt_of_pos _ h0, (fun e => hne (by simpa using e)), ?_⟩
    rw [List.map_set]; rfl
  · rw [decide_eq_false hb]
    show wSs _ _ _ _ _
    refine wSs.of pss_nil ?_
    have hb1 : ∀ x : Int, 0 ≤ x % 4294967291 ∧ x % 4294967291 < 4294967291 := fun x => ⟨by omega, by omega⟩
    refine wSs.cons (ps_set (i := 5) sc_law_draw.nd rfl (.inl rfl) (pe_op op_mod (pe_op op_add (pe_var (i := 4) rfl (Or.inl rfl)) (pe_op op_mul pe_int (pe_ix ix_list (pe_var (i := 0) rfl (Or.inl rfl)) pe_int (fun _ _ => rfl)))) pe_int)) ⟨_, rfl, _, rfl, t, _, 1, .int (n + 1), rfl, rfl, SqL.of ht1, rfl, 104729, n + 1, rfl, rfl, .inl ⟨by decide, by decide⟩, cell, _, rfl, rfl, _, 4294967291, rfl, rfl, (show (0 : Int) < 4294967291 by decide), ?_⟩
    have b1 := hb1 (cell + 104729 * (n + 1))
    refine wSs.cons (ps_set (i := 5) sc_law_draw.nd rfl (.inl rfl) (pe_op op_mod (pe_op op_pow (pe_var (i := 5) rfl (Or.inl rfl)) pe_int) pe_int)) ⟨_, rfl, (cell + 104729 * (n + 1)) % 4294967291, 5, rfl, rfl, ⟨by decide, by decide, by omega⟩, _, 4294967279, rfl, rfl, (show (0 : Int) < 4294967279 by decide), ?_⟩
    refine wSs.cons (ps_ret (pe_op op_mod (pe_op op_fdiv (pe_op op_mod (pe_op op_add (pe_op op_mul (pe_op op_fdiv (pe_var (i := 5) rfl (Or.inl rfl)) pe_int) pe_int) (pe_var (i := 5) rfl (Or.inl rfl))) pe_int) pe_int) (pe_var (i := 1) rfl (Or.inl rfl)))) ?_
    refine ⟨_, rfl, _, 64, rfl, rfl, ⟨by decide, by decide⟩, _, 69621, rfl, rfl, .inr ⟨by decide, by decide⟩, _, rfl, _, _, rfl, rfl, _, 4294967231, rfl, rfl, (show (0 : Int) < 4294967231 by decide), _, 8, rfl, rfl, ⟨by decide, by decide⟩, _, rfl, _, c, rfl, rfl, h0, _, n + 1, ns, rfl, Int.emod_nonneg _ (by omega), Int.emod_lt_of_pos _ h0, hne, ?_⟩
    funext b
    by_cases hb3 : b = r
    · rw [hb3, upd_same]; exact hr1
    · rw [upd_ne hb3]; rfl
abbrev s_law_gcd : Stmt := top 40
theorem sc_law_gcd : FnScope ["_law_one", "_law_two"] ["_law_one", "_law_two"] (defScope s_law_gcd) := ⟨rfl, rfl, rfl, by decide +kernel, rfl, by decide +kernel, by decide +kernel⟩
def S_law_gcd : SpD := fun ds Φ _ => ∃ (a b : Int), ds = [.int a, .int b] ∧ Φ (.int (Int.gcd a b))
theorem ok_law_gcd (Z : Zs mg) (F : FunD K "_law_gcd" "_law_gcd" (defArgs s_law_gcd) (defBody s_law_gcd) (defScope s_law_gcd) [] [] f fd) (hm : mg "_law_gcd" = some (.ref f)) : FnS P w K mg base "_law_gcd" 1 2 S_law_gcd := by
  refine fnS_of (k := 0) F hm sc_law_gcd (fun ds Φ Ψ h => by obtain ⟨_, _, rfl, _⟩ := h; rfl) (fun _ _ _ _ _ _ us hl => match us, hl with | [_, _], _ => rfl) (fun cdv A outer s H E hr ds Φ Ψ h => ?_)
  obtain ⟨a, b, rfl, k⟩ := h
  refine qs_par 0 1 (QE.to (qe_max2 Z.max (qv 0) (qe_sub qi (qv 0))) (QE.to (qe_max2 Z.max (qv 1) (qe_sub qi (qv 1))) ?_)) sc_law_gcd.nd
  refine qs_while (I := fun m ρ => ∃ x y : Int, 0 ≤ x ∧ 0 ≤ y ∧ y.toNat = m ∧ Int.gcd x y = Int.gcd a b ∧ ρ = [.dat (.int x), .dat (.int y)]) _ ⟨_, _, ?_, ?_, rfl, ?_, rfl⟩ pass_cx ?_
  · split <;> omega
  · split <;> omega
  · have e : ∀ x : Int, (if 0 - x > x then 0 - x else x).natAbs = x.natAbs := fun x => by split <;> omega
    unfold Int.gcd; rw [e, e]
  rintro m _ ⟨x, y, hx, hy, hm, hg, rfl⟩
  refine QB.to (qt_neI (qv 1) qi) ?_
  by_cases h0 : y = 0
  · subst h0
    refine qs_ret (QE.to (qv 0) ?_)
    show Φ (.int x)
    have : x = (Int.gcd a b : Int) := by rw [← hg, Int.gcd_zero_right]; omega
    rw [this]; exact k
  · rw [decide_eq_false h0]
    refine qs_par 0 1 (QE.to (qv 1) (QE.to (qe_mod (qv 0) (qv 1) (by omega)) ?_)) sc_law_gcd.nd
    refine qs_nil ⟨(x % y).toNat, ?_, y, x % y, hy, Int.emod_nonneg _ h0, rfl, ?_, rfl⟩
    · have := Int.emod_lt_of_pos x (show 0 < y by omega)
      omega
    · rw [← hg]
      obtain ⟨m, rfl⟩ := Int.eq_ofNat_of_zero_le hx
      obtain ⟨n, rfl⟩ := Int.eq_ofNat_of_zero_le hy
      show Nat.gcd n (m % n) = Nat.gcd m n
      rw [Nat.gcd_comm m n, Nat.gcd_rec n m, Nat.gcd_comm]
abbrev s_law_low : Stmt := top 41
theorem sc_law_low : FnScope ["_law_px", "_law_py", "_law_pw", "_law_div"] ["_law_px", "_law_py", "_law_pw"] (defScope s_law_low) := ⟨rfl, rfl, rfl, by decide +kernel, rfl, by decide +kernel, by decide +kernel⟩
def S_law_low : SpD := fun ds Φ _ => ∃ (a b w : Int) (n1 n2 n3 : Nat), ds = [.int a, .int b, .int w] ∧ Bn n1 a ∧ Bn n2 b ∧ Bn n3 w ∧ w ≠ 0 ∧ n3 ≤ 8900 ∧ Φ (low a b w).d
theorem ok_law_low (Z : Zs mg) (F_law_gcd : FnS P w K mg base "_law_gcd" 1 2 S_law_gcd) (F : FunD K "_law_low" "_law_low" (defArgs s_law_low) (defBody s_law_low) (defScope s_law_low) [] [] f fd) (hm : mg "_law_low" = some (.ref f)) : FnS P w K mg base "_law_low" 2 3 S_law_low := by
  refine fnS_of (k := 1) F hm sc_law_low (fun ds Φ Ψ h => by obtain ⟨_, _, _, _, _, _, rfl, _⟩ := h; rfl) (fun _ _ _ _ _ _ us hl => match us, hl with | [_, _, _], _ => rfl) (fun cdv A outer s H E hr ds Φ Ψ h => ?_)
  obtain ⟨a, b, w, n1, n2, n3, rfl, h1, h2, h3, hw, hn, k⟩ := h
  refine qs_set 3 (QE.to (qe_call F_law_gcd (hr.mono (by decide)) (qas_cons (qe_call F_law_gcd (hr.mono (by decide)) (qas_cons (qv 0) (qas_cons (qv 1) qas_nil)) ⟨_, _, rfl, rfl⟩) (qas_cons (qv 2) qas_nil)) ⟨_, _, rfl, rfl⟩) ?_) sc_law_low.nd
  have e : (if decide (0 < w) = true then D.int (Int.gcd (Int.gcd a b) w : Int) else D.int (0 - (Int.gcd (Int.gcd a b) w : Int))) = D.int (g3 a b w) := by unfold g3; by_cases h : 0 < w <;> simp [h]
  refine qs_set 3 (QE.to (QE.is (qe_if (qt_gt (qv 2) qi) (fun hb1 => (qv 3)) (fun hb2 => (qe_sub qi (qv 3)))) e) ?_) sc_law_low.nd
  have cz : ∀ i, CDivZ i (g3 a b w) := fun i => (bn_g3 h3 hw).cz (g3_ne hw) hn
  refine qs_ret (QE.to (qe_tup (qas_cons (qe_fdivZ (qv 0) (qv 3) (cz _) g3_dvd_a) (qas_cons (qe_fdivZ (qv 1) (qv 3) (cz _) g3_dvd_b) (qas_cons (qe_fdivZ (qv 2) (qv 3) (cz _) g3_dvd_w) qas_nil)))) ?_)
  exact k
abbrev s_law_pick : Stmt := top 39
theorem sc_law_pick : FnScope ["_law_town_here", "_law_some"] ["_law_town_here", "_law_some"] (defScope s_law_pick) := ⟨rfl, rfl, rfl, by decide +kernel, rfl, by decide +kernel, by decide +kernel⟩
def S_law_pick : SpD := fun ds Φ _ => ∃ xs : List D, ds = [.opq 0, .lst xs] ∧ xs ≠ [] ∧ xs.length ≤ 100000 ∧ ∀ d, d ∈ xs → Φ d
theorem ok_law_pick (Z : Zs mg) (F_law_draw : FnS P w K mg base "_law_draw" 1 2 S_law_draw) (F : FunD K "_law_pick" "_law_pick" (defArgs s_law_pick) (defBody s_law_pick) (defScope s_law_pick) [] [] f fd) (hm : mg "_law_pick" = some (.ref f)) : FnS P w K mg base "_law_pick" 2 2 S_law_pick := by
  refine fnS_of (k := 1) F hm sc_law_pick (fun ds Φ Ψ h => by obtain ⟨_, rfl, _⟩ := h; rfl) (fun _ _ _ _ _ _ us hl => match us, hl with | [_, _], _ => rfl) (fun cdv A outer s H E hr ds Φ Ψ h => ?_)
  obtain ⟨xs, rfl, hne, hl, k⟩ := h
  have hp : 0 < xs.length := List.length_pos_iff.mpr hne
  refine qs_ret (qx_ix ix_list od_ixL (fun _ _ => rfl) (QE.to (qv 1) (qx_call F_law_draw (hr.mono (by decide)) (QAs.to (qas_cons (qv 0) (qas_cons (qe_lenL Z.len (qv 1)) qas_nil)) ⟨_, rfl, by omega, by omega, fun i h0 h1 => ⟨_, i, xs[i.toNat]'(by omega), rfl, rfl, ?_, k _ (List.getElem_mem _)⟩⟩))))
  unfold atI ixN
  rw [if_pos h0, if_pos h1]
  exact List.getElem?_eq_getElem _
abbrev s_law_point : Stmt := top 45
theorem sc_law_point : FnScope ["_law_town_here", "_law_broad", "_law_px", "_law_py"] ["_law_town_here", "_law_broad"] (defScope s_law_point) := ⟨rfl, rfl, rfl, by decide +kernel, rfl, by decide +kernel, by decide +kernel⟩
def S_law_point : SpD := fun ds Φ _ => ∃ b : Int, ds = [.opq 0, .int b] ∧ 0 ≤ b ∧ b ≤ 7 ∧ ∀ p, Ok 3 p → Norm p → Φ p.d
theorem ok_law_point (Z : Zs mg) (F_law_low : FnS P w K mg base "_law_low" 2 3 S_law_low) (F_law_draw : FnS P w K mg base "_law_draw" 1 2 S_law_draw) (F_law_pick : FnS P w K mg base "_law_pick" 2 2 S_law_pick) (F : FunD K "_law_point" "_law_point" (defArgs s_law_point) (defBody s_law_point) (defScope s_law_point) [] [] f fd) (hm : mg "_law_point" = some (.ref f)) : FnS P w K mg base "_law_point" 3 2 S_law_point := by
  refine fnS_of (k := 2) F hm sc_law_point (fun ds Φ Ψ h => by obtain ⟨_, rfl, _⟩ := h; rfl) (fun _ _ _ _ _ _ us hl => match us, hl with | [_, _], _ => rfl) (fun cdv A outer s H E hr ds Φ Ψ h => ?_)
  obtain ⟨b, rfl, h0, h1, k⟩ := h
  have hb : Bn 3 b := by unfold Bn; omega
  refine qs_set 2 (qx_sub (qx_call F_law_draw (hr.mono (by decide)) (QAs.to (qas_cons (qv 0) (qas_cons (qe_add (qe_mul qi (qv 1) (by walk_at "cm")) qi) qas_nil)) ⟨_, rfl, by omega, by omega, fun i1 hi1 hj1 => ⟨_, rfl, (QE.to (qv 1) ⟨_, rfl, ?_⟩)⟩⟩))) sc_law_point.nd
  refine qs_set 3 (qx_sub (qx_call F_law_draw (hr.mono (by decide)) (QAs.to (qas_cons (qv 0) (qas_cons (qe_add (qe_mul qi (qv 1) (by walk_at "cm")) qi) qas_nil)) ⟨_, rfl, by omega, by omega, fun i2 hi2 hj2 => ⟨_, rfl, (QE.to (qv 1) ⟨_, rfl, ?_⟩)⟩⟩))) sc_law_point.nd
  refine qs_ret (qx_call F_law_low (hr.mono (by decide)) (qa_cons (QE.to (qv 2) (qa_cons (QE.to (qv 3) (qa_cons (qx_call F_law_pick (hr.mono (by decide)) (QAs.to (qas_cons (qv 0) (qas_cons (qe_lst (qas_cons qi (qas_cons qi (qas_cons qi (qas_cons qi (qas_cons qi qas_nil)))))) qas_nil)) ⟨_, rfl, List.cons_ne_nil _ _, Nat.le_of_ble_eq_true rfl, fun d hd => ?_⟩))))))))
  have hw : ∃ w : Int, d = .int w ∧ 0 < w ∧ w ≤ 3 := by
    simp only [List.mem_cons, List.not_mem_nil, or_false] at hd
    rcases hd with h | h | h | h | h <;> exact ⟨_, h, by decide, by decide⟩
  obtain ⟨w, rfl, w0, w1⟩ := hw
  have b1 : Bn 3 (i1 - b) := by unfold Bn; omega
  have b2 : Bn 3 (i2 - b) := by unfold Bn; omega
  have b3 : Bn 3 w := by unfold Bn; omega
  exact qa_nil ⟨_, _, _, _, _, _, rfl, b1, b2, b3, by omega, by omega, k _ ((low_ok b1 b2 b3 (by omega)).mono (by decide)) (low_norm (by omega))⟩
abbrev s_cost : Stmt := top 32
theorem sc_cost : FnScope ["one", "other", "p", "q"] ["one", "other"] (defScope s_cost) := ⟨rfl, rfl, rfl, by decide +kernel, rfl, by decide +kernel, by decide +kernel⟩
def S_cost : SpD := fun ds Φ _ => ∃ (l m : List Pt) (n k c : Nat), ds = [.lst (l.map Pt.d), .lst (m.map Pt.d)] ∧ (∀ p ∈ l, Ok n p) ∧ (∀ p ∈ m, Ok k p) ∧ (∀ p ∈ l, Norm p) ∧ (∀ p ∈ m, Norm p) ∧ l.length = m.length ∧ l ≠ [] ∧ l.length ≤ c ∧ c ≤ 14 ∧ n + k ≤ 3000 ∧ c * (2 * n + 2 * k + 3 + 1) ≤ 8400 ∧ Φ (costOf l m).d
theorem ok_cost (Z : Zs mg) (F_look_pairs : FnS P w K mg base "look_pairs" 3 2 S_look_pairs) (F_sum_of : FnS P w K mg base "sum_of" 4 1 S_sum_of) (F_gap : FnS P w K mg base "gap" 4 2 S_gap) (F : FunD K "cost" "cost" (defArgs s_cost) (defBody s_cost) (defScope s_cost) [] [] f fd) (hm : mg "cost" = some (.ref f)) : FnS P w K mg base "cost" 5 2 S_cost := by
  refine fnS_of (k := 4) F hm sc_cost (fun ds Φ Ψ h => by obtain ⟨_, _, _, _, _, rfl, _⟩ := h; rfl) (fun _ _ _ _ _ _ us hl => match us, hl with | [_, _], _ => rfl) (fun cdv A outer s H E hr ds Φ Ψ h => ?_)
  obtain ⟨l, m, n, k', c, rfl, ol, om, nl, nm, e, hne, hlc, hc, hn, hb, k⟩ := h
  have h14 : l.length ≤ 14 := by omega
  have oz1 : ∀ q ∈ l.zip m, Ok n q.1 := fun q hq => ol _ (mem_zip_of hq).1
  have oz2 : ∀ q ∈ l.zip m, Ok k' q.2 := fun q hq => om _ (mem_zip_of hq).2
  have hz := zip_le (m := m) h14
  refine qs_expr (QE.to (qe_call F_look_pairs (hr.mono (by decide)) (qas_cons (qv 0) (qas_cons (qv 1) qas_nil)) ⟨_, _, rfl, by walk_at "shp", by walk_at "shp", fun _ => rfl, fun h => absurd (by walk_at "prs") h⟩) ?_)
  have e1 : D.lst ((l.zip m).map fun q => (gap q.1 q.2).d) = D.lst (((l.zip m).map fun q => gap q.1 q.2).map Sh.d) := by rw [List.map_map]; rfl
  have os : ∀ a ∈ (l.zip m).map (fun q => gap q.1 q.2), SOk (2 * n + 2 * k' + 3) a := fun a ha => by
    obtain ⟨q, hq, rfl⟩ := List.mem_map.mp ha
    exact gap_ok (oz1 q hq) (oz2 q hq)
  refine qs_ret (qx_call F_sum_of (hr.mono (by decide)) (QAs.to (qas_cons (QE.is (qx_lc _ sc_cost.nd (blkOk_by (N := ["one", "other", "p", "q"]) (sc := defScope s_cost) (own := [("p", 2), ("q", 3)]) (by decide +kernel)) (qi_zip Z.zip (QAs.to (qas_cons (qv 0) (qas_cons (qv 1) qas_nil)) ⟨_, _, rfl, lcq_zipT _ (by walk_at "sz") (fun d hd => ⟨_, qgb_tup2 2 3 sc_cost.nd, fun s H C cl fp => (qe_call F_gap (hr.mono (by decide)) (qas_cons (qv 2) (qas_cons (qv 3) qas_nil)) ⟨_, _, _, _, rfl, by walk_at "ok", by walk_at "ok", by omega, rfl⟩)⟩) rfl⟩))) e1) qas_nil) ⟨_, _, c, rfl, os, by rw [List.length_map, List.length_zip]; omega, hc, hb, k⟩))
abbrev s_law_share : Stmt := top 42
theorem sc_law_share : FnScope ["_law_top", "_law_low_here", "_law_div"] ["_law_top", "_law_low_here"] (defScope s_law_share) := ⟨rfl, rfl, rfl, by decide +kernel, rfl, by decide +kernel, by decide +kernel⟩
def S_law_share : SpD := fun ds Φ _ => ∃ (a w : Int) (n1 n3 : Nat), ds = [.int a, .int w] ∧ Bn n1 a ∧ Bn n3 w ∧ w ≠ 0 ∧ n3 ≤ 8900 ∧ Φ (shr a w).d
theorem ok_law_share (Z : Zs mg) (F_law_gcd : FnS P w K mg base "_law_gcd" 1 2 S_law_gcd) (F : FunD K "_law_share" "_law_share" (defArgs s_law_share) (defBody s_law_share) (defScope s_law_share) [] [] f fd) (hm : mg "_law_share" = some (.ref f)) : FnS P w K mg base "_law_share" 2 2 S_law_share := by
  refine fnS_of (k := 1) F hm sc_law_share (fun ds Φ Ψ h => by obtain ⟨_, _, _, _, rfl, _⟩ := h; rfl) (fun _ _ _ _ _ _ us hl => match us, hl with | [_, _], _ => rfl) (fun cdv A outer s H E hr ds Φ Ψ h => ?_)
  obtain ⟨a, w, n1, n3, rfl, h1, h3, hw, hn, k⟩ := h
  refine qs_set 2 (QE.to (qe_call F_law_gcd (hr.mono (by decide)) (qas_cons (qv 0) (qas_cons (qv 1) qas_nil)) ⟨_, _, rfl, rfl⟩) ?_) sc_law_share.nd
  have e0 : Int.gcd (Int.gcd a 0) w = Int.gcd a w := by simp [Int.gcd]
  have e : (if decide (0 < w) = true then D.int (Int.gcd a w : Int) else D.int (0 - (Int.gcd a w : Int))) = D.int (g3 a 0 w) := by unfold g3; rw [e0]; by_cases h : 0 < w <;> simp [h]
  refine qs_set 2 (QE.to (QE.is (qe_if (qt_gt (qv 1) qi) (fun hb1 => (qv 2)) (fun hb2 => (qe_sub qi (qv 2)))) e) ?_) sc_law_share.nd
  have cz : ∀ i, CDivZ i (g3 a 0 w) := fun i => (bn_g3 h3 hw).cz (g3_ne hw) hn
  refine qs_ret (QE.to (qe_tup (qas_cons (qe_fdivZ (qv 0) (qv 2) (cz _) g3_dvd_a) (qas_cons (qe_fdivZ (qv 1) (qv 2) (cz _) g3_dvd_w) qas_nil))) ?_)
  exact k
abbrev s_law_sum : Stmt := top 48
theorem sc_law_sum : FnScope ["_law_squares", "_law_top", "_law_low_here", "_law_one"] ["_law_squares"] (defScope s_law_sum) := ⟨rfl, rfl, rfl, by decide +kernel, rfl, by decide +kernel, by decide +kernel⟩
def S_law_sum : SpD := fun ds Φ _ => ∃ (l : List Sh) (n c : Nat), ds = [.lst (l.map Sh.d)] ∧ (∀ a ∈ l, SOk n a) ∧ l.length ≤ c ∧ c ≤ 14 ∧ c * (n + 1) ≤ 8400 ∧ Φ (sumS l).d
theorem ok_law_sum (Z : Zs mg) (F_law_share : FnS P w K mg base "_law_share" 2 2 S_law_share) (F : FunD K "_law_sum" "_law_sum" (defArgs s_law_sum) (defBody s_law_sum) (defScope s_law_sum) [] [] f fd) (hm : mg "_law_sum" = some (.ref f)) : FnS P w K mg base "_law_sum" 3 1 S_law_sum := by
  refine fnS_of (k := 2) F hm sc_law_sum (fun ds Φ Ψ h => by obtain ⟨_, _, _, rfl, _⟩ := h; rfl) (fun _ _ _ _ _ _ us hl => match us, hl with | [_], _ => rfl) (fun cdv A outer s H E hr ds Φ Ψ h => ?_)
  obtain ⟨l, n, c, rfl, hl, hlc, h14, hcn, k⟩ := h
  have hb : ∀ i, Bn 8401 (rawS (l.take i)).1 ∧ Bn 8401 (rawS (l.take i)).2 ∧ 0 < (rawS (l.take i)).2 := fun i => by
    obtain ⟨a, b, c', _⟩ := rawS_ok (l := l.take i) fun a ha => hl a (List.mem_of_mem_take ha)
    have hle : 1 + (l.take i).length * (n + 1) ≤ 8401 := by
      have : (l.take i).length * (n + 1) ≤ c * (n + 1) := Nat.mul_le_mul_right _ (by rw [List.length_take]; omega)
      omega
    exact ⟨a.mono hle, b.mono hle, c'⟩
  refine qs_asg (QE.to (qe_tup (qas_cons qi (qas_cons qi qas_nil))) ⟨_, qg_tup (qgs_cons (qg_name 1 sc_law_sum.nd) (qgs_cons (qg_name 2 sc_law_sum.nd) qgs_nil)), ?_⟩)
  refine qs_for (I := fun i ρ => ∃ x : Sl, ρ = [.dat (.lst (l.map Sh.d)), .dat (.int (rawS (l.take i)).1), .dat (.int (rawS (l.take i)).2), x]) pass_cx (qi_lst (QE.to (qv 0) ⟨_, rfl, ⟨_, rfl⟩, ?_, ?_⟩))
  · rintro i d _ hd ⟨x, rfl⟩
    rw [List.getElem?_map] at hd
    cases e : l[i]? with
    | none => rw [e] at hd; cases hd
    | some p =>
      rw [e] at hd; cases hd
      refine ⟨_, qg_name 3 sc_law_sum.nd, ?_⟩
      have op := hl p (List.mem_of_getElem? e)
      have hn : n ≤ 8400 := by
        have hi : i < l.length := (List.getElem?_eq_some_iff.mp e).1
        have : 1 * (n + 1) ≤ c * (n + 1) := Nat.mul_le_mul_right _ (by omega)
        omega
      have b1 := op.t; have b2 := op.b
      obtain ⟨b3, b4, _⟩ := hb i
      refine qs_par 1 2 (QE.to (qe_add (qe_mul (qv 1) (qe_ixT (qv 3) qi) (by walk_at "cm")) (qe_mul (qe_ixT (qv 3) qi) (qv 2) (by walk_at "cm"))) (QE.to (qe_mul (qv 2) (qe_ixT (qv 3) qi) (by walk_at "cm")) ?_)) sc_law_sum.nd
      refine qs_nil ⟨.dat p.d, ?_⟩
      unfold rawS
      rw [fold_take _ _ e]; rfl
  · rintro _ ⟨x, rfl⟩
    obtain ⟨b1, b2, b3⟩ := hb l.length
    rw [List.length_map]
    rw [List.take_length] at b1 b2 b3 ⊢
    have e := (rawS_ok hl).2.2.2
    rw [← e] at k
    refine qs_ret (QE.to (qe_call F_law_share (hr.mono (by decide)) (qas_cons (qv 1) (qas_cons (qv 2) qas_nil)) ⟨_, _, _, _, rfl, by walk_at "bn", by walk_at "bn", by walk_at "nz", by omega, rfl⟩) k)
abbrev s_law_square : Stmt := top 43
theorem sc_law_square : FnScope ["_law_p", "_law_q", "_law_dx", "_law_dy"] ["_law_p", "_law_q"] (defScope s_law_square) := ⟨rfl, rfl, rfl, by decide +kernel, rfl, by decide +kernel, by decide +kernel⟩
def S_law_square : SpD := fun ds Φ _ => ∃ (p q : Pt) (n m : Nat), ds = [p.d, q.d] ∧ Ok n p ∧ Ok m q ∧ n + m ≤ 4000 ∧ Φ (gap p q).d
theorem ok_law_square (Z : Zs mg) (F_law_share : FnS P w K mg base "_law_share" 2 2 S_law_share) (F : FunD K "_law_square" "_law_square" (defArgs s_law_square) (defBody s_law_square) (defScope s_law_square) [] [] f fd) (hm : mg "_law_square" = some (.ref f)) : FnS P w K mg base "_law_square" 3 2 S_law_square := by
  refine fnS_of (k := 2) F hm sc_law_square (fun ds Φ Ψ h => by obtain ⟨_, _, _, _, rfl, _⟩ := h; rfl) (fun _ _ _ _ _ _ us hl => match us, hl with | [_, _], _ => rfl) (fun cdv A outer s H E hr ds Φ Ψ h => ?_)
  obtain ⟨p, q, n, m, rfl, hp, hq, hn, k⟩ := h
  have b1 := hp.x; have b2 := hp.y; have b3 := hp.w; have b4 := hq.x; have b5 := hq.y; have b6 := hq.w
  have z1 := hp.nz; have z2 := hq.nz
  refine qs_set 2 (QE.to (qe_sub (qe_mul (qe_ixT (qv 0) qi) (qe_ixT (qv 1) qi) (by walk_at "cm")) (qe_mul (qe_ixT (qv 1) qi) (qe_ixT (qv 0) qi) (by walk_at "cm"))) ?_) sc_law_square.nd
  refine qs_set 3 (QE.to (qe_sub (qe_mul (qe_ixT (qv 0) qi) (qe_ixT (qv 1) qi) (by walk_at "cm")) (qe_mul (qe_ixT (qv 1) qi) (qe_ixT (qv 0) qi) (by walk_at "cm"))) ?_) sc_law_square.nd
  have e : shr ((p.x * q.w - q.x * p.w) * (p.x * q.w - q.x * p.w) + (p.y * q.w - q.y * p.w) * (p.y * q.w - q.y * p.w)) (p.w * p.w * q.w * q.w) = gap p q := by
    have hb : p.w * p.w * q.w * q.w ≠ 0 := mulnz (mulnz (mulnz z1 z1) z2) z2
    refine sh_inj (shr_norm hb) (gap_norm hp hq) ?_
    rw [shr_val hb, gap_val hp hq]
    have c1 := castne z1; have c2 := castne z2
    unfold Pt.re Pt.im
    simp only [Rat.intCast_add, Rat.intCast_sub, Rat.intCast_mul]; grind
  rw [← e] at k
  refine qs_ret (QE.to (qe_call F_law_share (hr.mono (by decide)) (qas_cons (qe_add (qe_mul (qv 2) (qv 2) (by walk_at "cm")) (qe_mul (qv 3) (qv 3) (by walk_at "cm"))) (qas_cons (qe_mul (qe_mul (qe_mul (qe_ixT (qv 0) qi) (qe_ixT (qv 0) qi) (by walk_at "cm")) (qe_ixT (qv 1) qi) (by walk_at "cm")) (qe_ixT (qv 1) qi) (by walk_at "cm")) qas_nil)) ⟨_, _, _, _, rfl, by walk_at "bn", by walk_at "bn", by walk_at "nz", by omega, rfl⟩) k)
abbrev s_law_led : Stmt := top 44
theorem sc_law_led : FnScope ["_law_motion_here", "_law_p", "_law_turn_here", "_law_move", "_law_over_it", "_law_px", "_law_py", "_law_pw", "_law_ax", "_law_ay", "_law_aw"] ["_law_motion_here", "_law_p"] (defScope s_law_led) := ⟨rfl, rfl, rfl, by decide +kernel, rfl, by decide +kernel, by decide +kernel⟩
def S_law_led : SpD := fun ds Φ _ => ∃ (m : Mo) (p : Pt) (n k' : Nat), ds = [m.d, p.d] ∧ MOk n m ∧ Ok k' p ∧ n ≤ 2000 ∧ k' ≤ 2000 ∧ Φ (ledBy m p).d
theorem ok_law_led (Z : Zs mg) (F_law_low : FnS P w K mg base "_law_low" 2 3 S_law_low) (F : FunD K "_law_led" "_law_led" (defArgs s_law_led) (defBody s_law_led) (defScope s_law_led) [] [] f fd) (hm : mg "_law_led" = some (.ref f)) : FnS P w K mg base "_law_led" 3 2 S_law_led := by
  refine fnS_of (k := 2) F hm sc_law_led (fun ds Φ Ψ h => by obtain ⟨_, _, _, _, rfl, _⟩ := h; rfl) (fun _ _ _ _ _ _ us hl => match us, hl with | [_, _], _ => rfl) (fun cdv A outer s H E hr ds Φ Ψ h => ?_)
  obtain ⟨m, p, n, k', rfl, hm', hp, hn, hk, k⟩ := h
  have b1 := hp.x; have b2 := hp.y; have b3 := hp.w
  have c1 := hm'.t.x; have c2 := hm'.t.y; have c3 := hm'.t.w; have c4 := hm'.s.x; have c5 := hm'.s.y; have c6 := hm'.s.w
  have z1 := hp.nz; have z2 := hm'.t.nz; have z3 := hm'.s.nz
  refine qs_asg (QE.to (qv 0) ⟨_, qg_tup (qgs_cons (qg_name 2 sc_law_led.nd) (qgs_cons (qg_name 3 sc_law_led.nd) (qgs_cons (qg_name 4 sc_law_led.nd) qgs_nil))), ?_⟩)
  refine qs_asg (QE.to (qv 1) ⟨_, qg_tup (qgs_cons (qg_name 5 sc_law_led.nd) (qgs_cons (qg_name 6 sc_law_led.nd) (qgs_cons (qg_name 7 sc_law_led.nd) qgs_nil))), ?_⟩)
  have e : (if decide (m.f = 1) = true then D.int (0 - p.y) else D.int p.y) = D.int (if m.f = 1 then 0 - p.y else p.y) := by by_cases h : m.f = 1 <;> simp [h]
  have b2' : Bn k' (if m.f = 1 then 0 - p.y else p.y) := by split; exact (show Bn k' (0 - p.y) by rw [Int.zero_sub]; exact b2.neg); exact b2
  refine qs_set 6 (QE.to (QE.is (qe_if (qt_eqI (qv 4) qi) (fun hb1 => (qe_sub qi (qv 6))) (fun hb2 => (qv 6))) e) ?_) sc_law_led.nd
  generalize hy : (if m.f = 1 then 0 - p.y else p.y) = y at b2'
  refine qs_set 8 (QE.to (qe_sub (qe_mul (qe_ixT (qv 2) qi) (qv 5) (by walk_at "cm")) (qe_mul (qe_ixT (qv 2) qi) (qv 6) (by walk_at "cm"))) ?_) sc_law_led.nd
  refine qs_set 9 (QE.to (qe_add (qe_mul (qe_ixT (qv 2) qi) (qv 6) (by walk_at "cm")) (qe_mul (qe_ixT (qv 2) qi) (qv 5) (by walk_at "cm"))) ?_) sc_law_led.nd
  refine qs_set 10 (QE.to (qe_mul (qe_ixT (qv 2) qi) (qv 7) (by walk_at "cm")) ?_) sc_law_led.nd
  have ee : low ((m.t.x * p.x - m.t.y * y) * m.s.w + m.s.x * (m.t.w * p.w)) ((m.t.x * y + m.t.y * p.x) * m.s.w + m.s.y * (m.t.w * p.w)) (m.t.w * p.w * m.s.w) = ledBy m p := by
    have hw := mulnz (mulnz z2 z1) z3
    refine val_inj (low_norm hw) (ledBy_norm hm' hp) ?_ ?_
    · rw [low_re hw, ledBy_re hm' hp, ← hy]
      have c1 := castne z1; have c2 := castne z2; have c3 := castne z3
      unfold Pt.re Pt.im
      split <;> simp only [Rat.intCast_add, Rat.intCast_sub, Rat.intCast_mul, Rat.intCast_zero] <;> grind
    · rw [low_im hw, ledBy_im hm' hp, ← hy]
      have c1 := castne z1; have c2 := castne z2; have c3 := castne z3
      unfold Pt.re Pt.im
      split <;> simp only [Rat.intCast_add, Rat.intCast_sub, Rat.intCast_mul, Rat.intCast_zero] <;> grind
  rw [← ee] at k
  refine qs_ret (QE.to (qe_call F_law_low (hr.mono (by decide)) (qas_cons (qe_add (qe_mul (qv 8) (qe_ixT (qv 3) qi) (by walk_at "cm")) (qe_mul (qe_ixT (qv 3) qi) (qv 10) (by walk_at "cm"))) (qas_cons (qe_add (qe_mul (qv 9) (qe_ixT (qv 3) qi) (by walk_at "cm")) (qe_mul (qe_ixT (qv 3) qi) (qv 10) (by walk_at "cm"))) (qas_cons (qe_mul (qv 10) (qe_ixT (qv 3) qi) (by walk_at "cm")) qas_nil))) ⟨_, _, _, _, _, _, rfl, by walk_at "bn", by walk_at "bn", by walk_at "bn", by walk_at "nz", by omega, rfl⟩) k)
abbrev s_law_cost : Stmt := top 49
theorem sc_law_cost : FnScope ["_law_one", "_law_two", "_law_motion_here", "_law_k"] ["_law_one", "_law_two", "_law_motion_here"] (defScope s_law_cost) := ⟨rfl, rfl, rfl, by decide +kernel, rfl, by decide +kernel, by decide +kernel⟩
def S_law_cost : SpD := fun ds Φ _ => ∃ (l m : List Pt) (mo : Mo) (j n k c : Nat), ds = [.lst (l.map Pt.d), .lst (m.map Pt.d), mo.d] ∧ MOk j mo ∧ (∀ p ∈ l, Ok n p) ∧ (∀ p ∈ m, Ok k p) ∧ l.length = m.length ∧ l.length ≤ c ∧ c ≤ 14 ∧ j ≤ 500 ∧ n + k ≤ 1000 ∧ c * (2 * (2 * j + n + 2) + 2 * k + 3 + 1) ≤ 8400 ∧ Φ (behind (ledBy mo) l m).d
theorem ok_law_cost (Z : Zs mg) (F_law_sum : FnS P w K mg base "_law_sum" 3 1 S_law_sum) (F_law_square : FnS P w K mg base "_law_square" 3 2 S_law_square) (F_law_led : FnS P w K mg base "_law_led" 3 2 S_law_led) (F : FunD K "_law_cost" "_law_cost" (defArgs s_law_cost) (defBody s_law_cost) (defScope s_law_cost) [] [] f fd) (hm : mg "_law_cost" = some (.ref f)) : FnS P w K mg base "_law_cost" 4 3 S_law_cost := by
  refine fnS_of (k := 3) F hm sc_law_cost (fun ds Φ Ψ h => by obtain ⟨_, _, _, _, _, _, _, rfl, _⟩ := h; rfl) (fun _ _ _ _ _ _ us hl => match us, hl with | [_, _, _], _ => rfl) (fun cdv A outer s H E hr ds Φ Ψ h => ?_)
  obtain ⟨l, m, mo, j, n, k', c, rfl, omo, ol, om, e, hlc, hc, hj, hn, hb, k⟩ := h
  have hz : (l.zip m).length = l.length := by rw [List.length_zip]; omega
  have e1 : D.lst ((l.zip m).map fun q => (gap (ledBy mo q.1) q.2).d) = D.lst (((l.zip m).map fun q => gap (ledBy mo q.1) q.2).map Sh.d) := by rw [List.map_map]; rfl
  have os : ∀ a ∈ (l.zip m).map (fun q => gap (ledBy mo q.1) q.2), SOk (2 * (2 * j + n + 2) + 2 * k' + 3) a := fun a ha => by
    obtain ⟨q, hq, rfl⟩ := List.mem_map.mp ha
    exact gap_ok (ledBy_ok omo (ol _ (mem_zip_of hq).1)) (om _ (mem_zip_of hq).2)
  refine qs_ret (qx_call F_law_sum (hr.mono (by decide)) (qa_cons (qx_lc (fun i acc => acc = ((l.zip m).take i).map fun q => (gap (ledBy mo q.1) q.2).d) sc_law_cost.nd (blkOk_by (N := ["_law_one", "_law_two", "_law_motion_here", "_law_k"]) (sc := defScope s_law_cost) (own := [("_law_k", 3)]) (by decide +kernel)) (qi_range1 Z.range (QAs.to (qas_cons (qe_lenL Z.len (qv 0)) qas_nil) ⟨_, rfl, by rw [List.length_map]; omega, by rw [List.length_map]; omega, ⟨?_, by simp, ?_, ?_⟩⟩)))))
  · rw [rangeD_length, List.length_map]; omega
  · intro i d acc hd hI
    have hi : i < l.length := by
      have := (List.getElem?_eq_some_iff.mp hd).1
      rw [rangeD_length, List.length_map] at this
      omega
    have e2 : d = .int i := by
      rw [rangeD_get (by rw [List.length_map]; omega)] at hd
      cases hd
      simp
    subst e2
    have him : i < m.length := by omega
    have a1 : atI (l.map Pt.d) (i : Int) = some (l[i]).d := by
      unfold atI ixN
      rw [List.length_map, if_pos (by omega), if_pos (by omega)]
      show (l.map Pt.d)[(i : Int).toNat]? = _
      rw [List.getElem?_map, show (i : Int).toNat = i by omega, List.getElem?_eq_getElem hi]; rfl
    have a2 : atI (m.map Pt.d) (i : Int) = some (m[i]).d := by
      unfold atI ixN
      rw [List.length_map, if_pos (by omega), if_pos (by omega)]
      show (m.map Pt.d)[(i : Int).toNat]? = _
      rw [List.getElem?_map, show (i : Int).toNat = i by omega, List.getElem?_eq_getElem him]; rfl
    have o1 := ol l[i] (List.getElem_mem hi)
    have o2 := om m[i] (List.getElem_mem him)
    refine ⟨_, qgb_name 3 sc_law_cost.nd, fun b => b = true, rfl, fun _ s H C cl fp => QE.to (qe_call F_law_square (hr.mono (by decide)) (qas_cons (qe_call F_law_led (hr.mono (by decide)) (qas_cons (qv 2) (qas_cons (qe_ixL (qv 0) (qv 3) a1) qas_nil)) ⟨mo, l[i], j, n, rfl, omo, o1, by omega, by omega, rfl⟩) (qas_cons (qe_ixL (qv 1) (qv 3) a2) qas_nil)) ⟨_, _, _, _, rfl, ledBy_ok omo o1, o2, by omega, rfl⟩) ?_, fun z => Bool.noConfusion z⟩
    have ez : (l.zip m)[i]? = some (l[i], m[i]) := by rw [List.getElem?_zip_eq_some]; exact ⟨List.getElem?_eq_getElem hi, List.getElem?_eq_getElem him⟩
    rw [hI, List.take_succ, ez]; simp
  · intro acc hI _
    rw [rangeD_length, List.length_map] at hI
    have ht : (l.zip m).take ((l.length : Int).toNat) = l.zip m := by rw [List.take_of_length_le (by omega)]
    rw [ht] at hI
    subst hI
    rw [e1]
    exact qa_nil ⟨_, _, c, rfl, os, by rw [List.length_map]; omega, hc, hb, k⟩
abbrev s_law_turn : Stmt := top 46
theorem sc_law_turn : FnScope ["_law_town_here", "_law_a", "_law_b", "_law_w"] ["_law_town_here"] (defScope s_law_turn) := ⟨rfl, rfl, rfl, by decide +kernel, rfl, by decide +kernel, by decide +kernel⟩
def S_law_turn : SpD := fun ds Φ _ => ds = [.opq 0] ∧ ∀ p, Ok 4 p → Norm p → size p = ⟨1, 1⟩ → Φ p.d
theorem ok_law_turn (Z : Zs mg) (F_law_pick : FnS P w K mg base "_law_pick" 2 2 S_law_pick) (F_law_low : FnS P w K mg base "_law_low" 2 3 S_law_low) (F : FunD K "_law_turn" "_law_turn" (defArgs s_law_turn) (defBody s_law_turn) (defScope s_law_turn) [] [] f fd) (hm : mg "_law_turn" = some (.ref f)) : FnS P w K mg base "_law_turn" 3 1 S_law_turn := by
  refine fnS_of (k := 2) F hm sc_law_turn (fun ds Φ Ψ h => by obtain ⟨rfl, _⟩ := h; rfl) (fun _ _ _ _ _ _ us hl => match us, hl with | [_], _ => rfl) (fun cdv A outer s H E hr ds Φ Ψ h => ?_)
  obtain ⟨rfl, k⟩ := h
  refine qs_asg ?_
  refine qx_call F_law_pick (hr.mono (by decide)) ?_
  refine qa_cons ?_
  refine QE.to (qv 0) ?_
  refine qa_cons ?_
  refine qx_lst ?_
  iterate 5 (refine qa_cons ?_; refine qx_tup ?_; refine qa_cons ?_; refine QE.to qi ?_; refine qa_cons ?_; refine QE.to qi ?_; refine qa_cons ?_; refine QE.to qi ?_; refine qa_nil ⟨small (Nat.le_of_ble_eq_true rfl), ?_⟩)
  refine qa_nil ⟨small (Nat.le_of_ble_eq_true rfl), qa_nil ⟨_, rfl, List.cons_ne_nil _ _, Nat.le_of_ble_eq_true rfl, fun d hd => ?_⟩⟩
  have hw : ∃ a b w : Int, d = .tup [.int a, .int b, .int w] ∧ (a, b, w) ∈ [((1 : Int), (0 : Int), (1 : Int)), (0, 1, 1), (3, 4, 5), (4, 3, 5), (5, 12, 13)] := by
    simp only [List.mem_cons, List.not_mem_nil, or_false] at hd
    rcases hd with h | h | h | h | h <;> exact ⟨_, _, _, h, by decide⟩
  obtain ⟨a, b, w, rfl, hm'⟩ := hw
  refine ⟨_, qg_tup (qgs_cons (qg_name 1 sc_law_turn.nd) (qgs_cons (qg_name 2 sc_law_turn.nd) (qgs_cons (qg_name 3 sc_law_turn.nd) qgs_nil))), ?_⟩
  have bb : Bn 4 a ∧ Bn 4 b ∧ Bn 4 w ∧ w ≠ 0 := by
    have h : ∀ t : Int × Int × Int, t ∈ [((1 : Int), (0 : Int), (1 : Int)), (0, 1, 1), (3, 4, 5), (4, 3, 5), (5, 12, 13)] → t.1.natAbs < 2 ^ 4 ∧ t.2.1.natAbs < 2 ^ 4 ∧ t.2.2.natAbs < 2 ^ 4 ∧ t.2.2 ≠ 0 := by decide +kernel
    exact h (a, b, w) hm'
  obtain ⟨ba, bb, bw, wz⟩ := bb
  have two : ∀ d : D, d ∈ [D.int 1, D.int (0 - 1)] → ∃ s : Int, d = .int s ∧ s ∈ [(1 : Int), -1] := fun d hd => by
    simp only [List.mem_cons, List.not_mem_nil, or_false] at hd
    rcases hd with h | h <;> exact ⟨_, h, by decide⟩
  have fin : ∀ t : Int × Int × Int, t ∈ [((1 : Int), (0 : Int), (1 : Int)), (0, 1, 1), (3, 4, 5), (4, 3, 5), (5, 12, 13)] → ∀ s1, s1 ∈ [(1 : Int), -1] → ∀ s2, s2 ∈ [(1 : Int), -1] → size (low (t.1 * s1) (t.2.1 * s2) t.2.2) = ⟨1, 1⟩ := by decide +kernel
  refine qs_ret (qx_call F_law_low (hr.mono (by decide)) (qa_cons (qx_mul (QE.to (qv 1) ⟨_, rfl, qx_call F_law_pick (hr.mono (by decide)) (QAs.to (qas_cons (qv 0) (qas_cons (qe_lst (qas_cons qi (qas_cons (qe_sub qi qi) qas_nil))) qas_nil)) ⟨_, rfl, List.cons_ne_nil _ _, Nat.le_of_ble_eq_true rfl, fun d1 hd1 => ?_⟩)⟩))))
  obtain ⟨s1, rfl, h1⟩ := two d1 hd1
  have b1 : Bn 2 s1 := by
    simp only [List.mem_cons, List.not_mem_nil, or_false] at h1
    unfold Bn; omega
  refine ⟨_, rfl, (by walk_at "cm"), qa_cons (qx_mul (QE.to (qv 2) ⟨_, rfl, qx_call F_law_pick (hr.mono (by decide)) (QAs.to (qas_cons (qv 0) (qas_cons (qe_lst (qas_cons qi (qas_cons (qe_sub qi qi) qas_nil))) qas_nil)) ⟨_, rfl, List.cons_ne_nil _ _, Nat.le_of_ble_eq_true rfl, fun d2 hd2 => ?_⟩)⟩))⟩
  obtain ⟨s2, rfl, h2⟩ := two d2 hd2
  have b2 : Bn 2 s2 := by
    simp only [List.mem_cons, List.not_mem_nil, or_false] at h2
    unfold Bn; omega
  have pm : ∀ {x y : Int}, Bn 4 x → y ∈ [(1 : Int), -1] → Bn 4 (x * y) := fun {x y} hx hy => by
    simp only [List.mem_cons, List.not_mem_nil, or_false] at hy
    unfold Bn at *
    rcases hy with rfl | rfl <;> omega
  have ba1 := pm ba h1
  have bb2 := pm bb h2
  refine ⟨_, rfl, (by walk_at "cm"), qa_cons (QE.to (qv 3) (qa_nil ⟨_, _, _, _, _, _, rfl, ba.mul b1, bb.mul b2, bw, wz, by omega, k _ ((low_ok ba1 bb2 bw wz).mono (by decide)) (low_norm wz) (fin (a, b, w) hm' s1 h1 s2 h2)⟩))⟩
abbrev s_law_motion : Stmt := top 47
theorem sc_law_motion : FnScope ["_law_town_here"] ["_law_town_here"] (defScope s_law_motion) := ⟨rfl, rfl, rfl, by decide +kernel, rfl, by decide +kernel, by decide +kernel⟩
def S_law_motion : SpD := fun ds Φ _ => ds = [.opq 0] ∧ ∀ m, MOk 4 m → Φ m.d
theorem ok_law_motion (Z : Zs mg) (F_law_turn : FnS P w K mg base "_law_turn" 3 1 S_law_turn) (F_law_point : FnS P w K mg base "_law_point" 3 2 S_law_point) (F_law_draw : FnS P w K mg base "_law_draw" 1 2 S_law_draw) (F : FunD K "_law_motion" "_law_motion" (defArgs s_law_motion) (defBody s_law_motion) (defScope s_law_motion) [] [] f fd) (hm : mg "_law_motion" = some (.ref f)) : FnS P w K mg base "_law_motion" 4 1 S_law_motion := by
  refine fnS_of (k := 3) F hm sc_law_motion (fun ds Φ Ψ h => by obtain ⟨rfl, _⟩ := h; rfl) (fun _ _ _ _ _ _ us hl => match us, hl with | [_], _ => rfl) (fun cdv A outer s H E hr ds Φ Ψ h => ?_)
  obtain ⟨rfl, k⟩ := h
  refine qs_ret (qx_tup (qa_cons (qx_call F_law_turn (hr.mono (by decide)) (QAs.to (qas_cons (qv 0) qas_nil) ⟨rfl, fun p1 op1 np1 sp1 => (qa_cons (qx_call F_law_point (hr.mono (by decide)) (QAs.to (qas_cons (qv 0) (qas_cons qi qas_nil)) ⟨_, rfl, by omega, by omega, fun p2 op2 np2 => (qa_cons (qx_call F_law_draw (hr.mono (by decide)) (QAs.to (qas_cons (qv 0) (qas_cons qi qas_nil)) ⟨_, rfl, by omega, by omega, fun i3 hi3 hj3 => (QAs.to qas_nil ⟨small (Nat.le_of_ble_eq_true rfl), ?_⟩)⟩)))⟩)))⟩))))
  exact k ⟨p1, p2, i3⟩ ⟨op1, op2.mono (by decide), np1, np2, sp1, by show i3 = 0 ∨ i3 = 1; omega⟩
abbrev s_is_whole : Stmt := top 6
theorem sc_is_whole : FnScope ["thing", "low", "high"] ["thing", "low", "high"] (defScope s_is_whole) := ⟨rfl, rfl, rfl, by decide +kernel, rfl, by decide +kernel, by decide +kernel⟩
def S_is_whole : SpD := fun ds Φ _ => ∃ (d : D) (lo hi : Int), ds = [d, .int lo, .int hi] ∧ (∀ n, d ≠ .opq n) ∧ Φ (.bl (isWh d lo hi))
theorem ok_is_whole (Z : Zs mg) (F_is_number : FnS P w K mg base "is_number" 1 1 S_is_number) (F : FunD K "is_whole" "is_whole" (defArgs s_is_whole) (defBody s_is_whole) (defScope s_is_whole) [] [] f fd) (hm : mg "is_whole" = some (.ref f)) : FnS P w K mg base "is_whole" 2 3 S_is_whole := by
  refine fnS_of (k := 1) F hm sc_is_whole (fun ds Φ Ψ h => by obtain ⟨_, _, _, rfl, _⟩ := h; rfl) (fun _ _ _ _ _ _ us hl => match us, hl with | [_, _, _], _ => rfl) (fun cdv A outer s H E hr ds Φ Ψ h => ?_)
  obtain ⟨d, lo, hi, rfl, ho, k⟩ := h
  by_cases hi' : d.isI = true
  · cases d with
    | int i =>
      refine qs_ret (QE.to (qe_and (qe_call F_is_number (hr.mono (by decide)) (qas_cons (qv 0) qas_nil) ⟨_, rfl, by walk_at "nopq", rfl⟩) (fun hb2 => (qx_one (qe_le2 (qv 1) (qv 0) (fun hb1 => (qv 2)))))) ?_)
      exact k
    | _ => cases hi'
  · have e : d.isI = false := by simpa using hi'
    have e2 : isWh d lo hi = false := by cases d <;> first | rfl | cases e
    rw [e2] at k
    refine qs_ret (qx_and (QE.to (qe_call F_is_number (hr.mono (by decide)) (qas_cons (qv 0) qas_nil) ⟨_, rfl, by walk_at "nopq", rfl⟩) ⟨_, rfl, ?_⟩))
    rw [e]
    exact k
abbrev s_is_motion : Stmt := top 23
theorem sc_is_motion : FnScope ["thing"] ["thing"] (defScope s_is_motion) := ⟨rfl, rfl, rfl, by decide +kernel, rfl, by decide +kernel, by decide +kernel⟩
def S_is_motion : SpD := fun ds Φ _ => ∃ (d : D) (n : Nat), ds = [d] ∧ D.shp 8 d = true ∧ Db n d ∧ n ≤ 3000 ∧ Φ (.bl (isMo d))
theorem ok_is_motion (Z : Zs mg) (F_is_whole : FnS P w K mg base "is_whole" 2 3 S_is_whole) (F_is_point : FnS P w K mg base "is_point" 2 1 S_is_point) (F_size : FnS P w K mg base "size" 3 1 S_size) (F : FunD K "is_motion" "is_motion" (defArgs s_is_motion) (defBody s_is_motion) (defScope s_is_motion) [] [] f fd) (hm : mg "is_motion" = some (.ref f)) : FnS P w K mg base "is_motion" 4 1 S_is_motion := by
  refine fnS_of (k := 3) F hm sc_is_motion (fun ds Φ Ψ h => by obtain ⟨_, _, rfl, _⟩ := h; rfl) (fun _ _ _ _ _ _ us hl => match us, hl with | [_], _ => rfl) (fun cdv A outer s H E hr ds Φ Ψ h => ?_)
  obtain ⟨d, n, rfl, hs, hb, hn, k⟩ := h
  have ho := shp_nopq hs
  by_cases ht : d.isT = true
  · cases d with
    | tup xs =>
      have hx := shp_tupA hs
      by_cases h3 : xs.length = 3
      · match xs, h3 with
        | [a, b, c], _ =>
          have sa : D.shp 8 a = true := shp_mem hx (by simp)
          have sb : D.shp 8 b = true := shp_mem hx (by simp)
          have sc : D.shp 8 c = true := shp_mem hx (by simp)
          have oc := shp_nopq sc
          refine qs_when (QW.t (qwb_or (qt_notB (qt_b (qe_isi Z.isinstance Z.tuple (by decide +kernel) (qv 0) (by walk_at "nopq") (kit_tuple _)))) (fun hb3 => (qwb_or (qt_neI (qe_lenT Z.len (qv 0)) qi) (fun hb2 => (qwb_or (qt_notB (qt_b (qe_call F_is_point (hr.mono (by decide)) (qas_cons (qe_ixT (qv 0) qi) qas_nil) ⟨_, _, rfl, by walk_at "shp", rfl⟩))) (fun hb1 => (qwb_or1 (qt_notB (qt_b (qe_call F_is_point (hr.mono (by decide)) (qas_cons (qe_ixT (qv 0) qi) qas_nil) ⟨_, _, rfl, by walk_at "shp", rfl⟩))))))))))) (fun hc => ?_) (fun hc => ?_)
          · have e : isMo (.tup [a, b, c]) = false := by
              show (isPt a && (isPt b && _)) = false
              simp [D.isT] at hc
              cases ha : isPt a <;> cases hb' : isPt b <;> simp_all
            refine qs_ret (QE.to qb (e ▸ k))
          · have hab : isPt a = true ∧ isPt b = true := by simpa [D.isT] using hc
            obtain ⟨p, rfl, np⟩ := isPt_inv hab.1
            have hp : Ok n p := np.ok hb.1
            have e : (decide (size p = ⟨1, 1⟩) && isWh c 0 1) = isMo (.tup [p.d, b, c]) := by
              show _ = (isPt p.d && (isPt b && (isWh c 0 1 && decide (size p = ⟨1, 1⟩))))
              rw [hab.1, hab.2, Bool.true_and, Bool.true_and, Bool.and_comm]
            rw [← e, ← deq_sh] at k
            refine qs_ret (QE.to (qe_and (qe_eqD hr.units (qe_call F_size (hr.mono (by decide)) (qas_cons (qe_ixT (qv 0) qi) qas_nil) ⟨_, _, rfl, by walk_at "ok", by omega, rfl⟩) (QE.is (qe_tup (qas_cons qi (qas_cons qi qas_nil))) (show _ = (Sh.mk 1 1).d from rfl)) (shp_sh _ _) (shp_sh _ _)) fun _ => (qx_one (qe_call F_is_whole (hr.mono (by decide)) (qas_cons (qe_ixT (qv 0) qi) (qas_cons qi (qas_cons qi qas_nil))) ⟨_, _, _, rfl, by walk_at "nopq", rfl⟩))) k)
      · have e : isMo (.tup xs) = false := by
          unfold isMo
          split
          · rename_i q; injection q with q; subst q; exact absurd rfl h3
          · rfl
        refine qs_if (QW.t (qw_or (QB.to (qt_notB (qt_b (qe_isi Z.isinstance Z.tuple (by decide +kernel) (qv 0) (by walk_at "nopq") (kit_tuple _)))) ?_)))
        show QW _ _ _ _ _
        refine qw_or (QB.to (qt_neI (qe_lenT Z.len (qv 0)) qi) ?_)
        have hne : decide ((xs.length : Int) = 3) = false := decide_eq_false (by omega)
        rw [hne]
        refine qs_ret (QE.to qb (e ▸ k))
    | _ => cases ht
  · have e0 : d.isT = false := by simpa using ht
    have e : isMo d = false := by
      unfold isMo
      split
      · cases e0
      · rfl
    refine qs_if (QW.t (qw_or (QB.to (qt_notB (qt_b (qe_isi Z.isinstance Z.tuple (by decide +kernel) (qv 0) (by walk_at "nopq") (kit_tuple _)))) ?_)))
    rw [e0]
    refine qs_ret (QE.to qb (e ▸ k))
abbrev s_look_motion : Stmt := top 24
theorem sc_look_motion : FnScope ["thing"] ["thing"] (defScope s_look_motion) := ⟨rfl, rfl, rfl, by decide +kernel, rfl, by decide +kernel, by decide +kernel⟩
def S_look_motion : SpD := fun ds Φ Ψ => ∃ (d : D) (n : Nat), ds = [d] ∧ D.shp 8 d = true ∧ Db n d ∧ n ≤ 3000 ∧ (isMo d = true → Φ .non) ∧ (isMo d = false → Ψ "BadMotion")
theorem ok_look_motion (Z : Zs mg) (F_is_motion : FnS P w K mg base "is_motion" 4 1 S_is_motion) (E_BadMotion : ExcF K mg "BadMotion") (F : FunD K "look_motion" "look_motion" (defArgs s_look_motion) (defBody s_look_motion) (defScope s_look_motion) [] [] f fd) (hm : mg "look_motion" = some (.ref f)) : FnS P w K mg base "look_motion" 5 1 S_look_motion := by
  refine fnS_of (k := 4) F hm sc_look_motion (fun ds Φ Ψ h => by obtain ⟨_, _, rfl, _⟩ := h; rfl) (fun _ _ _ _ _ _ us hl => match us, hl with | [_], _ => rfl) (fun cdv A outer s H E hr ds Φ Ψ h => ?_)
  obtain ⟨d, n, rfl, hs, hb, hn, k1, k2⟩ := h
  refine qs_when (qt_notB (qt_b (qe_call F_is_motion (hr.mono (by decide)) (qas_cons (qv 0) qas_nil) ⟨_, _, rfl, by walk_at "shp", by walk_at "db", by omega, rfl⟩))) (fun hc => ?_) (fun hc => ?_)
  · exact qs_raise E_BadMotion (k2 (by simpa using hc))
  · exact qs_nil (k1 (by simpa using hc))
abbrev s_times : Stmt := top 14
theorem sc_times : FnScope ["p", "q"] ["p", "q"] (defScope s_times) := ⟨rfl, rfl, rfl, by decide +kernel, rfl, by decide +kernel, by decide +kernel⟩
def S_times : SpD := fun ds Φ _ => ∃ (p q : Pt) (n m : Nat), ds = [p.d, q.d] ∧ Ok n p ∧ Ok m q ∧ n + m ≤ 8000 ∧ Φ (times p q).d
theorem ok_times (Z : Zs mg) (F_lowest : FnS P w K mg base "lowest" 2 3 S_lowest) (F : FunD K "times" "times" (defArgs s_times) (defBody s_times) (defScope s_times) [] [] f fd) (hm : mg "times" = some (.ref f)) : FnS P w K mg base "times" 3 2 S_times := by
  refine fnS_of (k := 2) F hm sc_times (fun ds Φ Ψ h => by obtain ⟨_, _, _, _, rfl, _⟩ := h; rfl) (fun _ _ _ _ _ _ us hl => match us, hl with | [_, _], _ => rfl) (fun cdv A outer s H E hr ds Φ Ψ h => ?_)
  obtain ⟨p, q, n, m, rfl, ⟨px, py, pw, pp⟩, ⟨qx, qy, qw, qp⟩, hn, k⟩ := h
  refine qs_ret (QE.to (qe_call F_lowest (hr.mono (by decide)) (qas_cons (qe_sub (qe_mul (qe_ixT (qv 0) qi) (qe_ixT (qv 1) qi) (by walk_at "cm")) (qe_mul (qe_ixT (qv 0) qi) (qe_ixT (qv 1) qi) (by walk_at "cm"))) (qas_cons (qe_add (qe_mul (qe_ixT (qv 0) qi) (qe_ixT (qv 1) qi) (by walk_at "cm")) (qe_mul (qe_ixT (qv 0) qi) (qe_ixT (qv 1) qi) (by walk_at "cm"))) (qas_cons (qe_mul (qe_ixT (qv 0) qi) (qe_ixT (qv 1) qi) (by walk_at "cm")) qas_nil))) ⟨_, _, _, _, _, _, rfl, by walk_at "bn", by walk_at "bn", by walk_at "bn", by walk_at "nz", by omega, rfl⟩) k)
abbrev s_flipped : Stmt := top 15
theorem sc_flipped : FnScope ["p"] ["p"] (defScope s_flipped) := ⟨rfl, rfl, rfl, by decide +kernel, rfl, by decide +kernel, by decide +kernel⟩
def S_flipped : SpD := fun ds Φ _ => ∃ (p : Pt), ds = [p.d] ∧ Φ (flipped p).d
theorem ok_flipped (Z : Zs mg) (F : FunD K "flipped" "flipped" (defArgs s_flipped) (defBody s_flipped) (defScope s_flipped) [] [] f fd) (hm : mg "flipped" = some (.ref f)) : FnS P w K mg base "flipped" 1 1 S_flipped := by
  refine fnS_of (k := 0) F hm sc_flipped (fun ds Φ Ψ h => by obtain ⟨_, rfl, _⟩ := h; rfl) (fun _ _ _ _ _ _ us hl => match us, hl with | [_], _ => rfl) (fun cdv A outer s H E hr ds Φ Ψ h => ?_)
  obtain ⟨p, rfl, k⟩ := h
  refine qs_ret (QE.to (qe_tup (qas_cons (qe_ixT (qv 0) qi) (qas_cons (qe_neg (qe_ixT (qv 0) qi)) (qas_cons (qe_ixT (qv 0) qi) qas_nil)))) k)
abbrev s_led_by : Stmt := top 25
theorem sc_led_by : FnScope ["motion", "p", "turn", "shift", "flip"] ["motion", "p"] (defScope s_led_by) := ⟨rfl, rfl, rfl, by decide +kernel, rfl, by decide +kernel, by decide +kernel⟩
def S_led_by : SpD := fun ds Φ _ => ∃ (m : Mo) (p : Pt) (n k' : Nat), ds = [m.d, p.d] ∧ Ok n m.t ∧ Ok n m.s ∧ Ok k' p ∧ 2 * n + k' ≤ 7000 ∧ Φ (ledBy m p).d
theorem ok_led_by (Z : Zs mg) (F_plus : FnS P w K mg base "plus" 3 2 S_plus) (F_times : FnS P w K mg base "times" 3 2 S_times) (F_flipped : FnS P w K mg base "flipped" 1 1 S_flipped) (F : FunD K "led_by" "led_by" (defArgs s_led_by) (defBody s_led_by) (defScope s_led_by) [] [] f fd) (hm : mg "led_by" = some (.ref f)) : FnS P w K mg base "led_by" 4 2 S_led_by := by
  refine fnS_of (k := 3) F hm sc_led_by (fun ds Φ Ψ h => by obtain ⟨_, _, _, _, rfl, _⟩ := h; rfl) (fun _ _ _ _ _ _ us hl => match us, hl with | [_, _], _ => rfl) (fun cdv A outer s H E hr ds Φ Ψ h => ?_)
  obtain ⟨m, p, n, k', rfl, ht, hs, hp, hn, k⟩ := h
  refine qs_asg (QE.to (qv 0) ⟨_, qg_tup (qgs_cons (qg_name 2 sc_led_by.nd) (qgs_cons (qg_name 3 sc_led_by.nd) (qgs_cons (qg_name 4 sc_led_by.nd) qgs_nil))), ?_⟩)
  have e : (if decide (m.f = 1) = true then (flipped p).d else p.d) = (if m.f = 1 then flipped p else p).d := by by_cases h : m.f = 1 <;> simp [h]
  have hf := fl_ok (f := m.f) hp
  refine qs_ret (QE.to (qe_call F_plus (hr.mono (by decide)) (qas_cons (qe_call F_times (hr.mono (by decide)) (qas_cons (qv 2) (qas_cons (QE.is (qe_if (qt_eqI (qv 4) qi) (fun hb1 => (qe_call F_flipped (hr.mono (by decide)) (qas_cons (qv 1) qas_nil) ⟨_, rfl, rfl⟩)) (fun hb2 => (qv 1))) e) qas_nil)) ⟨_, _, _, _, rfl, ht, hf, by omega, rfl⟩) (qas_cons (qv 3) qas_nil)) ⟨_, _, _, _, rfl, times_ok ht hf, hs, by omega, rfl⟩) k)
abbrev s_cost_behind : Stmt := top 35
theorem sc_cost_behind : FnScope ["motion", "one", "other", "p", "q"] ["motion", "one", "other"] (defScope s_cost_behind) := ⟨rfl, rfl, rfl, by decide +kernel, rfl, by decide +kernel, by decide +kernel⟩
def S_cost_behind : SpD := fun ds Φ _ => ∃ (mo : Mo) (l m : List Pt) (j n k c : Nat), ds = [mo.d, .lst (l.map Pt.d), .lst (m.map Pt.d)] ∧ MOk j mo ∧ (∀ p ∈ l, Ok n p) ∧ (∀ p ∈ m, Ok k p) ∧ (∀ p ∈ l, Norm p) ∧ (∀ p ∈ m, Norm p) ∧ l.length = m.length ∧ l ≠ [] ∧ l.length ≤ c ∧ c ≤ 14 ∧ j ≤ 500 ∧ n + k ≤ 1000 ∧ c * (2 * (2 * j + n + 2) + 2 * k + 3 + 1) ≤ 8400 ∧ Φ (behind (ledBy mo) l m).d
theorem ok_cost_behind (Z : Zs mg) (F_look_motion : FnS P w K mg base "look_motion" 5 1 S_look_motion) (F_look_pairs : FnS P w K mg base "look_pairs" 3 2 S_look_pairs) (F_sum_of : FnS P w K mg base "sum_of" 4 1 S_sum_of) (F_gap : FnS P w K mg base "gap" 4 2 S_gap) (F_led_by : FnS P w K mg base "led_by" 4 2 S_led_by) (F : FunD K "cost_behind" "cost_behind" (defArgs s_cost_behind) (defBody s_cost_behind) (defScope s_cost_behind) [] [] f fd) (hm : mg "cost_behind" = some (.ref f)) : FnS P w K mg base "cost_behind" 6 3 S_cost_behind := by
  refine fnS_of (k := 5) F hm sc_cost_behind (fun ds Φ Ψ h => by obtain ⟨_, _, _, _, _, _, _, rfl, _⟩ := h; rfl) (fun _ _ _ _ _ _ us hl => match us, hl with | [_, _, _], _ => rfl) (fun cdv A outer s H E hr ds Φ Ψ h => ?_)
  obtain ⟨mo, l, m, j, n, k', c, rfl, omo, ol, om, nl, nm, e, hne, hlc, hc, hj, hn, hb, k⟩ := h
  have h14 : l.length ≤ 14 := by omega
  have ot := omo.t
  have os' := omo.s
  have oz1 : ∀ q ∈ l.zip m, Ok n q.1 := fun q hq => ol _ (mem_zip_of hq).1
  have oz2 : ∀ q ∈ l.zip m, Ok k' q.2 := fun q hq => om _ (mem_zip_of hq).2
  have hz := zip_le (m := m) h14
  refine qs_expr (QE.to (qe_call F_look_motion (hr.mono (by decide)) (qas_cons (qv 0) qas_nil) ⟨_, _, rfl, by walk_at "shp", by walk_at "db", by omega, fun _ => rfl, fun h => Bool.noConfusion (h.symm.trans (by walk_at "ismo"))⟩) ?_)
  refine qs_expr (QE.to (qe_call F_look_pairs (hr.mono (by decide)) (qas_cons (qv 1) (qas_cons (qv 2) qas_nil)) ⟨_, _, rfl, by walk_at "shp", by walk_at "shp", fun _ => rfl, fun h => absurd (by walk_at "prs") h⟩) ?_)
  have e1 : D.lst ((l.zip m).map fun q => (gap (ledBy mo q.1) q.2).d) = D.lst (((l.zip m).map fun q => gap (ledBy mo q.1) q.2).map Sh.d) := by rw [List.map_map]; rfl
  have os : ∀ a ∈ (l.zip m).map (fun q => gap (ledBy mo q.1) q.2), SOk (2 * (2 * j + n + 2) + 2 * k' + 3) a := fun a ha => by
    obtain ⟨q, hq, rfl⟩ := List.mem_map.mp ha
    exact gap_ok (ledBy_ok omo (oz1 q hq)) (oz2 q hq)
  refine qs_ret (qx_call F_sum_of (hr.mono (by decide)) (QAs.to (qas_cons (QE.is (qx_lc _ sc_cost_behind.nd (blkOk_by (N := ["motion", "one", "other", "p", "q"]) (sc := defScope s_cost_behind) (own := [("p", 3), ("q", 4)]) (by decide +kernel)) (qi_zip Z.zip (QAs.to (qas_cons (qv 1) (qas_cons (qv 2) qas_nil)) ⟨_, _, rfl, lcq_zipT _ (by walk_at "sz") (fun d hd => ⟨_, qgb_tup2 3 4 sc_cost_behind.nd, fun s H C cl fp => (qe_call F_gap (hr.mono (by decide)) (qas_cons (qe_call F_led_by (hr.mono (by decide)) (qas_cons (qv 0) (qas_cons (qv 3) qas_nil)) ⟨_, _, _, _, rfl, by walk_at "ok", by walk_at "ok", by walk_at "ok", by omega, rfl⟩) (qas_cons (qv 4) qas_nil)) ⟨_, _, _, _, rfl, by walk_at "ok", by walk_at "ok", by omega, rfl⟩)⟩) rfl⟩))) e1) qas_nil) ⟨_, _, c, rfl, os, by rw [List.length_map, List.length_zip]; omega, hc, hb, k⟩))
abbrev s_look_points : Stmt := top 20
theorem sc_look_points : FnScope ["things", "one"] ["things"] (defScope s_look_points) := ⟨rfl, rfl, rfl, by decide +kernel, rfl, by decide +kernel, by decide +kernel⟩
def S_look_points : SpD := fun ds Φ Ψ => ∃ (xs : List D) (n : Nat), ds = [.lst xs] ∧ D.shpA n xs = true ∧ xs.length ≤ 100000 ∧ (xs.all isPt = true → Φ .non) ∧ (xs.all isPt = false → Ψ "BadPoint")
theorem ok_look_points (Z : Zs mg) (F_is_point : FnS P w K mg base "is_point" 2 1 S_is_point) (E_BadPoint : ExcF K mg "BadPoint") (F : FunD K "look_points" "look_points" (defArgs s_look_points) (defBody s_look_points) (defScope s_look_points) [] [] f fd) (hm : mg "look_points" = some (.ref f)) : FnS P w K mg base "look_points" 3 1 S_look_points := by
  refine fnS_of (k := 2) F hm sc_look_points (fun ds Φ Ψ h => by obtain ⟨_, _, rfl, _⟩ := h; rfl) (fun _ _ _ _ _ _ us hl => match us, hl with | [_], _ => rfl) (fun cdv A outer s H E hr ds Φ Ψ h => ?_)
  obtain ⟨xs, n, rfl, hs, hl, k1, k2⟩ := h
  have hno : ∀ d ∈ xs, D.shp n d = true := fun d hd => shp_mem hs hd
  refine qs_when (qt_notB (qt_b (qe_allM Z.all (qx_lc _ sc_look_points.nd (blkOk_by (N := ["things", "one"]) (sc := defScope s_look_points) (own := [("one", 1)]) (by decide +kernel)) (qi_lst (QE.to (qv 0) ⟨_, rfl, lcq_map _ (by walk_at "sz") (fun d hd => ⟨_, qgb_name 1 sc_look_points.nd, fun s H C cl fp => (qe_call F_is_point (hr.mono (by decide)) (qas_cons (qv 1) qas_nil) ⟨_, _, rfl, by walk_at "shp", rfl⟩)⟩) rfl⟩)))))) (fun hc => ?_) (fun hc => ?_)
  · exact qs_raise E_BadPoint (k2 (by simpa using hc))
  · exact qs_nil (k1 (by simpa using hc))
abbrev s_led : Stmt := top 26
theorem sc_led : FnScope ["motion", "p"] ["motion", "p"] (defScope s_led) := ⟨rfl, rfl, rfl, by decide +kernel, rfl, by decide +kernel, by decide +kernel⟩
def S_led : SpD := fun ds Φ _ => ∃ (m : Mo) (p : Pt) (n k' : Nat), ds = [m.d, p.d] ∧ MOk n m ∧ Ok k' p ∧ Norm p ∧ n ≤ 2000 ∧ k' ≤ 2000 ∧ Φ (ledBy m p).d
theorem ok_led (Z : Zs mg) (F_look_motion : FnS P w K mg base "look_motion" 5 1 S_look_motion) (F_look_points : FnS P w K mg base "look_points" 3 1 S_look_points) (F_led_by : FnS P w K mg base "led_by" 4 2 S_led_by) (F : FunD K "led" "led" (defArgs s_led) (defBody s_led) (defScope s_led) [] [] f fd) (hm : mg "led" = some (.ref f)) : FnS P w K mg base "led" 6 2 S_led := by
  refine fnS_of (k := 5) F hm sc_led (fun ds Φ Ψ h => by obtain ⟨_, _, _, _, rfl, _⟩ := h; rfl) (fun _ _ _ _ _ _ us hl => match us, hl with | [_, _], _ => rfl) (fun cdv A outer s H E hr ds Φ Ψ h => ?_)
  obtain ⟨m, p, n, k', rfl, hm', hp, np, hn, hk, k⟩ := h
  have ht := hm'.t
  have hs := hm'.s
  refine qs_expr (QE.to (qe_call F_look_motion (hr.mono (by decide)) (qas_cons (qv 0) qas_nil) ⟨_, _, rfl, by walk_at "shp", by walk_at "db", by omega, fun _ => rfl, fun h => Bool.noConfusion (h.symm.trans (by walk_at "ismo"))⟩) ?_)
  refine qs_expr (QE.to (qe_call F_look_points (hr.mono (by decide)) (qas_cons (qe_lst (qas_cons (qv 1) qas_nil)) qas_nil) ⟨_, 8, rfl, by walk_at "shp", by walk_at "sz", fun _ => rfl, fun h => Bool.noConfusion (h.symm.trans (by walk_at "pts"))⟩) ?_)
  refine qs_ret (QE.to (qe_call F_led_by (hr.mono (by decide)) (qas_cons (qv 0) (qas_cons (qv 1) qas_nil)) ⟨_, _, _, _, rfl, by walk_at "ok", by walk_at "ok", by walk_at "ok", by omega, rfl⟩) k)
abbrev s_law : Stmt := top 50
theorem sc_law : FnScope ["_law_script", "_law_town_here", "_law_size_of", "_law_one", "_law_k", "_law_two", "_law_still", "_law_move", "_law_least_cost", "_law_turn_of", "_law_off", "_law_other", "_law_more", "_law_due", "_law_motion_here", "_law_p"] ["_law_script"] (defScope s_law) := ⟨rfl, rfl, rfl, by decide +kernel, rfl, by decide +kernel, by decide +kernel⟩
def S_law : SpD := fun ds Φ _ => ds = [.opq 1] ∧ Φ (.bl true)
theorem ok_law (Z : Zs mg) (F_law_town : FnS P w K mg base "_law_town" 1 1 S_law_town) (F_nearest_shift : FnS P w K mg base "nearest_shift" 6 2 S_nearest_shift) (F_law_draw : FnS P w K mg base "_law_draw" 1 2 S_law_draw) (F_law_point : FnS P w K mg base "_law_point" 3 2 S_law_point) (F_cost : FnS P w K mg base "cost" 5 2 S_cost) (F_law_cost : FnS P w K mg base "_law_cost" 4 3 S_law_cost) (F_law_led : FnS P w K mg base "_law_led" 3 2 S_law_led) (F_law_square : FnS P w K mg base "_law_square" 3 2 S_law_square) (F_law_sum : FnS P w K mg base "_law_sum" 3 1 S_law_sum) (F_law_motion : FnS P w K mg base "_law_motion" 4 1 S_law_motion) (F_cost_behind : FnS P w K mg base "cost_behind" 6 3 S_cost_behind) (F_law_share : FnS P w K mg base "_law_share" 2 2 S_law_share) (F_led : FnS P w K mg base "led" 6 2 S_led) (F : FunD K "law" "law" (defArgs s_law) (defBody s_law) (defScope s_law) [] [] f fd) (hm : mg "law" = some (.ref f)) : FnOk P w K mg base (L2.CX P w) 7 f fd ["_law_script"] (spD K 1 S_law) := by
  refine fnOk_of (k := 6) F hm sc_law (fun ds Φ Ψ h => by obtain ⟨rfl, _⟩ := h; rfl) (fun _ _ _ _ _ _ us hl => match us, hl with | [_], _ => rfl) (fun cdv A outer s H E hr ds Φ Ψ h => ?_)
  obtain ⟨rfl, k⟩ := h
  refine qs_set 1 (QE.to (qe_call F_law_town (hr.mono (by decide)) (qas_cons (qv 0) qas_nil) ⟨rfl, rfl⟩) ?_) sc_law.nd
  refine qs_set 2 (qx_add (QE.to qi ⟨_, rfl, (qx_call F_law_draw (hr.mono (by decide)) (QAs.to (qas_cons (qv 1) (qas_cons qi qas_nil)) ⟨_, rfl, by omega, by omega, fun i1 hi1 hj1 => ⟨_, rfl, ?_⟩⟩))⟩)) sc_law.nd
  refine qs_setLc 3 _ sc_law.nd (blkOk_by (N := ["_law_script", "_law_town_here", "_law_size_of", "_law_one", "_law_k", "_law_two", "_law_still", "_law_move", "_law_least_cost", "_law_turn_of", "_law_off", "_law_other", "_law_more", "_law_due", "_law_motion_here", "_law_p"]) (sc := defScope s_law) (own := [("_law_k", 4)]) (by decide +kernel)) (qi_range1 Z.range (QAs.to (qas_cons (qv 2) qas_nil) ⟨_, rfl, by omega, by omega, lcq_points (by omega) (fun d => ⟨_, qgb_name 4 sc_law.nd, fun s H C cl fp Θ hΘ => (qx_call F_law_point (hr.mono (by decide)) (QAs.to (qas_cons (qv 1) (qas_cons qi qas_nil)) ⟨_, rfl, by omega, by omega, fun p2 op2 np2 => (hΘ _ (by assumption) (by assumption))⟩))⟩) fun l1 e1 ol1 nl1 => ?_⟩))
  refine qs_setLc 5 _ sc_law.nd (blkOk_by (N := ["_law_script", "_law_town_here", "_law_size_of", "_law_one", "_law_k", "_law_two", "_law_still", "_law_move", "_law_least_cost", "_law_turn_of", "_law_off", "_law_other", "_law_more", "_law_due", "_law_motion_here", "_law_p"]) (sc := defScope s_law) (own := [("_law_k", 4)]) (by decide +kernel)) (qi_range1 Z.range (QAs.to (qas_cons (qv 2) qas_nil) ⟨_, rfl, by omega, by omega, lcq_points (by omega) (fun d => ⟨_, qgb_name 4 sc_law.nd, fun s H C cl fp Θ hΘ => (qx_call F_law_point (hr.mono (by decide)) (QAs.to (qas_cons (qv 1) (qas_cons qi qas_nil)) ⟨_, rfl, by omega, by omega, fun p3 op3 np3 => (hΘ _ (by assumption) (by assumption))⟩))⟩) fun l2 e2 ol2 nl2 => ?_⟩))
  refine qs_set 6 (QE.to (QE.is (qe_tup (qas_cons (qe_tup (qas_cons qi (qas_cons qi (qas_cons qi qas_nil)))) (qas_cons (qe_tup (qas_cons qi (qas_cons qi (qas_cons qi qas_nil)))) (qas_cons qi qas_nil)))) (show _ = still.d from rfl)) ?_) sc_law.nd
  have h12 : l1.length = l2.length := by omega
  have h21 : l2.length = l1.length := by omega
  have c1 : l1.length ≤ 6 := by omega
  have c2 : l2.length ≤ 6 := by omega
  have ne1 : l1 ≠ [] := fun h => by rw [h] at e1; simp at e1; omega
  have ne2 : l2 ≠ [] := fun h => by rw [h] at e2; simp at e2; omega
  have esz : (1 + i1 : Int) = (l1.length : Int) := by omega
  refine qs_when (qt_neD hr.units (qe_call F_cost (hr.mono (by decide)) (qas_cons (qv 3) (qas_cons (qv 5) qas_nil)) ⟨_, _, _, _, _, rfl, by walk_at "oks", by walk_at "oks", by walk_at "norms", by walk_at "norms", by walk_at "sz", by walk_at "ne", by walk_at "sz", by omega, by omega, by omega, rfl⟩) (qe_call F_law_cost (hr.mono (by decide)) (qas_cons (qv 3) (qas_cons (qv 5) (qas_cons (qv 6) qas_nil))) ⟨_, _, _, _, _, _, _, rfl, by walk_at "mok", by walk_at "oks", by walk_at "oks", by walk_at "sz", by walk_at "sz", by omega, by omega, by omega, by omega, rfl⟩) (by walk_at "shp") (by walk_at "shp")) (fun hc => ?_) (fun hc => ?_)
  · exfalso
    rw [deq_sh, cost_still ol1 nl1] at hc
    simp at hc
  refine qs_asg (QE.to (qe_call F_nearest_shift (hr.mono (by decide)) (qas_cons (qv 3) (qas_cons (qv 5) qas_nil)) ⟨_, _, _, _, _, rfl, by walk_at "oks", by walk_at "oks", by walk_at "norms", by walk_at "norms", by walk_at "sz", by walk_at "ne", by walk_at "sz", by omega, by omega, by omega, by omega, rfl⟩) ⟨_, qg_tup (qgs_cons (qg_name 7 sc_law.nd) (qgs_cons (qg_name 8 sc_law.nd) qgs_nil)), ?_⟩)
  have os : Ok 59 (shiftTo l1 l2) := by
    have a := meanOf_ok ol1 ne1 (by omega)
    have b := meanOf_ok ol2 ne2 (by omega)
    exact (minus_ok b a).mono (by omega)
  have os' : Ok 59 (shiftTo l2 l1) := by
    have a := meanOf_ok ol1 ne1 (by omega)
    have b := meanOf_ok ol2 ne2 (by omega)
    exact (minus_ok a b).mono (by omega)
  have ns := shift_norm ol1 ol2 ne1 ne2
  have om0 := sft_ok os ns (by decide)
  refine qs_when (qt_neD hr.units (qv 8) (qe_call F_law_cost (hr.mono (by decide)) (qas_cons (qv 3) (qas_cons (qv 5) (qas_cons (QE.is (qe_tup (qas_cons (qe_tup (qas_cons qi (qas_cons qi (qas_cons qi qas_nil)))) (qas_cons (qv 7) (qas_cons qi qas_nil)))) (show _ = (sft (shiftTo l1 l2)).d from rfl)) qas_nil))) ⟨_, _, _, _, _, _, _, rfl, by walk_at "mok", by walk_at "oks", by walk_at "oks", by walk_at "sz", by walk_at "sz", by omega, by omega, by omega, by omega, rfl⟩) (by walk_at "shp") (by walk_at "shp")) (fun hc => ?_) (fun hc => ?_)
  · exfalso
    rw [deq_sh, behind_sft ol1 os ns (by decide)] at hc
    simp at hc
  refine qs_for (I := fun _ ρ => ∃ x1 x2 x3 x4 x5 x6 : Sl, ρ = [.dat (.opq 1), .dat (.opq 0), .dat (.int (1 + i1)), .dat (.lst (l1.map Pt.d)), .emp, .dat (.lst (l2.map Pt.d)), .dat still.d, .dat (shiftTo l1 l2).d, .dat (behind (fun p => plus p (shiftTo l1 l2)) l1 l2).d, x1, x2, x3, x4, x5, x6, .emp]) pass_cx (qi_range1 Z.range (QAs.to (qas_cons qi qas_nil) ⟨_, rfl, by omega, by omega, ⟨_, _, _, _, _, _, rfl⟩, ?_, ?_⟩))
  · rintro i x _ hx ⟨x1, x2, x3, x4, x5, x6, rfl⟩
    refine ⟨_, qg_name 9 sc_law.nd, ?_⟩
    refine qs_set 10 (qx_call F_law_point (hr.mono (by decide)) (QAs.to (qas_cons (qv 1) (qas_cons qi qas_nil)) ⟨_, rfl, by omega, by omega, fun p4 op4 np4 => ?_⟩)) sc_law.nd
    refine qs_set 11 (QE.to (qe_call F_law_led (hr.mono (by decide)) (qas_cons (QE.is (qe_tup (qas_cons (qe_tup (qas_cons qi (qas_cons qi (qas_cons qi qas_nil)))) (qas_cons (qv 7) (qas_cons qi qas_nil)))) (show _ = (sft (shiftTo l1 l2)).d from rfl)) (qas_cons (qv 10) qas_nil)) ⟨_, _, _, _, rfl, by walk_at "mok", by walk_at "ok", by omega, by omega, rfl⟩) ?_) sc_law.nd
    have oz : Ok 1 ⟨0, 0, 1⟩ := zero_ok (by decide)
    refine qs_set 12 (QE.to (qe_call F_law_square (hr.mono (by decide)) (qas_cons (qv 10) (qas_cons (QE.is (qe_tup (qas_cons qi (qas_cons qi (qas_cons qi qas_nil)))) (show _ = (Pt.mk 0 0 1).d from rfl)) qas_nil)) ⟨_, _, _, _, rfl, by walk_at "ok", by walk_at "ok", by omega, rfl⟩) ?_) sc_law.nd
    have og := gap_ok op4 oz
    have bg1 := og.t
    have bg2 := og.b
    have zg := og.nz
    have bs : Bn 3 (1 + i1) := by unfold Bn; omega
    have ob := behind_sok (c := 6) (fun p hp => plus_ok (ol1 p hp) os) ol2 c1
    have os2 := shr_ok (bg1.mul bs) bg2 zg
    have oss : ∀ a ∈ [behind (fun p => plus p (shiftTo l1 l2)) l1 l2, shr ((gap p4 ⟨0, 0, 1⟩).t * (1 + i1)) (gap p4 ⟨0, 0, 1⟩).b], SOk 1000 a := fun a ha => by
      simp only [List.mem_cons, List.not_mem_nil, or_false] at ha
      rcases ha with rfl | rfl
      · exact ob.mono (by decide)
      · exact os2.mono (by decide)
    have hlen2 : [behind (fun p => plus p (shiftTo l1 l2)) l1 l2, shr ((gap p4 ⟨0, 0, 1⟩).t * (1 + i1)) (gap p4 ⟨0, 0, 1⟩).b].length ≤ 2 := Nat.le_refl 2
    refine qs_set 13 (QE.to (qe_call F_law_sum (hr.mono (by decide)) (qas_cons (QE.is (qe_lst (qas_cons (qv 8) (qas_cons (qe_call F_law_share (hr.mono (by decide)) (qas_cons (qe_mul (qe_ixT (qv 12) qi) (qv 2) (by walk_at "cm")) (qas_cons (qe_ixT (qv 12) qi) qas_nil)) ⟨_, _, _, _, rfl, by walk_at "bn", by walk_at "bn", by walk_at "nz", by omega, rfl⟩) qas_nil))) (show _ = D.lst (List.map Sh.d ([behind (fun p => plus p (shiftTo l1 l2)) l1 l2, shr ((gap p4 ⟨0, 0, 1⟩).t * (1 + i1)) (gap p4 ⟨0, 0, 1⟩).b])) from rfl)) qas_nil) ⟨_, _, _, rfl, by walk_at "soks", by walk_at "sz", by omega, by omega, rfl⟩) ?_) sc_law.nd
    have hmore := shift_more ol1 ol2 ne1 ne2 h12 os (by decide) op4 np4 (by decide)
    rw [behind_sft ol1 os ns (by decide), ← esz] at hmore
    have oto := ledBy_ok om0 op4
    have nto := ledBy_norm om0 op4
    have omo := sft_ok oto nto (by decide)
    refine qs_when (QW.t (qwb_or (qt_neD hr.units (qe_call F_law_cost (hr.mono (by decide)) (qas_cons (qv 3) (qas_cons (qv 5) (qas_cons (QE.is (qe_tup (qas_cons (qe_tup (qas_cons qi (qas_cons qi (qas_cons qi qas_nil)))) (qas_cons (qv 11) (qas_cons qi qas_nil)))) (show _ = (sft (ledBy (sft (shiftTo l1 l2)) p4)).d from rfl)) qas_nil))) ⟨_, _, _, _, _, _, _, rfl, by walk_at "mok", by walk_at "oks", by walk_at "oks", by walk_at "sz", by walk_at "sz", by omega, by omega, by omega, by omega, rfl⟩) (qv 13) (by walk_at "shp") (by walk_at "shp")) (fun hb1 => (qwb_or1 (qt_neD hr.units (qe_call F_cost_behind (hr.mono (by decide)) (qas_cons (QE.is (qe_tup (qas_cons (qe_tup (qas_cons qi (qas_cons qi (qas_cons qi qas_nil)))) (qas_cons (qv 11) (qas_cons qi qas_nil)))) (show _ = (sft (ledBy (sft (shiftTo l1 l2)) p4)).d from rfl)) (qas_cons (qv 3) (qas_cons (qv 5) qas_nil))) ⟨_, _, _, _, _, _, _, rfl, by walk_at "mok", by walk_at "oks", by walk_at "oks", by walk_at "norms", by walk_at "norms", by walk_at "sz", by walk_at "ne", by walk_at "sz", by omega, by omega, by omega, by omega, rfl⟩) (qv 13) (by walk_at "shp") (by walk_at "shp")))))) (fun hc => ?_) (fun hc => ?_)
    · exfalso
      rw [deq_sh, hmore] at hc
      simp at hc
    refine qs_set 14 (qx_call F_law_motion (hr.mono (by decide)) (QAs.to (qas_cons (qv 1) qas_nil) ⟨rfl, fun m5 om5 => ?_⟩)) sc_law.nd
    refine qs_when (qt_neD hr.units (qe_call F_cost_behind (hr.mono (by decide)) (qas_cons (qv 14) (qas_cons (qv 3) (qas_cons (qv 5) qas_nil))) ⟨_, _, _, _, _, _, _, rfl, by walk_at "mok", by walk_at "oks", by walk_at "oks", by walk_at "norms", by walk_at "norms", by walk_at "sz", by walk_at "ne", by walk_at "sz", by omega, by omega, by omega, by omega, rfl⟩) (qe_call F_law_cost (hr.mono (by decide)) (qas_cons (qv 3) (qas_cons (qv 5) (qas_cons (qv 14) qas_nil))) ⟨_, _, _, _, _, _, _, rfl, by walk_at "mok", by walk_at "oks", by walk_at "oks", by walk_at "sz", by walk_at "sz", by omega, by omega, by omega, by omega, rfl⟩) (by walk_at "shp") (by walk_at "shp")) (fun hc => ?_) (fun hc => ?_)
    · exfalso
      rw [deq_sh] at hc
      simp at hc
    have oL : ∀ {l : List Pt}, (∀ p ∈ l, Ok 3 p) → ∀ p ∈ l.map (ledBy m5), Ok 13 p := fun {l} hl p hp => by
      obtain ⟨q, hq, rfl⟩ := List.mem_map.mp hp
      exact ledBy_ok om5 (hl q hq)
    have nL : ∀ {l : List Pt}, (∀ p ∈ l, Ok 3 p) → ∀ p ∈ l.map (ledBy m5), Norm p := fun {l} hl p hp => by
      obtain ⟨q, hq, rfl⟩ := List.mem_map.mp hp
      exact ledBy_norm om5 (hl q hq)
    have oL1 := oL ol1
    have oL2 := oL ol2
    have nL1 := nL ol1
    have nL2 := nL ol2
    have hL12 : (l1.map (ledBy m5)).length = (l2.map (ledBy m5)).length := by simp [h12]
    have neL : l1.map (ledBy m5) ≠ [] := by simp [ne1]
    have cL : (l1.map (ledBy m5)).length ≤ 6 := by simp; exact c1
    refine qs_when (qt_neD hr.units (qe_call F_cost (hr.mono (by decide)) (qas_cons (QE.is (qx_lc _ sc_law.nd (blkOk_by (N := ["_law_script", "_law_town_here", "_law_size_of", "_law_one", "_law_k", "_law_two", "_law_still", "_law_move", "_law_least_cost", "_law_turn_of", "_law_off", "_law_other", "_law_more", "_law_due", "_law_motion_here", "_law_p"]) (sc := defScope s_law) (own := [("_law_p", 15)]) (by decide +kernel)) (qi_lst (QE.to (qv 3) ⟨_, rfl, lcq_mapT Pt.d _ (by walk_at "sz") (fun d hd => ⟨_, qgb_name 15 sc_law.nd, fun s H C cl fp => (qe_call F_led (hr.mono (by decide)) (qas_cons (qv 14) (qas_cons (qv 15) qas_nil)) ⟨_, _, _, _, rfl, by walk_at "mok", by walk_at "ok", by walk_at "norm", by omega, by omega, rfl⟩)⟩) rfl⟩))) (show _ = D.lst (List.map Pt.d (l1.map (ledBy m5))) from by rw [List.map_map]; rfl)) (qas_cons (QE.is (qx_lc _ sc_law.nd (blkOk_by (N := ["_law_script", "_law_town_here", "_law_size_of", "_law_one", "_law_k", "_law_two", "_law_still", "_law_move", "_law_least_cost", "_law_turn_of", "_law_off", "_law_other", "_law_more", "_law_due", "_law_motion_here", "_law_p"]) (sc := defScope s_law) (own := [("_law_p", 15)]) (by decide +kernel)) (qi_lst (QE.to (qv 5) ⟨_, rfl, lcq_mapT Pt.d _ (by walk_at "sz") (fun d hd => ⟨_, qgb_name 15 sc_law.nd, fun s H C cl fp => (qe_call F_led (hr.mono (by decide)) (qas_cons (qv 14) (qas_cons (qv 15) qas_nil)) ⟨_, _, _, _, rfl, by walk_at "mok", by walk_at "ok", by walk_at "norm", by omega, by omega, rfl⟩)⟩) rfl⟩))) (show _ = D.lst (List.map Pt.d (l2.map (ledBy m5))) from by rw [List.map_map]; rfl)) qas_nil)) ⟨_, _, _, _, _, rfl, by walk_at "oks", by walk_at "oks", by walk_at "norms", by walk_at "norms", by walk_at "sz", by walk_at "ne", by walk_at "sz", by omega, by omega, by omega, rfl⟩) (qe_call F_cost (hr.mono (by decide)) (qas_cons (qv 3) (qas_cons (qv 5) qas_nil)) ⟨_, _, _, _, _, rfl, by walk_at "oks", by walk_at "oks", by walk_at "norms", by walk_at "norms", by walk_at "sz", by walk_at "ne", by walk_at "sz", by omega, by omega, by omega, rfl⟩) (by walk_at "shp") (by walk_at "shp")) (fun hc => ?_) (fun hc => ?_)
    · exfalso
      rw [deq_sh, cost_led om5 ol1 ol2] at hc
      simp at hc
    exact qs_nil ⟨_, _, _, _, _, _, rfl⟩
  · rintro _ ⟨x1, x2, x3, x4, x5, x6, rfl⟩
    have e : deq (behind (fun p => plus p (shiftTo l2 l1)) l2 l1).d (behind (fun p => plus p (shiftTo l1 l2)) l1 l2).d = true := by
      rw [deq_sh, least_swap ol1 ol2 ne1 ne2 os os']
      simp
    refine qs_ret (QE.to (qe_eqD hr.units (qe_ixT (qe_call F_nearest_shift (hr.mono (by decide)) (qas_cons (qv 5) (qas_cons (qv 3) qas_nil)) ⟨_, _, _, _, _, rfl, by walk_at "oks", by walk_at "oks", by walk_at "norms", by walk_at "norms", by walk_at "sz", by walk_at "ne", by walk_at "sz", by omega, by omega, by omega, by omega, rfl⟩) qi) (qv 8) (by walk_at "shp") (by walk_at "shp")) ?_)
    rw [e]
    exact k
end
def d_law_town : He.DefD := ⟨("_law_town", none), "_law_town", "_law_town", defArgs s_law_town, defBody s_law_town, defScope s_law_town, [], []⟩
def d_common : He.DefD := ⟨("common", none), "common", "common", defArgs s_common, defBody s_common, defScope s_common, [], []⟩
def d_is_number : He.DefD := ⟨("is_number", none), "is_number", "is_number", defArgs s_is_number, defBody s_is_number, defScope s_is_number, [], []⟩
def d_is_point : He.DefD := ⟨("is_point", none), "is_point", "is_point", defArgs s_is_point, defBody s_is_point, defScope s_is_point, [], []⟩
def d_look_pairs : He.DefD := ⟨("look_pairs", none), "look_pairs", "look_pairs", defArgs s_look_pairs, defBody s_look_pairs, defScope s_look_pairs, [], []⟩
def d_lowest : He.DefD := ⟨("lowest", none), "lowest", "lowest", defArgs s_lowest, defBody s_lowest, defScope s_lowest, [], []⟩
def d_minus : He.DefD := ⟨("minus", none), "minus", "minus", defArgs s_minus, defBody s_minus, defScope s_minus, [], []⟩
def d_plus : He.DefD := ⟨("plus", none), "plus", "plus", defArgs s_plus, defBody s_plus, defScope s_plus, [], []⟩
def d_mean_of : He.DefD := ⟨("mean_of", none), "mean_of", "mean_of", defArgs s_mean_of, defBody s_mean_of, defScope s_mean_of, [], []⟩
def d_share : He.DefD := ⟨("share", none), "share", "share", defArgs s_share, defBody s_share, defScope s_share, [], []⟩
def d_plus_share : He.DefD := ⟨("plus_share", none), "plus_share", "plus_share", defArgs s_plus_share, defBody s_plus_share, defScope s_plus_share, [], []⟩
def d_sum_of : He.DefD := ⟨("sum_of", none), "sum_of", "sum_of", defArgs s_sum_of, defBody s_sum_of, defScope s_sum_of, [], []⟩
def d_size : He.DefD := ⟨("size", none), "size", "size", defArgs s_size, defBody s_size, defScope s_size, [], []⟩
def d_gap : He.DefD := ⟨("gap", none), "gap", "gap", defArgs s_gap, defBody s_gap, defScope s_gap, [], []⟩
def d_least_shift : He.DefD := ⟨("least_shift", none), "least_shift", "least_shift", defArgs s_least_shift, defBody s_least_shift, defScope s_least_shift, [], []⟩
def d_nearest_shift : He.DefD := ⟨("nearest_shift", none), "nearest_shift", "nearest_shift", defArgs s_nearest_shift, defBody s_nearest_shift, defScope s_nearest_shift, [], []⟩
def d_law_draw : He.DefD := ⟨("_law_draw", none), "_law_draw", "_law_draw", defArgs s_law_draw, defBody s_law_draw, defScope s_law_draw, [], []⟩
def d_law_gcd : He.DefD := ⟨("_law_gcd", none), "_law_gcd", "_law_gcd", defArgs s_law_gcd, defBody s_law_gcd, defScope s_law_gcd, [], []⟩
def d_law_low : He.DefD := ⟨("_law_low", none), "_law_low", "_law_low", defArgs s_law_low, defBody s_law_low, defScope s_law_low, [], []⟩
def d_law_pick : He.DefD := ⟨("_law_pick", none), "_law_pick", "_law_pick", defArgs s_law_pick, defBody s_law_pick, defScope s_law_pick, [], []⟩
def d_law_point : He.DefD := ⟨("_law_point", none), "_law_point", "_law_point", defArgs s_law_point, defBody s_law_point, defScope s_law_point, [], []⟩
def d_cost : He.DefD := ⟨("cost", none), "cost", "cost", defArgs s_cost, defBody s_cost, defScope s_cost, [], []⟩
def d_law_share : He.DefD := ⟨("_law_share", none), "_law_share", "_law_share", defArgs s_law_share, defBody s_law_share, defScope s_law_share, [], []⟩
def d_law_sum : He.DefD := ⟨("_law_sum", none), "_law_sum", "_law_sum", defArgs s_law_sum, defBody s_law_sum, defScope s_law_sum, [], []⟩
def d_law_square : He.DefD := ⟨("_law_square", none), "_law_square", "_law_square", defArgs s_law_square, defBody s_law_square, defScope s_law_square, [], []⟩
def d_law_led : He.DefD := ⟨("_law_led", none), "_law_led", "_law_led", defArgs s_law_led, defBody s_law_led, defScope s_law_led, [], []⟩
def d_law_cost : He.DefD := ⟨("_law_cost", none), "_law_cost", "_law_cost", defArgs s_law_cost, defBody s_law_cost, defScope s_law_cost, [], []⟩
def d_law_turn : He.DefD := ⟨("_law_turn", none), "_law_turn", "_law_turn", defArgs s_law_turn, defBody s_law_turn, defScope s_law_turn, [], []⟩
def d_law_motion : He.DefD := ⟨("_law_motion", none), "_law_motion", "_law_motion", defArgs s_law_motion, defBody s_law_motion, defScope s_law_motion, [], []⟩
def d_is_whole : He.DefD := ⟨("is_whole", none), "is_whole", "is_whole", defArgs s_is_whole, defBody s_is_whole, defScope s_is_whole, [], []⟩
def d_is_motion : He.DefD := ⟨("is_motion", none), "is_motion", "is_motion", defArgs s_is_motion, defBody s_is_motion, defScope s_is_motion, [], []⟩
def d_look_motion : He.DefD := ⟨("look_motion", none), "look_motion", "look_motion", defArgs s_look_motion, defBody s_look_motion, defScope s_look_motion, [], []⟩
def d_times : He.DefD := ⟨("times", none), "times", "times", defArgs s_times, defBody s_times, defScope s_times, [], []⟩
def d_flipped : He.DefD := ⟨("flipped", none), "flipped", "flipped", defArgs s_flipped, defBody s_flipped, defScope s_flipped, [], []⟩
def d_led_by : He.DefD := ⟨("led_by", none), "led_by", "led_by", defArgs s_led_by, defBody s_led_by, defScope s_led_by, [], []⟩
def d_cost_behind : He.DefD := ⟨("cost_behind", none), "cost_behind", "cost_behind", defArgs s_cost_behind, defBody s_cost_behind, defScope s_cost_behind, [], []⟩
def d_look_points : He.DefD := ⟨("look_points", none), "look_points", "look_points", defArgs s_look_points, defBody s_look_points, defScope s_look_points, [], []⟩
def d_led : He.DefD := ⟨("led", none), "led", "led", defArgs s_led, defBody s_led, defScope s_led, [], []⟩
def d_law : He.DefD := ⟨("law", none), "law", "law", defArgs s_law, defBody s_law, defScope s_law, [], []⟩
def fn : List He.DefD := ([d_law_town, d_common, d_is_number, d_is_point, d_look_pairs, d_lowest, d_minus, d_plus, d_mean_of, d_share, d_plus_share, d_sum_of, d_size, d_gap, d_least_shift, d_nearest_shift, d_law_draw, d_law_gcd, d_law_low, d_law_pick, d_law_point, d_cost, d_law_share, d_law_sum, d_law_square, d_law_led, d_law_cost, d_law_turn, d_law_motion, d_is_whole] : List He.DefD) ++ ([d_is_motion, d_look_motion, d_times, d_flipped, d_led_by, d_cost_behind, d_look_points, d_led, d_law] : List He.DefD)
def fa : List He.Fa := ([.glo "_law_town", .glo "common", .glo "is_number", .glo "is_point", .glo "look_pairs", .glo "lowest", .glo "minus", .glo "plus", .glo "mean_of", .glo "share", .glo "plus_share", .glo "sum_of", .glo "size", .glo "gap", .glo "least_shift", .glo "nearest_shift", .glo "_law_draw", .glo "_law_gcd", .glo "_law_low", .glo "_law_pick", .glo "_law_point", .glo "cost", .glo "_law_share", .glo "_law_sum", .glo "_law_square", .glo "_law_led", .glo "_law_cost", .glo "_law_turn", .glo "_law_motion", .glo "is_whole"] : List He.Fa) ++ ([.glo "is_motion", .glo "look_motion", .glo "times", .glo "flipped", .glo "led_by", .glo "cost_behind", .glo "look_points", .glo "led", .glo "law", .glo "BadPairs", .glo "BadMotion", .glo "BadPoint", .glo "ZERO", .free "abs", .free "len", .free "all", .free "any", .free "max", .free "isinstance", .free "int", .free "bool", .free "tuple", .free "list", .free "str", .free "range", .free "zip", .free "enumerate", .free "sorted", .exc "BadPairs", .exc "BadMotion"] : List He.Fa) ++ ([.exc "BadPoint"] : List He.Fa)
def cs : List (Str × D) := [("ZERO", (Pt.mk 0 0 1).d)]
def loose : List Str := (["__name__", "OverError", "BadPoint", "BadMotion", "BadPairs", "is_number", "is_whole", "common", "share", "plus_share", "lowest", "plus", "minus", "times", "flipped", "size", "ZERO", "is_point", "look_points", "gap", "is_motion", "look_motion", "led_by", "led", "mean_of", "look_pairs", "sum_of", "cost", "nearest_shift", "least_shift"] : List Str) ++ (["cost_behind", "_law_town", "_law_draw", "_law_pick", "_law_gcd", "_law_low", "_law_share", "_law_square", "_law_led", "_law_point", "_law_turn", "_law_motion", "_law_sum", "_law_cost"] : List Str)
abbrev R : PySem.W.OpenRow := PySem.W.OpenLaw.row PySem.Challenge.rw_laidover_k14_whole_costs
abbrev hk : PySem.W.Hook := hookG 4 cs fa fn
def ob (s : PySem.W.SharedT) : AlG := obsGG 4 cs fa fn (HandSHeadRun.getT s)
theorem ob_eq (s : PySem.W.SharedT) : ob s = hk.obs s.abs := obsGG_eq (HandSHeadRun.getT_eq s)
theorem run (w : World) : HandSHeadRun.RunEq R (PySem.W.view R.prog [50]) hk ob 4000 loose w := by
  intro os
  kernel_rfl
theorem facts {P : Program} {w : World} {K : PySem.W.Frag} {h : Heap} {mg : Str → Option Value} {f : Addr} (X : K.In h) (Gn : h.Ns mainGlobals mg) (hfa : mg ("law" : Str) = some (.ref f)) (c : SaysG cs fa fn K) :
    ∃ fd : FuncData, (∀ (s : Shared) (v : Value), BindsTo s fd ⟨[v], []⟩ [("_law_script", v)]) ∧ ∀ base : Heap, K.In base → base.Ns mainGlobals mg → FnOk P w K mg base CX0 7 f fd ["_law_script"] (spEnd K) := by
  obtain ⟨cc, c⟩ := c
  have Z : Zs mg := ⟨He.free_ok X Gn (c.fact 43 (f := .free "abs") rfl), He.free_ok X Gn (c.fact 44 (f := .free "len") rfl), He.free_ok X Gn (c.fact 45 (f := .free "all") rfl), He.free_ok X Gn (c.fact 46 (f := .free "any") rfl), He.free_ok X Gn (c.fact 47 (f := .free "max") rfl), He.free_ok X Gn (c.fact 48 (f := .free "isinstance") rfl), He.free_ok X Gn (c.fact 49 (f := .free "int") rfl), He.free_ok X Gn (c.fact 50 (f := .free "bool") rfl), He.free_ok X Gn (c.fact 51 (f := .free "tuple") rfl), He.free_ok X Gn (c.fact 52 (f := .free "list") rfl), He.free_ok X Gn (c.fact 53 (f := .free "str") rfl), He.free_ok X Gn (c.fact 54 (f := .free "range") rfl), He.free_ok X Gn (c.fact 55 (f := .free "zip") rfl), He.free_ok X Gn (c.fact 56 (f := .free "enumerate") rfl), He.free_ok X Gn (c.fact 57 (f := .free "sorted") rfl)⟩
  have E_BadPairs : ExcF K mg "BadPairs" := exc_of X Gn (c.fact 39 (f := .glo "BadPairs") rfl) (c.fact 58 (f := .exc "BadPairs") rfl)
  have E_BadMotion : ExcF K mg "BadMotion" := exc_of X Gn (c.fact 40 (f := .glo "BadMotion") rfl) (c.fact 59 (f := .exc "BadMotion") rfl)
  have E_BadPoint : ExcF K mg "BadPoint" := exc_of X Gn (c.fact 41 (f := .glo "BadPoint") rfl) (c.fact 60 (f := .exc "BadPoint") rfl)
  have g_ZERO : CstT K mg "ZERO" (Pt.mk 0 0 1).d := cst_of cc 0 rfl (He.glo_ok X Gn (c.fact 42 (f := .glo "ZERO") rfl))
  obtain ⟨fd_law_town, F_law_town⟩ := c.def_ 0 (d := d_law_town) rfl
  obtain ⟨fd_common, F_common⟩ := c.def_ 1 (d := d_common) rfl
  obtain ⟨fd_is_number, F_is_number⟩ := c.def_ 2 (d := d_is_number) rfl
  obtain ⟨fd_is_point, F_is_point⟩ := c.def_ 3 (d := d_is_point) rfl
  obtain ⟨fd_look_pairs, F_look_pairs⟩ := c.def_ 4 (d := d_look_pairs) rfl
  obtain ⟨fd_lowest, F_lowest⟩ := c.def_ 5 (d := d_lowest) rfl
  obtain ⟨fd_minus, F_minus⟩ := c.def_ 6 (d := d_minus) rfl
  obtain ⟨fd_plus, F_plus⟩ := c.def_ 7 (d := d_plus) rfl
  obtain ⟨fd_mean_of, F_mean_of⟩ := c.def_ 8 (d := d_mean_of) rfl
  obtain ⟨fd_share, F_share⟩ := c.def_ 9 (d := d_share) rfl
  obtain ⟨fd_plus_share, F_plus_share⟩ := c.def_ 10 (d := d_plus_share) rfl
  obtain ⟨fd_sum_of, F_sum_of⟩ := c.def_ 11 (d := d_sum_of) rfl
  obtain ⟨fd_size, F_size⟩ := c.def_ 12 (d := d_size) rfl
  obtain ⟨fd_gap, F_gap⟩ := c.def_ 13 (d := d_gap) rfl
  obtain ⟨fd_least_shift, F_least_shift⟩ := c.def_ 14 (d := d_least_shift) rfl
  obtain ⟨fd_nearest_shift, F_nearest_shift⟩ := c.def_ 15 (d := d_nearest_shift) rfl
  obtain ⟨fd_law_draw, F_law_draw⟩ := c.def_ 16 (d := d_law_draw) rfl
  obtain ⟨fd_law_gcd, F_law_gcd⟩ := c.def_ 17 (d := d_law_gcd) rfl
  obtain ⟨fd_law_low, F_law_low⟩ := c.def_ 18 (d := d_law_low) rfl
  obtain ⟨fd_law_pick, F_law_pick⟩ := c.def_ 19 (d := d_law_pick) rfl
  obtain ⟨fd_law_point, F_law_point⟩ := c.def_ 20 (d := d_law_point) rfl
  obtain ⟨fd_cost, F_cost⟩ := c.def_ 21 (d := d_cost) rfl
  obtain ⟨fd_law_share, F_law_share⟩ := c.def_ 22 (d := d_law_share) rfl
  obtain ⟨fd_law_sum, F_law_sum⟩ := c.def_ 23 (d := d_law_sum) rfl
  obtain ⟨fd_law_square, F_law_square⟩ := c.def_ 24 (d := d_law_square) rfl
  obtain ⟨fd_law_led, F_law_led⟩ := c.def_ 25 (d := d_law_led) rfl
  obtain ⟨fd_law_cost, F_law_cost⟩ := c.def_ 26 (d := d_law_cost) rfl
  obtain ⟨fd_law_turn, F_law_turn⟩ := c.def_ 27 (d := d_law_turn) rfl
  obtain ⟨fd_law_motion, F_law_motion⟩ := c.def_ 28 (d := d_law_motion) rfl
  obtain ⟨fd_is_whole, F_is_whole⟩ := c.def_ 29 (d := d_is_whole) rfl
  obtain ⟨fd_is_motion, F_is_motion⟩ := c.def_ 30 (d := d_is_motion) rfl
  obtain ⟨fd_look_motion, F_look_motion⟩ := c.def_ 31 (d := d_look_motion) rfl
  obtain ⟨fd_times, F_times⟩ := c.def_ 32 (d := d_times) rfl
  obtain ⟨fd_flipped, F_flipped⟩ := c.def_ 33 (d := d_flipped) rfl
  obtain ⟨fd_led_by, F_led_by⟩ := c.def_ 34 (d := d_led_by) rfl
  obtain ⟨fd_cost_behind, F_cost_behind⟩ := c.def_ 35 (d := d_cost_behind) rfl
  obtain ⟨fd_look_points, F_look_points⟩ := c.def_ 36 (d := d_look_points) rfl
  obtain ⟨fd_led, F_led⟩ := c.def_ 37 (d := d_led) rfl
  obtain ⟨fd, F⟩ := c.def_ 38 (d := d_law) rfl
  have e := hfa.symm.trans (He.glo_ok X Gn (c.fact 38 (f := .glo "law") rfl))
  cases e
  have b := FunD.bindsA (ps := ["_law_script"]) F fun _ _ _ _ _ _ us hl => match us, hl with | [_], _ => rfl
  refine ⟨fd, fun s v => b s [v] rfl, fun base _ _ => ?_⟩
  have A_law_town : FnS P w K mg base "_law_town" 1 1 S_law_town := ok_law_town Z F_law_town (He.glo_ok X Gn (c.fact 0 (f := .glo "_law_town") rfl))
  have A_common : FnS P w K mg base "common" 1 2 S_common := ok_common Z F_common (He.glo_ok X Gn (c.fact 1 (f := .glo "common") rfl))
  have A_is_number : FnS P w K mg base "is_number" 1 1 S_is_number := ok_is_number Z F_is_number (He.glo_ok X Gn (c.fact 2 (f := .glo "is_number") rfl))
  have A_is_point : FnS P w K mg base "is_point" 2 1 S_is_point := ok_is_point Z A_common A_is_number F_is_point (He.glo_ok X Gn (c.fact 3 (f := .glo "is_point") rfl))
  have A_look_pairs : FnS P w K mg base "look_pairs" 3 2 S_look_pairs := ok_look_pairs Z A_is_point E_BadPairs F_look_pairs (He.glo_ok X Gn (c.fact 4 (f := .glo "look_pairs") rfl))
  have A_lowest : FnS P w K mg base "lowest" 2 3 S_lowest := ok_lowest Z A_common F_lowest (He.glo_ok X Gn (c.fact 5 (f := .glo "lowest") rfl))
  have A_minus : FnS P w K mg base "minus" 3 2 S_minus := ok_minus Z A_lowest F_minus (He.glo_ok X Gn (c.fact 6 (f := .glo "minus") rfl))
  have A_plus : FnS P w K mg base "plus" 3 2 S_plus := ok_plus Z A_lowest F_plus (He.glo_ok X Gn (c.fact 7 (f := .glo "plus") rfl))
  have A_mean_of : FnS P w K mg base "mean_of" 4 1 S_mean_of := ok_mean_of Z A_lowest A_plus g_ZERO F_mean_of (He.glo_ok X Gn (c.fact 8 (f := .glo "mean_of") rfl))
  have A_share : FnS P w K mg base "share" 2 2 S_share := ok_share Z A_common F_share (He.glo_ok X Gn (c.fact 9 (f := .glo "share") rfl))
  have A_plus_share : FnS P w K mg base "plus_share" 3 2 S_plus_share := ok_plus_share Z A_share F_plus_share (He.glo_ok X Gn (c.fact 10 (f := .glo "plus_share") rfl))
  have A_sum_of : FnS P w K mg base "sum_of" 4 1 S_sum_of := ok_sum_of Z A_plus_share F_sum_of (He.glo_ok X Gn (c.fact 11 (f := .glo "sum_of") rfl))
  have A_size : FnS P w K mg base "size" 3 1 S_size := ok_size Z A_share F_size (He.glo_ok X Gn (c.fact 12 (f := .glo "size") rfl))
  have A_gap : FnS P w K mg base "gap" 4 2 S_gap := ok_gap Z A_size A_minus F_gap (He.glo_ok X Gn (c.fact 13 (f := .glo "gap") rfl))
  have A_least_shift : FnS P w K mg base "least_shift" 5 2 S_least_shift := ok_least_shift Z A_minus A_mean_of A_sum_of A_gap A_plus F_least_shift (He.glo_ok X Gn (c.fact 14 (f := .glo "least_shift") rfl))
  have A_nearest_shift : FnS P w K mg base "nearest_shift" 6 2 S_nearest_shift := ok_nearest_shift Z A_look_pairs A_least_shift F_nearest_shift (He.glo_ok X Gn (c.fact 15 (f := .glo "nearest_shift") rfl))
  have A_law_draw : FnS P w K mg base "_law_draw" 1 2 S_law_draw := ok_law_draw Z F_law_draw (He.glo_ok X Gn (c.fact 16 (f := .glo "_law_draw") rfl))
  have A_law_gcd : FnS P w K mg base "_law_gcd" 1 2 S_law_gcd := ok_law_gcd Z F_law_gcd (He.glo_ok X Gn (c.fact 17 (f := .glo "_law_gcd") rfl))
  have A_law_low : FnS P w K mg base "_law_low" 2 3 S_law_low := ok_law_low Z A_law_gcd F_law_low (He.glo_ok X Gn (c.fact 18 (f := .glo "_law_low") rfl))
  have A_law_pick : FnS P w K mg base "_law_pick" 2 2 S_law_pick := ok_law_pick Z A_law_draw F_law_pick (He.glo_ok X Gn (c.fact 19 (f := .glo "_law_pick") rfl))
  have A_law_point : FnS P w K mg base "_law_point" 3 2 S_law_point := ok_law_point Z A_law_low A_law_draw A_law_pick F_law_point (He.glo_ok X Gn (c.fact 20 (f := .glo "_law_point") rfl))
  have A_cost : FnS P w K mg base "cost" 5 2 S_cost := ok_cost Z A_look_pairs A_sum_of A_gap F_cost (He.glo_ok X Gn (c.fact 21 (f := .glo "cost") rfl))
  have A_law_share : FnS P w K mg base "_law_share" 2 2 S_law_share := ok_law_share Z A_law_gcd F_law_share (He.glo_ok X Gn (c.fact 22 (f := .glo "_law_share") rfl))
  have A_law_sum : FnS P w K mg base "_law_sum" 3 1 S_law_sum := ok_law_sum Z A_law_share F_law_sum (He.glo_ok X Gn (c.fact 23 (f := .glo "_law_sum") rfl))
  have A_law_square : FnS P w K mg base "_law_square" 3 2 S_law_square := ok_law_square Z A_law_share F_law_square (He.glo_ok X Gn (c.fact 24 (f := .glo "_law_square") rfl))
  have A_law_led : FnS P w K mg base "_law_led" 3 2 S_law_led := ok_law_led Z A_law_low F_law_led (He.glo_ok X Gn (c.fact 25 (f := .glo "_law_led") rfl))
  have A_law_cost : FnS P w K mg base "_law_cost" 4 3 S_law_cost := ok_law_cost Z A_law_sum A_law_square A_law_led F_law_cost (He.glo_ok X Gn (c.fact 26 (f := .glo "_law_cost") rfl))
  have A_law_turn : FnS P w K mg base "_law_turn" 3 1 S_law_turn := ok_law_turn Z A_law_pick A_law_low F_law_turn (He.glo_ok X Gn (c.fact 27 (f := .glo "_law_turn") rfl))
  have A_law_motion : FnS P w K mg base "_law_motion" 4 1 S_law_motion := ok_law_motion Z A_law_turn A_law_point A_law_draw F_law_motion (He.glo_ok X Gn (c.fact 28 (f := .glo "_law_motion") rfl))
  have A_is_whole : FnS P w K mg base "is_whole" 2 3 S_is_whole := ok_is_whole Z A_is_number F_is_whole (He.glo_ok X Gn (c.fact 29 (f := .glo "is_whole") rfl))
  have A_is_motion : FnS P w K mg base "is_motion" 4 1 S_is_motion := ok_is_motion Z A_is_whole A_is_point A_size F_is_motion (He.glo_ok X Gn (c.fact 30 (f := .glo "is_motion") rfl))
  have A_look_motion : FnS P w K mg base "look_motion" 5 1 S_look_motion := ok_look_motion Z A_is_motion E_BadMotion F_look_motion (He.glo_ok X Gn (c.fact 31 (f := .glo "look_motion") rfl))
  have A_times : FnS P w K mg base "times" 3 2 S_times := ok_times Z A_lowest F_times (He.glo_ok X Gn (c.fact 32 (f := .glo "times") rfl))
  have A_flipped : FnS P w K mg base "flipped" 1 1 S_flipped := ok_flipped Z F_flipped (He.glo_ok X Gn (c.fact 33 (f := .glo "flipped") rfl))
  have A_led_by : FnS P w K mg base "led_by" 4 2 S_led_by := ok_led_by Z A_plus A_times A_flipped F_led_by (He.glo_ok X Gn (c.fact 34 (f := .glo "led_by") rfl))
  have A_cost_behind : FnS P w K mg base "cost_behind" 6 3 S_cost_behind := ok_cost_behind Z A_look_motion A_look_pairs A_sum_of A_gap A_led_by F_cost_behind (He.glo_ok X Gn (c.fact 35 (f := .glo "cost_behind") rfl))
  have A_look_points : FnS P w K mg base "look_points" 3 1 S_look_points := ok_look_points Z A_is_point E_BadPoint F_look_points (He.glo_ok X Gn (c.fact 36 (f := .glo "look_points") rfl))
  have A_led : FnS P w K mg base "led" 6 2 S_led := ok_led Z A_look_motion A_look_points A_led_by F_led (He.glo_ok X Gn (c.fact 37 (f := .glo "led") rfl))
  exact fin_law (ok_law Z A_law_town A_nearest_shift A_law_draw A_law_point A_cost A_law_cost A_law_led A_law_square A_law_sum A_law_motion A_cost_behind A_law_share A_led F hfa) rfl ⟨rfl, rfl⟩
end G
open PySem PySem.W PySem.Calls PyProof.Rows in
theorem PySem.Challenge.cw_laidover_k14_whole_costs_holds : PySem.Challenge.rw_laidover_k14_whole_costs.Holds := by
  w_on; o_law
  refine HandSHeadRun.head_any (r := OpenLaw.row PySem.Challenge.rw_laidover_k14_whole_costs) (q := view (OpenLaw.row PySem.Challenge.rw_laidover_k14_whole_costs).prog [50]) (H := G.hk) (ob := G.ob) (M := 4000) (loose := G.loose) (d := HandSHeadRun.topDef (OpenLaw.row PySem.Challenge.rw_laidover_k14_whole_costs).prog 50) (kwd := []) G.ob_eq
    (by kernel_rfl) (fun s => by kernel_rfl) G.run (by kernel_rfl) (by kernel_rfl) (by kernel_rfl) (by rfl) (by first | assumption | decide +kernel) (by decide +kernel) ⟨rfl, rfl, rfl, rfl, rfl, by decide +kernel⟩ ?hw ?hc
  case hw => w_witness2
  case hc =>
    refine L2.walk_ofE (l := PySem.Challenge.rw_laidover_k14_whole_costs) (n := 63) (k := 7) (x := "_law_script") (CX := L2.CX0) rfl (by decide) (by kernel_rfl) ⟨rfl, by decide, by decide⟩ ?F (fun _ _ _ _ z => z)
    intro w mg fa h Y G' hmg0
    obtain ⟨K, KX, c⟩ := Y
    have hmg : mg ("law" : PySem.Str) = some (.ref fa) := by
      have e : (HandSHeadRun.topDef (OpenLaw.row PySem.Challenge.rw_laidover_k14_whole_costs).prog 50).name = ("law" : PySem.Str) := by kernel_rfl
      rw [← e]
      exact hmg0
    obtain ⟨fd, hb, hF⟩ := G.facts (P := (PySem.Challenge.rw_laidover_k14_whole_costs).prog) (w := w) KX G' hmg c
    exact ⟨K, fd, G.spEnd K, KX, hb, fun H a ns hl _ hS => ⟨a, ns, rfl, hS, hl, fun _ => rfl⟩, hF⟩
