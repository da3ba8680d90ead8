import PyProof.Rows.All
import Wide.All
import OpenK.AllK
import Wide.FinOn
import HandS.ForExc
import HandS.ForMost
import HandS.Wide
import HandS.IsInst
import HandS.Flow
import HandS.Style
import HandS.Defaults
import HandS.HeadHook1
import HandS.HeadHook2
import HandS.DictComp
import HandS.CallSlots
import KE.KDictKeyed
import KE.SortData
import HandS.Deep
import HandS.Zip
import HandS.Head0
import HandS.Head1
import HandS.Head2
import HandS.HeadEnd
import HandS.TupAny
import HandS.NoneIn
import HandS.Codes
import HandS.More
import HandS.ExcIs
import HandS.SetFor
import KE.KDictSum
import HandS.DictEq
import KE.GoesMore
import KE.DataMinMax
import HandS.FStr
import HandS.Steps
import KE.GoesComp
import KE.GoesRaise
import KE.KAsSuite
import HandS.Text
import KE.IntTextText
import PySem.Challenge.RW_laidover_k22_whole_texts
set_option Elab.async false
set_option linter.all false
set_option maxRecDepth 100000
set_option maxHeartbeats 4000000
/-! G: data (no heap) over the hand layer. What an expression gives, what a block does, told of data alone. -/
namespace G
open PySem PySem.Spec L2
/-! ### data -/
inductive D where
  | non | bl (b : Bool) | int (i : Int) | str (x : Str) | lst (xs : List D) | tup (xs : List D) | dct (ks vs : List D) | exc (x : Str) | opq (n : Nat)
noncomputable instance : DecidableEq D := fun a b => Classical.propDecidable (a = b)
/-- heaps: what stood stands -/
def Ex (H H' : Hp) : Prop := ∀ a o, H a = some o → H' a = some o
theorem Ex.refl (H : Hp) : Ex H H := fun _ _ h => h
theorem Ex.trans {H H1 H2 : Hp} (a : Ex H H1) (b : Ex H1 H2) : Ex H H2 := fun x o h => b x o (a x o h)
theorem Ex.new {H : Hp} {p : Addr} {o : HO} (h : H p = none) : Ex H (upd H p o) := fun a u e => by
  rw [upd_ne (ne_of_none e h)]
  exact e
theorem Ex.free {H H' : Hp} (e : Ex H H') {p : Addr} (h : H' p = none) : H p = none := by
  cases h1 : H p with
  | none => rfl
  | some o => rw [e p o h1] at h; cases h
theorem Ex.rd {H H' : Hp} {a : Addr} {u : HO} (e : Ex H H') (h : Rd H a u) : Rd H' a u := by
  rcases h with h | ⟨o, h⟩
  · exact .inl (e a _ h)
  · exact .inr ⟨o, e a _ h⟩
theorem Ex.l {K : PySem.W.Frag} {H H' : Hp} {a : Addr} {xs : List V} (e : Ex H H') (h : SqL K H a xs) : SqL K H' a xs := by
  rcases h with h | h
  · exact .inl (e.rd h)
  · exact .inr h
theorem Ex.t {K : PySem.W.Frag} {H H' : Hp} {a : Addr} {xs : List V} (e : Ex H H') (h : SqT K H a xs) : SqT K H' a xs := by
  rcases h with h | h
  · exact .inl (e.rd h)
  · exact .inr h
/-- the town: a list of a row's address and a count; the row: ints, one at least -/
def townO (t r : Addr) : Heap → Prop := fun h => ∃ (k : Int) (tk : Tok) (n : Nat), h.get? t = some { cls := .type "list", data := .seq #[.ref r, .int k tk] n }
def rowO (r : Addr) : Heap → Prop := fun h => ∃ (ns : List Int) (its : List Value) (n : Nat), ns ≠ [] ∧ ns.length ≤ sizeLine ∧ Vals (ns.map V.int) its ∧ h.get? r = some { cls := .type "list", data := .seq its.toArray n }
/-- an exception object of the class cls, caught once -/
def XO (cls : Value) (a : Addr) : HO := .ext fun h => ∃ (oe : Obj) (vs : Array Value), h.get? a = some oe ∧ Zc cls none oe ∧ oe.data = .fields vs
/-- the own exceptions' names; one that was caught, as data -/
def excN : List Str := ["BadNumber", "BadPoint", "BadMotion", "BadHeap", "BadPairs", "BadName", "BadText", "NoThing"]
abbrev excD (x : Str) : D := .opq (2 + excN.idxOf x)
mutual
/-- data as the key of a dict: whole numbers, tuples of such -/
def D.ky : D → NestedKey
  | .int i => .num i
  | .tup ds => .tup (D.kys ds)
  | .non => .none | .bl _ => .none | .str _ => .none | .lst _ => .none | .dct _ _ => .none | .exc _ => .none | .opq _ => .none
def D.kys : List D → List NestedKey
  | [] => []
  | d :: ds => d.ky :: D.kys ds
end
mutual
/-- such a key, at most n levels -/
def D.kyB : D → Nat → Bool
  | .int _, _ => true
  | .tup ds, n => decide (0 < n) && D.kysB ds (n - 1)
  | .non, _ => false | .bl _, _ => false | .str _, _ => false | .lst _, _ => false | .dct _ _, _ => false | .exc _, _ => false | .opq _, _ => false
def D.kysB : List D → Nat → Bool
  | [], _ => true
  | d :: ds, n => D.kyB d n && D.kysB ds n
end
/-- a tuple that may be a key -/
def D.key (d : D) : Bool := match d with
  | .tup ds => D.kysB ds 7
  | _ => false
/-- a dict with such keys: the object at a is o; each entry's key, where its tuple stands, its value -/
abbrev Ent : Type := D × Addr × Value
structure DctS (a : Addr) (xs : List Ent) (o : Obj) : Prop where
  sm : (a == sysModules) = false
  len : xs.length ≤ sizeLine
  nd : (xs.map fun x => x.1.ky).Nodup
  ex : o.ExactDict
  dat : ∃ es ep, o.data = .dict es ep ∧ ∀ w : World, es.toList = xs.map fun x => (⟨x.1.ky.hash w, .ref x.2.1, x.2.2⟩ : DictEntry)
def dctO (a : Addr) (xs : List Ent) (o : Obj) : Heap → Prop := fun h => h.get? a = some o ∧ DctS a xs o
mutual
/-- the value v stands for the data d in the heap H -/
inductive Rp (K : PySem.W.Frag) (H : Hp) : V → D → Prop
  | non : Rp K H .non .non
  | bl (b : Bool) : Rp K H (.bl b) (.bl b)
  | int (i : Int) : Rp K H (.int i) (.int i)
  | str (x : Str) : Rp K H (.str x) (.str x)
  | lst {a : Addr} {xs : List V} {ds : List D} : H a = some (.lst xs) → RpA K H xs ds → Rp K H (.ref a) (.lst ds)
  | tup {a : Addr} {xs : List V} {ds : List D} : SqT K H a xs → RpA K H xs ds → Rp K H (.ref a) (.tup ds)
  | town {t r : Addr} : H t = some (.ext (townO t r)) → H r = some (.ext (rowO r)) → Rp K H (.ref t) (.opq 0)
  | scr {a : Addr} {ns : List Int} : SqL K H a (ns.map V.int) → ns.length ≤ 63 → Rp K H (.ref a) (.opq 1)
  | exc {a : Addr} {x : Str} : x ∈ excN → H a = some (XO (.ref (He.ga K x)) a) → Rp K H (.ref a) (excD x)
  | dct {a : Addr} {xs : List Ent} {o : Obj} {ks vs : List D} {us : List V} : H a = some (.ext (dctO a xs o)) → ks = xs.map (·.1) → ks.all D.key = true → RpA K H (xs.map fun x => V.ref x.2.1) ks → Vals us (xs.map fun x => x.2.2) → RpA K H us vs → Rp K H (.ref a) (.dct ks vs)
inductive RpA (K : PySem.W.Frag) (H : Hp) : List V → List D → Prop
  | nil : RpA K H [] []
  | cons {v : V} {vs : List V} {d : D} {ds : List D} : Rp K H v d → RpA K H vs ds → RpA K H (v :: vs) (d :: ds)
end
section
variable {K : PySem.W.Frag} {H H' : Hp}
mutual
theorem Rp.mono (e : Ex H H') : ∀ (d : D) (v : V), Rp K H v d → Rp K H' v d
  | .non, _, h => by cases h; exact .non
  | .bl _, _, h => by cases h; exact .bl _
  | .int _, _, h => by cases h; exact .int _
  | .str _, _, h => by cases h; exact .str _
  | .lst ds, _, h => by cases h with | lst hs ha => exact .lst (e _ _ hs) (RpA.mono e ds _ ha)
  | .tup ds, _, h => by cases h with | tup hs ha => exact .tup (e.t hs) (RpA.mono e ds _ ha)
  | .dct ks vs, _, h => by cases h with | dct h1 h2 h3 h4 h5 h6 => exact .dct (e _ _ h1) h2 h3 (RpA.mono e ks _ h4) h5 (RpA.mono e vs _ h6)
  | .exc _, _, h => by cases h
  | .opq _, _, h => by cases h with | town h1 h2 => exact .town (e _ _ h1) (e _ _ h2) | scr h1 h2 => exact .scr (e.l h1) h2 | exc hx h1 => exact .exc hx (e _ _ h1)
theorem RpA.mono (e : Ex H H') : ∀ (ds : List D) (vs : List V), RpA K H vs ds → RpA K H' vs ds
  | [], _, h => by cases h; exact .nil
  | d :: ds, _, h => by cases h with | cons h1 h2 => exact .cons (Rp.mono e d _ h1) (RpA.mono e ds _ h2)
end
theorem Rp.town_inv {v : V} (h : Rp K H v (.opq 0)) : ∃ t r, v = .ref t ∧ H t = some (.ext (townO t r)) ∧ H r = some (.ext (rowO r)) := by
  generalize e : D.opq 0 = d at h
  cases h with
  | town h1 h2 => exact ⟨_, _, rfl, h1, h2⟩
  | scr h1 h2 => injection e with e; cases e
  | exc h1 h2 => injection e with e; omega
  | _ => cases e
theorem Rp.scr_inv {v : V} (h : Rp K H v (.opq 1)) : ∃ (a : Addr) (ns : List Int), v = .ref a ∧ SqL K H a (ns.map V.int) ∧ ns.length ≤ 63 := by
  generalize e : D.opq 1 = d at h
  cases h with
  | town h1 h2 => injection e with e; cases e
  | scr h1 h2 => exact ⟨_, _, rfl, h1, h2⟩
  | exc h1 h2 => injection e with e; omega
  | _ => cases e
theorem Rp.exc_inv {v : V} {x : Str} (h : Rp K H v (excD x)) (hx : x ∈ excN) : ∃ a : Addr, v = .ref a ∧ H a = some (XO (.ref (He.ga K x)) a) := by
  generalize e : excD x = d at h
  cases h with
  | town h1 h2 => injection e with e; omega
  | scr h1 h2 => injection e with e; omega
  | @exc a y h1 h2 =>
    injection e with e
    have e2 : excN.idxOf x = excN.idxOf y := by omega
    have e3 : x = y := by
      have g1 := List.getElem_idxOf (List.idxOf_lt_length_iff.mpr hx)
      have g2 := List.getElem_idxOf (List.idxOf_lt_length_iff.mpr h1)
      rw [← g1, ← g2]
      simp only [e2]
    subst e3
    exact ⟨a, rfl, h2⟩
  | _ => cases e
theorem Rp.up {v : V} {d : D} (h : Rp K H v d) (e : Ex H H') : Rp K H' v d := Rp.mono e d v h
theorem RpA.up {vs : List V} {ds : List D} (h : RpA K H vs ds) (e : Ex H H') : RpA K H' vs ds := RpA.mono e ds vs h
theorem RpA.length : ∀ {vs : List V} {ds : List D}, RpA K H vs ds → vs.length = ds.length
  | _, _, .nil => rfl
  | _, _, .cons _ t => by simp [RpA.length t]
theorem RpA.get : ∀ {vs : List V} {ds : List D} {i : Nat} {d : D}, RpA K H vs ds → ds[i]? = some d → ∃ v, vs[i]? = some v ∧ Rp K H v d
  | _, _, _, _, .nil, e => by simp at e
  | _, _, 0, _, .cons h _, e => by simp at e; subst e; exact ⟨_, rfl, h⟩
  | _, _, i + 1, d, .cons _ t, e => by
    obtain ⟨v, h1, h2⟩ := RpA.get (i := i) (d := d) t (by simpa using e)
    exact ⟨v, by simpa using h1, h2⟩
theorem RpA.getV : ∀ {vs : List V} {ds : List D} {i : Nat} {v : V}, RpA K H vs ds → vs[i]? = some v → ∃ d, ds[i]? = some d ∧ Rp K H v d
  | _, _, _, _, .nil, e => by simp at e
  | _, _, 0, _, .cons h _, e => by simp at e; subst e; exact ⟨_, rfl, h⟩
  | _, _, i + 1, d, .cons _ t, e => by
    obtain ⟨v, h1, h2⟩ := RpA.getV (i := i) (v := d) t (by simpa using e)
    exact ⟨v, by simpa using h1, h2⟩
theorem RpA.app : ∀ {vs us : List V} {ds es : List D}, RpA K H vs ds → RpA K H us es → RpA K H (vs ++ us) (ds ++ es)
  | _, _, _, _, .nil, h => h
  | _, _, _, _, .cons h t, h' => .cons h (RpA.app t h')
theorem RpA.drop : ∀ {vs : List V} {ds : List D} (n : Nat), RpA K H vs ds → RpA K H (vs.drop n) (ds.drop n)
  | _, _, 0, h => h
  | _, _, _ + 1, .nil => .nil
  | _, _, n + 1, .cons _ t => RpA.drop n t
theorem RpA.take : ∀ {vs : List V} {ds : List D} (n : Nat), RpA K H vs ds → RpA K H (vs.take n) (ds.take n)
  | _, _, 0, _ => .nil
  | _, _, _ + 1, .nil => .nil
  | _, _, n + 1, .cons h t => .cons h (RpA.take n t)
end
/-! ### data as the library's deep == has it -/
mutual
def D.py : D → PyData
  | .non => .none | .bl b => .bool b | .int i => .int i | .str x => .str x
  | .lst xs => .list (D.pyA xs) | .tup xs => .tuple (D.pyA xs) | .opq _ => .none | .dct _ _ => .none | .exc _ => .none
def D.pyA : List D → List PyData
  | [] => []
  | d :: ds => d.py :: D.pyA ds
end
mutual
/-- no opaque thing, at most n levels -/
def D.sh : D → Nat → Bool
  | .non, _ => true
  | .bl _, _ => true
  | .int _, _ => true
  | .str x, _ => PyData.strOk x
  | .opq _, _ => false
  | .dct _ _, _ => false
  | .exc _, _ => false
  | .lst xs, n => decide (0 < n) && D.shA xs (n - 1)
  | .tup xs, n => decide (0 < n) && D.shA xs (n - 1)
def D.shA : List D → Nat → Bool
  | [], _ => true
  | d :: ds, n => D.sh d n && D.shA ds n
end
abbrev D.shp (n : Nat) (d : D) : Bool := D.sh d n
abbrev D.shpA (n : Nat) (ds : List D) : Bool := D.shA ds n
theorem shp_lst {n : Nat} {xs : List D} : D.shp (n + 1) (.lst xs) = D.shpA n xs := by show (decide (0 < n + 1) && D.shA xs (n + 1 - 1)) = _; simp
theorem shp_tup {n : Nat} {xs : List D} : D.shp (n + 1) (.tup xs) = D.shpA n xs := by show (decide (0 < n + 1) && D.shA xs (n + 1 - 1)) = _; simp
theorem shpA_cons {n : Nat} {d : D} {ds : List D} : D.shpA n (d :: ds) = (D.shp n d && D.shpA n ds) := rfl
theorem shpA_all {n : Nat} : ∀ {ds : List D}, (∀ d ∈ ds, D.shp n d = true) → D.shpA n ds = true
  | [], _ => rfl
  | d :: ds, h => by rw [shpA_cons, h d List.mem_cons_self, shpA_all fun x hx => h x (List.mem_cons_of_mem _ hx)]; rfl
theorem shp_inv {n : Nat} {xs : List D} (h : D.shp n (.lst xs) = true ∨ D.shp n (.tup xs) = true) : ∃ m, n = m + 1 ∧ D.shpA m xs = true := by
  have h' : (decide (0 < n) && D.shA xs (n - 1)) = true := h.elim id id
  rw [Bool.and_eq_true, decide_eq_true_eq] at h'
  exact ⟨n - 1, by omega, h'.2⟩
mutual
theorem D.shp_ok : ∀ (d : D) (n : Nat), D.shp n d = true → d.py.canLay0 = true ∧ d.py.depth ≤ n
  | .non, n, _ => ⟨rfl, Nat.zero_le _⟩
  | .bl _, n, _ => ⟨rfl, Nat.zero_le _⟩
  | .int _, n, _ => ⟨rfl, Nat.zero_le _⟩
  | .str x, n, h => by
    have h' : PyData.strOk x = true := h
    exact ⟨by simpa [D.py, PyData.canLay0] using h', by simp [D.py, PyData.depth]⟩
  | .lst xs, n, h => by
    obtain ⟨m, rfl, h'⟩ := shp_inv (.inl h)
    obtain ⟨a, b⟩ := D.shpA_ok xs m h'
    exact ⟨by simpa [D.py, PyData.canLay0] using a, by simpa [D.py, PyData.depth] using b⟩
  | .tup xs, n, h => by
    obtain ⟨m, rfl, h'⟩ := shp_inv (.inr h)
    obtain ⟨a, b⟩ := D.shpA_ok xs m h'
    exact ⟨by simpa [D.py, PyData.canLay0] using a, by simpa [D.py, PyData.depth] using b⟩
  | .opq _, n, h => Bool.noConfusion h
  | .dct _ _, n, h => Bool.noConfusion h
  | .exc _, n, h => Bool.noConfusion h
theorem D.shpA_ok : ∀ (ds : List D) (n : Nat), D.shpA n ds = true → PyData.canLayAll0 (D.pyA ds) = true ∧ PyData.depthAll (D.pyA ds) ≤ n
  | [], n, _ => ⟨by simp [D.pyA, PyData.canLayAll0], by simp [D.pyA, PyData.depthAll]⟩
  | d :: ds, n, h => by
    rw [shpA_cons, Bool.and_eq_true] at h
    obtain ⟨a, b⟩ := D.shp_ok d n h.1
    obtain ⟨a', b'⟩ := D.shpA_ok ds n h.2
    exact ⟨by simp [D.pyA, PyData.canLayAll0, a, a'], by simp [D.pyA, PyData.depthAll]; omega⟩
end
theorem D.shp_shaped {d : D} {n : Nat} (h : D.shp n d = true) (hn : n ≤ 64) : SeqAt.shaped d.py = true := by
  obtain ⟨a, b⟩ := D.shp_ok d n h
  unfold SeqAt.shaped
  rw [a, Bool.true_and]
  exact decide_eq_true (by omega)
mutual
theorem Rp.dp {K : PySem.W.Frag} {H : Hp} : ∀ (d : D) (v : V) (n : Nat), D.shp n d = true → Rp K H v d → Dp K H v d.py
  | .non, _, _, _, h => by cases h; exact .non
  | .bl _, _, _, _, h => by cases h; exact .bl _
  | .int _, _, _, _, h => by cases h; exact .int _
  | .str _, _, _, _, h => by cases h; exact .str _
  | .lst xs, _, n, s, h => by
    obtain ⟨m, rfl, s'⟩ := shp_inv (.inl s)
    cases h with | lst hs ha => exact .lst (SqL.of hs) (RpA.dp xs _ m s' ha)
  | .tup xs, _, n, s, h => by
    obtain ⟨m, rfl, s'⟩ := shp_inv (.inr s)
    cases h with | tup hs ha => exact .tup hs (RpA.dp xs _ m s' ha)
  | .opq _, _, n, s, _ => Bool.noConfusion s
  | .dct _ _, _, n, s, _ => Bool.noConfusion s
  | .exc _, _, n, s, _ => Bool.noConfusion s
theorem RpA.dp {K : PySem.W.Frag} {H : Hp} : ∀ (ds : List D) (vs : List V) (n : Nat), D.shpA n ds = true → RpA K H vs ds → DpAll K H vs (D.pyA ds)
  | [], _, _, _, h => by cases h; exact .nil
  | d :: ds, _, n, s, h => by
    rw [shpA_cons, Bool.and_eq_true] at s
    cases h with | cons h1 h2 => exact .cons (Rp.dp d _ n s.1 h1) (RpA.dp ds _ n s.2 h2)
end
/-- == of data -/
def deq (d e : D) : Bool := PyData.eqv d.py e.py
end G
namespace G
/-! ### numbers of two parts, with one below -/
structure Pt where
  x : Int
  y : Int
  w : Int
deriving DecidableEq
/-- the divisor -/
def g3 (a b w : Int) : Int := if 0 < w then (Int.gcd (Int.gcd a b) w : Int) else -(Int.gcd (Int.gcd a b) w : Int)
def low (a b w : Int) : Pt := ⟨a / g3 a b w, b / g3 a b w, w / g3 a b w⟩
def Norm (p : Pt) : Prop := 0 < p.w ∧ Int.gcd (Int.gcd p.x p.y) p.w = 1
instance {p : Pt} : Decidable (Norm p) := inferInstanceAs (Decidable (_ ∧ _))
def Pt.re (p : Pt) : Rat := (p.x : Rat) / (p.w : Rat)
def Pt.im (p : Pt) : Rat := (p.y : Rat) / (p.w : Rat)
section
variable {a b w : Int}
theorem g3_abs : (g3 a b w).natAbs = Int.gcd (Int.gcd a b) w := by unfold g3; split <;> omega
theorem g3_pos (h : w ≠ 0) : 0 < Int.gcd (Int.gcd a b) w := Int.gcd_pos_of_ne_zero_right _ h
theorem g3_ne (h : w ≠ 0) : g3 a b w ≠ 0 := by
  have := g3_pos (a := a) (b := b) h
  unfold g3; split <;> omega
theorem g3_dvd_of {z : Int} (h : (Int.gcd (Int.gcd a b) w : Int) ∣ z) : g3 a b w ∣ z := by
  unfold g3; split
  · exact h
  · exact Int.neg_dvd.mpr h
theorem g3_dvd_w : g3 a b w ∣ w := g3_dvd_of (Int.gcd_dvd_right _ _)
theorem g3_dvd_a : g3 a b w ∣ a := g3_dvd_of (Int.dvd_trans (Int.gcd_dvd_left _ _) (Int.gcd_dvd_left _ _))
theorem g3_dvd_b : g3 a b w ∣ b := g3_dvd_of (Int.dvd_trans (Int.gcd_dvd_left _ _) (Int.gcd_dvd_right _ _))
theorem low_w_pos (h : w ≠ 0) : 0 < (low a b w).w := by
  have hg := g3_pos (a := a) (b := b) h
  show 0 < w / g3 a b w
  obtain ⟨k, hk⟩ := g3_dvd_w (a := a) (b := b) (w := w)
  have hne := g3_ne (a := a) (b := b) h
  have e : w / g3 a b w = k := by
    conv => lhs; lhs; rw [hk]
    exact Int.mul_ediv_cancel_left k hne
  rw [e]
  have hk0 : ¬ k ≤ 0 := fun hk0 => by
    by_cases hw : 0 < w
    · have h1 : 0 < g3 a b w := by unfold g3; rw [if_pos hw]; omega
      have h2 : g3 a b w * k ≤ 0 := Int.mul_nonpos_of_nonneg_of_nonpos (by omega) hk0
      omega
    · have h1 : g3 a b w < 0 := by unfold g3; rw [if_neg hw]; omega
      have h2 : 0 ≤ g3 a b w * k := Int.mul_nonneg_of_nonpos_of_nonpos (by omega) hk0
      omega
  omega
theorem gcd3_ediv {a b c g : Int} (h1 : g ∣ a) (h2 : g ∣ b) (h3 : g ∣ c) : Int.gcd (Int.gcd (a / g) (b / g)) (c / g) = Int.gcd (Int.gcd a b) c / g.natAbs := by
  rw [Int.gcd_ediv h1 h2]
  have e : ((Int.gcd a b / g.natAbs : Nat) : Int) = (Int.gcd a b : Int) / (g.natAbs : Int) := by simp
  rw [e]
  have h4 : (g.natAbs : Int) ∣ (Int.gcd a b : Int) := Int.natAbs_dvd.mpr (Int.dvd_coe_gcd h1 h2)
  have h5 : (g.natAbs : Int) ∣ c := Int.natAbs_dvd.mpr h3
  have e2 : Int.gcd ((Int.gcd a b : Int) / (g.natAbs : Int)) (c / g) = Int.gcd ((Int.gcd a b : Int) / (g.natAbs : Int)) (c / (g.natAbs : Int)) := by
    rcases Int.natAbs_eq g with h | h
    · rw [← h]
    · rw [h, Int.natAbs_neg, Int.natAbs_natCast, Int.ediv_neg, Int.gcd_neg]
  rw [e2, Int.gcd_ediv h4 h5]
  simp
theorem low_norm (h : w ≠ 0) : Norm (low a b w) := by
  refine ⟨low_w_pos h, ?_⟩
  show Int.gcd (Int.gcd (a / g3 a b w) (b / g3 a b w)) (w / g3 a b w) = 1
  rw [gcd3_ediv g3_dvd_a g3_dvd_b g3_dvd_w, g3_abs]
  exact Nat.div_self (g3_pos h)
theorem low_x : (low a b w).x * g3 a b w = a := Int.ediv_mul_cancel g3_dvd_a
theorem low_y : (low a b w).y * g3 a b w = b := Int.ediv_mul_cancel g3_dvd_b
theorem low_w : (low a b w).w * g3 a b w = w := Int.ediv_mul_cancel g3_dvd_w
theorem castne {z : Int} (h : z ≠ 0) : (z : Rat) ≠ 0 := fun e => h (by exact_mod_cast e)
theorem low_re (h : w ≠ 0) : (low a b w).re = (a : Rat) / (w : Rat) := by
  have h1 := castne (g3_ne (a := a) (b := b) h)
  have h2 := castne (show (low a b w).w ≠ 0 by have := low_w_pos (a := a) (b := b) h; omega)
  have h3 := castne h
  have e1 : ((low a b w).x : Rat) * (g3 a b w : Rat) = (a : Rat) := by exact_mod_cast congrArg (fun z : Int => (z : Rat)) (low_x (a := a) (b := b) (w := w))
  have e2 : ((low a b w).w : Rat) * (g3 a b w : Rat) = (w : Rat) := by exact_mod_cast congrArg (fun z : Int => (z : Rat)) (low_w (a := a) (b := b) (w := w))
  unfold Pt.re
  rw [← e1, ← e2] at *
  grind
theorem low_im (h : w ≠ 0) : (low a b w).im = (b : Rat) / (w : Rat) := by
  have h1 := castne (g3_ne (a := a) (b := b) h)
  have h2 := castne (show (low a b w).w ≠ 0 by have := low_w_pos (a := a) (b := b) h; omega)
  have h3 := castne h
  have e1 : ((low a b w).y : Rat) * (g3 a b w : Rat) = (b : Rat) := by exact_mod_cast congrArg (fun z : Int => (z : Rat)) (low_y (a := a) (b := b) (w := w))
  have e2 : ((low a b w).w : Rat) * (g3 a b w : Rat) = (w : Rat) := by exact_mod_cast congrArg (fun z : Int => (z : Rat)) (low_w (a := a) (b := b) (w := w))
  unfold Pt.im
  rw [← e1, ← e2] at *
  grind
end
theorem norm_dvd {p q : Pt} (hp : Norm p) (hx : p.x * q.w = q.x * p.w) (hy : p.y * q.w = q.y * p.w) : p.w ∣ q.w := by
  have h1 : p.w ∣ p.x * q.w := ⟨q.x, by rw [hx, Int.mul_comm]⟩
  have h2 : p.w ∣ p.y * q.w := ⟨q.y, by rw [hy, Int.mul_comm]⟩
  have h3 : p.w ∣ p.w * q.w := ⟨q.w, rfl⟩
  have h4 : p.w ∣ (Int.gcd (Int.gcd (p.x * q.w) (p.y * q.w)) (p.w * q.w) : Int) := Int.dvd_coe_gcd (Int.dvd_coe_gcd h1 h2) h3
  rw [Int.gcd_mul_right] at h4
  have e : ((Int.gcd p.x p.y * q.w.natAbs : Nat) : Int) = (Int.gcd p.x p.y : Int) * (q.w.natAbs : Int) := by simp
  rw [e] at h4
  have e2 : Int.gcd ((Int.gcd p.x p.y : Int) * (q.w.natAbs : Int)) (p.w * q.w) = Int.gcd ((Int.gcd p.x p.y : Int) * (q.w.natAbs : Int)) (p.w * (q.w.natAbs : Int)) := by
    rcases Int.natAbs_eq q.w with h | h
    · rw [← h]
    · rw [h, Int.natAbs_neg, Int.natAbs_natCast, Int.mul_neg, Int.gcd_neg]
  rw [e2, Int.gcd_mul_right, hp.2] at h4
  rw [Nat.one_mul] at h4
  first | exact Int.dvd_natAbs.mp (by simpa using h4) | simpa using h4
theorem pt_eq {p q : Pt} (hp : Norm p) (hq : Norm q) (hx : p.x * q.w = q.x * p.w) (hy : p.y * q.w = q.y * p.w) : p = q := by
  have h1 := norm_dvd hp hx hy
  have h2 := norm_dvd hq hx.symm hy.symm
  have hw : p.w = q.w := Int.dvd_antisymm (Int.le_of_lt hp.1) (Int.le_of_lt hq.1) h1 h2
  have hne : q.w ≠ 0 := by have := hq.1; omega
  cases p; cases q
  simp only at hw hx hy hne
  subst hw
  rw [Int.mul_eq_mul_right_iff hne] at hx hy
  rw [hx, hy]
theorem Norm.ne {p : Pt} (hp : Norm p) : (p.w : Rat) ≠ 0 := castne (by have := hp.1; omega)
theorem Norm.nz {p : Pt} (hp : Norm p) : p.w ≠ 0 := by have := hp.1; omega
theorem cross {p q : Pt} (hp : p.w ≠ 0) (hq : q.w ≠ 0) {x y : Int} (h : (x : Rat) / (p.w : Rat) = (y : Rat) / (q.w : Rat)) : x * q.w = y * p.w := by
  have h1 := castne hp
  have h2 := castne hq
  have : (x : Rat) * (q.w : Rat) = (y : Rat) * (p.w : Rat) := by grind
  exact_mod_cast this
/-- points at the same place are the same -/
theorem val_inj {p q : Pt} (hp : Norm p) (hq : Norm q) (hx : p.re = q.re) (hy : p.im = q.im) : p = q := pt_eq hp hq (cross hp.nz hq.nz hx) (cross hp.nz hq.nz hy)
/-! ### the numbers' operations -/
def plus (p q : Pt) : Pt := low (p.x * q.w + q.x * p.w) (p.y * q.w + q.y * p.w) (p.w * q.w)
def minus (p q : Pt) : Pt := low (p.x * q.w - q.x * p.w) (p.y * q.w - q.y * p.w) (p.w * q.w)
def times (p q : Pt) : Pt := low (p.x * q.x - p.y * q.y) (p.x * q.y + p.y * q.x) (p.w * q.w)
def flipped (p : Pt) : Pt := ⟨p.x, -p.y, p.w⟩
def by_ (p q : Pt) : Pt := low ((p.x * q.x + p.y * q.y) * q.w) ((p.y * q.x - p.x * q.y) * q.w) (p.w * (q.x * q.x + q.y * q.y))
section
variable {p q : Pt}
theorem mulnz {a b : Int} (h : a ≠ 0) (k : b ≠ 0) : a * b ≠ 0 := fun e => (Int.mul_eq_zero.mp e).elim h k
theorem plus_norm (hp : p.w ≠ 0) (hq : q.w ≠ 0) : Norm (plus p q) := low_norm (mulnz hp hq)
theorem minus_norm (hp : p.w ≠ 0) (hq : q.w ≠ 0) : Norm (minus p q) := low_norm (mulnz hp hq)
theorem times_norm (hp : p.w ≠ 0) (hq : q.w ≠ 0) : Norm (times p q) := low_norm (mulnz hp hq)
theorem flipped_norm (hp : Norm p) : Norm (flipped p) := ⟨hp.1, by show Int.gcd (Int.gcd p.x (-p.y)) p.w = 1; rw [Int.gcd_neg]; exact hp.2⟩
theorem plus_re (hp : p.w ≠ 0) (hq : q.w ≠ 0) : (plus p q).re = p.re + q.re := by
  have h1 := castne hp; have h2 := castne hq
  unfold plus; rw [low_re (mulnz hp hq)]; unfold Pt.re
  simp only [Rat.intCast_add, Rat.intCast_mul]; grind
theorem plus_im (hp : p.w ≠ 0) (hq : q.w ≠ 0) : (plus p q).im = p.im + q.im := by
  have h1 := castne hp; have h2 := castne hq
  unfold plus; rw [low_im (mulnz hp hq)]; unfold Pt.im
  simp only [Rat.intCast_add, Rat.intCast_mul]; grind
theorem minus_re (hp : p.w ≠ 0) (hq : q.w ≠ 0) : (minus p q).re = p.re - q.re := by
  have h1 := castne hp; have h2 := castne hq
  unfold minus; rw [low_re (mulnz hp hq)]; unfold Pt.re
  simp only [Rat.intCast_sub, Rat.intCast_mul]; grind
theorem minus_im (hp : p.w ≠ 0) (hq : q.w ≠ 0) : (minus p q).im = p.im - q.im := by
  have h1 := castne hp; have h2 := castne hq
  unfold minus; rw [low_im (mulnz hp hq)]; unfold Pt.im
  simp only [Rat.intCast_sub, Rat.intCast_mul]; grind
theorem times_re (hp : p.w ≠ 0) (hq : q.w ≠ 0) : (times p q).re = p.re * q.re - p.im * q.im := by
  have h1 := castne hp; have h2 := castne hq
  unfold times; rw [low_re (mulnz hp hq)]; unfold Pt.re Pt.im
  simp only [Rat.intCast_sub, Rat.intCast_mul]; grind
theorem times_im (hp : p.w ≠ 0) (hq : q.w ≠ 0) : (times p q).im = p.re * q.im + p.im * q.re := by
  have h1 := castne hp; have h2 := castne hq
  unfold times; rw [low_im (mulnz hp hq)]; unfold Pt.re Pt.im
  simp only [Rat.intCast_add, Rat.intCast_mul]; grind
theorem flipped_re : (flipped p).re = p.re := rfl
theorem flipped_im : (flipped p).im = -p.im := by
  unfold flipped Pt.im
  simp only [Rat.intCast_neg]; grind
theorem sq_nn (a : Int) : 0 ≤ a * a := by
  rcases Int.le_total 0 a with h | h
  · exact Int.mul_nonneg h h
  · exact Int.mul_nonneg_of_nonpos_of_nonpos h h
theorem sq_pos_of {a b : Int} (h : a ≠ 0 ∨ b ≠ 0) : 0 < a * a + b * b := by
  have h1 : 0 ≤ a * a := sq_nn a
  have h2 : 0 ≤ b * b := sq_nn b
  rcases h with h | h
  · have : a * a ≠ 0 := mulnz h h
    omega
  · have : b * b ≠ 0 := mulnz h h
    omega
end
/-! ### shares -/
structure Sh where
  t : Int
  b : Int
deriving DecidableEq
def shr (t b : Int) : Sh := ⟨t / g3 t 0 b, b / g3 t 0 b⟩
def Sh.pt (s : Sh) : Pt := ⟨s.t, 0, s.b⟩
def Sh.Norm (s : Sh) : Prop := 0 < s.b ∧ Int.gcd s.t s.b = 1
def Sh.val (s : Sh) : Rat := (s.t : Rat) / (s.b : Rat)
theorem shr_pt (t b : Int) : (shr t b).pt = low t 0 b := by unfold shr low Sh.pt; simp
theorem Sh.Norm.pt {s : Sh} (h : s.Norm) : G.Norm s.pt := ⟨h.1, by show Int.gcd (Int.gcd s.t 0) s.b = 1; rw [Int.gcd_zero]; simpa [Int.gcd] using h.2⟩
theorem Sh.Norm.of {s : Sh} (h : G.Norm s.pt) : s.Norm := ⟨h.1, by have := h.2; unfold Sh.pt at this; simpa [Int.gcd] using this⟩
theorem shr_norm {t b : Int} (h : b ≠ 0) : (shr t b).Norm := Sh.Norm.of (by rw [shr_pt]; exact low_norm h)
theorem shr_val {t b : Int} (h : b ≠ 0) : (shr t b).val = (t : Rat) / (b : Rat) := by
  have := low_re (a := t) (b := 0) h
  rw [← shr_pt] at this
  exact this
theorem sh_inj {s r : Sh} (h1 : s.Norm) (h2 : r.Norm) (e : s.val = r.val) : s = r := by
  have : s.pt = r.pt := val_inj h1.pt h2.pt e (by unfold Sh.pt Pt.im; simp [Rat.div_def])
  cases s; cases r
  unfold Sh.pt at this
  simp at this
  simp [this]
def size (p : Pt) : Sh := shr (p.x * p.x + p.y * p.y) (p.w * p.w)
theorem size_norm {p : Pt} (h : p.w ≠ 0) : (size p).Norm := shr_norm (mulnz h h)
theorem size_val {p : Pt} (h : p.w ≠ 0) : (size p).val = p.re * p.re + p.im * p.im := by
  have h1 := castne h
  unfold size; rw [shr_val (mulnz h h)]; unfold Pt.re Pt.im
  simp only [Rat.intCast_add, Rat.intCast_mul]; grind
end G
namespace G
open PySem PySem.Spec L2
/-! ### heaps that grow: Hi what the data stand in, H all that is tracked -/
structure Gr (Hi H Hi' H' : Hp) : Prop where
  i : Ex Hi Hi'
  o : Ex H H'
  sub : Ex Hi' H'
  new : ∀ a, Hi a = none → (∃ u, Hi' a = some u) → H a = none
theorem Gr.refl {Hi H : Hp} (s : Ex Hi H) : Gr Hi H Hi H := ⟨Ex.refl _, Ex.refl _, s, fun a h ⟨u, z⟩ => by rw [h] at z; cases z⟩
theorem Gr.trans {Hi H Hi1 H1 Hi2 H2 : Hp} (a : Gr Hi H Hi1 H1) (b : Gr Hi1 H1 Hi2 H2) : Gr Hi H Hi2 H2 := ⟨a.i.trans b.i, a.o.trans b.o, b.sub, fun c h z => by
  cases q : Hi1 c with
  | some u => exact a.new c h ⟨u, q⟩
  | none => exact a.o.free (b.new c q z)⟩
/-- only H grows -/
theorem Gr.out {Hi H H' : Hp} (s : Ex Hi H) (e : Ex H H') : Gr Hi H Hi H' := ⟨Ex.refl _, e, s.trans e, fun a h ⟨u, z⟩ => by rw [h] at z; cases z⟩
/-- a new object, both -/
theorem Gr.mk1 {Hi H : Hp} {p : Addr} {o : HO} (s : Ex Hi H) (h : H p = none) : Gr Hi H (upd Hi p o) (upd H p o) := ⟨Ex.new (s.free h), Ex.new h, fun a u e => by
    by_cases z : a = p
    · subst z; rw [upd_same] at e ⊢; exact e
    · rw [upd_ne z] at e ⊢; exact s a u e, fun a q ⟨u, z⟩ => by
    by_cases y : a = p
    · subst y; exact h
    · rw [upd_ne y, q] at z; cases z⟩
/-! ### slots, told as data -/
/-- what stands at an address of one's own -/
inductive Cl where
  | lst (ds : List D)
  | dct (kvs : List (D × D))
def ClOk (K : PySem.W.Frag) (Hi : Hp) (a : Addr) : HO → Cl → Prop
  | .lst vs, .lst ds => RpA K Hi vs ds
  | .ext φ, .dct kvs => ∃ (xs : List Ent) (us : List V) (ob : Obj), φ = dctO a xs ob ∧ kvs.map (·.1) = xs.map (·.1) ∧ (kvs.map (·.1)).all D.key = true ∧ RpA K Hi (xs.map fun x => V.ref x.2.1) (kvs.map (·.1)) ∧ Vals us (xs.map fun x => x.2.2) ∧ RpA K Hi us (kvs.map (·.2))
  | _, _ => False
inductive Sl where
  /-- nothing is known -/
  | emp
  /-- the slot holds this -/
  | dat (d : D)
  /-- a list of this def's own, that it may change -/
  | cl (c : Cl)
abbrev Sl.lst (ds : List D) : Sl := .cl (.lst ds)
abbrev Sl.dct (kvs : List (D × D)) : Sl := .cl (.dct kvs)
def SlOk (K : PySem.W.Frag) (B Hi H : Hp) : Option V → Sl → Prop
  | _, .emp => True
  | some v, .dat d => Rp K Hi v d
  | some v, .cl c => ∃ a o, v = V.ref a ∧ B a = none ∧ Hi a = none ∧ H a = some o ∧ ClOk K Hi a o c
  | none, _ => False
def Sl.own : Sl → Bool
  | .cl _ => true
  | _ => false
structure StOk (K : PySem.W.Frag) (B Hi H : Hp) (σ : L2.St) (ρ : List Sl) : Prop where
  sub : Ex Hi H
  len : σ.length = ρ.length
  at_ : ∀ (i : Nat) (x : Option V) (s : Sl), σ[i]? = some x → ρ[i]? = some s → SlOk K B Hi H x s
  sep : ∀ (i j : Nat) (s t : Sl) (a : Addr), ρ[i]? = some s → ρ[j]? = some t → s.own = true → t.own = true → σ[i]? = some (some (V.ref a)) → σ[j]? = some (some (V.ref a)) → i = j
section
variable {K : PySem.W.Frag} {B Hi H Hi' H' : Hp} {σ : L2.St} {ρ : List Sl}
theorem ClOk.up {a : Addr} {o : HO} {c : Cl} (h : ClOk K Hi a o c) (e : Ex Hi Hi') : ClOk K Hi' a o c := by
  cases c with
  | lst ds =>
    cases o with
    | lst vs => exact RpA.up (show RpA K Hi vs ds from h) e
    | _ => exact h.elim
  | dct kvs =>
    cases o with
    | ext φ =>
      obtain ⟨xs, us, ob, h1, h2, h3, h4, h5, h6⟩ := h
      exact ⟨xs, us, ob, h1, h2, h3, h4.up e, h5, h6.up e⟩
    | _ => exact h.elim
theorem SlOk.grow {x : Option V} {s : Sl} (g : Gr Hi H Hi' H') (h : SlOk K B Hi H x s) : SlOk K B Hi' H' x s := by
  cases s with
  | emp => cases x <;> trivial
  | dat d =>
    cases x with
    | none => exact h
    | some v => exact Rp.up (show Rp K Hi v d from h) g.i
  | cl c =>
    cases x with
    | none => exact h
    | some v =>
      obtain ⟨a, o, ev, b, n, e, r⟩ := h
      refine ⟨a, o, ev, b, ?_, g.o _ _ e, r.up g.i⟩
      cases q : Hi' a with
      | none => rfl
      | some u => rw [g.new a n ⟨u, q⟩] at e; cases e
theorem StOk.grow (S : StOk K B Hi H σ ρ) (g : Gr Hi H Hi' H') : StOk K B Hi' H' σ ρ :=
  ⟨g.sub, S.len, fun i x s a b => (S.at_ i x s a b).grow g, S.sep⟩
theorem StOk.get {i : Nat} {s : Sl} (S : StOk K B Hi H σ ρ) (h : ρ[i]? = some s) : ∃ x, σ[i]? = some x ∧ SlOk K B Hi H x s := by
  obtain ⟨hi, _⟩ := List.getElem?_eq_some_iff.mp h
  have hs : i < σ.length := by rw [S.len]; exact hi
  have e : σ[i]? = some σ[i] := List.getElem?_eq_getElem hs
  exact ⟨_, e, S.at_ i _ _ e h⟩
theorem StOk.dat {i : Nat} {d : D} (S : StOk K B Hi H σ ρ) (h : ρ[i]? = some (.dat d)) : ∃ v, σ[i]? = some (some v) ∧ Rp K Hi v d := by
  obtain ⟨x, e, q⟩ := S.get h
  cases x with
  | none => exact q.elim
  | some v => exact ⟨v, e, q⟩
theorem StOk.own {i : Nat} {c : Cl} (S : StOk K B Hi H σ ρ) (h : ρ[i]? = some (.cl c)) : ∃ a o, σ[i]? = some (some (V.ref a)) ∧ B a = none ∧ Hi a = none ∧ H a = some o ∧ ClOk K Hi a o c := by
  obtain ⟨x, e, q⟩ := S.get h
  cases x with
  | none => exact q.elim
  | some v =>
    obtain ⟨a, o, ev, z⟩ := q
    subst ev
    exact ⟨a, o, e, z⟩
/-- what a change of slot i leaves -/
theorem sep_set {i : Nat} {x : Option V} {t : Sl} (hS : ∀ (i j : Nat) (s t : Sl) (a : Addr), ρ[i]? = some s → ρ[j]? = some t → s.own = true → t.own = true → σ[i]? = some (some (V.ref a)) → σ[j]? = some (some (V.ref a)) → i = j)
    (hl : σ.length = ρ.length) (ht : t.own = true → ∀ a, x = some (V.ref a) → ∀ j s, ρ[j]? = some s → s.own = true → j ≠ i → σ[j]? ≠ some (some (V.ref a))) :
    ∀ (j k : Nat) (s u : Sl) (a : Addr), (ρ.set i t)[j]? = some s → (ρ.set i t)[k]? = some u → s.own = true → u.own = true → (σ.set i x)[j]? = some (some (V.ref a)) → (σ.set i x)[k]? = some (some (V.ref a)) → j = k := by
  intro j k s u a a1 a2 o1 o2 b1 b2
  by_cases hj : i = j
  · by_cases hk : i = k
    · exact hj.symm.trans hk
    · exfalso
      subst hj
      by_cases hlt : i < σ.length
      · rw [List.getElem?_set_self hlt] at b1
        rw [List.getElem?_set_self (by rw [← hl]; exact hlt)] at a1
        rw [List.getElem?_set_ne hk] at a2 b2
        cases a1
        exact ht o1 a (Option.some.inj b1) k u a2 o2 (fun e => hk e.symm) b2
      · rw [List.getElem?_eq_none (by simpa using hlt)] at b1; cases b1
  · by_cases hk : i = k
    · exfalso
      subst hk
      by_cases hlt : i < σ.length
      · rw [List.getElem?_set_self hlt] at b2
        rw [List.getElem?_set_self (by rw [← hl]; exact hlt)] at a2
        rw [List.getElem?_set_ne hj] at a1 b1
        cases a2
        exact ht o2 a (Option.some.inj b2) j s a1 o1 (fun e => hj e.symm) b1
      · rw [List.getElem?_eq_none (by simpa using hlt)] at b2; cases b2
    · rw [List.getElem?_set_ne hj] at a1 b1
      rw [List.getElem?_set_ne hk] at a2 b2
      exact hS j k s u a a1 a2 o1 o2 b1 b2
theorem at_set {i : Nat} {x : Option V} {t : Sl} (hl : σ.length = ρ.length) (hx : SlOk K B Hi H x t) (hS : ∀ (j : Nat) (y : Option V) (s : Sl), j ≠ i → σ[j]? = some y → ρ[j]? = some s → SlOk K B Hi H y s) :
    ∀ (j : Nat) (y : Option V) (s : Sl), (σ.set i x)[j]? = some y → (ρ.set i t)[j]? = some s → SlOk K B Hi H y s := by
  intro j y s a b
  by_cases h : i = j
  · subst h
    by_cases hlt : i < σ.length
    · rw [List.getElem?_set_self hlt] at a
      rw [List.getElem?_set_self (by rw [← hl]; exact hlt)] at b
      cases a; cases b; exact hx
    · rw [List.getElem?_eq_none (by simpa using hlt)] at a; cases a
  · rw [List.getElem?_set_ne h] at a b
    exact hS j y s (fun e => h e.symm) a b
/-- a slot takes a datum -/
theorem StOk.set {i : Nat} {v : V} {d : D} (S : StOk K B Hi H σ ρ) (r : Rp K Hi v d) : StOk K B Hi H (σ.set i (some v)) (ρ.set i (.dat d)) :=
  ⟨S.sub, by simp [S.len], at_set S.len r fun j y s _ => S.at_ j y s, sep_set S.sep S.len fun h => nomatch h⟩
/-- .. is forgotten -/
theorem StOk.wipe1 {i : Nat} (S : StOk K B Hi H σ ρ) : StOk K B Hi H (σ.set i none) (ρ.set i .emp) :=
  ⟨S.sub, by simp [S.len], at_set S.len trivial fun j y s _ => S.at_ j y s, sep_set S.sep S.len fun h => nomatch h⟩
theorem set_same {α : Type} : ∀ {l : List α} {i : Nat} {x : α}, l[i]? = some x → l.set i x = l
  | [], _, _, h => by simp at h
  | _ :: _, 0, _, h => by simp at h; subst h; rfl
  | a :: l, i + 1, x, h => by rw [List.set_cons_succ, set_same (l := l) (i := i) (by simpa using h)]
/-- a thing of one's own is changed -/
theorem StOk.wr {i : Nat} {a : Addr} {c c' : Cl} {o : HO} (S : StOk K B Hi H σ ρ) (hi : ρ[i]? = some (.cl c)) (ha : σ[i]? = some (some (V.ref a))) (r : ClOk K Hi a o c') :
    StOk K B Hi (upd H a o) σ (ρ.set i (.cl c')) := by
  obtain ⟨a', u, e1, b1, n1, x1, r1⟩ := S.own hi
  rw [ha] at e1; cases e1
  have key : StOk K B Hi (upd H a o) (σ.set i (some (V.ref a))) (ρ.set i (.cl c')) := by
    refine ⟨fun c u z => ?_, by simp [S.len], at_set S.len ⟨a, o, rfl, b1, n1, upd_same, r⟩ fun j x s hj p q => ?_, sep_set S.sep S.len fun _ c e j s hs ho hj hc => ?_⟩
    · rw [upd_ne (ne_of_none z n1)]; exact S.sub c u z
    · have z := S.at_ j x s p q
      cases s with
      | emp => cases x <;> trivial
      | dat d => cases x <;> exact z
      | cl f =>
        cases x with
        | none => exact z
        | some v =>
          obtain ⟨c, o2, ev, b2, n2, x2, r2⟩ := z
          subst ev
          have hc : c ≠ a := fun e => by subst e; exact hj (S.sep j i _ _ c q hi rfl rfl p ha)
          exact ⟨c, o2, rfl, b2, n2, by rw [upd_ne hc]; exact x2, r2⟩
    · cases e
      exact hj (S.sep j i _ _ a hs hi ho rfl hc ha)
  rw [set_same ha] at key
  exact key
/-- a slot takes a new thing of one's own -/
theorem StOk.own1 {i : Nat} {p : Addr} {c : Cl} {o : HO} (S : StOk K B Hi H σ ρ) (bh : Ex B H) (hp : H p = none) (r : ClOk K Hi p o c) :
    StOk K B Hi (upd H p o) (σ.set i (some (V.ref p))) (ρ.set i (.cl c)) := by
  have S1 := S.grow (Gr.out (H' := upd H p o) S.sub (Ex.new hp))
  refine ⟨S1.sub, by simp [S.len], at_set S.len ⟨p, o, rfl, bh.free hp, S.sub.free hp, upd_same, r⟩ fun j y s _ => S1.at_ j y s, sep_set S.sep S.len fun _ c e j s hs ho hj hc => ?_⟩
  cases e
  cases s with
  | cl f =>
    obtain ⟨a', u, e1, b1, n1, x1, r1⟩ := S.own hs
    rw [hc] at e1; cases e1
    rw [hp] at x1; cases x1
  | _ => cases ho
/-- a thing of one's own becomes a datum -/
theorem StOk.frz {i : Nat} {c : Cl} {d : D} {Bi : Hp} (S : StOk K B Hi H σ ρ) (hi : ρ[i]? = some (.cl c)) (g : Gr Bi B Hi H)
    (hd : ∀ a o Hj, ClOk K Hi a o c → Ex Hi Hj → Hj a = some o → Rp K Hj (V.ref a) d) :
    ∃ Hi', Gr Bi B Hi' H ∧ Ex Hi Hi' ∧ StOk K B Hi' H σ (ρ.set i (.dat d)) ∧ ∃ a, σ[i]? = some (some (V.ref a)) ∧ Rp K Hi' (V.ref a) d := by
  obtain ⟨a, o, e1, b1, n1, x1, r1⟩ := S.own hi
  have ex : Ex Hi (upd Hi a o) := Ex.new n1
  have sub : Ex (upd Hi a o) H := fun c u z => by
    by_cases h : c = a
    · subst h; rw [upd_same] at z; cases z; exact x1
    · rw [upd_ne h] at z; exact g.sub c u z
  have rd : Rp K (upd Hi a o) (V.ref a) d := hd a o _ r1 ex upd_same
  have key : StOk K B (upd Hi a o) H (σ.set i (some (V.ref a))) (ρ.set i (.dat d)) := by
    refine ⟨sub, by simp [S.len], at_set S.len rd fun j x s hj p q => ?_, sep_set S.sep S.len fun h => nomatch h⟩
    have z := S.at_ j x s p q
    cases s with
    | emp => cases x <;> trivial
    | dat d =>
      cases x with
      | none => exact z
      | some v => exact Rp.up (show Rp K Hi v d from z) ex
    | cl f =>
      cases x with
      | none => exact z
      | some v =>
        obtain ⟨c, o2, ev, b2, n2, x2, r2⟩ := z
        subst ev
        have hc : c ≠ a := fun e => by subst e; exact hj (S.sep j i _ _ c q hi rfl rfl p e1)
        exact ⟨c, o2, rfl, b2, by rw [upd_ne hc]; exact n2, x2, r2.up ex⟩
  rw [set_same e1] at key
  exact ⟨upd Hi a o, ⟨g.i.trans ex, g.o, sub, fun c h z => by
    by_cases hc : c = a
    · subst hc; exact b1
    · obtain ⟨u, z⟩ := z
      rw [upd_ne hc] at z
      exact g.new c h ⟨u, z⟩⟩, ex, key, a, e1, rd⟩
end
end G
namespace G
open PySem PySem.Spec L2
/-- e is not starred -/
def nst (e : Expr) : Bool := match e with
  | .Starred _ _ => false
  | _ => true
theorem se_of {e : Expr} {es : List Expr} {env : Env} (h : nst e = true) : starEach (e :: es) env = (false, eval e env) :: starEach es env := by
  cases e <;> first | rfl | cases h
/-! ### what is asked, with no reading between -/
section
variable {X : Cx}
def wE (X : Cx) (e : Expr) : TE := fun σ H Q => ∀ (pins : List (Addr × Obj)) (s : Shared), Inv X pins σ H s → wpAny (model X.prog X.w) X.A (eval e X.env) (EP X pins σ Q) X.xe s
def wT (X : Cx) (e : Expr) : TT := fun σ H Q => ∀ (pins : List (Addr × Obj)) (s : Shared), Inv X pins σ H s → wpAny (model X.prog X.w) X.A (isTrue e X.env (eval e X.env)) (TP X pins σ Q) X.xe s
def wW (X : Cx) (e : Expr) : TT := fun σ H Q => ∀ (whole : Sem Value) (pins : List (Addr × Obj)) (s : Shared), Inv X pins σ H s → wpAny (model X.prog X.w) X.A (isTrue e X.env whole) (TP X pins σ Q) X.xe s
def wA (X : Cx) (es : List Expr) : TA := fun σ H Q => ∀ (pos : Pos) (pins : List (Addr × Obj)) (s : Shared), Inv X pins σ H s → wpAny (model X.prog X.w) X.A (spliced (backTo pos (starEach es X.env))) (AP X pins σ Q) X.xe s
def wS (X : Cx) (st : Stmt) : TS := fun Dn σ H => ∀ (pins : List (Addr × Obj)) (s : Shared), Inv X pins σ H s → wpAny (model X.prog X.w) X.A (exec st X.env) (SP X pins Dn) X.xe s
def wSs (X : Cx) (st : List Stmt) : TS := fun Dn σ H => ∀ (pins : List (Addr × Obj)) (s : Shared), Inv X pins σ H s → wpAny (model X.prog X.w) X.A (execs st X.env) (SP X pins Dn) X.xe s
def wG (X : Cx) (tg : Expr) : TG := fun v σ H Q => ∀ (pins : List (Addr × Obj)) (s : Shared) (u : Value), Inv X pins σ H s → RelV v u →
  wpAny (model X.prog X.w) X.A (assign tg X.env u) (fun _ s' => ∃ σ' H', Inv X pins σ' H' s' ∧ Q σ' H') X.xe s
theorem pe_w {e : Expr} : PE X e (wE X e) := ⟨fun pins s _ _ _ I h => h pins s I⟩
theorem pt_w {e : Expr} : PT X e (wT X e) := ⟨fun pins s _ _ _ I h => h pins s I⟩
theorem pw_w {e : Expr} : PW X e (wW X e) := ⟨fun wh pins s _ _ _ I h => h wh pins s I⟩
theorem pa_w {es : List Expr} : PA X es (wA X es) := ⟨fun pos pins s _ _ _ I h => h pos pins s I⟩
theorem pss_w {st : List Stmt} : PSs X st (wSs X st) := ⟨fun pins s _ _ _ I h => h pins s I⟩
theorem pg_w {tg : Expr} : PG X tg (wG X tg) := ⟨fun pins s _ _ v u _ I r h => h pins s u I r⟩
variable {σ : L2.St} {H : Hp}
theorem wE.of {e : Expr} {t : TE} {Q : VK} (h : PE X e t) (q : t σ H Q) : wE X e σ H Q := fun pins s I => h.run pins s σ H Q I q
theorem wT.of {e : Expr} {t : TT} {Q : Bool → Hp → Prop} (h : PT X e t) (q : t σ H Q) : wT X e σ H Q := fun pins s I => h.run pins s σ H Q I q
theorem wW.of {e : Expr} {t : TT} {Q : Bool → Hp → Prop} (h : PW X e t) (q : t σ H Q) : wW X e σ H Q := fun wh pins s I => h.run wh pins s σ H Q I q
theorem wA.of {es : List Expr} {t : TA} {Q : List V → Hp → Prop} (h : PA X es t) (q : t σ H Q) : wA X es σ H Q := fun pos pins s I => h.run pos pins s σ H Q I q
theorem wS.of {st : Stmt} {t : TS} {Dn : Ends} (h : PS X st t) (q : t Dn σ H) : wS X st Dn σ H := fun pins s I => h.run pins s σ H Dn I q
theorem wSs.of {st : List Stmt} {t : TS} {Dn : Ends} (h : PSs X st t) (q : t Dn σ H) : wSs X st Dn σ H := fun pins s I => h.run pins s σ H Dn I q
theorem wSs.cons {st : Stmt} {rest : List Stmt} {t : TS} {Dn : Ends} (h : PS X st t) (q : t { Dn with nx := wSs X rest Dn } σ H) : wSs X (st :: rest) Dn σ H := wSs.of (pss_cons h pss_w) q
end
/-! ### the judgements -/
/-- what is raised (by the class's name) is wished -/
def Rs (X : Cx) (Ψ : Str → Prop) (Hi H : Hp) (σ : L2.St) (W : WX) : Prop := ∀ x Hi' H', Ψ x → Gr Hi H Hi' H' → W (.ref (He.ga X.K x)) none σ H'
theorem Rs.grow {X : Cx} {Ψ : Str → Prop} {Hi H Hi' H' : Hp} {σ : L2.St} {W : WX} (r : Rs X Ψ Hi H σ W) (g : Gr Hi H Hi' H') : Rs X Ψ Hi' H' σ W := fun x a b p q => r x a b p (g.trans q)
/-- e gives a datum of Φ, or raises one of Ψ -/
def QX (X : Cx) (Ψ : Str → Prop) (e : Expr) (ρ : List Sl) (Φ : D → Prop) : Prop := ∀ (B Hi H : Hp) (σ : L2.St) (W : WX), Takes X W → StOk X.K B Hi H σ ρ → Rs X Ψ Hi H σ W →
  ∀ Q : VK, (∀ v d Hi' H', Φ d → Gr Hi H Hi' H' → Rp X.K Hi' v d → Q v H') → wE X e σ H Q
def QA (X : Cx) (Ψ : Str → Prop) (es : List Expr) (ρ : List Sl) (Φ : List D → Prop) : Prop := ∀ (B Hi H : Hp) (σ : L2.St) (W : WX), Takes X W → StOk X.K B Hi H σ ρ → Rs X Ψ Hi H σ W →
  ∀ Q : List V → Hp → Prop, (∀ vs ds Hi' H', Φ ds → Gr Hi H Hi' H' → RpA X.K Hi' vs ds → Q vs H') → wA X es σ H Q
def QT (X : Cx) (Ψ : Str → Prop) (e : Expr) (ρ : List Sl) (Φ : Bool → Prop) : Prop := ∀ (B Hi H : Hp) (σ : L2.St) (W : WX), Takes X W → StOk X.K B Hi H σ ρ → Rs X Ψ Hi H σ W →
  ∀ Q : Bool → Hp → Prop, (∀ b Hi' H', Φ b → Gr Hi H Hi' H' → Q b H') → wT X e σ H Q
def QW (X : Cx) (Ψ : Str → Prop) (e : Expr) (ρ : List Sl) (Φ : Bool → Prop) : Prop := ∀ (B Hi H : Hp) (σ : L2.St) (W : WX), Takes X W → StOk X.K B Hi H σ ρ → Rs X Ψ Hi H σ W →
  ∀ Q : Bool → Hp → Prop, (∀ b Hi' H', Φ b → Gr Hi H Hi' H' → Q b H') → wW X e σ H Q
/-- e gives d -/
abbrev QE (X : Cx) (Ψ : Str → Prop) (e : Expr) (ρ : List Sl) (d : D) : Prop := QX X Ψ e ρ (fun z => z = d)
abbrev QAs (X : Cx) (Ψ : Str → Prop) (es : List Expr) (ρ : List Sl) (ds : List D) : Prop := QA X Ψ es ρ (fun z => z = ds)
section
variable {X : Cx} {Ψ : Str → Prop} {ρ : List Sl} {Φ Φ' : D → Prop} {Θ Θ' : Bool → Prop} {a b c e : Expr} {es : List Expr} {pos p p2 : Pos}
theorem QX.mono (h : QX X Ψ e ρ Φ) (k : ∀ d, Φ d → Φ' d) : QX X Ψ e ρ Φ' := fun B Hi H σ W tk S r Q q => h B Hi H σ W tk S r Q fun v d Hi' H' z => q v d Hi' H' (k d z)
theorem QA.mono {Φ Φ' : List D → Prop} (h : QA X Ψ es ρ Φ) (k : ∀ d, Φ d → Φ' d) : QA X Ψ es ρ Φ' := fun B Hi H σ W tk S r Q q => h B Hi H σ W tk S r Q fun v d Hi' H' z => q v d Hi' H' (k d z)
theorem QT.mono (h : QT X Ψ e ρ Θ) (k : ∀ d, Θ d → Θ' d) : QT X Ψ e ρ Θ' := fun B Hi H σ W tk S r Q q => h B Hi H σ W tk S r Q fun b Hi' H' z => q b Hi' H' (k b z)
theorem QW.mono (h : QW X Ψ e ρ Θ) (k : ∀ d, Θ d → Θ' d) : QW X Ψ e ρ Θ' := fun B Hi H σ W tk S r Q q => h B Hi H σ W tk S r Q fun b Hi' H' z => q b Hi' H' (k b z)
theorem QE.to {d : D} (h : QE X Ψ e ρ d) (k : Φ d) : QX X Ψ e ρ Φ := QX.mono h fun _ z => by subst z; exact k
theorem QE.is {d d' : D} (h : QE X Ψ e ρ d) (k : d = d') : QE X Ψ e ρ d' := k ▸ h
theorem QAs.to {ds : List D} {Φ : List D → Prop} (h : QAs X Ψ es ρ ds) (k : Φ ds) : QA X Ψ es ρ Φ := QA.mono h fun _ z => by subst z; exact k
/-! ### names, constants -/
theorem qx_var (i : Nat) {x : Str} {d : D} (h : ρ[i]? = some (.dat d)) (k : Φ d) (hN : X.N[i]? = some x := by rfl) (hv : Vis X.env.scope x := by first | exact Or.inl rfl | exact Or.inr (Or.inl rfl) | exact Or.inr (Or.inr rfl)) (hd : (x == ("__debug__" : Str)) = false := by decide)
    (hcd : (x == ("__classdict__" : Str)) = false := by decide) : QX X Ψ (.Name x pos) ρ Φ := fun B Hi H σ W tk S r Q q => by
  obtain ⟨v, e, rp⟩ := S.dat h
  exact wE.of (pe_var hN hv hd hcd) ⟨v, e, q v d Hi H k (Gr.refl S.sub) rp⟩
theorem qx_int {i : Int} {j : Nat} (k : Φ (.int i)) : QX X Ψ (.Constant (.int i) j pos) ρ Φ := fun B Hi H σ W tk S r Q q => wE.of pe_int (q _ _ Hi H k (Gr.refl S.sub) (.int i))
theorem qx_bl {i : Bool} {j : Nat} (k : Φ (.bl i)) : QX X Ψ (.Constant (.bool i) j pos) ρ Φ := fun B Hi H σ W tk S r Q q => wE.of pe_bl (q _ _ Hi H k (Gr.refl S.sub) (.bl i))
theorem qx_non {j : Nat} (k : Φ .non) : QX X Ψ (.Constant .none j pos) ρ Φ := fun B Hi H σ W tk S r Q q => wE.of pe_non (q _ _ Hi H k (Gr.refl S.sub) .non)
theorem qx_str {i : Str} {j : Nat} (k : Φ (.str i)) : QX X Ψ (.Constant (.str i) j pos) ρ Φ := fun B Hi H σ W tk S r Q q => wE.of pe_str (q _ _ Hi H k (Gr.refl S.sub) (.str i))
theorem qi {i : Int} {j : Nat} : QE X Ψ (.Constant (.int i) j pos) ρ (.int i) := qx_int rfl
theorem qb {i : Bool} {j : Nat} : QE X Ψ (.Constant (.bool i) j pos) ρ (.bl i) := qx_bl rfl
theorem qn {j : Nat} : QE X Ψ (.Constant .none j pos) ρ .non := qx_non rfl
theorem qs {i : Str} {j : Nat} : QE X Ψ (.Constant (.str i) j pos) ρ (.str i) := qx_str rfl
/-- a module's constant that stands written -/
theorem qx_glob {x : Str} {v : V} {u : Value} {d : D} (hm : X.mg x = some u) (r : RelV v u) (hd : ∀ H, Rp X.K H v d) (k : Φ d) (hg : Gl X x := by rfl) (hdb : (x == ("__debug__" : Str)) = false := by decide) : QX X Ψ (.Name x pos) ρ Φ :=
  fun B Hi H σ W tk S _ Q q => wE.of (pe_glob hg hm r hdb) (q v d Hi H k (Gr.refl S.sub) (hd Hi))
/-! ### two places -/
def OpD (X : Cx) (r : R2) (R : D → D → (D → Prop) → Prop) : Prop := ∀ (Hi H : Hp) (x y : D) (v u : V) (Φ : D → Prop), Ex Hi H → R x y Φ → Rp X.K Hi v x → Rp X.K Hi u y →
  ∀ Q : VK, (∀ z d Hi' H', Φ d → Gr Hi H Hi' H' → Rp X.K Hi' z d → Q z H') → r v u H Q
theorem bin_go {r : R2} {R : D → D → (D → Prop) → Prop} (hd : OpD X r R) (h : QX X Ψ a ρ fun x => QX X Ψ b ρ fun y => R x y Φ) {B Hi H : Hp} {σ : L2.St} {W : WX} (tk : Takes X W) (S : StOk X.K B Hi H σ ρ) (rs : Rs X Ψ Hi H σ W)
    {Q : VK} (q : ∀ v d Hi' H', Φ d → Gr Hi H Hi' H' → Rp X.K Hi' v d → Q v H') : tOp r (wE X a) (wE X b) σ H Q :=
  h B Hi H σ W tk S rs _ fun v x Hi1 H1 h1 g1 r1 => h1 B Hi1 H1 σ W tk (S.grow g1) (rs.grow g1) _ fun u y Hi2 H2 h2 g2 r2 =>
    hd Hi2 H2 x y v u Φ g2.sub h2 (r1.up g2.i) r2 Q fun z d Hi3 H3 hz g3 r3 => q z d Hi3 H3 hz ((g1.trans g2).trans g3) r3
theorem qx_op {op : Operator} {r : R2} {R : D → D → (D → Prop) → Prop} (ho : OpR X (binaryOp op) r) (hd : OpD X r R) (h : QX X Ψ a ρ fun x => QX X Ψ b ρ fun y => R x y Φ) : QX X Ψ (.BinOp a op b pos) ρ Φ :=
  fun _ _ _ _ _ tk S rs _ q => wE.of (pe_op ho pe_w pe_w) (bin_go hd h tk S rs q)
theorem qx_cmp {op : CmpOp} {r : R2} {R : D → D → (D → Prop) → Prop} (ho : OpR X (compareOp op) r) (hd : OpD X r R) (hm : behindInMarks op b = false) (h : QX X Ψ a ρ fun x => QX X Ψ b ρ fun y => R x y Φ) : QX X Ψ (.Compare a [op] [b] pos) ρ Φ :=
  fun _ _ _ _ _ tk S rs _ q => wE.of (pe_cmpR ho pe_w pe_w hm) (bin_go hd h tk S rs q)
theorem qx_ix {r : R2} {R : D → D → (D → Prop) → Prop} (ho : IxR X r) (hd : OpD X r R) (hp : PlainIx b) (h : QX X Ψ a ρ fun x => QX X Ψ b ρ fun y => R x y Φ) : QX X Ψ (.Subscript a b pos) ρ Φ :=
  fun _ _ _ _ _ tk S rs _ q => wE.of (pe_ix ho pe_w pe_w hp) (bin_go hd h tk S rs q)
/-- a comparison as a test -/
theorem qt_cmp {op : CmpOp} {r : R2} {R : D → D → (D → Prop) → Prop} (ho : OpR X (compareOp op) r) (hd : OpD X r R) (hm : behindInMarks op b = false) (h : QX X Ψ a ρ fun x => QX X Ψ b ρ fun y => R x y fun d => ∃ k, d = .bl k ∧ Θ k) : QT X Ψ (.Compare a [op] [b] pos) ρ Θ :=
  fun _ _ _ _ _ tk S rs Q q => wT.of (pt_cmpR ho pe_w pe_w hm) (bin_go (Q := fun x H' => ∃ k, x = .bl k ∧ Q k H') hd h tk S rs fun v d Hi' H' hz g rp => by
    obtain ⟨k, e, hk⟩ := hz
    subst e
    cases rp
    exact ⟨k, rfl, q k Hi' H' hk g⟩)
theorem od_I0 {g : Int → Int → V} {gd : Int → Int → D} (hg : ∀ H i j, Rp X.K H (g i j) (gd i j)) : OpD X (rI0 g) (fun x y Φ => ∃ i j, x = .int i ∧ y = .int j ∧ Φ (gd i j)) := fun Hi H x y v u Φ s h r1 r2 Q q => by
  obtain ⟨i, j, e1, e2, k⟩ := h
  subst e1 e2
  cases r1; cases r2
  exact ⟨i, j, rfl, rfl, q _ _ Hi H k (Gr.refl s) (hg Hi i j)⟩
theorem od_I {C : Int → Int → Prop} {g : Int → Int → V} {gd : Int → Int → D} (hg : ∀ H i j, Rp X.K H (g i j) (gd i j)) : OpD X (rI C g) (fun x y Φ => ∃ i j, x = .int i ∧ y = .int j ∧ C i j ∧ Φ (gd i j)) := fun Hi H x y v u Φ s h r1 r2 Q q => by
  obtain ⟨i, j, e1, e2, c, k⟩ := h
  subst e1 e2
  cases r1; cases r2
  exact ⟨i, j, rfl, rfl, c, q _ _ Hi H k (Gr.refl s) (hg Hi i j)⟩
/-- == of data -/
theorem od_eqD {n : Nat} (hn : n ≤ 64) : OpD X (rEqD X.K) (fun x y Φ => D.shp n x = true ∧ D.shp n y = true ∧ Φ (.bl (deq x y))) := fun Hi H x y v u Φ s h r1 r2 Q q => by
  obtain ⟨s1, s2, k⟩ := h
  exact ⟨x.py, y.py, Rp.dp x v n s1 (r1.up s), Rp.dp y u n s2 (r2.up s), D.shp_shaped s1 hn, D.shp_shaped s2 hn, q _ _ Hi H k (Gr.refl s) (.bl _)⟩
theorem od_neD {n : Nat} (hn : n ≤ 64) : OpD X (rNeD X.K) (fun x y Φ => D.shp n x = true ∧ D.shp n y = true ∧ Φ (.bl (!deq x y))) := fun Hi H x y v u Φ s h r1 r2 Q q => by
  obtain ⟨s1, s2, k⟩ := h
  exact ⟨x.py, y.py, Rp.dp x v n s1 (r1.up s), Rp.dp y u n s2 (r2.up s), D.shp_shaped s1 hn, D.shp_shaped s2 hn, q _ _ Hi H k (Gr.refl s) (.bl _)⟩
theorem od_ixT : OpD X (rIxT X.K) (fun x y Φ => ∃ ds i d, x = .tup ds ∧ y = .int i ∧ atI ds i = some d ∧ Φ d) := fun Hi H x y v u Φ s h r1 r2 Q q => by
  obtain ⟨ds, i, d, e1, e2, hi, k⟩ := h
  subst e1 e2
  cases r2
  cases r1 with
  | tup hs ha =>
    have hl := ha.length
    unfold atI at hi
    cases e : ixN ds.length i with
    | none => rw [e] at hi; cases hi
    | some j =>
      rw [e] at hi
      obtain ⟨v', h1, h2⟩ := ha.get (show ds[j]? = some d from hi)
      exact ⟨_, _, i, v', rfl, rfl, s.t hs, by unfold atI; rw [hl, e]; exact h1, q _ _ Hi H k (Gr.refl s) h2⟩
theorem od_ixL : OpD X (rIxL X.K) (fun x y Φ => ∃ ds i d, x = .lst ds ∧ y = .int i ∧ atI ds i = some d ∧ Φ d) := fun Hi H x y v u Φ s h r1 r2 Q q => by
  obtain ⟨ds, i, d, e1, e2, hi, k⟩ := h
  subst e1 e2
  cases r2
  cases r1 with
  | lst hs ha =>
    have hl := ha.length
    unfold atI at hi
    cases e : ixN ds.length i with
    | none => rw [e] at hi; cases hi
    | some j =>
      rw [e] at hi
      obtain ⟨v', h1, h2⟩ := ha.get (show ds[j]? = some d from hi)
      exact ⟨_, _, i, v', rfl, rfl, s.l (SqL.of hs), by unfold atI; rw [hl, e]; exact h1, q _ _ Hi H k (Gr.refl s) h2⟩
/-- xs + ys -/
theorem od_cat : OpD X rCat
    (fun x y Φ => ∃ ds es, x = .lst ds ∧ y = .lst es ∧ ds.length + es.length ≤ sizeLine ∧ Φ (.lst (ds ++ es))) := fun Hi H x y v u Φ s h r1 r2 Q q => by
  obtain ⟨ds, es, e1, e2, hz, k⟩ := h
  subst e1 e2
  cases r1 with
  | lst hs ha =>
    cases r2 with
    | lst hs' ha' =>
      refine ⟨_, _, _, _, rfl, rfl, s _ _ hs, s _ _ hs', by rw [ha.length, ha'.length]; exact hz, fun p hp => q _ _ (upd Hi p _) _ k (Gr.mk1 s hp) ?_⟩
      exact .lst upd_same ((ha.app ha').up (Ex.new (s.free hp)))
variable {i j : Int} {ds es' : List D} {d d' : D} {x' y' : D}
theorem qx_sub (h : QX X Ψ a ρ fun x => ∃ i, x = .int i ∧ QX X Ψ b ρ fun y => ∃ j, y = .int j ∧ Φ (.int (i - j))) : QX X Ψ (.BinOp a .Sub b pos) ρ Φ :=
  qx_op op_sub (od_I0 fun _ _ _ => .int _) (h.mono fun _ ⟨i, e, k⟩ => k.mono fun _ ⟨j, e', k'⟩ => ⟨i, j, e, e', k'⟩)
theorem qe_sub (ha : QE X Ψ a ρ (.int i)) (hb : QE X Ψ b ρ (.int j)) : QE X Ψ (.BinOp a .Sub b pos) ρ (.int (i - j)) := qx_sub (ha.to ⟨i, rfl, hb.to ⟨j, rfl, rfl⟩⟩)
/-! ints compared -/
/-! ### one place -/
theorem qx_neg (h : QX X Ψ a ρ fun x => ∃ i, x = .int i ∧ Φ (.int (-i))) : QX X Ψ (.UnaryOp .USub a pos) ρ Φ := fun B Hi H σ W tk S rs Q q => wE.of (pe_un un_neg pe_w) (h B Hi H σ W tk S rs _ fun v d Hi1 H1 hd g r => by
  obtain ⟨i, e, k⟩ := hd
  subst e
  cases r
  exact ⟨i, rfl, q _ _ Hi1 H1 k g (.int _)⟩)
/-! ### argument lists, displays -/
theorem qa_nil {Φ : List D → Prop} (k : Φ []) : QA X Ψ [] ρ Φ := fun B Hi H σ W tk S rs Q q => wA.of pa_nil (q [] [] Hi H k (Gr.refl S.sub) .nil)
theorem qa_cons {Φ : List D → Prop} (h : QX X Ψ e ρ fun d => QA X Ψ es ρ fun ds => Φ (d :: ds)) (hs : starEach (e :: es) X.env = (false, eval e X.env) :: starEach es X.env := by exact se_of rfl) : QA X Ψ (e :: es) ρ Φ :=
  fun B Hi H σ W tk S rs Q q => wA.of (pa_cons pe_w pa_w hs) (h B Hi H σ W tk S rs _ fun v d Hi1 H1 hd g1 r1 =>
    hd B Hi1 H1 σ W tk (S.grow g1) (rs.grow g1) _ fun vs ds Hi2 H2 h2 g2 r2 => q _ _ Hi2 H2 h2 (g1.trans g2) (.cons (r1.up g2.i) r2))
theorem qas_nil : QAs X Ψ [] ρ [] := qa_nil rfl
theorem qas_cons (h : QE X Ψ e ρ d) (hr : QAs X Ψ es ρ ds) (hs : starEach (e :: es) X.env = (false, eval e X.env) :: starEach es X.env := by exact se_of rfl) : QAs X Ψ (e :: es) ρ (d :: ds) := qa_cons (h.to (hr.to rfl)) hs
theorem small {n : Nat} (h : n ≤ 100000) : n ≤ sizeLine := Nat.le_trans h (by decide)
theorem qx_tup {n : Nat} (h : QA X Ψ es ρ fun ds => ds.length ≤ sizeLine ∧ Φ (.tup ds)) : QX X Ψ (.Tuple es n pos) ρ Φ := fun B Hi H σ W tk S rs Q q => wE.of (pe_tup pa_w) (h B Hi H σ W tk S rs _ fun vs ds Hi1 H1 hd g r => by
  refine ⟨by rw [r.length]; exact hd.1, fun p hp => q _ _ (upd Hi1 p _) _ hd.2 (g.trans (Gr.mk1 g.sub hp)) ?_⟩
  exact .tup (SqT.of upd_same) (r.up (Ex.new (g.sub.free hp))))
theorem qx_lst (h : QA X Ψ es ρ fun ds => ds.length ≤ sizeLine ∧ Φ (.lst ds)) : QX X Ψ (.List es pos) ρ Φ := fun B Hi H σ W tk S rs Q q => wE.of (pe_lst pa_w) (h B Hi H σ W tk S rs _ fun vs ds Hi1 H1 hd g r => by
  refine ⟨by rw [r.length]; exact hd.1, fun p hp => q _ _ (upd Hi1 p _) _ hd.2 (g.trans (Gr.mk1 g.sub hp)) ?_⟩
  exact .lst upd_same (r.up (Ex.new (g.sub.free hp))))
theorem qe_tup {n : Nat} (h : QAs X Ψ es ρ ds) (hz : ds.length ≤ 100000 := by exact Nat.le_of_ble_eq_true rfl) : QE X Ψ (.Tuple es n pos) ρ (.tup ds) := qx_tup (h.to ⟨small hz, rfl⟩)
theorem qe_lst (h : QAs X Ψ es ρ ds) (hz : ds.length ≤ 100000 := by exact Nat.le_of_ble_eq_true rfl) : QE X Ψ (.List es pos) ρ (.lst ds) := qx_lst (h.to ⟨small hz, rfl⟩)
/-! ### tests -/
theorem qt_val (h : QX X Ψ e ρ fun d => ∃ k, d = .bl k ∧ Θ k) (he : ∀ whole, isTrue e X.env whole = (do let v ← whole; standAt e.pos; holding [v] (truthy v)) := by intro _; rfl) : QT X Ψ e ρ Θ :=
  fun B Hi H σ W tk S rs Q q => wT.of (pt_val pe_w he) (h B Hi H σ W tk S rs _ fun v d Hi1 H1 hd g r => by
    obtain ⟨k, e, z⟩ := hd
    subst e
    cases r
    exact ⟨k, rfl, q k Hi1 H1 z g⟩)
theorem qt_not (h : QT X Ψ a ρ fun k => Θ (!k)) : QT X Ψ (.UnaryOp .Not a pos) ρ Θ := fun B Hi H σ W tk S rs Q q => wT.of (pt_not pt_w) (h B Hi H σ W tk S rs _ fun k Hi1 H1 z g => q _ Hi1 H1 z g)
theorem QW.t (h : QW X Ψ e ρ Θ) : QT X Ψ e ρ Θ := fun B Hi H σ W tk S rs Q q pins s I => h B Hi H σ W tk S rs Q q _ pins s I
theorem qw_and1 (h : QT X Ψ a ρ Θ) : QW X Ψ (.BoolOp .And [a] pos) ρ Θ := fun B Hi H σ W tk S rs Q q => wW.of (pw_and1 pt_w) (h B Hi H σ W tk S rs Q q)
theorem qw_or1 (h : QT X Ψ a ρ Θ) : QW X Ψ (.BoolOp .Or [a] pos) ρ Θ := fun B Hi H σ W tk S rs Q q => wW.of (pw_or1 pt_w) (h B Hi H σ W tk S rs Q q)
theorem qw_and {rest : List Expr} (h : QT X Ψ a ρ fun k => if k = true then QW X Ψ (.BoolOp .And (b :: rest) pos) ρ Θ else Θ false) : QW X Ψ (.BoolOp .And (a :: b :: rest) pos) ρ Θ :=
  fun B Hi H σ W tk S rs Q q => wW.of (pw_and pt_w pw_w) (h B Hi H σ W tk S rs _ fun k Hi1 H1 z g => by
    cases k with
    | true => exact z B Hi1 H1 σ W tk (S.grow g) (rs.grow g) Q fun b Hi2 H2 zb g2 => q b Hi2 H2 zb (g.trans g2)
    | false => exact q false Hi1 H1 z g)
theorem qw_or {rest : List Expr} (h : QT X Ψ a ρ fun k => if k = true then Θ true else QW X Ψ (.BoolOp .Or (b :: rest) pos) ρ Θ) : QW X Ψ (.BoolOp .Or (a :: b :: rest) pos) ρ Θ :=
  fun B Hi H σ W tk S rs Q q => wW.of (pw_or pt_w pw_w) (h B Hi H σ W tk S rs _ fun k Hi1 H1 z g => by
    cases k with
    | false => exact z B Hi1 H1 σ W tk (S.grow g) (rs.grow g) Q fun b Hi2 H2 zb g2 => q b Hi2 H2 zb (g.trans g2)
    | true => exact q true Hi1 H1 z g)
/-- tests that answer: QB e k -/
abbrev QB (X : Cx) (Ψ : Str → Prop) (e : Expr) (ρ : List Sl) (k : Bool) : Prop := QT X Ψ e ρ (fun z => z = k)
variable {k k' : Bool}
theorem QB.to (h : QB X Ψ e ρ k) (z : Θ k) : QT X Ψ e ρ Θ := QT.mono h fun _ e => by subst e; exact z
theorem QB.is (h : QB X Ψ e ρ k) (z : k = k') : QB X Ψ e ρ k' := z ▸ h
/-- .. as values -/
theorem qx_not (h : QX X Ψ a ρ fun x => ∃ k, x = .bl k ∧ Φ (.bl (!k))) : QX X Ψ (.UnaryOp .Not a pos) ρ Φ := fun B Hi H σ W tk S rs Q q => wE.of (pe_not pe_w) (h B Hi H σ W tk S rs _ fun v d Hi1 H1 hd g r => by
  obtain ⟨k, e, z⟩ := hd
  subst e
  cases r
  exact ⟨k, rfl, q _ _ Hi1 H1 z g (.bl _)⟩)
theorem qx_one {op : BoolOp} (h : QX X Ψ a ρ Φ) : QX X Ψ (.BoolOp op [a] pos) ρ Φ := fun B Hi H σ W tk S rs Q q => wE.of (pe_one pe_w) (h B Hi H σ W tk S rs Q q)
theorem qx_and {rest : List Expr} (h : QX X Ψ a ρ fun x => ∃ k, x = .bl k ∧ if k = true then QX X Ψ (.BoolOp .And (b :: rest) pos) ρ Φ else Φ (.bl false)) : QX X Ψ (.BoolOp .And (a :: b :: rest) pos) ρ Φ :=
  fun B Hi H σ W tk S rs Q q => wE.of (pe_and pe_w pe_w) (h B Hi H σ W tk S rs _ fun v d Hi1 H1 hd g r => by
    obtain ⟨k, e, z⟩ := hd
    subst e
    cases r
    refine ⟨k, rfl, ?_⟩
    cases k with
    | true => exact z B Hi1 H1 σ W tk (S.grow g) (rs.grow g) Q fun v d Hi2 H2 zd g2 r2 => q v d Hi2 H2 zd (g.trans g2) r2
    | false => exact q _ _ Hi1 H1 z g (.bl _))
theorem qx_or {rest : List Expr} (h : QX X Ψ a ρ fun x => ∃ k, x = .bl k ∧ if k = true then Φ (.bl true) else QX X Ψ (.BoolOp .Or (b :: rest) pos) ρ Φ) : QX X Ψ (.BoolOp .Or (a :: b :: rest) pos) ρ Φ :=
  fun B Hi H σ W tk S rs Q q => wE.of (pe_or pe_w pe_w) (h B Hi H σ W tk S rs _ fun v d Hi1 H1 hd g r => by
    obtain ⟨k, e, z⟩ := hd
    subst e
    cases r
    refine ⟨k, rfl, ?_⟩
    cases k with
    | false => exact z B Hi1 H1 σ W tk (S.grow g) (rs.grow g) Q fun v d Hi2 H2 zd g2 r2 => q v d Hi2 H2 zd (g.trans g2) r2
    | true => exact q _ _ Hi1 H1 z g (.bl _))
/-- a if t else b -/
theorem qx_if (h : QT X Ψ c ρ fun k => if k = true then QX X Ψ a ρ Φ else QX X Ψ b ρ Φ) : QX X Ψ (.IfExp c a b pos) ρ Φ := fun B Hi H σ W tk S rs Q q => wE.of (pe_ifExp pt_w pe_w pe_w) (h B Hi H σ W tk S rs _ fun k Hi1 H1 z g => by
  cases k with
  | true => exact z B Hi1 H1 σ W tk (S.grow g) (rs.grow g) Q fun v d Hi2 H2 zd g2 r2 => q v d Hi2 H2 zd (g.trans g2) r2
  | false => exact z B Hi1 H1 σ W tk (S.grow g) (rs.grow g) Q fun v d Hi2 H2 zd g2 r2 => q v d Hi2 H2 zd (g.trans g2) r2)
end
end G
namespace G
open PySem PySem.Spec L2
/-! ### blocks -/
/-- what is wanted behind a block, of data -/
structure Po where
  nx : List Sl → Prop := fun _ => False
  rt : D → Prop := fun _ => False
  bk : List Sl → Prop := fun _ => False
  ct : List Sl → Prop := fun _ => False
structure Nd (X : Cx) (Bi B : Hp) (R : Po) (Dn : Ends) : Prop where
  nx : ∀ ρ' Hi' H' σ', R.nx ρ' → Gr Bi B Hi' H' → StOk X.K B Hi' H' σ' ρ' → Dn.nx σ' H'
  rt : ∀ v d Hi' H', R.rt d → Gr Bi B Hi' H' → Rp X.K Hi' v d → Dn.rt v H'
  bk : ∀ ρ' Hi' H' σ', R.bk ρ' → Gr Bi B Hi' H' → StOk X.K B Hi' H' σ' ρ' → Dn.bk σ' H'
  ct : ∀ ρ' Hi' H' σ', R.ct ρ' → Gr Bi B Hi' H' → StOk X.K B Hi' H' σ' ρ' → Dn.ct σ' H'
def Rb (X : Cx) (Ψ : Str → Prop) (Bi B : Hp) (W : WX) : Prop := ∀ x σ' Hi' H', Ψ x → Gr Bi B Hi' H' → W (.ref (He.ga X.K x)) none σ' H'
theorem Rb.rs {X : Cx} {Ψ : Str → Prop} {Bi B Hi H : Hp} {W : WX} (r : Rb X Ψ Bi B W) (g : Gr Bi B Hi H) (σ : L2.St) : Rs X Ψ Hi H σ W := fun x a b p q => r x σ a b p (g.trans q)
def QS (X : Cx) (Ψ : Str → Prop) (st : List Stmt) (ρ : List Sl) (R : Po) : Prop := ∀ (Bi B Hi H : Hp) (σ : L2.St) (Dn : Ends) (W : WX), Takes X W → Gr Bi B Hi H → StOk X.K B Hi H σ ρ → Rb X Ψ Bi B W → Nd X Bi B R Dn → wSs X st Dn σ H
section
variable {X : Cx} {Ψ : Str → Prop} {ρ : List Sl} {R : Po} {Φ : D → Prop} {a b c e : Expr} {es : List Expr} {pos p p2 : Pos} {rest body blk els : List Stmt}
theorem QS.mono {R' : Po} (h : QS X Ψ body ρ R) (k1 : ∀ x, R.nx x → R'.nx x) (k2 : ∀ x, R.rt x → R'.rt x) (k3 : ∀ x, R.bk x → R'.bk x) (k4 : ∀ x, R.ct x → R'.ct x) : QS X Ψ body ρ R' := fun Bi B Hi H σ Dn W tk g S rb N =>
  h Bi B Hi H σ Dn W tk g S rb ⟨fun ρ' a b c z => N.nx ρ' a b c (k1 _ z), fun v d a b z => N.rt v d a b (k2 _ z), fun ρ' a b c z => N.bk ρ' a b c (k3 _ z), fun ρ' a b c z => N.ct ρ' a b c (k4 _ z)⟩
theorem qs_nil (k : R.nx ρ) : QS X Ψ [] ρ R := fun Bi B Hi H σ Dn W tk g S rb N => wSs.of pss_nil (N.nx ρ Hi H σ k g S)
/-- x = e -/
theorem qs_set (i : Nat) {x : Str} (h : QX X Ψ e ρ fun d => QS X Ψ rest (ρ.set i (.dat d)) R) (hN : X.N.Nodup) (hi : X.N[i]? = some x := by rfl) (hx : Loc X.env.scope x := by first | exact Or.inl rfl | exact Or.inr rfl)
    (hs : swapsWith e (some (.Name x p)) pos.line X.env = pure false := by rfl) (hf : X.fn x = true ∨ X.env.scope.names.lookup x = some .local := by first | exact .inl rfl | exact .inr rfl) : QS X Ψ (.Assign [.Name x p] e pos :: rest) ρ R :=
  fun Bi B Hi H σ Dn W tk g S rb N => wSs.cons (ps_set hN hi hx pe_w hs hf) (h B Hi H σ W tk S (rb.rs g σ) _ fun v d Hi1 H1 z g1 r1 => z Bi B Hi1 H1 (σ.set i (some v)) Dn W tk (g.trans g1) ((S.grow g1).set r1) rb N)
theorem qs_expr (h : QX X Ψ e ρ fun _ => QS X Ψ rest ρ R) (hs : swapsWith e none pos.line X.env = pure false := by rfl) : QS X Ψ (.Expr e pos :: rest) ρ R :=
  fun Bi B Hi H σ Dn W tk g S rb N => wSs.cons (ps_expr pe_w hs) (h B Hi H σ W tk S (rb.rs g σ) _ fun v d Hi1 H1 z g1 r1 => z Bi B Hi1 H1 σ Dn W tk (g.trans g1) (S.grow g1) rb N)
theorem qs_ret (h : QX X Ψ e ρ R.rt) : QS X Ψ (.Return (some e) pos :: rest) ρ R :=
  fun Bi B Hi H σ Dn W tk g S rb N => wSs.cons (ps_ret pe_w) (h B Hi H σ W tk S (rb.rs g σ) _ fun v d Hi1 H1 z g1 r1 => N.rt v d Hi1 H1 z (g.trans g1) r1)
/-- from here on a list of one's own is read alone -/
theorem qs_frz (i : Nat) {c : Cl} {d : D} (hi : ρ[i]? = some (.cl c)) (hd : ∀ K Hi a o Hj, ClOk K Hi a o c → Ex Hi Hj → Hj a = some o → Rp K Hj (.ref a) d) (h : QS X Ψ body (ρ.set i (.dat d)) R) : QS X Ψ body ρ R :=
  fun Bi B Hi H σ Dn W tk g S rb N => by
    obtain ⟨Hi', g', _, S', a, e, r⟩ := S.frz hi g (fun a o Hj => hd _ _ a o Hj)
    exact h Bi B Hi' H σ Dn W tk g' S' rb N
theorem frz_lst {ds : List D} : ∀ (K : PySem.W.Frag) (Hi : Hp) (a : Addr) (o : HO) (Hj : Hp), ClOk K Hi a o (.lst ds) → Ex Hi Hj → Hj a = some o → Rp K Hj (.ref a) (.lst ds) := fun K Hi a o Hj h e z => by
  cases o with
  | lst vs => exact .lst z ((show RpA K Hi vs ds from h).up e)
  | _ => exact h.elim
theorem qs_if (h : QT X Ψ c ρ fun k => if k = true then QS X Ψ blk ρ { R with nx := fun ρ' => QS X Ψ rest ρ' R } else QS X Ψ els ρ { R with nx := fun ρ' => QS X Ψ rest ρ' R }) : QS X Ψ (.If c blk els pos :: rest) ρ R :=
  fun Bi B Hi H σ Dn W tk g S rb N => wSs.cons (ps_if pt_w pss_w pss_w) (h B Hi H σ W tk S (rb.rs g σ) _ fun k Hi1 H1 z g1 => by
    have N' : Nd X Bi B { R with nx := fun ρ' => QS X Ψ rest ρ' R } { Dn with nx := wSs X rest Dn } := ⟨fun ρ' Hi' H' σ' q g' S' => q Bi B Hi' H' σ' Dn W tk g' S' rb N, N.rt, N.bk, N.ct⟩
    cases k with
    | true => exact z Bi B Hi1 H1 σ _ W tk (g.trans g1) (S.grow g1) rb N'
    | false => exact z Bi B Hi1 H1 σ _ W tk (g.trans g1) (S.grow g1) rb N')
/-- a, b = x, y -/
theorem qs_par (i j : Nat) {x y : Str} {px py pt : Pos} {kt k2 : Nat} {pt2 : Pos} (h : QX X Ψ a ρ fun d => QX X Ψ b ρ fun d' => QS X Ψ rest ((ρ.set i (.dat d)).set j (.dat d')) R) (hN : X.N.Nodup) (hij : i ≠ j := by decide) (hi : X.N[i]? = some x := by rfl) (hj : X.N[j]? = some y := by rfl)
    (hx : X.env.scope.names.lookup x = some .local := by rfl) (hy : X.env.scope.names.lookup y = some .local := by rfl) (hc : X.calm = true := by rfl)
    (hw : swappedStores [.Tuple [.Name x px, .Name y py] kt pt] (.Tuple [a, b] k2 pt2) X.env = pure (some [x, y]) := by rfl)
    (hs : swapsWithSole [.Tuple [.Name x px, .Name y py] kt pt] (.Tuple [a, b] k2 pt2) pos.line X.env = pure false := by rfl) (he : starEach [a, b] X.env = (false, eval a X.env) :: starEach [b] X.env := by exact se_of rfl) (he2 : starEach [b] X.env = (false, eval b X.env) :: starEach [] X.env := by exact se_of rfl) :
    QS X Ψ (.Assign [.Tuple [.Name x px, .Name y py] kt pt] (.Tuple [a, b] k2 pt2) pos :: rest) ρ R :=
  fun Bi B Hi H σ Dn W tk g S rb N => wSs.cons (ps_par (i := i) (j := j) hc hN hi hj hij hx hy (pa_cons pe_w (pa_cons pe_w pa_nil he2) he) hw hs) (h B Hi H σ W tk S (rb.rs g σ) _ fun v d Hi1 H1 z g1 r1 =>
    z B Hi1 H1 σ W tk (S.grow g1) ((rb.rs g σ).grow g1) _ fun u d' Hi2 H2 z2 g2 r2 => ⟨v, u, rfl, z2 Bi B Hi2 H2 _ Dn W tk ((g.trans g1).trans g2) ((((S.grow g1).grow g2).set (r1.up g2.i)).set r2) rb N⟩)
/-! ### targets -/
/-- tg takes d: the slots from ρ to ρ' -/
def QG (X : Cx) (tg : Expr) (d : D) (ρ ρ' : List Sl) : Prop := ∀ (B Hi H : Hp) (σ : L2.St) (v : V), StOk X.K B Hi H σ ρ → Rp X.K Hi v d → ∀ Q : L2.St → Hp → Prop, (∀ σ', StOk X.K B Hi H σ' ρ' → Q σ' H) → wG X tg v σ H Q
def QGs (X : Cx) (tgs : List Expr) (ds : List D) (ρ ρ' : List Sl) : Prop := ∃ t, PGs X tgs t ∧ ∀ (B Hi H : Hp) (σ : L2.St) (vs : List V), StOk X.K B Hi H σ ρ → RpA X.K Hi vs ds → ∀ Q : L2.St → Hp → Prop, (∀ σ', StOk X.K B Hi H σ' ρ' → Q σ' H) → t vs σ H Q
theorem wG.of {tg : Expr} {g : TG} {v : V} {σ : L2.St} {H : Hp} {Q : L2.St → Hp → Prop} (h : PG X tg g) (q : g v σ H Q) : wG X tg v σ H Q := fun pins s u I r => h.run pins s σ H v u Q I r q
theorem qg_name (i : Nat) {x : Str} {d : D} (hN : X.N.Nodup) (hi : X.N[i]? = some x := by rfl) (hx : Loc X.env.scope x := by first | exact Or.inl rfl | exact Or.inr rfl) (hf : X.fn x = true ∨ X.env.scope.names.lookup x = some .local := by first | exact .inl rfl | exact .inr rfl) :
    QG X (.Name x pos) d ρ (ρ.set i (.dat d)) := fun B Hi H σ v S r Q q => wG.of (pg_name (i := i) hN hi hx hf) (q _ (S.set r))
theorem qgs_nil : QGs X [] [] ρ ρ := ⟨gNil, pgs_nil, fun B Hi H σ vs S r Q q => by cases r; exact ⟨rfl, q _ S⟩⟩
theorem qgs_cons {tg : Expr} {tgs : List Expr} {d : D} {ds : List D} {ρ1 ρ2 : List Sl} (h : QG X tg d ρ ρ1) (hr : QGs X tgs ds ρ1 ρ2) (hs : (assignEach (tg :: tgs) X.env).map (·.2) = assign tg X.env :: (assignEach tgs X.env).map (·.2) := by rfl) : QGs X (tg :: tgs) (d :: ds) ρ ρ2 := by
  obtain ⟨t, ht, hq⟩ := hr
  refine ⟨gCons (wG X tg) t, pgs_cons pg_w ht hs, fun B Hi H σ vs S r Q q => ?_⟩
  cases r with
  | cons r1 r2 => exact ⟨_, _, rfl, h B Hi H σ _ S r1 _ fun σ1 S1 => hq B Hi H σ1 _ S1 r2 Q q⟩
theorem qg_tup {tgs : List Expr} {n : Nat} {ds : List D} {ρ' : List Sl} (h : QGs X tgs ds ρ ρ') (hl : (assignEach tgs X.env).length = ds.length := by rfl) (hst : (assignEach tgs X.env).findIdx? (·.1) = none := by rfl) (hc : X.calm = true := by rfl) :
    QG X (.Tuple tgs n pos) (.tup ds) ρ ρ' := fun B Hi H σ v S r Q q => by
  obtain ⟨t, ht, hq⟩ := h
  cases r with
  | tup hs ha => exact wG.of (pg_tup (n := ds.length) hc ht hl hst) ⟨_, _, rfl, S.sub.t hs, ha.length, hq B Hi H σ _ S ha Q q⟩
/-- target = e -/
theorem qs_asg {tg : Expr} (h : QX X Ψ e ρ fun d => ∃ ρ', QG X tg d ρ ρ' ∧ QS X Ψ rest ρ' R) (hs : swapsWithSole [tg] e pos.line X.env = pure false := by rfl) (hw : swappedStores [tg] e X.env = pure none := by rfl)
    (h1 : (assignEach [tg] X.env).map (·.2) = [assign tg X.env] := by rfl) : QS X Ψ (.Assign [tg] e pos :: rest) ρ R :=
  fun Bi B Hi H σ Dn W tk g S rb N => wSs.cons (ps_asg pe_w pg_w hs hw h1) (h B Hi H σ W tk S (rb.rs g σ) _ fun v d Hi1 H1 z g1 r1 => by
    obtain ⟨ρ', hg, hq⟩ := z
    exact hg B Hi1 H1 σ v (S.grow g1) r1 _ fun σ' S' => hq Bi B Hi1 H1 σ' Dn W tk (g.trans g1) S' rb N)
/-! ### while -/
theorem qs_while {I : Nat → List Sl → Prop} (m0 : Nat) (h0 : I m0 ρ) (hp : PassesOwn (model X.prog X.w) X.A X.env X.xe)
    (hs : ∀ m ρ1, I m ρ1 → QT X Ψ c ρ1 fun k => if k = true then QS X Ψ body ρ1 { nx := fun ρ' => ∃ m', m' < m ∧ I m' ρ', rt := R.rt, bk := fun ρ' => QS X Ψ rest ρ' R, ct := fun ρ' => ∃ m', m' < m ∧ I m' ρ' } else QS X Ψ rest ρ1 R) :
    QS X Ψ (.While c body [] pos :: rest) ρ R :=
  fun Bi B Hi H σ Dn W tk g S rb N => wSs.cons (ps_while hp pt_w pss_w) (by
    refine ⟨fun m σ1 H1 => ∃ ρ1 Hi1, I m ρ1 ∧ Gr Bi B Hi1 H1 ∧ StOk X.K B Hi1 H1 σ1 ρ1, ⟨m0, ρ, Hi, h0, g, S⟩, fun m σ1 H1 hw => ?_⟩
    obtain ⟨ρ1, Hi1, hi, g1, S1⟩ := hw
    refine hs m ρ1 hi B Hi1 H1 σ1 W tk S1 (rb.rs g1 σ1) _ fun k Hi2 H2 z g2 => ?_
    cases k with
    | true =>
      refine ⟨fun σ' H' => ∃ m', m' < m ∧ ∃ ρ' Hi', I m' ρ' ∧ Gr Bi B Hi' H' ∧ StOk X.K B Hi' H' σ' ρ', fun σ' H' q => q, ?_⟩
      refine z Bi B Hi2 H2 σ1 _ W tk (g1.trans g2) (S1.grow g2) rb ⟨fun ρ' Hi' H' σ' q g' S' => ?_, N.rt, fun ρ' Hi' H' σ' q g' S' => q Bi B Hi' H' σ' Dn W tk g' S' rb N, fun ρ' Hi' H' σ' q g' S' => ?_⟩
      · obtain ⟨m', hm, hi'⟩ := q
        exact ⟨m', hm, ρ', Hi', hi', g', S'⟩
      · obtain ⟨m', hm, hi'⟩ := q
        exact ⟨m', hm, ρ', Hi', hi', g', S'⟩
    | false => exact z Bi B Hi2 H2 σ1 Dn W tk (g1.trans g2) (S1.grow g2) rb N)
/-! ### for -/
/-- a for's turn, from the datum -/
abbrev turnPo (X : Cx) (Ψ : Str → Prop) (rest : List Stmt) (R : Po) (I : List Sl → Prop) : Po := { nx := I, rt := R.rt, bk := fun ρ' => QS X Ψ rest ρ' R, ct := I }
end
end G
namespace G
open PySem PySem.Spec L2
section
variable {X : Cx} {Ψ : Str → Prop} {ρ : List Sl} {R : Po} {Φ : D → Prop} {a b c e : Expr} {es : List Expr} {pos p p2 : Pos} {rest body blk els : List Stmt}
theorem Gr.past {Bi B Hi H Hi' H' : Hp} (g : Gr Bi B Hi H) (q : Gr Hi B Hi' H') : Gr Bi B Hi' H' := ⟨g.i.trans q.i, q.o, q.sub, fun c z1 z2 => by
  cases z3 : Hi c with
  | none => exact q.new c z3 z2
  | some u => exact g.new c z1 ⟨u, z3⟩⟩
/-- what holds between the turns -/
abbrev Mid (X : Cx) (Bi B Hi1 : Hp) (I : List Sl → Prop) : L2.St → Hp → Prop := fun σ2 H2 => ∃ ρ2 Hi2, I ρ2 ∧ Gr Bi B Hi2 H2 ∧ Ex Hi1 Hi2 ∧ StOk X.K B Hi2 H2 σ2 ρ2
theorem turn_go {Bi B Hi1 Hi2 H2 : Hp} {σ3 : L2.St} {ρ3 : List Sl} {Dn : Ends} {W : WX} {I : List Sl → Prop} (tk : Takes X W) (g2 : Gr Bi B Hi2 H2) (e2 : Ex Hi1 Hi2) (S3 : StOk X.K B Hi2 H2 σ3 ρ3) (rb : Rb X Ψ Bi B W) (N : Nd X Bi B R Dn)
    (hb : QS X Ψ body ρ3 (turnPo X Ψ rest R I)) : wSs X body { Dn with nx := Mid X Bi B Hi1 I, ct := Mid X Bi B Hi1 I, bk := wSs X rest Dn } σ3 H2 :=
  hb Hi2 B Hi2 H2 σ3 _ W tk ⟨Ex.refl _, g2.o, g2.sub, fun c q ⟨u, z⟩ => by rw [q] at z; cases z⟩ S3 (fun x σ' Hi' H' p q => rb x σ' Hi' H' p (g2.past q))
    ⟨fun ρ' Hi' H' σ' q g' S' => ⟨ρ', Hi', q, g2.past g', e2.trans g'.i, S'⟩, fun v d Hi' H' q g' r' => N.rt v d Hi' H' q (g2.past g') r', fun ρ' Hi' H' σ' q g' S' => q Bi B Hi' H' σ' Dn W tk (g2.past g') S' rb N, fun ρ' Hi' H' σ' q g' S' => ⟨ρ', Hi', q, g2.past g', e2.trans g'.i, S'⟩⟩
/-! ### raise -/
structure ExcF (K : PySem.W.Frag) (mg : Str → Option Value) (x : Str) : Prop where
  g : mg x = some (.ref (He.ga K x))
  ex : PySem.W.excIn K (He.ga K x) He.veBase "ValueError.__new__" = true
  kp : PySem.W.keepIn K (.ref (He.ga K x)) = true
  sb : PySem.W.subIn K (.ref (He.ga K x)) (.type "BaseException") = some true
  ty : PySem.W.typeIn K (.ref (He.ga K x)) = some (.type "type")
theorem qs_raise {x m : Str} {j : Nat} {q1 q2 q3 : Pos} (T : ExcF X.K X.mg x) (k : Ψ x) (hg : Gl X x := by rfl) (hdb : (x == ("__debug__" : Str)) = false := by decide) (hc : X.calm = true := by rfl) :
    QS X Ψ (.Raise (some (.Call (.Name x q1) [.Constant (.str m) j q2] [] q3)) none pos :: rest) ρ R :=
  fun Bi B Hi H σ Dn W tk g S rb N => wSs.cons (ps_raise hc tk (pmk_own PySem.F.excBase_ValueError T.ex T.g T.kp (raises_own T.sb T.ty) hg hdb)) (rb x σ Hi H k g)
/-! ### defs -/
/-- what a def promises, of data: S ds Φ Ψ: all that ds give is in Φ, all that is raised in Ψ -/
abbrev SpD := List D → (D → Prop) → (Str → Prop) → Prop
def spD (K : PySem.W.Frag) (n : Nat) (S : SpD) : Sp := fun vs H Q E => vs.length = n ∧ ∃ (Hi : Hp) (ds : List D) (Φ : D → Prop) (Ψ : Str → Prop), Ex Hi H ∧ RpA K Hi vs ds ∧ S ds Φ Ψ ∧
  (∀ v d Hi' H', Φ d → Gr Hi H Hi' H' → Rp K Hi' v d → Q v H') ∧ ∀ x Hi' H', Ψ x → Gr Hi H Hi' H' → E (.ref (He.ga K x)) none H'
/-- the def x, of n parameters, at level k -/
def FnS (P : Program) (w : World) (K : PySem.W.Frag) (mg : Str → Option Value) (base : Heap) (x : Str) (k n : Nat) (S : SpD) : Prop :=
  (∀ ds Φ Ψ, S ds Φ Ψ → ds.length = n) ∧ ∃ (f : Addr) (fd : FuncData) (ps : List Str), mg x = some (.ref f) ∧ PySem.W.keepIn K (.ref f) = true ∧ Binds K fd ps [] ∧ FnOk P w K mg base (L2.CX P w) k f fd ps (spD K n S)
theorem qx_call {x : Str} {k n : Nat} {S : SpD} (F : FnS X.prog X.w X.K X.mg X.base x k n S) (hr : Room k X.A) (h : QA X Ψ (e :: es) ρ fun ds => S ds Φ Ψ) (hg : Gl X x := by rfl) (hdb : (x == ("__debug__" : Str)) = false := by decide)
    (he : starEach (e :: es) X.env = (false, eval e X.env) :: starEach es X.env := by exact se_of rfl) (hpl : (backTo pos (starEach es X.env)).any (·.1) = false := by rfl) : QX X Ψ (.Call (.Name x p) (e :: es) [] pos) ρ Φ :=
  fun B Hi H σ W tk St rs Q q => by
    obtain ⟨hn, f, fd, ps, g1, kp, bd, ok⟩ := F
    refine wE.of (pe_callS (E := L2.WE W) ok hr hg g1 kp bd (fun σ => passAt tk σ) pa_w hdb he hpl) (h B Hi H σ W tk St rs _ fun vs ds Hi1 H1 z g2 r => ?_)
    exact ⟨by rw [r.length]; exact hn _ _ _ z, Hi1, ds, Φ, Ψ, g2.sub, r, z, fun v d Hi' H' hz g3 r3 => q v d Hi' H' hz (g2.trans g3) r3, fun x Hi' H' hx g3 => rs x Hi' H' hx (g2.trans g3)⟩
theorem start_ok {K : PySem.W.Frag} {Hi H : Hp} {N : List Str} {vs : List V} {ds : List D} (s : Ex Hi H) (r : RpA K Hi vs ds) : StOk K H Hi H (L2.start N vs) (ds.map Sl.dat ++ List.replicate (N.length - ds.length) .emp) := by
  refine ⟨s, by unfold L2.start; simp [r.length], fun i x t a b => ?_, fun i j s t a h1 _ o _ _ _ => ?_⟩
  · unfold L2.start at a
    by_cases hi : i < ds.length
    · rw [List.getElem?_append_left (by simpa [r.length] using hi)] at a
      rw [List.getElem?_append_left (by simpa using hi)] at b
      rw [List.getElem?_map] at a b
      cases e : ds[i]? with
      | none => rw [e] at b; cases b
      | some d =>
        obtain ⟨v, h1, h2⟩ := r.get e
        rw [e] at b
        rw [h1] at a
        cases a; cases b
        exact h2
    · rw [List.getElem?_append_right (by simpa using hi)] at b
      rw [List.getElem?_replicate] at b
      split at b
      · cases b; cases x <;> trivial
      · cases b
  · rcases List.mem_append.mp (List.mem_of_getElem? h1) with h | h
    · obtain ⟨d, _, rfl⟩ := List.mem_map.mp h
      cases o
    · rw [List.eq_of_mem_replicate h] at o
      cases o
/-- THE RULE for a def -/
theorem fnS_of {P : Program} {w : World} {K : PySem.W.Frag} {mg : Str → Option Value} {base : Heap} {x : Str} {st : Stmt} {N ps : List Str} {k : Nat} {S : SpD} {f : Addr} {fd : FuncData}
    (F : FunD K x x (defArgs st) (defBody st) (defScope st) [] [] f fd) (hm : mg x = some (.ref f)) (Sc : FnScope N ps (defScope st)) (hn : ∀ ds Φ Ψ, S ds Φ Ψ → ds.length = ps.length)
    (hb : ∀ (kV doc pm : Value) (an : Option Addr) (cdv ct : Value) (us : List Value), us.length = ps.length → bindArgs (PySem.W.fnOf x x (defArgs st) (defBody st) (defScope st) .none kV doc pm an cdv ct) ⟨us, []⟩ = pure (ps.zip us))
    (body : ∀ (cdv : Value) (A : Around) (outer : List Env) (s : Shared) (H : Hp) (E : XK), Room k (A.deeper (PyProof.Rows.envOfC x (defScope st) s.heap.objs.size f cdv)) → ∀ ds Φ Ψ, S ds Φ Ψ →
      QS (cxOf (L2.CX P w) P w K mg base N x (defScope st) f cdv A outer s H E) Ψ (defBody st) (ds.map Sl.dat ++ List.replicate (N.length - ds.length) .emp) { nx := fun _ => Φ .non, rt := Φ }) :
    FnS P w K mg base x (k + 1) ps.length S := by
  refine ⟨hn, f, fd, ps, hm, F.kp, F.bindsN hb, F.ok Sc (fun vs H Q E h => h.1) fun cdv A outer s H vs Q E hr h => ⟨_, pss_w, ?_⟩⟩
  obtain ⟨_, Hi, ds, Φ, Ψ, sub, r, hS, hQ, hE⟩ := h
  exact body cdv A outer s H E hr ds Φ Ψ hS Hi H Hi H _ _ (fun cls d _ H' => E cls d H') (takes_of rfl rfl rfl rfl) (Gr.refl sub) (start_ok sub r) (fun y _ Hi' H' p q => hE y Hi' H' p q)
    ⟨fun ρ' Hi' H' σ' z g _ => hQ .non .non Hi' H' z g .non, fun v d Hi' H' z g r' => hQ v d Hi' H' z g r', fun _ _ _ _ z => z.elim, fun _ _ _ _ z => z.elim⟩
end
end G
namespace G
open PySem PySem.Spec L2
section
variable {X : Cx} {Ψ : Str → Prop} {ρ : List Sl} {R : Po} {Φ : D → Prop} {a b c e : Expr} {es : List Expr} {pos p p2 : Pos} {rest body blk els : List Stmt}
/-! ### what is walked -/
/-- J walks the data ds from the heap Hi1 on -/
structure Walks (K : PySem.W.Frag) (J : It) (Hi1 : Hp) (ds : List D) : Prop where
  go : ∀ i H, Ex Hi1 H → i < ds.length → J.go i H
  stop : ∀ H, Ex Hi1 H → J.stop ds.length H
  yld : ∀ i H x H' Hi, Ex Hi1 Hi → Ex Hi H → J.yld i H x H' → i < ds.length → ∃ d Hi', ds[i]? = some d ∧ Gr Hi H Hi' H' ∧ Rp K Hi' x d
def QI (X : Cx) (Ψ : Str → Prop) (tg iter : Expr) (ρ : List Sl) (Φ : List D → Prop) : Prop := ∃ wi, PI X tg iter wi ∧ ∀ (B Hi H : Hp) (σ : L2.St) (W : WX), Takes X W → StOk X.K B Hi H σ ρ → Rs X Ψ Hi H σ W →
  ∀ Rr : It → Hp → Prop, (∀ ds Hi1 H1 J, Φ ds → Gr Hi H Hi1 H1 → Walks X.K J Hi1 ds → Rr J H1) → wi σ H Rr
abbrev QIs (X : Cx) (Ψ : Str → Prop) (tg iter : Expr) (ρ : List Sl) (ds : List D) : Prop := QI X Ψ tg iter ρ (fun z => z = ds)
theorem QI.mono {tg iter : Expr} {Φ Φ' : List D → Prop} (h : QI X Ψ tg iter ρ Φ) (k : ∀ d, Φ d → Φ' d) : QI X Ψ tg iter ρ Φ' := by
  obtain ⟨wi, hp, h⟩ := h
  exact ⟨wi, hp, fun B Hi H σ W tk S rs Rr q => h B Hi H σ W tk S rs Rr fun ds Hi1 H1 J z => q ds Hi1 H1 J (k _ z)⟩
theorem QIs.to {tg iter : Expr} {ds : List D} {Φ : List D → Prop} (h : QIs X Ψ tg iter ρ ds) (k : Φ ds) : QI X Ψ tg iter ρ Φ := h.mono fun _ e => by subst e; exact k
/-- lo, lo + 1, ..: n of them -/
def rangeD (lo : Int) (n : Nat) : List D := (List.range n).map fun (i : Nat) => D.int (lo + i)
theorem rangeD_get {lo : Int} {n i : Nat} (h : i < n) : (rangeD lo n)[i]? = some (.int (lo + i)) := by unfold rangeD; simp [h]
theorem rangeD_length {lo : Int} {n : Nat} : (rangeD lo n).length = n := by unfold rangeD; simp
theorem walks_range {K : PySem.W.Frag} {Hi : Hp} {lo : Int} {n : Nat} : Walks K (Itr lo n) Hi (rangeD lo n) :=
  ⟨fun i H _ hi => by rw [rangeD_length] at hi; exact hi, fun H _ => by rw [rangeD_length]; exact Nat.le_refl n, fun i H x H' Hi' e1 e2 y hi => by
    obtain ⟨rfl, rfl⟩ := y
    rw [rangeD_length] at hi
    exact ⟨_, Hi', rangeD_get hi, Gr.refl e2, .int _⟩⟩
theorem qi_range1 {tg : Expr} {Φ : List D → Prop} (hm : X.mg "range" = none) (h : QA X Ψ [e] ρ fun ds => ∃ n : Int, ds = [.int n] ∧ n ≤ 100000 ∧ -100000 ≤ n ∧ Φ (rangeD 0 n.toNat)) (hg : Gl X "range" := by rfl) (hst : starEach [e] X.env = [(false, eval e X.env)] := by exact se_of rfl) :
    QI X Ψ tg (.Call (.Name "range" p) [e] [] p2) ρ Φ := ⟨_, pi_range1 hg hm pa_w hst, fun B Hi H σ W tk S rs Rr q => h B Hi H σ W tk S rs _ fun vs ds Hi1 H1 z g r => by
  obtain ⟨n, e, h1, h2, k⟩ := z
  subst e
  cases r with
  | cons r rr =>
    cases rr
    cases r
    exact ⟨n, rfl, by omega, by omega, q _ Hi1 H1 _ k g walks_range⟩⟩
/-- zip of two lists: as many turns as the shorter one -/
def zipD (ds es : List D) : List D := (ds.zip es).map fun q => .tup [q.1, q.2]
/-! ### for -/
/-! ### comprehensions -/
/-- in whatever block of this comprehension -/
abbrev BlkX (X : Cx) (scope : Scope) (s : Shared) (H : Hp) (C : Addr) (cl : List (Str × Addr)) (fp : List Addr) : Cx := X.blk s H scope (compEnvC scope cl C X.env) fp
def bE (X : Cx) (scope : Scope) (e : Expr) : TE := fun σ H Q => ∀ s H0 C cl fp, wE (BlkX X scope s H0 C cl fp) e σ H Q
def bT (X : Cx) (scope : Scope) (e : Expr) : TT := fun σ H Q => ∀ s H0 C cl fp, wT (BlkX X scope s H0 C cl fp) e σ H Q
def bG (X : Cx) (scope : Scope) (e : Expr) : TG := fun v σ H Q => ∀ s H0 C cl fp, wG (BlkX X scope s H0 C cl fp) e v σ H Q
theorem pe_b {scope : Scope} (s : Shared) (H : Hp) (C : Addr) (cl : List (Str × Addr)) (fp : List Addr) : PE (BlkX X scope s H C cl fp) e (bE X scope e) := ⟨fun pins t _ _ _ I h => h s H C cl fp pins t I⟩
theorem pt_b {scope : Scope} (s : Shared) (H : Hp) (C : Addr) (cl : List (Str × Addr)) (fp : List Addr) : PT (BlkX X scope s H C cl fp) e (bT X scope e) := ⟨fun pins t _ _ _ I h => h s H C cl fp pins t I⟩
theorem pg_b {scope : Scope} (s : Shared) (H : Hp) (C : Addr) (cl : List (Str × Addr)) (fp : List Addr) : PG (BlkX X scope s H C cl fp) e (bG X scope e) := ⟨fun pins t _ _ v u _ I r h => h s H C cl fp pins t u I r⟩
def wipeS (ρ : List Sl) : List Nat → List Sl
  | [] => ρ
  | v :: vs => (wipeS ρ vs).set v .emp
theorem StOk.wipe {K : PySem.W.Frag} {B Hi H : Hp} {σ : L2.St} (S : StOk K B Hi H σ ρ) : ∀ vs, StOk K B Hi H (L2.wipe σ vs) (wipeS ρ vs)
  | [] => S
  | v :: vs => (S.wipe vs).wipe1
theorem wipe_get {σ : L2.St} {i : Nat} : ∀ vs : List Nat, (L2.wipe σ vs)[i]? = if i ∈ vs then (σ[i]?).map (fun _ => none) else σ[i]?
  | [] => by simp [L2.wipe]
  | v :: vs => by
    have ih := wipe_get (σ := σ) (i := i) vs
    show ((L2.wipe σ vs).set v none)[i]? = _
    by_cases h : v = i
    · subst h
      rw [if_pos List.mem_cons_self]
      by_cases hl : v < σ.length
      · rw [List.getElem?_set_self (by rw [L2.wipe_length]; exact hl), List.getElem?_eq_getElem hl]; rfl
      · rw [List.getElem?_eq_none (by rw [List.length_set, L2.wipe_length]; omega), List.getElem?_eq_none (by omega)]; rfl
    · rw [List.getElem?_set_ne h, ih]
      have : (i ∈ v :: vs) ↔ i ∈ vs := by simp [Ne.symm h]
      by_cases hm : i ∈ vs
      · rw [if_pos hm, if_pos (this.mpr hm)]
      · rw [if_neg hm, if_neg (fun z => hm (this.mp z))]
/-- tg takes d within a block, and changes the block's own names alone -/
def QGb (X : Cx) (scope : Scope) (vs : List Nat) (tg : Expr) (d : D) (ρ ρ' : List Sl) : Prop := ∀ (B Hi H : Hp) (σ : L2.St) (v : V), StOk X.K B Hi H σ ρ → Rp X.K Hi v d → ∀ Q : L2.St → Hp → Prop, (∀ σ', StOk X.K B Hi H σ' ρ' → (L2.wipe σ' vs = L2.wipe σ vs) → Q σ' H) → bG X scope tg v σ H Q
theorem wipe_set {σ : L2.St} {j : Nat} {x : Option V} {vs : List Nat} (h : j ∈ vs) : L2.wipe (σ.set j x) vs = L2.wipe σ vs := by
  apply List.ext_getElem?
  intro i
  rw [wipe_get, wipe_get]
  by_cases hm : i ∈ vs
  · rw [if_pos hm, if_pos hm]
    by_cases hj : j = i
    · subst hj
      by_cases hl : j < σ.length
      · rw [List.getElem?_set_self hl, List.getElem?_eq_getElem hl]; rfl
      · rw [List.getElem?_eq_none (by simpa using hl), List.getElem?_eq_none (by simpa using hl)]
    · rw [List.getElem?_set_ne hj]
  · rw [if_neg hm, if_neg hm, List.getElem?_set_ne (fun e => hm (by rw [← e]; exact h))]
theorem wipe_wipe {σ : L2.St} {vs : List Nat} : L2.wipe (L2.wipe σ vs) vs = L2.wipe σ vs := by
  apply List.ext_getElem?
  intro i
  rw [wipe_get, wipe_get]
  by_cases hm : i ∈ vs
  · rw [if_pos hm, if_pos hm]
    cases σ[i]? <;> rfl
  · rw [if_neg hm, if_neg hm]
theorem qgb_name (i : Nat) {scope : Scope} {x : Str} {d : D} {vs : List Nat} (hN : X.N.Nodup) (hv : i ∈ vs := by decide) (hi : X.N[i]? = some x := by rfl)
    (hx : ∀ s H C cl fp, Loc (BlkX X scope s H C cl fp).env.scope x := by first | exact fun _ _ _ _ _ => Or.inl rfl | exact fun _ _ _ _ _ => Or.inr rfl)
    (hf : ∀ s H C cl fp, (BlkX X scope s H C cl fp).fn x = true ∨ (BlkX X scope s H C cl fp).env.scope.names.lookup x = some .local := by first | exact fun _ _ _ _ _ => Or.inr rfl | exact fun _ _ _ _ _ => Or.inl rfl) :
    QGb X scope vs (.Name x pos) d ρ (ρ.set i (.dat d)) := fun B Hi H σ v S r Q q s H0 C cl fp => wG.of (X := BlkX X scope s H0 C cl fp) (pg_name (i := i) hN hi (hx s H0 C cl fp) (hf s H0 C cl fp)) (q _ (S.set r) (wipe_set hv))
/-- what a comprehension gives: I of the turn and the list so far. Θ: what the test may answer -/
structure LcQ (X : Cx) (scope : Scope) (vs : List Nat) (tg elt : Expr) (ifs : List Expr) (ρ : List Sl) (ds : List D) (I : Nat → List D → Prop) (Φ : D → Prop) : Prop where
  len : ds.length ≤ 100000
  start : I 0 []
  turn : ∀ i d acc, ds[i]? = some d → I i acc → ∃ ρ', QGb X scope vs tg d (wipeS ρ vs) ρ' ∧ ∃ Θ : Bool → Prop, (match ifs with
      | [] => Θ true
      | c :: _ => ∀ s H C cl fp, QT (BlkX X scope s H C cl fp) (fun _ => False) c ρ' Θ) ∧
    (Θ true → ∀ s H C cl fp, QX (BlkX X scope s H C cl fp) (fun _ => False) elt ρ' fun y => I (i + 1) (acc ++ [y])) ∧ (Θ false → I (i + 1) acc)
  fin : ∀ acc, I ds.length acc → acc.length ≤ ds.length → Φ (.lst acc)
def ttOf (X : Cx) (scope : Scope) : List Expr → TT
  | [] => tYes
  | c :: _ => bT X scope c
theorem lc_go {scope : Scope} {vs : List Nat} {tg elt : Expr} {ifs : List Expr} {ds : List D} {I : Nat → List D → Prop} {B Hi1 H1 : Hp} {σ : L2.St} {Q : VK} {J : It} (L : LcQ X scope vs tg elt ifs ρ ds I Φ) (S : StOk X.K B Hi1 H1 σ ρ) (wk : Walks X.K J Hi1 ds)
    (q : ∀ v d Hi' H', Φ d → Gr Hi1 H1 Hi' H' → Rp X.K Hi' v d → Q v H') : ∀ Da, H1 Da = none → ∃ W : Nat → Nat → Hp → Prop, (∃ m, W 0 m (upd H1 Da (.lst []))) ∧ ∀ i m H, W i m H →
      (J.stop i H ∧ Q (.ref Da) H) ∨ (J.go i H ∧ ∃ Nx : Hp → Prop, (∀ H', Nx H' → ∃ m', m' < m ∧ W (i + 1) m' H') ∧ ∀ x H', J.yld i H x H' → bG X scope tg x (L2.wipe σ vs) H' fun σ2 H2 => L2.wipe σ2 vs = L2.wipe σ vs ∧ ttOf X scope ifs σ2 H2 fun b H3 =>
        if b = true then bE X scope elt σ2 H3 fun y H4 => ∃ acc, H4 Da = some (.lst acc) ∧ acc.length < sizeLine ∧ Nx (upd H4 Da (.lst (acc ++ [y]))) else Nx H3) := by
  intro Da hD
  refine ⟨fun i m H => m = ds.length - i ∧ i ≤ ds.length ∧ ∃ Hi2 accV acc, I i acc ∧ acc.length ≤ i ∧ Gr Hi1 H1 Hi2 H ∧ Hi2 Da = none ∧ H Da = some (.lst accV) ∧ RpA X.K Hi2 accV acc,
    ⟨ds.length, by simp, Nat.zero_le _, Hi1, [], [], L.start, Nat.le_refl _, Gr.out S.sub (Ex.new hD), S.sub.free hD, upd_same, .nil⟩, ?_⟩
  rintro i m H ⟨rfl, hi, Hi2, accV, acc, hI, hle, g2, n2, x2, r2⟩
  have hlen := L.len
  by_cases hlt : i < ds.length
  · refine .inr ⟨wk.go i H (g2.i.trans g2.sub) hlt, _, fun H' p => ⟨ds.length - (i + 1), by omega, rfl, hlt, p⟩, fun x H' y => ?_⟩
    obtain ⟨d, Hi3, hd, g3, r3⟩ := wk.yld i H x H' Hi2 g2.i g2.sub y hlt
    obtain ⟨ρ', hg, Θ, ht, hy, hn⟩ := L.turn i d acc hd hI
    have g23 := g2.trans g3
    have keepD : ∀ {Hj Hk : Hp}, Gr Hi2 H Hj Hk → Hj Da = none := fun {Hj Hk} g => by
      cases z : Hj Da with
      | none => rfl
      | some u => rw [g.new Da n2 ⟨u, z⟩] at x2; cases x2
    refine hg B Hi3 H' _ x ((S.wipe vs).grow g23) r3 _ fun σ2 S2 hw => ⟨by rw [hw, wipe_wipe], ?_⟩
    have elt_go : ∀ {Hj Hk : Hp}, Gr Hi2 H Hj Hk → StOk X.K B Hj Hk σ2 ρ' → Θ true → bE X scope elt σ2 Hk fun y H4 => ∃ acc', H4 Da = some (.lst acc') ∧ acc'.length < sizeLine ∧ ∃ Hi2 accV acc, I (i + 1) acc ∧ acc.length ≤ i + 1 ∧ Gr Hi1 H1 Hi2 (upd H4 Da (.lst (acc' ++ [y]))) ∧ Hi2 Da = none ∧ (upd H4 Da (.lst (acc' ++ [y]))) Da = some (.lst accV) ∧ RpA X.K Hi2 accV acc := fun {Hj Hk} gj Sj hΘ s H0 C cl fp => by
      refine hy hΘ s H0 C cl fp B Hj Hk σ2 (fun _ _ _ _ => False) takes0 Sj (fun _ _ _ z => z.elim) _ fun y dy Hi4 H4 hz g4 r4 => ?_
      have g24 := gj.trans g4
      have hD4 := keepD g24
      refine ⟨accV, g24.o _ _ x2, ?_, Hi4, accV ++ [y], acc ++ [dy], hz, by simp; omega, ⟨g2.i.trans g24.i, fun c u z => ?_, fun c u z => ?_, fun c z1 z2 => (g2.trans g24).new c z1 z2⟩, hD4, upd_same, (r2.up g24.i).app (.cons r4 .nil)⟩
      · rw [r2.length]
        exact Nat.lt_of_lt_of_le (Nat.lt_of_le_of_lt hle (Nat.lt_of_lt_of_le hlt hlen)) (by decide)
      · rw [upd_ne (ne_of_none z hD)]; exact (g2.trans g24).o c u z
      · rw [upd_ne (ne_of_none z hD4)]; exact g4.sub c u z
    have no_go : ∀ {Hj Hk : Hp}, Gr Hi2 H Hj Hk → Θ false → ∃ Hi2 accV acc, I (i + 1) acc ∧ acc.length ≤ i + 1 ∧ Gr Hi1 H1 Hi2 Hk ∧ Hi2 Da = none ∧ Hk Da = some (.lst accV) ∧ RpA X.K Hi2 accV acc := fun {Hj Hk} gj hΘ =>
      ⟨Hj, accV, acc, hn hΘ, by omega, g2.trans gj, keepD gj, gj.o _ _ x2, r2.up gj.i⟩
    cases ifs with
    | nil => exact elt_go g3 S2 ht
    | cons c r =>
      intro s H0 C cl fp
      refine ht s H0 C cl fp B Hi3 H' σ2 (fun _ _ _ _ => False) takes0 S2 (fun _ _ _ z => z.elim) _ fun b Hi4 H4 hb g4 => ?_
      cases b with
      | true => exact elt_go (g3.trans g4) (S2.grow g4) hb
      | false => exact no_go (g3.trans g4) hb
  · have e : i = ds.length := by omega
    subst e
    refine .inl ⟨wk.stop H (g2.i.trans g2.sub), q _ (.lst acc) (upd Hi2 Da (.lst accV)) H (L.fin acc hI hle) ⟨g2.i.trans (Ex.new n2), g2.o, fun c u z => ?_, fun c z1 z2 => ?_⟩ (.lst upd_same (r2.up (Ex.new n2)))⟩
    · by_cases h : c = Da
      · subst h; rw [upd_same] at z; cases z; exact x2
      · rw [upd_ne h] at z; exact g2.sub c u z
    · by_cases h : c = Da
      · subst h; exact hD
      · obtain ⟨u, z⟩ := z2
        rw [upd_ne h] at z
        exact g2.new c z1 ⟨u, z⟩
theorem pts_of {scope : Scope} {ifs : List Expr} (hl : ifs.length ≤ 1) (s : Shared) (H : Hp) (C : Addr) (cl : List (Str × Addr)) (fp : List Addr) : PTs (BlkX X scope s H C cl fp) ifs (ttOf X scope ifs) := by
  cases ifs with
  | nil => exact pts_nil
  | cons c r =>
    cases r with
    | nil => exact pts_one (pt_b s H C cl fp)
    | cons _ _ => simp at hl
end
end G
namespace G
open PySem PySem.Spec L2
section
variable {X : Cx} {Ψ : Str → Prop} {ρ : List Sl} {R : Po} {Φ : D → Prop} {Θ : Bool → Prop} {a b c e : Expr} {es : List Expr} {pos p p2 : Pos} {rest body blk els : List Stmt} {d d' : D} {ds : List D} {i j : Int}
/-! ### built-in functions -/
def CallD (X : Cx) (r : List V → Hp → VK → Prop) (Q : List D → (D → Prop) → Prop) : Prop := ∀ (Hi H : Hp) (vs : List V) (ds : List D) (Φ : D → Prop), Ex Hi H → Q ds Φ → RpA X.K Hi vs ds →
  ∀ K : VK, (∀ z d Hi' H', Φ d → Gr Hi H Hi' H' → Rp X.K Hi' z d → K z H') → r vs H K
theorem callB_go {r : List V → Hp → VK → Prop} {Qd : List D → (D → Prop) → Prop} (hd : CallD X r Qd) (h : QA X Ψ es ρ fun ds => Qd ds Φ) {B Hi H : Hp} {σ : L2.St} {W : WX} (tk : Takes X W) (S : StOk X.K B Hi H σ ρ) (rs : Rs X Ψ Hi H σ W)
    {Q : VK} (q : ∀ v d Hi' H', Φ d → Gr Hi H Hi' H' → Rp X.K Hi' v d → Q v H') : tCB r (wA X es) σ H Q :=
  h B Hi H σ W tk S rs _ fun vs ds Hi1 H1 z g r1 => hd Hi1 H1 vs ds Φ g.sub z r1 Q fun v d Hi2 H2 hz g2 r2 => q v d Hi2 H2 hz (g.trans g2) r2
theorem qx_callB {id : String} {x : Str} {r : List V → Hp → VK → Prop} {Qd : List D → (D → Prop) → Prop} (hc : CallR X (.builtin id) r) (hd : CallD X r Qd) (hm : X.mg x = none) (hv : bootBuiltins x = some (.builtin id)) (h : QA X Ψ (e :: es) ρ fun ds => Qd ds Φ)
    (hg : Gl X x := by rfl) (hn : x ≠ "__name__" := by decide) (hdb : (x == ("__debug__" : Str)) = false := by decide) (he : starEach (e :: es) X.env = (false, eval e X.env) :: starEach es X.env := by exact se_of rfl) (hpl : (backTo pos (starEach es X.env)).any (·.1) = false := by rfl) :
    QX X Ψ (.Call (.Name x p) (e :: es) [] pos) ρ Φ := fun B Hi H σ W tk S rs Q q => wE.of (pe_callB hc hg hm hv pa_w hn hdb he hpl) (callB_go hd h tk S rs q)
theorem qx_callTy {T : String} {x : Str} {r : List V → Hp → VK → Prop} {Qd : List D → (D → Prop) → Prop} (hc : CallR X (.type T) r) (hd : CallD X r Qd) (hm : X.mg x = none) (hv : bootBuiltins x = some (.type T)) (h : QA X Ψ (e :: es) ρ fun ds => Qd ds Φ)
    (hg : Gl X x := by rfl) (hn : x ≠ "__name__" := by decide) (hdb : (x == ("__debug__" : Str)) = false := by decide) (he : starEach (e :: es) X.env = (false, eval e X.env) :: starEach es X.env := by exact se_of rfl) (hpl : (backTo pos (starEach es X.env)).any (·.1) = false := by rfl) :
    QX X Ψ (.Call (.Name x p) (e :: es) [] pos) ρ Φ := fun B Hi H σ W tk S rs Q q => wE.of (pe_callTy hc hg hm hv pa_w hn hdb he hpl) (callB_go hd h tk S rs q)
theorem cd_abs : CallD X (fun xs H Q => ∃ i, xs = [.int i] ∧ Q (.int (if i < 0 then -i else i)) H) (fun ds Φ => ∃ i, ds = [.int i] ∧ Φ (.int (if i < 0 then -i else i))) := fun Hi H vs ds Φ s h r Q q => by
  obtain ⟨i, e, k⟩ := h
  subst e
  cases r with
  | cons r rr => cases rr; cases r; exact ⟨i, rfl, q _ _ Hi H k (Gr.refl s) (.int _)⟩
theorem cd_max2 : CallD X (fun xs H Q => ∃ i j, xs = [.int i, .int j] ∧ Q (.int (if j > i then j else i)) H) (fun ds Φ => ∃ i j, ds = [.int i, .int j] ∧ Φ (.int (if j > i then j else i))) := fun Hi H vs ds Φ s h r Q q => by
  obtain ⟨i, j, e, k⟩ := h
  subst e
  cases r with
  | cons r rr => cases rr with
    | cons r' rr => cases rr; cases r; cases r'; exact ⟨i, j, rfl, q _ _ Hi H k (Gr.refl s) (.int _)⟩
theorem cd_len : CallD X (fun xs H Q => ∃ p ys, xs = [.ref p] ∧ (SqL X.K H p ys ∨ SqT X.K H p ys) ∧ Q (.int ys.length) H) (fun ds Φ => ∃ xs, (ds = [.lst xs] ∨ ds = [.tup xs]) ∧ Φ (.int xs.length)) := fun Hi H vs ds Φ s h r Q q => by
  obtain ⟨xs, e, k⟩ := h
  rcases e with e | e
  · subst e
    cases r with
    | cons r rr =>
      cases rr
      cases r with
      | lst hs ha => exact ⟨_, _, rfl, .inl (SqL.of (s _ _ hs)), by rw [ha.length]; exact q _ _ Hi H k (Gr.refl s) (.int _)⟩
  · subst e
    cases r with
    | cons r rr =>
      cases rr
      cases r with
      | tup hs ha => exact ⟨_, _, rfl, .inr (s.t hs), by rw [ha.length]; exact q _ _ Hi H k (Gr.refl s) (.int _)⟩
theorem RpA.bls {K : PySem.W.Frag} {H : Hp} : ∀ {bs : List Bool} {vs : List V}, RpA K H vs (bs.map D.bl) → vs = bs.map V.bl
  | [], _, h => by cases h; rfl
  | b :: bs, _, h => by
    cases h with
    | cons h1 h2 => cases h1; rw [RpA.bls h2]; rfl
theorem RpA.ints {K : PySem.W.Frag} {H : Hp} : ∀ {bs : List Int} {vs : List V}, RpA K H vs (bs.map D.int) → vs = bs.map V.int
  | [], _, h => by cases h; rfl
  | b :: bs, _, h => by
    cases h with
    | cons h1 h2 => cases h1; rw [RpA.ints h2]; rfl
theorem cd_all : CallD X (rAll X.K) (fun ds Φ => ∃ bs : List Bool, ds = [.lst (bs.map D.bl)] ∧ Φ (.bl (bs.all id))) := fun Hi H vs ds Φ s h r Q q => by
  obtain ⟨bs, e, k⟩ := h
  subst e
  cases r with
  | cons r rr =>
    cases rr
    cases r with
    | lst hs ha => rw [ha.bls] at hs; exact ⟨_, bs, rfl, SqL.of (s _ _ hs), q _ _ Hi H k (Gr.refl s) (.bl _)⟩
theorem cd_list : CallD X (fun xs H Q => ∃ p ys, xs = [.ref p] ∧ (SqL X.K H p ys ∨ SqT X.K H p ys) ∧ ∀ l, H l = none → Q (.ref l) (upd H l (.lst ys))) (fun ds Φ => ∃ xs, (ds = [.lst xs] ∨ ds = [.tup xs]) ∧ Φ (.lst xs)) := fun Hi H vs ds Φ s h r Q q => by
  obtain ⟨xs, e, k⟩ := h
  rcases e with e | e
  · subst e
    cases r with
    | cons r rr =>
      cases rr
      cases r with
      | lst hs ha => exact ⟨_, _, rfl, .inl (SqL.of (s _ _ hs)), fun l hl => q _ _ (upd Hi l _) _ k (Gr.mk1 s hl) (.lst upd_same (ha.up (Ex.new (s.free hl))))⟩
  · subst e
    cases r with
    | cons r rr =>
      cases rr
      cases r with
      | tup hs ha => exact ⟨_, _, rfl, .inr (s.t hs), fun l hl => q _ _ (upd Hi l _) _ k (Gr.mk1 s hl) (.lst upd_same (ha.up (Ex.new (s.free hl))))⟩
theorem cd_tuple : CallD X (fun xs H Q => ∃ p ys, xs = [.ref p] ∧ ((SqL X.K H p ys ∧ ∀ l, H l = none → Q (.ref l) (upd H l (.tup ys))) ∨ (SqT X.K H p ys ∧ Q (.ref p) H))) (fun ds Φ => ∃ xs, (ds = [.lst xs] ∨ ds = [.tup xs]) ∧ Φ (.tup xs)) := fun Hi H vs ds Φ s h r Q q => by
  obtain ⟨xs, e, k⟩ := h
  rcases e with e | e
  · subst e
    cases r with
    | cons r rr =>
      cases rr
      cases r with
      | lst hs ha => exact ⟨_, _, rfl, .inl ⟨SqL.of (s _ _ hs), fun l hl => q _ _ (upd Hi l _) _ k (Gr.mk1 s hl) (.tup (SqT.of upd_same) (ha.up (Ex.new (s.free hl))))⟩⟩
  · subst e
    cases r with
    | cons r rr =>
      cases rr
      cases r with
      | tup hs ha => exact ⟨_, _, rfl, .inr ⟨s.t hs, q _ _ Hi H k (Gr.refl s) (.tup hs ha)⟩⟩
/-! ### isinstance -/
def D.tyN : D → String
  | .non => "NoneType" | .bl _ => "bool" | .int _ => "int" | .str _ => "str" | .lst _ => "list" | .tup _ => "tuple" | .dct _ _ => "dict" | .exc _ => "ValueError" | .opq _ => "list"
/-- what isinstance looks at: of my own dicts too -/
def TyG (K : PySem.W.Frag) (H : Hp) (v : V) (t : Value) : Prop := TyX K H v t ∨ ∃ (a : Addr) (xs : List Ent) (ob : Obj), v = .ref a ∧ H a = some (.ext (dctO a xs ob)) ∧ t = .type "dict"
theorem kit_G {pins : List (Addr × Obj)} {σ : L2.St} {H : Hp} {s : Shared} {x : V} {u t : Value} (I : Inv X pins σ H s) (rx : RelV x u) (ty : TyG X.K H x t) : ∃ T : Heap → Prop, PySem.W.KitX X.K u t T ∧ T s.heap ∧ u ≠ .builtin "__main__.__loader__#opaque" := by
  rcases ty with ty | ⟨a, xs, ob, rfl, ha, rfl⟩
  · exact kit_of I rx ty
  · obtain rfl : u = Value.ref a := rx
    obtain ⟨⟨e, ds⟩, _⟩ := I.hok a _ ha
    exact ⟨_, PySem.W.kitx_dict, ⟨ob, e, ds.ex.1⟩, fun z => nomatch z⟩
def rIsG (K : PySem.W.Frag) : List V → Hp → VK → Prop := fun xs H Q => ∃ (x c : V) (t u : Value) (k : Bool), xs = [x, c] ∧ ClsV c u ∧ TyG K H x t ∧ PySem.W.kitOne K t u = some k ∧ Q (.bl k) H
theorem call_isG : CallR X (.builtin "isinstance") (rIsG X.K) := fun pins s σ H vs us Q I r h => by
  obtain ⟨x, c, t, u, k, rfl, hc, ty, e, q⟩ := h
  obtain ⟨w1, w2, rfl, r1, r2⟩ := vals2 r
  obtain rfl := hc.eq r2
  obtain ⟨T, Z, p, n⟩ := kit_G I r1 ty
  exact PySem.W.kia_one Z I.kIn p e n fun tk => ⟨.bl k, H, I.tok tk, rfl, q⟩
def rIsGT (K : PySem.W.Frag) : List V → Hp → VK → Prop := fun xs H Q => ∃ (x : V) (T : Addr) (cs : List V) (t : Value) (ts : List Value) (k : Bool), xs = [x, .ref T] ∧ H T = some (.tup cs) ∧ Paired ClsV cs ts ∧ TyG K H x t ∧ PySem.W.kitAny K t ts = some k ∧ Q (.bl k) H
theorem call_isGT : CallR X (.builtin "isinstance") (rIsGT X.K) := fun pins s σ H vs us Q I r h => by
  obtain ⟨x, T, cs, t, ts, k, rfl, hT, hc, ty, e, q⟩ := h
  obtain ⟨w1, w2, rfl, r1, r2⟩ := vals2 r
  obtain rfl : w2 = Value.ref T := r2
  obtain ⟨T', Z, p, n⟩ := kit_G I r1 ty
  obtain ⟨_, its, rv, ⟨oc, od, dt, sl⟩, e1, e2, m, e3⟩ := (show ObjOk X.prog X.w H s.heap T (.tup cs) from I.hok T _ hT)
  obtain rfl := ClsV.all hc rv
  simp only at e2 e3
  subst e2 e3
  exact PySem.W.kia_tup Z I.kIn p e1 e n fun tk => ⟨.bl k, H, I.tok tk, rfl, q⟩
theorem Rp.ty {K : PySem.W.Frag} {Hi H : Hp} {v : V} (s : Ex Hi H) (h : Rp K Hi v d) (ho : ∀ n, d ≠ .opq n) : TyG K H v (.type d.tyN) := by
  cases h with
  | dct h1 => exact .inr ⟨_, _, _, rfl, s _ _ h1, rfl⟩
  | non => exact .inl <| .base .non
  | bl b => exact .inl <| .base (.bl b)
  | int i => exact .inl <| .base (.int i)
  | str x => exact .inl <| .base (.str x)
  | lst hs ha => exact .inl <| .base (.lst (s _ _ hs))
  | tup hs ha =>
    rcases s.t hs with (h | ⟨o, h⟩) | ⟨o, its, n, h1, h2, h3, _⟩
    · exact .inl <| .base (.tup h)
    · exact .inl <| .fTuple h
    · exact .inl <| .kTuple h1 h2
  | town h1 h2 => exact absurd rfl (ho 0)
  | scr h1 h2 => exact absurd rfl (ho 1)
  | exc h1 h2 => exact absurd rfl (ho _)
/-! ### lists: repeated, cut; in -/
theorem od_rep : OpD X rRep (fun x y Φ => ∃ ds k, x = .lst ds ∧ y = .int k ∧ 0 ≤ k ∧ k ≤ 1000 ∧ ds.length * k.toNat ≤ sizeLine ∧ Φ (.lst (List.replicate k.toNat ds).flatten)) := fun Hi H x y v u Φ s h r1 r2 Q q => by
  obtain ⟨ds, k, e1, e2, h0, h1, hz, kk⟩ := h
  subst e1 e2
  cases r2
  cases r1 with
  | @lst a xs _ hs ha =>
    have rep : ∀ n : Nat, RpA X.K Hi (List.replicate n xs).flatten (List.replicate n ds).flatten := fun n => by
      induction n with
      | zero => exact .nil
      | succ n ih => rw [List.replicate_succ, List.replicate_succ, List.flatten_cons, List.flatten_cons]; exact ha.app ih
    refine ⟨_, k, xs, rfl, rfl, s _ _ hs, by omega, by omega, by rw [ha.length]; exact hz, fun p hp => q _ _ (upd Hi p _) _ kk (Gr.mk1 s hp) ?_⟩
    exact .lst upd_same ((rep k.toNat).up (Ex.new (s.free hp)))
/-- places of a cut -/
def cutD (xs : List D) (lo hi : Option Int) : List D := (xs.drop (HT.sIx xs.length 0 lo)).take (HT.sIx xs.length xs.length hi - HT.sIx xs.length 0 lo)
def memD (d : D) (ds : List D) : Bool := ds.any fun z => deq z d
theorem pyA_any (d : D) : ∀ ds : List D, ((D.pyA ds).any fun z => PyData.eqv z d.py) = memD d ds
  | [] => rfl
  | x :: xs => by
    have ih := pyA_any d xs
    show (PyData.eqv x.py d.py || (D.pyA xs).any fun z => PyData.eqv z d.py) = (deq x d || memD d xs)
    rw [ih]; rfl
theorem od_notInD {n : Nat} (hn : n < 64) : OpD X (rNotInD X.K) (fun x y Φ => ∃ ds, y = .lst ds ∧ D.shp n x = true ∧ D.shpA n ds = true ∧ Φ (.bl (!memD x ds))) := fun Hi H x y v u Φ s h r1 r2 Q q => by
  obtain ⟨ds, e, s1, s2, k⟩ := h
  subst e
  have s3 : D.shp (n + 1) (.lst ds) = true := by rw [shp_lst]; exact s2
  refine ⟨x.py, D.pyA ds, Rp.dp x v n s1 (r1.up s), Rp.dp (.lst ds) u (n + 1) s3 (r2.up s), D.shp_shaped s1 (by omega), D.shp_shaped s3 (by omega), ?_⟩
  rw [pyA_any]
  exact q _ _ Hi H k (Gr.refl s) (.bl _)
end
end G
namespace G
open PySem PySem.Spec L2
/-- what lets a while, a for stand in a def -/
theorem pass_cx {P : Program} {w : World} {K : PySem.W.Frag} {mg : Str → Option Value} {base : Heap} {N : List Str} {qual : Str} {scope : Scope} {f : Addr} {cd : Value} {A : Around} {outer : List Env} {s : Shared} {H : Hp} {E : XK} :
    PassesOwn (model P w) (cxOf (L2.CX P w) P w K mg base N qual scope f cd A outer s H E).A (cxOf (L2.CX P w) P w K mg base N qual scope f cd A outer s H E).env (cxOf (L2.CX P w) P w K mg base N qual scope f cd A outer s H E).xe :=
  passes_of (X := cxOf (L2.CX P w) P w K mg base N qual scope f cd A outer s H E) (K := fun e s'' => L2.CX P w outer H s E e s'') (E₁ := fun e' s'' => L2.CX P w outer H s E e' s'') rfl
/-- the built-in names that the text leaves alone -/
structure Zs (mg : Str → Option Value) : Prop where
  abs : mg "abs" = none
  len : mg "len" = none
  all : mg "all" = none
  any : mg "any" = none
  max : mg "max" = none
  isinstance : mg "isinstance" = none
  int : mg "int" = none
  bool : mg "bool" = none
  tuple : mg "tuple" = none
  list : mg "list" = none
  str : mg "str" = none
  range : mg "range" = none
  zip : mg "zip" = none
  enumerate : mg "enumerate" = none
  sorted : mg "sorted" = none
  sum : mg "sum" = none
  min : mg "min" = none
/-! ### bounds: |i| < 2 ^ n -/
def Bn (n : Nat) (i : Int) : Prop := i.natAbs < 2 ^ n
theorem Bn.mono {n m : Nat} {i : Int} (h : Bn n i) (e : n ≤ m) : Bn m i := Nat.lt_of_lt_of_le h (Nat.pow_le_pow_right (by decide) e)
theorem Bn.mul {n m : Nat} {i j : Int} (h : Bn n i) (k : Bn m j) : Bn (n + m) (i * j) := wide_lt h k
theorem two_add (n m : Nat) : 2 ^ n + 2 ^ m ≤ 2 ^ (max n m + 1) := by
  have h1 : 2 ^ n ≤ 2 ^ (max n m) := Nat.pow_le_pow_right (by decide) (Nat.le_max_left _ _)
  have h2 : 2 ^ m ≤ 2 ^ (max n m) := Nat.pow_le_pow_right (by decide) (Nat.le_max_right _ _)
  rw [Nat.pow_succ]; omega
theorem Bn.add {n m : Nat} {i j : Int} (h : Bn n i) (k : Bn m j) : Bn (max n m + 1) (i + j) := by
  have := two_add n m
  unfold Bn at *
  omega
theorem Bn.sub {n m : Nat} {i j : Int} (h : Bn n i) (k : Bn m j) : Bn (max n m + 1) (i - j) := by
  have := two_add n m
  unfold Bn at *
  omega
theorem Bn.neg {n : Nat} {i : Int} (h : Bn n i) : Bn n (-i) := by unfold Bn at *; omega
theorem Bn.abs {n : Nat} {i : Int} (h : Bn n i) : Bn n (if i < 0 then -i else i) := by split <;> first | exact h.neg | exact h
theorem Bn.cm {n m : Nat} {i j : Int} (h : Bn n i) (k : Bn m j) (e : n + m ≤ 900000) : CMulW i j := wide_mul (a := n + 1) (b := m + 1) (h.mono (by omega)) (k.mono (by omega)) (by omega) (by omega) (by omega)
theorem Bn.cd {n : Nat} {i j : Int} (h : Bn n j) (hj : 0 < j) (e : n ≤ 8900) : CDivW i j := wide_div (b := n + 1) hj (h.mono (by omega)) (by omega) (by omega)
/-- // by any divisor but 0 -/
def CDivZ (_ j : Int) : Prop := j ≠ 0 ∧ j.natAbs.log2 < 9000
theorem op_fdivZ {X : L2.Cx} : OpR X (binaryOp .FloorDiv) (rI CDivZ fun i j => .int (i.fdiv j)) := opI fun i j _ _ _ _ _ hc q => PyProof.Rows.floordiv_int hc.1 q (.inl (PyProof.noPylong_of_log2 hc.2))
theorem Bn.cz {n : Nat} {i j : Int} (h : Bn n j) (hj : j ≠ 0) (e : n ≤ 8900) : CDivZ i j := ⟨hj, Nat.lt_of_lt_of_le (PySem.Flt.log2_lt_of (n := j.natAbs) (k := n + 1) (by omega) (h.mono (by omega))) (by omega)⟩
theorem Room.u65 {k : Nat} {A : Around} (r : Room k A) : A.units + 65 < cLine := by have := r.un; omega
/-! kinds -/
def D.isI : D → Bool
  | .int _ => true
  | _ => false
def D.isIB : D → Bool
  | .int _ => true
  | .bl _ => true
  | _ => false
def D.isB : D → Bool
  | .bl _ => true
  | _ => false
def D.isT : D → Bool
  | .tup _ => true
  | _ => false
def D.isL : D → Bool
  | .lst _ => true
  | .opq _ => true
  | _ => false
def D.isS : D → Bool
  | .str _ => true
  | _ => false
theorem kit_int (d : D) : kitB d.tyN "int" = some d.isIB := by cases d <;> (simp only [D.tyN, D.isIB]; decide +kernel)
theorem kit_bool (d : D) : kitB d.tyN "bool" = some d.isB := by cases d <;> (simp only [D.tyN, D.isB]; decide +kernel)
theorem kit_tuple (d : D) : kitB d.tyN "tuple" = some d.isT := by cases d <;> (simp only [D.tyN, D.isT]; decide +kernel)
theorem kit_list (d : D) : kitB d.tyN "list" = some d.isL := by cases d <;> (simp only [D.tyN, D.isL]; decide +kernel)
theorem kit_str (d : D) : kitB d.tyN "str" = some d.isS := by cases d <;> (simp only [D.tyN, D.isS]; decide +kernel)
/-! all, any of what is mapped -/
section
variable {X : L2.Cx} {Ψ : Str → Prop} {ρ : List Sl} {e : Expr} {pos p : Pos} {ds : List D} {t : D → Bool}
end
/-! comprehensions over typed lists -/
section
variable {X : L2.Cx} {ρ : List Sl} {Φ : D → Prop} {scope : Scope} {vs : List Nat} {tg elt c : Expr} {α : Type}
end
/-! ### is, is not: None, True, False -/
section
variable {X : L2.Cx} {Ψ : Str → Prop} {ρ : List Sl} {Θ : Bool → Prop} {a : Expr} {pos p : Pos} {j : Nat} {d : D}
def D.isN : D → Bool
  | .non => true
  | _ => false
theorem Rp.isN {K : PySem.W.Frag} {H : Hp} {v : V} (h : Rp K H v d) : decide (v = V.non) = d.isN := by
  cases h with
  | non => rfl
  | _ => exact decide_eq_false (fun e => nomatch e)
theorem od_isN : OpD X (fun x y H Q => y = .non ∧ Q (.bl (decide (x = .non))) H) (fun x y Φ => y = .non ∧ Φ (.bl x.isN)) := fun Hi H x y v u Φ s h r1 r2 Q q => by
  obtain ⟨e, k⟩ := h
  subst e
  cases r2
  rw [r1.isN]
  exact ⟨rfl, q _ _ Hi H k (Gr.refl s) (.bl _)⟩
end
end G
namespace G
open PySem PySem.Spec L2
def Pt.d (p : Pt) : D := .tup [.int p.x, .int p.y, .int p.w]
def Sh.d (s : Sh) : D := .tup [.int s.t, .int s.b]
/-- a point within bounds -/
structure Ok (n : Nat) (p : Pt) : Prop where
  x : Bn n p.x
  y : Bn n p.y
  w : Bn n p.w
  pos : 0 < p.w
structure SOk (n : Nat) (s : Sh) : Prop where
  t : Bn n s.t
  b : Bn n s.b
  pos : 0 < s.b
theorem Bn.g3 {n : Nat} {z a b w : Int} (h : Bn n z) : Bn n (z / g3 a b w) := Nat.lt_of_le_of_lt (Int.natAbs_ediv_le_natAbs z _) h
theorem low_ok {n m l : Nat} {a b w : Int} (h1 : Bn n a) (h2 : Bn m b) (h3 : Bn l w) (hw : w ≠ 0) : Ok (max n (max m l)) (low a b w) :=
  ⟨(h1.g3 : Bn n _).mono (Nat.le_max_left _ _), (h2.g3 : Bn m _).mono (Nat.le_trans (Nat.le_max_left _ _) (Nat.le_max_right _ _)), (h3.g3 : Bn l _).mono (Nat.le_trans (Nat.le_max_right _ _) (Nat.le_max_right _ _)), low_w_pos hw⟩
theorem Ok.mono {n m : Nat} {p : Pt} (h : Ok n p) (e : n ≤ m) : Ok m p := ⟨h.x.mono e, h.y.mono e, h.w.mono e, h.pos⟩
theorem Ok.nz {n : Nat} {p : Pt} (h : Ok n p) : p.w ≠ 0 := by have := h.pos; omega
theorem Ok.pp {n m : Nat} {p q : Pt} (h : Ok n p) (k : Ok m q) : p.w * q.w ≠ 0 := mulnz h.nz k.nz
theorem plus_ok {n m : Nat} {p q : Pt} (h : Ok n p) (k : Ok m q) : Ok (n + m + 1) (plus p q) := (low_ok ((h.x.mul k.w).add (k.x.mul h.w)) ((h.y.mul k.w).add (k.y.mul h.w)) (h.w.mul k.w) (h.pp k)).mono (by omega)
theorem minus_ok {n m : Nat} {p q : Pt} (h : Ok n p) (k : Ok m q) : Ok (n + m + 1) (minus p q) := (low_ok ((h.x.mul k.w).sub (k.x.mul h.w)) ((h.y.mul k.w).sub (k.y.mul h.w)) (h.w.mul k.w) (h.pp k)).mono (by omega)
theorem times_ok {n m : Nat} {p q : Pt} (h : Ok n p) (k : Ok m q) : Ok (n + m + 1) (times p q) := (low_ok ((h.x.mul k.x).sub (h.y.mul k.y)) ((h.x.mul k.y).add (h.y.mul k.x)) (h.w.mul k.w) (h.pp k)).mono (by omega)
theorem flipped_ok {n : Nat} {p : Pt} (h : Ok n p) : Ok n (flipped p) := ⟨h.x, h.y.neg, h.w, h.pos⟩
theorem shr_ok {n m : Nat} {a w : Int} (h1 : Bn n a) (h3 : Bn m w) (hw : w ≠ 0) : SOk (max n m) (shr a w) := ⟨(h1.g3 : Bn n _).mono (Nat.le_max_left _ _), (h3.g3 : Bn m _).mono (Nat.le_max_right _ _), low_w_pos hw⟩
theorem SOk.mono {n m : Nat} {s : Sh} (h : SOk n s) (e : n ≤ m) : SOk m s := ⟨h.t.mono e, h.b.mono e, h.pos⟩
theorem size_ok {n : Nat} {p : Pt} (h : Ok n p) : SOk (2 * n + 1) (size p) := (shr_ok ((h.x.mul h.x).add (h.y.mul h.y)) (h.w.mul h.w) (h.pp h)).mono (by omega)
theorem bn_gcd {n : Nat} {a b : Int} (h : Bn n b) (hb : b ≠ 0) : Bn n (Int.gcd a b : Int) := by
  unfold Bn at *
  have := Int.gcd_le_natAbs_right a hb
  omega
theorem bn_g3 {n : Nat} {a b w : Int} (h : Bn n w) (hw : w ≠ 0) : Bn n (g3 a b w) := by
  have := bn_gcd (a := (Int.gcd a b : Int)) h hw
  unfold g3; split
  · exact this
  · exact this.neg
/-! ### == of points and shares -/
theorem deq_int (i j : Int) : deq (.int i) (.int j) = decide (i = j) := by
  show PyData.eqv (.int i) (.int j) = _
  unfold PyData.eqv
  by_cases h : i = j
  · subst h; simp
  · rw [decide_eq_false h]; simpa using h
theorem deq_tup (a b : List D) : deq (.tup a) (.tup b) = PyData.eqvAll (D.pyA a) (D.pyA b) := by
  show PyData.eqv (.tuple _) (.tuple _) = _
  unfold PyData.eqv; rfl
theorem deq_lst (a b : List D) : deq (.lst a) (.lst b) = PyData.eqvAll (D.pyA a) (D.pyA b) := by
  show PyData.eqv (.list _) (.list _) = _
  unfold PyData.eqv; rfl
theorem eqvA_cons (a b : D) (as bs : List D) : PyData.eqvAll (D.pyA (a :: as)) (D.pyA (b :: bs)) = (deq a b && PyData.eqvAll (D.pyA as) (D.pyA bs)) := by
  show PyData.eqvAll (_ :: _) (_ :: _) = _
  rw [PyData.eqvAll]; rfl
theorem eqvA_nil : PyData.eqvAll (D.pyA []) (D.pyA []) = true := by
  show PyData.eqvAll [] [] = true
  rw [PyData.eqvAll]
theorem deq_pt (p q : Pt) : deq p.d q.d = decide (p = q) := by
  unfold Pt.d
  rw [deq_tup, eqvA_cons, eqvA_cons, eqvA_cons, eqvA_nil, deq_int, deq_int, deq_int]
  cases p; cases q
  simp [Bool.and_true]
theorem deq_sh (p q : Sh) : deq p.d q.d = decide (p = q) := by
  unfold Sh.d
  rw [deq_tup, eqvA_cons, eqvA_cons, eqvA_nil, deq_int, deq_int]
  cases p; cases q
  simp [Bool.and_true]
theorem shp_pt (n : Nat) (p : Pt) : D.shp (n + 1) p.d = true := by unfold Pt.d; rw [shp_tup]; rfl
theorem shp_sh (n : Nat) (p : Sh) : D.shp (n + 1) p.d = true := by unfold Sh.d; rw [shp_tup]; rfl
end G
namespace G
open PySem PySem.Spec L2
/-! ### things of any kind -/
mutual
/-- all numbers within bounds -/
def Db (n : Nat) : D → Prop
  | .int i => Bn n i
  | .lst xs => DbA n xs
  | .tup xs => DbA n xs
  | _ => True
def DbA (n : Nat) : List D → Prop
  | [] => True
  | d :: ds => Db n d ∧ DbA n ds
end
theorem DbA.mem {n : Nat} : ∀ {ds : List D} {d : D}, DbA n ds → d ∈ ds → Db n d
  | x :: xs, d, h, hm => by
    rcases List.mem_cons.mp hm with rfl | hm
    · exact h.1
    · exact DbA.mem h.2 hm
theorem shp_mem {n : Nat} : ∀ {ds : List D} {d : D}, D.shpA n ds = true → d ∈ ds → D.shp n d = true
  | x :: xs, d, h, hm => by
    rw [shpA_cons, Bool.and_eq_true] at h
    rcases List.mem_cons.mp hm with rfl | hm
    · exact h.1
    · exact shp_mem h.2 hm
theorem shp_tupA {n : Nat} {ds : List D} (h : D.shp n (.tup ds) = true) : D.shpA n ds = true := by
  obtain ⟨m, rfl, h'⟩ := shp_inv (.inr h)
  have up : ∀ (ds : List D) (m : Nat), D.shpA m ds = true → D.shpA (m + 1) ds = true := by
    intro ds
    suffices H : (∀ (d : D) (m : Nat), D.shp m d = true → D.shp (m + 1) d = true) from fun m h => shpA_all fun d hd => H d m (shp_mem h hd)
    intro d
    induction d using D.rec (motive_2 := fun ds => ∀ m, D.shpA m ds = true → D.shpA (m + 1) ds = true) with
    | non => intro m h; rfl
    | bl b => intro m h; rfl
    | int i => intro m h; rfl
    | str x => intro m h; exact h
    | opq n => intro m h; exact h
    | dct ks vs _ _ => intro m h; exact h
    | exc x => intro m h; exact h
    | lst xs ih =>
      intro m h
      obtain ⟨m', rfl, h'⟩ := shp_inv (.inl h)
      rw [shp_lst]; exact ih m' h'
    | tup xs ih =>
      intro m h
      obtain ⟨m', rfl, h'⟩ := shp_inv (.inr h)
      rw [shp_tup]; exact ih m' h'
    | nil => rfl
    | cons d ds h1 h2 =>
      rename_i mm hh
      rw [shpA_cons, Bool.and_eq_true] at hh ⊢
      exact ⟨h1 _ hh.1, h2 _ hh.2⟩
  exact up ds m h'
def isWh (d : D) (lo hi : Int) : Bool := match d with
  | .int i => decide (lo ≤ i) && decide (i ≤ hi)
  | _ => false
def isPt (d : D) : Bool := match d with
  | .tup [.int x, .int y, .int w] => decide (0 < w) && decide ((Int.gcd (Int.gcd x y) w : Int) = 1)
  | _ => false
theorem isPt_d (p : Pt) : isPt p.d = decide (Norm p) := by
  show (decide (0 < p.w) && decide ((Int.gcd (Int.gcd p.x p.y) p.w : Int) = 1)) = _
  unfold Norm
  rw [← Bool.decide_and]
  congr 1
  apply propext
  constructor
  · rintro ⟨a, b⟩; exact ⟨a, by omega⟩
  · rintro ⟨a, b⟩; exact ⟨a, by omega⟩
theorem isPt_yes {p : Pt} (h : Norm p) : isPt p.d = true := by rw [isPt_d]; exact decide_eq_true h
theorem isPt_inv {d : D} (h : isPt d = true) : ∃ p : Pt, d = p.d ∧ Norm p := by
  unfold isPt at h
  split at h
  · rename_i x y w
    exact ⟨⟨x, y, w⟩, rfl, by
      rw [Bool.and_eq_true, decide_eq_true_eq, decide_eq_true_eq] at h
      exact ⟨h.1, by have := h.2; show Int.gcd (Int.gcd x y) w = 1; omega⟩⟩
  · cases h
theorem Norm.ok {n : Nat} {p : Pt} (h : Norm p) (b : Db n p.d) : Ok n p := ⟨b.1, b.2.1, b.2.2.1, h.1⟩
theorem Ok.db {n : Nat} {p : Pt} (h : Ok n p) : Db n p.d := ⟨h.x, h.y, h.w, trivial⟩
/-! ### motions -/
structure Mo where
  t : Pt
  s : Pt
  f : Int
deriving DecidableEq
def Mo.d (m : Mo) : D := .tup [m.t.d, m.s.d, .int m.f]
def still : Mo := ⟨⟨1, 0, 1⟩, ⟨0, 0, 1⟩, 0⟩
/-- a motion, within bounds -/
structure MOk (n : Nat) (m : Mo) : Prop where
  t : Ok n m.t
  s : Ok n m.s
  tn : Norm m.t
  sn : Norm m.s
  one : size m.t = ⟨1, 1⟩
  f : m.f = 0 ∨ m.f = 1
def isMo (d : D) : Bool := match d with
  | .tup [a, b, c] => isPt a && (isPt b && (isWh c 0 1 && match a with
    | .tup [.int x, .int y, .int w] => decide (size ⟨x, y, w⟩ = ⟨1, 1⟩)
    | _ => false))
  | _ => false
theorem isMo_yes {n : Nat} {m : Mo} (h : MOk n m) : isMo m.d = true := by
  show (isPt m.t.d && (isPt m.s.d && (isWh (.int m.f) 0 1 && decide (size m.t = ⟨1, 1⟩)))) = true
  rw [isPt_yes h.tn, isPt_yes h.sn, decide_eq_true h.one]
  rcases h.f with e | e <;> rw [e] <;> rfl
theorem MOk.db {n : Nat} {m : Mo} (h : MOk n m) : Db n m.d := ⟨h.t.db, h.s.db, by
  show Bn n m.f
  have : 2 ^ n ≥ 2 := by
    have h1 := h.t.w
    have h2 := h.t.pos
    have h3 : Bn n m.t.w := h1
    unfold Bn at h3
    by_cases hn : n = 0
    · subst hn; omega
    · have : 2 ^ 1 ≤ 2 ^ n := Nat.pow_le_pow_right (by decide) (by omega)
      omega
  unfold Bn
  rcases h.f with e | e <;> rw [e] <;> omega, trivial⟩
theorem MOk.mono {n k : Nat} {m : Mo} (h : MOk n m) (e : n ≤ k) : MOk k m := ⟨h.t.mono e, h.s.mono e, h.tn, h.sn, h.one, h.f⟩
theorem shp_mo (n : Nat) (m : Mo) : D.shp (n + 2) m.d = true := by
  unfold Mo.d; rw [shp_tup, shpA_cons, shpA_cons, shpA_cons, shp_pt, shp_pt]; rfl
theorem deq_mo (m k : Mo) : deq m.d k.d = decide (m = k) := by
  unfold Mo.d
  rw [deq_tup, eqvA_cons, eqvA_cons, eqvA_cons, eqvA_nil, deq_pt, deq_pt, deq_int]
  cases m; cases k
  simp [Bool.and_true]
theorem still_ok : MOk 64 still := ⟨⟨by unfold Bn; decide, by unfold Bn; decide, by unfold Bn; decide, by decide⟩, ⟨by unfold Bn; decide, by unfold Bn; decide, by unfold Bn; decide, by decide⟩, ⟨by decide, by decide⟩, ⟨by decide, by decide⟩, by decide, .inl rfl⟩
/-- its turn has length 1 -/
theorem MOk.unit {n : Nat} {m : Mo} (h : MOk n m) : m.t.re * m.t.re + m.t.im * m.t.im = 1 := by
  have e := size_val h.t.nz
  rw [h.one] at e
  rw [← e]
  show ((1 : Int) : Rat) / ((1 : Int) : Rat) = 1
  grind
theorem size_one {p : Pt} (h : p.w ≠ 0) (e : p.re * p.re + p.im * p.im = 1) : size p = ⟨1, 1⟩ := sh_inj (size_norm h) ⟨by decide, by decide⟩ (by rw [size_val h, e]; show 1 = ((1 : Int) : Rat) / ((1 : Int) : Rat); grind)
/-! what a motion does -/
def ledBy (m : Mo) (p : Pt) : Pt := plus (times m.t (if m.f = 1 then flipped p else p)) m.s
def joined (m k : Mo) : Mo := ⟨times k.t (if k.f = 1 then flipped m.t else m.t), ledBy k m.s, (m.f + k.f) % 2⟩
def backOf (m : Mo) : Mo := if m.f = 1 then ⟨m.t, minus ⟨0, 0, 1⟩ (times m.t (flipped m.s)), 1⟩ else ⟨flipped m.t, minus ⟨0, 0, 1⟩ (times (flipped m.t) m.s), 0⟩
def gap (p q : Pt) : Sh := size (minus p q)
def fl (f : Int) (p : Pt) : Pt := if f = 1 then flipped p else p
theorem fl_ok {n : Nat} {p : Pt} {f : Int} (h : Ok n p) : Ok n (if f = 1 then flipped p else p) := by split; exact flipped_ok h; exact h
theorem fl_re {f : Int} {p : Pt} : (if f = 1 then flipped p else p).re = p.re := by split <;> rfl
theorem fl_im {f : Int} {p : Pt} : (if f = 1 then flipped p else p).im = if f = 1 then -p.im else p.im := by split; exact flipped_im; rfl
theorem ledBy_ok {n k : Nat} {m : Mo} {p : Pt} (h : MOk n m) (hp : Ok k p) : Ok (2 * n + k + 2) (ledBy m p) := (plus_ok (times_ok h.t (fl_ok hp)) h.s).mono (by omega)
theorem ledBy_norm {n k : Nat} {m : Mo} {p : Pt} (h : MOk n m) (hp : Ok k p) : Norm (ledBy m p) := plus_norm (times_ok h.t (fl_ok hp)).nz h.s.nz
theorem ledBy_re {n k : Nat} {m : Mo} {p : Pt} (h : MOk n m) (hp : Ok k p) : (ledBy m p).re = m.t.re * p.re - m.t.im * (if m.f = 1 then -p.im else p.im) + m.s.re := by
  unfold ledBy
  rw [plus_re (times_ok h.t (fl_ok hp)).nz h.s.nz, times_re h.t.nz (fl_ok hp).nz, fl_re, fl_im]
theorem ledBy_im {n k : Nat} {m : Mo} {p : Pt} (h : MOk n m) (hp : Ok k p) : (ledBy m p).im = m.t.re * (if m.f = 1 then -p.im else p.im) + m.t.im * p.re + m.s.im := by
  unfold ledBy
  rw [plus_im (times_ok h.t (fl_ok hp)).nz h.s.nz, times_im h.t.nz (fl_ok hp).nz, fl_re, fl_im]
theorem joined_ok {n k : Nat} {m l : Mo} (h : MOk n m) (hl : MOk k l) : MOk (2 * k + n + 2) (joined m l) :=
  ⟨(times_ok hl.t (fl_ok h.t)).mono (by omega), (ledBy_ok hl h.s).mono (by omega), times_norm hl.t.nz (fl_ok h.t).nz, ledBy_norm hl h.s, size_one (times_ok hl.t (fl_ok h.t)).nz (by
    show (times l.t _).re * (times l.t _).re + (times l.t _).im * (times l.t _).im = 1
    rw [times_re hl.t.nz (fl_ok h.t).nz, times_im hl.t.nz (fl_ok h.t).nz, fl_re, fl_im]
    have h1 := h.unit; have h2 := hl.unit
    split <;> grind), by show (m.f + l.f) % 2 = 0 ∨ (m.f + l.f) % 2 = 1; omega⟩
theorem zero_ok {n : Nat} (h : 0 < n) : Ok n ⟨0, 0, 1⟩ := ⟨by unfold Bn; exact Nat.pow_pos (by decide), by unfold Bn; exact Nat.pow_pos (by decide), by unfold Bn; exact Nat.one_lt_pow (by omega) (by decide), by decide⟩
theorem backOf_ok {n : Nat} {m : Mo} (h : MOk n m) : MOk (2 * n + 3) (backOf m) := by
  have z : Ok 1 ⟨0, 0, 1⟩ := zero_ok (by decide)
  unfold backOf
  split
  · exact ⟨h.t.mono (by omega), (minus_ok z (times_ok h.t (flipped_ok h.s))).mono (by omega), h.tn, minus_norm z.nz (times_ok h.t (flipped_ok h.s)).nz, h.one, .inr rfl⟩
  · refine ⟨(flipped_ok h.t).mono (by omega), (minus_ok z (times_ok (flipped_ok h.t) h.s)).mono (by omega), flipped_norm h.tn, minus_norm z.nz (times_ok (flipped_ok h.t) h.s).nz, size_one (flipped_ok h.t).nz ?_, .inl rfl⟩
    show (flipped m.t).re * (flipped m.t).re + (flipped m.t).im * (flipped m.t).im = 1
    rw [flipped_re, flipped_im]
    have h1 := h.unit
    grind
theorem gap_ok {n m : Nat} {p q : Pt} (h : Ok n p) (k : Ok m q) : SOk (2 * n + 2 * m + 3) (gap p q) := (size_ok (minus_ok h k)).mono (by omega)
theorem gap_norm {n m : Nat} {p q : Pt} (h : Ok n p) (k : Ok m q) : (gap p q).Norm := size_norm (minus_ok h k).nz
theorem gap_val {n m : Nat} {p q : Pt} (h : Ok n p) (k : Ok m q) : (gap p q).val = (p.re - q.re) * (p.re - q.re) + (p.im - q.im) * (p.im - q.im) := by
  unfold gap; rw [size_val (minus_ok h k).nz, minus_re h.nz k.nz, minus_im h.nz k.nz]
end G
namespace G
theorem plus_norm' {n m : Nat} {p q : Pt} (h : Ok n p) (k : Ok m q) : Norm (plus p q) := plus_norm h.nz k.nz
theorem minus_norm' {n m : Nat} {p q : Pt} (h : Ok n p) (k : Ok m q) : Norm (minus p q) := minus_norm h.nz k.nz
theorem times_norm' {n m : Nat} {p q : Pt} (h : Ok n p) (k : Ok m q) : Norm (times p q) := times_norm h.nz k.nz
theorem shpA_pt1 (n : Nat) (p : Pt) : D.shpA (n + 1) [p.d] = true := by rw [shpA_cons, shp_pt]; rfl
theorem shpA_pt2 (n : Nat) (p q : Pt) : D.shpA (n + 1) [p.d, q.d] = true := by rw [shpA_cons, shpA_cons, shp_pt, shp_pt]; rfl
theorem pts1 {p : Pt} (h : Norm p) : [p.d].all isPt = true := by rw [List.all_cons, isPt_yes h]; rfl
theorem pts2 {p q : Pt} (h : Norm p) (k : Norm q) : [p.d, q.d].all isPt = true := by rw [List.all_cons, List.all_cons, isPt_yes h, isPt_yes k]; rfl
end G
namespace G
open PySem PySem.Spec L2
/-! ### the town: what the draws come from -/
theorem upd_swap {H : Hp} {a b : Addr} {o u : HO} (h : a ≠ b) : upd (upd H a o) b u = upd (upd H b u) a o := by
  funext c
  unfold upd
  by_cases h1 : c = b
  · by_cases h2 : c = a
    · exact absurd (h2.symm.trans h1) h
    · rw [if_pos h1, if_neg h2, if_pos h1]
  · rw [if_neg h1]
    by_cases h2 : c = a
    · rw [if_pos h2, if_pos h2]
    · rw [if_neg h2, if_neg h2, if_neg h1]
section
variable {X : L2.Cx} {pins : List (Addr × Obj)} {σ : L2.St} {H : Hp} {s : Shared} {t r : Addr}
theorem vals2 {its : List Value} {r : Addr} {k : Int} (h : Vals [.ref r, .int k] its) : ∃ tk, its = [.ref r, .int k tk] := by
  cases h with
  | cons h1 h2 => cases h2 with
    | cons h2 h3 => cases h3; cases h1; obtain ⟨tk, rfl⟩ := h2; exact ⟨tk, rfl⟩
theorem town_in (I : Inv X pins σ H s) (ht : H t = some (.ext (townO t r))) (hr : H r = some (.ext (rowO r))) :
    t ≠ r ∧ ∃ (k : Int) (ns : List Int), ns ≠ [] ∧ ns.length ≤ sizeLine ∧ Inv X pins σ (upd (upd H t (.lst [.ref r, .int k])) r (.lst (ns.map V.int))) s := by
  obtain ⟨⟨k, tk, n, e1⟩, _, _⟩ := I.hok t _ ht
  obtain ⟨⟨ns, its, n2, hne, hlen, hv, e2⟩, _, _⟩ := I.hok r _ hr
  have htr : t ≠ r := fun e => by
    subst e
    rw [e1] at e2
    injection e2 with e2
    injection e2 with _ _ e2 _
    injection e2 with e2 _
    have e3 : its = [Value.ref t, Value.int k tk] := by simpa using congrArg Array.toList e2.symm
    subst e3
    cases ns with
    | nil => exact hne rfl
    | cons i ns => cases hv with | cons h1 _ => obtain ⟨_, h⟩ := h1; cases h
  refine ⟨htr, k, ns, hne, hlen, ?_⟩
  have I1 : Inv X pins σ (upd H t (.lst [.ref r, .int k])) s := I.write (h' := s.heap) (t' := s.toks) (by rw [ht]; trivial) (.inl rfl) (fun _ _ _ e => e) ⟨_, e1⟩
    ⟨by show 2 ≤ sizeLine; decide, [.ref r, .int k tk], n, .cons rfl (.cons ⟨tk, rfl⟩ .nil), e1⟩
  exact I1.write (h' := s.heap) (t' := s.toks) (by rw [upd_ne (Ne.symm htr), hr]; trivial) (.inl rfl) (fun _ _ _ e => e) ⟨_, e2⟩ ⟨by simpa using hlen, its, n2, hv, e2⟩
theorem town_out {k : Int} {ns : List Int} (I : Inv X pins σ H s) (htr : t ≠ r) (ht : H t = some (.lst [.ref r, .int k])) (hr : H r = some (.lst (ns.map V.int))) (hne : ns ≠ []) :
    Inv X pins σ (upd (upd H t (.ext (townO t r))) r (.ext (rowO r))) s := by
  obtain ⟨z1, its1, n1, hv1, e1⟩ := I.hok t _ ht
  obtain ⟨z2, its, n2, hv, e2⟩ := I.hok r _ hr
  obtain ⟨tk, rfl⟩ := vals2 hv1
  have I1 : Inv X pins σ (upd H t (.ext (townO t r))) s := I.write (h' := s.heap) (t' := s.toks) (by rw [ht]; trivial) (.inl rfl) (fun _ _ _ e => e) ⟨_, e1⟩
    ⟨⟨k, tk, n1, e1⟩, ⟨_, e1⟩, fun h1 h2 ⟨k, tk, n, e⟩ st => ⟨k, tk, n, st _ e⟩⟩
  exact I1.write (h' := s.heap) (t' := s.toks) (by rw [upd_ne (Ne.symm htr), hr]; trivial) (.inl rfl) (fun _ _ _ e => e) ⟨_, e2⟩
    ⟨⟨ns, its, n2, hne, by simpa using z2, hv, e2⟩, ⟨_, e2⟩, fun h1 h2 ⟨ns, its, n, a, b, c, e⟩ st => ⟨ns, its, n, a, b, c, st _ e⟩⟩
end
/-- what a draw ends in -/
abbrev DrawEnd (t r : Addr) (c : Int) (H : Hp) : Ends := { nx := fun _ _ => False, rt := fun v H'' => ∃ (i k' : Int) (ns' : List Int), v = .int i ∧ 0 ≤ i ∧ i < c ∧ ns' ≠ [] ∧ H'' = upd (upd H t (.lst [.ref r, .int k'])) r (.lst (ns'.map V.int)) }
/-- a draw's body -/
theorem qs_draw {X : L2.Cx} {Ψ : Str → Prop} {body : List Stmt} {R : Po} {c : Int} (hk : ∀ i : Int, 0 ≤ i → i < c → R.rt (.int i))
    (h : ∀ (H : Hp) (t r : Addr) (k : Int) (ns : List Int) (x2 x3 x4 x5 : Option V), t ≠ r → ns ≠ [] → H t = some (.lst [.ref r, .int k]) → H r = some (.lst (ns.map V.int)) → wSs X body (DrawEnd t r c H) [some (.ref t), some (.int c), x2, x3, x4, x5] H) :
    QS X Ψ body [.dat (.opq 0), .dat (.int c), .emp, .emp, .emp, .emp] R := fun Bi B Hi H σ Dn W tk g S rb N pins s I => by
  obtain ⟨v0, e0, r0⟩ := S.dat (i := 0) rfl
  obtain ⟨v1, e1, r1⟩ := S.dat (i := 1) rfl
  cases r1
  obtain ⟨t, r, rfl, ht, hr⟩ := r0.town_inv
  · skip
    have ht' := S.sub _ _ ht
    have hr' := S.sub _ _ hr
    obtain ⟨htr, k, ns, hne, hlen, I2⟩ := town_in I ht' hr'
    have hl : σ.length = 6 := S.len
    match σ, hl, e0, e1, I2 with
    | [y0, y1, x2, x3, x4, x5], _, e0, e1, I2 =>
      cases e0; cases e1
      refine thn (h _ t r k ns x2 x3 x4 x5 htr hne (by rw [upd_ne htr, upd_same]) upd_same pins s I2) fun f s' q => ?_
      cases f with
      | ret u =>
        obtain ⟨v, σ', H', I', rv, i, k', ns', rfl, h0, h1, hne', rfl⟩ := q
        have J := town_out I' htr (k := k') (ns := ns') (by rw [upd_ne htr, upd_same]) upd_same hne'
        have e : upd (upd (upd (upd (upd (upd H t (.lst [.ref r, .int k])) r (.lst (ns.map V.int))) t (.lst [.ref r, .int k'])) r (.lst (ns'.map V.int))) t (.ext (townO t r))) r (.ext (rowO r)) = H := by
          funext b
          unfold upd
          by_cases hb : b = r
          · rw [if_pos hb, hb]; exact hr'.symm
          · rw [if_neg hb]
            by_cases hb2 : b = t
            · rw [if_pos hb2, hb2]; exact ht'.symm
            · simp [hb, hb2]
        rw [e] at J
        exact ⟨.int i, σ', H, J, rv, N.rt _ (.int i) Hi H (hk i h0 h1) g (.int i)⟩
      | next => obtain ⟨_, _, _, q⟩ := q; exact q.elim
      | brk => obtain ⟨_, _, _, q⟩ := q; exact q.elim
      | cont => obtain ⟨_, _, _, q⟩ := q; exact q.elim
/-- what the town's making ends in -/
abbrev TownEnd (H : Hp) : Ends := { nx := fun _ _ => False, rt := fun v H'' => ∃ (Hx : Hp) (t r : Addr) (k : Int) (ns : List Int), Ex H Hx ∧ Hx r = none ∧ Hx t = none ∧ t ≠ r ∧ ns ≠ [] ∧ v = .ref t ∧ H'' = upd (upd Hx r (.lst (ns.map V.int))) t (.lst [.ref r, .int k]) }
theorem qs_town {X : L2.Cx} {Ψ : Str → Prop} {body : List Stmt} {R : Po} (hk : R.rt (.opq 0))
    (h : ∀ (H : Hp) (a : Addr) (ns : List Int), SqL X.K H a (ns.map V.int) → ns.length ≤ 63 → wSs X body (TownEnd H) [some (.ref a)] H) : QS X Ψ body [.dat (.opq 1)] R := fun Bi B Hi H σ Dn W tk g S rb N pins s I => by
  obtain ⟨v0, e0, r0⟩ := S.dat (i := 0) rfl
  obtain ⟨a, ns, rfl, hs, hn⟩ := r0.scr_inv
  · skip
    have hl : σ.length = 1 := S.len
    match σ, hl, e0, I with
    | [y0], _, e0, I =>
      cases e0
      refine thn (h H a ns (S.sub.l hs) hn pins s I) fun f s' q => ?_
      cases f with
      | ret u =>
        obtain ⟨v, σ', H', I', rv, Hx, t, r, k, ns', ex, hr, ht, htr, hne', rfl, rfl⟩ := q
        have J := town_out I' htr (k := k) (ns := ns') upd_same (by rw [upd_ne (Ne.symm htr), upd_same]) hne'
        have e : upd (upd (upd (upd Hx r (.lst (ns'.map V.int))) t (.lst [.ref r, .int k])) t (.ext (townO t r))) r (.ext (rowO r)) = upd (upd Hx r (.ext (rowO r))) t (.ext (townO t r)) := by
          rw [upd_upd, upd_swap htr, upd_upd]
        rw [e] at J
        have g1 : Gr Bi B Hi Hx := g.trans (Gr.out S.sub ex)
        have g2 := g1.trans (Gr.mk1 (o := .ext (rowO r)) g1.sub hr)
        have ht2 : upd Hx r (.ext (rowO r)) t = none := by rw [upd_ne htr]; exact ht
        have g3 := g2.trans (Gr.mk1 (o := .ext (townO t r)) g2.sub ht2)
        exact ⟨_, σ', _, J, rv, N.rt _ (.opq 0) _ _ hk g3 (.town upd_same (by rw [upd_ne (Ne.symm htr), upd_same]))⟩
      | next => obtain ⟨_, _, _, q⟩ := q; exact q.elim
      | brk => obtain ⟨_, _, _, q⟩ := q; exact q.elim
      | cont => obtain ⟨_, _, _, q⟩ := q; exact q.elim
/-- the cell that is looked at -/
theorem row_at {ns : List Int} (h : ns ≠ []) (k : Int) : ∃ cell : Int, atI (ns.map V.int) (k % (ns.length : Int)) = some (.int cell) ∧ ∃ j : Nat, ixN (ns.map V.int).length (k % (ns.length : Int)) = some j := by
  have hl : 0 < ns.length := List.length_pos_iff.mpr h
  have h1 : 0 ≤ k % (ns.length : Int) := Int.emod_nonneg _ (by omega)
  have h2 : k % (ns.length : Int) < (ns.length : Int) := Int.emod_lt_of_pos _ (by omega)
  have e : ixN (ns.map V.int).length (k % (ns.length : Int)) = some (k % (ns.length : Int)).toNat := by
    unfold ixN
    rw [List.length_map, if_pos h1, if_pos h2]
  refine ⟨ns[(k % (ns.length : Int)).toNat]'(by omega), ?_, _, e⟩
  unfold atI
  rw [e]
  show (ns.map V.int)[(k % (ns.length : Int)).toNat]? = _
  rw [List.getElem?_map, List.getElem?_eq_getElem (by omega)]
  rfl
end G
namespace G
open PySem PySem.Spec L2
end G
namespace G
open PySem PySem.Spec L2
/-! ### is True, is False -/
def D.isV (d : D) (k : Bool) : Bool := match d with
  | .bl b => b == k
  | _ => false
theorem Rp.isV {K : PySem.W.Frag} {H : Hp} {v : V} {d : D} (h : Rp K H v d) (k : Bool) : decide (v = V.bl k) = d.isV k := by
  cases h with
  | bl b => cases b <;> cases k <;> rfl
  | _ => exact decide_eq_false (fun e => nomatch e)
section
variable {X : L2.Cx} {Ψ : Str → Prop} {ρ : List Sl} {a : Expr} {pos p : Pos} {j : Nat} {d : D} {k : Bool}
end
end G
namespace G
/-! ### motions: plain laws -/
section
variable {n k j : Nat} {m l r : Mo} {p q : Pt}
theorem led_gap (h : MOk n m) (hp : Ok j p) (hq : Ok k q) : gap (ledBy m p) (ledBy m q) = gap p q := by
  have h1 := ledBy_ok h hp
  have h2 := ledBy_ok h hq
  have u := h.unit
  refine sh_inj (gap_norm h1 h2) (gap_norm hp hq) ?_
  rw [gap_val h1 h2, gap_val hp hq, ledBy_re h hp, ledBy_re h hq, ledBy_im h hp, ledBy_im h hq]
  split <;> grind
end
end G
namespace G
open PySem PySem.Spec L2 in
theorem MOk.shp {n : Nat} {m : Mo} (_ : MOk n m) : D.shp 8 m.d = true := shp_mo 6 m
end G
namespace G
open PySem PySem.Spec L2
/-! ### the end -/
/-- .. for the law itself -/
theorem fnOk_of {P : Program} {w : World} {K : PySem.W.Frag} {mg : Str → Option Value} {base : Heap} {x : Str} {st : Stmt} {N ps : List Str} {k : Nat} {S : SpD} {f : Addr} {fd : FuncData}
    (F : FunD K x x (defArgs st) (defBody st) (defScope st) [] [] f fd) (hm : mg x = some (.ref f)) (Sc : FnScope N ps (defScope st)) (hn : ∀ ds Φ Ψ, S ds Φ Ψ → ds.length = ps.length)
    (hb : ∀ (kV doc pm : Value) (an : Option Addr) (cdv ct : Value) (us : List Value), us.length = ps.length → bindArgs (PySem.W.fnOf x x (defArgs st) (defBody st) (defScope st) .none kV doc pm an cdv ct) ⟨us, []⟩ = pure (ps.zip us))
    (body : ∀ (cdv : Value) (A : Around) (outer : List Env) (s : Shared) (H : Hp) (E : XK), Room k (A.deeper (PyProof.Rows.envOfC x (defScope st) s.heap.objs.size f cdv)) → ∀ ds Φ Ψ, S ds Φ Ψ →
      QS (cxOf (L2.CX P w) P w K mg base N x (defScope st) f cdv A outer s H E) Ψ (defBody st) (ds.map Sl.dat ++ List.replicate (N.length - ds.length) .emp) { nx := fun _ => Φ .non, rt := Φ }) :
    FnOk P w K mg base (L2.CX P w) (k + 1) f fd ps (spD K ps.length S) := by
  refine F.ok Sc (fun vs H Q E h => h.1) fun cdv A outer s H vs Q E hr h => ⟨_, pss_w, ?_⟩
  obtain ⟨_, Hi, ds, Φ, Ψ, sub, r, hS, hQ, hE⟩ := h
  exact body cdv A outer s H E hr ds Φ Ψ hS Hi H Hi H _ _ (fun cls d _ H' => E cls d H') (takes_of rfl rfl rfl rfl) (Gr.refl sub) (start_ok sub r) (fun y _ Hi' H' p q => hE y Hi' H' p q)
    ⟨fun ρ' Hi' H' σ' z g _ => hQ .non .non Hi' H' z g .non, fun v d Hi' H' z g r' => hQ v d Hi' H' z g r', fun _ _ _ _ z => z.elim, fun _ _ _ _ z => z.elim⟩
/-- what the law promises: True, for each script -/
def spEnd (K : PySem.W.Frag) : Sp := fun vs H Q _ => ∃ (a : Addr) (ns : List Int), vs = [.ref a] ∧ SqL K H a (ns.map V.int) ∧ ns.length ≤ 63 ∧ ∀ H', Q (.bl true) H'
theorem fin_law {P : Program} {w : World} {K : PySem.W.Frag} {mg : Str → Option Value} {base : Heap} {k : Nat} {f : Addr} {fd : FuncData} {ps : List Str} {S : SpD}
    (F : FnOk P w K mg base (L2.CX P w) k f fd ps (spD K 1 S)) (hl : ps.length = 1) (hS : S [.opq 1] (fun z => z = .bl true) (fun _ => False)) : FnOk P w K mg base CX0 k f fd ps (spEnd K) := by
  refine ⟨fun vs H Q E h => ?_, fun A outer s H args us vs Q E hr he hb hv h => ?_⟩
  · obtain ⟨a, ns, rfl, _⟩ := h
    rw [hl]; rfl
  · obtain ⟨a, ns, rfl, hs, hn, hq⟩ := h
    refine codeAny_mono (F.run A outer s H args us [.ref a] Q (fun _ _ _ => False) hr he hb hv ⟨rfl, H, [.opq 1], _, _, Ex.refl _, .cons (.scr hs hn) .nil, hS, fun v d Hi' H' z _ r => ?_, fun x Hi' H' z _ => z.elim⟩) fun r s' q => ?_
    · subst z
      cases r
      exact hq H'
    · cases r with
      | ok fl => cases fl <;> exact q
      | error e =>
        obtain ⟨_, _, _, _, _, _, _, _, _, _, _, _, z⟩ := q
        exact z.elim
/-! constants of the text -/
mutual
def cB (K : PySem.W.Frag) : D → Value → Bool
  | .int i, .int j _ => decide (i = j)
  | .tup ds, .ref a => (match K.lookup a with
    | some ⟨.type c, _, .seq its _, _⟩ => decide (c = "tuple") && (decide (its.size ≤ sizeLine) && cBA K ds its.toList)
    | _ => false)
  | _, _ => false
def cBA (K : PySem.W.Frag) : List D → List Value → Bool
  | [], [] => true
  | d :: ds, u :: us => cB K d u && cBA K ds us
  | _, _ => false
end
mutual
theorem cB_ok {K : PySem.W.Frag} : ∀ (d : D) (u : Value), cB K d u = true → ∃ v, RelV v u ∧ ∀ H, Rp K H v d
  | .int i, u, h => by
    cases u with
    | int j t =>
      have e : i = j := of_decide_eq_true h
      exact ⟨.int i, ⟨t, by rw [e]⟩, fun H => .int i⟩
    | _ => cases h
  | .tup ds, u, h => by
    cases u with
    | ref a =>
      have h1 : (match K.lookup a with
        | some ⟨.type c, _, .seq its _, _⟩ => decide (c = "tuple") && (decide (its.size ≤ sizeLine) && cBA K ds its.toList)
        | _ => false) = true := h
      cases q : K.lookup a with
      | none => rw [q] at h1; cases h1
      | some o =>
        obtain ⟨oc, od, dt, osl⟩ := o
        rw [q] at h1
        cases oc with
        | type c =>
          cases dt with
          | seq its n =>
            have h2 : (decide (c = "tuple") && (decide (its.size ≤ sizeLine) && cBA K ds its.toList)) = true := h1
            rw [Bool.and_eq_true, Bool.and_eq_true] at h2
            obtain ⟨e1, e2, e3⟩ := h2
            obtain ⟨vs, hv, hr⟩ := cBA_ok ds its.toList e3
            exact ⟨.ref a, rfl, fun H => .tup (.inr ⟨_, its, n, q, congrArg Value.type (of_decide_eq_true e1), rfl, of_decide_eq_true e2, hv⟩) (hr H)⟩
          | _ => cases h1
        | _ => cases dt <;> cases h1
    | _ => cases h
  | .non, u, h => by cases u <;> cases h
  | .bl _, u, h => by cases u <;> cases h
  | .str _, u, h => by cases u <;> cases h
  | .lst _, u, h => by cases u <;> cases h
  | .opq _, u, h => by cases u <;> cases h
theorem cBA_ok {K : PySem.W.Frag} : ∀ (ds : List D) (us : List Value), cBA K ds us = true → ∃ vs, Vals vs us ∧ ∀ H, RpA K H vs ds
  | [], [], _ => ⟨[], .nil, fun _ => .nil⟩
  | [], _ :: _, h => by cases h
  | _ :: _, [], h => by cases h
  | d :: ds, u :: us, h => by
    have h' : (cB K d u && cBA K ds us) = true := h
    rw [Bool.and_eq_true] at h'
    obtain ⟨v, r, z⟩ := cB_ok d u h'.1
    obtain ⟨vs, rs, zs⟩ := cBA_ok ds us h'.2
    exact ⟨v :: vs, .cons r rs, fun H => .cons (z H) (zs H)⟩
end
/-- what K must say of the own exceptions -/
def clsV (K : PySem.W.Frag) (y : Str) : Value := if y = "ValueError" then .type "ValueError" else .ref (He.ga K y)
def subX (z y : Str) : Bool := decide (z = y) || decide (y = "OverError") || decide (y = "ValueError")
def excCB (K : PySem.W.Frag) (a : Addr) : Bool :=
  decide (PySem.W.findIn K (.ref a) "__getattribute__" = some (some (.builtin "BaseException.__getattribute__"))) && (decide (PySem.W.findIn K (.ref a) "__getattr__" = some none) && (decide (PySem.W.subIn K (.ref a) (.type "BaseException") = some true) && (PySem.W.hasDictIn K a &&
    (decide (PySem.W.findIn K (.ref a) "__class__" = some (some (.builtin "object.__class__"))) && (decide (PySem.W.specialIn K (.builtin "object.__class__") "__get__" = some (some (.builtin "getset_descriptor.__get__"))) && (decide (PySem.W.takesIn K (.builtin "object.__class__") = some true) && decide (PySem.W.mroIn K a (.type "object") = some true)))))))
def exQ (K : PySem.W.Frag) : Bool := excN.all fun z => excCB K (He.ga K z) && (decide (PySem.W.exmOne K (.ref (He.ga K z)) (.ref (He.ga K "OverError")) = some true) &&
  (excN ++ (["OverError", "ValueError"] : List Str)).all fun y => decide (PySem.W.kitOne K (.ref (He.ga K z)) (clsV K y) = some (subX z y)))
/-- the module's constants; the own exceptions -/
def csB1 (K : PySem.W.Frag) (q : Str × D) : Bool := match q.2 with
  | .exc _ => exQ K
  | d => cB K d (.ref (He.ga K q.1))
def csB (cs : List (Str × D)) (K : PySem.W.Frag) : Bool := cs.all (csB1 K)
abbrev AlG : Type := Bool × He.AlD
def obsG (cs : List (Str × D)) (fa : List He.Fa) (fn : List He.DefD) (K : PySem.W.Frag) : AlG := (csB cs K, He.obsD fa fn K)
def SaysG (cs : List (Str × D)) (fa : List He.Fa) (fn : List He.DefD) (K : PySem.W.Frag) : Prop := csB cs K = true ∧ He.SaysD fa fn K
section
variable {cs : List (Str × D)} {fa : List He.Fa} {fn : List He.DefD} {K : PySem.W.Frag} {h : Heap} {mg : Str → Option Value}
theorem exq_of (c : csB cs K = true) (i : Nat) {x : Str} {z : Str} (hi : cs[i]? = some (x, .exc z)) : exQ K = true := List.all_eq_true.mp c (x, .exc z) (List.mem_of_getElem? hi)
theorem exc_of (X : K.In h) (Gn : h.Ns mainGlobals mg) {x : Str} (c1 : (He.Fa.glo x).ok K = true) (c2 : (He.Fa.exc x).ok K = true) : ExcF K mg x := by
  obtain ⟨a, b, c, d⟩ := He.exc_ok c2
  exact ⟨He.glo_ok X Gn c1, a, b, c, d⟩
end
end G
namespace G
open PySem PySem.Spec L2
/-! ### is not True, is not False -/
theorem op_isntB {X : L2.Cx} : OpR X (compareOp .IsNot) (fun x y H Q => ∃ k, y = .bl k ∧ Q (.bl (!decide (x = .bl k))) H) := by
  intro pins s σ H x y v u Q I rx ry h
  obtain ⟨k, rfl, q⟩ := h
  cases ry
  show wpAny _ _ ((isSame v (Value.bool k)) >>= fun z => pure (Value.bool (!z))) _ _ s
  refine wpAny_bind (wpAny_isSame_plain ?_ (wpAny_pure (fin_bl I q ?_)))
  · cases x <;> first | (cases rx; rfl) | (obtain ⟨t, rfl⟩ := rx; rfl)
  · cases x <;> first | (cases rx; rfl) | (obtain ⟨t, rfl⟩ := rx; rfl) | skip
    rename_i b
    cases rx
    cases b <;> cases k <;> rfl
theorem od_isntB {X : L2.Cx} : OpD X (fun x y H Q => ∃ k, y = .bl k ∧ Q (.bl (!decide (x = .bl k))) H) (fun x y Φ => ∃ k, y = .bl k ∧ Φ (.bl (!x.isV k))) := fun Hi H x y v u Φ s h r1 r2 Q q => by
  obtain ⟨k, e, z⟩ := h
  subst e
  cases r2
  exact ⟨k, rfl, by rw [r1.isV]; exact q _ _ Hi H z (Gr.refl s) (.bl _)⟩
section
variable {X : L2.Cx} {Ψ : Str → Prop} {ρ : List Sl} {Φ : D → Prop} {Θ : Bool → Prop} {R : Po} {a b e : Expr} {pos p p2 p3 : Pos} {j : Nat} {d d' : D} {k : Bool} {ds es : List D} {rest : List Stmt}
/-! ### tuples -/
theorem od_catT : OpD X (rCatA X.K) (fun x y Φ => ∃ ds es, x = .tup ds ∧ y = .tup es ∧ ds.length + es.length ≤ sizeLine ∧ Φ (.tup (ds ++ es))) := fun Hi H x y v u Φ s h r1 r2 Q q => by
  obtain ⟨ds, es, e1, e2, hz, k⟩ := h
  subst e1 e2
  cases r1 with
  | @tup a xs _ hs ha =>
    cases r2 with
    | @tup b ys _ hs' ha' =>
      refine ⟨a, b, xs, ys, rfl, rfl, s.t hs, s.t hs', by rw [ha.length, ha'.length]; exact hz, fun e => ?_, fun e1 e2 => ?_, fun e1 e2 p hp => q _ _ (upd Hi p _) _ k (Gr.mk1 s hp) ?_⟩
      · subst e
        cases ha
        exact q _ _ Hi H k (Gr.refl s) (.tup hs' ha')
      · subst e2
        cases ha'
        rw [List.append_nil] at k
        exact q _ _ Hi H k (Gr.refl s) (.tup hs ha)
      · exact .tup (SqT.of upd_same) ((ha.app ha').up (Ex.new (s.free hp)))
theorem inV_ints (i : Int) (ns : List Int) : inV (.int i) (ns.map V.int) = decide (i ∈ ns) := by
  unfold inV
  rw [List.any_map]
  induction ns with
  | nil => rfl
  | cons n ns ih =>
    rw [List.any_cons, ih]
    show (eqV (.int n) (.int i) || _) = _
    have e : eqV (.int n) (.int i) = decide (i = n) := by
      show (n == i) = _
      by_cases h : n = i
      · subst h; simp
      · rw [decide_eq_false (fun e => h e.symm)]; simpa using h
    rw [e]
    by_cases h : i = n <;> simp [h]
theorem od_notInT : OpD X (rIn X.K true) (fun x y Φ => ∃ (i : Int) (ns : List Int), x = .int i ∧ y = .tup (ns.map D.int) ∧ Φ (.bl (!decide (i ∈ ns)))) := fun Hi H x y v u Φ s h r1 r2 Q q => by
  obtain ⟨i, ns, e1, e2, k⟩ := h
  subst e1 e2
  cases r1
  cases r2 with
  | tup hs ha =>
    have e := ha.ints
    subst e
    refine ⟨_, _, rfl, .inr (s.t hs), rfl, ?_, ?_⟩
    · rw [List.all_map]; exact List.all_eq_true.mpr fun _ _ => rfl
    · rw [inV_ints]; exact q _ _ Hi H k (Gr.refl s) (.bl _)
variable {i : Int} {ns : List Int}
/-- a, b, c = a list -/
theorem qg_lst {tgs : List Expr} {n : Nat} {ρ' : List Sl} (h : QGs X tgs ds ρ ρ') (hl : (assignEach tgs X.env).length = ds.length := by rfl) (hst : (assignEach tgs X.env).findIdx? (·.1) = none := by rfl) (hc : X.calm = true := by rfl) :
    QG X (.Tuple tgs n pos) (.lst ds) ρ ρ' := fun B Hi H σ v S r Q q => by
  obtain ⟨t, ht, hq⟩ := h
  cases r with
  | lst hs ha => exact wG.of (pg_unl (n := ds.length) hc ht hl hst) ⟨_, _, rfl, SqL.of (S.sub _ _ hs), ha.length, hq B Hi H σ _ S ha Q q⟩
/-! ### lists of one's own -/
theorem Gr.wr {Bi B Hi H : Hp} (g : Gr Bi B Hi H) {a : Addr} {o : HO} (hb : B a = none) (hi : Hi a = none) : Gr Bi B Hi (upd H a o) :=
  ⟨g.i, fun c u z => by rw [upd_ne (ne_of_none z hb)]; exact g.o c u z, fun c u z => by rw [upd_ne (ne_of_none z hi)]; exact g.sub c u z, g.new⟩
theorem Ex.wr {Hi H : Hp} (g : Ex Hi H) {a : Addr} {o : HO} (hi : Hi a = none) : Ex Hi (upd H a o) := fun c u z => by rw [upd_ne (ne_of_none z hi)]; exact g c u z
/-- x = [], a list that is changed -/
theorem qs_new (i : Nat) {x : Str} {lp : Pos} (h : QS X Ψ rest (ρ.set i (.lst [])) R) (hN : X.N.Nodup) (hi : X.N[i]? = some x := by rfl) (hx : Loc X.env.scope x := by first | exact Or.inl rfl | exact Or.inr rfl)
    (hs : swapsWith (.List [] lp) (some (.Name x p)) pos.line X.env = pure false := by rfl) (hf : X.fn x = true ∨ X.env.scope.names.lookup x = some .local := by first | exact .inl rfl | exact .inr rfl) : QS X Ψ (.Assign [.Name x p] (.List [] lp) pos :: rest) ρ R :=
  fun Bi B Hi H σ Dn W tk g S rb N => wSs.cons (ps_set hN hi hx (pe_lst pa_nil) hs hf) ⟨by show 0 ≤ sizeLine; decide, fun p hp =>
    h Bi B Hi (upd H p (.lst [])) (σ.set i (some (.ref p))) Dn W tk (g.trans (Gr.out g.sub (Ex.new hp))) (S.own1 g.o hp (show RpA X.K Hi [] [] from .nil)) rb N⟩
/-! ### what is of one's own is looked at -/
theorem StOk.frz0 {K : PySem.W.Frag} {B Hi H : Hp} {σ : L2.St} {i : Nat} {c : Cl} {d : D} (S : StOk K B Hi H σ ρ) (hi : ρ[i]? = some (.cl c))
    (hd : ∀ a o Hj, ClOk K Hi a o c → Ex Hi Hj → Hj a = some o → Rp K Hj (V.ref a) d) : ∃ Hi', Ex Hi Hi' ∧ StOk K B Hi' H σ (ρ.set i (.dat d)) := by
  obtain ⟨a, o, e1, b1, n1, x1, r1⟩ := S.own hi
  have ex : Ex Hi (upd Hi a o) := Ex.new n1
  have sub : Ex (upd Hi a o) H := fun c u z => by
    by_cases h : c = a
    · subst h; rw [upd_same] at z; cases z; exact x1
    · rw [upd_ne h] at z; exact S.sub c u z
  have rd : Rp K (upd Hi a o) (V.ref a) d := hd a o _ r1 ex upd_same
  have key : StOk K B (upd Hi a o) H (σ.set i (some (V.ref a))) (ρ.set i (.dat d)) := by
    refine ⟨sub, by simp [S.len], at_set S.len rd fun j x s hj p q => ?_, sep_set S.sep S.len fun h => nomatch h⟩
    have z := S.at_ j x s p q
    cases s with
    | emp => cases x <;> trivial
    | dat d =>
      cases x with
      | none => exact z
      | some v => exact Rp.up (show Rp K Hi v d from z) ex
    | cl f =>
      cases x with
      | none => exact z
      | some v =>
        obtain ⟨c, o2, ev, b2, n2, x2, r2⟩ := z
        subst ev
        have hc : c ≠ a := fun e => by subst e; exact hj (S.sep j i _ _ c q hi rfl rfl p e1)
        exact ⟨c, o2, rfl, b2, by rw [upd_ne hc]; exact n2, x2, r2.up ex⟩
  rw [set_same e1] at key
  exact ⟨upd Hi a o, ex, key⟩
abbrev Frz (c : Cl) (d : D) : Prop := ∀ (K : PySem.W.Frag) (Hi : Hp) (a : Addr) (o : HO) (Hj : Hp), ClOk K Hi a o c → Ex Hi Hj → Hj a = some o → Rp K Hj (.ref a) d
theorem qt_peek (i : Nat) {c : Cl} (hi : ρ[i]? = some (.cl c)) (hd : Frz c d) (h : QT X Ψ e (ρ.set i (.dat d)) Θ) : QT X Ψ e ρ Θ := fun B Hi H σ W tk S rs Q q => by
  obtain ⟨Hi', ex, S'⟩ := S.frz0 hi (fun a o Hj => hd _ _ a o Hj)
  exact h B Hi' H σ W tk S' (fun x Hi2 H2 p g => rs x Hi H2 p (Gr.out S.sub g.o)) Q fun b Hi2 H2 hz g => q b Hi H2 hz (Gr.out S.sub g.o)
end
end G
namespace G
open PySem PySem.Spec L2
/-! ### what stands written: numbers, texts, tuples and lists of such -/
def litS (f : Expr → Option D) (g : List Expr → Option (List D)) (e : Expr) : Option D := match e with
  | .Constant (.int i) _ _ => some (.int i)
  | .Constant (.bool b) _ _ => some (.bl b)
  | .Constant (.str x) _ _ => some (.str x)
  | .Constant .none _ _ => some .non
  | .BinOp a .Sub b _ => (match f a, f b with
    | some (.int i), some (.int j) => some (.int (i - j))
    | _, _ => none)
  | .Tuple es _ _ => if es.length ≤ 1000 then (match g es with
    | some ds => some (.tup ds)
    | none => none) else none
  | .List es _ => if es.length ≤ 1000 then (match g es with
    | some ds => some (.lst ds)
    | none => none) else none
  | _ => none
mutual
def litD : Nat → Expr → Option D
  | 0, _ => none
  | n + 1, e => litS (litD n) (litA n) e
def litA : Nat → List Expr → Option (List D)
  | _, [] => some []
  | 0, _ :: _ => none
  | n + 1, e :: es => match litD n e, litA n es with
    | some d, some ds => some (d :: ds)
    | _, _ => none
end
theorem litA_len : ∀ (n : Nat) (es : List Expr) (ds : List D), litA n es = some ds → ds.length = es.length
  | 0, [], ds, h => by
    rw [litA] at h
    cases h; rfl
  | _ + 1, [], ds, h => by
    rw [litA] at h
    cases h; rfl
  | 0, _ :: _, ds, h => by rw [litA] at h; cases h
  | n + 1, e :: es, ds, h => by
    rw [litA] at h
    split at h
    · rename_i d ds' h1 h2
      cases h
      simp [litA_len n es ds' h2]
    · cases h
section
variable {X : L2.Cx} {Ψ : Str → Prop} {ρ : List Sl}
theorem lit_nst {n : Nat} {e : Expr} {d : D} (h : litD n e = some d) : nst e = true := by
  cases n with
  | zero => rw [litD] at h; cases h
  | succ n => rw [litD] at h; cases e <;> first | rfl | cases h
mutual
theorem qe_litN : ∀ (n : Nat) (e : Expr) (d : D), litD n e = some d → QE X Ψ e ρ d
  | 0, e, d, h => by rw [litD] at h; cases h
  | n + 1, e, d, h => by
    rw [litD] at h
    unfold litS at h
    split at h
    · cases h; exact qi
    · cases h; exact qb
    · cases h; exact qs
    · cases h; exact qn
    · rename_i a b _
      split at h
      · rename_i i j h1 h2
        cases h
        exact qe_sub (qe_litN n a _ h1) (qe_litN n b _ h2)
      · cases h
    · rename_i es _ _
      split at h
      · rename_i hl
        split at h
        · rename_i ds h1
          cases h
          exact qe_tup (qe_litA n es ds h1) (by rw [litA_len n es ds h1]; omega)
        · cases h
      · cases h
    · rename_i es _
      split at h
      · rename_i hl
        split at h
        · rename_i ds h1
          cases h
          exact qe_lst (qe_litA n es ds h1) (by rw [litA_len n es ds h1]; omega)
        · cases h
      · cases h
    · cases h
theorem qe_litA : ∀ (n : Nat) (es : List Expr) (ds : List D), litA n es = some ds → QAs X Ψ es ρ ds
  | 0, [], ds, h => by rw [litA] at h; cases h; exact qas_nil
  | _ + 1, [], ds, h => by rw [litA] at h; cases h; exact qas_nil
  | 0, _ :: _, ds, h => by rw [litA] at h; cases h
  | n + 1, e :: es, ds, h => by
    rw [litA] at h
    split at h
    · rename_i d ds' h1 h2
      cases h
      exact qas_cons (qe_litN n e d h1) (qe_litA n es ds' h2) (se_of (lit_nst h1))
    · cases h
end
theorem QE.as {e : Expr} {d : D} (d' : D) (h : QE X Ψ e ρ d) (k : d = d') : QE X Ψ e ρ d' := k ▸ h
end
end G
namespace G
open PySem PySem.Spec L2
/-! ### C: dicts whose keys are tuples of whole numbers, nested -/
mutual
theorem ky_inj : ∀ (d e : D) (n m : Nat), D.kyB d n = true → D.kyB e m = true → d.ky = e.ky → d = e
  | .int i, .int j, _, _, _, _, h => by
    have h' : NestedKey.num i = NestedKey.num j := h
    cases h'; rfl
  | .tup ds, .tup es, n, m, h1, h2, h => by
    have a : (decide (0 < n) && D.kysB ds (n - 1)) = true := h1
    have b : (decide (0 < m) && D.kysB es (m - 1)) = true := h2
    have h' : NestedKey.tup (D.kys ds) = NestedKey.tup (D.kys es) := h
    rw [Bool.and_eq_true] at a b
    injection h' with h'
    rw [kys_inj ds es _ _ a.2 b.2 h']
  | .int i, .tup es, _, _, _, _, h => by cases (show NestedKey.num i = NestedKey.tup (D.kys es) from h)
  | .tup ds, .int i, _, _, _, _, h => by cases (show NestedKey.tup (D.kys ds) = NestedKey.num i from h)
  | .non, _, _, _, h, _, _ | .bl _, _, _, _, h, _, _ | .str _, _, _, _, h, _, _ | .lst _, _, _, _, h, _, _ | .dct _ _, _, _, _, h, _, _ | .exc _, _, _, _, h, _, _ | .opq _, _, _, _, h, _, _ => Bool.noConfusion h
  | .int _, .non, _, _, _, h, _ | .int _, .bl _, _, _, _, h, _ | .int _, .str _, _, _, _, h, _ | .int _, .lst _, _, _, _, h, _ | .int _, .dct _ _, _, _, _, h, _ | .int _, .exc _, _, _, _, h, _ | .int _, .opq _, _, _, _, h, _ => Bool.noConfusion h
  | .tup _, .non, _, _, _, h, _ | .tup _, .bl _, _, _, _, h, _ | .tup _, .str _, _, _, _, h, _ | .tup _, .lst _, _, _, _, h, _ | .tup _, .dct _ _, _, _, _, h, _ | .tup _, .exc _, _, _, _, h, _ | .tup _, .opq _, _, _, _, h, _ => Bool.noConfusion h
theorem kys_inj : ∀ (ds es : List D) (n m : Nat), D.kysB ds n = true → D.kysB es m = true → D.kys ds = D.kys es → ds = es
  | [], [], _, _, _, _, _ => rfl
  | [], e :: es, _, _, _, _, h => by cases (show [] = e.ky :: D.kys es from h)
  | d :: ds, [], _, _, _, _, h => by cases (show d.ky :: D.kys ds = [] from h)
  | d :: ds, e :: es, n, m, h1, h2, h => by
    have a : (D.kyB d n && D.kysB ds n) = true := h1
    have b : (D.kyB e m && D.kysB es m) = true := h2
    have h' : d.ky :: D.kys ds = e.ky :: D.kys es := h
    rw [Bool.and_eq_true] at a b
    injection h' with h3 h4
    rw [ky_inj d e _ _ a.1 b.1 h3, kys_inj ds es _ _ a.2 b.2 h4]
end
mutual
theorem ky_hash (w w' : World) : ∀ (d : D) (n : Nat), D.kyB d n = true → d.ky.hash w = d.ky.hash w'
  | .int i, _, _ => rfl
  | .tup ds, n, h => by
    have a : (decide (0 < n) && D.kysB ds (n - 1)) = true := h
    rw [Bool.and_eq_true] at a
    show (NestedKey.tup (D.kys ds)).hash w = (NestedKey.tup (D.kys ds)).hash w'
    rw [NestedKey.hash, NestedKey.hash, kys_hash w w' ds _ a.2]
  | .non, _, h | .bl _, _, h | .str _, _, h | .lst _, _, h | .dct _ _, _, h | .exc _, _, h | .opq _, _, h => Bool.noConfusion h
theorem kys_hash (w w' : World) : ∀ (ds : List D) (n : Nat), D.kysB ds n = true → NestedKey.hashes w (D.kys ds) = NestedKey.hashes w' (D.kys ds)
  | [], _, _ => rfl
  | d :: ds, n, h => by
    have a : (D.kyB d n && D.kysB ds n) = true := h
    rw [Bool.and_eq_true] at a
    show NestedKey.hashes w (d.ky :: D.kys ds) = NestedKey.hashes w' (d.ky :: D.kys ds)
    rw [NestedKey.hashes, NestedKey.hashes, ky_hash w w' d _ a.1, kys_hash w w' ds _ a.2]
end
mutual
theorem ky_depth : ∀ (d : D) (n : Nat), D.kyB d n = true → d.ky.depth ≤ n
  | .int i, _, _ => Nat.zero_le _
  | .tup ds, n, h => by
    have a : (decide (0 < n) && D.kysB ds (n - 1)) = true := h
    rw [Bool.and_eq_true, decide_eq_true_eq] at a
    show (NestedKey.tup (D.kys ds)).depth ≤ n
    rw [NestedKey.depth]
    have := kys_depth ds _ a.2
    omega
  | .non, _, h | .bl _, _, h | .str _, _, h | .lst _, _, h | .dct _ _, _, h | .exc _, _, h | .opq _, _, h => Bool.noConfusion h
theorem kys_depth : ∀ (ds : List D) (n : Nat), D.kysB ds n = true → NestedKey.depthAll (D.kys ds) ≤ n
  | [], _, _ => Nat.zero_le _
  | d :: ds, n, h => by
    have a : (D.kyB d n && D.kysB ds n) = true := h
    rw [Bool.and_eq_true] at a
    show NestedKey.depthAll (d.ky :: D.kys ds) ≤ n
    rw [NestedKey.depthAll]
    have := ky_depth d _ a.1
    have := kys_depth ds _ a.2
    omega
end
theorem key_tup {d : D} (h : d.key = true) : ∃ ds, d = .tup ds ∧ D.kyB d 8 = true := by
  cases d with
  | tup ds =>
    refine ⟨ds, rfl, ?_⟩
    show (decide (0 < 8) && D.kysB ds (8 - 1)) = true
    rw [show D.kysB ds (8 - 1) = true from h]; rfl
  | _ => cases h
theorem key_inj {d e : D} (h : d.key = true) (k : e.key = true) (q : d.ky = e.ky) : d = e := by
  obtain ⟨_, _, h1⟩ := key_tup h
  obtain ⟨_, _, h2⟩ := key_tup k
  exact ky_inj d e _ _ h1 h2 q
theorem key_iff {d e : D} (h : d.key = true) (k : e.key = true) : d.ky = e.ky ↔ d = e := ⟨key_inj h k, fun z => by rw [z]⟩
section
variable {X : L2.Cx} {pins : List (Addr × Obj)} {σ : L2.St} {H : Hp} {s : Shared}
mutual
theorem nk_of (I : Inv X pins σ H s) : ∀ (d : D) (n : Nat) (v : V) (u : Value), D.kyB d n = true → Rp X.K H v d → RelV v u → NestedIs s.heap d.ky u
  | .int i, _, _, _, _, r, q => by
    cases r
    obtain ⟨t, rfl⟩ := q
    exact .int i t
  | .tup ds, n, v, u, k, r, q => by
    have a : (decide (0 < n) && D.kysB ds (n - 1)) = true := k
    rw [Bool.and_eq_true] at a
    cases r with
    | @tup c xs _ hs ha =>
      obtain rfl : u = Value.ref c := q
      obtain ⟨its, rv, ⟨o, h1, h2, m, h3⟩, _⟩ := I.tuple hs
      exact .tup h1 h2 h3 (by simpa using nks_of I ds _ _ _ a.2 ha rv)
  | .non, _, _, _, h, _, _ | .bl _, _, _, _, h, _, _ | .str _, _, _, _, h, _, _ | .lst _, _, _, _, h, _, _ | .dct _ _, _, _, _, h, _, _ | .exc _, _, _, _, h, _, _ | .opq _, _, _, _, h, _, _ => Bool.noConfusion h
theorem nks_of (I : Inv X pins σ H s) : ∀ (ds : List D) (n : Nat) (vs : List V) (us : List Value), D.kysB ds n = true → RpA X.K H vs ds → Vals vs us → NestedAll s.heap (D.kys ds) us
  | [], _, _, _, _, r, q => by
    cases r
    cases q
    exact .nil
  | d :: ds, n, vs, us, h, r, q => by
    have a : (D.kyB d n && D.kysB ds n) = true := h
    rw [Bool.and_eq_true] at a
    cases r with
    | cons r1 r2 =>
      cases q with
      | cons q1 q2 => exact .cons (nk_of I d _ _ _ a.1 r1 q1) (nks_of I ds _ _ _ a.2 r2 q2)
end
theorem key_is {d : D} {a : Addr} (I : Inv X pins σ H s) (h : d.key = true) (r : Rp X.K H (.ref a) d) : (nestedKind X.prog X.w).is s.heap d.ky a := by
  obtain ⟨_, _, k⟩ := key_tup h
  exact ⟨nk_of I d _ _ _ k r rfl, ky_depth d _ k⟩
theorem key_ref {K : PySem.W.Frag} {H : Hp} {d : D} {v : V} (h : d.key = true) (r : Rp K H v d) : ∃ a, v = .ref a := by
  obtain ⟨ds, rfl, _⟩ := key_tup h
  cases r with
  | tup hs ha => exact ⟨_, rfl⟩
/-! ### what the object is, for the library's rules -/
abbrev hx (xs : List Ent) : List (NestedKey × Addr × Value) := xs.map fun x => (x.1.ky, x.2.1, x.2.2)
theorem rpA_at {K : PySem.W.Frag} {H : Hp} : ∀ {xs : List Ent}, RpA K H (xs.map fun x => V.ref x.2.1) (xs.map (·.1)) → ∀ x ∈ xs, Rp K H (.ref x.2.1) x.1
  | [], _, x, hx => by cases hx
  | y :: ys, r, x, hx => by
    cases r with
    | cons r1 r2 =>
      rcases List.mem_cons.mp hx with rfl | hx
      · exact r1
      · exact rpA_at r2 x hx
theorem dict_of {a : Addr} {xs : List Ent} {o : Obj} (I : Inv X pins σ H s) (ha : H a = some (.ext (dctO a xs o))) (hk : (xs.map (·.1)).all D.key = true) (r : RpA X.K H (xs.map fun x => V.ref x.2.1) (xs.map (·.1))) :
    s.heap.get? a = some o ∧ s.heap.DictOfH (nestedKind X.prog X.w) a (hx xs) ∧ DctS a xs o := by
  obtain ⟨⟨e, ds⟩, _⟩ := I.hok a _ ha
  obtain ⟨es, ep, ed, he⟩ := ds.dat
  refine ⟨e, ⟨o, es, ep, e, ds.ex, ed, ?_, fun y hy => ?_, ?_⟩, ds⟩
  · rw [he X.w, List.map_map]; rfl
  · obtain ⟨x, hm, rfl⟩ := List.mem_map.mp hy
    exact key_is I (List.all_eq_true.mp hk _ (List.mem_map.mpr ⟨x, hm, rfl⟩)) (rpA_at r x hm)
  · rw [List.map_map]; exact ds.nd
/-! as data -/
noncomputable def dGet (ks vs : List D) (k : D) : Option D := ((ks.zip vs).find? fun p => decide (p.1 = k)).map (·.2)
noncomputable def dPut (kvs : List (D × D)) (k v : D) : List (D × D) := if k ∈ kvs.map (·.1) then kvs.map (fun p => if p.1 = k then (p.1, v) else p) else kvs ++ [(k, v)]
abbrev dctD (kvs : List (D × D)) : D := .dct (kvs.map (·.1)) (kvs.map (·.2))
theorem at_none {xs : List Ent} {k : D} (hk : (xs.map (·.1)).all D.key = true) (h : k.key = true) : atKey (hx xs) k.ky = none ↔ k ∉ xs.map (·.1) := by
  unfold atKey
  rw [Option.map_eq_none_iff, List.find?_eq_none]
  constructor
  · intro z m
    obtain ⟨x, hx', rfl⟩ := List.mem_map.mp m
    exact z (x.1.ky, x.2.1, x.2.2) (List.mem_map.mpr ⟨x, hx', rfl⟩) (by simp)
  · intro z y hy e
    obtain ⟨x, hx', rfl⟩ := List.mem_map.mp hy
    have e1 : x.1.ky = k.ky := by simpa using e
    have e2 := key_inj (List.all_eq_true.mp hk _ (List.mem_map.mpr ⟨x, hx', rfl⟩)) h e1
    exact z (List.mem_map.mpr ⟨x, hx', e2⟩)
theorem at_isSome {xs : List Ent} {k : D} (hk : (xs.map (·.1)).all D.key = true) (h : k.key = true) : (atKey (hx xs) k.ky).isSome = decide (k ∈ xs.map (·.1)) := by
  have z := at_none (xs := xs) hk h
  cases q : atKey (hx xs) k.ky with
  | none =>
    rw [decide_eq_false (z.mp q)]; rfl
  | some p =>
    have : k ∈ xs.map (·.1) := by
      by_cases m : k ∈ xs.map (·.1)
      · exact m
      · rw [z.mpr m] at q; cases q
    rw [decide_eq_true this]; rfl
theorem at_get {K : PySem.W.Frag} {H : Hp} {k : D} (h : k.key = true) : ∀ {xs : List Ent} {vs : List D} {us : List V}, (xs.map (·.1)).all D.key = true → Vals us (xs.map fun x => x.2.2) → RpA K H us vs →
    (∀ d, dGet (xs.map (·.1)) vs k = some d → ∃ (a : Addr) (u : Value) (v : V), atKey (hx xs) k.ky = some (a, u) ∧ RelV v u ∧ Rp K H v d) ∧ (dGet (xs.map (·.1)) vs k = none → atKey (hx xs) k.ky = none)
  | [], vs, us, _, r, q => by
    refine ⟨fun d z => ?_, fun _ => rfl⟩
    simp [dGet] at z
  | x :: xs, vs, us, hk, r, q => by
    cases r with
    | cons r1 r2 =>
      cases q with
      | cons q1 q2 =>
        rw [List.map_cons, List.all_cons, Bool.and_eq_true] at hk
        have ih := at_get (K := K) (H := H) h hk.2 r2 q2
        have key : x.1.ky = k.ky ↔ x.1 = k := key_iff hk.1 h
        unfold dGet atKey at ih ⊢
        by_cases e : x.1 = k
        · have e2 := key.mpr e
          refine ⟨fun d z => ?_, fun z => ?_⟩
          · rw [List.map_cons, List.zip_cons_cons, List.find?_cons_of_pos (by simpa using e)] at z
            cases z
            refine ⟨x.2.1, x.2.2, _, ?_, r1, q1⟩
            show ((((x.1.ky, x.2.1, x.2.2) :: hx xs).find? _).map _) = _
            rw [List.find?_cons_of_pos (by simpa using e2)]; rfl
          · rw [List.map_cons, List.zip_cons_cons, List.find?_cons_of_pos (by simpa using e)] at z
            cases z
        · have e2 : ¬ x.1.ky = k.ky := fun z => e (key.mp z)
          rw [List.map_cons, List.zip_cons_cons, List.find?_cons_of_neg (by simpa using e)]
          show (∀ d, _ → ∃ (a : Addr) (u : Value) (v : V), ((((x.1.ky, x.2.1, x.2.2) :: hx xs).find? _).map _) = _ ∧ _) ∧ (_ → ((((x.1.ky, x.2.1, x.2.2) :: hx xs).find? _).map _) = _)
          rw [List.find?_cons_of_neg (by simpa using e2)]
          exact ih
/-! ### a store -/
noncomputable def ePut (xs : List Ent) (k : D) (a : Addr) (u : Value) : List Ent := if k ∈ xs.map (·.1) then xs.map (fun x => if x.1 = k then (x.1, x.2.1, u) else x) else xs ++ [(k, a, u)]
theorem stored_hx {xs : List Ent} {k : D} {a : Addr} {u : Value} (hk : (xs.map (·.1)).all D.key = true) (h : k.key = true) : storedH (hx xs) k.ky a u = hx (ePut xs k a u) := by
  unfold storedH ePut
  rw [at_isSome hk h]
  by_cases m : k ∈ xs.map (·.1)
  · rw [if_pos (decide_eq_true m), if_pos m, hx, hx, List.map_map, List.map_map]
    refine List.map_congr_left fun x hx' => ?_
    have key : x.1.ky = k.ky ↔ x.1 = k := key_iff (List.all_eq_true.mp hk _ (List.mem_map.mpr ⟨x, hx', rfl⟩)) h
    show putAt k.ky u (x.1.ky, x.2.1, x.2.2) = _
    unfold putAt
    by_cases e : x.1 = k
    · rw [if_pos (show x.1.ky = k.ky from key.mpr e)]
      show _ = ((if x.1 = k then (x.1, x.2.1, u) else x).1.ky, (if x.1 = k then (x.1, x.2.1, u) else x).2.1, (if x.1 = k then (x.1, x.2.1, u) else x).2.2)
      rw [if_pos e]
    · rw [if_neg (fun z => e (key.mp z))]
      show _ = ((if x.1 = k then (x.1, x.2.1, u) else x).1.ky, (if x.1 = k then (x.1, x.2.1, u) else x).2.1, (if x.1 = k then (x.1, x.2.1, u) else x).2.2)
      rw [if_neg e]
  · rw [if_neg (by rw [decide_eq_false m]; decide), if_neg m, hx, hx, List.map_append]; rfl
theorem put_keys {kvs : List (D × D)} {k v : D} : (dPut kvs k v).map (·.1) = if k ∈ kvs.map (·.1) then kvs.map (·.1) else kvs.map (·.1) ++ [k] := by
  unfold dPut
  split
  · rw [List.map_map]
    refine List.map_congr_left fun p _ => ?_
    show (if p.1 = k then (p.1, v) else p).1 = p.1
    split <;> rfl
  · rw [List.map_append]; rfl
theorem ePut_keys {xs : List Ent} {k : D} {a : Addr} {u : Value} : (ePut xs k a u).map (·.1) = if k ∈ xs.map (·.1) then xs.map (·.1) else xs.map (·.1) ++ [k] := by
  unfold ePut
  split
  · rw [List.map_map]
    refine List.map_congr_left fun p _ => ?_
    show (if p.1 = k then (p.1, p.2.1, u) else p).1 = p.1
    split <;> rfl
  · rw [List.map_append]; rfl
/-- what ClOk says of an own dict -/
structure DOk (K : PySem.W.Frag) (Hi : Hp) (xs : List Ent) (us : List V) (kvs : List (D × D)) : Prop where
  ks : kvs.map (·.1) = xs.map (·.1)
  key : (kvs.map (·.1)).all D.key = true
  rk : RpA K Hi (xs.map fun x => V.ref x.2.1) (kvs.map (·.1))
  vl : Vals us (xs.map fun x => x.2.2)
  rv : RpA K Hi us (kvs.map (·.2))
theorem RpA.snoc {K : PySem.W.Frag} {Hi : Hp} {vs : List V} {ds : List D} {v : V} {d : D} (h : RpA K Hi vs ds) (r : Rp K Hi v d) : RpA K Hi (vs ++ [v]) (ds ++ [d]) := h.app (.cons r .nil)
theorem DOk.put {K : PySem.W.Frag} {Hi : Hp} {k v : D} {a : Addr} {vv : V} {u : Value} (hk : k.key = true) (ra : Rp K Hi (.ref a) k) (rv : Rp K Hi vv v) (ru : RelV vv u) :
    ∀ {xs : List Ent} {us : List V} {kvs : List (D × D)}, DOk K Hi xs us kvs → ∃ us', DOk K Hi (ePut xs k a u) us' (dPut kvs k v) := by
  have old : ∀ {xs : List Ent} {us : List V} {kvs : List (D × D)}, DOk K Hi xs us kvs → ∃ us', Vals us' ((xs.map fun x => if x.1 = k then (x.1, x.2.1, u) else x).map fun x : Ent => x.2.2) ∧ RpA K Hi us' ((kvs.map fun p => if p.1 = k then (p.1, v) else p).map (·.2)) := by
    intro xs
    induction xs with
    | nil =>
      intro us kvs h
      have e := h.ks
      cases kvs with
      | nil => exact ⟨[], .nil, .nil⟩
      | cons _ _ => cases e
    | cons x xs ih =>
      intro us kvs h
      have e := h.ks
      cases kvs with
      | nil => cases e
      | cons p kvs =>
        obtain ⟨h1, h2, h3, h4, h5⟩ := h
        injection e with e1 e2
        rw [List.map_cons, List.all_cons, Bool.and_eq_true] at h2
        cases h3 with
        | cons a1 a2 =>
          cases h5 with
          | @cons v1 _ _ _ c1 c2 =>
            cases h4 with
            | cons b1 b2 =>
              obtain ⟨us', q1, q2⟩ := ih ⟨e2, h2.2, a2, b2, c2⟩
              by_cases e : p.1 = k
              · refine ⟨vv :: us', ?_, ?_⟩
                · rw [List.map_cons, List.map_cons, if_pos (show x.1 = k from e1.symm.trans e)]
                  exact .cons ru q1
                · rw [List.map_cons, List.map_cons, if_pos e]
                  exact .cons rv q2
              · refine ⟨v1 :: us', ?_, ?_⟩
                · rw [List.map_cons, List.map_cons, if_neg (fun z : x.1 = k => e ((show p.1 = x.1 from e1).trans z))]
                  exact .cons b1 q1
                · rw [List.map_cons, List.map_cons, if_neg e]
                  exact .cons c1 q2
  intro xs us kvs h
  by_cases m : k ∈ kvs.map (·.1)
  · have m2 : k ∈ xs.map (·.1) := h.ks ▸ m
    obtain ⟨us', q1, q2⟩ := old h
    refine ⟨us', ?_, ?_, ?_, ?_, ?_⟩
    · rw [put_keys, ePut_keys, if_pos m, if_pos m2, h.ks]
    · rw [put_keys, if_pos m]; exact h.key
    · rw [put_keys, if_pos m]
      have e : (ePut xs k a u).map (fun x => V.ref x.2.1) = xs.map fun x => V.ref x.2.1 := by
        unfold ePut
        rw [if_pos m2, List.map_map]
        refine List.map_congr_left fun p _ => ?_
        show V.ref (if p.1 = k then (p.1, p.2.1, u) else p).2.1 = _
        split <;> rfl
      rw [e]; exact h.rk
    · unfold ePut; rw [if_pos m2]; exact q1
    · unfold dPut; rw [if_pos m]; exact q2
  · have m2 : k ∉ xs.map (·.1) := h.ks ▸ m
    refine ⟨us ++ [vv], ?_, ?_, ?_, ?_, ?_⟩
    · rw [put_keys, ePut_keys, if_neg m, if_neg m2, h.ks]
    · rw [put_keys, if_neg m, List.all_append, h.key]; simp [hk]
    · rw [put_keys, if_neg m]
      unfold ePut
      rw [if_neg m2, List.map_append]
      exact h.rk.snoc ra
    · unfold ePut
      rw [if_neg m2, List.map_append]
      exact h.vl.append (.cons ru .nil)
    · unfold dPut
      rw [if_neg m, List.map_append]
      exact h.rv.snoc rv
theorem ePut_length {xs : List Ent} {k : D} {a : Addr} {u : Value} : (ePut xs k a u).length ≤ xs.length + 1 := by
  unfold ePut
  split <;> simp
/-- the object behind a store -/
theorem obj_of {P : Program} {w : World} {h' : Heap} {H' : Hp} {a : Addr} {xs : List Ent} (dd : h'.DictOfH (nestedKind P w) a (hx xs)) (hk : (xs.map (·.1)).all D.key = true) (hsm : (a == sysModules) = false) (hz : xs.length ≤ sizeLine) :
    ∃ o, h'.get? a = some o ∧ ObjOk P w H' h' a (.ext (dctO a xs o)) := by
  obtain ⟨o, es, ep, e, ex, ed, he, his, nd⟩ := dd
  have nd' : (xs.map fun x => x.1.ky).Nodup := by
    rw [List.map_map] at nd
    exact nd
  refine ⟨o, e, ⟨e, hsm, hz, nd', ex, es, ep, ed, fun w' => ?_⟩, ⟨o, e⟩, fun h1 h2 z k => ⟨k _ z.1, z.2⟩⟩
  rw [he, List.map_map]
  refine List.map_congr_left fun x hx' => ?_
  obtain ⟨_, _, k⟩ := key_tup (List.all_eq_true.mp hk _ (List.mem_map.mpr ⟨x, hx', rfl⟩))
  show (⟨x.1.ky.hash w, .ref x.2.1, x.2.2⟩ : DictEntry) = ⟨x.1.ky.hash w', .ref x.2.1, x.2.2⟩
  rw [ky_hash w w' x.1 _ k]
/-! ### operations -/
theorem room8 {A : Around} (hu : A.units + 65 < cLine) : (nestedKind X.prog X.w).room A.in1 := by show A.units + 1 + 8 < cLine; omega
def rNinC (K : PySem.W.Frag) : R2 := fun x y H Q => ∃ d ks vs, Rp K H x d ∧ Rp K H y (.dct ks vs) ∧ d.key = true ∧ Q (.bl (!decide (d ∈ ks))) H
theorem op_ninC (hu : X.A.units + 65 < cLine) : OpR X (compareOp .NotIn) (rNinC X.K) := by
  intro pins s σ H x y v u Q I rx ry h
  obtain ⟨d, ks, vs, r1, r2, hk, q⟩ := h
  obtain ⟨a, rfl⟩ := key_ref hk r1
  cases r2 with
  | @dct b xs o _ _ us hb e k rk vl rv =>
    subst e
    obtain rfl : v = Value.ref a := rx
    obtain rfl : u = Value.ref b := ry
    obtain ⟨_, dd, ds⟩ := dict_of I hb k rk
    refine wpAny_bind (wpAny_contains_heap (knd := nestedKind X.prog X.w) (room8 hu) (key_is I hk r1) ds.sm dd (wpAny_pure ?_))
    rw [at_isSome k hk]
    exact ⟨.bl _, H, I.tok _, rfl, q⟩
theorem od_ninC : OpD X (rNinC X.K) (fun x y Φ => ∃ ks vs, y = .dct ks vs ∧ x.key = true ∧ Φ (.bl (!decide (x ∈ ks)))) := fun Hi H x y v u Φ s h r1 r2 Q q => by
  obtain ⟨ks, vs, rfl, hk, h⟩ := h
  exact ⟨x, ks, vs, r1.up s, r2.up s, hk, q _ _ Hi H h (Gr.refl s) (.bl _)⟩
/-- d[k], k there -/
def rIxC (K : PySem.W.Frag) (x y : V) (H : Hp) (Q : VK) : Prop := ∃ (d : D) (b : Addr) (xs : List Ent) (o : Obj) (v : V) (a : Addr) (u : Value), Rp K H y d ∧ d.key = true ∧ x = .ref b ∧ H b = some (.ext (dctO b xs o)) ∧ (xs.map (·.1)).all D.key = true ∧
  RpA K H (xs.map fun x => V.ref x.2.1) (xs.map (·.1)) ∧ atKey (hx xs) d.ky = some (a, u) ∧ RelV v u ∧ Q v H
theorem ix_C (hu : X.A.units + 65 < cLine) : IxR X (rIxC X.K) := by
  intro value slice pins s σ H x y v u Q I rx ry h hs
  obtain ⟨d, b, xs, o, z, a2, u2, r1, hk, rfl, hb, k, rk, h1, h2, q⟩ := h
  obtain ⟨a, rfl⟩ := key_ref hk r1
  obtain rfl : v = Value.ref b := rx
  obtain rfl : u = Value.ref a := ry
  obtain ⟨_, dd, ds⟩ := dict_of I hb k rk
  exact PyProof.Rows.tail_any dd.typeIs slot_dict_getitem.lookup (wpAny_getItem_heap (knd := nestedKind X.prog X.w) (room8 hu) (key_is I hk r1) dd h1 ⟨z, H, I.tok _, h2, q⟩) hs
theorem od_ixC : OpD X (rIxC X.K) (fun x y Φ => ∃ ks vs e, x = .dct ks vs ∧ y.key = true ∧ dGet ks vs y = some e ∧ Φ e) := fun Hi H x y v u Φ s h r1 r2 Q q => by
  obtain ⟨ks, vs, e, rfl, hk, hg, h⟩ := h
  cases r1 with
  | @dct b xs o _ _ us hb e0 k rk vl rv =>
    subst e0
    obtain ⟨a2, u2, v2, h1, h2, h3⟩ := (at_get hk k vl rv).1 e hg
    exact ⟨y, b, xs, o, v2, a2, u2, r2.up s, hk, rfl, s _ _ hb, k, rk.up s, h1, h2, q _ _ Hi H h (Gr.refl s) h3⟩
/-- the entries as they stand -/
theorem raw_of {a : Addr} {xs : List Ent} {o : Obj} (I : Inv X pins σ H s) (ha : H a = some (.ext (dctO a xs o))) :
    ∃ es ep, s.heap.DictRaw a es ep ∧ o.data = .dict es ep ∧ es.size = xs.length ∧ DctS a xs o ∧ ∀ (i : Nat) (x : Ent), xs[i]? = some x → ∃ hi : i < es.size, es[i].key = .ref x.2.1 ∧ es[i].val = x.2.2 := by
  obtain ⟨⟨e, ds⟩, _⟩ := I.hok a _ ha
  obtain ⟨es, ep, ed, he⟩ := ds.dat
  have hl : es.size = xs.length := by
    rw [← Array.length_toList, he X.w, List.length_map]
  refine ⟨es, ep, ⟨o, e, ds.ex, ed⟩, ed, hl, ds, fun i x hi => ?_⟩
  obtain ⟨h1, h2⟩ := List.getElem?_eq_some_iff.mp hi
  have h3 : i < es.size := by omega
  refine ⟨h3, ?_⟩
  have e1 : es.toList[i]? = (xs.map fun x => (⟨x.1.ky.hash X.w, .ref x.2.1, x.2.2⟩ : DictEntry))[i]? := by rw [he X.w]
  rw [List.getElem?_map, hi, Array.getElem?_toList, Array.getElem?_eq_getElem h3] at e1
  injection e1 with e1
  rw [e1]
  exact ⟨rfl, rfl⟩
/-- len(d) -/
def rLenC : List V → Hp → VK → Prop := fun vs H Q => ∃ (b : Addr) (xs : List Ent) (o : Obj), vs = [.ref b] ∧ H b = some (.ext (dctO b xs o)) ∧ Q (.int xs.length) H
theorem call_lenC : CallR X (.builtin "len") rLenC := fun pins s σ H vs us Q I r h => by
  obtain ⟨b, xs, o, rfl, hb, q⟩ := h
  obtain ⟨u, rfl, ru⟩ := vals1 r
  obtain rfl : u = Value.ref b := ru
  obtain ⟨es, ep, hr, _, hl, ds, _⟩ := raw_of I hb
  have hz : xs.length < 2 ^ 62 := Nat.lt_of_le_of_lt ds.len (by decide)
  exact PyProof.Rows.call_len_slot (n := (xs.length : Nat)) hr.typeIs PySem.F.slot_dict_len (fun Q' hq => call_len_raw ds.sm hr (by rw [hl]; exact hq)) (by omega) (by omega) ⟨.int _, H, I.tok _, ⟨_, rfl⟩, q⟩
theorem cd_lenC : CallD X rLenC (fun ds Φ => ∃ ks vs, ds = [.dct ks vs] ∧ Φ (.int ks.length)) := fun Hi H vs ds Φ s h r Q q => by
  obtain ⟨ks, ws, rfl, k⟩ := h
  cases r with
  | cons r rr =>
    cases rr
    cases r with
    | @dct b xs o _ _ us h1 h2 h3 h4 h5 h6 =>
      have e : ks.length = xs.length := by rw [h2, List.length_map]
      exact ⟨b, xs, o, rfl, s _ _ h1, by rw [← e]; exact q _ _ Hi H k (Gr.refl s) (.int _)⟩
/-- list(d) -/
def rListC : List V → Hp → VK → Prop := fun vs H Q => ∃ (b : Addr) (xs : List Ent) (o : Obj), vs = [.ref b] ∧ H b = some (.ext (dctO b xs o)) ∧ ∀ l, H l = none → Q (.ref l) (upd H l (.lst (xs.map fun x => V.ref x.2.1)))
theorem keys_vals {xs : List Ent} {acc : List Value} (hl : acc.length = xs.length) (h : ∀ (i : Nat) (x : Ent) (v : Value), xs[i]? = some x → acc[i]? = some v → v = .ref x.2.1) : Vals (xs.map fun x => V.ref x.2.1) acc := by
  induction xs generalizing acc with
  | nil =>
    cases acc with
    | nil => exact .nil
    | cons _ _ => cases hl
  | cons x xs ih =>
    cases acc with
    | nil => cases hl
    | cons v acc =>
      exact .cons (h 0 x v rfl rfl) (ih (by simpa using hl) fun i y u h1 h2 => h (i + 1) y u (by simpa using h1) (by simpa using h2))
theorem items_keys {xs : List Ent} {es : Array DictEntry} {acc : Array Value} (hl : es.size = xs.length) (hv : ∀ (i : Nat) (x : Ent), xs[i]? = some x → ∃ hi : i < es.size, es[i].key = .ref x.2.1 ∧ es[i].val = x.2.2)
    (h : ItemsOf (fun i v => ∃ hi : i < es.size, v = es[i].key) acc es.size) : Vals (xs.map fun x => V.ref x.2.1) acc.toList := by
  refine keys_vals (by rw [Array.length_toList, h.1, hl]) fun i x v h1 h2 => ?_
  obtain ⟨_, e⟩ := h.2 i v (by rw [← Array.getElem?_toList]; exact h2)
  obtain ⟨_, e2, _⟩ := hv i x h1
  rw [e, e2]
theorem call_listC (hc : X.calm = true) : CallR X (.type "list") rListC := fun pins s σ H vs us Q I r h => by
  obtain ⟨b, xs, o, rfl, hb, q⟩ := h
  obtain ⟨u, rfl, ru⟩ := vals1 r
  obtain rfl : u = Value.ref b := ru
  obtain ⟨es, ep, hr, _, hl, ds, hv⟩ := raw_of I hb
  refine PySem.W.kdl_call (KdlSrc.rawDict (prog := X.prog) (w := X.w) ds.sm) (I.ok.hd hc) hr (by rw [hl]; exact ds.len) fun h' tk acc c keep hS hacc => ?_
  exact ⟨.ref s.heap.objs.size, _, I.laid (t' := tk) keep (Nat.le_refl _) (show ObjOk X.prog X.w _ h' _ (.lst (xs.map fun x => V.ref x.2.1)) from ⟨by rw [List.length_map]; exact ds.len, acc.toList, c, items_keys hl hv hacc, by rw [Array.toArray_toList]; exact hS⟩), rfl, q _ (I.hok.fresh (Nat.le_refl _))⟩
theorem cd_listC : CallD X rListC (fun ds Φ => ∃ ks vs, ds = [.dct ks vs] ∧ Φ (.lst ks)) := fun Hi H vs ds Φ s h r Q q => by
  obtain ⟨ks, ws, rfl, k⟩ := h
  cases r with
  | cons r rr =>
    cases rr
    cases r with
    | @dct b xs o _ _ us h1 h2 h3 h4 h5 h6 =>
      exact ⟨b, xs, o, rfl, s _ _ h1, fun l hl => q _ _ (upd Hi l _) _ k (Gr.mk1 s hl) (.lst upd_same (h4.up (Ex.new (s.free hl))))⟩
/-! ### d.get(k), d.get(k, x) -/
section
variable {a b c e f : Expr} {es : List Expr} {pos apos cpos p p2 : Pos} {te ta tb : TE} {A : Around} {E : Value → Shared → Prop}
/-! ### stores -/
/-- what stands behind a store: some object, the entry put -/
theorem put_obj {K : PySem.W.Frag} {A : Around} {b c : Addr} {xs : List Ent} {d : D} {r : Value} {o : Obj} {h' : Heap} {t' : Nat} (I : Inv X pins σ H s) (hb : H b = some (.ext (dctO b xs o))) (kk : (xs.map (·.1)).all D.key = true) (hk : d.key = true) (hz : xs.length < sizeLine)
    (dd : h'.DictOfH (nestedKind X.prog X.w) b (storedH (hx xs) d.ky c r)) (sb : Heap.SameBut b s.heap h') :
    ∃ o', Inv X pins σ (upd H b (.ext (dctO b (ePut xs d c r) o'))) { s with heap := h', toks := t' } := by
  obtain ⟨⟨_, ds⟩, _⟩ := I.hok b _ hb
  rw [stored_hx kk hk] at dd
  have kk' : ((ePut xs d c r).map (·.1)).all D.key = true := by
    rw [ePut_keys]
    split
    · exact kk
    · rw [List.all_append, kk]; simp [hk]
  obtain ⟨o', e, ok⟩ := obj_of (P := X.prog) (w := X.w) (H' := H) dd kk' ds.sm (by have := ePut_length (xs := xs) (k := d) (a := c) (u := r); omega)
  exact ⟨o', d_write I (by rw [hb]; exact True.intro) sb ⟨o', e⟩ ok⟩
theorem empty_obj {P : Program} {w : World} {H : Hp} (h : Heap) (hb : sysModules < h.objs.size) : ObjOk P w H (h.push { cls := .type "dict", data := .dict #[] }) h.objs.size (.ext (dctO h.objs.size [] { cls := .type "dict", data := .dict #[] })) :=
  ⟨⟨Heap.get?_push_size _ rfl, beq_eq_false_iff_ne.mpr (Ne.symm (Nat.ne_of_lt hb)), Nat.zero_le _, List.nodup_nil, ⟨rfl, rfl, rfl⟩, #[], 0, rfl, fun _ => rfl⟩, ⟨_, Heap.get?_push_size _ rfl⟩, fun h1 h2 z k => ⟨k _ z.1, z.2⟩⟩
/-! ### walks -/
def Itc (b : Addr) (xs : List Ent) (o : Obj) : It :=
  ⟨fun i H => H b = some (.ext (dctO b xs o)) ∧ i < xs.length, fun i H x H' => H' = H ∧ ∃ z, xs[i]? = some z ∧ x = .ref z.2.1, fun i H => H b = some (.ext (dctO b xs o)) ∧ xs.length ≤ i⟩
theorem turn_C {P : Program} {w : World} {K : PySem.W.Frag} {tg : Expr} {b : Addr} {xs : List Ent} {o : Obj} {es : Array DictEntry} {ep : Nat} (it : Addr) (hod : o.data = .dict es ep) : Turn P w K tg (Itc b xs o) [it] it (fun i h => h.IsKeyIter it b i xs.length ep) where
  mem := List.mem_singleton.mpr rfl
  obj := fun i h st c hc => by
    obtain rfl : c = it := List.mem_singleton.mp hc
    obtain ⟨ob, e1, _, e2⟩ := st
    exact ⟨ob, e1, fun v z => by rw [e2] at z; cases z⟩
  keep := fun i h h' ⟨ob, e1, e2⟩ k => ⟨ob, k it (List.mem_singleton.mpr rfl) ob e1, e2⟩
  item := by
    intro X hP hw hK hc i pins s σ H E I fpo st hgo
    subst hP hw hK
    obtain ⟨hb, hi⟩ := hgo
    obtain ⟨g0, g1, g2, g3, g4, g5⟩ := fpo it (List.mem_singleton.mpr rfl)
    obtain ⟨es', ep', hr, ed, hl, ds, hv⟩ := raw_of I hb
    obtain ⟨rfl, rfl⟩ := dict_ep hod ed
    have hx1 : xs[i]? = some xs[i] := List.getElem?_eq_getElem hi
    obtain ⟨hi2, ek, _⟩ := hv i _ hx1
    rw [← hl] at st
    refine wpAny_pyNext_keys_item_raw st hr hi2 fun h' st' sb => ?_
    have I1 : Inv X pins σ H { s with heap := h' } := I.turned (t' := s.toks) (fun c ob hc' z => (sb.2 c hc').trans z) g0 g1 g3 g4 g5
    obtain ⟨ob, e1, e2, e3⟩ := id st'
    refine ⟨_, rfl, go_of (s := { s with heap := h' }) e1 e2 e3 (by decide) ⟨.ref xs[i].2.1, H, I1, by rw [ek]; rfl, ⟨rfl, _, hx1, rfl⟩, ?_, fun c hc' => (fpo c hc').1⟩⟩
    show h'.IsKeyIter it b (i + 1) xs.length _
    rw [← hl]
    exact st'
  done := by
    intro X hP hw hK hc i pins s σ H E I fpo st hstop
    subst hP hw hK
    obtain ⟨hb, hi⟩ := hstop
    obtain ⟨g0, g1, g2, g3, g4, g5⟩ := fpo it (List.mem_singleton.mpr rfl)
    obtain ⟨es', ep', hr, ed, hl, ds, hv⟩ := raw_of I hb
    obtain ⟨rfl, rfl⟩ := dict_ep hod ed
    rw [← hl] at st
    exact wpAny_pyNext_keys_end_raw (I.ok.hd hc) st hr (by rw [hl]; exact hi) fun h' eb => ⟨rfl, I.turned (t' := s.toks) (fun c ob hc' z => eb c ob hc' z) g0 g1 g3 g4 g5⟩
  self := fun A i s Q E st h => wpAny_pyIter_keyiter st h
end
end
end G
namespace G
open PySem PySem.Spec L2
/-! ### {k: v for x in ..}, the keys tuples of whole numbers -/
section
variable {X : L2.Cx}
/-- what a turn leaves to be shown once key and value are there: Da the new dict -/
abbrev StoreC (K : PySem.W.Frag) (Da : Addr) (Nx : Hp → Prop) (y z : V) (H : Hp) : Prop := ∃ (c : Addr) (xs : List Ent) (o : Obj) (d : D), y = .ref c ∧ Rp K H y d ∧ d.key = true ∧ H Da = some (.ext (dctO Da xs o)) ∧ (xs.map (·.1)).all D.key = true ∧
  RpA K H (xs.map fun x => V.ref x.2.1) (xs.map (·.1)) ∧ xs.length < sizeLine ∧ ∀ o' u, RelV z u → Nx (upd H Da (.ext (dctO Da (ePut xs d c u) o')))
abbrev TurnC (K : PySem.W.Frag) (Da : Addr) (g : TG) (tt : TT) (tk tv : TE) (vs : List Nat) (σ : L2.St) (Nx : Hp → Prop) (x : V) (H : Hp) : Prop := g x (L2.wipe σ vs) H fun σ2 H2 => L2.wipe σ2 vs = L2.wipe σ vs ∧ tt σ2 H2 fun b H3 =>
  if b = true then tk σ2 H3 fun y H4 => tv σ2 H4 fun z H5 => StoreC K Da Nx y z H5 else Nx H3
def tDcC (K : PySem.W.Frag) (wi : TI) (g : TG) (tt : TT) (tk tv : TE) (vs : List Nat) : TE := fun σ H Q => wi σ H fun J H1 => ∀ Da o0, H1 Da = none → ∃ W : Nat → Nat → Hp → Prop, (∃ m, W 0 m (upd H1 Da (.ext (dctO Da [] o0)))) ∧ ∀ i m H2, W i m H2 →
  (J.stop i H2 ∧ Q (.ref Da) H2) ∨ (J.go i H2 ∧ ∃ Nx : Hp → Prop, (∀ H3, Nx H3 → ∃ m', m' < m ∧ W (i + 1) m' H3) ∧ ∀ x H3, J.yld i H2 x H3 → TurnC K Da g tt tk tv vs σ Nx x H3)
theorem set_C {pins : List (Addr × Obj)} {σ : L2.St} {H : Hp} {s : Shared} {E : Value → Shared → Prop} {Da : Addr} {Nx : Hp → Prop} {y z : V} {u r : Value} {Q : Unit → Shared → Prop} (hu : X.A.units + 65 < cLine) (I : Inv X pins σ H s) (h : StoreC X.K Da Nx y z H) (ry : RelV y u) (rz : RelV z r)
    (q : ∀ s' H', Inv X pins σ H' s' → Nx H' → Q () s') : wpAny (model X.prog X.w) X.A (dictSet Da u r) Q E s := by
  obtain ⟨c, xs, o, d, rfl, rd, hk, hD, kk, rk, hz, nx⟩ := h
  obtain rfl : u = Value.ref c := ry
  obtain ⟨_, dd, ds⟩ := dict_of I hD kk rk
  refine wpAny_dictSet_heap (knd := nestedKind X.prog X.w) (hsz := by rw [List.length_map]; exact ds.len) (by show X.A.units + 8 < cLine; omega) (key_is I hk rd) dd fun h' dd' sb => ?_
  obtain ⟨o', I2⟩ := put_obj (K := X.K) (A := X.A) (t' := s.toks + (nestedKind X.prog X.w).draws d.ky) I hD kk hk hz dd' sb
  exact q _ _ I2 (nx o' r rz)
theorem dcC_core {pins : List (Addr × Obj)} {s : Shared} {σ : L2.St} {H : Hp} {Q : VK} {ek ev tg iter : Expr} {ifs : List Expr} {scope : Scope} {own : List (Str × Nat)} {pos pos' : Pos} {wi : TI} {g : TG} {tt : TT} {tk tv : TE} {use : Option (Value → Sem Unit)} {Qf : Value → Shared → Prop}
    (hu : X.A.units + 65 < cLine) (calm : X.calm = true) (nd : X.N.Nodup) (I : Inv X pins σ H s) (pi : PI X tg iter wi) (ok : BlkOk X.N X.env.scope scope own)
    (jg : ∀ (t : Shared) (G : Hp) (C : Addr) (cl : List (Str × Addr)) (fp : List Addr), PG (X.blk t G scope (compEnvC scope cl C X.env) fp) tg g) (jt : ∀ (t : Shared) (G : Hp) (C : Addr) (cl : List (Str × Addr)) (fp : List Addr), PTs (X.blk t G scope (compEnvC scope cl C X.env) fp) ifs tt)
    (jk : ∀ (t : Shared) (G : Hp) (C : Addr) (cl : List (Str × Addr)) (fp : List Addr), PE (X.blk t G scope (compEnvC scope cl C X.env) fp) ek tk) (jv : ∀ (t : Shared) (G : Hp) (C : Addr) (cl : List (Str × Addr)) (fp : List Addr), PE (X.blk t G scope (compEnvC scope cl C X.env) fp) ev tv)
    (fold : ∀ x, foldedSetIterable iter X.env x = pure x) (h : tDcC X.K wi g tt tk tv (own.map (·.2)) σ H Q)
    (after : ∀ Da C s' m H', Inv X pins σ H' s' → Q (.ref Da) H' → s'.heap.Ns C m → FpOk X pins H' C → compPost (model X.prog X.w) X.A X.xe use Qf (.ref Da) C (.ok .next) s') :
    wpAny (model X.prog X.w) X.A (comprehension (.DictComp ek ev [⟨tg, iter, ifs, 0⟩] scope pos) scope X.env pos' newDict false (eval iter X.env) use) Qf X.xe s := by
  have frees : ∀ y ∈ scope.names, y.2 = .free → ∃ c, X.env.cells.lookup y.1 = some c := fun y hy e => (ok.free y hy e).elim (fun k => I.ok.has _ (.inl k)) fun k => I.ok.has _ (.inr k)
  refine wpAny_comprehension_free (use := use) rfl fold (closure_ok frees) ok.kind (fun y hy e => by rw [ok.uniq y hy, e]) (thn (pi.run pins s σ H _ I h) fun xv s1 q1 => thn q1 fun itv s2 q2 => ?_)
  obtain ⟨it, fp, tn, J, H2, rfl, I2, T, st2, f2, q⟩ := q2
  refine wpAny_newObj_type (newEnv_comp ?_)
  generalize eD : s2.heap.objs.size = Da
  have nD : H2 Da = none := I2.hok.fresh (Nat.le_of_eq eD)
  obtain ⟨W, ⟨m0, w0⟩, turn⟩ := q Da { cls := .type "dict", data := .dict #[] } nD
  generalize e3 : ({ s2 with heap := s2.heap.push { cls := .type "dict", data := .dict #[] } } : Shared) = s3
  have k3 : s3.heap = s2.heap.push { cls := .type "dict", data := .dict #[] } := by rw [← e3]
  have I3 : Inv X pins σ (upd H2 Da (.ext (dctO Da [] { cls := .type "dict", data := .dict #[] }))) s3 := by
    rw [← e3]
    refine I2.laid (t' := s2.toks) (fun c ob z => Heap.get?_push_of_some _ z) (Nat.le_of_eq eD) ?_
    rw [← eD]
    exact empty_obj s2.heap I2.big
  have old : ∀ c ∈ fp, c < s2.heap.objs.size := fun c hc => (T.obj _ _ st2 c hc).elim fun ob z => Heap.lt_size z.1
  generalize eH3 : upd H2 Da (.ext (dctO Da [] { cls := .type "dict", data := .dict #[] })) = H3 at I3 w0
  have f3 : ∀ c ∈ fp, FpOk X pins H3 c ∧ c < s3.heap.objs.size := fun c hc => by
    have lt := old c hc
    refine ⟨⟨?_, (f2 c hc).2⟩, by rw [k3, Heap.size_push]; exact Nat.lt_succ_of_lt lt⟩
    rw [← eH3, upd_ne (by rw [← eD]; exact Nat.ne_of_lt lt)]
    exact (f2 c hc).1
  have st3 : tn 0 s3.heap := T.keep _ _ _ st2 fun c _ ob z => by rw [k3]; exact Heap.get?_push_of_some _ z
  have I4 := block_start I3 ok nd f3
  have pg := jg s3 H3 s3.heap.objs.size (cellsFrom (s3.heap.objs.size + 1) scope.names (cloFrom X.env.cells scope.names [])) fp
  have pt := jt s3 H3 s3.heap.objs.size (cellsFrom (s3.heap.objs.size + 1) scope.names (cloFrom X.env.cells scope.names [])) fp
  have pk := jk s3 H3 s3.heap.objs.size (cellsFrom (s3.heap.objs.size + 1) scope.names (cloFrom X.env.cells scope.names [])) fp
  have pv := jv s3 H3 s3.heap.objs.size (cellsFrom (s3.heap.objs.size + 1) scope.names (cloFrom X.env.cells scope.names [])) fp
  show codeAny _ _ (.compStart _ 0 (.ref it) (.ref Da) (compEnvC scope (cellsFrom (s3.heap.objs.size + 1) scope.names (cloFrom X.env.cells scope.names [])) s3.heap.objs.size X.env)) (compPost (model X.prog X.w) X.A X.xe use Qf (.ref Da) s3.heap.objs.size) { s3 with heap := pushCells (s3.heap.push { cls := .type "dict", data := .dict #[] }) scope.names }
  generalize eE : compEnvC scope (cellsFrom (s3.heap.objs.size + 1) scope.names (cloFrom X.env.cells scope.names [])) s3.heap.objs.size X.env = ce at I4 pg pt pk pv ⊢
  have cL : ce.locals = s3.heap.objs.size := by rw [← eE]; rfl
  generalize e4 : ({ s3 with heap := pushCells (s3.heap.push { cls := .type "dict", data := .dict #[] }) scope.names } : Shared) = s4 at I4 ⊢
  have st4 : tn 0 s4.heap := T.keep _ _ _ st3 fun c _ ob z => by rw [← e4]; exact pushCells_keeps _ _ _ _ (Heap.get?_push_of_some _ z)
  have fpk : ∀ {σ' : L2.St} {H' : Hp} {s' : Shared}, Inv (X.blk s3 H3 scope ce fp) [] σ' H' s' → (∀ c ∈ fp, H' c = none) → ∀ c ∈ fp, FpOk (X.blk s3 H3 scope ce fp) [] H' c := fun {σ' H' s'} J' n c hc =>
    ⟨n c hc, (J'.ok.exf c hc).1, J'.ok.exfs c hc, .inl hc, fun x d e => (J'.ok.exf c hc).2 x d e, fun p hp => absurd (show p ∈ ([] : List (Addr × Obj)) ++ [] from hp) (by simp)⟩
  have whole : codeAny (model X.prog X.w) X.A (.compLoop (.DictComp ek ev [⟨tg, iter, ifs, 0⟩] scope pos) 0 (.ref it) (.ref Da) ce) (compPost (model X.prog X.w) X.A X.xe use Qf (.ref Da) s3.heap.objs.size) s4 := by
    refine compLoop_anyD (fun n s' => ∃ i H', Inv (X.blk s3 H3 scope ce fp) [] (L2.wipe σ (own.map (·.2))) H' s' ∧ tn i s'.heap ∧ (∀ c ∈ fp, H' c = none) ∧ W i n H') (fun n s5 ⟨i, H5, I5, st5, n5, w5⟩ => ?_) m0 ⟨0, H3, I4, st4, fun c hc => (f3 c hc).1.1, w0⟩
    rcases turn i n H5 w5 with ⟨stop, qq⟩ | ⟨go, Nx, hNx, step⟩
    · refine thnF (T.done (X.blk s3 H3 scope ce fp) rfl rfl rfl calm i [] s5 _ H5 (fun _ _ => False) I5 (fpk I5 n5) st5 stop) fun r s6 ⟨hr, I6⟩ => ?_
      subst hr
      have I7 : Inv X pins σ H5 s6 := I3.call' (ch := fp) I6.os I6.base I6.hok I6.bare fun c hc => ⟨(f3 c hc).1.2.2.2.1, (f3 c hc).1.2.1, (f3 c hc).1.2.2.2.2.1, (f3 c hc).1.2.2.2.2.2⟩
      have nC : H5 s3.heap.objs.size = none := cL ▸ (show H5 ce.locals = none from I6.free)
      obtain ⟨m, hn, _⟩ := I6.loc
      have hn2 : s6.heap.Ns ce.locals m := hn
      rw [cL] at hn2
      exact after Da s3.heap.objs.size s6 m H5 I7 qq hn2 (I3.fpOk (Nat.le_refl _) nC)
    · refine thnF (T.item (X.blk s3 H3 scope ce fp) rfl rfl rfl calm i [] s5 _ H5 (fun _ _ => False) I5 (fpk I5 n5) st5 go) fun r s6 ⟨u, hr, q6⟩ => ?_
      subst hr
      refine thnF q6 fun _ s7 ⟨x, H7, I7, r7, y7, st7, n7⟩ => ?_
      refine thnF (pg.run _ s7 _ H7 x u _ (I7.pinned (fpk I7 n7) (T.obj _ _ st7)) r7 (step x H7 y7)) fun _ s8 ⟨σ8, H8, I8, hw8, q8⟩ => thnF (pt.run _ s8 σ8 H8 _ I8 q8) fun b s9 ⟨H9, I9, q9⟩ => ?_
      have fin : ∀ {s' : Shared} {H' : Hp}, Inv (X.blk s3 H3 scope ce fp) ([] ++ pinsAt fp s7.heap) σ8 H' s' → Nx H' → ∃ m, m < n ∧ ∃ i H', Inv (X.blk s3 H3 scope ce fp) [] (L2.wipe σ (own.map (·.2))) H' s' ∧ tn i s'.heap ∧ (∀ c ∈ fp, H' c = none) ∧ W i m H' := fun {s' H'} J' nx => by
        obtain ⟨m', lt, w'⟩ := hNx H' nx
        have pin : ∀ c ∈ fp, ∀ ob, s7.heap.get? c = some ob → s'.heap.get? c = some ob ∧ H' c = none := fun c hc ob z => (J'.pin (c, ob) (List.mem_append_right _ (List.mem_append_right _ (mem_pinsAt hc z)))).imp id fun z => z.1
        refine ⟨m', lt, i + 1, H', (J'.unpinned (pins := [])).weak (by rw [← hw8, wipe_length]) (fun j v e => ?_), T.keep _ _ _ st7 fun c hc ob z => (pin c hc ob z).1, fun c hc => (T.obj _ _ st7 c hc).elim fun ob z => (pin c hc ob z.1).2, w'⟩
        rw [← hw8] at e
        exact (wipe_some e).1
      cases b with
      | false =>
        simp only [Bool.false_eq_true, if_false] at q9 ⊢
        exact fin I9 q9
      | true =>
        simp only [if_true] at q9 ⊢
        refine thnF (pk.run _ s9 σ8 H9 _ I9 q9) fun z s10 ⟨yk, H10, I10, r10, q10⟩ => thnF (pv.run _ s10 σ8 H10 _ I10 q10) fun z2 s11 ⟨yv, H11, I11, r11, q11⟩ => ?_
        exact set_C (X := X.blk s3 H3 scope ce fp) hu I11 q11 r10 r11 fun s12 H12 I12 nx => fin I12 nx
  exact codeAny_compStart_dict whole (T.self X.A 0 _ _ _ st4 whole)
theorem pe_dcC {ek ev tg iter : Expr} {ifs : List Expr} {scope : Scope} {own : List (Str × Nat)} {pos : Pos} {wi : TI} {g : TG} {tt : TT} {tk tv : TE} (hu : X.A.units + 65 < cLine) (calm : X.calm = true) (nd : X.N.Nodup) (pi : PI X tg iter wi) (ok : BlkOk X.N X.env.scope scope own)
    (jg : ∀ (t : Shared) (G : Hp) (C : Addr) (cl : List (Str × Addr)) (fp : List Addr), PG (X.blk t G scope (compEnvC scope cl C X.env) fp) tg g) (jt : ∀ (t : Shared) (G : Hp) (C : Addr) (cl : List (Str × Addr)) (fp : List Addr), PTs (X.blk t G scope (compEnvC scope cl C X.env) fp) ifs tt)
    (jk : ∀ (t : Shared) (G : Hp) (C : Addr) (cl : List (Str × Addr)) (fp : List Addr), PE (X.blk t G scope (compEnvC scope cl C X.env) fp) ek tk) (jv : ∀ (t : Shared) (G : Hp) (C : Addr) (cl : List (Str × Addr)) (fp : List Addr), PE (X.blk t G scope (compEnvC scope cl C X.env) fp) ev tv)
    (fold : ∀ x, foldedSetIterable iter X.env x = pure x) : PE X (.DictComp ek ev [⟨tg, iter, ifs, 0⟩] scope pos) (tDcC X.K wi g tt tk tv (own.map (·.2))) := by
  refine ⟨fun pins s σ H Q I h => ?_⟩
  rw [arm_eval_DictComp]
  exact dcC_core hu calm nd I pi ok jg jt jk jv fold h fun Da C s' m H' J q hn ⟨k0, k1, k2, k3, k4, k5⟩ => ⟨m, hn, fun h'' sb => ⟨.ref Da, H', J.turned (t' := s'.toks) (fun c ob hc z => (sb.2 c hc).trans z) k0 k1 k3 k4 k5, rfl, q⟩⟩
end
/-! ### the same, of data -/
/-- f x: what a turn of the datum x puts (key and value), or nothing -/
def dcL (f : D → (Option (D × D) → Prop) → Prop) : List D → List (D × D) → (List (D × D) → Prop) → Prop
  | [], acc, k => k acc
  | x :: xs, acc, k => f x fun o => match o with
    | some p => p.1.key = true ∧ dcL f xs (dPut acc p.1 p.2) k
    | none => dcL f xs acc k
structure DcQ (X : Cx) (scope : Scope) (vs : List Nat) (tg ek ev : Expr) (ifs : List Expr) (ρ : List Sl) (ds : List D) (I : Nat → List (D × D) → Prop) (Φ : D → Prop) : Prop where
  len : ds.length ≤ 100000
  start : I 0 []
  turn : ∀ i d acc, ds[i]? = some d → I i acc → ∃ ρ', QGb X scope vs tg d (wipeS ρ vs) ρ' ∧ ∃ Θ : Bool → Prop, (match ifs with
      | [] => Θ true
      | c :: _ => ∀ s H C cl fp, QT (BlkX X scope s H C cl fp) (fun _ => False) c ρ' Θ) ∧
    (Θ true → ∀ s H C cl fp, QX (BlkX X scope s H C cl fp) (fun _ => False) ek ρ' fun y => ∀ s H C cl fp, QX (BlkX X scope s H C cl fp) (fun _ => False) ev ρ' fun z => y.key = true ∧ I (i + 1) (dPut acc y z)) ∧ (Θ false → I (i + 1) acc)
  fin : ∀ acc, I ds.length acc → Φ (dctD acc)
section
variable {X : Cx} {Ψ : Str → Prop} {ρ : List Sl} {R : Po} {Φ : D → Prop} {e : Expr} {pos p : Pos} {rest : List Stmt}
theorem dPut_length {kvs : List (D × D)} {k v : D} : (dPut kvs k v).length ≤ kvs.length + 1 := by
  unfold dPut
  split <;> simp
theorem dc_go {scope : Scope} {vs : List Nat} {tg ek ev : Expr} {ifs : List Expr} {ds : List D} {I : Nat → List (D × D) → Prop} {B Hi1 H1 : Hp} {σ : L2.St} {Q : VK} {J : It} (L : DcQ X scope vs tg ek ev ifs ρ ds I Φ) (S : StOk X.K B Hi1 H1 σ ρ) (wk : Walks X.K J Hi1 ds)
    (q : ∀ v d Hi' H', Φ d → Gr Hi1 H1 Hi' H' → Rp X.K Hi' v d → Q v H') : ∀ Da o0, H1 Da = none → ∃ W : Nat → Nat → Hp → Prop, (∃ m, W 0 m (upd H1 Da (.ext (dctO Da [] o0)))) ∧ ∀ i m H2, W i m H2 →
      (J.stop i H2 ∧ Q (.ref Da) H2) ∨ (J.go i H2 ∧ ∃ Nx : Hp → Prop, (∀ H3, Nx H3 → ∃ m', m' < m ∧ W (i + 1) m' H3) ∧ ∀ x H3, J.yld i H2 x H3 → TurnC X.K Da (bG X scope tg) (ttOf X scope ifs) (bE X scope ek) (bE X scope ev) vs σ Nx x H3) := by
  intro Da o0 hD
  refine ⟨fun i m H => m = ds.length - i ∧ i ≤ ds.length ∧ ∃ Hi2 xs us o acc, I i acc ∧ acc.length ≤ i ∧ Gr Hi1 H1 Hi2 H ∧ Hi2 Da = none ∧ H Da = some (.ext (dctO Da xs o)) ∧ DOk X.K Hi2 xs us acc,
    ⟨ds.length, by simp, Nat.zero_le _, Hi1, [], [], o0, [], L.start, Nat.le_refl _, Gr.out S.sub (Ex.new hD), S.sub.free hD, upd_same, ⟨rfl, rfl, .nil, .nil, .nil⟩⟩, ?_⟩
  rintro i m H ⟨rfl, hi, Hi2, xs, us, o, acc, hI, hle, g2, n2, x2, dk⟩
  have hlen := L.len
  by_cases hlt : i < ds.length
  · refine .inr ⟨wk.go i H (g2.i.trans g2.sub) hlt, _, fun H' p => ⟨ds.length - (i + 1), by omega, rfl, hlt, p⟩, fun x H' y => ?_⟩
    obtain ⟨d, Hi3, hd, g3, r3⟩ := wk.yld i H x H' Hi2 g2.i g2.sub y hlt
    obtain ⟨ρ', hg, Θ, ht, hy, hn⟩ := L.turn i d acc hd hI
    have g23 := g2.trans g3
    have keepD : ∀ {Hj Hk : Hp}, Gr Hi2 H Hj Hk → Hj Da = none := fun {Hj Hk} g => by
      cases z : Hj Da with
      | none => rfl
      | some u => rw [g.new Da n2 ⟨u, z⟩] at x2; cases x2
    refine hg B Hi3 H' _ x ((S.wipe vs).grow g23) r3 _ fun σ2 S2 hw => ⟨by rw [hw, wipe_wipe], ?_⟩
    have put_go : ∀ {Hj Hk : Hp}, Gr Hi2 H Hj Hk → StOk X.K B Hj Hk σ2 ρ' → Θ true → bE X scope ek σ2 Hk fun y H4 => bE X scope ev σ2 H4 fun z H5 => StoreC X.K Da (fun H6 => ∃ Hi2 xs us o acc, I (i + 1) acc ∧ acc.length ≤ i + 1 ∧ Gr Hi1 H1 Hi2 H6 ∧ Hi2 Da = none ∧ H6 Da = some (.ext (dctO Da xs o)) ∧ DOk X.K Hi2 xs us acc) y z H5 := fun {Hj Hk} gj Sj hΘ s H0 C cl fp => by
      refine hy hΘ s H0 C cl fp B Hj Hk σ2 (fun _ _ _ _ => False) takes0 Sj (fun _ _ _ z => z.elim) _ fun y dy Hi4 H4 hz4 g4 r4 => fun s H0 C cl fp => ?_
      refine hz4 s H0 C cl fp B Hi4 H4 σ2 (fun _ _ _ _ => False) takes0 (Sj.grow g4) (fun _ _ _ z => z.elim) _ fun z dz Hi5 H5 ⟨hk, hz⟩ g5 r5 => ?_
      obtain ⟨c, rfl⟩ := key_ref hk r4
      have g25 := (gj.trans g4).trans g5
      have hD5 := keepD g25
      have r4' := r4.up g5.i
      have rk : RpA X.K Hi5 (xs.map fun x => V.ref x.2.1) (xs.map (·.1)) := dk.ks ▸ dk.rk.up g25.i
      have hl : xs.length = acc.length := by have := congrArg List.length dk.ks; simpa using this.symm
      refine ⟨c, xs, o, dy, rfl, r4'.up g5.sub, hk, g25.o _ _ x2, dk.ks ▸ dk.key, rk.up g5.sub, Nat.lt_of_le_of_lt (show xs.length ≤ 100000 by omega) (by decide), fun o' u ru => ?_⟩
      obtain ⟨us', dk'⟩ := (show DOk X.K Hi5 xs us acc from ⟨dk.ks, dk.key, dk.rk.up g25.i, dk.vl, dk.rv.up g25.i⟩).put hk r4' r5 ru
      refine ⟨Hi5, _, us', o', dPut acc dy dz, hz, Nat.le_trans dPut_length (by omega), ⟨g2.i.trans g25.i, fun c u z => ?_, fun c u z => ?_, fun c z1 z2 => (g2.trans g25).new c z1 z2⟩, hD5, upd_same, dk'⟩
      · rw [upd_ne (ne_of_none z hD)]; exact (g2.trans g25).o c u z
      · rw [upd_ne (ne_of_none z hD5)]; exact g5.sub c u z
    have no_go : ∀ {Hj Hk : Hp}, Gr Hi2 H Hj Hk → Θ false → ∃ Hi2 xs us o acc, I (i + 1) acc ∧ acc.length ≤ i + 1 ∧ Gr Hi1 H1 Hi2 Hk ∧ Hi2 Da = none ∧ Hk Da = some (.ext (dctO Da xs o)) ∧ DOk X.K Hi2 xs us acc := fun {Hj Hk} gj hΘ =>
      ⟨Hj, xs, us, o, acc, hn hΘ, by omega, g2.trans gj, keepD gj, gj.o _ _ x2, ⟨dk.ks, dk.key, dk.rk.up gj.i, dk.vl, dk.rv.up gj.i⟩⟩
    cases ifs with
    | nil => exact put_go g3 S2 ht
    | cons c r =>
      intro s H0 C cl fp
      refine ht s H0 C cl fp B Hi3 H' σ2 (fun _ _ _ _ => False) takes0 S2 (fun _ _ _ z => z.elim) _ fun b Hi4 H4 hb g4 => ?_
      cases b with
      | true => exact put_go (g3.trans g4) (S2.grow g4) hb
      | false => exact no_go (g3.trans g4) hb
  · have e : i = ds.length := by omega
    subst e
    have hx2 : (upd Hi2 Da (.ext (dctO Da xs o))) Da = some (.ext (dctO Da xs o)) := upd_same
    refine .inl ⟨wk.stop H (g2.i.trans g2.sub), q _ (dctD acc) (upd Hi2 Da (.ext (dctO Da xs o))) H (L.fin acc hI) ⟨g2.i.trans (Ex.new n2), g2.o, fun c u z => ?_, fun c z1 z2 => ?_⟩ (.dct hx2 dk.ks dk.key (dk.rk.up (Ex.new n2)) dk.vl (dk.rv.up (Ex.new n2)))⟩
    · by_cases h : c = Da
      · subst h; rw [upd_same] at z; cases z; exact x2
      · rw [upd_ne h] at z; exact g2.sub c u z
    · by_cases h : c = Da
      · subst h; exact hD
      · obtain ⟨u, z⟩ := z2
        rw [upd_ne h] at z
        exact g2.new c z1 ⟨u, z⟩
end
end G
namespace G
open PySem PySem.Spec L2
/-! ### S: what a piece of the program asks, with no program in sight. M: what is wanted of the value, of what is raised -/
abbrev M := (D → Prop) → (Str → Prop) → Prop
abbrev MB := (Bool → Prop) → (Str → Prop) → Prop
abbrev MA := (List D → Prop) → (Str → Prop) → Prop
def ret (d : D) : M := fun Φ _ => Φ d
def bin (op : D → D → (D → Prop) → Prop) (a b : M) : M := fun Φ Ψ => a (fun x => b (fun y => op x y Φ) Ψ) Ψ
def una (op : D → (D → Prop) → Prop) (a : M) : M := fun Φ Ψ => a (fun x => op x Φ) Ψ
def cmpV (op : D → D → (Bool → Prop) → Prop) (a b : M) : M := fun Φ Ψ => a (fun x => b (fun y => op x y (fun k => Φ (.bl k))) Ψ) Ψ
def cmpT (op : D → D → (Bool → Prop) → Prop) (a b : M) : MB := fun Θ Ψ => a (fun x => b (fun y => op x y Θ) Ψ) Ψ
def bv (x : D) (Θ : Bool → Prop) : Prop := match x with
  | .bl k => Θ k
  | _ => False
def tv (a : M) : MB := fun Θ Ψ => a (fun x => bv x Θ) Ψ
def notT (a : MB) : MB := fun Θ Ψ => a (fun k => Θ (!k)) Ψ
def andT (a b : MB) : MB := fun Θ Ψ => a (fun k => if k = true then b Θ Ψ else Θ false) Ψ
def orT (a b : MB) : MB := fun Θ Ψ => a (fun k => if k = true then Θ true else b Θ Ψ) Ψ
def notV (a : M) : M := fun Φ Ψ => a (fun x => bv x fun k => Φ (.bl (!k))) Ψ
def andV (a b : M) : M := fun Φ Ψ => a (fun x => bv x fun k => if k = true then b Φ Ψ else Φ (.bl false)) Ψ
def orV (a b : M) : M := fun Φ Ψ => a (fun x => bv x fun k => if k = true then Φ (.bl true) else b Φ Ψ) Ψ
def ifE (c : MB) (a b : M) : M := fun Φ Ψ => c (fun k => if k = true then a Φ Ψ else b Φ Ψ) Ψ
def nilA : MA := fun K _ => K []
def consA (a : M) (r : MA) : MA := fun K Ψ => a (fun x => r (fun xs => K (x :: xs)) Ψ) Ψ
def tupE (a : MA) : M := fun Φ Ψ => a (fun ds => Φ (.tup ds)) Ψ
def lstE (a : MA) : M := fun Φ Ψ => a (fun ds => Φ (.lst ds)) Ψ
def c1 (f : D → M) (a : M) : M := fun Φ Ψ => a (fun x => f x Φ Ψ) Ψ
def c2 (f : D → D → M) (a b : M) : M := fun Φ Ψ => a (fun x => b (fun y => f x y Φ Ψ) Ψ) Ψ
def c3 (f : D → D → D → M) (a b c : M) : M := fun Φ Ψ => a (fun x => b (fun y => c (fun z => f x y z Φ Ψ) Ψ) Ψ) Ψ
def c4 (f : D → D → D → D → M) (a b c d : M) : M := fun Φ Ψ => a (fun x => b (fun y => c (fun z => d (fun u => f x y z u Φ Ψ) Ψ) Ψ) Ψ) Ψ
def un2 (p : D) (k : D → D → Prop) : Prop := match p with
  | .tup [a, b] => k a b
  | .lst [a, b] => k a b
  | _ => False
def un3 (p : D) (k : D → D → D → Prop) : Prop := match p with
  | .tup [a, b, c] => k a b c
  | .lst [a, b, c] => k a b c
  | _ => False
def seqD (d : D) (k : List D → Prop) : Prop := match d with
  | .lst ds => k ds
  | .tup ds => k ds
  | _ => False
def lcL (f : D → (Option D → Prop) → Prop) : List D → List D → (List D → Prop) → Prop
  | [], acc, k => k acc
  | x :: xs, acc, k => f x fun o => match o with
    | some y => lcL f xs (acc ++ [y]) k
    | none => lcL f xs acc k
def lcE (it : MA) (f : D → (Option D → Prop) → Prop) : M := fun Φ Ψ => it (fun ds => ds.length ≤ 100000 ∧ lcL f ds [] fun ys => Φ (.lst ys)) Ψ
abbrev bot : Str → Prop := fun _ => False
def forL {S : Type} (f : D → S → (S → Prop) → (S → Prop) → Prop) (k : S → Prop) : List D → S → Prop
  | [], s => k s
  | x :: xs, s => f x s (fun s' => forL f k xs s') k
def whileM {S : Type} (s0 : S) (f : S → (S → Prop) → (S → Prop) → Prop) (k : S → Prop) : Prop := ∃ I : Nat → S → Prop, (∃ m, I m s0) ∧ ∀ m s, I m s → f s (fun s' => ∃ m', m' < m ∧ I m' s') k
def join {κ : Type} (rest : κ) (body : κ → Prop) : Prop := body rest
/-! ### the operators -/
def addD (x y : D) (Φ : D → Prop) : Prop := match x, y with
  | .int i, .int j => Φ (.int (i + j))
  | .lst a, .lst b => a.length + b.length ≤ 100000 ∧ Φ (.lst (a ++ b))
  | .tup a, .tup b => a.length + b.length ≤ 100000 ∧ Φ (.tup (a ++ b))
  | .str a, .str b => a.length + b.length ≤ 100000 ∧ Φ (.str (a ++ b))
  | _, _ => False
def subD (x y : D) (Φ : D → Prop) : Prop := match x, y with
  | .int i, .int j => Φ (.int (i - j))
  | _, _ => False
def mulD (x y : D) (Φ : D → Prop) : Prop := match x, y with
  | .int i, .int j => CMulW i j ∧ Φ (.int (i * j))
  | .lst a, .int k => (0 ≤ k ∧ k ≤ 1000 ∧ a.length * k.toNat ≤ 100000) ∧ Φ (.lst (List.replicate k.toNat a).flatten)
  | _, _ => False
def fdivD (x y : D) (Φ : D → Prop) : Prop := match x, y with
  | .int i, .int j => CDivZ i j ∧ Φ (.int (i.fdiv j))
  | _, _ => False
def modD (x y : D) (Φ : D → Prop) : Prop := match x, y with
  | .int i, .int j => 0 < j ∧ Φ (.int (i % j))
  | _, _ => False
def negD (x : D) (Φ : D → Prop) : Prop := match x with
  | .int i => Φ (.int (-i))
  | _ => False
def ixD (x y : D) (Φ : D → Prop) : Prop := match x, y with
  | .lst ds, .int i => (match atI ds i with
    | some d => Φ d
    | none => False)
  | .tup ds, .int i => (match atI ds i with
    | some d => Φ d
    | none => False)
  | .dct ks vs, y => y.key = true ∧ ∃ e, dGet ks vs y = some e ∧ Φ e
  | _, _ => False
def eqB (x y : D) (Θ : Bool → Prop) : Prop := (D.shp 40 x = true ∧ D.shp 40 y = true) ∧ Θ (deq x y)
def neB (x y : D) (Θ : Bool → Prop) : Prop := (D.shp 40 x = true ∧ D.shp 40 y = true) ∧ Θ (!deq x y)
def ltB (x y : D) (Θ : Bool → Prop) : Prop := match x, y with
  | .int i, .int j => Θ (decide (i < j))
  | _, _ => False
def leB (x y : D) (Θ : Bool → Prop) : Prop := match x, y with
  | .int i, .int j => Θ (decide (i ≤ j))
  | _, _ => False
def gtB (x y : D) (Θ : Bool → Prop) : Prop := match x, y with
  | .int i, .int j => Θ (decide (j < i))
  | _, _ => False
def geB (x y : D) (Θ : Bool → Prop) : Prop := match x, y with
  | .int i, .int j => Θ (decide (j ≤ i))
  | _, _ => False
def ninB (x y : D) (Θ : Bool → Prop) : Prop := match y with
  | .lst ds => (D.shp 40 x = true ∧ D.shpA 40 ds = true) ∧ Θ (!memD x ds)
  | .tup ds => (match x with
    | .int i => ∃ ns : List Int, ds = ns.map D.int ∧ Θ (!decide (i ∈ ns))
    | _ => (D.shp 40 x = true ∧ D.shpA 40 ds = true) ∧ Θ (!memD x ds))
  | .dct ks _ => x.key = true ∧ Θ (!decide (x ∈ ks))
  | _ => False
def isNB (x _y : D) (Θ : Bool → Prop) : Prop := Θ x.isN
def notNB (x _y : D) (Θ : Bool → Prop) : Prop := Θ (!x.isN)
def isVB (x y : D) (Θ : Bool → Prop) : Prop := match y with
  | .bl k => Θ (x.isV k)
  | _ => False
def isntVB (x y : D) (Θ : Bool → Prop) : Prop := match y with
  | .bl k => Θ (!x.isV k)
  | _ => False
/-! ### the judgements -/
structure SX (X : Cx) (e : Expr) (ρ : List Sl) (m : M) : Prop where
  run : ∀ {Φ Ψ}, m Φ Ψ → QX X Ψ e ρ Φ
structure ST (X : Cx) (e : Expr) (ρ : List Sl) (m : MB) : Prop where
  run : ∀ {Θ Ψ}, m Θ Ψ → QT X Ψ e ρ Θ
structure SW (X : Cx) (e : Expr) (ρ : List Sl) (m : MB) : Prop where
  run : ∀ {Θ Ψ}, m Θ Ψ → QW X Ψ e ρ Θ
structure SA (X : Cx) (es : List Expr) (ρ : List Sl) (m : MA) : Prop where
  run : ∀ {K Ψ}, m K Ψ → QA X Ψ es ρ fun ds => ds.length = es.length ∧ K ds
structure SI (X : Cx) (tg iter : Expr) (ρ : List Sl) (m : MA) : Prop where
  run : ∀ {K Ψ}, m K Ψ → QI X Ψ tg iter ρ K
section
variable {X : Cx} {ρ : List Sl} {a b c e : Expr} {es : List Expr} {pos p p2 : Pos} {ma mb mc m : M} {ta tb tc : MB}
/-! ### names, constants -/
theorem sx_v (i : Nat) {x : Str} {d : D} (h : ρ[i]? = some (.dat d) := by rfl) (hN : X.N[i]? = some x := by rfl) (hv : Vis X.env.scope x := by first | exact Or.inl rfl | exact Or.inr (Or.inl rfl) | exact Or.inr (Or.inr rfl)) (hd : (x == ("__debug__" : Str)) = false := by decide)
    (hcd : (x == ("__classdict__" : Str)) = false := by decide) : SX X (.Name x pos) ρ (ret d) := ⟨fun h' => qx_var i h h' hN hv hd hcd⟩
theorem sx_i {i : Int} {j : Nat} : SX X (.Constant (.int i) j pos) ρ (ret (.int i)) := ⟨fun h => qx_int h⟩
theorem sx_b {i : Bool} {j : Nat} : SX X (.Constant (.bool i) j pos) ρ (ret (.bl i)) := ⟨fun h => qx_bl h⟩
theorem sx_n {j : Nat} : SX X (.Constant .none j pos) ρ (ret .non) := ⟨fun h => qx_non h⟩
theorem sx_s {i : Str} {j : Nat} : SX X (.Constant (.str i) j pos) ρ (ret (.str i)) := ⟨fun h => qx_str h⟩
theorem sx_lit {e : Expr} (d : D) (h : litD 60 e = some d := by kernel_rfl) : SX X e ρ (ret d) := ⟨fun k => (qe_litN 60 e d h).to k⟩
/-! ### operators -/
theorem OpR.or {f : Value → Value → Sem Value} {r1 r2 : R2} (h1 : OpR X f r1) (h2 : OpR X f r2) : OpR X f (fun x y H Q => r1 x y H Q ∨ r2 x y H Q) := fun pins s σ H x y v u Q I a b h => h.elim (h1 pins s σ H x y v u Q I a b) (h2 pins s σ H x y v u Q I a b)
theorem OpD.or {r1 r2 : R2} {R1 R2' : D → D → (D → Prop) → Prop} (h1 : OpD X r1 R1) (h2 : OpD X r2 R2') : OpD X (fun x y H Q => r1 x y H Q ∨ r2 x y H Q) (fun x y Φ => R1 x y Φ ∨ R2' x y Φ) := fun Hi H x y v u Φ s h a b Q q =>
  h.elim (fun h => .inl (h1 Hi H x y v u Φ s h a b Q q)) (fun h => .inr (h2 Hi H x y v u Φ s h a b Q q))
theorem sx_bin {op : Operator} {opd : D → D → (D → Prop) → Prop} {r : R2} {R : D → D → (D → Prop) → Prop} (ho : OpR X (binaryOp op) r) (hd : OpD X r R) (hr : ∀ x y Φ, opd x y Φ → R x y Φ) (ha : SX X a ρ ma) (hb : SX X b ρ mb) : SX X (.BinOp a op b pos) ρ (bin opd ma mb) :=
  ⟨fun h => qx_op ho hd ((ha.run h).mono fun x h => (hb.run h).mono fun y h => hr x y _ h)⟩
theorem od_addS : OpD X (fun x y H Q => ∃ i j, x = .str i ∧ y = .str j ∧ i.length + j.length ≤ sizeLine ∧ Q (.str (i ++ j)) H) (fun x y Φ => ∃ i j, x = .str i ∧ y = .str j ∧ i.length + j.length ≤ sizeLine ∧ Φ (.str (i ++ j))) := fun Hi H x y v u Φ s h r1 r2 Q q => by
  obtain ⟨i, j, e1, e2, hz, k⟩ := h
  subst e1 e2
  cases r1; cases r2
  exact ⟨i, j, rfl, rfl, hz, q _ _ Hi H k (Gr.refl s) (.str _)⟩
theorem sx_add (ha : SX X a ρ ma) (hb : SX X b ρ mb) : SX X (.BinOp a .Add b pos) ρ (bin addD ma mb) :=
  sx_bin ((op_add.or op_cat).or (op_catA.or op_add_str)) ((od_I0 fun _ _ _ => .int _).or od_cat |>.or (od_catT.or od_addS)) (fun x y Φ h => by
    cases x <;> cases y <;> first
      | exact .inl (.inl ⟨_, _, rfl, rfl, h⟩)
      | exact .inl (.inr ⟨_, _, rfl, rfl, small h.1, h.2⟩)
      | exact .inr (.inl ⟨_, _, rfl, rfl, small h.1, h.2⟩)
      | exact .inr (.inr ⟨_, _, rfl, rfl, small h.1, h.2⟩)
      | exact False.elim h) ha hb
theorem sx_sub (ha : SX X a ρ ma) (hb : SX X b ρ mb) : SX X (.BinOp a .Sub b pos) ρ (bin subD ma mb) :=
  sx_bin op_sub (od_I0 fun _ _ _ => .int _) (fun x y Φ h => by cases x <;> cases y <;> first | exact ⟨_, _, rfl, rfl, h⟩ | exact False.elim h) ha hb
theorem sx_mul (ha : SX X a ρ ma) (hb : SX X b ρ mb) : SX X (.BinOp a .Mult b pos) ρ (bin mulD ma mb) :=
  sx_bin (op_mulW.or op_rep) ((od_I fun _ _ _ => .int _).or od_rep) (fun x y Φ h => by
    cases x <;> cases y <;> first
      | exact .inl ⟨_, _, rfl, rfl, h.1, h.2⟩
      | exact .inr ⟨_, _, rfl, rfl, h.1.1, h.1.2.1, small h.1.2.2, h.2⟩
      | exact False.elim h) ha hb
theorem sx_fdiv (ha : SX X a ρ ma) (hb : SX X b ρ mb) : SX X (.BinOp a .FloorDiv b pos) ρ (bin fdivD ma mb) :=
  sx_bin op_fdivZ (od_I fun _ _ _ => .int _) (fun x y Φ h => by cases x <;> cases y <;> first | exact ⟨_, _, rfl, rfl, h.1, h.2⟩ | exact False.elim h) ha hb
theorem sx_mod (ha : SX X a ρ ma) (hb : SX X b ρ mb) : SX X (.BinOp a .Mod b pos) ρ (bin modD ma mb) :=
  sx_bin op_mod (od_I fun _ _ _ => .int _) (fun x y Φ h => by cases x <;> cases y <;> first | exact ⟨_, _, rfl, rfl, h.1, h.2⟩ | exact False.elim h) ha hb
theorem sx_neg (ha : SX X a ρ ma) : SX X (.UnaryOp .USub a pos) ρ (una negD ma) := ⟨fun h => qx_neg ((ha.run h).mono fun x h => by cases x <;> first | exact ⟨_, rfl, h⟩ | exact False.elim h)⟩
theorem IxR.or {r1 r2 : R2} (h1 : IxR X r1) (h2 : IxR X r2) : IxR X (fun x y H Q => r1 x y H Q ∨ r2 x y H Q) := fun e1 e2 pins s σ H x y v u Q I a b h z => h.elim (fun h => h1 e1 e2 pins s σ H x y v u Q I a b h z) (fun h => h2 e1 e2 pins s σ H x y v u Q I a b h z)
theorem r_ixL {y : D} {ds : List D} {Φ : D → Prop} (h : ixD (.lst ds) y Φ) : ∃ i d, y = .int i ∧ atI ds i = some d ∧ Φ d := by
  cases y with
  | int i =>
    unfold ixD at h
    dsimp only at h
    split at h
    · exact ⟨_, _, rfl, by assumption, h⟩
    · exact h.elim
  | _ => exact False.elim h
theorem r_ixT {y : D} {ds : List D} {Φ : D → Prop} (h : ixD (.tup ds) y Φ) : ∃ i d, y = .int i ∧ atI ds i = some d ∧ Φ d := by
  cases y with
  | int i =>
    unfold ixD at h
    dsimp only at h
    split at h
    · exact ⟨_, _, rfl, by assumption, h⟩
    · exact h.elim
  | _ => exact False.elim h
theorem r_ixC {y : D} {ks vs : List D} {Φ : D → Prop} (h : ixD (.dct ks vs) y Φ) : y.key = true ∧ ∃ e, dGet ks vs y = some e ∧ Φ e := by
  cases y <;> exact h
theorem sx_ix (hu : X.A.units + 65 < cLine) (ha : SX X a ρ ma) (hb : SX X b ρ mb) (hp : PlainIx b := by exact fun _ _ => rfl) : SX X (.Subscript a b pos) ρ (bin ixD ma mb) :=
  ⟨fun h => qx_ix ((ix_tup.or ix_list).or (ix_C hu)) ((od_ixT.or od_ixL).or od_ixC) hp ((ha.run h).mono fun x h => (hb.run h).mono fun y h => by
    cases x with
    | lst ds => obtain ⟨i, d, rfl, e, k⟩ := r_ixL h; exact .inl (.inr ⟨_, _, _, rfl, rfl, e, k⟩)
    | tup ds => obtain ⟨i, d, rfl, e, k⟩ := r_ixT h; exact .inl (.inl ⟨_, _, _, rfl, rfl, e, k⟩)
    | dct ks vs => obtain ⟨hk, e, h1, h2⟩ := r_ixC h; exact .inr ⟨_, _, _, rfl, hk, h1, h2⟩
    | _ => cases y <;> exact False.elim h)⟩
/-! comparisons -/
theorem sx_cmp {op : CmpOp} {opd : D → D → (Bool → Prop) → Prop} {r : R2} {R : D → D → (D → Prop) → Prop} (ho : OpR X (compareOp op) r) (hd : OpD X r R) (hr : ∀ x y Θ, opd x y Θ → R x y fun d => ∃ k, d = .bl k ∧ Θ k) (hm : behindInMarks op b = false) (ha : SX X a ρ ma) (hb : SX X b ρ mb) :
    SX X (.Compare a [op] [b] pos) ρ (cmpV opd ma mb) :=
  ⟨fun {Φ Ψ} h => QX.mono (qx_cmp ho hd hm ((ha.run h).mono fun x h => (hb.run h).mono fun y h => hr x y (fun k => Φ (.bl k)) h)) fun d ⟨k, e, z⟩ => by subst e; exact z⟩
theorem st_cmp {op : CmpOp} {opd : D → D → (Bool → Prop) → Prop} {r : R2} {R : D → D → (D → Prop) → Prop} (ho : OpR X (compareOp op) r) (hd : OpD X r R) (hr : ∀ x y Θ, opd x y Θ → R x y fun d => ∃ k, d = .bl k ∧ Θ k) (hm : behindInMarks op b = false) (ha : SX X a ρ ma) (hb : SX X b ρ mb) :
    ST X (.Compare a [op] [b] pos) ρ (cmpT opd ma mb) :=
  ⟨fun {Φ Ψ} h => qt_cmp ho hd hm ((ha.run h).mono fun x h => (hb.run h).mono fun y h => hr x y _ h)⟩
theorem r_lt {x y : D} {Θ : Bool → Prop} (h : ltB x y Θ) : ∃ i j, x = .int i ∧ y = .int j ∧ ∃ k, D.bl (decide (i < j)) = .bl k ∧ Θ k := by cases x <;> cases y <;> first | exact ⟨_, _, rfl, rfl, _, rfl, h⟩ | exact False.elim h
theorem r_le {x y : D} {Θ : Bool → Prop} (h : leB x y Θ) : ∃ i j, x = .int i ∧ y = .int j ∧ ∃ k, D.bl (decide (i ≤ j)) = .bl k ∧ Θ k := by cases x <;> cases y <;> first | exact ⟨_, _, rfl, rfl, _, rfl, h⟩ | exact False.elim h
theorem r_gt {x y : D} {Θ : Bool → Prop} (h : gtB x y Θ) : ∃ i j, x = .int i ∧ y = .int j ∧ ∃ k, D.bl (decide (j < i)) = .bl k ∧ Θ k := by cases x <;> cases y <;> first | exact ⟨_, _, rfl, rfl, _, rfl, h⟩ | exact False.elim h
theorem r_eq {x y : D} {Θ : Bool → Prop} (h : eqB x y Θ) : D.shp 40 x = true ∧ D.shp 40 y = true ∧ ∃ k, D.bl (deq x y) = .bl k ∧ Θ k := ⟨h.1.1, h.1.2, _, rfl, h.2⟩
theorem r_ne {x y : D} {Θ : Bool → Prop} (h : neB x y Θ) : D.shp 40 x = true ∧ D.shp 40 y = true ∧ ∃ k, D.bl (!deq x y) = .bl k ∧ Θ k := ⟨h.1.1, h.1.2, _, rfl, h.2⟩
theorem sx_lt (ha : SX X a ρ ma) (hb : SX X b ρ mb) : SX X (.Compare a [.Lt] [b] pos) ρ (cmpV ltB ma mb) := sx_cmp op_lt (od_I0 fun _ _ _ => .bl _) (fun _ _ _ => r_lt) (nomark _) ha hb
theorem st_lt (ha : SX X a ρ ma) (hb : SX X b ρ mb) : ST X (.Compare a [.Lt] [b] pos) ρ (cmpT ltB ma mb) := st_cmp op_lt (od_I0 fun _ _ _ => .bl _) (fun _ _ _ => r_lt) (nomark _) ha hb
theorem sx_gt (ha : SX X a ρ ma) (hb : SX X b ρ mb) : SX X (.Compare a [.Gt] [b] pos) ρ (cmpV gtB ma mb) := sx_cmp op_gt (od_I0 fun _ _ _ => .bl _) (fun _ _ _ => r_gt) (nomark _) ha hb
theorem st_gt (ha : SX X a ρ ma) (hb : SX X b ρ mb) : ST X (.Compare a [.Gt] [b] pos) ρ (cmpT gtB ma mb) := st_cmp op_gt (od_I0 fun _ _ _ => .bl _) (fun _ _ _ => r_gt) (nomark _) ha hb
theorem sx_eq (hu : X.A.units + 64 < cLine) (ha : SX X a ρ ma) (hb : SX X b ρ mb) : SX X (.Compare a [.Eq] [b] pos) ρ (cmpV eqB ma mb) := sx_cmp (op_eqD hu) (od_eqD (n := 40) (by decide)) (fun _ _ _ => r_eq) (nomark _) ha hb
theorem st_eq (hu : X.A.units + 64 < cLine) (ha : SX X a ρ ma) (hb : SX X b ρ mb) : ST X (.Compare a [.Eq] [b] pos) ρ (cmpT eqB ma mb) := st_cmp (op_eqD hu) (od_eqD (n := 40) (by decide)) (fun _ _ _ => r_eq) (nomark _) ha hb
theorem st_ne (hu : X.A.units + 64 < cLine) (ha : SX X a ρ ma) (hb : SX X b ρ mb) : ST X (.Compare a [.NotEq] [b] pos) ρ (cmpT neB ma mb) := st_cmp (op_neD hu) (od_neD (n := 40) (by decide)) (fun _ _ _ => r_ne) (nomark _) ha hb
def rNotInDT (K : PySem.W.Frag) : R2 := fun x y H Q => ∃ d ds, Dp K H x d ∧ Dp K H y (.tuple ds) ∧ PySem.SeqAt.shaped d = true ∧ PySem.SeqAt.shaped (.tuple ds) = true ∧ Q (.bl (!ds.any fun z => PyData.eqv z d)) H
theorem op_ninDT (hu : X.A.units + 65 < cLine) : OpR X (compareOp .NotIn) (rNotInDT X.K) := by
  intro pins s σ H x y v u Q I rx ry h
  obtain ⟨d, ds, hd, he, sd, se, q⟩ := h
  obtain ⟨as, r1⟩ := Dp.reads I d x v hd rx
  obtain ⟨bs, r2⟩ := Dp.reads I (.tuple ds) y u he ry
  exact PySem.SeqAt.notIn_tuple_reads r2 r1 (PySem.SeqAt.canLay_of_shaped se) (PySem.SeqAt.canLay_of_shaped sd) (PyProof.Rows.room_in_shaped sd hu) ⟨.bl _, H, I, rfl, q⟩
theorem od_ninDT {n : Nat} (hn : n < 64) : OpD X (rNotInDT X.K) (fun x y Φ => ∃ ds, y = .tup ds ∧ D.shp n x = true ∧ D.shpA n ds = true ∧ Φ (.bl (!memD x ds))) := fun Hi H x y v u Φ s h r1 r2 Q q => by
  obtain ⟨ds, e, s1, s2, k⟩ := h
  subst e
  have s3 : D.shp (n + 1) (.tup ds) = true := by rw [shp_tup]; exact s2
  refine ⟨x.py, D.pyA ds, Rp.dp x v n s1 (r1.up s), Rp.dp (.tup ds) u (n + 1) s3 (r2.up s), D.shp_shaped s1 (by omega), D.shp_shaped s3 (by omega), ?_⟩
  rw [pyA_any]
  exact q _ _ Hi H k (Gr.refl s) (.bl _)
theorem r_nin {x y : D} {Θ : Bool → Prop} (h : ninB x y Θ) : (((∃ ds, y = .lst ds ∧ D.shp 40 x = true ∧ D.shpA 40 ds = true ∧ ∃ k, D.bl (!memD x ds) = .bl k ∧ Θ k) ∨ ∃ (i : Int) (ns : List Int), x = .int i ∧ y = .tup (ns.map D.int) ∧ ∃ k, D.bl (!decide (i ∈ ns)) = .bl k ∧ Θ k) ∨
    ∃ ds, y = .tup ds ∧ D.shp 40 x = true ∧ D.shpA 40 ds = true ∧ ∃ k, D.bl (!memD x ds) = .bl k ∧ Θ k) ∨ ∃ ks vs, y = .dct ks vs ∧ x.key = true ∧ ∃ k, D.bl (!decide (x ∈ ks)) = .bl k ∧ Θ k := by
  cases y <;> first | exact .inr ⟨_, _, rfl, h.1, _, rfl, h.2⟩ | exact .inl (.inl (.inl ⟨_, rfl, h.1.1, h.1.2, _, rfl, h.2⟩)) | (cases x <;> first | (obtain ⟨ns, rfl, h⟩ := h; exact .inl (.inl (.inr ⟨_, ns, rfl, rfl, _, rfl, h⟩))) | exact .inl (.inr ⟨_, rfl, h.1.1, h.1.2, _, rfl, h.2⟩) | exact False.elim h) | exact False.elim h
theorem st_nin (hu : X.A.units + 65 < cLine) (ha : SX X a ρ ma) (hb : SX X b ρ mb) (hm : behindInMarks .NotIn b = false := by rfl) : ST X (.Compare a [.NotIn] [b] pos) ρ (cmpT ninB ma mb) := st_cmp ((((op_notInD hu).or op_notIn_seq).or (op_ninDT hu)).or (op_ninC hu)) ((((od_notInD (n := 40) (by decide)).or od_notInT).or (od_ninDT (n := 40) (by decide))).or od_ninC) (fun _ _ _ => r_nin) hm ha hb
variable {j : Nat} {k : Bool}
theorem st_isN (ha : SX X a ρ ma) : ST X (.Compare a [.Is] [.Constant .none j p] pos) ρ (cmpT isNB ma (ret .non)) := ⟨fun {Φ Ψ} h => qt_cmp op_isN od_isN (nomark _) ((ha.run h).mono fun x h => qx_non ⟨rfl, _, rfl, h⟩)⟩
theorem st_isntB (ha : SX X a ρ ma) : ST X (.Compare a [.IsNot] [.Constant (.bool k) j p] pos) ρ (cmpT isntVB ma (ret (.bl k))) := ⟨fun {Φ Ψ} h => qt_cmp op_isntB od_isntB (nomark _) ((ha.run h).mono fun x h => qx_bl ⟨k, rfl, _, rfl, h⟩)⟩
/-! ### tests -/
theorem bv_of {x : D} {Θ : Bool → Prop} (h : bv x Θ) : ∃ k, x = .bl k ∧ Θ k := by cases x <;> first | exact ⟨_, rfl, h⟩ | exact False.elim h
theorem st_v (ha : SX X a ρ ma) (he : ∀ whole, isTrue a X.env whole = (do let v ← whole; standAt a.pos; holding [v] (truthy v)) := by intro _; rfl) : ST X a ρ (tv ma) := ⟨fun h => qt_val ((ha.run h).mono fun _ h => bv_of h) he⟩
theorem st_not (ha : ST X a ρ ta) : ST X (.UnaryOp .Not a pos) ρ (notT ta) := ⟨fun h => qt_not (ha.run h)⟩
theorem sw_t (h : SW X e ρ ta) : ST X e ρ ta := ⟨fun k => (h.run k).t⟩
theorem sw_and1 (ha : ST X a ρ ta) : SW X (.BoolOp .And [a] pos) ρ ta := ⟨fun h => qw_and1 (ha.run h)⟩
theorem sw_or1 (ha : ST X a ρ ta) : SW X (.BoolOp .Or [a] pos) ρ ta := ⟨fun h => qw_or1 (ha.run h)⟩
theorem sw_and {rest : List Expr} (ha : ST X a ρ ta) (hb : SW X (.BoolOp .And (b :: rest) pos) ρ tb) : SW X (.BoolOp .And (a :: b :: rest) pos) ρ (andT ta tb) := ⟨fun h => qw_and ((ha.run h).mono fun k h => by
  cases k with
  | true => exact hb.run h
  | false => exact h)⟩
theorem sw_or {rest : List Expr} (ha : ST X a ρ ta) (hb : SW X (.BoolOp .Or (b :: rest) pos) ρ tb) : SW X (.BoolOp .Or (a :: b :: rest) pos) ρ (orT ta tb) := ⟨fun h => qw_or ((ha.run h).mono fun k h => by
  cases k with
  | true => exact h
  | false => exact hb.run h)⟩
/-! .. as values -/
theorem sx_not (ha : SX X a ρ ma) : SX X (.UnaryOp .Not a pos) ρ (notV ma) := ⟨fun h => qx_not ((ha.run h).mono fun _ h => bv_of h)⟩
theorem sx_and1 (ha : SX X a ρ ma) : SX X (.BoolOp .And [a] pos) ρ ma := ⟨fun h => qx_one (ha.run h)⟩
theorem sx_or1 (ha : SX X a ρ ma) : SX X (.BoolOp .Or [a] pos) ρ ma := ⟨fun h => qx_one (ha.run h)⟩
theorem sx_and {rest : List Expr} (ha : SX X a ρ ma) (hb : SX X (.BoolOp .And (b :: rest) pos) ρ mb) : SX X (.BoolOp .And (a :: b :: rest) pos) ρ (andV ma mb) := ⟨fun h => qx_and ((ha.run h).mono fun x h => by
  obtain ⟨k, e, h⟩ := bv_of h
  refine ⟨k, e, ?_⟩
  cases k with
  | true => exact hb.run h
  | false => exact h)⟩
theorem sx_or {rest : List Expr} (ha : SX X a ρ ma) (hb : SX X (.BoolOp .Or (b :: rest) pos) ρ mb) : SX X (.BoolOp .Or (a :: b :: rest) pos) ρ (orV ma mb) := ⟨fun h => qx_or ((ha.run h).mono fun x h => by
  obtain ⟨k, e, h⟩ := bv_of h
  refine ⟨k, e, ?_⟩
  cases k with
  | true => exact h
  | false => exact hb.run h)⟩
theorem sx_if (hc : ST X c ρ tc) (ha : SX X a ρ ma) (hb : SX X b ρ mb) : SX X (.IfExp c a b pos) ρ (ifE tc ma mb) := ⟨fun h => qx_if ((hc.run h).mono fun k h => by
  cases k with
  | true => exact ha.run h
  | false => exact hb.run h)⟩
/-! ### displays, arguments -/
variable {as_ : MA}
theorem sa_nil : SA X [] ρ nilA := ⟨fun h => qa_nil ⟨rfl, h⟩⟩
theorem sa_cons (ha : SX X a ρ ma) (hb : SA X es ρ as_) (hs : starEach (a :: es) X.env = (false, eval a X.env) :: starEach es X.env := by exact se_of rfl) : SA X (a :: es) ρ (consA ma as_) := ⟨fun h => qa_cons ((ha.run h).mono fun x h => (hb.run h).mono fun xs h => ⟨by rw [List.length_cons, List.length_cons, h.1], h.2⟩) hs⟩
theorem sx_tup {n : Nat} (h : SA X es ρ as_) (hz : es.length ≤ 100000 := by exact Nat.le_of_ble_eq_true rfl) : SX X (.Tuple es n pos) ρ (tupE as_) := ⟨fun k => qx_tup ((h.run k).mono fun ds k => ⟨by rw [k.1]; exact small hz, k.2⟩)⟩
theorem sx_lst (h : SA X es ρ as_) (hz : es.length ≤ 100000 := by exact Nat.le_of_ble_eq_true rfl) : SX X (.List es pos) ρ (lstE as_) := ⟨fun k => qx_lst ((h.run k).mono fun ds k => ⟨by rw [k.1]; exact small hz, k.2⟩)⟩
/-! ### calls of the text's own defs -/
def sp1 (f : D → M) : SpD := fun ds Φ Ψ => ∃ x, ds = [x] ∧ f x Φ Ψ
def sp2 (f : D → D → M) : SpD := fun ds Φ Ψ => ∃ x y, ds = [x, y] ∧ f x y Φ Ψ
def sp3 (f : D → D → D → M) : SpD := fun ds Φ Ψ => ∃ x y z, ds = [x, y, z] ∧ f x y z Φ Ψ
section
variable {x : Str} {k : Nat} {md me : M} {d : Expr}
theorem sx_c1 {f : D → M} (F : FnS X.prog X.w X.K X.mg X.base x k 1 (sp1 f)) (hr : Room k X.A) (ha : SX X a ρ ma) (hg : Gl X x := by rfl) (hdb : (x == ("__debug__" : Str)) = false := by decide)
    (he : starEach [a] X.env = (false, eval a X.env) :: starEach [] X.env := by exact se_of rfl) (hpl : (backTo pos (starEach [] X.env)).any (·.1) = false := by rfl) : SX X (.Call (.Name x p) [a] [] pos) ρ (c1 f ma) :=
  ⟨fun h => qx_call F hr (qa_cons ((ha.run h).mono fun u h => qa_nil ⟨u, rfl, h⟩) he) hg hdb he hpl⟩
theorem sx_c2 {f : D → D → M} (F : FnS X.prog X.w X.K X.mg X.base x k 2 (sp2 f)) (hr : Room k X.A) (ha : SX X a ρ ma) (hb : SX X b ρ mb) (hg : Gl X x := by rfl) (hdb : (x == ("__debug__" : Str)) = false := by decide)
    (he : starEach [a, b] X.env = (false, eval a X.env) :: starEach [b] X.env := by exact se_of rfl) (he2 : starEach [b] X.env = (false, eval b X.env) :: starEach [] X.env := by exact se_of rfl) (hpl : (backTo pos (starEach [b] X.env)).any (·.1) = false := by rfl) : SX X (.Call (.Name x p) [a, b] [] pos) ρ (c2 f ma mb) :=
  ⟨fun h => qx_call F hr (qa_cons ((ha.run h).mono fun u h => qa_cons ((hb.run h).mono fun v h => qa_nil ⟨u, v, rfl, h⟩) he2) he) hg hdb he hpl⟩
theorem sx_c3 {f : D → D → D → M} (F : FnS X.prog X.w X.K X.mg X.base x k 3 (sp3 f)) (hr : Room k X.A) (ha : SX X a ρ ma) (hb : SX X b ρ mb) (hc : SX X c ρ mc) (hg : Gl X x := by rfl) (hdb : (x == ("__debug__" : Str)) = false := by decide)
    (he : starEach [a, b, c] X.env = (false, eval a X.env) :: starEach [b, c] X.env := by exact se_of rfl) (he2 : starEach [b, c] X.env = (false, eval b X.env) :: starEach [c] X.env := by exact se_of rfl) (he3 : starEach [c] X.env = (false, eval c X.env) :: starEach [] X.env := by exact se_of rfl) (hpl : (backTo pos (starEach [b, c] X.env)).any (·.1) = false := by rfl) : SX X (.Call (.Name x p) [a, b, c] [] pos) ρ (c3 f ma mb mc) :=
  ⟨fun h => qx_call F hr (qa_cons ((ha.run h).mono fun u h => qa_cons ((hb.run h).mono fun v h => qa_cons ((hc.run h).mono fun w h => qa_nil ⟨u, v, w, rfl, h⟩) he3) he2) he) hg hdb he hpl⟩
end
end
end G
namespace G
open PySem PySem.Spec L2
/-! ### built-in functions -/
def D.nopq : D → Bool
  | .opq _ => false
  | .exc _ => false
  | _ => true
def lnD (x : D) (Φ : D → Prop) : Prop := match x with
  | .lst ds => Φ (.int ds.length)
  | .tup ds => Φ (.int ds.length)
  | .str z => z.length ≤ 100000 ∧ Φ (.int z.length)
  | .dct ks _ => Φ (.int ks.length)
  | _ => False
def absD (x : D) (Φ : D → Prop) : Prop := match x with
  | .int i => Φ (.int (if i < 0 then -i else i))
  | _ => False
def maxD (x y : D) (Φ : D → Prop) : Prop := match x, y with
  | .int i, .int j => Φ (.int (if j > i then j else i))
  | _, _ => False
def allD (x : D) (Φ : D → Prop) : Prop := ∃ bs : List Bool, x = .lst (bs.map D.bl) ∧ Φ (.bl (bs.all id))
def anyD (x : D) (Φ : D → Prop) : Prop := ∃ bs : List Bool, x = .lst (bs.map D.bl) ∧ Φ (.bl (bs.any id))
def isiD (t : D → Bool) (x : D) (Φ : D → Prop) : Prop := x.nopq = true ∧ Φ (.bl (t x))
def listD (x : D) (Φ : D → Prop) : Prop := match x with
  | .lst ds => Φ (.lst ds)
  | .tup ds => Φ (.lst ds)
  | .dct ks _ => Φ (.lst ks)
  | _ => False
def tupleD (x : D) (Φ : D → Prop) : Prop := seqD x fun ds => Φ (.tup ds)
abbrev MO := (Option Int → Prop) → (Str → Prop) → Prop
def noneO : MO := fun K _ => K none
def someO (m : M) : MO := fun K Ψ => m (fun x => match x with
  | .int i => K (some i)
  | _ => False) Ψ
def slD (x : D) (lo hi : Option Int) (Φ : D → Prop) : Prop := match x with
  | .lst ds => Φ (.lst (cutD ds lo hi))
  | .tup ds => Φ (.tup (cutD ds lo hi))
  | .str z => z.length ≤ 100000 ∧ Φ (.str (Txt.slice z lo hi))
  | _ => False
def slE (a : M) (lo hi : MO) : M := fun Φ Ψ => a (fun x => lo (fun l => hi (fun h => slD x l h Φ) Ψ) Ψ) Ψ
section
variable {X : Cx} {ρ : List Sl} {a b c e : Expr} {es : List Expr} {pos p p2 : Pos} {ma mb mc m : M} {ta tb tc : MB}
theorem CallR.or {f : Value} {r1 r2 : List V → Hp → VK → Prop} (h1 : CallR X f r1) (h2 : CallR X f r2) : CallR X f (fun xs H Q => r1 xs H Q ∨ r2 xs H Q) := fun pins s σ H xs us Q I r h => h.elim (h1 pins s σ H xs us Q I r) (h2 pins s σ H xs us Q I r)
theorem CallD.or {r1 r2 : List V → Hp → VK → Prop} {Q1 Q2 : List D → (D → Prop) → Prop} (h1 : CallD X r1 Q1) (h2 : CallD X r2 Q2) : CallD X (fun xs H Q => r1 xs H Q ∨ r2 xs H Q) (fun ds Φ => Q1 ds Φ ∨ Q2 ds Φ) := fun Hi H vs ds Φ s h r Q q => h.elim (fun h => .inl (h1 Hi H vs ds Φ s h r Q q)) (fun h => .inr (h2 Hi H vs ds Φ s h r Q q))
theorem cd_lenS : CallD X (fun xs H Q => ∃ z, xs = [.str z] ∧ z.length ≤ sizeLine ∧ Q (.int z.length) H) (fun ds Φ => ∃ z, ds = [.str z] ∧ z.length ≤ sizeLine ∧ Φ (.int z.length)) := fun Hi H vs ds Φ s h r Q q => by
  obtain ⟨z, e, hz, k⟩ := h
  subst e
  cases r with
  | cons r rr => cases rr; cases r; exact ⟨z, rfl, hz, q _ _ Hi H k (Gr.refl s) (.int _)⟩
theorem sx_len (hm : X.mg "len" = none) (ha : SX X e ρ ma) (hg : Gl X "len" := by rfl) (he : starEach [e] X.env = (false, eval e X.env) :: starEach [] X.env := by exact se_of rfl) (hpl : (backTo pos (starEach [] X.env)).any (·.1) = false := by rfl) :
    SX X (.Call (.Name "len" p) [e] [] pos) ρ (una lnD ma) := ⟨fun h => qx_callB (CallR.or (CallR.or call_len_seq call_len_str) call_lenC) ((cd_len.or cd_lenS).or cd_lenC) hm PySem.boot_len (qa_cons ((ha.run h).mono fun x h => qa_nil (by
      cases x <;> first | exact .inr ⟨_, _, rfl, h⟩ | exact .inl (.inl ⟨_, .inl rfl, h⟩) | exact .inl (.inl ⟨_, .inr rfl, h⟩) | exact .inl (.inr ⟨_, rfl, small h.1, h.2⟩) | exact False.elim h)) he) hg (by decide) (by decide) he hpl⟩
theorem sx_abs (hm : X.mg "abs" = none) (ha : SX X e ρ ma) (hg : Gl X "abs" := by rfl) (he : starEach [e] X.env = (false, eval e X.env) :: starEach [] X.env := by exact se_of rfl) (hpl : (backTo pos (starEach [] X.env)).any (·.1) = false := by rfl) :
    SX X (.Call (.Name "abs" p) [e] [] pos) ρ (una absD ma) := ⟨fun h => qx_callB call_abs cd_abs hm (by decide +kernel) (qa_cons ((ha.run h).mono fun x h => qa_nil (by
      cases x <;> first | exact ⟨_, rfl, h⟩ | exact False.elim h)) he) hg (by decide) (by decide) he hpl⟩
theorem sx_max2 (hm : X.mg "max" = none) (ha : SX X a ρ ma) (hb : SX X b ρ mb) (hg : Gl X "max" := by rfl) (he : starEach [a, b] X.env = (false, eval a X.env) :: starEach [b] X.env := by exact se_of rfl) (he2 : starEach [b] X.env = (false, eval b X.env) :: starEach [] X.env := by exact se_of rfl) (hpl : (backTo pos (starEach [b] X.env)).any (·.1) = false := by rfl) (hc : X.calm = true := by rfl) :
    SX X (.Call (.Name "max" p) [a, b] [] pos) ρ (bin maxD ma mb) := ⟨fun h => qx_callB (call_max2 hc) cd_max2 hm (by decide +kernel) (qa_cons ((ha.run h).mono fun x h => qa_cons ((hb.run h).mono fun y h => qa_nil (by
      cases x <;> cases y <;> first | exact ⟨_, _, rfl, h⟩ | exact False.elim h)) he2) he) hg (by decide) (by decide) he hpl⟩
theorem sx_all (hm : X.mg "all" = none) (ha : SX X e ρ ma) (hg : Gl X "all" := by rfl) (he : starEach [e] X.env = (false, eval e X.env) :: starEach [] X.env := by exact se_of rfl) (hpl : (backTo pos (starEach [] X.env)).any (·.1) = false := by rfl) (hc : X.calm = true := by rfl) :
    SX X (.Call (.Name "all" p) [e] [] pos) ρ (una allD ma) := ⟨fun h => qx_callB (cr_all hc) cd_all hm (by decide +kernel) (qa_cons ((ha.run h).mono fun x h => qa_nil (by
      obtain ⟨bs, rfl, h⟩ := h; exact ⟨bs, rfl, h⟩)) he) hg (by decide) (by decide) he hpl⟩
theorem sx_list (hm : X.mg "list" = none) (ha : SX X e ρ ma) (hg : Gl X "list" := by rfl) (he : starEach [e] X.env = (false, eval e X.env) :: starEach [] X.env := by exact se_of rfl) (hpl : (backTo pos (starEach [] X.env)).any (·.1) = false := by rfl) (hc : X.calm = true := by rfl) :
    SX X (.Call (.Name "list" p) [e] [] pos) ρ (una listD ma) := ⟨fun h => qx_callTy (CallR.or call_list_of (call_listC hc)) (cd_list.or cd_listC) hm (by decide +kernel) (qa_cons ((ha.run h).mono fun x h => qa_nil (by
      cases x <;> first | exact .inr ⟨_, _, rfl, h⟩ | exact .inl ⟨_, .inl rfl, h⟩ | exact .inl ⟨_, .inr rfl, h⟩ | exact False.elim h)) he) hg (by decide) (by decide) he hpl⟩
theorem sx_tuple (hm : X.mg "tuple" = none) (ha : SX X e ρ ma) (hg : Gl X "tuple" := by rfl) (he : starEach [e] X.env = (false, eval e X.env) :: starEach [] X.env := by exact se_of rfl) (hpl : (backTo pos (starEach [] X.env)).any (·.1) = false := by rfl) :
    SX X (.Call (.Name "tuple" p) [e] [] pos) ρ (una tupleD ma) := ⟨fun h => qx_callTy call_tuple_of cd_tuple hm (by decide +kernel) (qa_cons ((ha.run h).mono fun x h => qa_nil (by
      cases x <;> first | exact ⟨_, .inl rfl, h⟩ | exact ⟨_, .inr rfl, h⟩ | exact False.elim h)) he) hg (by decide) (by decide) he hpl⟩
theorem nopq_of {d : D} (h : d.nopq = true) : ∀ n, d ≠ .opq n := fun n e => by subst e; cases h
/-- isinstance(x, T) -/
theorem sx_isi {T : Str} {Tn : String} {t : D → Bool} (hm : X.mg "isinstance" = none) (hm2 : X.mg T = none) (hv : bootBuiltins T = some (.type Tn)) (hk : ∀ d : D, kitB d.tyN Tn = some (t d)) (ha : SX X e ρ ma)
    (hg : Gl X "isinstance" := by rfl) (hg2 : Gl X T := by rfl) (hn : T ≠ "__name__" := by decide) (hdb : (T == ("__debug__" : Str)) = false := by decide)
    (he : starEach [e, .Name T p2] X.env = (false, eval e X.env) :: starEach [.Name T p2] X.env := by exact se_of rfl) (he2 : starEach [.Name T p2] X.env = (false, eval (.Name T p2) X.env) :: starEach [] X.env := by rfl) (hpl : (backTo pos (starEach [.Name T p2] X.env)).any (·.1) = false := by rfl) :
    SX X (.Call (.Name "isinstance" p) [e, .Name T p2] [] pos) ρ (una (isiD t) ma) := ⟨fun k B Hi H σ W tk S rs Q q => wE.of (pe_callB call_isG hg hm (by decide +kernel) (pa_cons pe_w (pa_cons (pe_bltn (v := .ty Tn) hg2 hm2 hv rfl hn hdb) pa_nil he2) he) (by decide) (by decide) he hpl)
      ((ha.run k) B Hi H σ W tk S rs _ fun v d2 Hi1 H1 z g r => ⟨v, .ty Tn, .type d2.tyN, .type Tn, t d2, rfl, .ty Tn, r.ty g.sub (nopq_of z.1), kit_ty (hk d2), q _ _ Hi1 H1 z.2 g (.bl _)⟩)⟩
/-- isinstance(x, (S, T)) -/
theorem sx_isi2 {S T : Str} {Sn Tn : String} {q1 q2 q3 : Pos} {kk : Nat} {t1 t2 : D → Bool} (hm : X.mg "isinstance" = none) (hm1 : X.mg S = none) (hm2 : X.mg T = none) (hv1 : bootBuiltins S = some (.type Sn)) (hv2 : bootBuiltins T = some (.type Tn)) (hk1 : ∀ d : D, kitB d.tyN Sn = some (t1 d)) (hk2 : ∀ d : D, kitB d.tyN Tn = some (t2 d)) (ha : SX X e ρ ma)
    (hg : Gl X "isinstance" := by rfl) (hg1 : Gl X S := by rfl) (hg2 : Gl X T := by rfl) (hn1 : S ≠ "__name__" := by decide) (hdb1 : (S == ("__debug__" : Str)) = false := by decide) (hn : T ≠ "__name__" := by decide) (hdb : (T == ("__debug__" : Str)) = false := by decide)
    (he : starEach [e, .Tuple [.Name S q1, .Name T q2] kk q3] X.env = (false, eval e X.env) :: starEach [.Tuple [.Name S q1, .Name T q2] kk q3] X.env := by exact se_of rfl) (he2 : starEach [.Tuple [.Name S q1, .Name T q2] kk q3] X.env = (false, eval (.Tuple [.Name S q1, .Name T q2] kk q3) X.env) :: starEach [] X.env := by rfl)
    (he3 : starEach [.Name S q1, .Name T q2] X.env = (false, eval (.Name S q1) X.env) :: starEach [.Name T q2] X.env := by rfl) (he4 : starEach [.Name T q2] X.env = (false, eval (.Name T q2) X.env) :: starEach [] X.env := by rfl)
    (hpl : (backTo pos (starEach [.Tuple [.Name S q1, .Name T q2] kk q3] X.env)).any (·.1) = false := by rfl) :
    SX X (.Call (.Name "isinstance" p) [e, .Tuple [.Name S q1, .Name T q2] kk q3] [] pos) ρ (una (isiD fun d => t1 d || t2 d) ma) := ⟨fun k B Hi H σ W tk St rs Q q => wE.of (pe_callB call_isGT hg hm (by decide +kernel)
      (pa_cons pe_w (pa_cons (pe_tup (pa_cons (pe_bltn (v := .ty Sn) hg1 hm1 hv1 rfl hn1 hdb1) (pa_cons (pe_bltn (v := .ty Tn) hg2 hm2 hv2 rfl hn hdb) pa_nil he4) he3)) pa_nil he2) he) (by decide) (by decide) he hpl)
      ((ha.run k) B Hi H σ W tk St rs _ fun v d2 Hi1 H1 z g r => by
        refine ⟨by show 2 ≤ sizeLine; decide, fun t ht => ?_⟩
        have g2 : Gr Hi H Hi1 (upd H1 t (.tup [.ty Sn, .ty Tn])) := g.trans (Gr.out g.sub (Ex.new ht))
        refine ⟨v, t, _, .type d2.tyN, [.type Sn, .type Tn], t1 d2 || t2 d2, rfl, upd_same, .cons (.ty Sn) (.cons (.ty Tn) .nil), r.ty g2.sub (nopq_of z.1), kitAny_cons (kit_ty (hk1 d2)) (fun z => kitAny_cons (kit_ty (hk2 d2)) (fun z2 => by rw [z, z2]; exact kitAny_nil) fun z2 => by rw [z2, Bool.or_true]) fun z => by rw [z, Bool.true_or], q _ _ Hi1 _ z.2 g2 (.bl _)⟩)⟩
/-! ### slices -/
structure SO (X : Cx) (e : Option Expr) (ρ : List Sl) (m : MO) : Prop where
  ex : ∃ t, PO X e t ∧ ∀ {K Ψ}, m K Ψ → ∀ (B Hi H : Hp) (σ : L2.St) (W : WX), Takes X W → StOk X.K B Hi H σ ρ → Rs X Ψ Hi H σ W → ∀ Q : Option Int → Hp → Prop, (∀ o Hi' H', K o → Gr Hi H Hi' H' → Q o H') → t σ H Q
theorem so_none : SO X none ρ noneO := ⟨tNoPart, po_none, fun k B Hi H σ W tk S rs Q q => q none Hi H k (Gr.refl S.sub)⟩
theorem so_some (h : SX X e ρ m) : SO X (some e) ρ (someO m) := ⟨_, po_some pe_w, fun k B Hi H σ W tk S rs Q q => (h.run k) B Hi H σ W tk S rs _ fun v d Hi1 H1 z g r => by
  cases d with
  | int i => cases r; exact ⟨i, rfl, q (some i) Hi1 H1 z g⟩
  | _ => exact False.elim z⟩
theorem cut_rp {K : PySem.W.Frag} {H : Hp} {xs : List V} {ds : List D} (ha : RpA K H xs ds) (lo hi : Option Int) : RpA K H (cutV xs lo hi) (cutD ds lo hi) := by
  unfold cutD cutV
  rw [ha.length]
  exact (ha.drop _).take _
theorem cutD_all {ds : List D} {lo hi : Option Int} (h : HT.sIx ds.length 0 lo = 0 ∧ HT.sIx ds.length ds.length hi = ds.length) : cutD ds lo hi = ds := by
  unfold cutD
  rw [h.1, h.2]; simp
theorem sx_sl {lo hi : Option Expr} {ml mh : MO} (ha : SX X e ρ ma) (h1 : SO X lo ρ ml) (h2 : SO X hi ρ mh) : SX X (.Subscript e (.Slice lo hi none p2) pos) ρ (slE ma ml mh) := by
  obtain ⟨t1, q1, h1⟩ := h1.ex
  obtain ⟨t2, q2, h2⟩ := h2.ex
  refine ⟨fun k B Hi H σ W tk S rs Q q => wE.of (pe_slice (SlR.or sl_list (SlR.or sl_tupA C8.sl_txt)) pe_w q1 q2) ((ha.run k) B Hi H σ W tk S rs _ fun v d Hi1 H1 z g r => ?_)⟩
  refine h1 z B Hi1 H1 σ W tk (S.grow g) (rs.grow g) _ fun o1 Hi2 H2 z g2 => h2 z B Hi2 H2 σ W tk ((S.grow g).grow g2) ((rs.grow g).grow g2) _ fun o2 Hi3 H3 z g3 => ?_
  have g23 := g2.trans g3
  have gg := g.trans g23
  cases r with
  | @lst a xs ds hs ha => exact .inl ⟨_, xs, rfl, SqL.of (g3.sub _ _ (g23.i _ _ hs)), fun l hl => q _ _ (upd Hi3 l _) _ z (gg.trans (Gr.mk1 g3.sub hl)) (.lst upd_same (RpA.up (cut_rp (ha.up g23.i) _ _) (Ex.new (g3.sub.free hl))))⟩
  | @tup a xs ds hs ha =>
    refine .inr (.inl ⟨_, xs, rfl, g3.sub.t (g23.i.t hs), fun e => ?_, fun e l hl => q _ _ (upd Hi3 l _) _ z (gg.trans (Gr.mk1 g3.sub hl)) (.tup (SqT.of upd_same) (RpA.up (cut_rp (ha.up g23.i) _ _) (Ex.new (g3.sub.free hl))))⟩)
    rw [ha.length] at e
    have z : Q _ _ := q (.ref a) (.tup (cutD ds o1 o2)) Hi3 H3 z gg (by rw [cutD_all e]; exact .tup (g23.i.t hs) (ha.up g23.i))
    exact z
  | str x => exact .inr (.inr ⟨x, rfl, small z.1, q _ _ Hi3 H3 z.2 gg (.str _)⟩)
  | _ => exact False.elim z
/-! ### what is walked -/
def walkD (d : D) (k : List D → Prop) : Prop := match d with
  | .lst ds => k ds
  | .tup ds => k ds
  | .dct ks _ => k ks
  | _ => False
def itE (m : M) : MA := fun K Ψ => m (fun d => walkD d K) Ψ
def rng1 (m : M) : MA := fun K Ψ => m (fun x => match x with
  | .int n => (n ≤ 100000 ∧ -100000 ≤ n) ∧ K (rangeD 0 n.toNat)
  | _ => False) Ψ
def rng2 (a b : M) : MA := fun K Ψ => a (fun x => b (fun y => match x, y with
  | .int lo, .int hi => (lo ≤ 100000 ∧ -100000 ≤ lo ∧ hi ≤ 100000 ∧ -100000 ≤ hi) ∧ K (rangeD lo (hi - lo).toNat)
  | _, _ => False) Ψ) Ψ
variable {tg iter : Expr}
theorem pi_any {l : Expr} : PI X tg l (fun σ H R => wE X l σ H fun x H1 => ∃ a, x = .ref a ∧ (((∃ xs, SqL X.K H1 a xs) ∧ R (Itl X.K a) H1) ∨ ((∃ xs, SqT X.K H1 a xs) ∧ R (Itt X.K a) H1) ∨ ∃ xs o, H1 a = some (.ext (dctO a xs o)) ∧ R (Itc a xs o) H1)) := by
  refine ⟨fun pins s σ H R I h => ?_⟩
  refine thn (h pins s I) fun v s1 ⟨x, H1, I1, r1, q1⟩ => ?_
  obtain ⟨a, e, q1⟩ := q1
  subst e
  cases r1
  rcases q1 with ⟨⟨xs, hq⟩, q⟩ | ⟨⟨xs, hq⟩, q⟩ | ⟨xs, o, hb, q⟩
  · obtain ⟨its, rv, p, hz⟩ := I1.list hq
    refine wpAny_pyIter_list p.isList ?_
    refine ⟨s1.heap.objs.size, [s1.heap.objs.size], _, _, H1, rfl, I1.kept (t' := s1.toks) fun b o e => Heap.get?_push_of_some _ e, turn_list a _, ⟨_, Heap.get?_push_size _ rfl, rfl, rfl⟩, fun b hb => ?_, q⟩
    have e : b = s1.heap.objs.size := by simpa using hb
    subst e
    exact I1.fpOk (Nat.le_refl _) (I1.hok.fresh (Nat.le_refl _))
  · obtain ⟨its, rv, p, hz⟩ := I1.tuple hq
    refine wpAny_pyIter_tuple (show s1.heap.IsTuple a its.toArray from p) ?_
    refine ⟨s1.heap.objs.size, [s1.heap.objs.size], _, _, H1, rfl, I1.kept (t' := s1.toks) fun b o e => Heap.get?_push_of_some _ e, turn_tuple a _, ⟨_, Heap.get?_push_size _ rfl, rfl, rfl⟩, fun b hb => ?_, q⟩
    have e : b = s1.heap.objs.size := by simpa using hb
    subst e
    exact I1.fpOk (Nat.le_refl _) (I1.hok.fresh (Nat.le_refl _))
  · obtain ⟨es, ep, hr, ed, hl, ds, hv⟩ := raw_of I1 hb
    refine wpAny_pyIter_dict_raw ds.sm hr ?_
    refine ⟨s1.heap.objs.size, [s1.heap.objs.size], _, _, H1, rfl, I1.kept (t' := s1.toks) fun c ob z => Heap.get?_push_of_some _ z, turn_C _ ed, ⟨_, Heap.get?_push_size _ rfl, rfl, by rw [hl]; rfl⟩, fun c hc => ?_, q⟩
    obtain rfl : c = s1.heap.objs.size := List.mem_singleton.mp hc
    exact I1.fpOk (Nat.le_refl _) (I1.hok.fresh (Nat.le_refl _))
theorem si_v (ha : SX X iter ρ m) : SI X tg iter ρ (itE m) := ⟨fun k => ⟨_, pi_any, fun B Hi H σ W tk S rs Rr q => (ha.run k) B Hi H σ W tk S rs _ fun v d Hi1 H1 z g r => by
  cases r with
  | @lst a xs ds hs ha =>
    refine ⟨_, rfl, .inl ⟨⟨xs, SqL.of (g.sub _ _ hs)⟩, q ds Hi1 H1 _ z g ⟨fun i H x hi => ?_, fun H x => ⟨xs, SqL.of (x _ _ hs), by rw [ha.length]; exact Nat.le_refl _⟩, fun i H x H' Hi e1 e2 y hi => ?_⟩⟩⟩
    · obtain ⟨v, h1, _⟩ := ha.get (List.getElem?_eq_getElem hi)
      exact ⟨xs, v, SqL.of (x _ _ hs), h1⟩
    · obtain ⟨rfl, hy⟩ := y
      obtain ⟨d, h1, h2⟩ := ha.getV (hy xs (SqL.of (e2 _ _ (e1 _ _ hs))))
      exact ⟨d, Hi, h1, Gr.refl e2, h2.up e1⟩
  | @tup a xs ds hs ha =>
    refine ⟨_, rfl, .inr (.inl ⟨⟨xs, g.sub.t hs⟩, q ds Hi1 H1 _ z g ⟨fun i H x hi => ?_, fun H x => ⟨xs, x.t hs, by rw [ha.length]; exact Nat.le_refl _⟩, fun i H x H' Hi e1 e2 y hi => ?_⟩⟩)⟩
    · obtain ⟨v, h1, _⟩ := ha.get (List.getElem?_eq_getElem hi)
      exact ⟨xs, v, x.t hs, h1⟩
    · obtain ⟨rfl, hy⟩ := y
      obtain ⟨d, h1, h2⟩ := ha.getV (hy xs (e2.t (e1.t hs)))
      exact ⟨d, Hi, h1, Gr.refl e2, h2.up e1⟩
  | @dct b xs o ks vs us hb he hk rk vl rv =>
    subst he
    have hl : (xs.map (·.1)).length = xs.length := List.length_map ..
    refine ⟨_, rfl, .inr (.inr ⟨xs, o, g.sub _ _ hb, q (xs.map fun w : Ent => w.1) Hi1 H1 _ z g ⟨fun i H x hi => ?_, fun H x => ⟨x _ _ hb, by rw [hl]; exact Nat.le_refl _⟩, fun i H x H' Hi e1 e2 y hi => ?_⟩⟩)⟩
    · exact ⟨x _ _ hb, by rw [← hl]; exact hi⟩
    · obtain ⟨rfl, w, hw, rfl⟩ := y
      exact ⟨w.1, Hi, by rw [List.getElem?_map, hw]; rfl, Gr.refl e2, (rpA_at rk w (List.mem_of_getElem? hw)).up e1⟩
  | _ => exact False.elim z⟩⟩
theorem si_range1 (hm : X.mg "range" = none) (ha : SX X e ρ m) (hg : Gl X "range" := by rfl) (hst : starEach [e] X.env = [(false, eval e X.env)] := by exact se_of rfl) : SI X tg (.Call (.Name "range" p) [e] [] p2) ρ (rng1 m) :=
  ⟨fun k => qi_range1 hm (qa_cons ((ha.run k).mono fun x h => qa_nil (by cases x <;> first | exact ⟨_, rfl, h.1.1, h.1.2, h.2⟩ | exact False.elim h)) hst) hg hst⟩
/-! ### comprehensions -/
variable {scope : Scope} {own : List (Str × Nat)} {elt : Expr} {ifs : List Expr} {mi : MA} {f : D → (Option D → Prop) → Prop}
theorem lcq_S {vs : List Nat} {Φ : D → Prop} {ds : List D} (hl : ds.length ≤ 100000) (h : lcL f ds [] fun ys => Φ (.lst ys))
    (hb : ∀ d k, f d k → ∃ ρ', QGb X scope vs tg d (wipeS ρ vs) ρ' ∧ ∃ Θ : Bool → Prop, (match ifs with
      | [] => Θ true
      | c :: _ => ∀ s H C cl fp, QT (BlkX X scope s H C cl fp) bot c ρ' Θ) ∧
      (Θ true → ∀ s H C cl fp, QX (BlkX X scope s H C cl fp) bot elt ρ' fun y => k (some y)) ∧ (Θ false → k none)) : LcQ X scope vs tg elt ifs ρ ds (fun i acc => lcL f (ds.drop i) acc fun ys => Φ (.lst ys)) Φ := by
  refine ⟨hl, h, fun i d acc hd hI => ?_, fun acc hI _ => ?_⟩
  · obtain ⟨hi, e⟩ := List.getElem?_eq_some_iff.mp hd
    rw [List.drop_eq_getElem_cons hi, e] at hI
    obtain ⟨ρ', hg, Θ, h1, h2, h3⟩ := hb d _ hI
    exact ⟨ρ', hg, Θ, h1, h2, h3⟩
  · rw [List.drop_length] at hI
    exact hI
theorem qx_lcE {Ψ : Str → Prop} {Φ : D → Prop} (hN : X.N.Nodup) (ok : BlkOk X.N X.env.scope scope own) (h : QI X Ψ tg iter ρ fun ds => ∃ I, LcQ X scope (own.map (·.2)) tg elt ifs ρ ds I Φ) (hl : ifs.length ≤ 1)
    (hc : X.calm = true) (hs : ∀ x, foldedSetIterable iter X.env x = pure x) : QX X Ψ (.ListComp elt [⟨tg, iter, ifs, 0⟩] scope pos) ρ Φ := by
  obtain ⟨wi, hi, h⟩ := h
  exact fun B Hi H σ W tk S rs Q q => wE.of (pe_lc hc hN hi ok (fun s H C cl fp => pg_b s H C cl fp) (fun s H C cl fp => pts_of hl s H C cl fp) (fun s H C cl fp => pe_b s H C cl fp) hs)
    (h B Hi H σ W tk S rs _ fun ds Hi1 H1 J z g wk => z.elim fun I z => lc_go z (S.grow g) wk fun v d Hi' H' hz g' r => q v d Hi' H' hz (g.trans g') r)
theorem qs_setLcE {Ψ : Str → Prop} {R : Po} {rest : List Stmt} (i : Nat) {y : Str} {py lp : Pos} (hN : X.N.Nodup) (ok : BlkOk X.N X.env.scope scope own)
    (h : QI X Ψ tg iter ρ fun ds => ∃ I, LcQ X scope (own.map (·.2)) tg elt ifs ρ ds I fun d => QS X Ψ rest (ρ.set i (.dat d)) R) (hl : ifs.length ≤ 1) (hy : X.N[i]? = some y) (hyl : X.env.scope.names.lookup y = some .local)
    (hsw : swapsWith (.ListComp elt [⟨tg, iter, ifs, 0⟩] scope lp) (some (.Name y py)) pos.line X.env = pure true) (hc : X.calm = true) (hs : ∀ x, foldedSetIterable iter X.env x = pure x) :
    QS X Ψ (.Assign [.Name y py] (.ListComp elt [⟨tg, iter, ifs, 0⟩] scope lp) pos :: rest) ρ R := by
  obtain ⟨wi, hi, h⟩ := h
  exact fun Bi B Hi H σ Dn W tk g S rb N => wSs.cons (ps_setLc (i := i) hc hN hy hyl hsw hi ok (fun s H C cl fp => pg_b s H C cl fp) (fun s H C cl fp => pts_of hl s H C cl fp) (fun s H C cl fp => pe_b s H C cl fp) hs)
    (h B Hi H σ W tk S (rb.rs g σ) _ fun ds Hi1 H1 J z g1 wk => z.elim fun I z => lc_go z (S.grow g1) wk fun v d Hi2 H2 hz g2 r => hz Bi B Hi2 H2 (σ.set i (some v)) Dn W tk ((g.trans g1).trans g2) (((S.grow g1).grow g2).set r) rb N)
theorem sx_lc0 (hN : X.N.Nodup) (ok : BlkOk X.N X.env.scope scope own) (hi : SI X tg iter ρ mi)
    (hb : ∀ d k, f d k → ∃ ρ', QGb X scope (own.map (·.2)) tg d (wipeS ρ (own.map (·.2))) ρ' ∧ ∀ s H C cl fp, QX (BlkX X scope s H C cl fp) bot elt ρ' fun y => k (some y)) (hc : X.calm = true := by rfl) (hs : ∀ x, foldedSetIterable iter X.env x = pure x := by intro _; rfl) :
    SX X (.ListComp elt [⟨tg, iter, [], 0⟩] scope pos) ρ (lcE mi f) := ⟨fun h => qx_lcE (ifs := []) hN ok ((hi.run h).mono fun ds h => ⟨_, lcq_S (ifs := []) h.1 h.2 fun d k h => by
      obtain ⟨ρ', hg, h⟩ := hb d k h
      exact ⟨ρ', hg, fun b => b = true, rfl, fun _ => h, fun e => Bool.noConfusion e⟩⟩) (by decide) hc hs⟩
theorem sx_lc1 (hN : X.N.Nodup) (ok : BlkOk X.N X.env.scope scope own) (hi : SI X tg iter ρ mi)
    (hb : ∀ d k, f d k → ∃ ρ', QGb X scope (own.map (·.2)) tg d (wipeS ρ (own.map (·.2))) ρ' ∧ ∃ (mt : MB) (Θ : Bool → Prop), mt Θ bot ∧ (∀ s H C cl fp, ST (BlkX X scope s H C cl fp) c ρ' mt) ∧ (Θ true → ∀ s H C cl fp, QX (BlkX X scope s H C cl fp) bot elt ρ' fun y => k (some y)) ∧ (Θ false → k none)) (hc : X.calm = true := by rfl) (hs : ∀ x, foldedSetIterable iter X.env x = pure x := by intro _; rfl) :
    SX X (.ListComp elt [⟨tg, iter, [c], 0⟩] scope pos) ρ (lcE mi f) := ⟨fun h => qx_lcE (ifs := [c]) hN ok ((hi.run h).mono fun ds h => ⟨_, lcq_S (ifs := [c]) h.1 h.2 fun d k h => by
      obtain ⟨ρ', hg, mt, Θ, h0, h1, h2, h3⟩ := hb d k h
      exact ⟨ρ', hg, Θ, fun s H C cl fp => (h1 s H C cl fp).run h0, h2, h3⟩⟩) (Nat.le_refl 1) hc hs⟩
theorem un2_of {p : D} {k : D → D → Prop} (h : un2 p k) : ∃ a b, (p = .tup [a, b] ∨ p = .lst [a, b]) ∧ k a b := by
  unfold un2 at h
  split at h
  · exact ⟨_, _, .inl rfl, h⟩
  · exact ⟨_, _, .inr rfl, h⟩
  · exact h.elim
theorem un3_of {p : D} {k : D → D → D → Prop} (h : un3 p k) : ∃ a b c, (p = .tup [a, b, c] ∨ p = .lst [a, b, c]) ∧ k a b c := by
  unfold un3 at h
  split at h
  · exact ⟨_, _, _, .inl rfl, h⟩
  · exact ⟨_, _, _, .inr rfl, h⟩
  · exact h.elim
end
end G
namespace G
open PySem PySem.Spec L2
section
variable {X : Cx} {Ψ : Str → Prop} {ρ : List Sl} {R : Po} {a b c e : Expr} {es : List Expr} {pos p p2 : Pos} {rest body blk els : List Stmt} {ma mb mc m : M} {tc : MB} {k : D → Prop}
/-! ### statements -/
structure SQ (X : Cx) (Ψ : Str → Prop) (st : List Stmt) (ρ : List Sl) (R : Po) : Prop where
  run : QS X Ψ st ρ R
theorem SQ.mono {R' : Po} (h : SQ X Ψ body ρ R) (k1 : ∀ x, R.nx x → R'.nx x) (k2 : ∀ x, R.rt x → R'.rt x) (k3 : ∀ x, R.bk x → R'.bk x) (k4 : ∀ x, R.ct x → R'.ct x) : SQ X Ψ body ρ R' := ⟨h.run.mono k1 k2 k3 k4⟩
theorem s_nil (k : R.nx ρ) : SQ X Ψ [] ρ R := ⟨qs_nil k⟩
theorem s_raise {x m : Str} {j : Nat} {q1 q2 q3 : Pos} (T : ExcF X.K X.mg x) (k : Ψ x) (hg : Gl X x := by rfl) (hdb : (x == ("__debug__" : Str)) = false := by decide) (hc : X.calm = true := by rfl) :
    SQ X Ψ (.Raise (some (.Call (.Name x q1) [.Constant (.str m) j q2] [] q3)) none pos :: rest) ρ R := ⟨qs_raise T k hg hdb hc⟩
theorem s_set (i : Nat) {x : Str} (he : SX X e ρ m) (h : m k Ψ) (hr : ∀ d, k d → SQ X Ψ rest (ρ.set i (.dat d)) R) (hN : X.N.Nodup) (hi : X.N[i]? = some x := by rfl) (hx : Loc X.env.scope x := by first | exact Or.inl rfl | exact Or.inr rfl)
    (hs : swapsWith e (some (.Name x p)) pos.line X.env = pure false := by rfl) (hf : X.fn x = true ∨ X.env.scope.names.lookup x = some .local := by first | exact .inl rfl | exact .inr rfl) : SQ X Ψ (.Assign [.Name x p] e pos :: rest) ρ R :=
  ⟨qs_set i ((he.run h).mono fun d h => (hr d h).run) hN hi hx hs hf⟩
theorem s_expr (he : SX X e ρ m) (h : m k Ψ) (hr : ∀ d, k d → SQ X Ψ rest ρ R) (hs : swapsWith e none pos.line X.env = pure false := by rfl) : SQ X Ψ (.Expr e pos :: rest) ρ R := ⟨qs_expr ((he.run h).mono fun d h => (hr d h).run) hs⟩
theorem s_ret (he : SX X e ρ m) (h : m R.rt Ψ) : SQ X Ψ (.Return (some e) pos :: rest) ρ R := ⟨qs_ret (he.run h)⟩
theorem s_par (i j : Nat) {x y : Str} {px py pt : Pos} {kt k2 : Nat} {pt2 : Pos} {P : D → D → Prop} (ha : SX X a ρ ma) (hb : SX X b ρ mb) (h : ma (fun u => mb (fun v => P u v) Ψ) Ψ) (hr : ∀ u v, P u v → SQ X Ψ rest ((ρ.set i (.dat u)).set j (.dat v)) R)
    (hN : X.N.Nodup) (hij : i ≠ j := by decide) (hi : X.N[i]? = some x := by rfl) (hj : X.N[j]? = some y := by rfl)
    (hx : X.env.scope.names.lookup x = some .local := by rfl) (hy : X.env.scope.names.lookup y = some .local := by rfl) (hc : X.calm = true := by rfl)
    (hw : swappedStores [.Tuple [.Name x px, .Name y py] kt pt] (.Tuple [a, b] k2 pt2) X.env = pure (some [x, y]) := by rfl)
    (hs : swapsWithSole [.Tuple [.Name x px, .Name y py] kt pt] (.Tuple [a, b] k2 pt2) pos.line X.env = pure false := by rfl) (he : starEach [a, b] X.env = (false, eval a X.env) :: starEach [b] X.env := by exact se_of rfl) (he2 : starEach [b] X.env = (false, eval b X.env) :: starEach [] X.env := by exact se_of rfl) :
    SQ X Ψ (.Assign [.Tuple [.Name x px, .Name y py] kt pt] (.Tuple [a, b] k2 pt2) pos :: rest) ρ R :=
  ⟨qs_par i j ((ha.run h).mono fun u h => (hb.run h).mono fun v h => (hr u v h).run) hN hij hi hj hx hy hc hw hs he he2⟩
/-! targets in tuples -/
theorem qg_un {tgs : List Expr} {n : Nat} {pt : Pos} {ds : List D} {ρ' : List Sl} {d : D} (hd : d = .tup ds ∨ d = .lst ds) (h : QGs X tgs ds ρ ρ') (hl : (assignEach tgs X.env).length = ds.length := by rfl) (hst : (assignEach tgs X.env).findIdx? (·.1) = none := by rfl) (hc : X.calm = true := by rfl) :
    QG X (.Tuple tgs n pt) d ρ ρ' := by
  rcases hd with rfl | rfl
  · exact qg_tup h hl hst hc
  · exact qg_lst h hl hst hc
theorem s_un2 {t1 t2 : Expr} {n : Nat} {pt : Pos} {P : D → D → Prop} (he : SX X e ρ m) (h : m (fun d => un2 d P) Ψ) (hr : ∀ u v, P u v → ∃ ρ', QGs X [t1, t2] [u, v] ρ ρ' ∧ SQ X Ψ rest ρ' R) (hs : swapsWithSole [.Tuple [t1, t2] n pt] e pos.line X.env = pure false := by rfl) (hw : swappedStores [.Tuple [t1, t2] n pt] e X.env = pure none := by rfl)
    (h1 : (assignEach [.Tuple [t1, t2] n pt] X.env).map (·.2) = [assign (.Tuple [t1, t2] n pt) X.env] := by rfl) (hl : (assignEach [t1, t2] X.env).length = 2 := by rfl) (hst : (assignEach [t1, t2] X.env).findIdx? (·.1) = none := by rfl) (hc : X.calm = true := by rfl) : SQ X Ψ (.Assign [.Tuple [t1, t2] n pt] e pos :: rest) ρ R :=
  ⟨qs_asg ((he.run h).mono fun d h => by
    obtain ⟨u, v, hd, h⟩ := un2_of h
    obtain ⟨ρ', hg, hq⟩ := hr u v h
    exact ⟨ρ', qg_un hd hg hl hst hc, hq.run⟩) hs hw h1⟩
theorem s_un3 {t1 t2 t3 : Expr} {n : Nat} {pt : Pos} {P : D → D → D → Prop} (he : SX X e ρ m) (h : m (fun d => un3 d P) Ψ) (hr : ∀ u v w, P u v w → ∃ ρ', QGs X [t1, t2, t3] [u, v, w] ρ ρ' ∧ SQ X Ψ rest ρ' R) (hs : swapsWithSole [.Tuple [t1, t2, t3] n pt] e pos.line X.env = pure false := by rfl) (hw : swappedStores [.Tuple [t1, t2, t3] n pt] e X.env = pure none := by rfl)
    (h1 : (assignEach [.Tuple [t1, t2, t3] n pt] X.env).map (·.2) = [assign (.Tuple [t1, t2, t3] n pt) X.env] := by rfl) (hl : (assignEach [t1, t2, t3] X.env).length = 3 := by rfl) (hst : (assignEach [t1, t2, t3] X.env).findIdx? (·.1) = none := by rfl) (hc : X.calm = true := by rfl) : SQ X Ψ (.Assign [.Tuple [t1, t2, t3] n pt] e pos :: rest) ρ R :=
  ⟨qs_asg ((he.run h).mono fun d h => by
    obtain ⟨u, v, w, hd, h⟩ := un3_of h
    obtain ⟨ρ', hg, hq⟩ := hr u v w h
    exact ⟨ρ', qg_un hd hg hl hst hc, hq.run⟩) hs hw h1⟩
/-! if -/
theorem s_if {P Q : Prop} (hc : ST X c ρ tc) (h : tc (fun k => if k = true then P else Q) Ψ) (h1 : P → SQ X Ψ blk ρ { R with nx := fun ρ' => SQ X Ψ rest ρ' R }) (h2 : Q → SQ X Ψ els ρ { R with nx := fun ρ' => SQ X Ψ rest ρ' R }) : SQ X Ψ (.If c blk els pos :: rest) ρ R :=
  ⟨qs_if ((hc.run h).mono fun k h => by
    cases k with
    | true => exact (h1 h).run.mono (fun _ z => z.run) (fun _ z => z) (fun _ z => z) fun _ z => z
    | false => exact (h2 h).run.mono (fun _ z => z.run) (fun _ z => z) (fun _ z => z) fun _ z => z)⟩
/-- .. and both ways go on: the rest is shown once -/
theorem s_ifJ {κ J : Type} {kr : κ} {P Q : κ → Prop} (h : join kr fun k => tc (fun b => if b = true then P k else Q k) Ψ) (hc : ST X c ρ tc) (st : J → List Sl) (go : J → κ → Prop) (hrest : ∀ j, go j kr → SQ X Ψ rest (st j) R)
    (h1 : P kr → SQ X Ψ blk ρ { R with nx := fun ρ' => ∃ j, ρ' = st j ∧ go j kr }) (h2 : Q kr → SQ X Ψ els ρ { R with nx := fun ρ' => ∃ j, ρ' = st j ∧ go j kr }) : SQ X Ψ (.If c blk els pos :: rest) ρ R :=
  s_if (P := P kr) (Q := Q kr) hc h (fun h => (h1 h).mono (fun _ ⟨j, e, z⟩ => e ▸ hrest j z) (fun _ z => z) (fun _ z => z) fun _ z => z) (fun h => (h2 h).mono (fun _ ⟨j, e, z⟩ => e ▸ hrest j z) (fun _ z => z) (fun _ z => z) fun _ z => z)
/-! for, while -/
variable {tg iter : Expr} {mi : MA}
theorem s_for {S J : Type} {s0 : S} {f : D → S → (S → Prop) → (S → Prop) → Prop} {k : S → Prop} (h : mi (fun ds => forL f k ds s0) Ψ) (hi : SI X tg iter ρ mi) (st : S → J → List Sl) (j0 : J) (h0 : ρ = st s0 j0)
    (hb : ∀ x s j nx, f x s nx k → ∃ ρ2, QG X tg x (st s j) ρ2 ∧ SQ X Ψ body ρ2 { nx := fun ρ' => ∃ s' j', ρ' = st s' j' ∧ nx s', rt := R.rt, bk := fun ρ' => ∃ s' j', ρ' = st s' j' ∧ k s', ct := fun ρ' => ∃ s' j', ρ' = st s' j' ∧ nx s' })
    (hr : ∀ s j, k s → SQ X Ψ rest (st s j) R) (hp : PassesOwn (model X.prog X.w) X.A X.env X.xe)
    (hf : ∀ x, foldedSetIterable iter X.env x = pure x := by intro _; rfl) (hc : X.calm = true := by rfl) : SQ X Ψ (.For tg iter body [] pos :: rest) ρ R := by
  obtain ⟨wi, hpi, h⟩ := hi.run h
  refine ⟨fun Bi B Hi H σ Dn W tk g S rb N => wSs.cons (ps_for hp hc hpi pg_w pss_w hf) (h B Hi H σ W tk S (rb.rs g σ) _ fun ds Hi1 H1 J z g1 wk => ?_)⟩
  refine ⟨fun i m σ H => m = ds.length - i ∧ i ≤ ds.length ∧ Mid X Bi B Hi1 (fun ρ1 => ∃ s j, ρ1 = st s j ∧ forL f k (ds.drop i) s) σ H, ⟨ds.length, by simp, Nat.zero_le _, ρ, Hi1, ⟨s0, j0, h0, by simpa using z⟩, g.trans g1, Ex.refl _, S.grow g1⟩, ?_⟩
  rintro i m σ2 H2 ⟨rfl, hi, ρ2, Hi2, ⟨s, j, rfl, hi2⟩, g2, e2, S2⟩
  by_cases hlt : i < ds.length
  · refine .inr ⟨wk.go i H2 (e2.trans g2.sub) hlt, Mid X Bi B Hi1 (fun ρ1 => ∃ s j, ρ1 = st s j ∧ forL f k (ds.drop (i + 1)) s), fun σ' H' p' => ⟨ds.length - (i + 1), by omega, rfl, hlt, p'⟩, fun x H' y => ?_⟩
    obtain ⟨d, Hi3, hd3, g3, r3⟩ := wk.yld i H2 x H' Hi2 e2 g2.sub y hlt
    obtain ⟨_, e⟩ := List.getElem?_eq_some_iff.mp hd3
    rw [List.drop_eq_getElem_cons hlt, e] at hi2
    obtain ⟨ρ3, hg, hb⟩ := hb d s j _ hi2
    refine hg B Hi3 H' σ2 x (S2.grow g3) r3 _ fun σ3 S3 => turn_go tk (g2.trans g3) (e2.trans g3.i) S3 rb N (hb.run.mono (fun ρ' ⟨s', j', e, z⟩ => ⟨s', j', e, z⟩) (fun _ z => z) (fun ρ' ⟨s', j', e, z⟩ => e ▸ (hr s' j' z).run) fun ρ' ⟨s', j', e, z⟩ => ⟨s', j', e, z⟩)
  · have e : i = ds.length := by omega
    subst e
    rw [List.drop_length] at hi2
    exact .inl ⟨wk.stop H2 (e2.trans g2.sub), (hr s j hi2).run Bi B Hi2 H2 σ2 Dn W tk g2 S2 rb N⟩
theorem s_while {S J : Type} {s0 : S} {mt : S → MB} {P : S → (S → Prop) → (S → Prop) → Prop} {k : S → Prop} (h : whileM s0 (fun s nx br => mt s (fun b => if b = true then P s nx br else br s) Ψ) k) (st : S → J → List Sl) (j0 : J) (h0 : ρ = st s0 j0) (hc : ∀ s j, ST X c (st s j) (mt s))
    (hb : ∀ s j nx, P s nx k → SQ X Ψ body (st s j) { nx := fun ρ' => ∃ s' j', ρ' = st s' j' ∧ nx s', rt := R.rt, bk := fun ρ' => ∃ s' j', ρ' = st s' j' ∧ k s', ct := fun ρ' => ∃ s' j', ρ' = st s' j' ∧ nx s' })
    (hr : ∀ s j, k s → SQ X Ψ rest (st s j) R) (hp : PassesOwn (model X.prog X.w) X.A X.env X.xe) : SQ X Ψ (.While c body [] pos :: rest) ρ R := by
  obtain ⟨I, ⟨m0, hm⟩, hI⟩ := h
  refine ⟨qs_while (I := fun m ρ1 => ∃ s j, ρ1 = st s j ∧ I m s) m0 ⟨s0, j0, h0, hm⟩ hp fun m ρ1 ⟨s, j, e, hi⟩ => ?_⟩
  subst e
  refine ((hc s j).run (hI m s hi)).mono fun b h => ?_
  cases b with
  | true => exact (hb s j _ h).run.mono (fun ρ' ⟨s', j', e, m', hm, z⟩ => ⟨m', hm, s', j', e, z⟩) (fun _ z => z) (fun ρ' ⟨s', j', e, z⟩ => e ▸ (hr s' j' z).run) fun ρ' ⟨s', j', e, m', hm, z⟩ => ⟨m', hm, s', j', e, z⟩
  | false => exact (hr s j h).run
/-! x = [..] -/
variable {scope : Scope} {own : List (Str × Nat)} {elt : Expr} {f : D → (Option D → Prop) → Prop}
theorem LcQ.mono {vs : List Nat} {ifs : List Expr} {ds : List D} {I : Nat → List D → Prop} {Φ Φ' : D → Prop} (L : LcQ X scope vs tg elt ifs ρ ds I Φ) (h : ∀ d, Φ d → Φ' d) : LcQ X scope vs tg elt ifs ρ ds I Φ' := ⟨L.len, L.start, L.turn, fun acc hi hl => h _ (L.fin acc hi hl)⟩
theorem s_lc1 (i : Nat) {y : Str} {py lp : Pos} (h : lcE mi f k Ψ) (hN : X.N.Nodup) (ok : BlkOk X.N X.env.scope scope own) (hi : SI X tg iter ρ mi)
    (hb : ∀ d k, f d k → ∃ ρ', QGb X scope (own.map (·.2)) tg d (wipeS ρ (own.map (·.2))) ρ' ∧ ∃ (mt : MB) (Θ : Bool → Prop), mt Θ bot ∧ (∀ s H C cl fp, ST (BlkX X scope s H C cl fp) c ρ' mt) ∧ (Θ true → ∀ s H C cl fp, QX (BlkX X scope s H C cl fp) bot elt ρ' fun y => k (some y)) ∧ (Θ false → k none)) (hr : ∀ d, k d → SQ X Ψ rest (ρ.set i (.dat d)) R)
    (hy : X.N[i]? = some y := by rfl) (hyl : X.env.scope.names.lookup y = some .local := by rfl)
    (hsw : swapsWith (.ListComp elt [⟨tg, iter, [c], 0⟩] scope lp) (some (.Name y py)) pos.line X.env = pure true := by exact sw_true rfl rfl rfl (by decide +kernel)) (hc : X.calm = true := by rfl) (hs : ∀ x, foldedSetIterable iter X.env x = pure x := by intro _; rfl) :
    SQ X Ψ (.Assign [.Name y py] (.ListComp elt [⟨tg, iter, [c], 0⟩] scope lp) pos :: rest) ρ R := ⟨qs_setLcE (ifs := [c]) i hN ok ((hi.run h).mono fun ds h => ⟨_, (lcq_S (ifs := [c]) (Φ := k) h.1 h.2 fun d k h => by
      obtain ⟨ρ', hg, mt, Θ, h0, h1, h2, h3⟩ := hb d k h
      exact ⟨ρ', hg, Θ, fun s H C cl fp => (h1 s H C cl fp).run h0, h2, h3⟩).mono fun d h => (hr d h).run⟩) (Nat.le_refl 1) hy hyl hsw hc hs⟩
/-! x += e -/
def addI (x y : D) (Φ : D → Prop) : Prop := ∃ a b, x = .int a ∧ y = .int b ∧ Φ (.int (a + b))
def augD (op : D → D → (D → Prop) → Prop) (x : D) (m : M) : M := fun Φ Ψ => m (fun y => op x y Φ) Ψ
theorem s_augI {op : Operator} {g : Int → Int → Int} (hp : PIp X op (ipI g)) (i : Nat) {x : Str} {d : D} {pos' : Pos} (hi0 : ρ[i]? = some (.dat d)) (he : SX X e ρ m) (h : m (fun y => ∃ a b, d = .int a ∧ y = .int b ∧ k (.int (g a b))) Ψ) (hr : ∀ d, k d → SQ X Ψ rest (ρ.set i (.dat d)) R) (hN : X.N.Nodup) (hi : X.N[i]? = some x := by rfl) (hx : Loc X.env.scope x := by first | exact Or.inl rfl | exact Or.inr rfl)
    (hf : X.fn x = true ∨ X.env.scope.names.lookup x = some .local := by first | exact .inl rfl | exact .inr rfl) : SQ X Ψ (.AugAssign (.Name x pos') op e pos :: rest) ρ R :=
  ⟨fun Bi B Hi H σ Dn W tk g' S rb N => by
    obtain ⟨v, e1, rp⟩ := S.dat hi0
    refine wSs.cons (ps_aug hN hi hx pe_w hp hf) ⟨v, e1, (he.run h) B Hi H σ W tk S (rb.rs g' σ) _ fun u y Hi1 H1 z g1 r1 => ?_⟩
    obtain ⟨a, b, ea, eb, z⟩ := z
    subst ea eb
    cases rp; cases r1
    exact ⟨a, b, rfl, rfl, (hr _ z).run Bi B Hi1 H1 (σ.set i (some (.int (g a b)))) Dn W tk (g'.trans g1) ((S.grow g1).set (.int _)) rb N⟩⟩
theorem s_augAdd (i : Nat) {x : Str} {d : D} {pos' : Pos} (hi0 : ρ[i]? = some (.dat d)) (he : SX X e ρ m) (h : augD addI d m k Ψ) (hr : ∀ d, k d → SQ X Ψ rest (ρ.set i (.dat d)) R) (hN : X.N.Nodup) (hi : X.N[i]? = some x := by rfl) (hx : Loc X.env.scope x := by first | exact Or.inl rfl | exact Or.inr rfl)
    (hf : X.fn x = true ∨ X.env.scope.names.lookup x = some .local := by first | exact .inl rfl | exact .inr rfl) : SQ X Ψ (.AugAssign (.Name x pos') .Add e pos :: rest) ρ R := by
  refine s_augI ip_add i hi0 ⟨fun {Φ Ψ} h => (he.run h)⟩ (m := fun Φ Ψ => m Φ Ψ) (k := k) ?_ hr hN hi hx hf
  exact h
/-! lists of one's own -/
theorem s_new (i : Nat) {x : Str} {lp : Pos} (hr : SQ X Ψ rest (ρ.set i (.lst [])) R) (hN : X.N.Nodup) (hi : X.N[i]? = some x := by rfl) (hx : Loc X.env.scope x := by first | exact Or.inl rfl | exact Or.inr rfl)
    (hs : swapsWith (.List [] lp) (some (.Name x p)) pos.line X.env = pure false := by rfl) (hf : X.fn x = true ∨ X.env.scope.names.lookup x = some .local := by first | exact .inl rfl | exact .inr rfl) : SQ X Ψ (.Assign [.Name x p] (.List [] lp) pos :: rest) ρ R := ⟨qs_new i hr.run hN hi hx hs hf⟩
theorem s_frz (i : Nat) {ds : List D} (hi : ρ[i]? = some (.lst ds)) (hr : SQ X Ψ rest (ρ.set i (.dat (.lst ds))) R) : SQ X Ψ rest ρ R := ⟨qs_frz i hi frz_lst hr.run⟩
theorem st_peek (i : Nat) {ds : List D} {mt : MB} (hi : ρ[i]? = some (.lst ds)) (he : ST X e (ρ.set i (.dat (.lst ds))) mt) : ST X e ρ mt := ⟨fun h => qt_peek i hi frz_lst (he.run h)⟩
def insL (ds : List D) (i : Nat) (d : D) : List D := ds.take i ++ [d] ++ ds.drop i
theorem s_insert (i : Nat) {x : Str} {ap cp : Pos} {ds : List D} {P : Nat → D → Prop} (hi : ρ[i]? = some (.lst ds)) (ha : SX X a ρ ma) (he : SX X e ρ m) (h : ma (fun j => m (fun d => ds.length ≤ 100000 ∧ ∃ n : Nat, j = .int n ∧ n ≤ ds.length ∧ P n d) Ψ) Ψ) (hr : ∀ n d, P n d → SQ X Ψ rest (ρ.set i (.lst (insL ds n d))) R) (hN : X.N[i]? = some x := by rfl) (hv : Vis X.env.scope x := by first | exact Or.inl rfl | exact Or.inr (Or.inl rfl) | exact Or.inr (Or.inr rfl))
    (hs : swapsWith (.Call (.Attribute (.Name x p) "insert" ap) [a, e] [] cp) none pos.line X.env = pure false := by rfl)
    (hbase : attributeBase (.Name x p) "insert" X.env (eval (.Name x p) X.env) = eval (.Name x p) X.env := by rfl)
    (hfew : ((backTo cp (starEach [a, e] X.env)).all (fun x => !x.1) && (backToKw cp (keywordEach [] X.env)).all (fun x => x.1.isSome)
      && decide (([a, e] : List Expr).length + ([] : List Keyword).length + (if ([] : List Keyword).isEmpty then 0 else 1) < 30)) = true := by rfl)
    (hline : (ap.endLine == cp.line) = true := by rfl) (hst : starEach [a, e] X.env = (false, eval a X.env) :: starEach [e] X.env := by exact se_of rfl) (hst2 : starEach [e] X.env = (false, eval e X.env) :: starEach [] X.env := by exact se_of rfl) (hpl : (backTo cp (starEach [e] X.env)).any (·.1) = false := by rfl)
    (hd : (x == ("__debug__" : Str)) = false := by decide) (hcd : (x == ("__classdict__" : Str)) = false := by decide) :
    SQ X Ψ (.Expr (.Call (.Attribute (.Name x p) "insert" ap) [a, e] [] cp) pos :: rest) ρ R := ⟨fun Bi B Hi H σ Dn W tk g S rb N => by
    obtain ⟨c, o, e1, b1, n1, x1, r1⟩ := S.own hi
    refine wSs.cons (ps_expr (pe_bm F.plainAttrs_list F.slot_list_insert F.type_list_insert mt_insert (pe_var hN hv hd hcd) (pa_cons pe_w (pa_cons pe_w pa_nil hst2) hst) hbase hfew hline hst hpl) hs) ⟨_, e1, ?_, (ha.run h) B Hi H σ W tk S (rb.rs g σ) _ fun vj dj Hi0 H0 z g0 rj => (he.run z) B Hi0 H0 σ W tk (S.grow g0) ((rb.rs g σ).grow g0) _ fun v d Hi1 H1 z g1' rv => ?_⟩
    · cases o with
      | lst vs => exact .inl ⟨rfl, vs, SqL.of x1⟩
      | _ => exact r1.elim
    · have g1 := g0.trans g1'
      have S1 := S.grow g1
      obtain ⟨a', o', e2, b2, n2, x2, r2⟩ := S1.own hi
      rw [e1] at e2
      cases e2
      cases o' with
      | lst vs =>
        have r2 : RpA X.K Hi1 vs ds := r2
        obtain ⟨hz, n, rfl, hn, z⟩ := z
        cases rj
        refine ⟨c, vs, n, v, rfl, rfl, x2, ?_, by omega, by omega, (hr n d z).run Bi B Hi1 (upd H1 c (.lst (vs.take (n : Int).toNat ++ [v] ++ vs.drop (n : Int).toNat))) σ Dn W tk ((g.trans g1).wr b2 n2) (S1.wr hi e1 (show RpA X.K Hi1 _ (insL ds n d) from ?_)) rb N⟩
        · rw [r2.length]
          exact Nat.lt_of_le_of_lt hz (by decide)
        · exact ((r2.take n).app (.cons rv .nil)).app (r2.drop n)
      | _ => exact r2.elim⟩
end
end G
namespace G
open PySem PySem.Spec L2
theorem itT {P Q : Prop} {b : Bool} (h : if true = true then P else Q) : P := by simpa using h
theorem itF {P Q : Prop} (h : if false = true then P else Q) : Q := by simpa using h
def isDat (s : Sl) (k : D → Prop) : Prop := match s with
  | .dat d => k d
  | _ => False
section
variable {X : Cx} {Ψ : Str → Prop} {ρ : List Sl} {R : Po} {a b c e : Expr} {es : List Expr} {pos p p2 : Pos} {rest body blk els : List Stmt} {ma mb mc m : M} {tc : MB} {k : D → Prop}
/-! a op b op c -/
def chnV (o1 o2 : D → D → (Bool → Prop) → Prop) (a b c : M) : M := fun Φ Ψ => a (fun x => b (fun y => o1 x y fun k => if k = true then c (fun z => o2 y z fun k => Φ (.bl k)) Ψ else Φ (.bl false)) Ψ) Ψ
def chnT (o1 o2 : D → D → (Bool → Prop) → Prop) (a b c : M) : MB := fun Θ Ψ => a (fun x => b (fun y => o1 x y fun k => if k = true then c (fun z => o2 y z Θ) Ψ else Θ false) Ψ) Ψ
structure Wt (X : Cx) (op : CmpOp) (opd : D → D → (Bool → Prop) → Prop) : Prop where
  ex : ∃ (r : R2) (R : D → D → (D → Prop) → Prop), OpR X (compareOp op) r ∧ OpD X r R ∧ ∀ x y Θ, opd x y Θ → R x y fun d => ∃ k, d = .bl k ∧ Θ k
theorem w_le : Wt X .LtE leB := ⟨_, _, op_le, od_I0 fun _ _ _ => .bl _, fun _ _ _ => r_le⟩
theorem sx_chn {op1 op2 : CmpOp} {o1 o2 : D → D → (Bool → Prop) → Prop} (h1 : Wt X op1 o1) (h2 : Wt X op2 o2) (ha : SX X a ρ ma) (hb : SX X b ρ mb) (hc : SX X c ρ mc) (hm : lastMarks [op1, op2] [b, c] = false := by rfl) : SX X (.Compare a [op1, op2] [b, c] pos) ρ (chnV o1 o2 ma mb mc) := by
  obtain ⟨r1, R1, p1, q1, w1⟩ := h1.ex
  obtain ⟨r2, R2', p2, q2, w2⟩ := h2.ex
  refine ⟨fun {Φ Ψ} h B Hi H σ W tk S rs Q q => wE.of (pe_chain p1 p2 pe_w pe_w pe_w hm) ((ha.run h) B Hi H σ W tk S rs _ fun v1 d1 Hi1 H1 z g1 rp1 => (hb.run z) B Hi1 H1 σ W tk (S.grow g1) (rs.grow g1) _ fun v2 d2 Hi2 H2 z g2 rp2 => ?_)⟩
  refine q1 Hi2 H2 d1 d2 v1 v2 _ g2.sub (w1 d1 d2 _ z) (rp1.up g2.i) rp2 _ fun v3 d3 Hi3 H3 z g3 rp3 => ?_
  obtain ⟨k, rfl, z⟩ := z
  cases rp3
  refine ⟨k, rfl, ?_⟩
  cases k with
  | false => exact q _ _ Hi3 H3 (itF z) ((g1.trans g2).trans g3) (.bl _)
  | true =>
    have z := itT (b := true) z
    refine if_pos rfl ▸ ?_
    refine (hc.run z) B Hi3 H3 σ W tk (((S.grow g1).grow g2).grow g3) (((rs.grow g1).grow g2).grow g3) _ fun v4 d4 Hi4 H4 z g4 rp4 => ?_
    refine q2 Hi4 H4 d2 d4 v2 v4 _ g4.sub (w2 d2 d4 _ z) ((rp2.up g3.i).up g4.i) rp4 _ fun v5 d5 Hi5 H5 z g5 rp5 => ?_
    obtain ⟨k, rfl, z⟩ := z
    exact q _ _ Hi5 H5 z ((((g1.trans g2).trans g3).trans g4).trans g5) rp5
theorem st_chn {op1 op2 : CmpOp} {o1 o2 : D → D → (Bool → Prop) → Prop} (h1 : Wt X op1 o1) (h2 : Wt X op2 o2) (ha : SX X a ρ ma) (hb : SX X b ρ mb) (hc : SX X c ρ mc) (hm : lastMarks [op1, op2] [b, c] = false := by rfl) : ST X (.Compare a [op1, op2] [b, c] pos) ρ (chnT o1 o2 ma mb mc) := by
  obtain ⟨r1, R1, p1, q1, w1⟩ := h1.ex
  obtain ⟨r2, R2', p2, q2, w2⟩ := h2.ex
  refine ⟨fun {Φ Ψ} h B Hi H σ W tk S rs Q q => wT.of (pt_chain p1 p2 pe_w pe_w pe_w hm) ((ha.run h) B Hi H σ W tk S rs _ fun v1 d1 Hi1 H1 z g1 rp1 => (hb.run z) B Hi1 H1 σ W tk (S.grow g1) (rs.grow g1) _ fun v2 d2 Hi2 H2 z g2 rp2 => ?_)⟩
  refine q1 Hi2 H2 d1 d2 v1 v2 _ g2.sub (w1 d1 d2 _ z) (rp1.up g2.i) rp2 _ fun v3 d3 Hi3 H3 z g3 rp3 => ?_
  obtain ⟨k, rfl, z⟩ := z
  cases rp3
  refine ⟨k, rfl, ?_⟩
  cases k with
  | false => exact ⟨false, rfl, q _ Hi3 H3 (itF z) ((g1.trans g2).trans g3)⟩
  | true =>
    have z := itT (b := true) z
    refine if_pos rfl ▸ ?_
    refine (hc.run z) B Hi3 H3 σ W tk (((S.grow g1).grow g2).grow g3) (((rs.grow g1).grow g2).grow g3) _ fun v4 d4 Hi4 H4 z g4 rp4 => ?_
    refine q2 Hi4 H4 d2 d4 v2 v4 _ g4.sub (w2 d2 d4 _ z) ((rp2.up g3.i).up g4.i) rp4 _ fun v5 d5 Hi5 H5 z g5 rp5 => ?_
    obtain ⟨k, rfl, z⟩ := z
    cases rp5
    exact ⟨k, rfl, q _ Hi5 H5 z ((((g1.trans g2).trans g3).trans g4).trans g5)⟩
/-! (a, b) within a block -/
/-! zip -/
def zip2 (x y : D) (K : List D → Prop) : Prop := match x, y with
  | .lst xs, .lst ys => K (zipD xs ys)
  | .tup xs, .tup ys => K (zipD xs ys)
  | _, _ => False
def zipM (a b : M) : MA := fun K Ψ => a (fun x => b (fun y => zip2 x y K) Ψ) Ψ
end
/-! ### the draws, as told -/
def p_law_town (x : D) (Φ : D → Prop) (Ψ : Str → Prop) : Prop := x = .opq 1 ∧ Φ (.opq 0)
def p_law_draw (t c : D) (Φ : D → Prop) (Ψ : Str → Prop) : Prop := ∃ k : Int, t = .opq 0 ∧ c = .int k ∧ 0 < k ∧ k < 1073741824 ∧ ∀ i : Int, 0 ≤ i → i < k → Φ (.int i)
end G
namespace G
open PySem PySem.Spec L2
theorem itU {P Q : Prop} (h : if true = true then P else Q) : P := by simpa using h
theorem itG {P Q : Prop} (h : if false = true then P else Q) : Q := by simpa using h
/-! ### comprehensions with two fors -/
section
variable {X : Cx} {Ψ : Str → Prop} {ρ : List Sl} {R : Po} {a b c e : Expr} {es : List Expr} {pos p p2 : Pos} {rest body blk els : List Stmt} {ma mb mc m : M} {tc : MB} {k : D → Prop}
variable {scope : Scope} {own : List (Str × Nat)} {vs1 : List Nat} {tg elt iter tg1 iter1 : Expr} {ifs ifs1 : List Expr} {mi : MA} {g : D → (List D → Prop) → Prop}
/-! ### constants of the module that are numbers, texts -/
theorem sx_gi {x : Str} {i : Int} (h : ∃ t, X.mg x = some (.int i t)) (hg : Gl X x := by rfl) (hdb : (x == ("__debug__" : Str)) = false := by decide) : SX X (.Name x pos) ρ (ret (.int i)) := by
  obtain ⟨t, h⟩ := h
  exact ⟨fun k => qx_glob (v := .int i) h ⟨t, rfl⟩ (fun H => .int i) k hg hdb⟩
theorem sx_gs {x z : Str} (h : ∃ t, X.mg x = some (.str z t)) (hg : Gl X x := by rfl) (hdb : (x == ("__debug__" : Str)) = false := by decide) : SX X (.Name x pos) ρ (ret (.str z)) := by
  obtain ⟨t, h⟩ := h
  exact ⟨fun k => qx_glob (v := .str z) h ⟨t, rfl⟩ (fun H => .str z) k hg hdb⟩
end
end G
namespace G
open PySem PySem.Spec L2
/-! ### an exception that was caught and is kept -/
theorem xO_ok {P : Program} {w : World} {H : Hp} {h : Heap} {a : Addr} {cls : Value} {oe : Obj} {vs : Array Value} (e : h.get? a = some oe) (z : Zc cls none oe) (d : oe.data = .fields vs) : ObjOk P w H h a (XO cls a) :=
  ⟨⟨oe, vs, e, z, d⟩, ⟨oe, e⟩, fun _ _ ⟨o, v, q, r⟩ k => ⟨o, v, k o q, r⟩⟩
theorem track {X : Cx} {pins : List (Addr × Obj)} {σ : L2.St} {H : Hp} {s : Shared} {a : Addr} {oe : Obj} {o : HO} (I : Inv X ((a, oe) :: pins) σ H s) (h0 : X.s_0.heap.get? a = none) (hp : ∀ p ∈ X.pn ++ pins, p.1 ≠ a)
    (new : ObjOk X.prog X.w (upd H a o) s.heap a o) : Inv X pins σ (upd H a o) s := by
  obtain ⟨e, n, nl, nf, nc⟩ := I.pin (a, oe) (List.mem_append_right _ List.mem_cons_self)
  have cne : ∀ x c, X.env.cells.lookup x = some c → c ≠ a := fun x c hc z => by
    obtain ⟨v, o', ho, hd⟩ := I.cell x c hc
    subst z
    have e' : s.heap.get? c = some oe := e
    rw [e'] at ho
    cases ho
    exact nc v hd
  have b0 : ∀ b o, X.s_0.heap.get? b = some o → b ≠ a := fun b o q z => by rw [z, h0] at q; cases q
  refine ⟨I.ok, I.os, I.bare, ⟨I.base.keep, I.base.slot, fun b u q m hx => ?_, I.base.there, fun b xs q => ?_, fun b u xs q => ?_, fun b ps q => ?_⟩, I.loc, I.cell, ?_, fun x c hc => ?_, fun p hpp => ?_, fun b u q => ?_, I.len⟩
  · rw [upd_ne (b0 b u q)]; exact I.base.free b u q m hx
  · have z := I.base.tups b xs q
    rw [upd_ne (ne_of_none z n)]; exact z
  · have z := I.base.frzs b u xs q
    rw [upd_ne (ne_of_none z n)]; exact z
  · obtain ⟨m, z⟩ := I.base.tbls b ps q
    exact ⟨m, by rw [upd_ne (ne_of_none z n)]; exact z⟩
  · rw [upd_ne (Ne.symm nl)]; exact I.free
  · rw [upd_ne (cne x c hc)]; exact I.freeC x c hc
  · obtain ⟨e1, n1, r1⟩ := I.pin p (by rcases List.mem_append.mp hpp with h | h; exact List.mem_append_left _ h; exact List.mem_append_right _ (List.mem_cons_of_mem _ h))
    exact ⟨e1, by rw [upd_ne (hp p hpp)]; exact n1, r1⟩
  · by_cases hb : b = a
    · subst hb
      rw [upd_same] at q
      cases q
      exact new
    · rw [upd_ne hb] at q
      exact (I.hok b u q).stay (fun c v _ z => z) (fun c z => by rw [upd_ne (ne_of_none z n)]; exact z) fun c xs z => by rw [upd_ne (ne_of_none z n)]; exact z
/-- what 'except x as n: y = n' wishes: slot i is n's, j is y's -/
def wKeep (K : PySem.W.Frag) (c : Value) (i j : Nat) (D : Ends) : WX := fun cls d σ H => PySem.W.exmOne K cls c = some true ∧ d = none ∧ ∀ a, H a = none → D.nx (((σ.set i (some (.ref a))).set j (some (.ref a))).set i none) (upd H a (XO cls a))
section
variable {X : Cx} {x n y : Str} {c : Value} {i j : Nat} {body : List Stmt} {np pos pos' py pn2 pos2 : Pos} {tb : WX → TS}
theorem ps_try_keep (hs : X.stack = X.env :: X.outer) (hf : X.env.frame = some X.env.locals) (hex : X.ex = []) (hN : X.N.Nodup) (hi : X.N[i]? = some n) (hij : i ≠ j) (hln : X.env.kindOf n = some .local) (hc : Names X x c) (hj : X.N[j]? = some y) (hy : Loc X.env.scope y)
    (hsw : swapsWith (.Name n pn2) (some (.Name y py)) pos2.line X.env = pure false) (hfy : X.fn y = true ∨ X.env.scope.names.lookup y = some .local) (hdn : (n == ("__debug__" : Str)) = false) (hcn : (n == ("__classdict__" : Str)) = false)
    (hb : ∀ (W : WX) (pn : List (Addr × Obj)) (xe : Value → Shared → Prop), Takes (X.tr pn xe) W → PSs (X.tr pn xe) body (tb W)) :
    PS X (.Try body [.ExceptHandler (some (.Name x np)) (some n) [.Assign [.Name y py] (.Name n pn2) pos2] pos'] [] [] pos) (fun D σ H => tb (wKeep X.K c i j D) D σ H) := by
  refine ⟨fun pins s σ H D I h => ?_⟩
  have ok := I.ok
  have hfr : X.A.frames = some (X.env :: X.outer) := by rw [ok.frames, hs]
  refine wpAny_Try_except ?_
  refine wpAny_mono ((hb (wKeep X.K c i j D) (X.pn ++ pins) _ (fun u s' xx => ?_)).run [] s σ H D (I.toTry _) h) (fun f s1 hsp => ?_) (fun e s1 he => he)
  · obtain ⟨a, B, sI, pins', σ', H', cls, d, rfl, J', nb, up, sky, na, os, ag, hb1, rfl, hyes⟩ := xx
    have J : Inv X pins σ' H' sI := J'.ofTry ok
    have sky' : Sky B (X.env :: X.outer) a (Zc cls none) X.env.locals s'.heap := by rw [← hs]; exact sky
    show wpAny (model X.prog X.w) X.A (noteFrame (.ref a) X.env) _ _ _
    refine Sky.land Zc.steady hfr hf sky' fun h3 fl3 up3 => ?_
    have J3 : Inv X pins σ' H' { s' with heap := h3 } := J.landed nb fl3.1 (up.trans up3) os ag
    obtain ⟨oe3, vs3, he3, hz3, hd3⟩ := fl3.there
    have nfr : a ∉ frs (X.env :: X.outer) := fun hm => by
      obtain ⟨_, o', e', hnf⟩ := fl3.2.2.1.mem hm
      rw [he3] at e'; cases e'
      exact hnf _ hd3
    have nL : a ≠ X.env.locals := fun z => nfr (List.mem_filterMap.mpr ⟨X.env, List.mem_cons_self, by rw [hf, z]⟩)
    have nF : a ∉ X.fs := fun hm => by
      obtain ⟨e, he, q⟩ := List.mem_filterMap.mp hm
      exact nfr (List.mem_filterMap.mpr ⟨e, List.mem_cons_of_mem _ he, q⟩)
    have S3 := J3.suite he3 hd3 na nL nF
    have n0 : X.s_0.heap.get? a = none := by
      cases q : X.s_0.heap.get? a with
      | none => rfl
      | some o =>
        obtain ⟨o', z⟩ := J.base.there a o q (by rw [hex]; exact fun z => nomatch z)
        have z2 := nb a o' z (by show a ∉ frs X.stack; rw [hs]; exact nfr)
        rw [fl3.2.1] at z2; cases z2
    have pne : ∀ p ∈ X.pn ++ pins, p.1 ≠ a := fun p hp z => by
      obtain ⟨e1, _, l1, f1, _⟩ := J.pin p hp
      have z2 := nb p.1 p.2 e1 (by show p.1 ∉ frs X.stack; rw [hs, z]; exact nfr)
      rw [z, fl3.2.1] at z2; cases z2
    refine wpAny_handleBy_cons (codeAny_handlers_test ?_) (by intro q; cases q)
    have LT : PySem.W.Looks (model X.prog X.w) h3 (typeOf (.ref a)) cls := fun A Q E s k q => wpAny_typeOf_ref (k _ _ he3) (by rw [hz3.1]; exact q)
    have LM := PySem.W.exm_one (M := model X.prog X.w) (J3.kIn) LT hb1
    have test : ∀ {Q : Value → Shared → Prop} {E : Value → Shared → Prop}, Q c { s' with heap := h3 } → wpAny (model X.prog X.w) (X.A.mark (some (.ref a))) (eval (.Name x np) X.env) Q E { s' with heap := h3 } := fun {Q E} q => by
      obtain ⟨hg, hdbg, hm | ⟨hm, hv, hnn⟩⟩ := hc
      · exact ld_glob (X := X.suite a ((a, oe3) :: (X.pn ++ pins))) S3 hg hm q hdbg
      · exact ld_blt (X := X.suite a ((a, oe3) :: (X.pn ++ pins))) S3 hg hm hv q hnn hdbg
    refine test (LM.here ?_)
    refine codeAny_handlers_suite_as ?_
    refine HandSPX.lands_againZ fl3 fun h4 fl4 up4 => ?_
    have J4 : Inv X pins σ' H' { s' with heap := h4 } := J.landed nb fl4.1 ((up.trans up3).trans up4) os ag
    obtain ⟨oe4, vs4, he4, hz4, hd4⟩ := fl4.there
    have S4 := J4.suite he4 hd4 na nL nF
    refine store_ok (X := X.suite a ((a, oe4) :: (X.pn ++ pins))) (v := .ref a) S4 hN hi (.inl hln) rfl (fun s5 S5 => ?_) (.inr hln)
    have hvis : Vis X.env.scope n := .inl hln
    have hσ : (σ'.set i (some (V.ref a)))[i]? = some (some (V.ref a)) := by
      rw [List.getElem?_set_self]
      rw [J.len]; exact (List.getElem?_eq_some_iff.mp hi).1
    have st := pss_cons (ps_set (X := X.suite a ((a, oe4) :: (X.pn ++ pins))) (pos := pos2) hN hj hy (pe_var (pos := pn2) hi hvis hdn hcn) hsw hfy) pss_nil
    refine wpAny_mono (st.run [] s5 _ H' { nx := fun σ6 H6 => σ6 = (σ'.set i (some (.ref a))).set j (some (.ref a)) ∧ H6 = H', rt := fun _ _ => False } S5 ⟨_, hσ, rfl, rfl⟩) (fun f s6 hsp => ?_) (fun _ _ z => False.elim z)
    cases f with
    | next =>
      obtain ⟨_, H6, S6, rfl, e6⟩ := hsp
      have J6 : L2.Inv X ((a, oe4) :: pins) ((σ'.set i (some (V.ref a))).set j (some (V.ref a))) H6 s6 := ⟨ok, S6.os, S6.bare, S6.base, S6.loc, S6.cell, S6.free, S6.freeC, fun p hp => S6.pin p (by
        rcases List.mem_append.mp hp with h | h
        · exact List.mem_append_left _ (List.mem_cons_of_mem _ (List.mem_append_left _ h))
        · rcases List.mem_cons.mp h with h | h
          · rw [h]; exact List.mem_append_left _ List.mem_cons_self
          · exact List.mem_append_left _ (List.mem_cons_of_mem _ (List.mem_append_right _ h))), S6.hok, S6.len⟩
      refine gone_ok J6 hN hi hln fun s7 J7 => ?_
      obtain ⟨e7, _⟩ := J7.pin (a, oe4) (List.mem_append_right _ List.mem_cons_self)
      exact ⟨_, _, track J7 n0 pne (xO_ok e7 hz4 hd4), by rw [e6]; exact hyes a na⟩
    | brk => obtain ⟨_, _, _, z⟩ := hsp; exact z.elim
    | cont => obtain ⟨_, _, _, z⟩ := hsp; exact z.elim
    | ret u => obtain ⟨_, _, _, _, _, z⟩ := hsp; exact z.elim
  · cases f with
    | next =>
      obtain ⟨σ', H', J', q⟩ := hsp
      exact wpAny_execs_nil ⟨σ', H', J'.ofTry ok, q⟩
    | brk =>
      obtain ⟨σ', H', J', q⟩ := hsp
      exact ⟨σ', H', J'.ofTry ok, q⟩
    | cont =>
      obtain ⟨σ', H', J', q⟩ := hsp
      exact ⟨σ', H', J'.ofTry ok, q⟩
    | ret u =>
      obtain ⟨v, σ', H', J', r, q⟩ := hsp
      exact ⟨v, σ', H', J'.ofTry ok, r, q⟩
end
end G
namespace G
open PySem PySem.Spec L2
/-! ### what K must say of the own exceptions -/
structure ExcI (K : PySem.W.Frag) (mg : Str → Option Value) : Prop where
  c : ∀ z ∈ excN, ExcC K (He.ga K z)
  exm : ∀ z ∈ excN, PySem.W.exmOne K (.ref (He.ga K z)) (.ref (He.ga K "OverError")) = some true
  kit : ∀ z ∈ excN, ∀ y ∈ excN ++ (["OverError", "ValueError"] : List Str), PySem.W.kitOne K (.ref (He.ga K z)) (clsV K y) = some (subX z y)
  over : mg "OverError" = some (.ref (He.ga K "OverError"))
theorem excI_of {K : PySem.W.Frag} {mg : Str → Option Value} (h : exQ K = true) (ho : mg "OverError" = some (.ref (He.ga K "OverError"))) : ExcI K mg := by
  have k : ∀ z ∈ excN, ExcC K (He.ga K z) ∧ PySem.W.exmOne K (.ref (He.ga K z)) (.ref (He.ga K "OverError")) = some true ∧ ∀ y ∈ excN ++ (["OverError", "ValueError"] : List Str), PySem.W.kitOne K (.ref (He.ga K z)) (clsV K y) = some (subX z y) := fun z hz => by
    have e := List.all_eq_true.mp h z hz
    rw [Bool.and_eq_true, Bool.and_eq_true] at e
    obtain ⟨e1, e2, e3⟩ := e
    unfold excCB at e1
    simp only [Bool.and_eq_true, decide_eq_true_eq] at e1
    obtain ⟨a1, a2, a3, a4, a5, a6, a7, a8⟩ := e1
    exact ⟨⟨a1, a2, a3, a4, a5, a6, a7, a8⟩, of_decide_eq_true e2, fun y hy => of_decide_eq_true (List.all_eq_true.mp e3 y hy)⟩
  exact ⟨fun z hz => (k z hz).1, fun z hz => (k z hz).2.1, fun z hz => (k z hz).2.2, ho⟩
/-! ### a try's body: what it may raise is raised where the slots are as at its start -/
section
variable {X : Cx} {Ψ Ψt : Str → Prop} {ρ : List Sl} {R : Po} {a b c e : Expr} {es : List Expr} {pos p p2 : Pos} {rest body blk els : List Stmt} {ma mb mc m : M} {tc : MB} {k : D → Prop} {N : List Sl → Prop}
structure SB (X : Cx) (Ψ : Str → Prop) (body : List Stmt) (ρ : List Sl) (N : List Sl → Prop) : Prop where
  run : ∀ (B Hi H : Hp) (σ : L2.St) (Dn : Ends) (W : WX), Takes X W → StOk X.K B Hi H σ ρ → Rs X Ψ Hi H σ W → (∀ ρ' Hi' H' σ', N ρ' → Gr Hi H Hi' H' → StOk X.K B Hi' H' σ' ρ' → Dn.nx σ' H') → wSs X body Dn σ H
theorem sb_set (i : Nat) {x : Str} (he : SX X e ρ m) (h : m k Ψ) (hr : ∀ d, k d → N (ρ.set i (.dat d))) (hN : X.N.Nodup) (hi : X.N[i]? = some x := by rfl) (hx : Loc X.env.scope x := by first | exact Or.inl rfl | exact Or.inr rfl)
    (hs : swapsWith e (some (.Name x p)) pos.line X.env = pure false := by rfl) (hf : X.fn x = true ∨ X.env.scope.names.lookup x = some .local := by first | exact .inl rfl | exact .inr rfl) : SB X Ψ [.Assign [.Name x p] e pos] ρ N :=
  ⟨fun B Hi H σ Dn W tk S rs q => wSs.cons (ps_set hN hi hx pe_w hs hf) ((he.run h) B Hi H σ W tk S rs _ fun v d Hi1 H1 z g1 r1 => wSs.of pss_nil (q _ Hi1 H1 _ (hr d z) g1 ((S.grow g1).set r1)))⟩
/-- try: body / except OverError as n: y = n -/
theorem s_try (i j : Nat) {n y : Str} {np pos' py pn2 pos2 : Pos} (hb : ∀ pn xe, SB (X.tr pn xe) Ψt body ρ N) (EI : ExcI X.K X.mg)
    (hx : ∀ z, Ψt z → z ∈ excN ∧ SQ X Ψ rest (((ρ.set i (.dat (excD z))).set j (.dat (excD z))).set i .emp) R) (hn : ∀ ρ', N ρ' → SQ X Ψ rest ρ' R) (hN : X.N.Nodup)
    (hij : i ≠ j := by decide) (hi : X.N[i]? = some n := by rfl) (hj : X.N[j]? = some y := by rfl) (hln : X.env.kindOf n = some .local := by rfl) (hy : Loc X.env.scope y := by first | exact Or.inl rfl | exact Or.inr rfl)
    (hsw : swapsWith (.Name n pn2) (some (.Name y py)) pos2.line X.env = pure false := by rfl) (hfy : X.fn y = true ∨ X.env.scope.names.lookup y = some .local := by first | exact .inl rfl | exact .inr rfl)
    (hdn : (n == ("__debug__" : Str)) = false := by decide) (hcn : (n == ("__classdict__" : Str)) = false := by decide) (hg : Gl X "OverError" := by rfl)
    (hs : X.stack = X.env :: X.outer := by rfl) (hf : X.env.frame = some X.env.locals := by rfl) (hex : X.ex = [] := by rfl) :
    SQ X Ψ (.Try body [.ExceptHandler (some (.Name "OverError" np)) (some n) [.Assign [.Name y py] (.Name n pn2) pos2] pos'] [] [] pos :: rest) ρ R :=
  ⟨fun Bi B Hi H σ Dn W tk g S rb N' => wSs.cons (ps_try_keep hs hf hex hN hi hij hln ⟨hg, by decide, .inl EI.over⟩ hj hy hsw hfy hdn hcn
      (tb := fun W Dn σ H => ∀ pn xe, Takes (X.tr pn xe) W → wSs (X.tr pn xe) body Dn σ H) fun W pn xe tk => ⟨fun pins s σ H Dn I h => h pn xe tk pins s I⟩)
    fun pn xe tk2 => (hb pn xe).run B Hi H σ _ _ tk2 S
      (fun z Hi' H' hz g' => by
        obtain ⟨hm, hq⟩ := hx z hz
        refine ⟨EI.exm z hm, rfl, fun a ha => ?_⟩
        have gm := Gr.mk1 (o := XO (.ref (He.ga X.K z)) a) g'.sub ha
        have rp : Rp X.K (upd Hi' a (XO (.ref (He.ga X.K z)) a)) (.ref a) (excD z) := .exc hm upd_same
        exact hq.run Bi B _ _ _ Dn W tk ((g.trans g').trans gm) (((((S.grow g').grow gm).set rp).set rp).wipe1) rb N')
      fun ρ' Hi' H' σ' hz g' S' => (hn ρ' hz).run Bi B Hi' H' σ' Dn W tk (g.trans g') S' rb N'⟩
theorem s_tryJ {κ J : Type} {kr : κ} {bd : κ → Prop} (h : join kr bd) (st : J → List Sl) (go : J → κ → Prop) (ex : Str → J) (i j : Nat) {n y : Str} {np pos' py pn2 pos2 : Pos}
    (hb : ∀ pn xe, bd kr → SB (X.tr pn xe) (fun z => z ∈ excN ∧ go (ex z) kr) body ρ (fun ρ' => ∃ q, ρ' = st q ∧ go q kr)) (EI : ExcI X.K X.mg) (hrest : ∀ q, go q kr → SQ X Ψ rest (st q) R) (hN : X.N.Nodup)
    (hst : ∀ z, ((ρ.set i (.dat (excD z))).set j (.dat (excD z))).set i .emp = st (ex z) := by intro _; rfl)
    (hij : i ≠ j := by decide) (hi : X.N[i]? = some n := by rfl) (hj : X.N[j]? = some y := by rfl) (hln : X.env.kindOf n = some .local := by rfl) (hy : Loc X.env.scope y := by first | exact Or.inl rfl | exact Or.inr rfl)
    (hsw : swapsWith (.Name n pn2) (some (.Name y py)) pos2.line X.env = pure false := by rfl) (hfy : X.fn y = true ∨ X.env.scope.names.lookup y = some .local := by first | exact .inl rfl | exact .inr rfl)
    (hdn : (n == ("__debug__" : Str)) = false := by decide) (hcn : (n == ("__classdict__" : Str)) = false := by decide) (hg : Gl X "OverError" := by rfl)
    (hs : X.stack = X.env :: X.outer := by rfl) (hf : X.env.frame = some X.env.locals := by rfl) (hex : X.ex = [] := by rfl) :
    SQ X Ψ (.Try body [.ExceptHandler (some (.Name "OverError" np)) (some n) [.Assign [.Name y py] (.Name n pn2) pos2] pos'] [] [] pos :: rest) ρ R :=
  s_try i j (fun pn xe => hb pn xe h) EI (fun z hz => ⟨hz.1, by rw [hst z]; exact hrest _ hz.2⟩) (fun ρ' ⟨q, e, hq⟩ => by rw [e]; exact hrest q hq) hN hij hi hj hln hy hsw hfy hdn hcn hg hs hf hex
/-! ### isinstance of one that was caught -/
def rIsX (K : PySem.W.Frag) : List V → Hp → VK → Prop := fun xs H Q => ∃ (a Dc : Addr) (c : V) (cv : Value) (b : Bool), xs = [.ref a, c] ∧ H a = some (XO (.ref Dc) a) ∧ ExcC K Dc ∧ (∀ u, RelV c u → u = cv) ∧ PySem.W.kitOne K (.ref Dc) cv = some b ∧ Q (.bl b) H
theorem call_isX {X : Cx} : CallR X (.builtin "isinstance") (rIsX X.K) := by
  intro pins s σ H xs us Q I r h
  obtain ⟨a, Dc, c, cv, b, rfl, ha, C, hcv, e, q⟩ := h
  cases r with
  | cons rx rr =>
    cases rr with
    | cons rt rr =>
      cases rr
      cases rx
      have ec := hcv _ rt
      subst ec
      obtain ⟨⟨oe, vs, hget, hz, hv⟩, _, _⟩ := I.hok a _ ha
      have J : PySem.W.InstAt s.heap a oe Dc none := by
        obtain ⟨oc, od, oda, osl⟩ := oe
        obtain ⟨h1, h2⟩ := hz
        dsimp only at h1 h2 hv
        subst h1 h2 hv
        exact ⟨hget, rfl, rfl, trivial⟩
      exact PySem.W.kia_one (PySem.W.handS_kitx_exc C.hg C.hk C.hs C.hd C.ha C.hn C.ht C.hm) I.kIn J e (fun z => nomatch z) fun tk => ⟨.bl b, H, I.kept (t' := tk) fun _ _ z => z, rfl, q⟩
def isxD (y : Str) (x : D) (Φ : D → Prop) : Prop := ∃ z ∈ excN, x = excD z ∧ Φ (.bl (subX z y))
theorem sx_isx {T : Str} (EI : ExcI X.K X.mg) (hm : X.mg "isinstance" = none) (ht : X.mg T = some (.ref (He.ga X.K T))) (ha : SX X e ρ ma) (hT : T ∈ excN ++ (["OverError"] : List Str) := by decide)
    (hg : Gl X "isinstance" := by rfl) (hg2 : Gl X T := by rfl) (hdb : (T == ("__debug__" : Str)) = false := by decide)
    (he : starEach [e, .Name T p2] X.env = (false, eval e X.env) :: starEach [.Name T p2] X.env := by exact se_of rfl) (he2 : starEach [.Name T p2] X.env = (false, eval (.Name T p2) X.env) :: starEach [] X.env := by rfl) (hpl : (backTo pos (starEach [.Name T p2] X.env)).any (·.1) = false := by rfl) (hne : T ≠ "ValueError" := by decide) :
    SX X (.Call (.Name "isinstance" p) [e, .Name T p2] [] pos) ρ (una (isxD T) ma) := ⟨fun k B Hi H σ W tk S rs Q q => wE.of (pe_callB call_isX hg hm (by decide +kernel) (pa_cons pe_w (pa_cons (pe_glob (v := .ref (He.ga X.K T)) hg2 ht rfl hdb) pa_nil he2) he) (by decide) (by decide) he hpl)
      ((ha.run k) B Hi H σ W tk S rs _ fun v d2 Hi1 H1 z g r => by
        obtain ⟨z, hz, rfl, kk⟩ := z
        obtain ⟨a, rfl, hat⟩ := r.exc_inv hz
        have kt := EI.kit z hz T (by rcases List.mem_append.mp hT with h | h; exact List.mem_append_left _ h; exact List.mem_append_right _ (by rw [List.mem_singleton.mp h]; exact List.mem_cons_self))
        rw [show clsV X.K T = .ref (He.ga X.K T) from if_neg hne] at kt
        exact ⟨a, _, .ref (He.ga X.K T), .ref (He.ga X.K T), _, rfl, g.sub _ _ hat, EI.c z hz, fun u hu => hu, kt, q _ _ Hi1 H1 kk g (.bl _)⟩)⟩
theorem sx_isv (EI : ExcI X.K X.mg) (hm : X.mg "isinstance" = none) (ht : X.mg "ValueError" = none) (ha : SX X e ρ ma)
    (hg : Gl X "isinstance" := by rfl) (hg2 : Gl X "ValueError" := by rfl) 
    (he : starEach [e, .Name "ValueError" p2] X.env = (false, eval e X.env) :: starEach [.Name "ValueError" p2] X.env := by exact se_of rfl) (he2 : starEach [.Name "ValueError" p2] X.env = (false, eval (.Name "ValueError" p2) X.env) :: starEach [] X.env := by rfl) (hpl : (backTo pos (starEach [.Name "ValueError" p2] X.env)).any (·.1) = false := by rfl) :
    SX X (.Call (.Name "isinstance" p) [e, .Name "ValueError" p2] [] pos) ρ (una (isxD "ValueError") ma) := ⟨fun k B Hi H σ W tk S rs Q q => wE.of (pe_callB call_isX hg hm (by decide +kernel) (pa_cons pe_w (pa_cons (pe_bltn (v := .ty "ValueError") hg2 ht (by decide +kernel) rfl (by decide) (by decide)) pa_nil he2) he) (by decide) (by decide) he hpl)
      ((ha.run k) B Hi H σ W tk S rs _ fun v d2 Hi1 H1 z g r => by
        obtain ⟨z, hz, rfl, kk⟩ := z
        obtain ⟨a, rfl, hat⟩ := r.exc_inv hz
        have kt := EI.kit z hz "ValueError" (by decide)
        rw [show clsV X.K "ValueError" = .type "ValueError" from if_pos rfl] at kt
        exact ⟨a, _, .ty "ValueError", .type "ValueError", _, rfl, g.sub _ _ hat, EI.c z hz, fun u hu => hu, kt, q _ _ Hi1 H1 kk g (.bl _)⟩)⟩
/-! ### count, index in a list of bools -/
def rCntF (K : PySem.W.Frag) : V → List V → Hp → VK → Prop := fun x xs H Q => ∃ (a : Addr) (ys : List V) (y : V), x = .ref a ∧ xs = [y] ∧ SqL K H a ys ∧ flatV y = true ∧ ys.all flatV = true ∧ Q (.int (ys.countP (fun z => eqV z y) : Nat)) H
theorem cnt_eq {y : V} : ∀ {ys : List V} {us : List Value}, Vals ys us → ys.all flatV = true → us.countP (eqU y) = ys.countP (fun z => eqV z y)
  | [], _, h, _ => by cases h; rfl
  | z :: ys, _, h, f => by
    cases h with
    | cons r t =>
      rw [List.all_cons, Bool.and_eq_true] at f
      rw [List.countP_cons, List.countP_cons, cnt_eq t f.2, eqU_of r f.1]
theorem mt_countF {X : Cx} : MtR X "list.count" (rCntF X.K) := by
  intro pins s σ H x xs v us Q I rx rxs h
  obtain ⟨p, ys, y, rfl, rfl, hs, fy, fys, q⟩ := h
  cases rx
  obtain ⟨u, rfl, ru⟩ := rxs.one
  obtain ⟨its, rv, ⟨⟨cls, dd, data, sl⟩, n, ho, hc, hdn, hd⟩, hlen⟩ := I.list hs
  simp only at hc hd
  subst hc hd
  refine call_meets PySem.F.slot_list_count ⟨_, ho, rfl⟩ PySem.F.entry_list_count (PySem.F.args_list_count_2 _ _)
    (PySem.SeqAt.list_countAt p its.toArray n dd sl u (eqU y)) ⟨ho, fun z hz => mem_eqAt ru fy rv fys z (by simpa using hz), ?_⟩
  refine ⟨.int (ys.countP (fun z => eqV z y) : Nat), H, I.tok _, ⟨s.toks, ?_⟩, q⟩
  show Value.int ((its.toArray.toList.countP (eqU y) : Nat) : Int) s.toks = _
  rw [show its.toArray.toList.countP (eqU y) = _ from cnt_eq rv fys]
theorem bls_of {K : PySem.W.Frag} {Hi : Hp} : ∀ {bs : List Bool} {vs : List V}, RpA K Hi vs (bs.map D.bl) → vs = bs.map V.bl
  | [], _, h => by cases h; rfl
  | b :: bs, _, h => by
    cases h with
    | cons h1 h2 => cases h1; rw [bls_of h2]; rfl
theorem bls_flat {bs : List Bool} : (bs.map V.bl).all flatV = true := by
  rw [List.all_eq_true]; intro x hx; obtain ⟨b, _, rfl⟩ := List.mem_map.mp hx; rfl
theorem eqV_bl (a b : Bool) : eqV (.bl a) (.bl b) = decide (a = b) := by cases a <;> cases b <;> rfl
/-- a list's method of one argument -/
def mthL (f : List D → D → (D → Prop) → Prop) (a b : M) : M := fun Φ Ψ => a (fun x => match x with
  | .lst ds => b (fun y => f ds y Φ) Ψ
  | _ => False) Ψ
def cntD (ds : List D) (y : D) (Φ : D → Prop) : Prop := match y with
  | .bl b => ∃ bs : List Bool, ds = bs.map D.bl ∧ Φ (.int (bs.count b : Nat))
  | _ => False
def idxD (ds : List D) (y : D) (Φ : D → Prop) : Prop := match y with
  | .bl b => ∃ (bs : List Bool) (j : Nat), ds = bs.map D.bl ∧ bs[j]? = some b ∧ (∀ m : Nat, m < j → bs[m]? ≠ some b) ∧ Φ (.int (j : Nat))
  | _ => False
theorem cnt_bl {bs : List Bool} {b : Bool} : (bs.map V.bl).countP (fun z => eqV z (.bl b)) = bs.count b := by
  induction bs with
  | nil => rfl
  | cons a bs ih =>
    rw [List.map_cons, List.countP_cons, List.count_cons, ih, eqV_bl]
    cases a <;> cases b <;> rfl
theorem sx_count {apos : Pos} (ha : SX X a ρ ma) (hb : SX X b ρ mb) (hbase : attributeBase a "count" X.env (eval a X.env) = eval a X.env := by rfl)
    (hfew : ((backTo pos (starEach [b] X.env)).all (fun x => !x.1) && (backToKw pos (keywordEach [] X.env)).all (fun x => x.1.isSome) && decide ([b].length + ([] : List Keyword).length + (if ([] : List Keyword).isEmpty then 0 else 1) < 30)) = true := by rfl)
    (hline : (apos.endLine == pos.line) = true := by rfl) (hs : starEach [b] X.env = (false, eval b X.env) :: starEach [] X.env := by rfl) (hpl : (backTo pos (starEach [] X.env)).any (·.1) = false := by rfl) :
    SX X (.Call (.Attribute a "count" apos) [b] [] pos) ρ (mthL cntD ma mb) := ⟨fun k B Hi H σ W tk S rs Q q =>
  wE.of (pe_bm (T := "list") PySem.F.plainAttrs_list PySem.F.slot_list_count PySem.F.type_list_count mt_countF pe_w (pa_cons pe_w pa_nil hs) hbase hfew hline hs hpl)
    ((ha.run k) B Hi H σ W tk S rs _ fun v d Hi1 H1 z g r => by
      cases r with
      | @lst ad xs ds hl ha2 =>
        refine ⟨.inl ⟨rfl, xs, SqL.of (g.sub _ _ hl)⟩, (hb.run z) B Hi1 H1 σ W tk (S.grow g) (rs.grow g) _ fun u d2 Hi2 H2 z2 g2 r2 => ?_⟩
        cases r2 with
        | bl b2 =>
          obtain ⟨bs, rfl, kk⟩ := z2
          have e := bls_of ha2
          subst e
          exact ⟨ad, _, .bl b2, rfl, rfl, SqL.of (g2.o _ _ (g.sub _ _ hl)), rfl, bls_flat, by rw [cnt_bl]; exact q _ _ Hi2 H2 kk (g.trans g2) (.int _)⟩
        | _ => exact False.elim z2
      | _ => exact False.elim z)⟩
theorem sx_index {apos : Pos} (ha : SX X a ρ ma) (hb : SX X b ρ mb) (hbase : attributeBase a "index" X.env (eval a X.env) = eval a X.env := by rfl)
    (hfew : ((backTo pos (starEach [b] X.env)).all (fun x => !x.1) && (backToKw pos (keywordEach [] X.env)).all (fun x => x.1.isSome) && decide ([b].length + ([] : List Keyword).length + (if ([] : List Keyword).isEmpty then 0 else 1) < 30)) = true := by rfl)
    (hline : (apos.endLine == pos.line) = true := by rfl) (hs : starEach [b] X.env = (false, eval b X.env) :: starEach [] X.env := by rfl) (hpl : (backTo pos (starEach [] X.env)).any (·.1) = false := by rfl) :
    SX X (.Call (.Attribute a "index" apos) [b] [] pos) ρ (mthL idxD ma mb) := ⟨fun k B Hi H σ W tk S rs Q q =>
  wE.of (pe_bm (T := "list") PySem.F.plainAttrs_list PySem.F.slot_list_index PySem.F.type_list_index mt_index pe_w (pa_cons pe_w pa_nil hs) hbase hfew hline hs hpl)
    ((ha.run k) B Hi H σ W tk S rs _ fun v d Hi1 H1 z g r => by
      cases r with
      | @lst ad xs ds hl ha2 =>
        refine ⟨.inl ⟨rfl, xs, SqL.of (g.sub _ _ hl)⟩, (hb.run z) B Hi1 H1 σ W tk (S.grow g) (rs.grow g) _ fun u d2 Hi2 H2 z2 g2 r2 => ?_⟩
        cases r2 with
        | bl b2 =>
          obtain ⟨bs, j, rfl, hj, hno, kk⟩ := z2
          have e := bls_of ha2
          subst e
          exact ⟨ad, _, .bl b2, j, .bl b2, rfl, rfl, SqL.of (g2.o _ _ (g.sub _ _ hl)), rfl, bls_flat, by rw [List.getElem?_map, hj]; rfl, by rw [eqV_bl]; simp, fun m z' hm hz => by
            rw [List.getElem?_map] at hz
            cases e2 : bs[m]? with
            | none => rw [e2] at hz; cases hz
            | some b3 =>
              rw [e2] at hz; cases hz
              rw [eqV_bl]
              exact decide_eq_false fun z => hno m hm (by rw [e2, z]), q _ _ Hi2 H2 kk (g.trans g2) (.int _)⟩
        | _ => exact False.elim z2
      | _ => exact False.elim z)⟩
/-! ### index in a list of data -/
end
end G
namespace G
open PySem PySem.Spec L2
section
variable {X : Cx} {Ψ : Str → Prop} {ρ : List Sl} {R : Po} {e : Expr} {pos p : Pos} {rest : List Stmt} {m : M} {k : D → Prop}
/-! ### x *= e, ints -/
end
end G
namespace G
open PySem PySem.Spec L2
mutual
theorem reads_lt {h : Heap} : ∀ {v : Value} {d : PyData} {as : List Addr}, Reads h v d as → ∀ a ∈ as, a < h.objs.size
  | _, _, _, .none, _, m | _, _, _, .bool _, _, m | _, _, _, .int _ _, _, m | _, _, _, .str _ _, _, m => by cases m
  | _, _, _, .list e _ _ r, a, m => by
    rcases List.mem_cons.mp m with rfl | m
    · exact Heap.lt_size e
    · exact reads_lts r a m
  | _, _, _, .tuple _ _ _ r, a, m => reads_lts r a m
  | _, _, _, .dict e _ _ r q, a, m => by
    rcases List.mem_append.mp m with m | m
    · rcases List.mem_cons.mp m with rfl | m
      · exact Heap.lt_size e
      · exact reads_lts r a m
    · exact reads_lts q a m
theorem reads_lts {h : Heap} : ∀ {vs : List Value} {ds : List PyData} {as : List Addr}, ReadsAll h vs ds as → ∀ a ∈ as, a < h.objs.size
  | _, _, _, .nil, _, m => by cases m
  | _, _, _, .cons r q, a, m => by
    rcases List.mem_append.mp m with m | m
    · exact reads_lt r a m
    · exact reads_lts q a m
end
/-! ### sorted(x): x a list or a dict, of data that are alike -/
section
variable {X : L2.Cx}
end
end G
namespace G
open PySem PySem.Spec L2
/-! ### dicts: comprehensions, get, those of one's own -/
def dcE (it : MA) (f : D → (Option (D × D) → Prop) → Prop) : M := fun Φ Ψ => it (fun ds => ds.length ≤ 100000 ∧ dcL f ds [] fun kvs => Φ (dctD kvs)) Ψ
section
variable {X : Cx} {Ψ : Str → Prop} {ρ : List Sl} {R : Po} {a b c e : Expr} {es : List Expr} {pos apos p p2 : Pos} {rest body blk els : List Stmt} {ma mb mc m : M} {tc : MB} {k : D → Prop} {tg iter : Expr} {mi : MA} {scope : Scope} {own : List (Str × Nat)} {ek ev : Expr} {ifs : List Expr} {f : D → (Option (D × D) → Prop) → Prop}
theorem dcq_S {vs : List Nat} {Φ : D → Prop} {ds : List D} (hl : ds.length ≤ 100000) (h : dcL f ds [] fun kvs => Φ (dctD kvs))
    (hb : ∀ d k, f d k → ∃ ρ', QGb X scope vs tg d (wipeS ρ vs) ρ' ∧ ∃ Θ : Bool → Prop, (match ifs with
      | [] => Θ true
      | c :: _ => ∀ s H C cl fp, QT (BlkX X scope s H C cl fp) bot c ρ' Θ) ∧
      (Θ true → ∀ s H C cl fp, QX (BlkX X scope s H C cl fp) bot ek ρ' fun y => ∀ s H C cl fp, QX (BlkX X scope s H C cl fp) bot ev ρ' fun z => k (some (y, z))) ∧ (Θ false → k none)) : DcQ X scope vs tg ek ev ifs ρ ds (fun i acc => dcL f (ds.drop i) acc fun kvs => Φ (dctD kvs)) Φ := by
  refine ⟨hl, h, fun i d acc hd hI => ?_, fun acc hI => ?_⟩
  · obtain ⟨hi, e⟩ := List.getElem?_eq_some_iff.mp hd
    rw [List.drop_eq_getElem_cons hi, e] at hI
    obtain ⟨ρ', hg, Θ, h1, h2, h3⟩ := hb d _ hI
    exact ⟨ρ', hg, Θ, h1, h2, h3⟩
  · rw [List.drop_length] at hI
    exact hI
theorem qx_dcE {Φ : D → Prop} (hu : X.A.units + 65 < cLine) (hN : X.N.Nodup) (ok : BlkOk X.N X.env.scope scope own) (h : QI X Ψ tg iter ρ fun ds => ∃ I, DcQ X scope (own.map (·.2)) tg ek ev ifs ρ ds I Φ) (hl : ifs.length ≤ 1)
    (hc : X.calm = true) (hs : ∀ x, foldedSetIterable iter X.env x = pure x) : QX X Ψ (.DictComp ek ev [⟨tg, iter, ifs, 0⟩] scope pos) ρ Φ := by
  obtain ⟨wi, hi, h⟩ := h
  exact fun B Hi H σ W tk S rs Q q => wE.of (pe_dcC hu hc hN hi ok (fun s H C cl fp => pg_b s H C cl fp) (fun s H C cl fp => pts_of hl s H C cl fp) (fun s H C cl fp => pe_b s H C cl fp) (fun s H C cl fp => pe_b s H C cl fp) hs)
    (h B Hi H σ W tk S rs _ fun ds Hi1 H1 J z g wk => z.elim fun I z => dc_go z (S.grow g) wk fun v d Hi' H' hz g' r => q v d Hi' H' hz (g.trans g') r)
theorem sx_dc0 (hu : X.A.units + 65 < cLine) (hN : X.N.Nodup) (ok : BlkOk X.N X.env.scope scope own) (hi : SI X tg iter ρ mi)
    (hb : ∀ d k, f d k → ∃ ρ', QGb X scope (own.map (·.2)) tg d (wipeS ρ (own.map (·.2))) ρ' ∧ ∀ s H C cl fp, QX (BlkX X scope s H C cl fp) bot ek ρ' fun y => ∀ s H C cl fp, QX (BlkX X scope s H C cl fp) bot ev ρ' fun z => k (some (y, z))) (hc : X.calm = true := by rfl) (hs : ∀ x, foldedSetIterable iter X.env x = pure x := by intro _; rfl) :
    SX X (.DictComp ek ev [⟨tg, iter, [], 0⟩] scope pos) ρ (dcE mi f) := ⟨fun h => qx_dcE (ifs := []) hu hN ok ((hi.run h).mono fun ds h => ⟨_, dcq_S (ifs := []) h.1 h.2 fun d k h => by
      obtain ⟨ρ', hg, h⟩ := hb d k h
      exact ⟨ρ', hg, fun b => b = true, rfl, fun _ => h, fun e => Bool.noConfusion e⟩⟩) (by decide) hc hs⟩
/-! d.get -/
/-! {} -/
/-! sorted(x) -/
mutual
theorem ky_shp : ∀ (d : D) (n : Nat), D.kyB d n = true → D.sh d n = true
  | .int _, _, _ => rfl
  | .tup ds, n, h => by
    have a : (decide (0 < n) && D.kysB ds (n - 1)) = true := h
    rw [Bool.and_eq_true] at a
    show (decide (0 < n) && D.shA ds (n - 1)) = true
    rw [a.1, kys_shp ds _ a.2]; rfl
  | .non, _, h | .bl _, _, h | .str _, _, h | .lst _, _, h | .dct _ _, _, h | .exc _, _, h | .opq _, _, h => Bool.noConfusion h
theorem kys_shp : ∀ (ds : List D) (n : Nat), D.kysB ds n = true → D.shA ds n = true
  | [], _, _ => rfl
  | d :: ds, n, h => by
    have a : (D.kyB d n && D.kysB ds n) = true := h
    rw [Bool.and_eq_true] at a
    show (D.sh d n && D.shA ds n) = true
    rw [ky_shp d _ a.1, kys_shp ds _ a.2]; rfl
end
mutual
theorem sh_mono : ∀ (d : D) (n m : Nat), n ≤ m → D.sh d n = true → D.sh d m = true
  | .lst xs, n, m, h, z => by
    have a : (decide (0 < n) && D.shA xs (n - 1)) = true := z
    rw [Bool.and_eq_true, decide_eq_true_eq] at a
    show (decide (0 < m) && D.shA xs (m - 1)) = true
    rw [decide_eq_true (by omega : 0 < m), shA_mono xs (n - 1) (m - 1) (by omega) a.2]; rfl
  | .tup xs, n, m, h, z => by
    have a : (decide (0 < n) && D.shA xs (n - 1)) = true := z
    rw [Bool.and_eq_true, decide_eq_true_eq] at a
    show (decide (0 < m) && D.shA xs (m - 1)) = true
    rw [decide_eq_true (by omega : 0 < m), shA_mono xs (n - 1) (m - 1) (by omega) a.2]; rfl
  | .non, _, _, _, z | .bl _, _, _, _, z | .int _, _, _, _, z | .str _, _, _, _, z | .dct _ _, _, _, _, z | .exc _, _, _, _, z | .opq _, _, _, _, z => z
theorem shA_mono : ∀ (ds : List D) (n m : Nat), n ≤ m → D.shA ds n = true → D.shA ds m = true
  | [], _, _, _, _ => rfl
  | d :: ds, n, m, h, z => by
    have a : (D.sh d n && D.shA ds n) = true := z
    rw [Bool.and_eq_true] at a
    show (D.sh d m && D.shA ds m) = true
    rw [sh_mono d n m h a.1, shA_mono ds n m h a.2]; rfl
end
/-! max(xs), sum(xs), whole numbers -/
end
end G
namespace G
open PySem PySem.Spec L2
/-! ### keywords, defaults -/
section
variable {K : PySem.W.Frag} {x : Str} {params : Arguments} {body : List Stmt} {scope : Scope} {kws : List (Str × V)} {f : Addr} {fd : FuncData} {ps : List Str}
end
section
variable {X : Cx} {CX : CXT} {k n : Nat} {f : Addr} {fd : FuncData} {ps ks : List Str} {sp : Sp} {E : St → XK} {x : Str} {p pos : Pos} {e : Expr} {es : List Expr} {kws : List Keyword} {t tk : TA} {g : List Value → List Value → List Value} {gV : List V → List V → List V}
end
section
variable {X : Cx} {Ψ : Str → Prop} {ρ : List Sl} {a b c e : Expr} {pos p kp : Pos} {ma mb mc m : M} {x kw : Str} {k : Nat}
/-! what isn't compiled: nobody may come by -/
end
end G
namespace G
open PySem PySem.Spec L2
/-! ### == of two dicts whose keys are tuples, whose values are whole numbers -/
section
variable {prog : Program} {w : World} {κ : Type} [DecidableEq κ] {kd : HeapKind prog w κ} {Ar : Around} {Er : Value → Shared → Prop} {sh : Shared}
end
section
variable {X : Cx} {pins : List (Addr × Obj)} {σ : L2.St} {H : Hp} {s : Shared}
/-- a dict of numbers -/
structure NumD (K : PySem.W.Frag) (H : Hp) (a : Addr) (xs : List Ent) (o : Obj) (ks : List D) (ns : List Int) : Prop where
  h : H a = some (.ext (dctO a xs o))
  k : ks = xs.map (·.1)
  key : ks.all D.key = true
  rk : RpA K H (xs.map fun x => V.ref x.2.1) ks
  vs : Vals (ns.map V.int) (xs.map fun x => x.2.2)
theorem NumD.of {a : Addr} {xs : List Ent} {o : Obj} {ks : List D} {ns : List Int} (d : NumD X.K H a xs o ks ns) (I : Inv X pins σ H s) : s.heap.DictOfH (nestedKind X.prog X.w) a (hx xs) ∧ (a == sysModules) = false := by
  have key : (xs.map (·.1)).all D.key = true := by rw [← d.k]; exact d.key
  obtain ⟨_, h1, h2⟩ := dict_of I d.h key (by rw [← d.k]; exact d.rk)
  exact ⟨h1, h2.sm⟩
/-! as data -/
variable {ρ : List Sl} {a b : Expr} {pos : Pos} {ma mb : M}
end
end G
namespace G
open PySem PySem.Spec L2
/-! ### enumerate(..) of a tuple -/
section
variable {prog : Program} {w : World} {Ar : Around} {Er : Value → Shared → Prop} {z : Shared}
end
section
variable {X : Cx} {Ψ : Str → Prop} {ρ : List Sl} {e : Expr} {p p2 tp : Pos} {m : M} {elts : List Expr} {kk : Nat}
end
end G
namespace G
open PySem PySem.Spec L2
/-! ### min(x): x a list of data that are alike, no None -/
section
variable {X : L2.Cx}
end
section
variable {X : Cx} {Ψ : Str → Prop} {ρ : List Sl} {e : Expr} {pos p : Pos} {m : M}
end
end G
namespace G
open PySem PySem.Spec L2
/-! ### N: texts -/
/-- the signs of a text, one by one -/
def sgn (z : Str) : List D := z.cps.toList.map fun c => D.str ⟨#[c]⟩
def strD (x : D) (Φ : D → Prop) : Prop := match x with
  | .int i => i.natAbs.log2 < 1920 ∧ Φ (.str (toString i))
  | _ => False
def intD (x : D) (Φ : D → Prop) : Prop := match x with
  | .str a => ∃ n, PySem.intText? a = some n ∧ a.length ≤ 640 ∧ Φ (.int n)
  | _ => False
/-- a text's method of one argument -/
def mthS (f : Str → D → (D → Prop) → Prop) (a b : M) : M := fun Φ Ψ => a (fun x => match x with
  | .str z => b (fun y => f z y Φ) Ψ
  | _ => False) Ψ
def splitD (z : Str) (y : D) (Φ : D → Prop) : Prop := match y with
  | .str b => (b.length == 0) = false ∧ z.length ≤ 100000 ∧ Φ (.lst ((Txt.split z b).map D.str))
  | _ => False
def joinD (z : Str) (y : D) (Φ : D → Prop) : Prop := ∃ ys : List Str, y = .lst (ys.map D.str) ∧ (ys.map (·.length)).sum + ys.length * z.length ≤ 100000 ∧ Φ (.str (Txt.join z ys))
def ixSD (x y : D) (Φ : D → Prop) : Prop := match x, y with
  | .str z, .int i => z.length ≤ 100000 ∧ ∃ c, atI z.cps.toList i = some c ∧ Φ (.str ⟨#[c]⟩)
  | _, _ => False
def inSB (x y : D) (Θ : Bool → Prop) : Prop := match x, y with
  | .str a, .str z => ∃ c : Nat, a = ⟨#[c]⟩ ∧ Θ (decide (c ∈ z.cps.toList))
  | _, _ => False
def itC (m : M) : MA := fun K Ψ => m (fun d => match d with
  | .str z => K (sgn z)
  | _ => False) Ψ
/-- f"{a}S{b}", a and b whole numbers -/
def fsE (S : Str) (a b : M) : M := fun Φ Ψ => a (fun x => ∃ i : Int, x = .int i ∧ i.natAbs.log2 < 1920 ∧ b (fun y => ∃ j : Int, y = .int j ∧ j.natAbs.log2 < 1920 ∧ ((toString i : Str) ++ S ++ (toString j : Str)).length ≤ 100000 ∧ Φ (.str ((toString i : Str) ++ S ++ (toString j : Str)))) Ψ) Ψ
section
variable {X : Cx} {Ψ : Str → Prop} {ρ : List Sl} {R : Po} {a b c e : Expr} {es : List Expr} {pos p p2 : Pos} {rest body blk els : List Stmt} {ma mb mc m : M} {tc : MB} {k : D → Prop}
theorem len_add (x y : Str) : (x ++ y).length = x.length + y.length := by
  rw [TL.len_tl, TL.len_tl, TL.len_tl, TL.tl_append, List.length_append]
theorem rep_len (n : Nat) (a b : Array Nat) : ((List.replicate n a).foldl (· ++ ·) b).size = b.size + n * a.size := by
  induction n generalizing b with
  | zero => simp
  | succ n ih => rw [List.replicate_succ, List.foldl_cons, ih, Array.size_append, Nat.succ_mul]; omega
theorem cd_str : CallD X (fun xs H Q => ∃ i : Int, xs = [.int i] ∧ i.natAbs.log2 < 1920 ∧ Q (.str (toString i)) H) (fun ds Φ => ∃ i : Int, ds = [.int i] ∧ i.natAbs.log2 < 1920 ∧ Φ (.str (toString i))) := fun Hi H vs ds Φ s h r Q q => by
  obtain ⟨i, e, hz, k⟩ := h
  subst e
  cases r with
  | cons r rr => cases rr; cases r; exact ⟨i, rfl, hz, q _ _ Hi H k (Gr.refl s) (.str _)⟩
theorem cd_int : CallD X (fun xs H Q => ∃ a n, xs = [.str a] ∧ PySem.intText? a = some n ∧ a.length ≤ 640 ∧ Q (.int n) H) (fun ds Φ => ∃ a n, ds = [.str a] ∧ PySem.intText? a = some n ∧ a.length ≤ 640 ∧ Φ (.int n)) := fun Hi H vs ds Φ s h r Q q => by
  obtain ⟨a, n, e, hz, hl, k⟩ := h
  subst e
  cases r with
  | cons r rr => cases rr; cases r; exact ⟨a, n, rfl, hz, hl, q _ _ Hi H k (Gr.refl s) (.int _)⟩
theorem sx_str (hm : X.mg "str" = none) (ha : SX X e ρ ma) (hg : Gl X "str" := by rfl) (he : starEach [e] X.env = (false, eval e X.env) :: starEach [] X.env := by exact se_of rfl) (hpl : (backTo pos (starEach [] X.env)).any (·.1) = false := by rfl) :
    SX X (.Call (.Name "str" p) [e] [] pos) ρ (una strD ma) := ⟨fun h => qx_callTy call_str_int cd_str hm (by decide +kernel) (qa_cons ((ha.run h).mono fun x h => qa_nil (by
      cases x <;> first | exact ⟨_, rfl, h⟩ | exact False.elim h)) he) hg (by decide) (by decide) he hpl⟩
theorem sx_int (hm : X.mg "int" = none) (ha : SX X e ρ ma) (hg : Gl X "int" := by rfl) (he : starEach [e] X.env = (false, eval e X.env) :: starEach [] X.env := by exact se_of rfl) (hpl : (backTo pos (starEach [] X.env)).any (·.1) = false := by rfl) :
    SX X (.Call (.Name "int" p) [e] [] pos) ρ (una intD ma) := ⟨fun h => qx_callTy call_int_str cd_int hm (by decide +kernel) (qa_cons ((ha.run h).mono fun x h => qa_nil (by
      cases x <;> first | exact False.elim h | (obtain ⟨n, h1, h2, h3⟩ := h; exact ⟨_, n, rfl, h1, h2, h3⟩))) he) hg (by decide) (by decide) he hpl⟩
theorem rpA_strs {K : PySem.W.Frag} {H : Hp} : ∀ ys : List Str, RpA K H (ys.map V.str) (ys.map D.str)
  | [] => .nil
  | y :: ys => .cons (.str y) (rpA_strs ys)
theorem strs_of {K : PySem.W.Frag} {H : Hp} : ∀ {ys : List Str} {vs : List V}, RpA K H vs (ys.map D.str) → vs = ys.map V.str
  | [], _, h => by cases h; rfl
  | y :: ys, _, h => by cases h with | cons h1 h2 => cases h1; rw [strs_of h2]; rfl
theorem sx_split {apos : Pos} (ha : SX X a ρ ma) (hb : SX X b ρ mb) (hs : starEach [b] X.env = [(false, eval b X.env)] := by exact se_of rfl) (hbase : attributeBase a "split" X.env (eval a X.env) = eval a X.env := by rfl) (hline : (apos.endLine == pos.line) = true := by rfl) :
    SX X (.Call (.Attribute a "split" apos) [b] [] pos) ρ (mthS splitD ma mb) := ⟨fun k B Hi H σ W tk S rs Q q =>
  wE.of (pe_split pe_w pe_w hs hbase hline) ((ha.run k) B Hi H σ W tk S rs _ fun v d Hi1 H1 z g r => by
    cases r with
    | str x =>
      refine ⟨⟨x, rfl⟩, (hb.run z) B Hi1 H1 σ W tk (S.grow g) (rs.grow g) _ fun u d2 Hi2 H2 z2 g2 r2 => ?_⟩
      cases r2 with
      | str y =>
        refine ⟨x, y, rfl, rfl, z2.1, Nat.le_trans (Nat.add_le_add_right z2.2.1 2) (by decide), fun l hl => ?_⟩
        exact q _ (.lst ((Txt.split x y).map D.str)) (upd Hi2 l (.lst ((Txt.split x y).map V.str))) _ z2.2.2 ((g.trans g2).trans (Gr.mk1 g2.sub hl)) (.lst upd_same (rpA_strs _))
      | _ => exact False.elim z2
    | _ => exact False.elim z)⟩
theorem sx_join {apos : Pos} (ha : SX X a ρ ma) (hb : SX X b ρ mb) (hs : starEach [b] X.env = [(false, eval b X.env)] := by exact se_of rfl) (hbase : attributeBase a "join" X.env (eval a X.env) = eval a X.env := by rfl) (hline : (apos.endLine == pos.line) = true := by rfl) :
    SX X (.Call (.Attribute a "join" apos) [b] [] pos) ρ (mthS joinD ma mb) := ⟨fun k B Hi H σ W tk S rs Q q =>
  wE.of (pe_join pe_w pe_w hs hbase hline) ((ha.run k) B Hi H σ W tk S rs _ fun v d Hi1 H1 z g r => by
    cases r with
    | str x =>
      refine ⟨⟨x, rfl⟩, (hb.run z) B Hi1 H1 σ W tk (S.grow g) (rs.grow g) _ fun u d2 Hi2 H2 z2 g2 r2 => ?_⟩
      obtain ⟨ys, rfl, hz, kk⟩ := z2
      cases r2 with
      | @lst l xs _ hl ha2 =>
        have e := strs_of ha2
        subst e
        exact ⟨x, l, ys, rfl, rfl, .inl (SqL.of (g2.sub _ _ hl)), Nat.le_trans hz (by decide), q _ _ Hi2 H2 kk (g.trans g2) (.str _)⟩
    | _ => exact False.elim z)⟩
theorem od_ixS : OpD X rIxS (fun x y Φ => ∃ z i c, x = .str z ∧ y = .int i ∧ z.length ≤ sizeLine ∧ atI z.cps.toList i = some c ∧ Φ (.str ⟨#[c]⟩)) := fun Hi H x y v u Φ s h r1 r2 Q q => by
  obtain ⟨z, i, c, e1, e2, hz, hc, k⟩ := h
  subst e1 e2
  cases r1; cases r2
  exact ⟨z, i, c, rfl, rfl, hz, hc, q _ _ Hi H k (Gr.refl s) (.str _)⟩
theorem od_inS : OpD X rInS (fun x y Φ => ∃ (c : Nat) (z : Str), x = .str ⟨#[c]⟩ ∧ y = .str z ∧ Φ (.bl (decide (c ∈ z.cps.toList)))) := fun Hi H x y v u Φ s h r1 r2 Q q => by
  obtain ⟨c, z, e1, e2, k⟩ := h
  subst e1 e2
  cases r1; cases r2
  exact ⟨c, z, rfl, rfl, q _ _ Hi H k (Gr.refl s) (.bl _)⟩
theorem r_inS {x y : D} {Θ : Bool → Prop} (h : inSB x y Θ) : ∃ (c : Nat) (z : Str), x = .str ⟨#[c]⟩ ∧ y = .str z ∧ ∃ k, D.bl (decide (c ∈ z.cps.toList)) = .bl k ∧ Θ k := by
  cases x <;> cases y <;> first | exact False.elim h | (obtain ⟨c, rfl, h⟩ := h; exact ⟨c, _, rfl, rfl, _, rfl, h⟩)
theorem sx_ixS (ha : SX X a ρ ma) (hb : SX X b ρ mb) (hp : PlainIx b := by exact fun _ _ => rfl) : SX X (.Subscript a b pos) ρ (bin ixSD ma mb) :=
  ⟨fun h => qx_ix ix_str od_ixS hp ((ha.run h).mono fun x h => (hb.run h).mono fun y h => by
    cases x <;> cases y <;> first | exact False.elim h | (obtain ⟨h1, c, h2, h3⟩ := h; exact ⟨_, _, c, rfl, rfl, small h1, h2, h3⟩))⟩
theorem sx_inS (ha : SX X a ρ ma) (hb : SX X b ρ mb) (hm : behindInMarks .In b = false := by rfl) : SX X (.Compare a [.In] [b] pos) ρ (cmpV inSB ma mb) := sx_cmp op_inS od_inS (fun _ _ _ => r_inS) hm ha hb
/-- the signs of a text are walked -/
theorem si_str {tg iter : Expr} (ha : SX X iter ρ m) : SI X tg iter ρ (itC m) := ⟨fun k => ⟨_, pi_str pe_w, fun B Hi H σ W tk S rs Rr q => (ha.run k) B Hi H σ W tk S rs _ fun v d Hi1 H1 z g r => by
  cases r with
  | str x =>
    have hl : (sgn x).length = x.cps.size := by unfold sgn; simp
    refine ⟨x, rfl, q (sgn x) Hi1 H1 _ z g ⟨fun i H _ hi => ?_, fun H _ => ?_, fun i H y H' Hi e1 e2 hy hi => ?_⟩⟩
    · show i < x.cps.size
      omega
    · show x.cps.size ≤ (sgn x).length
      omega
    · obtain ⟨rfl, c, hc, rfl⟩ := hy
      refine ⟨.str ⟨#[c]⟩, Hi, ?_, Gr.refl e2, .str _⟩
      unfold sgn
      rw [List.getElem?_map, Array.getElem?_toList, hc]; rfl
  | _ => exact False.elim z⟩⟩
/-- f"{a}S{b}" -/
theorem sx_fs {S : Str} {j : Nat} {p1 p3 : Pos} (ha : SX X a ρ ma) (hb : SX X b ρ mb) (hS : S.length ≤ 100 := by decide) : SX X (.JoinedStr [.FormattedValue a (-1) none p1, .Constant (.str S) j p2, .FormattedValue b (-1) none p3] pos) ρ (fsE S ma mb) := ⟨fun k B Hi H σ W tk S' rs Q q =>
  wE.of (pe_joined (.cons (pe_fmt pe_w) (.cons pe_str (.cons (pe_fmt pe_w) .nil)))) ((ha.run k) B Hi H σ W tk S' rs _ fun v d Hi1 H1 z g r => by
    obtain ⟨i, rfl, hi, z⟩ := z
    cases r
    have e1 : (Str.empty ++ toString i : Str) = toString i := TL.ext_tl (by rw [TL.tl_append]; rfl)
    have l1 : (toString i : Str).length ≤ sizeLine := int_text_fits hi
    refine .inr ⟨i, rfl, hi, _, rfl, by rw [e1]; exact l1, ?_⟩
    rw [e1]
    refine ⟨S, rfl, ?_, ?_⟩
    · rw [len_add]
      have := PyProof.Rows.int_text_len_1921 hi
      exact Nat.le_trans (Nat.add_le_add this hS) (by decide)
    refine (hb.run z) B Hi1 H1 σ W tk (S'.grow g) (rs.grow g) _ fun u d2 Hi2 H2 z2 g2 r2 => ?_
    obtain ⟨j, rfl, hj, hl, z2⟩ := z2
    cases r2
    exact .inr ⟨j, rfl, hj, _, rfl, Nat.le_trans hl (by decide), q _ _ Hi2 H2 z2 (g.trans g2) (.str _)⟩)⟩
theorem op_mulS : OpR X (binaryOp .Mult) (fun x y H Q => ∃ (a : Str) (n : Int), x = .str a ∧ y = .int n ∧ (2 ≤ n ∧ n ≤ 1000 ∧ 0 < a.length ∧ a.length ≤ 100) ∧ Q (.str ⟨(List.replicate n.toNat a.cps).foldl (· ++ ·) #[]⟩) H) := by
  intro pins s σ H x y v u Q I rx ry h
  obtain ⟨a, n, rfl, rfl, ⟨h1, h2, h3, h4⟩, q⟩ := h
  obtain ⟨t, rfl⟩ := rx
  obtain ⟨t', rfl⟩ := ry
  have h3' : ¬ n < 1 := by omega
  have h5 : (n == 1 || a.length == 0) = false := by
    rw [Bool.or_eq_false_iff]; exact ⟨by simpa using (by omega : n ≠ 1), by simpa using (by omega : a.length ≠ 0)⟩
  refine PySem.P.mul_str (by rw [Bool.or_eq_false_iff]; exact ⟨decide_eq_false (by omega), decide_eq_false (by omega)⟩) (fun _ _ => ?_) (fun _ _ => ?_) ?_
  · intro h
    have e : (100 : Int) ≤ (2 ^ 63 - 1) / n := (Int.le_ediv_iff_mul_le (by omega)).mpr (by omega)
    omega
  · unfold Builtin.Str.tooLong
    have : a.length * n.toNat ≤ 100 * 1000 := Nat.mul_le_mul h4 (by omega)
    have z : (100 * 1000 : Nat) ≤ sizeLine := by decide
    exact decide_eq_false (by omega)
  · rw [if_neg h3', if_neg (by rw [h5]; decide)]
    refine ⟨?_, .str _, H, I.tok _, ⟨_, rfl⟩, q⟩
    have : n.toNat * a.length ≤ 1000 * 100 := Nat.mul_le_mul (by omega) h4
    have z : (1000 * 100 : Nat) ≤ sizeLine := by decide
    show ((List.replicate n.toNat a.cps).foldl (· ++ ·) #[]).size ≤ sizeLine
    rw [rep_len]
    have e : a.cps.size = a.length := rfl
    rw [e]
    simp only [List.size_toArray, List.length_nil, Nat.zero_add]
    omega
/-- "S" * n -/
def repSD (x y : D) (Φ : D → Prop) : Prop := match x, y with
  | .str a, .int n => (2 ≤ n ∧ n ≤ 1000 ∧ 0 < a.length ∧ a.length ≤ 100) ∧ Φ (.str ⟨(List.replicate n.toNat a.cps).foldl (· ++ ·) #[]⟩)
  | _, _ => False
theorem od_mulS : OpD X (fun x y H Q => ∃ (a : Str) (n : Int), x = .str a ∧ y = .int n ∧ (2 ≤ n ∧ n ≤ 1000 ∧ 0 < a.length ∧ a.length ≤ 100) ∧ Q (.str ⟨(List.replicate n.toNat a.cps).foldl (· ++ ·) #[]⟩) H) (fun x y Φ => ∃ (a : Str) (n : Int), x = .str a ∧ y = .int n ∧ (2 ≤ n ∧ n ≤ 1000 ∧ 0 < a.length ∧ a.length ≤ 100) ∧ Φ (.str ⟨(List.replicate n.toNat a.cps).foldl (· ++ ·) #[]⟩)) := fun Hi H x y v u Φ s h r1 r2 Q q => by
  obtain ⟨a, n, e1, e2, c, k⟩ := h
  subst e1 e2
  cases r1; cases r2
  exact ⟨a, n, rfl, rfl, c, q _ _ Hi H k (Gr.refl s) (.str _)⟩
theorem sx_repS (ha : SX X a ρ ma) (hb : SX X b ρ mb) : SX X (.BinOp a .Mult b pos) ρ (bin repSD ma mb) :=
  sx_bin op_mulS od_mulS (fun x y Φ h => by cases x <;> cases y <;> first | exact ⟨_, _, rfl, rfl, h.1, h.2⟩ | exact False.elim h) ha hb
end
end G
namespace G
open PySem PySem.Spec L2
/-! ### [e for x in ..] where e may raise: the exception leaves the comprehension -/
section
variable {M : Model} {A : Around} {E : Value → Shared → Prop} {s : Shared} {env : Env} {outer : List Env} {base : Heap} {e L C : Addr} {Z : Obj → Prop}
/-- an exception that another place noted is noted by this frame -/
theorem looks_elsewhere {Q : Unit → Shared → Prop} (hZ : HandSPX.Steady Z) (frm : A.frames = some (env :: outer)) (loc : env.frame = some L) (ne : C ≠ L) (held : HandSPX.HeldZ base (env :: outer) e Z C s.heap)
    (k : ∀ g, HandSPX.HeldZ base (env :: outer) e Z L g → s.heap.UpToSlots g → Q () { s with heap := g }) : wpAny M A (noteFrame (.ref e) env) Q E s := by
  obtain ⟨stays, noE, funs, x, fs, t, ot, tf, hx, zx, dx, x1, nt, te, ht, dt, t3⟩ := held
  have sz3 : 3 < tf.size := (Array.getElem?_eq_some_iff.mp t3).1
  have sz1 : 1 < fs.size := (Array.getElem?_eq_some_iff.mp x1).1
  unfold noteFrame
  simp only [loc]
  refine wpAny_bind (wpAny_field hx dx x1 ?_)
  rw [if_pos (by simp : (Value.ref t != Value.none) = true)]
  refine wpAny_bind (wpAny_field ht dt t3 ?_)
  rw [if_neg (by simp only [rawInt, beq_iff_eq]; intro z; injection z with z; exact ne (by exact_mod_cast z))]
  refine wpAny_bind (wpAny_setField ht dt sz3 ?_)
  have rest : ∀ b, b ≠ t → (s.heap.update t (Obj.mapFields (·.setIfInBounds 3 Value.none))).get? b = s.heap.get? b := fun b hb => Heap.get?_update_other _ _ (Ne.symm hb)
  have notT : ∀ b ob, s.heap.get? b = some ob → (∀ vs, ob.data ≠ .fields vs) → b ≠ t := fun b ob hb nf q => by
    subst q; rw [ht] at hb; cases hb; exact nf tf dt
  have funs' := funs.of_keeps (h' := s.heap.update t (Obj.mapFields (·.setIfInBounds 3 Value.none))) fun b ob hb nf => ⟨ob, by rw [rest b (notT b ob hb nf)]; exact hb, rfl⟩
  have stays' : base.StaysIn (s.heap.update t (Obj.mapFields (·.setIfInBounds 3 Value.none))) := fun b ob hb => by
    rw [rest b (fun q => by subst q; rw [nt] at hb; cases hb)]
    exact stays b ob hb
  refine HandSPX.wpAny_entryZ hZ frm funs' loc (by rw [rest e (Ne.symm te)]; exact hx) stays' noE dx sz1 zx fun g ⟨n1, n2, n3, n4⟩ => ?_
  refine k g ⟨n1, noE, n2, n3⟩ fun b ob hb nf => ?_
  refine n4 b ob ?_ nf
  rw [rest b (notT b ob hb nf)]
  exact hb
theorem held_sameBut {l : List Env} {h h' : Heap} {m m' : Str → Option Value} (hh : HandSPX.HeldZ base l e Z L h) (hn : h.Ns C m) (hn' : h'.Ns C m') (sb : Heap.SameBut C h h') : HandSPX.HeldZ (PySem.W.hideAll base [C]) l e Z L h' := by
  obtain ⟨b1, b2, b3, x, fs, t, ot, tf, hx, zx, dx, x1, nt, te, ht, dt, t3⟩ := hh
  obtain ⟨oc, es, ep, hc, dc, _⟩ := hn
  have hide : ∀ {b}, base.get? b = none → (PySem.W.hideAll base [C]).get? b = none := fun {b} z => by
    cases q : (PySem.W.hideAll base [C]).get? b with
    | none => rfl
    | some o => rw [PySem.W.of_hideAll _ q] at z; cases z
  have eC : e ≠ C := fun q => by subst q; rw [hx] at hc; cases hc; rw [dx] at dc; cases dc
  have tC : t ≠ C := fun q => by subst q; rw [ht] at hc; cases hc; rw [dt] at dc; cases dc
  have f1 : h'.FunFrames base l := Heap.FunFrames.sameBut sb hn' b3
  have f2 : ∀ {l : List Env}, h'.FunFrames base l → h'.FunFrames (PySem.W.hideAll base [C]) l := fun {l} => by
    induction l with
    | nil => exact fun _ => trivial
    | cons y l ih => exact fun ⟨hk, ⟨F, o, hf, hb, ho, hd⟩, hr⟩ => ⟨hk, ⟨F, o, hf, hide hb, ho, hd⟩, ih hr⟩
  refine ⟨fun b o q => ?_, hide b2, f2 f1, x, fs, t, ot, tf, (sb.2 e eC).trans hx, zx, dx, x1, hide nt, te, (sb.2 t tC).trans ht, dt, t3⟩
  have bC : b ≠ C := fun z => by subst z; rw [PySem.W.hideAll_none _ List.mem_cons_self] at q; cases q
  exact (sb.2 b bC).trans (b1 b o (PySem.W.of_hideAll _ q))
end
section
variable {X : L2.Cx}
theorem raised_out {pins pins' : List (Addr × Obj)} {s3 : Shared} {H3 : Hp} {σ : L2.St} {scope : Scope} {ce : Env} {fp : List Addr} {xe : Value → Shared → Prop} {W W' : WX} {Qf : Value → Shared → Prop} {acc : Value}
    (hs : X.stack = X.env :: X.outer) (hf : X.env.frame = some X.env.locals) (cf : ce.frame = X.env.frame) (big : s3.heap.objs.size ≤ ce.locals) (I3 : Inv X pins σ H3 s3) (f3 : ∀ b ∈ fp, FpOk X pins H3 b ∧ b < s3.heap.objs.size)
    (tk : Takes X W) (hW : ∀ cls d σ' H', W' cls d σ' H' → W cls d σ H') {u : Value} {s' : Shared} (x : XE ((X.blk s3 H3 scope ce fp).tr ((X.blk s3 H3 scope ce fp).pn ++ pins') xe) W' u s') (okB : (X.blk s3 H3 scope ce fp).Ok) :
    notedBy (model X.prog X.w) X.A ce (fun e s'' => compEnds (model X.prog X.w) X.A X.xe none Qf acc ce (.error e) s'') u s' := by
  obtain ⟨a, B, sI, ps, σ', H', cls, d, rfl, I, nb, up, sky, na, os, ag, w⟩ := x
  have J := I.ofTry okB
  have J1 : Inv X pins σ H' sI := I3.call' (ch := fp) J.os J.base J.hok J.bare fun b hb => ⟨(f3 b hb).1.2.2.2.1, (f3 b hb).1.2.1, (f3 b hb).1.2.2.2.2.1, (f3 b hb).1.2.2.2.2.2⟩
  obtain ⟨m, ns, _⟩ := J.loc
  have ns : sI.heap.Ns ce.locals m := ns
  have nC : H' ce.locals = none := J.free
  obtain ⟨k0, k1, k2, k3, k4, k5⟩ := I3.fpOk (H' := H') big nC
  have frm : X.A.frames = some (X.env :: X.outer) := by rw [J1.ok.frames, hs]
  show wpAny _ _ (noteFrame (.ref a) ce) _ _ s'
  rw [noteFrame_env _ cf]
  have sky' : Sky B (X.env :: X.outer) a (Zc cls d) ce.locals s'.heap := hs ▸ sky
  have key : ∀ g, HandSPX.HeldZ B (X.env :: X.outer) a (Zc cls d) X.env.locals g → s'.heap.UpToSlots g → compEnds (model X.prog X.w) X.A X.xe none Qf acc ce (.error (.ref a)) { s' with heap := g } := fun g held ug => by
    have nsg : g.Ns ce.locals m := (up.trans ug).ns ns
    refine ⟨m, nsg, fun g2 m2 ns2 sb => ?_⟩
    have held2 := held_sameBut held nsg ns2 sb
    have x1 := held2.2.2.2
    obtain ⟨ob, fs, t, ot, tf, hx, zx, dx, x1, nt, te, ht, dt, t3⟩ := x1
    unfold passOn
    refine wpAny_bind (wpAny_field hx dx x1 ?_)
    rw [if_neg (by simp : ¬ (Value.ref t == Value.none) = true), cf, hf]
    refine wpAny_bind (HandSPX.setFlight_onZ held2 fun g3 held3 u3 => wpAny_throw (tk _ _ ?_))
    have J2 : Inv X pins σ H' { sI with heap := PySem.W.hideAll sI.heap [ce.locals], toks := sI.toks } := J1.turned (fun b o hb e => PySem.W.hideAll_get _ e (by simpa using hb)) k0 k1 k3 k4 k5
    refine ⟨a, PySem.W.hideAll B [ce.locals], _, pins, σ, H', cls, d, rfl, J2, fun b o e hb => ?_, ?_, ?_, na, os, ag, hW _ _ _ _ w⟩
    · have bC : b ≠ ce.locals := fun z => by
        subst z
        have e' : (PySem.W.hideAll sI.heap [ce.locals]).get? ce.locals = some o := e
        rw [PySem.W.hideAll_none _ List.mem_cons_self] at e'; cases e'
      exact PySem.W.hideAll_get _ (nb b o (PySem.W.of_hideAll _ e) hb) (by simpa using bC)
    · intro b o e nf
      have e' : (PySem.W.hideAll sI.heap [ce.locals]).get? b = some o := e
      have bC : b ≠ ce.locals := fun z => by
        subst z
        rw [PySem.W.hideAll_none _ List.mem_cons_self] at e'; cases e'
      obtain ⟨sl, e2⟩ := (up.trans ug) b o (PySem.W.of_hideAll _ e') nf
      obtain ⟨sl2, e3⟩ := u3 b _ ((sb.2 b bC).trans e2) nf
      exact ⟨sl2, e3⟩
    · rw [hs]
      exact .inr (.inr held3)
  rcases sky' with ⟨hB, hn, hl, oe, vs, he, hz, hd, h1⟩ | fl | hd
  · exact HandSPX.look_newZ Zc.steady frm hl hf he hB hn hd h1 hz key
  · exact HandSPX.looks_onZ Zc.steady frm hf fl key
  · by_cases q : ce.locals = X.env.locals
    · rw [q] at hd
      exact HandSPX.againZ hf hd.2.2.2 (key s'.heap hd (Heap.UpToSlots.refl _))
    · exact looks_elsewhere Zc.steady frm hf q hd key
end
end G
namespace G
open PySem PySem.Spec L2
section
variable {X : L2.Cx}
/-- an element of the block, whatever its exceptions are taken to be -/
def bEX (X : L2.Cx) (scope : Scope) (W' : WX) (e : Expr) : TE := fun σ H Q => ∀ (t : Shared) (G : Hp) (C : Addr) (cl : List (Str × Addr)) (fp : List Addr) (pn : List (Addr × Obj)) (xe : Value → Shared → Prop), Takes ((BlkX X scope t G C cl fp).tr pn xe) W' → wE ((BlkX X scope t G C cl fp).tr pn xe) e σ H Q
def tLcX (X : L2.Cx) (scope : Scope) (W : WX) (e : Expr) (wi : TI) (g : TG) (vs : List Nat) : TE := fun σ H Q => wi σ H fun J H1 => ∀ Da, H1 Da = none → ∃ V : Nat → Nat → Hp → Prop, (∃ m, V 0 m (upd H1 Da (.lst []))) ∧ ∀ i m H2, V i m H2 →
  (J.stop i H2 ∧ Q (.ref Da) H2) ∨ (J.go i H2 ∧ ∃ Nx : Hp → Prop, (∀ H3, Nx H3 → ∃ m', m' < m ∧ V (i + 1) m' H3) ∧ ∀ x H3, J.yld i H2 x H3 → g x (L2.wipe σ vs) H3 fun σ2 H4 => L2.wipe σ2 vs = L2.wipe σ vs ∧
    bEX X scope (fun cls d _ H' => W cls d σ H') e σ2 H4 fun y H5 => ∃ acc, H5 Da = some (.lst acc) ∧ acc.length < sizeLine ∧ Nx (upd H5 Da (.lst (acc ++ [y]))))
theorem lcX_core {pins : List (Addr × Obj)} {s : Shared} {σ : L2.St} {H : Hp} {Q : VK} {elt tg iter : Expr} {scope : Scope} {own : List (Str × Nat)} {pos pos' : Pos} {wi : TI} {g : TG} {W : WX}
    (hs : X.stack = X.env :: X.outer) (hf : X.env.frame = some X.env.locals) (tk : Takes X W) (calm : X.calm = true) (nd : X.N.Nodup) (I : Inv X pins σ H s) (pi : PI X tg iter wi) (ok : BlkOk X.N X.env.scope scope own)
    (jg : ∀ (t : Shared) (G : Hp) (C : Addr) (cl : List (Str × Addr)) (fp : List Addr), PG (X.blk t G scope (compEnvC scope cl C X.env) fp) tg g) (fold : ∀ x, foldedSetIterable iter X.env x = pure x) (h : tLcX X scope W elt wi g (own.map (·.2)) σ H Q) :
    wpAny (model X.prog X.w) X.A (comprehension (.ListComp elt [⟨tg, iter, [], 0⟩] scope pos) scope X.env pos' (newList []) false (eval iter X.env) none) (EP X pins σ Q) X.xe s := by
  have frees : ∀ y ∈ scope.names, y.2 = .free → ∃ c, X.env.cells.lookup y.1 = some c := fun y hy e => (ok.free y hy e).elim (fun k => I.ok.has _ (.inl k)) fun k => I.ok.has _ (.inr k)
  refine comprehension_at (use := none) rfl fold (closure_ok frees) ok.kind (fun y hy e => by rw [ok.uniq y hy, e]) (thn (pi.run pins s σ H _ I h) fun xv s1 q1 => thn q1 fun itv s2 q2 => ?_)
  obtain ⟨it, fp, tn, J, H2, rfl, I2, T, st2, f2, q⟩ := q2
  refine wpAny_newObj_type (newEnv_comp ?_) (Nat.zero_le sizeLine)
  generalize eD : s2.heap.objs.size = Da
  have nD : H2 Da = none := I2.hok.fresh (Nat.le_of_eq eD)
  obtain ⟨V, ⟨m0, v0⟩, turn⟩ := q Da nD
  generalize e3 : ({ s2 with heap := s2.heap.push { cls := .type "list", data := .seq ([] : List Value).toArray } } : Shared) = s3
  have k3 : s3.heap = s2.heap.push { cls := .type "list", data := .seq ([] : List Value).toArray } := by rw [← e3]
  have I3 : Inv X pins σ (upd H2 Da (.lst [])) s3 := by
    rw [← e3]
    refine I2.laid (t' := s2.toks) (fun c ob z => Heap.get?_push_of_some _ z) (Nat.le_of_eq eD) ⟨Nat.zero_le _, [], 0, .nil, ?_⟩
    rw [← eD]
    exact Heap.get?_push_size _ rfl
  have old : ∀ c ∈ fp, c < s2.heap.objs.size := fun c hc => (T.obj _ _ st2 c hc).elim fun ob z => Heap.lt_size z.1
  generalize eH3 : upd H2 Da (.lst []) = H3 at I3 v0
  have f3 : ∀ c ∈ fp, FpOk X pins H3 c ∧ c < s3.heap.objs.size := fun c hc => by
    have lt := old c hc
    refine ⟨⟨?_, (f2 c hc).2⟩, by rw [k3, Heap.size_push]; exact Nat.lt_succ_of_lt lt⟩
    rw [← eH3, upd_ne (by rw [← eD]; exact Nat.ne_of_lt lt)]
    exact (f2 c hc).1
  have st3 : tn 0 s3.heap := T.keep _ _ _ st2 fun c _ ob z => by rw [k3]; exact Heap.get?_push_of_some _ z
  have I4 := block_start I3 ok nd f3
  have pg := jg s3 H3 s3.heap.objs.size (cellsFrom (s3.heap.objs.size + 1) scope.names (cloFrom X.env.cells scope.names [])) fp
  show codeAny _ _ (.compStart _ 0 (.ref it) (.ref Da) (compEnvC scope (cellsFrom (s3.heap.objs.size + 1) scope.names (cloFrom X.env.cells scope.names [])) s3.heap.objs.size X.env))
    (compEnds (model X.prog X.w) X.A X.xe none (EP X pins σ Q) (.ref Da) (compEnvC scope (cellsFrom (s3.heap.objs.size + 1) scope.names (cloFrom X.env.cells scope.names [])) s3.heap.objs.size X.env)) { s3 with heap := pushCells (s3.heap.push { cls := .type "dict", data := .dict #[] }) scope.names }
  have elG : ∀ (σ2 : L2.St) (H4 : Hp) (R : VK), bEX X scope (fun cls d _ H' => W cls d σ H') elt σ2 H4 R → ∀ pn xe, Takes ((X.blk s3 H3 scope (compEnvC scope (cellsFrom (s3.heap.objs.size + 1) scope.names (cloFrom X.env.cells scope.names [])) s3.heap.objs.size X.env) fp).tr pn xe) (fun cls d _ H' => W cls d σ H') →
      wE ((X.blk s3 H3 scope (compEnvC scope (cellsFrom (s3.heap.objs.size + 1) scope.names (cloFrom X.env.cells scope.names [])) s3.heap.objs.size X.env) fp).tr pn xe) elt σ2 H4 R := fun σ2 H4 R z pn xe t => z s3 H3 _ _ fp pn xe t
  have cf : (compEnvC scope (cellsFrom (s3.heap.objs.size + 1) scope.names (cloFrom X.env.cells scope.names [])) s3.heap.objs.size X.env).frame = X.env.frame := rfl
  have cL : (compEnvC scope (cellsFrom (s3.heap.objs.size + 1) scope.names (cloFrom X.env.cells scope.names [])) s3.heap.objs.size X.env).locals = s3.heap.objs.size := rfl
  generalize eE : compEnvC scope (cellsFrom (s3.heap.objs.size + 1) scope.names (cloFrom X.env.cells scope.names [])) s3.heap.objs.size X.env = ce at I4 pg elG cf cL ⊢
  generalize e4 : ({ s3 with heap := pushCells (s3.heap.push { cls := .type "dict", data := .dict #[] }) scope.names } : Shared) = s4 at I4 ⊢
  have st4 : tn 0 s4.heap := T.keep _ _ _ st3 fun c _ ob z => by rw [← e4]; exact pushCells_keeps _ _ _ _ (Heap.get?_push_of_some _ z)
  have fpk : ∀ {σ' : L2.St} {H' : Hp} {s' : Shared}, Inv (X.blk s3 H3 scope ce fp) [] σ' H' s' → (∀ c ∈ fp, H' c = none) → ∀ c ∈ fp, FpOk (X.blk s3 H3 scope ce fp) [] H' c := fun {σ' H' s'} J' n c hc =>
    ⟨n c hc, (J'.ok.exf c hc).1, J'.ok.exfs c hc, .inl hc, fun x d e => (J'.ok.exf c hc).2 x d e, fun p hp => absurd (show p ∈ ([] : List (Addr × Obj)) ++ [] from hp) (by simp)⟩
  have whole : codeAny (model X.prog X.w) X.A (.compLoop (.ListComp elt [⟨tg, iter, [], 0⟩] scope pos) 0 (.ref it) (.ref Da) ce) (compEnds (model X.prog X.w) X.A X.xe none (EP X pins σ Q) (.ref Da) ce) s4 := by
    refine compLoop_any (fun n s' => ∃ i H', Inv (X.blk s3 H3 scope ce fp) [] (L2.wipe σ (own.map (·.2))) H' s' ∧ tn i s'.heap ∧ (∀ c ∈ fp, H' c = none) ∧ V i n H') (fun n s5 ⟨i, H5, I5, st5, n5, v5⟩ => ?_) m0 ⟨0, H3, I4, st4, fun c hc => (f3 c hc).1.1, v0⟩
    rcases turn i n H5 v5 with ⟨stop, qq⟩ | ⟨go, Nx, hNx, step⟩
    · refine thnF (T.done (X.blk s3 H3 scope ce fp) rfl rfl rfl calm i [] s5 _ H5 (fun _ _ => False) I5 (fpk I5 n5) st5 stop) fun r s6 ⟨hr, I6⟩ => ?_
      subst hr
      have I7 : Inv X pins σ H5 s6 := I3.call' (ch := fp) I6.os I6.base I6.hok I6.bare fun c hc => ⟨(f3 c hc).1.2.2.2.1, (f3 c hc).1.2.1, (f3 c hc).1.2.2.2.2.1, (f3 c hc).1.2.2.2.2.2⟩
      have nC : H5 ce.locals = none := I6.free
      obtain ⟨m, hn, _⟩ := I6.loc
      obtain ⟨k0, k1, k2, k3, k4, k5⟩ := I3.fpOk (H' := H5) (Nat.le_of_eq cL.symm) nC
      exact ⟨m, hn, fun h'' sb => ⟨.ref Da, H5, I7.turned (t' := s6.toks) (fun c ob hc z => (sb.2 c hc).trans z) k0 k1 k3 k4 k5, rfl, qq⟩⟩
    · refine thnF (T.item (X.blk s3 H3 scope ce fp) rfl rfl rfl calm i [] s5 _ H5 (fun _ _ => False) I5 (fpk I5 n5) st5 go) fun r s6 ⟨u, hr, q6⟩ => ?_
      subst hr
      refine thnF q6 fun _ s7 ⟨x, H7, I7, r7, y7, st7, n7⟩ => ?_
      refine thnF (pg.run _ s7 _ H7 x u _ (I7.pinned (fpk I7 n7) (T.obj _ _ st7)) r7 (step x H7 y7)) fun _ s8 ⟨σ8, H8, I8, hw8, q8⟩ => wpAny_tests_nil ?_
      simp only [if_true]
      have fin : ∀ {s' : Shared} {H' : Hp}, Inv (X.blk s3 H3 scope ce fp) ([] ++ pinsAt fp s7.heap) σ8 H' s' → Nx H' → ∃ m, m < n ∧ ∃ i H', Inv (X.blk s3 H3 scope ce fp) [] (L2.wipe σ (own.map (·.2))) H' s' ∧ tn i s'.heap ∧ (∀ c ∈ fp, H' c = none) ∧ V i m H' := fun {s' H'} J nx => by
        obtain ⟨m', lt, v'⟩ := hNx H' nx
        have pin : ∀ c ∈ fp, ∀ ob, s7.heap.get? c = some ob → s'.heap.get? c = some ob ∧ H' c = none := fun c hc ob z => (J.pin (c, ob) (List.mem_append_right _ (List.mem_append_right _ (mem_pinsAt hc z)))).imp id fun z => z.1
        refine ⟨m', lt, i + 1, H', (J.unpinned (pins := [])).weak (by rw [← hw8, wipe_length]) (fun j v e => ?_), T.keep _ _ _ st7 fun c hc ob z => (pin c hc ob z).1, fun c hc => (T.obj _ _ st7 c hc).elim fun ob z => (pin c hc ob z.1).2, v'⟩
        rw [← hw8] at e
        exact (wipe_some e).1
      have taken : Takes ((X.blk s3 H3 scope ce fp).tr ((X.blk s3 H3 scope ce fp).pn ++ ([] ++ pinsAt fp s7.heap)) (notedBy (model X.prog X.w) X.A ce fun e s'' => compEnds (model X.prog X.w) X.A X.xe none (EP X pins σ Q) (.ref Da) ce (.error e) s'')) (fun cls d _ H' => W cls d σ H') := fun u s' x =>
        raised_out hs hf cf (Nat.le_of_eq cL.symm) I3 f3 tk (fun _ _ _ _ z => z) x I8.ok
      have el := elG σ8 H8 _ q8 _ _ taken [] s8 (I8.toTry _)
      refine wpAny_mono el (fun z s10 ⟨yv, H10, I10, r10, acc, hD10, hz10, nx⟩ => ?_) fun _ _ z => z
      exact app_ok (X := X.blk s3 H3 scope ce fp) (I10.ofTry I8.ok) hD10 hz10 r10 fun s11 I11 => fin I11 nx
  exact codeAny_compStart_list whole (T.self X.A 0 _ _ _ st4 whole)
end
/-! ### the same, of data -/
def lcLX (f : D → M) (Ψ : Str → Prop) : List D → List D → (List D → Prop) → Prop
  | [], acc, k => k acc
  | x :: xs, acc, k => f x (fun y => lcLX f Ψ xs (acc ++ [y]) k) Ψ
def lcX (it : MA) (f : D → M) : M := fun Φ Ψ => it (fun ds => ds.length ≤ 100000 ∧ lcLX f Ψ ds [] fun ys => Φ (.lst ys)) Ψ
section
variable {X : L2.Cx} {ρ : List Sl} {pos : Pos}
theorem lcX_go {scope : Scope} {vs : List Nat} {tg elt : Expr} {ds : List D} {f : D → M} {Φ : D → Prop} {Ψ : Str → Prop} {B Hi1 H1 : Hp} {σ : L2.St} {Q : VK} {J : It} {W : WX} (hl : ds.length ≤ 100000) (hds : lcLX f Ψ ds [] fun ys => Φ (.lst ys))
    (L : ∀ d K, f d K Ψ → ∃ ρ', QGb X scope vs tg d (wipeS ρ vs) ρ' ∧ ∀ t G C cl fp pn xe, QX ((BlkX X scope t G C cl fp).tr pn xe) Ψ elt ρ' K) (S : StOk X.K B Hi1 H1 σ ρ) (rs : Rs X Ψ Hi1 H1 σ W) (wk : Walks X.K J Hi1 ds)
    (q : ∀ v d Hi' H', Φ d → Gr Hi1 H1 Hi' H' → Rp X.K Hi' v d → Q v H') : ∀ Da, H1 Da = none → ∃ V : Nat → Nat → Hp → Prop, (∃ m, V 0 m (upd H1 Da (.lst []))) ∧ ∀ i m H2, V i m H2 →
      (J.stop i H2 ∧ Q (.ref Da) H2) ∨ (J.go i H2 ∧ ∃ Nx : Hp → Prop, (∀ H3, Nx H3 → ∃ m', m' < m ∧ V (i + 1) m' H3) ∧ ∀ x H3, J.yld i H2 x H3 → bG X scope tg x (L2.wipe σ vs) H3 fun σ2 H4 => L2.wipe σ2 vs = L2.wipe σ vs ∧
        bEX X scope (fun cls d _ H' => W cls d σ H') elt σ2 H4 fun y H5 => ∃ acc, H5 Da = some (.lst acc) ∧ acc.length < sizeLine ∧ Nx (upd H5 Da (.lst (acc ++ [y])))) := by
  intro Da hD
  refine ⟨fun i m H => m = ds.length - i ∧ i ≤ ds.length ∧ ∃ Hi2 accV acc, lcLX f Ψ (ds.drop i) acc (fun ys => Φ (.lst ys)) ∧ acc.length ≤ i ∧ Gr Hi1 H1 Hi2 H ∧ Hi2 Da = none ∧ H Da = some (.lst accV) ∧ RpA X.K Hi2 accV acc,
    ⟨ds.length, by simp, Nat.zero_le _, Hi1, [], [], by simpa using hds, Nat.le_refl _, Gr.out S.sub (Ex.new hD), S.sub.free hD, upd_same, .nil⟩, ?_⟩
  rintro i m H ⟨rfl, hi, Hi2, accV, acc, hI, hle, g2, n2, x2, r2⟩
  by_cases hlt : i < ds.length
  · refine .inr ⟨wk.go i H (g2.i.trans g2.sub) hlt, _, fun H' p => ⟨ds.length - (i + 1), by omega, rfl, hlt, p⟩, fun x H' y => ?_⟩
    obtain ⟨d, Hi3, hd, g3, r3⟩ := wk.yld i H x H' Hi2 g2.i g2.sub y hlt
    obtain ⟨_, ed⟩ := List.getElem?_eq_some_iff.mp hd
    rw [List.drop_eq_getElem_cons hlt, ed] at hI
    obtain ⟨ρ', hg, he⟩ := L d _ hI
    have g23 := g2.trans g3
    have keepD : ∀ {Hj Hk : Hp}, Gr Hi2 H Hj Hk → Hj Da = none := fun {Hj Hk} g => by
      cases z : Hj Da with
      | none => rfl
      | some u => rw [g.new Da n2 ⟨u, z⟩] at x2; cases x2
    refine hg B Hi3 H' _ x ((S.wipe vs).grow g23) r3 _ fun σ2 S2 hw => ⟨by rw [hw, wipe_wipe], fun t G C cl fp pn xe tkx => ?_⟩
    refine he t G C cl fp pn xe B Hi3 H' σ2 _ tkx S2 (fun z Hj Hk hz g => rs z Hj Hk hz (g23.trans g)) _ fun yv dy Hi4 H4 hz g4 r4 => ?_
    have g24 := g3.trans g4
    have hD4 := keepD g24
    refine ⟨accV, g24.o _ _ x2, by rw [r2.length]; exact Nat.lt_of_le_of_lt (show acc.length ≤ 100000 by omega) (by decide), Hi4, accV ++ [yv], acc ++ [dy], hz, by simp; omega, ⟨g2.i.trans g24.i, fun c u z => ?_, fun c u z => ?_, fun c z1 z2 => (g2.trans g24).new c z1 z2⟩, hD4, upd_same, (r2.up g24.i).app (.cons r4 .nil)⟩
    · rw [upd_ne (ne_of_none z hD)]; exact (g2.trans g24).o c u z
    · rw [upd_ne (ne_of_none z hD4)]; exact g4.sub c u z
  · have e : i = ds.length := by omega
    subst e
    rw [List.drop_length] at hI
    refine .inl ⟨wk.stop H (g2.i.trans g2.sub), q _ (.lst acc) (upd Hi2 Da (.lst accV)) H hI ⟨g2.i.trans (Ex.new n2), g2.o, fun c u z => ?_, fun c z1 z2 => ?_⟩ (.lst upd_same (r2.up (Ex.new n2)))⟩
    · by_cases h : c = Da
      · subst h; rw [upd_same] at z; cases z; exact x2
      · rw [upd_ne h] at z; exact g2.sub c u z
    · by_cases h : c = Da
      · subst h; exact hD
      · obtain ⟨u, z⟩ := z2
        rw [upd_ne h] at z
        exact g2.new c z1 ⟨u, z⟩
variable {scope : Scope} {own : List (Str × Nat)} {tg elt iter : Expr} {mi : MA} {f : D → M}
theorem sx_lcX (hN : X.N.Nodup) (ok : BlkOk X.N X.env.scope scope own) (hi : SI X tg iter ρ mi)
    (hb : ∀ d, ∃ ρ', QGb X scope (own.map (·.2)) tg d (wipeS ρ (own.map (·.2))) ρ' ∧ ∀ t G C cl fp pn xe, SX ((BlkX X scope t G C cl fp).tr pn xe) elt ρ' (f d)) (hc : X.calm = true := by rfl) (hs : ∀ x, foldedSetIterable iter X.env x = pure x := by intro _; rfl)
    (hst : X.stack = X.env :: X.outer := by rfl) (hfr : X.env.frame = some X.env.locals := by rfl) : SX X (.ListComp elt [⟨tg, iter, [], 0⟩] scope pos) ρ (lcX mi f) := ⟨fun {Φ Ψ} h => by
  obtain ⟨wi, hpi, h⟩ := hi.run h
  intro B Hi H σ W tk S rs Q q pins s I
  rw [eval_ListComp]
  refine lcX_core (wi := wi) hst hfr tk hc hN I hpi ok (fun t G C cl fp => pg_b t G C cl fp) hs ?_
  refine h B Hi H σ W tk S rs _ fun ds Hi1 H1 J z g wk => lcX_go z.1 z.2 (fun d K hK => ?_) (S.grow g) (rs.grow g) wk fun v d Hi' H' hz g' r => q v d Hi' H' hz (g.trans g') r
  obtain ⟨ρ', h1, h2⟩ := hb d
  exact ⟨ρ', h1, fun t G C cl fp pn xe => (h2 t G C cl fp pn xe).run hK⟩⟩
end
end G
namespace G
open PySem PySem.Spec L2
/-! ### the hook over addresses that are written out (no search: the search takes the kernel 6 GB) -/
def obsGA (as : List Addr) (cs : List (Str × D)) (fa : List He.Fa) (fn : List He.DefD) (g : Addr → Option Obj) : AlG := obsG cs fa fn (He.frG g as)
def hookA (as : List Addr) (cs : List (Str × D)) (fa : List He.Fa) (fn : List He.DefD) : PySem.W.Hook where
  α := AlG
  obs := fun s => obsGA as cs fa fn s.heap.get?
  val := fun _ => (true, He.valD fn)
  says := fun _ h => ∃ K : PySem.W.Frag, K.In h ∧ SaysG cs fa fn K
  of := fun _ _ e => ⟨_, He.frG_in, congrArg (fun z : AlG => z.1) e, congrArg (fun z : AlG => z.2) e⟩
  keeps := fun _ _ _ ⟨K, hK, c⟩ k => ⟨K, PySem.W.Frag.In.keeps hK k, c⟩
theorem obsGA_eq {as : List Addr} {cs : List (Str × D)} {fa : List He.Fa} {fn : List He.DefD} {g : Addr → Option Obj} {s : Shared} (h : ∀ a, g a = s.heap.get? a) : obsGA as cs fa fn g = (hookA as cs fa fn).obs s := by
  have e : g = s.heap.get? := funext h
  rw [e] <;> rfl
theorem run_two {σ α β γ : Type} {o : Option σ} {f : σ → α} {g : σ → β} {h : σ → γ} {a : α} {b : β} {c : γ} (h1 : o.map (fun s => (f s, g s)) = some (a, b)) (h2 : o.map (fun s => h s) = some c) : o.map (fun s => (f s, g s, h s)) = some (a, b, c) := by
  cases o with
  | none => cases h1
  | some s =>
    have e1 : (f s, g s) = (a, b) := Option.some.inj h1
    have e2 : h s = c := Option.some.inj h2
    have e3 : f s = a := congrArg (·.1) e1
    have e4 : g s = b := congrArg (·.2) e1
    rw [Option.map_some, e3, e4, e2]
end G
namespace G
open PySem PySem.NumText TL
/-! ### signs: a whole number's, read and written -/
abbrev Sg := List Nat
def iT (i : Int) : Sg := if i < 0 then 45 :: numL i.natAbs else numL i.natAbs
theorem iT_tl (i : Int) : tl (Str.ofString (toString i)) = iT i := by
  cases i with
  | ofNat n =>
    have h : ¬ (Int.ofNat n < 0) := by simp
    unfold iT
    rw [if_neg h]
    exact tl_num n
  | negSucc n =>
    have h : Int.negSucc n < 0 := Int.negSucc_lt_zero n
    unfold iT
    rw [if_pos h, tl_ofString]
    have e : (toString (Int.negSucc n)).toList = '-' :: (Nat.repr (n + 1)).toList := by
      show (Int.repr (Int.negSucc n)).toList = _
      unfold Int.repr
      simp
    rw [e, List.map_cons]
    show 45 :: _ = 45 :: numL (n + 1)
    have e2 := tl_num (n + 1)
    rw [tl_ofString] at e2
    exact congrArg _ e2
def Dg (l : Sg) : Bool := l.all fun c => decide (48 ≤ c ∧ c ≤ 57)
theorem dg_iff {l : Sg} : Dg l = true ↔ AllDigits l := by
  unfold Dg AllDigits
  simp
def wholeP (l : Sg) : Option Int :=
  let f := if l.head? = some 45 then l.tail else l
  if f = [] ∨ 30 < f.length ∨ Dg f = false then none
  else if f.head? = some 48 ∧ l ≠ [48] then none
  else some (if l.head? = some 45 then -(digitsVal f : Int) else (digitsVal f : Int))
theorem ofNat_back {c : Nat} (h : 48 ≤ c ∧ c ≤ 57) : (Char.ofNat c).toNat = c := by
  have : c = 48 ∨ c = 49 ∨ c = 50 ∨ c = 51 ∨ c = 52 ∨ c = 53 ∨ c = 54 ∨ c = 55 ∨ c = 56 ∨ c = 57 := by omega
  rcases this with rfl | rfl | rfl | rfl | rfl | rfl | rfl | rfl | rfl | rfl <;> rfl
theorem back_map : ∀ {f : Sg}, AllDigits f → (f.map Char.ofNat).map Char.toNat = f
  | [], _ => rfl
  | c :: f, h => by
    rw [List.map_cons, List.map_cons, ofNat_back h.head, back_map h.tail]
theorem numL_back {f : Sg} (h : AllDigits f) (ne : f ≠ []) (hd : f.length = 1 ∨ f.head? ≠ some 48) : numL (digitsVal f) = f := by
  unfold numL
  cases f with
  | nil => exact absurd rfl ne
  | cons c r =>
    rw [toDigits_digitsVal r.length (c :: r) rfl h ?_, back_map h]
    rcases hd with e | e
    · left; simpa using e
    · right
      refine ⟨c, r, rfl, ?_⟩
      have := h.head
      have e' : c ≠ 48 := fun z => e (by rw [z]; rfl)
      omega
theorem val_lt : ∀ (f : Sg) (a : Nat), AllDigits f → f.foldl (fun acc c => acc * 10 + (c - 48)) a < (a + 1) * 10 ^ f.length
  | [], a, _ => by simp
  | c :: f, a, h => by
    have ih := val_lt f (a * 10 + (c - 48)) h.tail
    have hc := h.head
    rw [List.foldl_cons, List.length_cons, Nat.pow_succ]
    refine Nat.lt_of_lt_of_le ih ?_
    have : a * 10 + (c - 48) + 1 ≤ (a + 1) * 10 := by omega
    calc _ ≤ ((a + 1) * 10) * 10 ^ f.length := Nat.mul_le_mul_right _ this
      _ = _ := by rw [Nat.mul_assoc, Nat.mul_comm 10]
theorem val_lt30 {f : Sg} (h : AllDigits f) (hl : f.length ≤ 30) : digitsVal f < 10 ^ 30 := by
  have := val_lt f 0 h
  rw [Nat.zero_add, Nat.one_mul] at this
  exact Nat.lt_of_lt_of_le this (Nat.pow_le_pow_right (by decide) hl)
theorem val_pos {f : Sg} (h : AllDigits f) (ne : f ≠ []) (hd : f.head? ≠ some 48) : 0 < digitsVal f := by
  cases f with
  | nil => exact absurd rfl ne
  | cons c r =>
    have := h.head
    have e' : c ≠ 48 := fun z => hd (by rw [z]; rfl)
    exact digitsVal_pos (by omega)
theorem whole_back {l : Sg} {i : Int} (h : wholeP l = some i) : iT i = l ∧ i.natAbs < 10 ^ 30 := by
  unfold wholeP at h
  simp only at h
  generalize hf : (if l.head? = some 45 then l.tail else l) = f at h
  by_cases h1 : f = [] ∨ 30 < f.length ∨ Dg f = false
  · rw [if_pos h1] at h; cases h
  rw [if_neg h1] at h
  by_cases h2 : f.head? = some 48 ∧ l ≠ [48]
  · rw [if_pos h2] at h; cases h
  rw [if_neg h2] at h
  have n1 : f ≠ [] := fun z => h1 (.inl z)
  have n2 : ¬ 30 < f.length := fun z => h1 (.inr (.inl z))
  have n3 : ¬ Dg f = false := fun z => h1 (.inr (.inr z))
  have hd : AllDigits f := dg_iff.mp (by simpa using n3)
  have lt := val_lt30 hd (by omega)
  cases l with
  | nil => simp at hf; exact absurd hf n1
  | cons c r =>
    by_cases e : c = 45
    · subst e
      simp only [List.head?_cons, if_true, List.tail_cons] at hf h
      subst hf
      have h48 : r.head? ≠ some 48 := fun z => h2 ⟨z, by simp⟩
      have hp := val_pos hd n1 h48
      have e1 := numL_back hd n1 (.inr h48)
      have e2 := (Option.some.inj h).symm
      subst e2
      unfold iT
      rw [if_pos (by omega)]
      refine ⟨?_, by omega⟩
      rw [show (-(digitsVal r : Int)).natAbs = digitsVal r by omega, e1]
    · have hne : (c :: r).head? ≠ some 45 := fun z => e (by simpa using z)
      rw [if_neg hne] at hf h
      subst hf
      have e2 := (Option.some.inj h).symm
      subst e2
      unfold iT
      rw [if_neg (by omega)]
      refine ⟨?_, by omega⟩
      rw [show ((digitsVal (c :: r) : Nat) : Int).natAbs = digitsVal (c :: r) by omega]
      by_cases q : c :: r = [48]
      · rw [q]; exact numL_back (by rw [← q]; exact hd) (by simp) (.inl rfl)
      · exact numL_back hd (by simp) (.inr fun z => h2 ⟨z, q⟩)
theorem numL_head : ∀ {n : Nat}, 0 < n → (numL n).head? ≠ some 48 := fun {n} => by
  induction n using Nat.strongRecOn with
  | _ n ih =>
    intro h
    by_cases h10 : n < 10
    · rw [numL_lt h10]
      simp only [List.head?_cons, ne_eq, Option.some.injEq]
      omega
    · rw [numL_step (by omega)]
      have := ih (n / 10) (by omega) (by omega)
      cases e : numL (n / 10) with
      | nil => exact absurd e (numL_ne _)
      | cons c r => rw [e] at this; exact this
theorem numL_n45 {n : Nat} : (numL n).head? ≠ some 45 := fun z => by
  have h := numL_digits n
  cases e : numL n with
  | nil => rw [e] at z; cases z
  | cons c r =>
    rw [e] at z h
    have := h.head
    simp at z; omega
theorem whole_of {i : Int} (h : i.natAbs < 10 ^ 30) : wholeP (iT i) = some i := by
  have hl := numL_len (n := i.natAbs) (k := 30) (by decide) h
  have hd := dg_iff.mpr (numL_digits i.natAbs)
  have hv := numL_val i.natAbs
  have ne := numL_ne i.natAbs
  unfold iT
  by_cases h0 : i < 0
  · rw [if_pos h0]
    unfold wholeP
    simp only [List.head?_cons, if_true, List.tail_cons]
    rw [if_neg (by rintro (z | z | z)
                   · exact ne z
                   · omega
                   · rw [hd] at z; cases z), if_neg (fun z => numL_head (by omega) z.1), hv]
    congr 1; omega
  · rw [if_neg h0]
    unfold wholeP
    simp only [numL_n45, if_false]
    rw [if_neg (by rintro (z | z | z)
                   · exact ne z
                   · omega
                   · rw [hd] at z; cases z), if_neg ?_, hv]
    · congr 1; omega
    · rintro ⟨z, q⟩
      by_cases e : i.natAbs = 0
      · rw [e] at q; exact q (by decide)
      · exact numL_head (by omega) z
theorem iT_free {i : Int} {s : Nat} (h : s ≠ 45) (h2 : s < 48 ∨ 57 < s) : s ∉ iT i := by
  unfold iT
  split
  · intro z
    rcases List.mem_cons.mp z with z | z
    · exact h z
    · exact numL_free h2 z
  · exact numL_free h2
/-! ### cut at a sign -/
theorem spl_ne (S : Sg) : ∀ (l : Sg) (k : Nat) (acc : Sg), spl S k acc l ≠ []
  | [], k, acc => by rw [spl_nil]; simp
  | c :: l, 0, acc => by
    by_cases h : pre S (c :: l) = true
    · rw [spl_hit h]; simp
    · rw [spl_miss (by simpa using h)]; exact spl_ne S l 0 _
  | c :: l, k + 1, acc => by
    rw [spl_pass]
    show spl S 0 acc (l.drop k) ≠ []
    have := spl_ne S (l.drop k) 0 acc
    exact this
termination_by l => l.length
decreasing_by
  all_goals simp_wf
  all_goals try omega
theorem joinL_cons {S p : Sg} {r : List Sg} (h : r ≠ []) : joinL S (p :: r) = p ++ (S ++ joinL S r) := by
  cases r with
  | nil => exact absurd rfl h
  | cons q r => rfl
theorem join_spl {s : Nat} : ∀ (l acc : Sg), joinL [s] (spl [s] 0 acc l) = acc ++ l
  | [], acc => by rw [spl_nil]; simp [joinL]
  | c :: l, acc => by
    by_cases h : pre [s] (c :: l) = true
    · have e : c = s := by
        unfold pre at h
        simpa using h
      subst e
      rw [spl_hit h]
      show joinL [c] (acc :: spl [c] 0 [] l) = _
      rw [joinL_cons (spl_ne _ _ _ _), join_spl l []]
      simp
    · rw [spl_miss (by simpa using h), join_spl l]
      simp
theorem cut_back {s : Nat} {l : Sg} {ps : List Sg} (h : spl [s] 0 [] l = ps) : joinL [s] ps = l := by rw [← h, join_spl]; rfl
theorem split_tl {x y : Str} {s : Nat} (hy : tl y = [s]) (hs : s < 256) : (Txt.split x y).map tl = spl [s] 0 [] (tl x) := by
  have := split_spl x y (by rw [hy]; simp) (kind_ok (by
    rw [← Array.all_toList]
    show (tl y).all _ = true
    rw [hy]; simpa using hs))
  rw [this, hy]
theorem join_tl {y : Str} {s : Nat} (hy : tl y = [s]) (ps : List Str) : tl (Txt.join y ps) = joinL [s] (ps.map tl) := by rw [join_eq, tl_join, hy]
theorem slice1_tl (z : Str) : tl (Txt.slice z none (some 1)) = (tl z).take 1 := by
  rw [← C8.cutS_slice]
  show ((tl z).drop (HT.sIx z.length 0 none)).take (HT.sIx z.length z.length (some 1) - HT.sIx z.length 0 none) = _
  rw [HT.sIx_none, show (some (1 : Int)) = some ((1 : Nat) : Int) from rfl, HT.sIx_nat, List.drop_zero, Nat.sub_zero]
  by_cases h : 1 ≤ z.length
  · rw [Nat.min_eq_left h]
  · rw [len_tl] at h ⊢
    rw [show tl z = [] from List.length_eq_zero_iff.mp (by omega)]; simp
theorem slice2_tl (z : Str) : tl (Txt.slice z (some 1) none) = (tl z).drop 1 := by
  rw [← C8.cutS_slice]
  show ((tl z).drop (HT.sIx z.length 0 (some 1))).take (HT.sIx z.length z.length none - HT.sIx z.length 0 (some 1)) = _
  rw [HT.sIx_none, show (some (1 : Int)) = some ((1 : Nat) : Int) from rfl, HT.sIx_nat]
  rw [len_tl]
  by_cases h : 1 ≤ (tl z).length
  · rw [Nat.min_eq_left h, List.take_of_length_le (by rw [List.length_drop]; omega)]
  · rw [show tl z = [] from List.length_eq_zero_iff.mp (by omega)]; simp
end G
namespace G
open PySem PySem.NumText TL
/-! ### shares, points, motions as signs -/
theorem sh_self {s : Sh} (h : s.Norm) : shr s.t s.b = s := by
  have hb : s.b ≠ 0 := by have := h.1; omega
  exact sh_inj (shr_norm hb) h (shr_val hb)
theorem one_shn (t : Int) : (Sh.mk t 1).Norm := ⟨show (0 : Int) < 1 by decide, by simp [Int.gcd]⟩
theorem shr_one (t : Int) : shr t 1 = ⟨t, 1⟩ := sh_self (one_shn t)
def sT (s : Sh) : Sg := if s.b = 1 then iT s.t else joinL [47] [iT s.t, iT s.b]
def shareQ (ps : List Sg) : Option Sh := match ps with
  | [a] => (wholeP a).map fun t => ⟨t, 1⟩
  | [a, b] => (wholeP a).bind fun t => (wholeP b).bind fun w => if w < 2 ∨ shr t w ≠ ⟨t, w⟩ then none else some ⟨t, w⟩
  | _ => none
def shareP (l : Sg) : Option Sh := shareQ (spl [47] 0 [] l)
theorem share_back {l : Sg} {s : Sh} (h : shareP l = some s) : sT s = l ∧ s.Norm ∧ s.t.natAbs < 10 ^ 30 ∧ s.b.natAbs < 10 ^ 30 := by
  unfold shareP at h
  cases e : spl [47] 0 [] l with
  | nil => rw [e] at h; cases h
  | cons a r =>
    have jl := cut_back e
    rw [e] at h
    cases r with
    | nil =>
      obtain ⟨t, ht, rfl⟩ := Option.map_eq_some_iff.mp h
      obtain ⟨h1, h2⟩ := whole_back ht
      refine ⟨?_, one_shn t, h2, show (1 : Int).natAbs < 10 ^ 30 by decide⟩
      rw [← jl]
      show (if (1 : Int) = 1 then iT t else _) = joinL [47] [a]
      rw [if_pos rfl, h1]; rfl
    | cons b r =>
      cases r with
      | cons c r => cases h
      | nil =>
        obtain ⟨t, ht, h⟩ := Option.bind_eq_some_iff.mp h
        obtain ⟨w, hw, h⟩ := Option.bind_eq_some_iff.mp h
        split at h
        · cases h
        rename_i hn
        cases h
        obtain ⟨h1, h2⟩ := whole_back ht
        obtain ⟨h3, h4⟩ := whole_back hw
        have w2 : ¬ w < 2 := fun z => hn (.inl z)
        have es : shr t w = ⟨t, w⟩ := by
          by_cases q : shr t w = ⟨t, w⟩
          · exact q
          · exact absurd (.inr q) hn
        refine ⟨?_, by rw [← es]; exact shr_norm (by omega), h2, h4⟩
        show (if w = 1 then iT t else joinL [47] [iT t, iT w]) = l
        rw [if_neg (by omega), h1, h3, ← jl]
theorem share_of {s : Sh} (h : s.Norm) (h1 : s.t.natAbs < 10 ^ 30) (h2 : s.b.natAbs < 10 ^ 30) : shareP (sT s) = some s := by
  have f47 : ∀ i : Int, 47 ∉ iT i := fun i => iT_free (by decide) (.inl (by decide))
  unfold shareP sT
  by_cases hb : s.b = 1
  · rw [if_pos hb, spl_last1 (f47 _)]
    show (wholeP ([] ++ iT s.t)).map _ = _
    rw [List.nil_append, whole_of h1]
    cases s; simp at hb; subst hb; rfl
  · rw [if_neg hb, spl_join (by simp) (by
      intro p hp
      rcases List.mem_cons.mp hp with rfl | hp
      · exact f47 _
      · rcases List.mem_singleton.mp hp with rfl; exact f47 _)]
    unfold shareQ
    simp only [whole_of h1, whole_of h2, Option.bind_some]
    rw [sh_self h, if_neg ?_]
    rintro (z | z)
    · have := h.1; omega
    · exact z rfl
theorem sT_free {s : Sh} {c : Nat} (h1 : c ≠ 45) (h2 : c ≠ 47) (h3 : c < 48 ∨ 57 < c) : c ∉ sT s := by
  unfold sT
  split
  · exact iT_free h1 h3
  · show c ∉ iT s.t ++ ([47] ++ iT s.b)
    simp only [List.mem_append, List.mem_singleton, not_or]
    exact ⟨iT_free h1 h3, h2, iT_free h1 h3⟩
def pT (p : Pt) : Sg := joinL [44] [sT (shr p.x p.w), sT (shr p.y p.w)]
def pointQ (ps : List Sg) : Option Pt := match ps with
  | [a, b] => (shareP a).bind fun x => (shareP b).bind fun y => some (low (x.t * y.b) (y.t * x.b) (x.b * y.b))
  | _ => none
def pointP (l : Sg) : Option Pt := pointQ (spl [44] 0 [] l)
theorem bn_30 {i : Int} (h : i.natAbs < 10 ^ 30) : Bn 100 i := Nat.lt_trans h (by decide)
theorem lowdiv {x y : Sh} (hx : x.Norm) (hy : y.Norm) : shr (low (x.t * y.b) (y.t * x.b) (x.b * y.b)).x (low (x.t * y.b) (y.t * x.b) (x.b * y.b)).w = x ∧ shr (low (x.t * y.b) (y.t * x.b) (x.b * y.b)).y (low (x.t * y.b) (y.t * x.b) (x.b * y.b)).w = y := by
  have bx : x.b ≠ 0 := by have := hx.1; omega
  have by' : y.b ≠ 0 := by have := hy.1; omega
  have hw : x.b * y.b ≠ 0 := mulnz bx by'
  have lw : (low (x.t * y.b) (y.t * x.b) (x.b * y.b)).w ≠ 0 := by have := low_w_pos (a := x.t * y.b) (b := y.t * x.b) hw; omega
  have r1 := low_re (a := x.t * y.b) (b := y.t * x.b) hw
  have r2 := low_im (a := x.t * y.b) (b := y.t * x.b) hw
  have c1 := castne bx
  have c2 := castne by'
  refine ⟨sh_inj (shr_norm lw) hx ?_, sh_inj (shr_norm lw) hy ?_⟩
  · rw [shr_val lw]
    have : (low (x.t * y.b) (y.t * x.b) (x.b * y.b)).re = x.val := by
      rw [r1]; unfold Sh.val
      simp only [Rat.intCast_mul]; grind
    exact this
  · rw [shr_val lw]
    have : (low (x.t * y.b) (y.t * x.b) (x.b * y.b)).im = y.val := by
      rw [r2]; unfold Sh.val
      simp only [Rat.intCast_mul]; grind
    exact this
theorem point_back {l : Sg} {p : Pt} (h : pointP l = some p) : pT p = l ∧ Norm p ∧ Ok 200 p := by
  unfold pointP at h
  cases e : spl [44] 0 [] l with
  | nil => rw [e] at h; cases h
  | cons a r =>
    have jl := cut_back e
    rw [e] at h
    cases r with
    | nil => cases h
    | cons b r =>
      cases r with
      | cons c r => cases h
      | nil =>
        obtain ⟨x, hx, h⟩ := Option.bind_eq_some_iff.mp h
        obtain ⟨y, hy, h⟩ := Option.bind_eq_some_iff.mp h
        cases h
        obtain ⟨x1, x2, x3, x4⟩ := share_back hx
        obtain ⟨y1, y2, y3, y4⟩ := share_back hy
        have bx : x.b ≠ 0 := by have := x2.1; omega
        have by' : y.b ≠ 0 := by have := y2.1; omega
        have hw : x.b * y.b ≠ 0 := mulnz bx by'
        obtain ⟨l1, l2⟩ := lowdiv x2 y2
        refine ⟨?_, low_norm hw, (low_ok ((bn_30 x3).mul (bn_30 y4)) ((bn_30 y3).mul (bn_30 x4)) ((bn_30 x4).mul (bn_30 y4)) hw).mono (by decide)⟩
        unfold pT
        rw [l1, l2, x1, y1, ← jl]
theorem bn_99 {i : Int} (h : Bn 99 i) : i.natAbs < 10 ^ 30 := Nat.lt_of_lt_of_le h (by decide)
theorem point_of {p : Pt} (hn : Norm p) (ok : Ok 99 p) : pointP (pT p) = some p := by
  have hw := ok.nz
  have s1 := shr_ok ok.x ok.w hw
  have s2 := shr_ok ok.y ok.w hw
  have n1 := shr_norm (t := p.x) hw
  have n2 := shr_norm (t := p.y) hw
  have v1 := shr_val (t := p.x) hw
  have v2 := shr_val (t := p.y) hw
  unfold pointP pT
  rw [spl_join (by simp) (by
      intro q hq
      rcases List.mem_cons.mp hq with rfl | hq
      · exact sT_free (by decide) (by decide) (.inl (by decide))
      · rcases List.mem_singleton.mp hq with rfl; exact sT_free (by decide) (by decide) (.inl (by decide)))]
  show (shareP _).bind (fun x => (shareP _).bind fun y => some (low (x.t * y.b) (y.t * x.b) (x.b * y.b))) = _
  rw [share_of n1 (bn_99 s1.t) (bn_99 s1.b), share_of n2 (bn_99 s2.t) (bn_99 s2.b)]
  refine congrArg some ?_
  generalize shr p.x p.w = x at *
  generalize shr p.y p.w = y at *
  have bx : x.b ≠ 0 := by have := n1.1; omega
  have by' : y.b ≠ 0 := by have := n2.1; omega
  have hw2 : x.b * y.b ≠ 0 := mulnz bx by'
  have c1 := castne bx
  have c2 := castne by'
  refine val_inj (low_norm hw2) hn ?_ ?_
  · rw [low_re hw2]
    have e : p.re = x.val := v1.symm
    rw [e]; unfold Sh.val
    simp only [Rat.intCast_mul]; grind
  · rw [low_im hw2]
    have e : p.im = y.val := v2.symm
    rw [e]; unfold Sh.val
    simp only [Rat.intCast_mul]; grind
theorem pT_free {p : Pt} {c : Nat} (h1 : c ≠ 45) (h2 : c ≠ 47) (h3 : c < 48 ∨ 57 < c) (h4 : c ≠ 44) : c ∉ pT p := by
  show c ∉ sT _ ++ ([44] ++ sT _)
  simp only [List.mem_append, List.mem_singleton, not_or]
  exact ⟨sT_free h1 h2 h3, h4, sT_free h1 h2 h3⟩
def ptsP : List Sg → Option (List Pt)
  | [] => some []
  | a :: r => (pointP a).bind fun p => (ptsP r).map fun q => p :: q
def hT (l : List Pt) : Sg := joinL [32] (l.map pT)
theorem pts_back : ∀ {ps : List Sg} {l : List Pt}, ptsP ps = some l → l.map pT = ps ∧ ∀ p ∈ l, Norm p ∧ Ok 200 p
  | [], _, h => by cases h; exact ⟨rfl, by simp⟩
  | a :: r, l, h => by
    obtain ⟨p, hp, h⟩ := Option.bind_eq_some_iff.mp h
    obtain ⟨q, hq, rfl⟩ := Option.map_eq_some_iff.mp h
    obtain ⟨h1, h2⟩ := point_back hp
    obtain ⟨h3, h4⟩ := pts_back hq
    refine ⟨by rw [List.map_cons, h1, h3], fun z hz => ?_⟩
    rcases List.mem_cons.mp hz with rfl | hz
    · exact h2
    · exact h4 z hz
theorem ptsP_of : ∀ {l : List Pt}, (∀ p ∈ l, Norm p ∧ Ok 99 p) → ptsP (l.map pT) = some l
  | [], _ => rfl
  | p :: l, h => by
    have := h p List.mem_cons_self
    show (pointP (pT p)).bind _ = _
    rw [point_of this.1 this.2]
    show (ptsP (l.map pT)).map _ = _
    rw [ptsP_of fun q hq => h q (List.mem_cons_of_mem _ hq)]; rfl
theorem heap_back {l : Sg} {ps : List Pt} (h : ptsP (spl [32] 0 [] l) = some ps) : hT ps = l ∧ ∀ p ∈ ps, Norm p ∧ Ok 200 p := by
  obtain ⟨h1, h2⟩ := pts_back h
  exact ⟨by unfold hT; rw [h1, join_spl]; rfl, h2⟩
theorem spl_pts {ps : List Pt} (ne : ps ≠ []) : spl [32] 0 [] (hT ps) = ps.map pT := spl_join (by simpa using ne) fun p hp => by
  obtain ⟨q, _, rfl⟩ := List.mem_map.mp hp
  exact pT_free (by decide) (by decide) (.inl (by decide)) (by decide)
theorem heap_of {ps : List Pt} (ne : ps ≠ []) (h : ∀ p ∈ ps, Norm p ∧ Ok 99 p) : ptsP (spl [32] 0 [] (hT ps)) = some ps := by rw [spl_pts ne]; exact ptsP_of h
def flipS : Sg := [102, 108, 105, 112]
def mT (m : Mo) : Sg := joinL [32] ([pT m.t, pT m.s] ++ if m.f = 1 then [flipS] else [])
theorem spl_mo {m : Mo} : spl [32] 0 [] (mT m) = [pT m.t, pT m.s] ++ if m.f = 1 then [flipS] else [] := spl_join (by simp) fun p hp => by
  have pf : ∀ q : Pt, 32 ∉ pT q := fun q => pT_free (by decide) (by decide) (.inl (by decide)) (by decide)
  rcases List.mem_append.mp hp with hp | hp
  · rcases List.mem_cons.mp hp with rfl | hp
    · exact pf _
    · rcases List.mem_singleton.mp hp with rfl; exact pf _
  · split at hp
    · rcases List.mem_singleton.mp hp with rfl; decide
    · cases hp
end G
namespace G
open PySem PySem.Spec L2
structure p_law_gcd (one1 two2 : D) (Φ : D → Prop) (Ψ : Str → Prop) : Prop where run ::
  go : (bin maxD (ret one1) (bin subD (ret (.int 0)) (ret one1))) (fun one3 => (bin maxD (ret two2) (bin subD (ret (.int 0)) (ret two2))) (fun two4 => whileM (S := D × D) (one3, two4) (fun s5 nx9 br10 => (cmpT neB (ret s5.2) (ret (.int 0))) (fun b => if b = true then ((ret s5.2) (fun one11 => (bin modD (ret s5.1) (ret s5.2)) (fun two12 => nx9 (one11, two12)) Ψ) Ψ) else br10 s5) Ψ) (fun (s7 : D × D) => (ret s7.1) Φ Ψ)) Ψ) Ψ
structure p_law_low (px1 py2 pw3 : D) (Φ : D → Prop) (Ψ : Str → Prop) : Prop where run ::
  go : (c2 p_law_gcd (c2 p_law_gcd (ret px1) (ret py2)) (ret pw3)) (fun div4 => (ifE (cmpT gtB (ret pw3) (ret (.int 0))) (ret div4) (bin subD (ret (.int 0)) (ret div4))) (fun div5 => (tupE (consA (bin fdivD (ret px1) (ret div5)) (consA (bin fdivD (ret py2) (ret div5)) (consA (bin fdivD (ret pw3) (ret div5)) nilA)))) Φ Ψ) Ψ) Ψ
structure p_law_pick (town_here1 some2 : D) (Φ : D → Prop) (Ψ : Str → Prop) : Prop where run ::
  go : (bin ixD (ret some2) (c2 p_law_draw (ret town_here1) (una lnD (ret some2)))) Φ Ψ
structure p_law_point (town_here1 broad2 : D) (Φ : D → Prop) (Ψ : Str → Prop) : Prop where run ::
  go : (bin subD (c2 p_law_draw (ret town_here1) (bin addD (bin mulD (ret (.int 2)) (ret broad2)) (ret (.int 1)))) (ret broad2)) (fun px3 => (bin subD (c2 p_law_draw (ret town_here1) (bin addD (bin mulD (ret (.int 2)) (ret broad2)) (ret (.int 1)))) (ret broad2)) (fun py4 => (c3 p_law_low (ret px3) (ret py4) (c2 p_law_pick (ret town_here1) (ret (.lst [.int 1, .int 1, .int 1, .int 2, .int 3])))) Φ Ψ) Ψ) Ψ
structure p_law_heap (town_here1 most2 : D) (Φ : D → Prop) (Ψ : Str → Prop) : Prop where run ::
  go : (c2 p_law_draw (ret town_here1) (ret (.int 5))) (fun lot3 => (lcE (rng1 (bin addD (ret (.int 2)) (c2 p_law_draw (ret town_here1) (bin subD (ret most2) (ret (.int 1)))))) (fun k7 k5 => (c2 p_law_point (ret town_here1) (ret (.int 3))) (fun y6 => k5 (some y6)) bot)) (fun found4 => join (fun (found9 : D) => join (fun (found11 : D) => join (fun (found13 : D) => (lcE (rng1 (una lnD (ret found13))) (fun k17 k15 => (cmpT ninB (bin ixD (ret found13) (ret k17)) (slE (ret found13) noneO (someO (ret k17)))) (fun b => if b = true then (bin ixD (ret found13) (ret k17)) (fun y16 => k15 (some y16)) bot else k15 none) bot)) (fun found14 => (ifE (cmpT gtB (una lnD (ret found14)) (ret (.int 1))) (ret found14) (bin addD (ret found14) (ret (.lst [.tup [.int 7, .int 7, .int 1]])))) Φ Ψ) Ψ) (fun k12 => (cmpT eqB (ret lot3) (ret (.int 2))) (fun b => if b = true then ((lcE (rng1 (bin maxD (ret (.int 2)) (bin subD (ret most2) (ret (.int 2))))) (fun k21 k19 => (tupE (consA (ret k21) (consA (bin mulD (ret k21) (c2 p_law_draw (ret town_here1) (ret (.int 2)))) (consA (ret (.int 1)) nilA)))) (fun y20 => k19 (some y20)) bot)) (fun found18 => k12 (found18)) Ψ) else (k12 (found11))) Ψ)) (fun k10 => (cmpT eqB (ret lot3) (ret (.int 1))) (fun b => if b = true then ((slE (ret (.lst [.tup [.int 1, .int 0, .int 1], .tup [.int (0 - 1), .int 0, .int 1], .tup [.int 0, .int 1, .int 1], .tup [.int 0, .int (0 - 1), .int 1], .tup [.int 3, .int 4, .int 5], .tup [.int 4, .int (0 - 3), .int 5]])) noneO (someO (ret most2))) (fun found22 => k10 (found22)) Ψ) else (k10 (found9))) Ψ)) (fun k8 => (cmpT eqB (ret lot3) (ret (.int 0))) (fun b => if b = true then ((bin addD (ret (.lst [.tup [.int 0, .int 0, .int 1], .tup [.int 2, .int 0, .int 1], .tup [.int 0, .int 2, .int 1], .tup [.int 2, .int 2, .int 1]])) (slE (ret found4) noneO (someO (c2 p_law_draw (ret town_here1) (ret (.int 2)))))) (fun found23 => k8 (found23)) Ψ) else (k8 (found4))) Ψ)) Ψ) Ψ
structure p_law_turn (town_here1 : D) (Φ : D → Prop) (Ψ : Str → Prop) : Prop where run ::
  go : (c2 p_law_pick (ret town_here1) (ret (.lst [.tup [.int 1, .int 0, .int 1], .tup [.int 0, .int 1, .int 1], .tup [.int 3, .int 4, .int 5], .tup [.int 4, .int 3, .int 5], .tup [.int 5, .int 12, .int 13]]))) (fun d => un3 d fun a2 b3 w4 => (c3 p_law_low (bin mulD (ret a2) (c2 p_law_pick (ret town_here1) (ret (.lst [.int 1, .int (0 - 1)])))) (bin mulD (ret b3) (c2 p_law_pick (ret town_here1) (ret (.lst [.int 1, .int (0 - 1)])))) (ret w4)) Φ Ψ) Ψ
structure p_law_motion (town_here1 : D) (Φ : D → Prop) (Ψ : Str → Prop) : Prop where run ::
  go : (tupE (consA (c1 p_law_turn (ret town_here1)) (consA (c2 p_law_point (ret town_here1) (ret (.int 4))) (consA (c2 p_law_draw (ret town_here1) (ret (.int 2))) nilA)))) Φ Ψ
structure p_common (one1 other2 : D) (Φ : D → Prop) (Ψ : Str → Prop) : Prop where run ::
  go : (una absD (ret one1)) (fun one3 => (una absD (ret other2)) (fun other4 => whileM (S := D × D) (one3, other4) (fun s5 nx9 br10 => (cmpT neB (ret s5.2) (ret (.int 0))) (fun b => if b = true then ((ret s5.2) (fun one11 => (bin modD (ret s5.1) (ret s5.2)) (fun other12 => nx9 (one11, other12)) Ψ) Ψ) else br10 s5) Ψ) (fun (s7 : D × D) => (ret s7.1) Φ Ψ)) Ψ) Ψ
structure p_is_number (thing1 : D) (Φ : D → Prop) (Ψ : Str → Prop) : Prop where run ::
  go : (andV (una (isiD D.isIB) (ret thing1)) (notV (una (isiD D.isB) (ret thing1)))) Φ Ψ
structure p_is_point (thing1 : D) (Φ : D → Prop) (Ψ : Str → Prop) : Prop where run ::
  go : (orT (notT (tv (una (isiD D.isT) (ret thing1)))) (orT (cmpT neB (una lnD (ret thing1)) (ret (.int 3))) (notT (tv (una allD (lcE (itE (ret thing1)) (fun one4 k2 => (c1 p_is_number (ret one4)) (fun y3 => k2 (some y3)) bot))))))) (fun b => if b = true then ((ret (.bl false)) Φ Ψ) else ((andV (cmpV gtB (bin ixD (ret thing1) (ret (.int 2))) (ret (.int 0))) (cmpV eqB (c2 p_common (c2 p_common (bin ixD (ret thing1) (ret (.int 0))) (bin ixD (ret thing1) (ret (.int 1)))) (bin ixD (ret thing1) (ret (.int 2)))) (ret (.int 1)))) Φ Ψ)) Ψ
structure p_is_heap (thing1 : D) (Φ : D → Prop) (Ψ : Str → Prop) : Prop where run ::
  go : (orT (notT (tv (una (isiD fun d => D.isL d || D.isT d) (ret thing1)))) (orT (notT (chnT leB leB (ret (.int 2)) (una lnD (ret thing1)) (ret (.int 14)))) (notT (tv (una allD (lcE (itE (ret thing1)) (fun one4 k2 => (c1 p_is_point (ret one4)) (fun y3 => k2 (some y3)) bot))))))) (fun b => if b = true then ((ret (.bl false)) Φ Ψ) else ((cmpV eqB (una lnD (dcE (itE (ret thing1)) (fun one8 k5 => (ret one8) (fun y6 => (ret (.bl true)) (fun z7 => k5 (some (y6, z7))) bot) bot))) (una lnD (ret thing1))) Φ Ψ)) Ψ
structure p_look_heaps (things1 : D) (Φ : D → Prop) (Ψ : Str → Prop) : Prop where run ::
  go : (notT (tv (una allD (lcE (itE (ret things1)) (fun one4 k2 => (c1 p_is_heap (ret one4)) (fun y3 => k2 (some y3)) bot))))) (fun b => if b = true then (Ψ "BadHeap") else (Φ .non)) Ψ
structure p_ahead (p1 q2 : D) (Φ : D → Prop) (Ψ : Str → Prop) : Prop where run ::
  go : (bin subD (bin mulD (bin ixD (ret p1) (ret (.int 0))) (bin ixD (ret q2) (ret (.int 2)))) (bin mulD (bin ixD (ret q2) (ret (.int 0))) (bin ixD (ret p1) (ret (.int 2))))) (fun across3 => (orV (cmpV ltB (ret across3) (ret (.int 0))) (andV (cmpV eqB (ret across3) (ret (.int 0))) (cmpV ltB (bin mulD (bin ixD (ret p1) (ret (.int 1))) (bin ixD (ret q2) (ret (.int 2)))) (bin mulD (bin ixD (ret q2) (ret (.int 1))) (bin ixD (ret p1) (ret (.int 2))))))) Φ Ψ) Ψ
structure p_in_order (points1 : D) (Φ : D → Prop) (Ψ : Str → Prop) : Prop where run ::
  go : (itE (ret points1)) (fun ds => forL (fun one8 (s2 : List D) nx6 br7 => (ret (.int 0)) (fun at9 => whileM (S := D) at9 (fun s10 nx17 br18 => (andT (cmpT ltB (ret s10) (una lnD (ret (.lst s2)))) (notT (tv (c2 p_ahead (ret one8) (bin ixD (ret (.lst s2)) (ret s10)))))) (fun b => if b = true then (augD addI s10 (ret (.int 1)) (fun at19 => nx17 at19) Ψ) else br18 s10) Ψ) (fun (s12 : D) => (ret s12) (fun j14 => (ret one8) (fun d15 => List.length (α := D) s2 ≤ 100000 ∧ ∃ n16 : Nat, j14 = .int n16 ∧ n16 ≤ List.length (α := D) s2 ∧ nx6 (insL s2 n16 d15)) Ψ) Ψ)) Ψ) (fun (s4 : List D) => (ret (.lst s4)) Φ Ψ) ds []) Ψ
structure p_is_whole (thing1 low2 high3 : D) (Φ : D → Prop) (Ψ : Str → Prop) : Prop where run ::
  go : (andV (c1 p_is_number (ret thing1)) (chnV leB leB (ret low2) (ret thing1) (ret high3))) Φ Ψ
structure p_share (top1 below2 : D) (Φ : D → Prop) (Ψ : Str → Prop) : Prop where run ::
  go : (c2 p_common (ret top1) (ret below2)) (fun by3 => (ifE (cmpT gtB (ret below2) (ret (.int 0))) (ret by3) (una negD (ret by3))) (fun by4 => (tupE (consA (bin fdivD (ret top1) (ret by4)) (consA (bin fdivD (ret below2) (ret by4)) nilA))) Φ Ψ) Ψ) Ψ
structure p_size (p1 : D) (Φ : D → Prop) (Ψ : Str → Prop) : Prop where run ::
  go : (c2 p_share (bin addD (bin mulD (bin ixD (ret p1) (ret (.int 0))) (bin ixD (ret p1) (ret (.int 0)))) (bin mulD (bin ixD (ret p1) (ret (.int 1))) (bin ixD (ret p1) (ret (.int 1))))) (bin mulD (bin ixD (ret p1) (ret (.int 2))) (bin ixD (ret p1) (ret (.int 2))))) Φ Ψ
structure p_is_motion (thing1 : D) (Φ : D → Prop) (Ψ : Str → Prop) : Prop where run ::
  go : (orT (notT (tv (una (isiD D.isT) (ret thing1)))) (orT (cmpT neB (una lnD (ret thing1)) (ret (.int 3))) (orT (notT (tv (c1 p_is_point (bin ixD (ret thing1) (ret (.int 0)))))) (notT (tv (c1 p_is_point (bin ixD (ret thing1) (ret (.int 1))))))))) (fun b => if b = true then ((ret (.bl false)) Φ Ψ) else ((andV (cmpV eqB (c1 p_size (bin ixD (ret thing1) (ret (.int 0)))) (ret (.tup [.int 1, .int 1]))) (c3 p_is_whole (bin ixD (ret thing1) (ret (.int 2))) (ret (.int 0)) (ret (.int 1)))) Φ Ψ)) Ψ
structure p_look_motion (thing1 : D) (Φ : D → Prop) (Ψ : Str → Prop) : Prop where run ::
  go : (notT (tv (c1 p_is_motion (ret thing1)))) (fun b => if b = true then (Ψ "BadMotion") else (Φ .non)) Ψ
structure p_lowest (a1 b2 w3 : D) (Φ : D → Prop) (Ψ : Str → Prop) : Prop where run ::
  go : (c2 p_common (c2 p_common (ret a1) (ret b2)) (ret w3)) (fun by4 => (ifE (cmpT gtB (ret w3) (ret (.int 0))) (ret by4) (una negD (ret by4))) (fun by5 => (tupE (consA (bin fdivD (ret a1) (ret by5)) (consA (bin fdivD (ret b2) (ret by5)) (consA (bin fdivD (ret w3) (ret by5)) nilA)))) Φ Ψ) Ψ) Ψ
structure p_law_before (p1 q2 : D) (Φ : D → Prop) (Ψ : Str → Prop) : Prop where run ::
  go : (bin subD (bin mulD (bin ixD (ret p1) (ret (.int 0))) (bin ixD (ret q2) (ret (.int 2)))) (bin mulD (bin ixD (ret q2) (ret (.int 0))) (bin ixD (ret p1) (ret (.int 2))))) (fun told3 => (orV (cmpV ltB (ret told3) (ret (.int 0))) (andV (cmpV eqB (ret told3) (ret (.int 0))) (cmpV ltB (bin mulD (bin ixD (ret p1) (ret (.int 1))) (bin ixD (ret q2) (ret (.int 2)))) (bin mulD (bin ixD (ret q2) (ret (.int 1))) (bin ixD (ret p1) (ret (.int 2))))))) Φ Ψ) Ψ
structure p_law_sorted (points1 : D) (Φ : D → Prop) (Ψ : Str → Prop) : Prop where run ::
  go : (ret (.lst [])) (fun found2 => (itE (ret points1)) (fun ds => forL (fun one9 (s3 : D) nx7 br8 => lcE (itE (ret s3)) (fun two13 k11 => (notT (tv (c2 p_law_before (ret one9) (ret two13)))) (fun b => if b = true then (ret two13) (fun y12 => k11 (some y12)) bot else k11 none) bot) (fun early10 => (bin addD (bin addD (ret early10) (lstE (consA (ret one9) nilA))) (lcE (itE (ret s3)) (fun two17 k15 => (tv (c2 p_law_before (ret one9) (ret two17))) (fun b => if b = true then (ret two17) (fun y16 => k15 (some y16)) bot else k15 none) bot))) (fun found14 => nx7 found14) Ψ) Ψ) (fun (s5 : D) => (ret s5) Φ Ψ) ds found2) Ψ) Ψ
structure p_law_share (top1 low_here2 : D) (Φ : D → Prop) (Ψ : Str → Prop) : Prop where run ::
  go : (c2 p_law_gcd (ret top1) (ret low_here2)) (fun div3 => (ifE (cmpT gtB (ret low_here2) (ret (.int 0))) (ret div3) (bin subD (ret (.int 0)) (ret div3))) (fun div4 => (tupE (consA (bin fdivD (ret top1) (ret div4)) (consA (bin fdivD (ret low_here2) (ret div4)) nilA))) Φ Ψ) Ψ) Ψ
structure p_law_refusal (caught1 : D) (Φ : D → Prop) (Ψ : Str → Prop) : Prop where run ::
  go : (lstE (consA (una (isxD "BadNumber") (ret caught1)) (consA (una (isxD "BadPoint") (ret caught1)) (consA (una (isxD "BadMotion") (ret caught1)) nilA)))) (fun sorts2 => (bin addD (ret sorts2) (lstE (consA (una (isxD "BadHeap") (ret caught1)) (consA (una (isxD "BadPairs") (ret caught1)) (consA (una (isxD "BadName") (ret caught1)) nilA))))) (fun sorts3 => (bin addD (ret sorts3) (lstE (consA (una (isxD "BadText") (ret caught1)) (consA (una (isxD "NoThing") (ret caught1)) nilA)))) (fun sorts4 => (orT (cmpT neB (mthL cntD (ret sorts4) (ret (.bl true))) (ret (.int 1))) (orT (notT (tv (una (isxD "OverError") (ret caught1)))) (notT (tv (una (isxD "ValueError") (ret caught1)))))) (fun b => if b = true then ((ret (.str "odd")) Φ Ψ) else ((bin ixD (ret (.lst [.str "number", .str "point", .str "motion", .str "heap", .str "pairs", .str "name", .str "text", .str "none"])) (mthL idxD (ret sorts4) (ret (.bl true)))) Φ Ψ)) Ψ) Ψ) Ψ) Ψ
structure p_number_text (top1 below2 : D) (Φ : D → Prop) (Ψ : Str → Prop) : Prop where run ::
  go : (c2 p_share (ret top1) (ret below2)) (fun d => un2 d fun one3 other4 => (ifE (cmpT eqB (ret other4) (ret (.int 1))) (una strD (ret one3)) (fsE "/" (ret one3) (ret other4))) Φ Ψ) Ψ
structure p_written (p1 : D) (Φ : D → Prop) (Ψ : Str → Prop) : Prop where run ::
  go : (bin addD (bin addD (c2 p_number_text (bin ixD (ret p1) (ret (.int 0))) (bin ixD (ret p1) (ret (.int 2)))) (ret (.str ","))) (c2 p_number_text (bin ixD (ret p1) (ret (.int 1))) (bin ixD (ret p1) (ret (.int 2))))) Φ Ψ
structure p_heap_text (points1 : D) (Φ : D → Prop) (Ψ : Str → Prop) : Prop where run ::
  go : (c1 p_look_heaps (lstE (consA (ret points1) nilA))) (fun _ => (mthS joinD (ret (.str " ")) (lcE (itE (c1 p_in_order (ret points1))) (fun p4 k2 => (c1 p_written (ret p4)) (fun y3 => k2 (some y3)) bot))) Φ Ψ) Ψ
structure p_motion_text (motion1 : D) (Φ : D → Prop) (Ψ : Str → Prop) : Prop where run ::
  go : (c1 p_look_motion (ret motion1)) (fun _ => (bin addD (lstE (consA (c1 p_written (bin ixD (ret motion1) (ret (.int 0)))) (consA (c1 p_written (bin ixD (ret motion1) (ret (.int 1)))) nilA))) (ifE (cmpT eqB (bin ixD (ret motion1) (ret (.int 2))) (ret (.int 1))) (ret (.lst [.str "flip"])) (ret (.lst [])))) (fun words2 => (mthS joinD (ret (.str " ")) (ret words2)) Φ Ψ) Ψ) Ψ
structure p_law_number (top1 low_here2 : D) (Φ : D → Prop) (Ψ : Str → Prop) : Prop where run ::
  go : (c2 p_law_share (ret top1) (ret low_here2)) (fun one3 => (bin addD (una strD (bin ixD (ret one3) (ret (.int 0)))) (ifE (cmpT eqB (bin ixD (ret one3) (ret (.int 1))) (ret (.int 1))) (ret (.str "")) (bin addD (ret (.str "/")) (una strD (bin ixD (ret one3) (ret (.int 1))))))) Φ Ψ) Ψ
structure p_law_point_text (p1 : D) (Φ : D → Prop) (Ψ : Str → Prop) : Prop where run ::
  go : (bin addD (bin addD (c2 p_law_number (bin ixD (ret p1) (ret (.int 0))) (bin ixD (ret p1) (ret (.int 2)))) (ret (.str ","))) (c2 p_law_number (bin ixD (ret p1) (ret (.int 1))) (bin ixD (ret p1) (ret (.int 2))))) Φ Ψ
structure p_law_motion_text (motion_here1 : D) (Φ : D → Prop) (Ψ : Str → Prop) : Prop where run ::
  go : (bin addD (bin addD (bin addD (c1 p_law_point_text (bin ixD (ret motion_here1) (ret (.int 0)))) (ret (.str " "))) (c1 p_law_point_text (bin ixD (ret motion_here1) (ret (.int 1))))) (ifE (cmpT eqB (bin ixD (ret motion_here1) (ret (.int 2))) (ret (.int 1))) (ret (.str " flip")) (ret (.str "")))) Φ Ψ
structure p_whole_in (text1 : D) (Φ : D → Prop) (Ψ : Str → Prop) : Prop where run ::
  go : (ifE (cmpT eqB (slE (ret text1) noneO (someO (ret (.int 1)))) (ret (.str "-"))) (slE (ret text1) (someO (ret (.int 1))) noneO) (ret text1)) (fun figures2 => (orT (cmpT eqB (ret figures2) (ret (.str ""))) (orT (cmpT gtB (una lnD (ret figures2)) (ret (.int 30))) (notT (tv (una allD (lcE (itC (ret figures2)) (fun one5 k3 => (cmpV inSB (ret one5) (ret (.str "0123456789"))) (fun y4 => k3 (some y4)) bot))))))) (fun b => if b = true then (Ψ "BadText") else ((andT (cmpT eqB (bin ixSD (ret figures2) (ret (.int 0))) (ret (.str "0"))) (cmpT neB (ret text1) (ret (.str "0")))) (fun b => if b = true then (Ψ "BadText") else ((una intD (ret text1)) Φ Ψ)) Ψ)) Ψ) Ψ
structure p_share_in (text1 : D) (Φ : D → Prop) (Ψ : Str → Prop) : Prop where run ::
  go : (mthS splitD (ret text1) (ret (.str "/"))) (fun parts2 => (cmpT gtB (una lnD (ret parts2)) (ret (.int 2))) (fun b => if b = true then (Ψ "BadText") else ((c1 p_whole_in (bin ixD (ret parts2) (ret (.int 0)))) (fun top3 => (ifE (cmpT eqB (una lnD (ret parts2)) (ret (.int 2))) (c1 p_whole_in (bin ixD (ret parts2) (ret (.int 1)))) (ret (.int 1))) (fun below4 => (orT (andT (cmpT eqB (una lnD (ret parts2)) (ret (.int 2))) (cmpT ltB (ret below4) (ret (.int 2)))) (cmpT neB (c2 p_share (ret top3) (ret below4)) (tupE (consA (ret top3) (consA (ret below4) nilA))))) (fun b => if b = true then (Ψ "BadText") else ((tupE (consA (ret top3) (consA (ret below4) nilA))) Φ Ψ)) Ψ) Ψ) Ψ)) Ψ) Ψ
structure p_point_in (text1 : D) (Φ : D → Prop) (Ψ : Str → Prop) : Prop where run ::
  go : (mthS splitD (ret text1) (ret (.str ","))) (fun parts2 => (cmpT neB (una lnD (ret parts2)) (ret (.int 2))) (fun b => if b = true then (Ψ "BadText") else ((c1 p_share_in (bin ixD (ret parts2) (ret (.int 0)))) (fun x3 => (c1 p_share_in (bin ixD (ret parts2) (ret (.int 1)))) (fun y4 => (c3 p_lowest (bin mulD (bin ixD (ret x3) (ret (.int 0))) (bin ixD (ret y4) (ret (.int 1)))) (bin mulD (bin ixD (ret y4) (ret (.int 0))) (bin ixD (ret x3) (ret (.int 1)))) (bin mulD (bin ixD (ret x3) (ret (.int 1))) (bin ixD (ret y4) (ret (.int 1))))) Φ Ψ) Ψ) Ψ)) Ψ) Ψ
structure p_heap_read (text1 : D) (Φ : D → Prop) (Ψ : Str → Prop) : Prop where run ::
  go : (notT (tv (una (isiD D.isS) (ret text1)))) (fun b => if b = true then (Ψ "BadText") else ((una tupleD (lcX (itE (mthS splitD (ret text1) (ret (.str " ")))) (fun one3 => (c1 p_point_in (ret one3))))) (fun found2 => (orT (notT (tv (c1 p_is_heap (ret found2)))) (cmpT neB (una tupleD (c1 p_in_order (ret found2))) (ret found2))) (fun b => if b = true then (Ψ "BadText") else ((ret found2) Φ Ψ)) Ψ) Ψ)) Ψ
structure p_motion_read (text1 : D) (Φ : D → Prop) (Ψ : Str → Prop) : Prop where run ::
  go : (notT (tv (una (isiD D.isS) (ret text1)))) (fun b => if b = true then (Ψ "BadText") else ((mthS splitD (ret text1) (ret (.str " "))) (fun words2 => (orT (cmpT ninB (una lnD (ret words2)) (ret (.tup [.int 2, .int 3]))) (andT (cmpT eqB (una lnD (ret words2)) (ret (.int 3))) (cmpT neB (bin ixD (ret words2) (ret (.int 2))) (ret (.str "flip"))))) (fun b => if b = true then (Ψ "BadText") else ((tupE (consA (c1 p_point_in (bin ixD (ret words2) (ret (.int 0)))) (consA (c1 p_point_in (bin ixD (ret words2) (ret (.int 1)))) (consA (bin subD (una lnD (ret words2)) (ret (.int 2))) nilA)))) (fun found3 => (notT (tv (c1 p_is_motion (ret found3)))) (fun b => if b = true then (Ψ "BadText") else ((ret found3) Φ Ψ)) Ψ) Ψ)) Ψ) Ψ)) Ψ
structure p_law_read (sort_of1 text2 : D) (Φ : D → Prop) (Ψ : Str → Prop) : Prop where run ::
  go : (ret (.non)) (fun told3 => (ret (.non)) (fun caught4 => join (fun (told7 : D) (caught8 : D) => (ifE (cmpT isNB (ret caught8) (ret (.non))) (ret told7) (c1 p_law_refusal (ret caught8))) Φ Ψ) (fun k5 => (ifE (cmpT eqB (ret sort_of1) (ret (.int 0))) (c1 p_heap_read (ret text2)) (c1 p_motion_read (ret text2))) (fun told9 => k5 (told9) (caught4)) (fun z6 => z6 ∈ excN ∧ k5 (told3) ((excD z6))))) Ψ) Ψ
end G
namespace G
/-! ### roots: s less the root of A, told by what lies below and above -/
/-- q is below s less the root of A -/
def blw (q s A : Rat) : Prop := 0 < s - q ∧ A < (s - q) * (s - q)
/-- .. above -/
def abv (q s A : Rat) : Prop := s - q < 0 ∨ (s - q) * (s - q) < A
section
variable {p q s r t A B C : Rat}
/-! squares are everywhere -/
/-! never both ways; of three in a row -/
end
end G
namespace G
/-! ### sums -/
def plusSh (a b : Sh) : Sh := shr (a.t * b.b + b.t * a.b) (a.b * b.b)
theorem SOk.nz {n : Nat} {a : Sh} (h : SOk n a) : a.b ≠ 0 := by have := h.pos; omega
theorem plusSh_ok {n m : Nat} {a b : Sh} (h : SOk n a) (k : SOk m b) : SOk (n + m + 1) (plusSh a b) := (shr_ok ((h.t.mul k.b).add (k.t.mul h.b)) (h.b.mul k.b) (mulnz h.nz k.nz)).mono (by omega)
theorem nought_ok {n : Nat} (h : 0 < n) : SOk n ⟨0, 1⟩ := ⟨by unfold Bn; exact Nat.pow_pos (by decide), by unfold Bn; exact Nat.one_lt_pow (by omega) (by decide), by show (0 : Int) < 1; decide⟩
def sumS (l : List Sh) : Sh := l.foldl plusSh ⟨0, 1⟩
end G
namespace G
open PySem PySem.Spec L2
def zd (q : Pt × Pt) : D := .tup [q.1.d, q.2.d]
def behind (f : Pt → Pt) (l m : List Pt) : Sh := sumS ((l.zip m).map fun q => gap (f q.1) q.2)
/-- a list of points, one to fourteen -/
def prB : D → Bool
  | .lst xs => decide (1 ≤ xs.length) && (decide (xs.length ≤ 14) && xs.all isPt)
  | _ => false
def lenD : D → Nat
  | .lst xs => xs.length
  | _ => 0
theorem prB_pts {l : List Pt} (h : ∀ p ∈ l, Norm p) (h0 : l ≠ []) (h1 : l.length ≤ 14) : prB (.lst (l.map Pt.d)) = true := by
  show (decide (1 ≤ (l.map Pt.d).length) && (decide ((l.map Pt.d).length ≤ 14) && (l.map Pt.d).all isPt)) = true
  have := List.length_pos_iff.mpr h0
  rw [List.length_map, decide_eq_true (show 1 ≤ l.length by omega), decide_eq_true h1, List.all_map]
  simp only [Bool.true_and]
  exact List.all_eq_true.mpr fun p hp => isPt_yes (h p hp)
theorem shp_pts {l : List Pt} : D.shp 8 (.lst (l.map Pt.d)) = true := by
  rw [shp_lst]; exact shpA_all fun d hd => by obtain ⟨p, _, rfl⟩ := List.mem_map.mp hd; exact shp_pt 6 p
end G
namespace G
open PySem PySem.Spec L2
end G
namespace G
theorem prs {l m : List Pt} (nl : ∀ p ∈ l, Norm p) (nm : ∀ p ∈ m, Norm p) (e : l.length = m.length) (h0 : l ≠ []) (h1 : l.length ≤ 14) : prB (.lst (l.map Pt.d)) = true ∧ prB (.lst (m.map Pt.d)) = true ∧ lenD (.lst (l.map Pt.d)) = lenD (.lst (m.map Pt.d)) :=
  ⟨prB_pts nl h0 h1, prB_pts nm (fun h => h0 (List.length_eq_zero_iff.mp (by rw [e, h]; rfl))) (by omega), by show (l.map Pt.d).length = (m.map Pt.d).length; simp [e]⟩
end G
namespace G
/-! the sums as the laws make them -/
end G
namespace G
/-! ### least shifts -/
section
variable {n k j c : Nat} {l m : List Pt} {s p q : Pt} {mo : Mo}
end
end G
namespace G
section
variable {n k j i : Nat} {l m : List Pt} {s off : Pt} {mo : Mo}
end
end G
namespace G
open PySem PySem.Spec L2
end G
namespace G
/-! ### shares compared -/
def nsh (a : Sh) : Sh := ⟨-a.t, a.b⟩
def lessB (a b : Sh) : Bool := decide (a.t * b.b < b.t * a.b)
def sqS (a : Sh) : Sh := shr (a.t * a.t) (a.b * a.b)
def ftS (a b : Sh) : Sh := shr (4 * a.t * b.t) (a.b * b.b)
def four (a : Sh) : Sh := shr (4 * a.t) a.b
def rootB (n a b : Sh) : Bool :=
  if decide (0 ≤ n.t) = true then decide (0 < (plusSh (plusSh (four a) (nsh (four b))) (nsh (sqS n))).t) && lessB (ftS (sqS n) (four b)) (sqS (plusSh (plusSh (four a) (nsh (four b))) (nsh (sqS n))))
  else decide (0 < (plusSh (plusSh (four a) (nsh (four b))) (sqS n)).t) || lessB (sqS (plusSh (plusSh (four a) (nsh (four b))) (sqS n))) (ftS (sqS n) (four a))
section
variable {n m : Nat} {a b c : Sh}
theorem castpos {z : Int} : 0 < (z : Rat) ↔ 0 < z := by
  have : ((0 : Int) : Rat) < (z : Rat) ↔ (0 : Int) < z := Rat.intCast_lt_intCast
  simpa using this
theorem Sh.mulv (h : a.b ≠ 0) : a.val * (a.b : Rat) = (a.t : Rat) := by
  have := castne h
  unfold Sh.val; grind
theorem rpos_mul {x y : Rat} (hy : 0 < y) : 0 < x * y ↔ 0 < x := by
  constructor
  · intro h
    refine Rat.not_le.mp fun hle => ?_
    have := Rat.mul_nonneg (show 0 ≤ -x by grind) (show 0 ≤ y by grind)
    grind
  · intro h; exact Rat.mul_pos h hy
theorem lessB_iff (ha : 0 < a.b) (hb : 0 < b.b) : lessB a b = true ↔ a.val < b.val := by
  unfold lessB
  rw [decide_eq_true_eq]
  have h1 := castpos.mpr ha
  have h2 := castpos.mpr hb
  have e1 := Sh.mulv (a := a) (by omega)
  have e2 := Sh.mulv (a := b) (by omega)
  have e3 : (a.t * b.b < b.t * a.b) ↔ 0 < (b.val - a.val) * ((a.b : Rat) * (b.b : Rat)) := by
    have : (a.t * b.b < b.t * a.b) ↔ 0 < b.t * a.b - a.t * b.b := by omega
    rw [this, ← castpos]
    simp only [Rat.intCast_sub, Rat.intCast_mul]
    rw [← e1, ← e2]
    have : b.val * (b.b : Rat) * (a.b : Rat) - a.val * (a.b : Rat) * (b.b : Rat) = (b.val - a.val) * ((a.b : Rat) * (b.b : Rat)) := by grind
    rw [this]
  rw [e3, rpos_mul (Rat.mul_pos h1 h2)]
  constructor <;> intro h <;> grind
end
/-! ### pairs (s, t) -/
structure POk (p : Sh × Sh) : Prop where
  s : SOk 40 p.1
  t : SOk 40 p.2
  nn : 0 ≤ p.2.t
def isL (p q : Sh × Sh) : Bool := rootB (plusSh p.1 (nsh q.1)) p.2 q.2
section
variable {p q r : Sh × Sh}
/-! bounds -/
theorem div_le {a b : Int} (hb : 0 < b) : ((a / b : Int) : Rat) ≤ (a : Rat) / (b : Rat) := by
  have h1 : (a / b) * b ≤ a := Int.ediv_mul_le a (by omega)
  have h2 : ((a / b : Int) : Rat) * (b : Rat) ≤ (a : Rat) := by exact_mod_cast h1
  have h3 := castpos.mpr hb
  refine Rat.not_lt.mp fun hlt => ?_
  have := Rat.mul_pos (show 0 < ((a / b : Int) : Rat) - (a : Rat) / (b : Rat) by grind) h3
  have e : (a : Rat) / (b : Rat) * (b : Rat) = (a : Rat) := by have := castne (show b ≠ 0 by omega); grind
  grind
theorem lt_div {a b : Int} (hb : 0 < b) : (a : Rat) / (b : Rat) < ((a / b : Int) : Rat) + 1 := by
  have h1 : a < (a / b + 1) * b := Int.lt_ediv_add_one_mul_self a hb
  have h2 : (a : Rat) < (((a / b : Int) : Rat) + 1) * (b : Rat) := by exact_mod_cast h1
  have h3 := castpos.mpr hb
  refine Rat.not_le.mp fun hle => ?_
  have := Rat.mul_nonneg (show 0 ≤ (a : Rat) / (b : Rat) - (((a / b : Int) : Rat) + 1) by grind) (show 0 ≤ (b : Rat) by grind)
  have e : (a : Rat) / (b : Rat) * (b : Rat) = (a : Rat) := by have := castne (show b ≠ 0 by omega); grind
  grind
theorem bounds {lo : Int} (hp : POk p) (h0 : 0 ≤ lo) (h1 : lo * lo ≤ p.2.t * 1000000000000 / p.2.b) (h2 : p.2.t * 1000000000000 / p.2.b < (lo + 1) * (lo + 1)) :
    blw (((p.1.t * 1000000 / p.1.b - 2 * (lo + 1) - 1 : Int) : Rat) / 1000000) p.1.val (4 * p.2.val) ∧ abv (((p.1.t * 1000000 / p.1.b + 1 - 2 * lo + 1 : Int) : Rat) / 1000000) p.1.val (4 * p.2.val) := by
  have m1 := div_le (a := p.1.t * 1000000) hp.s.pos
  have m2 := lt_div (a := p.1.t * 1000000) hp.s.pos
  have b1 := div_le (a := p.2.t * 1000000000000) hp.t.pos
  have b2 := lt_div (a := p.2.t * 1000000000000) hp.t.pos
  have e1 : ((p.1.t * 1000000 : Int) : Rat) / (p.1.b : Rat) = p.1.val * 1000000 := by unfold Sh.val; simp only [Rat.intCast_mul]; grind
  have e2 : ((p.2.t * 1000000000000 : Int) : Rat) / (p.2.b : Rat) = p.2.val * 1000000000000 := by unfold Sh.val; simp only [Rat.intCast_mul]; grind
  rw [e1] at m1 m2
  rw [e2] at b1 b2
  generalize p.1.t * 1000000 / p.1.b = mill at *
  generalize p.2.t * 1000000000000 / p.2.b = big at *
  have c1 : (lo : Rat) * (lo : Rat) ≤ (big : Rat) := by exact_mod_cast h1
  have c2 : (big : Rat) + 1 ≤ ((lo : Rat) + 1) * ((lo : Rat) + 1) := by
    have : big + 1 ≤ (lo + 1) * (lo + 1) := by omega
    exact_mod_cast this
  have c0 : (0 : Rat) ≤ (lo : Rat) := by exact_mod_cast h0
  simp only [Rat.intCast_add, Rat.intCast_sub, Rat.intCast_mul]
  generalize (lo : Rat) = l at *
  generalize (mill : Rat) = m at *
  generalize (big : Rat) = g at *
  generalize p.1.val = s at *
  generalize p.2.val = t at *
  constructor
  · generalize hu : s - (m - (2 : Int) * (l + (1 : Int)) - (1 : Int)) / 1000000 = u
    unfold blw
    rw [hu]
    have hu2 : 2 * (l + 1) + 1 ≤ u * 1000000 := by rw [← hu]; grind
    refine ⟨by grind, ?_⟩
    have x := Rat.mul_nonneg (show 0 ≤ u * 1000000 - (2 * (l + 1) + 1) by grind) (show 0 ≤ u * 1000000 + (2 * (l + 1) + 1) by grind)
    grind
  · generalize hu : s - (m + (1 : Int) - (2 : Int) * l + (1 : Int)) / 1000000 = u
    unfold abv
    rw [hu]
    have hu2 : u * 1000000 < 2 * l - 1 := by rw [← hu]; grind
    by_cases hn : u < 0
    · exact .inl hn
    · right
      have x := Rat.mul_nonneg (show 0 ≤ (2 * l - 1) - u * 1000000 by grind) (show 0 ≤ (2 * l - 1) + u * 1000000 by grind)
      grind
end
end G
namespace G
open PySem PySem.Spec L2
/-! ### the plain functions, told: numbers -/
theorem ixP0 {p : Pt} {Φ : D → Prop} : ixD p.d (.int 0) Φ = Φ (.int p.x) := rfl
theorem ixP1 {p : Pt} {Φ : D → Prop} : ixD p.d (.int 1) Φ = Φ (.int p.y) := rfl
theorem ixP2 {p : Pt} {Φ : D → Prop} : ixD p.d (.int 2) Φ = Φ (.int p.w) := rfl
theorem ixS0 {p : Sh} {Φ : D → Prop} : ixD p.d (.int 0) Φ = Φ (.int p.t) := rfl
theorem ixS1 {p : Sh} {Φ : D → Prop} : ixD p.d (.int 1) Φ = Φ (.int p.b) := rfl
theorem ixM0 {p : Mo} {Φ : D → Prop} : ixD p.d (.int 0) Φ = Φ p.t.d := rfl
theorem ixM1 {p : Mo} {Φ : D → Prop} : ixD p.d (.int 1) Φ = Φ p.s.d := rfl
theorem ixM2 {p : Mo} {Φ : D → Prop} : ixD p.d (.int 2) Φ = Φ (.int p.f) := rfl
theorem un3M {m : Mo} {k : D → D → D → Prop} : un3 m.d k = k m.t.d m.s.d (.int m.f) := rfl
theorem un3P {p : Pt} {k : D → D → D → Prop} : un3 p.d k = k (.int p.x) (.int p.y) (.int p.w) := rfl
theorem un2S {p : Sh} {k : D → D → Prop} : un2 p.d k = k (.int p.t) (.int p.b) := rfl
theorem eqB_i {i j : Int} {Θ : Bool → Prop} : eqB (.int i) (.int j) Θ = Θ (decide (i = j)) := by
  unfold eqB; rw [deq_int]; exact propext ⟨fun h => h.2, fun h => ⟨⟨rfl, rfl⟩, h⟩⟩
theorem neB_i {i j : Int} {Θ : Bool → Prop} : neB (.int i) (.int j) Θ = Θ (!decide (i = j)) := by
  unfold neB; rw [deq_int]; exact propext ⟨fun h => h.2, fun h => ⟨⟨rfl, rfl⟩, h⟩⟩
theorem eqB_p {p q : Pt} {Θ : Bool → Prop} : eqB p.d q.d Θ = Θ (decide (p = q)) := by
  unfold eqB; rw [deq_pt]; exact propext ⟨fun h => h.2, fun h => ⟨⟨shp_pt _ _, shp_pt _ _⟩, h⟩⟩
theorem neB_p {p q : Pt} {Θ : Bool → Prop} : neB p.d q.d Θ = Θ (!decide (p = q)) := by
  unfold neB; rw [deq_pt]; exact propext ⟨fun h => h.2, fun h => ⟨⟨shp_pt _ _, shp_pt _ _⟩, h⟩⟩
theorem eqB_s {p q : Sh} {Θ : Bool → Prop} : eqB p.d q.d Θ = Θ (decide (p = q)) := by
  unfold eqB; rw [deq_sh]; exact propext ⟨fun h => h.2, fun h => ⟨⟨shp_sh _ _, shp_sh _ _⟩, h⟩⟩
theorem neB_s {p q : Sh} {Θ : Bool → Prop} : neB p.d q.d Θ = Θ (!decide (p = q)) := by
  unfold neB; rw [deq_sh]; exact propext ⟨fun h => h.2, fun h => ⟨⟨shp_sh _ _, shp_sh _ _⟩, h⟩⟩
theorem eqB_m {p q : Mo} {Θ : Bool → Prop} : eqB p.d q.d Θ = Θ (decide (p = q)) := by
  unfold eqB; rw [deq_mo]; exact propext ⟨fun h => h.2, fun h => ⟨⟨shp_mo _ _, shp_mo _ _⟩, h⟩⟩
theorem neB_m {p q : Mo} {Θ : Bool → Prop} : neB p.d q.d Θ = Θ (!decide (p = q)) := by
  unfold neB; rw [deq_mo]; exact propext ⟨fun h => h.2, fun h => ⟨⟨shp_mo _ _, shp_mo _ _⟩, h⟩⟩
theorem ite_dec {p : Prop} [Decidable p] {P Q : Prop} : (if decide p = true then P else Q) = if p then P else Q := by by_cases h : p <;> simp [h]
theorem ite_ndec {p : Prop} [Decidable p] {P Q : Prop} : (if (!decide p) = true then P else Q) = if p then Q else P := by by_cases h : p <;> simp [h]
theorem ite_tt {P Q : Prop} : (if true = true then P else Q) = P := if_pos rfl
theorem ite_ff {P Q : Prop} : (if false = true then P else Q) = Q := if_neg (by decide)
theorem ite_nt {P Q : Prop} : (if (!true) = true then P else Q) = Q := if_neg (by decide)
theorem ite_nf {P Q : Prop} : (if (!false) = true then P else Q) = P := if_pos rfl
section
variable {i j : Int} {Φ : D → Prop} {Θ : Bool → Prop} {ds es : List D} {a b c : D} {k : Bool} {K : List D → Prop}
theorem bv_b : bv (.bl k) Θ = Θ k := rfl
theorem seqD_l : seqD (.lst ds) K = K ds := rfl
theorem seqD_t : seqD (.tup ds) K = K ds := rfl
theorem walkD_l : walkD (.lst ds) K = K ds := rfl
theorem walkD_t : walkD (.tup ds) K = K ds := rfl
theorem walkD_c : walkD (.dct ds es) K = K ds := rfl
theorem addD_i : addD (.int i) (.int j) Φ = Φ (.int (i + j)) := rfl
theorem subD_i : subD (.int i) (.int j) Φ = Φ (.int (i - j)) := rfl
theorem mulD_i : mulD (.int i) (.int j) Φ = (CMulW i j ∧ Φ (.int (i * j))) := rfl
theorem fdivD_i : fdivD (.int i) (.int j) Φ = (CDivZ i j ∧ Φ (.int (i.fdiv j))) := rfl
theorem modD_i : modD (.int i) (.int j) Φ = (0 < j ∧ Φ (.int (i % j))) := rfl
theorem negD_i : negD (.int i) Φ = Φ (.int (-i)) := rfl
theorem absD_i : absD (.int i) Φ = Φ (.int (if i < 0 then -i else i)) := rfl
theorem maxD_i : maxD (.int i) (.int j) Φ = Φ (.int (if j > i then j else i)) := rfl
theorem lnD_l : lnD (.lst ds) Φ = Φ (.int ds.length) := rfl
theorem lnD_t : lnD (.tup ds) Φ = Φ (.int ds.length) := rfl
theorem ltB_i : ltB (.int i) (.int j) Θ = Θ (decide (i < j)) := rfl
theorem leB_i : leB (.int i) (.int j) Θ = Θ (decide (i ≤ j)) := rfl
theorem gtB_i : gtB (.int i) (.int j) Θ = Θ (decide (j < i)) := rfl
theorem geB_i : geB (.int i) (.int j) Θ = Θ (decide (j ≤ i)) := rfl
theorem isVB_b : isVB a (.bl k) Θ = Θ (a.isV k) := rfl
theorem isntVB_b : isntVB a (.bl k) Θ = Θ (!a.isV k) := rfl
theorem zip2_l : zip2 (.lst ds) (.lst es) K = K (zipD ds es) := rfl
theorem zip2_t : zip2 (.tup ds) (.tup es) K = K (zipD ds es) := rfl
theorem un2_t {k : D → D → Prop} : un2 (.tup [a, b]) k = k a b := rfl
theorem un2_l {k : D → D → Prop} : un2 (.lst [a, b]) k = k a b := rfl
theorem un3_t {k : D → D → D → Prop} : un3 (.tup [a, b, c]) k = k a b c := rfl
theorem un3_l {k : D → D → D → Prop} : un3 (.lst [a, b, c]) k = k a b c := rfl
theorem ixT30 : ixD (.tup [a, b, c]) (.int 0) Φ = Φ a := rfl
theorem ixT31 : ixD (.tup [a, b, c]) (.int 1) Φ = Φ b := rfl
theorem ixT32 : ixD (.tup [a, b, c]) (.int 2) Φ = Φ c := rfl
theorem ixT20 : ixD (.tup [a, b]) (.int 0) Φ = Φ a := rfl
theorem ixT21 : ixD (.tup [a, b]) (.int 1) Φ = Φ b := rfl
theorem isDat_d {k : D → Prop} : isDat (.dat a) k = k a := rfl
end
local macro_rules | `(tactic| walk_at "sx") => `(tactic| try simp only [bin, una, lcE, cmpV, cmpT, tv, bv_b, notT, andT, orT, notV, andV, orV, ifE, nilA, consA, tupE, lstE, c1, c2, c3, c4, itE, seqD_l, seqD_t, walkD_l, walkD_t, walkD_c, ret, addD_i, subD_i, mulD_i, negD_i, fdivD_i, modD_i, absD_i, maxD_i, lnD_l, lnD_t, ltB_i, leB_i, gtB_i, geB_i, rng1, rng2, zipM, zip2_l, zip2_t, chnV, chnT, un2_t, un2_l, un3_t, un3_l, join, isDat_d,
  ixP0, ixP1, ixP2, ixS0, ixS1, ixM0, ixM1, ixM2, un3M, un3P, un2S, eqB_i, neB_i, eqB_p, neB_p, eqB_s, neB_s, eqB_m, neB_m, ite_dec, ite_ndec, ite_tt, ite_ff, ite_nt, ite_nf, isNB, notNB, isVB_b, isntVB_b, ixT30, ixT31, ixT32, ixT20, ixT21, if_true, if_false])
local macro_rules | `(tactic| walk_at "sy") => `(tactic| try simp only [bin, una, lcE, cmpV, cmpT, tv, bv_b, nilA, consA, tupE, lstE, c1, c2, c3, c4, itE, seqD_l, seqD_t, walkD_l, walkD_t, walkD_c, ret, addD_i, subD_i, mulD_i, negD_i, fdivD_i, modD_i, absD_i, maxD_i, lnD_l, lnD_t, ltB_i, leB_i, gtB_i, geB_i, rng1, rng2, zipM, zip2_l, zip2_t, un2_t, un2_l, un3_t, un3_l, isDat_d,
  ixP0, ixP1, ixP2, ixS0, ixS1, ixM0, ixM1, ixM2, un3M, un3P, un2S, eqB_i, neB_i, eqB_p, neB_p, eqB_s, neB_s, eqB_m, neB_m, ite_dec, ite_ndec, ite_tt, ite_ff, ite_nt, ite_nf, isNB, notNB, isVB_b, isntVB_b, ixT30, ixT31, ixT32, ixT20, ixT21, if_true, if_false])
local macro_rules | `(tactic| walk_at "bn") => `(tactic| first
  | assumption
  | (apply Bn.mul <;> walk_at "bn")
  | (apply Bn.add <;> walk_at "bn")
  | (apply Bn.sub <;> walk_at "bn")
  | (apply Bn.neg <;> walk_at "bn")
  | (apply Bn.abs <;> walk_at "bn")
  | exact (show Bn 64 _ by unfold Bn; decide))
local macro_rules | `(tactic| walk_at "cm") => `(tactic| (apply Bn.cm; (focus walk_at "bn"); (focus walk_at "bn"); omega))
local macro_rules | `(tactic| walk_at "nz") => `(tactic| first
  | assumption
  | omega
  | (apply mulnz <;> walk_at "nz"))
local macro_rules | `(tactic| walk_at "mok") => `(tactic| first
  | assumption
  | (apply joined_ok <;> walk_at "mok")
  | (apply backOf_ok <;> walk_at "mok")
  | exact still_ok)
local macro_rules | `(tactic| walk_at "ok") => `(tactic| first
  | assumption
  | (apply plus_ok <;> walk_at "ok")
  | (apply minus_ok <;> walk_at "ok")
  | (apply times_ok <;> walk_at "ok")
  | (apply flipped_ok <;> walk_at "ok")
  | (apply ledBy_ok <;> first | walk_at "ok" | walk_at "mok")
  | solve_by_elim)
local macro_rules | `(tactic| walk_at "norm") => `(tactic| first
  | assumption
  | (apply flipped_norm <;> walk_at "norm")
  | (apply plus_norm' <;> walk_at "ok")
  | (apply minus_norm' <;> walk_at "ok")
  | (apply times_norm' <;> walk_at "ok")
  | (apply ledBy_norm <;> first | walk_at "ok" | walk_at "mok")
  | solve_by_elim)
local macro_rules | `(tactic| walk_at "shp") => `(tactic| first
  | rfl
  | assumption
  | exact shp_pt _ _
  | exact shp_sh _ _
  | exact shp_mo _ _
  | exact shpA_pt1 _ _
  | exact shpA_pt2 _ _ _
  | exact shp_pts
  | exact (show D.shp 8 _ = true from rfl)
  | solve_by_elim)
local macro_rules | `(tactic| walk_at "pts") => `(tactic| first
  | (apply pts1 <;> walk_at "norm")
  | (apply pts2 <;> walk_at "norm"))
local macro_rules | `(tactic| walk_at "ismo") => `(tactic| (apply isMo_yes <;> walk_at "mok"))
local macro_rules | `(tactic| walk_at "one") => `(tactic| assumption)
local macro_rules | `(tactic| walk_at "db") => `(tactic| first
  | assumption
  | (apply MOk.db <;> walk_at "mok")
  | (apply Ok.db <;> walk_at "ok")
  | solve_by_elim)
local macro_rules | `(tactic| walk_at "nopq") => `(tactic| first | assumption | solve_by_elim | (intro n h; cases h))
local macro_rules | `(tactic| walk_at "sz") => `(tactic| first | omega | assumption | (simp; done) | (simp_all <;> omega))
local macro_rules | `(tactic| walk_at "sok") => `(tactic| first
  | assumption
  | (apply plusSh_ok <;> walk_at "sok")
  | (apply gap_ok <;> walk_at "ok")
  | (apply size_ok <;> walk_at "ok")
  | exact nought_ok (n := 1) (by decide))
local macro_rules | `(tactic| walk_at "oks") => `(tactic| first
  | assumption
  | solve_by_elim)
local macro_rules | `(tactic| walk_at "ne") => `(tactic| first
  | assumption
  | (simp; done))
local macro_rules | `(tactic| walk_at "prs") => `(tactic| (apply prs <;> assumption))
local macro_rules | `(tactic| walk_at "norms") => `(tactic| first | assumption | solve_by_elim)
local macro_rules | `(tactic| walk_at "soks") => `(tactic| first | assumption | solve_by_elim)
local macro_rules | `(tactic| walk_at "bn") => `(tactic| first
  | assumption
  | (apply Bn.mul <;> walk_at "bn")
  | (apply Bn.add <;> walk_at "bn")
  | (apply Bn.sub <;> walk_at "bn")
  | (apply Bn.neg <;> walk_at "bn")
  | (apply Bn.abs <;> walk_at "bn")
  | exact (show Bn 64 _ by unfold Bn; decide)
  | exact (show Bn 64 _ by unfold Bn; omega))
local macro_rules | `(tactic| walk_at "pok") => `(tactic| first | assumption | solve_by_elim)
local macro_rules | `(tactic| walk_at "cd") => `(tactic| (apply Bn.cd; (focus walk_at "bn"); (first | assumption | omega); omega))
local macro_rules | `(tactic| walk_at "sz") => `(tactic| try simp only [c1, c2, c3, c4, ret, tupE, nilA, consA, lstE, itE, walkD_l, walkD_t, walkD_c, un2_t, un2_l, un3_t, un3_l, un3M, un3P, un2S])
section
variable {Φ : D → Prop} {Ψ : Str → Prop} {a b w : Int} {n m l n1 n2 n3 : Nat} {p q : Pt}
theorem common_w (k : Φ (.int (Int.gcd a b))) : p_common (.int a) (.int b) Φ Ψ := by
  refine ⟨?_⟩
  walk_at "sx"
  refine ⟨fun m s => ∃ x y : Int, 0 ≤ x ∧ 0 ≤ y ∧ y.toNat = m ∧ Int.gcd x y = Int.gcd a b ∧ s = (D.int x, D.int y), ⟨_, _, _, ?_, ?_, rfl, ?_, rfl⟩, ?_⟩
  · split <;> omega
  · split <;> omega
  · have e : ∀ x : Int, (if x < 0 then -x else x).natAbs = x.natAbs := fun x => by split <;> omega
    unfold Int.gcd; rw [e, e]
  rintro m _ ⟨x, y, hx, hy, hm, hg, rfl⟩
  walk_at "sx"
  by_cases h0 : y = 0
  · subst h0
    rw [if_pos rfl]
    have : x = (Int.gcd a b : Int) := by rw [← hg, Int.gcd_zero_right]; omega
    rw [this]; exact k
  · rw [if_neg h0]
    refine ⟨by omega, (x % y).toNat, ?_, y, x % y, hy, Int.emod_nonneg _ h0, rfl, ?_, rfl⟩
    · have := Int.emod_lt_of_pos x (show 0 < y by omega)
      omega
    · rw [← hg]
      obtain ⟨m, rfl⟩ := Int.eq_ofNat_of_zero_le hx
      obtain ⟨n, rfl⟩ := Int.eq_ofNat_of_zero_le hy
      show Nat.gcd n (m % n) = Nat.gcd m n
      rw [Nat.gcd_comm m n, Nat.gcd_rec n m, Nat.gcd_comm]
theorem law_gcd_w (k : Φ (.int (Int.gcd a b))) : p_law_gcd (.int a) (.int b) Φ Ψ := by
  refine ⟨?_⟩
  walk_at "sx"
  refine ⟨fun m s => ∃ x y : Int, 0 ≤ x ∧ 0 ≤ y ∧ y.toNat = m ∧ Int.gcd x y = Int.gcd a b ∧ s = (D.int x, D.int y), ⟨_, _, _, ?_, ?_, rfl, ?_, rfl⟩, ?_⟩
  · split <;> omega
  · split <;> omega
  · have e : ∀ x : Int, (if 0 - x > x then 0 - x else x).natAbs = x.natAbs := fun x => by split <;> omega
    unfold Int.gcd; rw [e, e]
  rintro m _ ⟨x, y, hx, hy, hm, hg, rfl⟩
  walk_at "sx"
  by_cases h0 : y = 0
  · subst h0
    rw [if_pos rfl]
    have : x = (Int.gcd a b : Int) := by rw [← hg, Int.gcd_zero_right]; omega
    rw [this]; exact k
  · rw [if_neg h0]
    refine ⟨by omega, (x % y).toNat, ?_, y, x % y, hy, Int.emod_nonneg _ h0, rfl, ?_, rfl⟩
    · have := Int.emod_lt_of_pos x (show 0 < y by omega)
      omega
    · rw [← hg]
      obtain ⟨m, rfl⟩ := Int.eq_ofNat_of_zero_le hx
      obtain ⟨n, rfl⟩ := Int.eq_ofNat_of_zero_le hy
      show Nat.gcd n (m % n) = Nat.gcd m n
      rw [Nat.gcd_comm m n, Nat.gcd_rec n m, Nat.gcd_comm]
theorem cz_g3 {i : Int} (h3 : Bn n3 w) (hw : w ≠ 0) (hn : n3 ≤ 8900) : CDivZ i (g3 a b w) := (bn_g3 h3 hw).cz (g3_ne hw) hn
theorem if_g3 {F : Int → Prop} (h : F (g3 a b w)) : if 0 < w then F (Int.gcd (Int.gcd a b) w) else F (-(Int.gcd (Int.gcd a b) w : Int)) := by
  unfold g3 at h; split <;> rename_i hw
  · rw [if_pos hw] at h; exact h
  · rw [if_neg hw] at h; exact h
theorem low_tup (h3 : Bn n3 w) (hw : w ≠ 0) (hn : n3 ≤ 8900) (k : Φ (low a b w).d) : CDivZ a (g3 a b w) ∧ (CDivZ b (g3 a b w) ∧ (CDivZ w (g3 a b w) ∧ Φ (.tup [.int (a.fdiv (g3 a b w)), .int (b.fdiv (g3 a b w)), .int (w.fdiv (g3 a b w))]))) := by
  rw [Int.fdiv_eq_ediv_of_dvd g3_dvd_a, Int.fdiv_eq_ediv_of_dvd g3_dvd_b, Int.fdiv_eq_ediv_of_dvd g3_dvd_w]
  exact ⟨cz_g3 h3 hw hn, cz_g3 h3 hw hn, cz_g3 h3 hw hn, k⟩
theorem lowest_w (h3 : Bn n3 w) (hw : w ≠ 0) (hn : n3 ≤ 8900) (k : Φ (low a b w).d) : p_lowest (.int a) (.int b) (.int w) Φ Ψ := by
  refine ⟨?_⟩
  walk_at "sx"
  refine common_w (common_w ?_)
  exact if_g3 (F := fun g => CDivZ a g ∧ (CDivZ b g ∧ (CDivZ w g ∧ Φ (.tup [.int (a.fdiv g), .int (b.fdiv g), .int (w.fdiv g)])))) (low_tup h3 hw hn k)
theorem law_low_w (h3 : Bn n3 w) (hw : w ≠ 0) (hn : n3 ≤ 8900) (k : Φ (low a b w).d) : p_law_low (.int a) (.int b) (.int w) Φ Ψ := by
  refine ⟨?_⟩
  walk_at "sx"
  refine law_gcd_w (law_gcd_w ?_)
  walk_at "sx"
  simp only [Int.zero_sub]
  exact if_g3 (F := fun g => CDivZ a g ∧ (CDivZ b g ∧ (CDivZ w g ∧ Φ (.tup [.int (a.fdiv g), .int (b.fdiv g), .int (w.fdiv g)])))) (low_tup h3 hw hn k)
theorem gcd0 : Int.gcd (Int.gcd a 0) w = Int.gcd a w := by simp [Int.gcd]
theorem share_w (h3 : Bn n3 w) (hw : w ≠ 0) (hn : n3 ≤ 8900) (k : Φ (shr a w).d) : p_share (.int a) (.int w) Φ Ψ := by
  refine ⟨?_⟩
  walk_at "sx"
  refine common_w ?_
  have h := if_g3 (a := a) (b := 0) (w := w) (F := fun g => CDivZ a g ∧ (CDivZ w g ∧ Φ (.tup [.int (a.fdiv g), .int (w.fdiv g)]))) (by
    rw [Int.fdiv_eq_ediv_of_dvd g3_dvd_a, Int.fdiv_eq_ediv_of_dvd g3_dvd_w]
    exact ⟨cz_g3 h3 hw hn, cz_g3 h3 hw hn, k⟩)
  rw [gcd0] at h
  exact h
theorem law_share_w (h3 : Bn n3 w) (hw : w ≠ 0) (hn : n3 ≤ 8900) (k : Φ (shr a w).d) : p_law_share (.int a) (.int w) Φ Ψ := by
  refine ⟨?_⟩
  walk_at "sx"
  refine law_gcd_w ?_
  walk_at "sx"
  simp only [Int.zero_sub]
  have h := if_g3 (a := a) (b := 0) (w := w) (F := fun g => CDivZ a g ∧ (CDivZ w g ∧ Φ (.tup [.int (a.fdiv g), .int (w.fdiv g)]))) (by
    rw [Int.fdiv_eq_ediv_of_dvd g3_dvd_a, Int.fdiv_eq_ediv_of_dvd g3_dvd_w]
    exact ⟨cz_g3 h3 hw hn, cz_g3 h3 hw hn, k⟩)
  rw [gcd0] at h
  exact h
end
end G
namespace G
open PySem PySem.Spec L2
local macro_rules | `(tactic| walk_at "sx") => `(tactic| try simp only [bin, una, lcE, cmpV, cmpT, tv, bv_b, notT, andT, orT, notV, andV, orV, ifE, nilA, consA, tupE, lstE, c1, c2, c3, c4, itE, seqD_l, seqD_t, walkD_l, walkD_t, walkD_c, ret, addD_i, subD_i, mulD_i, negD_i, fdivD_i, modD_i, absD_i, maxD_i, lnD_l, lnD_t, ltB_i, leB_i, gtB_i, geB_i, rng1, rng2, zipM, zip2_l, zip2_t, chnV, chnT, un2_t, un2_l, un3_t, un3_l, join, isDat_d,
  ixP0, ixP1, ixP2, ixS0, ixS1, ixM0, ixM1, ixM2, un3M, un3P, un2S, eqB_i, neB_i, eqB_p, neB_p, eqB_s, neB_s, eqB_m, neB_m, ite_dec, ite_ndec, ite_tt, ite_ff, ite_nt, ite_nf, isNB, notNB, isVB_b, isntVB_b, ixT30, ixT31, ixT32, ixT20, ixT21, if_true, if_false])
local macro_rules | `(tactic| walk_at "sy") => `(tactic| try simp only [bin, una, lcE, cmpV, cmpT, tv, bv_b, nilA, consA, tupE, lstE, c1, c2, c3, c4, itE, seqD_l, seqD_t, walkD_l, walkD_t, walkD_c, ret, addD_i, subD_i, mulD_i, negD_i, fdivD_i, modD_i, absD_i, maxD_i, lnD_l, lnD_t, ltB_i, leB_i, gtB_i, geB_i, rng1, rng2, zipM, zip2_l, zip2_t, un2_t, un2_l, un3_t, un3_l, isDat_d,
  ixP0, ixP1, ixP2, ixS0, ixS1, ixM0, ixM1, ixM2, un3M, un3P, un2S, eqB_i, neB_i, eqB_p, neB_p, eqB_s, neB_s, eqB_m, neB_m, ite_dec, ite_ndec, ite_tt, ite_ff, ite_nt, ite_nf, isNB, notNB, isVB_b, isntVB_b, ixT30, ixT31, ixT32, ixT20, ixT21, if_true, if_false])
local macro_rules | `(tactic| walk_at "bn") => `(tactic| first
  | assumption
  | (apply Bn.mul <;> walk_at "bn")
  | (apply Bn.add <;> walk_at "bn")
  | (apply Bn.sub <;> walk_at "bn")
  | (apply Bn.neg <;> walk_at "bn")
  | (apply Bn.abs <;> walk_at "bn")
  | exact (show Bn 64 _ by unfold Bn; decide))
local macro_rules | `(tactic| walk_at "cm") => `(tactic| (apply Bn.cm; (focus walk_at "bn"); (focus walk_at "bn"); omega))
local macro_rules | `(tactic| walk_at "nz") => `(tactic| first
  | assumption
  | omega
  | (apply mulnz <;> walk_at "nz"))
local macro_rules | `(tactic| walk_at "mok") => `(tactic| first
  | assumption
  | (apply joined_ok <;> walk_at "mok")
  | (apply backOf_ok <;> walk_at "mok")
  | exact still_ok)
local macro_rules | `(tactic| walk_at "ok") => `(tactic| first
  | assumption
  | (apply plus_ok <;> walk_at "ok")
  | (apply minus_ok <;> walk_at "ok")
  | (apply times_ok <;> walk_at "ok")
  | (apply flipped_ok <;> walk_at "ok")
  | (apply ledBy_ok <;> first | walk_at "ok" | walk_at "mok")
  | solve_by_elim)
local macro_rules | `(tactic| walk_at "norm") => `(tactic| first
  | assumption
  | (apply flipped_norm <;> walk_at "norm")
  | (apply plus_norm' <;> walk_at "ok")
  | (apply minus_norm' <;> walk_at "ok")
  | (apply times_norm' <;> walk_at "ok")
  | (apply ledBy_norm <;> first | walk_at "ok" | walk_at "mok")
  | solve_by_elim)
local macro_rules | `(tactic| walk_at "shp") => `(tactic| first
  | rfl
  | assumption
  | exact shp_pt _ _
  | exact shp_sh _ _
  | exact shp_mo _ _
  | exact shpA_pt1 _ _
  | exact shpA_pt2 _ _ _
  | exact shp_pts
  | exact (show D.shp 8 _ = true from rfl)
  | solve_by_elim)
local macro_rules | `(tactic| walk_at "pts") => `(tactic| first
  | (apply pts1 <;> walk_at "norm")
  | (apply pts2 <;> walk_at "norm"))
local macro_rules | `(tactic| walk_at "ismo") => `(tactic| (apply isMo_yes <;> walk_at "mok"))
local macro_rules | `(tactic| walk_at "one") => `(tactic| assumption)
local macro_rules | `(tactic| walk_at "db") => `(tactic| first
  | assumption
  | (apply MOk.db <;> walk_at "mok")
  | (apply Ok.db <;> walk_at "ok")
  | solve_by_elim)
local macro_rules | `(tactic| walk_at "nopq") => `(tactic| first | assumption | solve_by_elim | (intro n h; cases h))
local macro_rules | `(tactic| walk_at "sz") => `(tactic| first | omega | assumption | (simp; done) | (simp_all <;> omega))
local macro_rules | `(tactic| walk_at "sok") => `(tactic| first
  | assumption
  | (apply plusSh_ok <;> walk_at "sok")
  | (apply gap_ok <;> walk_at "ok")
  | (apply size_ok <;> walk_at "ok")
  | exact nought_ok (n := 1) (by decide))
local macro_rules | `(tactic| walk_at "oks") => `(tactic| first
  | assumption
  | solve_by_elim)
local macro_rules | `(tactic| walk_at "ne") => `(tactic| first
  | assumption
  | (simp; done))
local macro_rules | `(tactic| walk_at "prs") => `(tactic| (apply prs <;> assumption))
local macro_rules | `(tactic| walk_at "norms") => `(tactic| first | assumption | solve_by_elim)
local macro_rules | `(tactic| walk_at "soks") => `(tactic| first | assumption | solve_by_elim)
local macro_rules | `(tactic| walk_at "bn") => `(tactic| first
  | assumption
  | (apply Bn.mul <;> walk_at "bn")
  | (apply Bn.add <;> walk_at "bn")
  | (apply Bn.sub <;> walk_at "bn")
  | (apply Bn.neg <;> walk_at "bn")
  | (apply Bn.abs <;> walk_at "bn")
  | exact (show Bn 64 _ by unfold Bn; decide)
  | exact (show Bn 64 _ by unfold Bn; omega))
local macro_rules | `(tactic| walk_at "pok") => `(tactic| first | assumption | solve_by_elim)
local macro_rules | `(tactic| walk_at "cd") => `(tactic| (apply Bn.cd; (focus walk_at "bn"); (first | assumption | omega); omega))
local macro_rules | `(tactic| walk_at "sz") => `(tactic| try simp only [c1, c2, c3, c4, ret, tupE, nilA, consA, lstE, itE, walkD_l, walkD_t, walkD_c, un2_t, un2_l, un3_t, un3_l, un3M, un3P, un2S])
section
variable {Φ : D → Prop} {Ψ : Str → Prop} {n m l : Nat} {p q : Pt} {a b : Sh}
/-! ### points -/
theorem size_w (hp : Ok n p) (hn : n ≤ 4000) (k : Φ (size p).d) : p_size p.d Φ Ψ := by
  have b1 := hp.x; have b2 := hp.y; have b3 := hp.w
  refine ⟨?_⟩
  walk_at "sx"
  exact ⟨by walk_at "cm", by walk_at "cm", by walk_at "cm", share_w (b3.mul b3) (hp.pp hp) (by omega) k⟩
/-! ### shares -/
/-! ### things of any kind -/
theorem is_number_w {d : D} (h : d.nopq = true) (k : Φ (.bl d.isI)) : p_is_number d Φ Ψ := by
  refine ⟨?_⟩
  walk_at "sx"
  refine ⟨h, ?_⟩
  cases d <;> first | exact ⟨rfl, k⟩ | exact k
theorem is_whole_w {d : D} {lo hi : Int} (h : d.nopq = true) (k : Φ (.bl (isWh d lo hi))) : p_is_whole d (.int lo) (.int hi) Φ Ψ := by
  refine ⟨?_⟩
  simp only [andV, c1, ret]
  refine is_number_w h ?_
  cases d with
  | int i =>
    simp only [D.isI, bv, ↓reduceIte]
    walk_at "sx"
    unfold isWh at k
    by_cases h1 : lo ≤ i
    · rw [if_pos h1]; simpa [h1] using k
    · rw [if_neg h1]; simpa [h1] using k
  | _ => exact k
theorem nopq_shp {n : Nat} {d : D} (h : D.shp n d = true) : d.nopq = true := by cases d <;> first | rfl | exact Bool.noConfusion h
theorem isPt_tup {xs : List D} (h : xs.length ≠ 3) : isPt (.tup xs) = false := by
  unfold isPt
  split
  · rename_i q; injection q with q; subst q; exact absurd rfl h
  · rfl
theorem all_map {ds : List D} {t : D → Bool} (k : Φ (.bl (ds.all t))) : allD (.lst (ds.map fun d => .bl (t d))) Φ := ⟨ds.map t, by rw [List.map_map]; rfl, by rw [List.all_map]; exact k⟩
theorem any_map {ds : List D} {t : D → Bool} (k : Φ (.bl (ds.any t))) : anyD (.lst (ds.map fun d => .bl (t d))) Φ := ⟨ds.map t, by rw [List.map_map]; rfl, by rw [List.any_map]; exact k⟩
/-- a comprehension that maps -/
theorem lcL_map {f : D → (Option D → Prop) → Prop} (g : D → D) {ds acc : List D} {k : List D → Prop} (h : ∀ d ∈ ds, ∀ K, K (some (g d)) → f d K) (hk : k (acc ++ ds.map g)) : lcL f ds acc k := by
  induction ds generalizing acc with
  | nil => simpa [lcL] using hk
  | cons d ds ih => exact h d List.mem_cons_self _ (ih (fun d hd => h d (List.mem_cons_of_mem _ hd)) (by simpa using hk))
theorem is_point_w {n : Nat} {d : D} (h : D.shp n d = true) (hz : d.isT = true → ∀ xs, d = .tup xs → xs.length ≤ 100000) (k : Φ (.bl (isPt d))) : p_is_point d Φ Ψ := by
  refine ⟨?_⟩
  walk_at "sx"
  refine ⟨nopq_shp h, ?_⟩
  cases d with
  | tup xs =>
    have hx := shp_tupA h
    simp only [D.isT, Bool.not_true, Bool.false_eq_true, if_false]
    walk_at "sx"
    by_cases h3 : (xs.length : Int) = 3
    · rw [if_pos h3]
      match xs, h3, hx with
      | [a, b, c], _, hx =>
        simp only [lcL]
        refine ⟨by simp, is_number_w (nopq_shp (shp_mem hx (by simp))) (is_number_w (nopq_shp (shp_mem hx (by simp))) (is_number_w (nopq_shp (shp_mem hx (by simp))) ⟨[a.isI, b.isI, c.isI], rfl, ?_⟩))⟩
        walk_at "sx"
        by_cases hI : (a.isI = true ∧ b.isI = true) ∧ c.isI = true
        · obtain ⟨⟨h1, h2⟩, h3⟩ := hI
          cases a with
          | int x => cases b with
            | int y => cases c with
              | int w =>
                show (if (!true) = true then _ else if decide (0 < w) = true then p_common (.int x) (.int y) _ _ else _)
                rw [ite_nt, ite_dec]
                unfold isPt at k
                by_cases hw : 0 < w
                · rw [if_pos hw]
                  refine common_w ?_
                  show p_common _ (.int w) _ _
                  refine common_w ?_
                  rw [eqB_i]
                  simpa [hw] using k
                · rw [if_neg hw]
                  simpa [hw] using k
              | _ => cases h3
            | _ => cases h2
          | _ => cases h1
        · have e : ([a.isI, b.isI, c.isI].all id) = false := by
            simp only [List.all_cons, List.all_nil, id, Bool.and_true]
            cases h1 : a.isI <;> cases h2 : b.isI <;> cases h3 : c.isI <;> simp_all
          rw [e, ite_nf]
          have e2 : isPt (.tup [a, b, c]) = false := by
            unfold isPt
            split
            · rename_i q; injection q with q; injection q with q1 q; injection q with q2 q; injection q with q3 q; subst q1 q2 q3; exact absurd ⟨⟨rfl, rfl⟩, rfl⟩ hI
            · rfl
          rw [e2] at k
          exact k
    · rw [if_neg h3]
      rw [isPt_tup (by omega)] at k
      exact k
  | _ => exact k
end
end G
namespace G
open PySem PySem.Spec L2
local macro_rules | `(tactic| walk_at "sx") => `(tactic| try simp only [bin, una, lcE, cmpV, cmpT, tv, bv_b, notT, andT, orT, notV, andV, orV, ifE, nilA, consA, tupE, lstE, c1, c2, c3, c4, itE, seqD_l, seqD_t, walkD_l, walkD_t, walkD_c, ret, addD_i, subD_i, mulD_i, negD_i, fdivD_i, modD_i, absD_i, maxD_i, lnD_l, lnD_t, ltB_i, leB_i, gtB_i, geB_i, rng1, rng2, zipM, zip2_l, zip2_t, chnV, chnT, un2_t, un2_l, un3_t, un3_l, join, isDat_d,
  ixP0, ixP1, ixP2, ixS0, ixS1, ixM0, ixM1, ixM2, un3M, un3P, un2S, eqB_i, neB_i, eqB_p, neB_p, eqB_s, neB_s, eqB_m, neB_m, ite_dec, ite_ndec, ite_tt, ite_ff, ite_nt, ite_nf, isNB, notNB, isVB_b, isntVB_b, ixT30, ixT31, ixT32, ixT20, ixT21, if_true, if_false])
local macro_rules | `(tactic| walk_at "sy") => `(tactic| try simp only [bin, una, lcE, cmpV, cmpT, tv, bv_b, nilA, consA, tupE, lstE, c1, c2, c3, c4, itE, seqD_l, seqD_t, walkD_l, walkD_t, walkD_c, ret, addD_i, subD_i, mulD_i, negD_i, fdivD_i, modD_i, absD_i, maxD_i, lnD_l, lnD_t, ltB_i, leB_i, gtB_i, geB_i, rng1, rng2, zipM, zip2_l, zip2_t, un2_t, un2_l, un3_t, un3_l, isDat_d,
  ixP0, ixP1, ixP2, ixS0, ixS1, ixM0, ixM1, ixM2, un3M, un3P, un2S, eqB_i, neB_i, eqB_p, neB_p, eqB_s, neB_s, eqB_m, neB_m, ite_dec, ite_ndec, ite_tt, ite_ff, ite_nt, ite_nf, isNB, notNB, isVB_b, isntVB_b, ixT30, ixT31, ixT32, ixT20, ixT21, if_true, if_false])
local macro_rules | `(tactic| walk_at "bn") => `(tactic| first
  | assumption
  | (apply Bn.mul <;> walk_at "bn")
  | (apply Bn.add <;> walk_at "bn")
  | (apply Bn.sub <;> walk_at "bn")
  | (apply Bn.neg <;> walk_at "bn")
  | (apply Bn.abs <;> walk_at "bn")
  | exact (show Bn 64 _ by unfold Bn; decide))
local macro_rules | `(tactic| walk_at "cm") => `(tactic| (apply Bn.cm; (focus walk_at "bn"); (focus walk_at "bn"); omega))
local macro_rules | `(tactic| walk_at "nz") => `(tactic| first
  | assumption
  | omega
  | (apply mulnz <;> walk_at "nz"))
local macro_rules | `(tactic| walk_at "mok") => `(tactic| first
  | assumption
  | (apply joined_ok <;> walk_at "mok")
  | (apply backOf_ok <;> walk_at "mok")
  | exact still_ok)
local macro_rules | `(tactic| walk_at "ok") => `(tactic| first
  | assumption
  | (apply plus_ok <;> walk_at "ok")
  | (apply minus_ok <;> walk_at "ok")
  | (apply times_ok <;> walk_at "ok")
  | (apply flipped_ok <;> walk_at "ok")
  | (apply ledBy_ok <;> first | walk_at "ok" | walk_at "mok")
  | solve_by_elim)
local macro_rules | `(tactic| walk_at "norm") => `(tactic| first
  | assumption
  | (apply flipped_norm <;> walk_at "norm")
  | (apply plus_norm' <;> walk_at "ok")
  | (apply minus_norm' <;> walk_at "ok")
  | (apply times_norm' <;> walk_at "ok")
  | (apply ledBy_norm <;> first | walk_at "ok" | walk_at "mok")
  | solve_by_elim)
local macro_rules | `(tactic| walk_at "shp") => `(tactic| first
  | rfl
  | assumption
  | exact shp_pt _ _
  | exact shp_sh _ _
  | exact shp_mo _ _
  | exact shpA_pt1 _ _
  | exact shpA_pt2 _ _ _
  | exact shp_pts
  | exact (show D.shp 8 _ = true from rfl)
  | solve_by_elim)
local macro_rules | `(tactic| walk_at "pts") => `(tactic| first
  | (apply pts1 <;> walk_at "norm")
  | (apply pts2 <;> walk_at "norm"))
local macro_rules | `(tactic| walk_at "ismo") => `(tactic| (apply isMo_yes <;> walk_at "mok"))
local macro_rules | `(tactic| walk_at "one") => `(tactic| assumption)
local macro_rules | `(tactic| walk_at "db") => `(tactic| first
  | assumption
  | (apply MOk.db <;> walk_at "mok")
  | (apply Ok.db <;> walk_at "ok")
  | solve_by_elim)
local macro_rules | `(tactic| walk_at "nopq") => `(tactic| first | assumption | solve_by_elim | (intro n h; cases h))
local macro_rules | `(tactic| walk_at "sz") => `(tactic| first | omega | assumption | (simp; done) | (simp_all <;> omega))
local macro_rules | `(tactic| walk_at "sok") => `(tactic| first
  | assumption
  | (apply plusSh_ok <;> walk_at "sok")
  | (apply gap_ok <;> walk_at "ok")
  | (apply size_ok <;> walk_at "ok")
  | exact nought_ok (n := 1) (by decide))
local macro_rules | `(tactic| walk_at "oks") => `(tactic| first
  | assumption
  | solve_by_elim)
local macro_rules | `(tactic| walk_at "ne") => `(tactic| first
  | assumption
  | (simp; done))
local macro_rules | `(tactic| walk_at "prs") => `(tactic| (apply prs <;> assumption))
local macro_rules | `(tactic| walk_at "norms") => `(tactic| first | assumption | solve_by_elim)
local macro_rules | `(tactic| walk_at "soks") => `(tactic| first | assumption | solve_by_elim)
local macro_rules | `(tactic| walk_at "bn") => `(tactic| first
  | assumption
  | (apply Bn.mul <;> walk_at "bn")
  | (apply Bn.add <;> walk_at "bn")
  | (apply Bn.sub <;> walk_at "bn")
  | (apply Bn.neg <;> walk_at "bn")
  | (apply Bn.abs <;> walk_at "bn")
  | exact (show Bn 64 _ by unfold Bn; decide)
  | exact (show Bn 64 _ by unfold Bn; omega))
local macro_rules | `(tactic| walk_at "pok") => `(tactic| first | assumption | solve_by_elim)
local macro_rules | `(tactic| walk_at "cd") => `(tactic| (apply Bn.cd; (focus walk_at "bn"); (first | assumption | omega); omega))
local macro_rules | `(tactic| walk_at "sz") => `(tactic| try simp only [c1, c2, c3, c4, ret, tupE, nilA, consA, lstE, itE, walkD_l, walkD_t, walkD_c, un2_t, un2_l, un3_t, un3_l, un3M, un3P, un2S])
section
variable {Φ : D → Prop} {Ψ : Str → Prop} {n m l j k' : Nat} {p q : Pt} {a b : Sh}
/-! ### comprehensions, loops -/
theorem lcL_mapT {α : Type} {f : D → (Option D → Prop) → Prop} (enc g : α → D) {ps : List α} {acc : List D} {k : List D → Prop} (h : ∀ p ∈ ps, ∀ K, K (some (g p)) → f (enc p) K) (hk : k (acc ++ ps.map g)) : lcL f (ps.map enc) acc k := by
  induction ps generalizing acc with
  | nil => simpa [lcL] using hk
  | cons d ds ih => exact h d List.mem_cons_self _ (ih (fun d hd => h d (List.mem_cons_of_mem _ hd)) (by simpa using hk))
theorem lcL_filterT {α : Type} {f : D → (Option D → Prop) → Prop} (enc g : α → D) (t : α → Bool) {ps : List α} {acc : List D} {k : List D → Prop} (h : ∀ p ∈ ps, ∀ K, (if t p = true then K (some (g p)) else K none) → f (enc p) K) (hk : k (acc ++ (ps.filter t).map g)) : lcL f (ps.map enc) acc k := by
  induction ps generalizing acc with
  | nil => simpa [lcL] using hk
  | cons d ds ih =>
    refine h d List.mem_cons_self _ ?_
    by_cases ht : t d = true
    · rw [if_pos ht]
      exact ih (fun d hd => h d (List.mem_cons_of_mem _ hd)) (by simpa [ht] using hk)
    · rw [if_neg ht]
      exact ih (fun d hd => h d (List.mem_cons_of_mem _ hd)) (by simpa [ht] using hk)
theorem lcL_all {f : D → (Option D → Prop) → Prop} (P : D → Prop) {ds acc : List D} {k : List D → Prop} (h : ∀ d ∈ ds, ∀ K : Option D → Prop, (∀ y, P y → K (some y)) → f d K) (hk : ∀ ys, ys.length = ds.length → (∀ y ∈ ys, P y) → k (acc ++ ys)) : lcL f ds acc k := by
  induction ds generalizing acc with
  | nil => have := hk [] rfl (by simp); simpa [lcL] using this
  | cons d ds ih =>
    refine h d List.mem_cons_self _ fun y hy => ih (fun d hd => h d (List.mem_cons_of_mem _ hd)) fun ys e hys => ?_
    have := hk (y :: ys) (by simp [e]) (by intro z hz; rcases List.mem_cons.mp hz with rfl | hz; exact hy; exact hys z hz)
    simpa using this
theorem forL_run {S : Type} {f : D → S → (S → Prop) → (S → Prop) → Prop} {k : S → Prop} (I : Nat → S → Prop) {ds : List D} {s0 : S} (h0 : I 0 s0) (hs : ∀ i x s, ds[i]? = some x → I i s → ∀ nx : S → Prop, (∀ s', I (i + 1) s' → nx s') → f x s nx k) (hk : ∀ s, I ds.length s → k s) : forL f k ds s0 := by
  have key : ∀ (n i : Nat) (s : S), n = ds.length - i → i ≤ ds.length → I i s → forL f k (ds.drop i) s := by
    intro n
    induction n with
    | zero =>
      intro i s e hi h
      have : i = ds.length := by omega
      subst this
      rw [List.drop_length]
      exact hk s h
    | succ n ih =>
      intro i s e hi h
      have hlt : i < ds.length := by omega
      rw [List.drop_eq_getElem_cons hlt]
      exact hs i ds[i] s (List.getElem?_eq_getElem hlt) h _ fun s' h' => ih (i + 1) s' (by omega) hlt h'
  have := key _ 0 s0 rfl (Nat.zero_le _) h0
  simpa using this
/-- .. over data told -/
theorem forL_runT {α S : Type} {f : D → S → (S → Prop) → (S → Prop) → Prop} {k : S → Prop} (enc : α → D) (I : Nat → S → Prop) {ps : List α} {s0 : S} (h0 : I 0 s0) (hs : ∀ i x s, ps[i]? = some x → I i s → ∀ nx : S → Prop, (∀ s', I (i + 1) s' → nx s') → f (enc x) s nx k) (hk : ∀ s, I ps.length s → k s) : forL f k (ps.map enc) s0 :=
  forL_run I h0 (fun i x s hx hI nx hn => by
    rw [List.getElem?_map] at hx
    cases e : ps[i]? with
    | none => rw [e] at hx; cases hx
    | some p => rw [e] at hx; cases hx; exact hs i p s e hI nx hn) (by rw [List.length_map]; exact hk)
/-! ### points, motions -/
theorem pt_len {p : Pt} : p.d.isT = true → ∀ ys, p.d = .tup ys → ys.length ≤ 100000 := fun _ ys e => by unfold Pt.d at e; injection e with e; rw [← e]; simp
theorem isMo_tup {xs : List D} (h : xs.length ≠ 3) : isMo (.tup xs) = false := by
  unfold isMo
  split
  · rename_i q; injection q with q; subst q; exact absurd rfl h
  · rfl
def SmT (d : D) : Prop := d.isT = true → ∀ ys, d = .tup ys → ys.length ≤ 100000 ∧ ∀ y ∈ ys, y.isT = true → ∀ zs, y = .tup zs → zs.length ≤ 100000
theorem is_motion_w {d : D} (hs : D.shp 8 d = true) (hb : Db n d) (hn : n ≤ 3000) (hz : SmT d) (k : Φ (.bl (isMo d))) : p_is_motion d Φ Ψ := by
  refine ⟨?_⟩
  walk_at "sx"
  refine ⟨nopq_shp hs, ?_⟩
  cases d with
  | tup xs =>
    have hx := shp_tupA hs
    have hz' := (hz rfl xs rfl).2
    simp only [D.isT, Bool.not_true, Bool.false_eq_true, if_false]
    walk_at "sx"
    by_cases h3 : (xs.length : Int) = 3
    · rw [if_pos h3]
      match xs, h3, hx, hb, hz', k with
      | [a, b, c], _, hx, hb, hz', k =>
        have sa : D.shp 8 a = true := shp_mem hx (by simp)
        have sb : D.shp 8 b = true := shp_mem hx (by simp)
        have sc : D.shp 8 c = true := shp_mem hx (by simp)
        walk_at "sx"
        refine is_point_w sa (hz' a (by simp)) ?_
        walk_at "sx"
        by_cases ha : isPt a = true
        · rw [ha, ite_nt]
          refine is_point_w sb (hz' b (by simp)) ?_
          walk_at "sx"
          by_cases hb' : isPt b = true
          · rw [hb', ite_nt]
            obtain ⟨p, rfl, np⟩ := isPt_inv ha
            have hp : Ok n p := np.ok hb.1
            refine size_w hp (by omega) ?_
            have e : (decide (size p = ⟨1, 1⟩) && isWh c 0 1) = isMo (.tup [p.d, b, c]) := by
              show _ = (isPt p.d && (isPt b && (isWh c 0 1 && decide (size p = ⟨1, 1⟩))))
              rw [ha, hb', Bool.true_and, Bool.true_and, Bool.and_comm]
            rw [← e] at k
            show eqB (size p).d (Sh.mk 1 1).d _
            rw [eqB_s]
            walk_at "sx"
            by_cases h1 : size p = ⟨1, 1⟩
            · rw [if_pos h1]
              exact is_whole_w (nopq_shp sc) (by simpa [h1] using k)
            · rw [if_neg h1]
              simpa [h1] using k
          · have hb2 : isPt b = false := by simpa using hb'
            rw [hb2]; walk_at "sx"
            have e : isMo (.tup [a, b, c]) = false := by
              show (isPt a && (isPt b && _)) = false
              rw [hb2]; simp
            rw [e] at k
            exact k
        · have ha2 : isPt a = false := by simpa using ha
          rw [ha2]; walk_at "sx"
          have e : isMo (.tup [a, b, c]) = false := by
            show (isPt a && (isPt b && _)) = false
            rw [ha2]; simp
          rw [e] at k
          exact k
    · rw [if_neg h3]
      rw [isMo_tup (by omega)] at k
      exact k
  | _ => exact k
theorem sm_mo (mo : Mo) : SmT mo.d := fun _ ys e => by
  unfold Mo.d at e; injection e with e; rw [← e]
  refine ⟨by simp, fun y hy => ?_⟩
  simp only [List.mem_cons, List.not_mem_nil, or_false] at hy
  rcases hy with rfl | rfl | rfl
  · exact pt_len
  · exact pt_len
  · intro h; cases h
theorem look_motion_w {mo : Mo} (h : MOk n mo) (hn : n ≤ 3000) (k : Φ .non) : p_look_motion mo.d Φ Ψ := by
  refine ⟨?_⟩
  walk_at "sx"
  refine is_motion_w h.shp h.db hn (sm_mo _) ?_
  rw [isMo_yes h]
  walk_at "sx"
  exact k
end
end G
namespace G
open PySem PySem.Spec L2
local macro_rules | `(tactic| walk_at "sx") => `(tactic| try simp only [bin, una, lcE, cmpV, cmpT, tv, bv_b, notT, andT, orT, notV, andV, orV, ifE, nilA, consA, tupE, lstE, c1, c2, c3, c4, itE, seqD_l, seqD_t, walkD_l, walkD_t, walkD_c, ret, addD_i, subD_i, mulD_i, negD_i, fdivD_i, modD_i, absD_i, maxD_i, lnD_l, lnD_t, ltB_i, leB_i, gtB_i, geB_i, rng1, rng2, zipM, zip2_l, zip2_t, chnV, chnT, un2_t, un2_l, un3_t, un3_l, join, isDat_d,
  ixP0, ixP1, ixP2, ixS0, ixS1, ixM0, ixM1, ixM2, un3M, un3P, un2S, eqB_i, neB_i, eqB_p, neB_p, eqB_s, neB_s, eqB_m, neB_m, ite_dec, ite_ndec, ite_tt, ite_ff, ite_nt, ite_nf, isNB, notNB, isVB_b, isntVB_b, ixT30, ixT31, ixT32, ixT20, ixT21, if_true, if_false])
local macro_rules | `(tactic| walk_at "sy") => `(tactic| try simp only [bin, una, lcE, cmpV, cmpT, tv, bv_b, nilA, consA, tupE, lstE, c1, c2, c3, c4, itE, seqD_l, seqD_t, walkD_l, walkD_t, walkD_c, ret, addD_i, subD_i, mulD_i, negD_i, fdivD_i, modD_i, absD_i, maxD_i, lnD_l, lnD_t, ltB_i, leB_i, gtB_i, geB_i, rng1, rng2, zipM, zip2_l, zip2_t, un2_t, un2_l, un3_t, un3_l, isDat_d,
  ixP0, ixP1, ixP2, ixS0, ixS1, ixM0, ixM1, ixM2, un3M, un3P, un2S, eqB_i, neB_i, eqB_p, neB_p, eqB_s, neB_s, eqB_m, neB_m, ite_dec, ite_ndec, ite_tt, ite_ff, ite_nt, ite_nf, isNB, notNB, isVB_b, isntVB_b, ixT30, ixT31, ixT32, ixT20, ixT21, if_true, if_false])
local macro_rules | `(tactic| walk_at "bn") => `(tactic| first
  | assumption
  | (apply Bn.mul <;> walk_at "bn")
  | (apply Bn.add <;> walk_at "bn")
  | (apply Bn.sub <;> walk_at "bn")
  | (apply Bn.neg <;> walk_at "bn")
  | (apply Bn.abs <;> walk_at "bn")
  | exact (show Bn 64 _ by unfold Bn; decide))
local macro_rules | `(tactic| walk_at "cm") => `(tactic| (apply Bn.cm; (focus walk_at "bn"); (focus walk_at "bn"); omega))
local macro_rules | `(tactic| walk_at "nz") => `(tactic| first
  | assumption
  | omega
  | (apply mulnz <;> walk_at "nz"))
local macro_rules | `(tactic| walk_at "mok") => `(tactic| first
  | assumption
  | (apply joined_ok <;> walk_at "mok")
  | (apply backOf_ok <;> walk_at "mok")
  | exact still_ok)
local macro_rules | `(tactic| walk_at "ok") => `(tactic| first
  | assumption
  | (apply plus_ok <;> walk_at "ok")
  | (apply minus_ok <;> walk_at "ok")
  | (apply times_ok <;> walk_at "ok")
  | (apply flipped_ok <;> walk_at "ok")
  | (apply ledBy_ok <;> first | walk_at "ok" | walk_at "mok")
  | solve_by_elim)
local macro_rules | `(tactic| walk_at "norm") => `(tactic| first
  | assumption
  | (apply flipped_norm <;> walk_at "norm")
  | (apply plus_norm' <;> walk_at "ok")
  | (apply minus_norm' <;> walk_at "ok")
  | (apply times_norm' <;> walk_at "ok")
  | (apply ledBy_norm <;> first | walk_at "ok" | walk_at "mok")
  | solve_by_elim)
local macro_rules | `(tactic| walk_at "shp") => `(tactic| first
  | rfl
  | assumption
  | exact shp_pt _ _
  | exact shp_sh _ _
  | exact shp_mo _ _
  | exact shpA_pt1 _ _
  | exact shpA_pt2 _ _ _
  | exact shp_pts
  | exact (show D.shp 8 _ = true from rfl)
  | solve_by_elim)
local macro_rules | `(tactic| walk_at "pts") => `(tactic| first
  | (apply pts1 <;> walk_at "norm")
  | (apply pts2 <;> walk_at "norm"))
local macro_rules | `(tactic| walk_at "ismo") => `(tactic| (apply isMo_yes <;> walk_at "mok"))
local macro_rules | `(tactic| walk_at "one") => `(tactic| assumption)
local macro_rules | `(tactic| walk_at "db") => `(tactic| first
  | assumption
  | (apply MOk.db <;> walk_at "mok")
  | (apply Ok.db <;> walk_at "ok")
  | solve_by_elim)
local macro_rules | `(tactic| walk_at "nopq") => `(tactic| first | assumption | solve_by_elim | (intro n h; cases h))
local macro_rules | `(tactic| walk_at "sz") => `(tactic| first | omega | assumption | (simp; done) | (simp_all <;> omega))
local macro_rules | `(tactic| walk_at "sok") => `(tactic| first
  | assumption
  | (apply plusSh_ok <;> walk_at "sok")
  | (apply gap_ok <;> walk_at "ok")
  | (apply size_ok <;> walk_at "ok")
  | exact nought_ok (n := 1) (by decide))
local macro_rules | `(tactic| walk_at "oks") => `(tactic| first
  | assumption
  | solve_by_elim)
local macro_rules | `(tactic| walk_at "ne") => `(tactic| first
  | assumption
  | (simp; done))
local macro_rules | `(tactic| walk_at "prs") => `(tactic| (apply prs <;> assumption))
local macro_rules | `(tactic| walk_at "norms") => `(tactic| first | assumption | solve_by_elim)
local macro_rules | `(tactic| walk_at "soks") => `(tactic| first | assumption | solve_by_elim)
local macro_rules | `(tactic| walk_at "bn") => `(tactic| first
  | assumption
  | (apply Bn.mul <;> walk_at "bn")
  | (apply Bn.add <;> walk_at "bn")
  | (apply Bn.sub <;> walk_at "bn")
  | (apply Bn.neg <;> walk_at "bn")
  | (apply Bn.abs <;> walk_at "bn")
  | exact (show Bn 64 _ by unfold Bn; decide)
  | exact (show Bn 64 _ by unfold Bn; omega))
local macro_rules | `(tactic| walk_at "pok") => `(tactic| first | assumption | solve_by_elim)
local macro_rules | `(tactic| walk_at "cd") => `(tactic| (apply Bn.cd; (focus walk_at "bn"); (first | assumption | omega); omega))
local macro_rules | `(tactic| walk_at "sz") => `(tactic| try simp only [c1, c2, c3, c4, ret, tupE, nilA, consA, lstE, itE, walkD_l, walkD_t, walkD_c, un2_t, un2_l, un3_t, un3_l, un3M, un3P, un2S])
section
variable {Φ : D → Prop} {Ψ : Str → Prop} {n m l j k' : Nat} {p q : Pt} {a b : Sh}
/-! ### draws -/
theorem town_w (k : Φ (.opq 0)) : p_law_town (.opq 1) Φ Ψ := ⟨rfl, k⟩
theorem draw_w {c : Int} (h0 : 0 < c) (h1 : c < 1073741824) (k : ∀ i : Int, 0 ≤ i → i < c → Φ (.int i)) : p_law_draw (.opq 0) (.int c) Φ Ψ := ⟨c, rfl, rfl, h0, h1, k⟩
theorem atI_in {xs : List D} {i : Int} (h0 : 0 ≤ i) (h1 : i < xs.length) : atI xs i = some (xs[i.toNat]'(by omega)) := by
  unfold atI ixN
  rw [if_pos h0, if_pos h1]
  exact List.getElem?_eq_getElem _
theorem ixL_in {xs : List D} {i : Int} (h0 : 0 ≤ i) (h1 : i < xs.length) (k : Φ (xs[i.toNat]'(by omega))) : ixD (.lst xs) (.int i) Φ := by
  show (match atI xs i with
    | some d => Φ d
    | none => False)
  rw [atI_in h0 h1]; exact k
theorem pick_w {xs : List D} (hne : xs ≠ []) (hl : xs.length ≤ 100000) (k : ∀ d ∈ xs, Φ d) : p_law_pick (.opq 0) (.lst xs) Φ Ψ := by
  have hp : 0 < xs.length := List.length_pos_iff.mpr hne
  refine ⟨?_⟩
  walk_at "sx"
  exact draw_w (by omega) (by omega) fun i h0 h1 => ixL_in h0 h1 (k _ (List.getElem_mem _))
theorem law_point_w {c : Int} (h0 : 0 ≤ c) (h7 : c ≤ 7) (k : ∀ p : Pt, Ok 3 p → Norm p → Φ p.d) : p_law_point (.opq 0) (.int c) Φ Ψ := by
  refine ⟨?_⟩
  walk_at "sx"
  have cm : CMulW 2 c := Bn.cm (n := 4) (m := 4) (by unfold Bn; omega) (by unfold Bn; omega) (by omega)
  refine ⟨cm, draw_w (by omega) (by omega) fun i hi hi2 => ⟨cm, draw_w (by omega) (by omega) fun j hj hj2 => ?_⟩⟩
  refine pick_w (by simp) (by decide) fun d hd => ?_
  have fin : ∀ w : Int, 0 < w → w < 8 → p_law_low (.int (i - c)) (.int (j - c)) (.int w) Φ Ψ := fun w h1 h2 => by
    have bx : Bn 3 (i - c) := by unfold Bn; omega
    have by' : Bn 3 (j - c) := by unfold Bn; omega
    have bw : Bn 3 w := by unfold Bn; omega
    exact law_low_w bw (by omega) (by decide) (k _ ((low_ok bx by' bw (by omega)).mono (by decide)) (low_norm (by omega)))
  simp only [List.mem_cons, List.not_mem_nil, or_false] at hd
  rcases hd with rfl | rfl | rfl | rfl | rfl <;> exact fin _ (by decide) (by decide)
theorem law_turn_w (k : ∀ t : Pt, Ok 4 t → Norm t → size t = ⟨1, 1⟩ → Φ t.d) : p_law_turn (.opq 0) Φ Ψ := by
  refine ⟨?_⟩
  walk_at "sx"
  refine pick_w (by simp) (by decide) fun d hd => ?_
  have fin : ∀ x y w : Int, x.natAbs < 16 → y.natAbs < 16 → 0 < w → w < 16 → x * x + y * y = w * w → p_law_low (.int x) (.int y) (.int w) Φ Ψ := fun x y w hx hy h1 h2 e => by
    have bx : Bn 4 x := hx
    have by' : Bn 4 y := hy
    have bw : Bn 4 w := by unfold Bn; omega
    have hw : w ≠ 0 := by omega
    have ok := (low_ok bx by' bw hw).mono (show max 4 (max 4 4) ≤ 4 by decide)
    refine law_low_w bw hw (by decide) (k _ ok (low_norm hw) (size_one ok.nz ?_))
    rw [low_re hw, low_im hw]
    have c := castne hw
    have e' : (x : Rat) * x + (y : Rat) * y = (w : Rat) * w := by exact_mod_cast e
    grind
  have run : ∀ (x y w : Int), 0 ≤ x → x < 16 → 0 ≤ y → y < 16 → 0 < w → w < 16 → x * x + y * y = w * w → p_law_pick (.opq 0) (.lst [.int 1, .int (0 - 1)]) (fun s => mulD (.int x) s fun u => p_law_pick (.opq 0) (.lst [.int 1, .int (0 - 1)]) (fun t => mulD (.int y) t fun v => p_law_low u v (.int w) Φ Ψ) Ψ) Ψ := fun x y w h1 h2 h3 h4 h5 h6 e => by
    have bx : Bn 4 x := by unfold Bn; omega
    have by' : Bn 4 y := by unfold Bn; omega
    refine pick_w (by simp) (by decide) fun s hs => ?_
    have hs' : ∃ z : Int, s = .int z ∧ (z = 1 ∨ z = -1) := by
      simp only [List.mem_cons, List.not_mem_nil, or_false] at hs
      rcases hs with rfl | rfl
      · exact ⟨1, rfl, .inl rfl⟩
      · exact ⟨-1, rfl, .inr rfl⟩
    obtain ⟨z, rfl, hz⟩ := hs'
    have bz : Bn 4 z := by unfold Bn; omega
    refine ⟨bx.cm bz (by decide), pick_w (by simp) (by decide) fun t ht => ?_⟩
    have ht' : ∃ y : Int, t = .int y ∧ (y = 1 ∨ y = -1) := by
      simp only [List.mem_cons, List.not_mem_nil, or_false] at ht
      rcases ht with rfl | rfl
      · exact ⟨1, rfl, .inl rfl⟩
      · exact ⟨-1, rfl, .inr rfl⟩
    obtain ⟨y', rfl, hy'⟩ := ht'
    have by2 : Bn 4 y' := by unfold Bn; omega
    refine ⟨by'.cm by2 (by decide), fin _ _ _ ?_ ?_ h5 h6 ?_⟩
    · rcases hz with rfl | rfl <;> omega
    · rcases hy' with rfl | rfl <;> omega
    · rcases hz with rfl | rfl <;> rcases hy' with rfl | rfl <;> simp only [Int.mul_one, Int.mul_neg, Int.neg_mul, Int.neg_neg, e]
  simp only [List.mem_cons, List.not_mem_nil, or_false] at hd
  rcases hd with rfl | rfl | rfl | rfl | rfl <;> exact run _ _ _ (by decide) (by decide) (by decide) (by decide) (by decide) (by decide) (by decide)
theorem law_motion_w (k : ∀ mo : Mo, MOk 4 mo → Φ mo.d) : p_law_motion (.opq 0) Φ Ψ := by
  refine ⟨?_⟩
  walk_at "sx"
  refine law_turn_w fun t ot nt ht => law_point_w (by decide) (by decide) fun s os ns => draw_w (by decide) (by decide) fun f h0 h1 => ?_
  exact k ⟨t, s, f⟩ ⟨ot, os.mono (by decide), nt, ns, ht, by show f = 0 ∨ f = 1; omega⟩
/-! ### costs -/
end
end G
namespace G
open PySem PySem.Spec L2
local macro_rules | `(tactic| walk_at "sx") => `(tactic| try simp only [bin, una, lcE, cmpV, cmpT, tv, bv_b, notT, andT, orT, notV, andV, orV, ifE, nilA, consA, tupE, lstE, c1, c2, c3, c4, itE, seqD_l, seqD_t, walkD_l, walkD_t, walkD_c, ret, addD_i, subD_i, mulD_i, negD_i, fdivD_i, modD_i, absD_i, maxD_i, lnD_l, lnD_t, ltB_i, leB_i, gtB_i, geB_i, rng1, rng2, zipM, zip2_l, zip2_t, chnV, chnT, un2_t, un2_l, un3_t, un3_l, join, isDat_d,
  ixP0, ixP1, ixP2, ixS0, ixS1, ixM0, ixM1, ixM2, un3M, un3P, un2S, eqB_i, neB_i, eqB_p, neB_p, eqB_s, neB_s, eqB_m, neB_m, ite_dec, ite_ndec, ite_tt, ite_ff, ite_nt, ite_nf, isNB, notNB, isVB_b, isntVB_b, ixT30, ixT31, ixT32, ixT20, ixT21, if_true, if_false])
local macro_rules | `(tactic| walk_at "sy") => `(tactic| try simp only [bin, una, lcE, cmpV, cmpT, tv, bv_b, nilA, consA, tupE, lstE, c1, c2, c3, c4, itE, seqD_l, seqD_t, walkD_l, walkD_t, walkD_c, ret, addD_i, subD_i, mulD_i, negD_i, fdivD_i, modD_i, absD_i, maxD_i, lnD_l, lnD_t, ltB_i, leB_i, gtB_i, geB_i, rng1, rng2, zipM, zip2_l, zip2_t, un2_t, un2_l, un3_t, un3_l, isDat_d,
  ixP0, ixP1, ixP2, ixS0, ixS1, ixM0, ixM1, ixM2, un3M, un3P, un2S, eqB_i, neB_i, eqB_p, neB_p, eqB_s, neB_s, eqB_m, neB_m, ite_dec, ite_ndec, ite_tt, ite_ff, ite_nt, ite_nf, isNB, notNB, isVB_b, isntVB_b, ixT30, ixT31, ixT32, ixT20, ixT21, if_true, if_false])
local macro_rules | `(tactic| walk_at "bn") => `(tactic| first
  | assumption
  | (apply Bn.mul <;> walk_at "bn")
  | (apply Bn.add <;> walk_at "bn")
  | (apply Bn.sub <;> walk_at "bn")
  | (apply Bn.neg <;> walk_at "bn")
  | (apply Bn.abs <;> walk_at "bn")
  | exact (show Bn 64 _ by unfold Bn; decide))
local macro_rules | `(tactic| walk_at "cm") => `(tactic| (apply Bn.cm; (focus walk_at "bn"); (focus walk_at "bn"); omega))
local macro_rules | `(tactic| walk_at "nz") => `(tactic| first
  | assumption
  | omega
  | (apply mulnz <;> walk_at "nz"))
local macro_rules | `(tactic| walk_at "mok") => `(tactic| first
  | assumption
  | (apply joined_ok <;> walk_at "mok")
  | (apply backOf_ok <;> walk_at "mok")
  | exact still_ok)
local macro_rules | `(tactic| walk_at "ok") => `(tactic| first
  | assumption
  | (apply plus_ok <;> walk_at "ok")
  | (apply minus_ok <;> walk_at "ok")
  | (apply times_ok <;> walk_at "ok")
  | (apply flipped_ok <;> walk_at "ok")
  | (apply ledBy_ok <;> first | walk_at "ok" | walk_at "mok")
  | solve_by_elim)
local macro_rules | `(tactic| walk_at "norm") => `(tactic| first
  | assumption
  | (apply flipped_norm <;> walk_at "norm")
  | (apply plus_norm' <;> walk_at "ok")
  | (apply minus_norm' <;> walk_at "ok")
  | (apply times_norm' <;> walk_at "ok")
  | (apply ledBy_norm <;> first | walk_at "ok" | walk_at "mok")
  | solve_by_elim)
local macro_rules | `(tactic| walk_at "shp") => `(tactic| first
  | rfl
  | assumption
  | exact shp_pt _ _
  | exact shp_sh _ _
  | exact shp_mo _ _
  | exact shpA_pt1 _ _
  | exact shpA_pt2 _ _ _
  | exact shp_pts
  | exact (show D.shp 8 _ = true from rfl)
  | solve_by_elim)
local macro_rules | `(tactic| walk_at "pts") => `(tactic| first
  | (apply pts1 <;> walk_at "norm")
  | (apply pts2 <;> walk_at "norm"))
local macro_rules | `(tactic| walk_at "ismo") => `(tactic| (apply isMo_yes <;> walk_at "mok"))
local macro_rules | `(tactic| walk_at "one") => `(tactic| assumption)
local macro_rules | `(tactic| walk_at "db") => `(tactic| first
  | assumption
  | (apply MOk.db <;> walk_at "mok")
  | (apply Ok.db <;> walk_at "ok")
  | solve_by_elim)
local macro_rules | `(tactic| walk_at "nopq") => `(tactic| first | assumption | solve_by_elim | (intro n h; cases h))
local macro_rules | `(tactic| walk_at "sz") => `(tactic| first | omega | assumption | (simp; done) | (simp_all <;> omega))
local macro_rules | `(tactic| walk_at "sok") => `(tactic| first
  | assumption
  | (apply plusSh_ok <;> walk_at "sok")
  | (apply gap_ok <;> walk_at "ok")
  | (apply size_ok <;> walk_at "ok")
  | exact nought_ok (n := 1) (by decide))
local macro_rules | `(tactic| walk_at "oks") => `(tactic| first
  | assumption
  | solve_by_elim)
local macro_rules | `(tactic| walk_at "ne") => `(tactic| first
  | assumption
  | (simp; done))
local macro_rules | `(tactic| walk_at "prs") => `(tactic| (apply prs <;> assumption))
local macro_rules | `(tactic| walk_at "norms") => `(tactic| first | assumption | solve_by_elim)
local macro_rules | `(tactic| walk_at "soks") => `(tactic| first | assumption | solve_by_elim)
local macro_rules | `(tactic| walk_at "bn") => `(tactic| first
  | assumption
  | (apply Bn.mul <;> walk_at "bn")
  | (apply Bn.add <;> walk_at "bn")
  | (apply Bn.sub <;> walk_at "bn")
  | (apply Bn.neg <;> walk_at "bn")
  | (apply Bn.abs <;> walk_at "bn")
  | exact (show Bn 64 _ by unfold Bn; decide)
  | exact (show Bn 64 _ by unfold Bn; omega))
local macro_rules | `(tactic| walk_at "pok") => `(tactic| first | assumption | solve_by_elim)
local macro_rules | `(tactic| walk_at "cd") => `(tactic| (apply Bn.cd; (focus walk_at "bn"); (first | assumption | omega); omega))
local macro_rules | `(tactic| walk_at "sz") => `(tactic| try simp only [c1, c2, c3, c4, ret, tupE, nilA, consA, lstE, itE, walkD_l, walkD_t, walkD_c, un2_t, un2_l, un3_t, un3_l, un3M, un3P, un2S])
section
variable {Φ : D → Prop} {Ψ : Str → Prop} {n m : Nat}
/-! ### tests whose answer is known: what follows is not copied -/
theorem if_no {t : MB} {P Q : Prop} (h : ∀ Θ : Bool → Prop, Θ false → t Θ Ψ) (q : Q) : t (fun b => if b = true then P else Q) Ψ := h _ (by simpa using q)
theorem if_yes {t : MB} {P Q : Prop} (h : ∀ Θ : Bool → Prop, Θ true → t Θ Ψ) (q : P) : t (fun b => if b = true then P else Q) Ψ := h _ (by simpa using q)
theorem if_of (k : Bool) {t : MB} {P Q : Prop} (h : ∀ Θ : Bool → Prop, Θ k → t Θ Ψ) (p : k = true → P) (q : k = false → Q) : t (fun b => if b = true then P else Q) Ψ := h _ (by cases k; simpa using q rfl; simpa using p rfl)
/-! ### roots -/
end
end G
namespace G
open PySem PySem.Spec L2
local macro_rules | `(tactic| walk_at "sx") => `(tactic| try simp only [bin, una, lcE, cmpV, cmpT, tv, bv_b, notT, andT, orT, notV, andV, orV, ifE, nilA, consA, tupE, lstE, c1, c2, c3, c4, itE, seqD_l, seqD_t, walkD_l, walkD_t, walkD_c, ret, addD_i, subD_i, mulD_i, negD_i, fdivD_i, modD_i, absD_i, maxD_i, lnD_l, lnD_t, ltB_i, leB_i, gtB_i, geB_i, rng1, rng2, zipM, zip2_l, zip2_t, chnV, chnT, un2_t, un2_l, un3_t, un3_l, join, isDat_d,
  ixP0, ixP1, ixP2, ixS0, ixS1, ixM0, ixM1, ixM2, un3M, un3P, un2S, eqB_i, neB_i, eqB_p, neB_p, eqB_s, neB_s, eqB_m, neB_m, ite_dec, ite_ndec, ite_tt, ite_ff, ite_nt, ite_nf, isNB, notNB, isVB_b, isntVB_b, ixT30, ixT31, ixT32, ixT20, ixT21, if_true, if_false])
local macro_rules | `(tactic| walk_at "sy") => `(tactic| try simp only [bin, una, lcE, cmpV, cmpT, tv, bv_b, nilA, consA, tupE, lstE, c1, c2, c3, c4, itE, seqD_l, seqD_t, walkD_l, walkD_t, walkD_c, ret, addD_i, subD_i, mulD_i, negD_i, fdivD_i, modD_i, absD_i, maxD_i, lnD_l, lnD_t, ltB_i, leB_i, gtB_i, geB_i, rng1, rng2, zipM, zip2_l, zip2_t, un2_t, un2_l, un3_t, un3_l, isDat_d,
  ixP0, ixP1, ixP2, ixS0, ixS1, ixM0, ixM1, ixM2, un3M, un3P, un2S, eqB_i, neB_i, eqB_p, neB_p, eqB_s, neB_s, eqB_m, neB_m, ite_dec, ite_ndec, ite_tt, ite_ff, ite_nt, ite_nf, isNB, notNB, isVB_b, isntVB_b, ixT30, ixT31, ixT32, ixT20, ixT21, if_true, if_false])
local macro_rules | `(tactic| walk_at "bn") => `(tactic| first
  | assumption
  | (apply Bn.mul <;> walk_at "bn")
  | (apply Bn.add <;> walk_at "bn")
  | (apply Bn.sub <;> walk_at "bn")
  | (apply Bn.neg <;> walk_at "bn")
  | (apply Bn.abs <;> walk_at "bn")
  | exact (show Bn 64 _ by unfold Bn; decide))
local macro_rules | `(tactic| walk_at "cm") => `(tactic| (apply Bn.cm; (focus walk_at "bn"); (focus walk_at "bn"); omega))
local macro_rules | `(tactic| walk_at "nz") => `(tactic| first
  | assumption
  | omega
  | (apply mulnz <;> walk_at "nz"))
local macro_rules | `(tactic| walk_at "mok") => `(tactic| first
  | assumption
  | (apply joined_ok <;> walk_at "mok")
  | (apply backOf_ok <;> walk_at "mok")
  | exact still_ok)
local macro_rules | `(tactic| walk_at "ok") => `(tactic| first
  | assumption
  | (apply plus_ok <;> walk_at "ok")
  | (apply minus_ok <;> walk_at "ok")
  | (apply times_ok <;> walk_at "ok")
  | (apply flipped_ok <;> walk_at "ok")
  | (apply ledBy_ok <;> first | walk_at "ok" | walk_at "mok")
  | solve_by_elim)
local macro_rules | `(tactic| walk_at "norm") => `(tactic| first
  | assumption
  | (apply flipped_norm <;> walk_at "norm")
  | (apply plus_norm' <;> walk_at "ok")
  | (apply minus_norm' <;> walk_at "ok")
  | (apply times_norm' <;> walk_at "ok")
  | (apply ledBy_norm <;> first | walk_at "ok" | walk_at "mok")
  | solve_by_elim)
local macro_rules | `(tactic| walk_at "shp") => `(tactic| first
  | rfl
  | assumption
  | exact shp_pt _ _
  | exact shp_sh _ _
  | exact shp_mo _ _
  | exact shpA_pt1 _ _
  | exact shpA_pt2 _ _ _
  | exact shp_pts
  | exact (show D.shp 8 _ = true from rfl)
  | solve_by_elim)
local macro_rules | `(tactic| walk_at "pts") => `(tactic| first
  | (apply pts1 <;> walk_at "norm")
  | (apply pts2 <;> walk_at "norm"))
local macro_rules | `(tactic| walk_at "ismo") => `(tactic| (apply isMo_yes <;> walk_at "mok"))
local macro_rules | `(tactic| walk_at "one") => `(tactic| assumption)
local macro_rules | `(tactic| walk_at "db") => `(tactic| first
  | assumption
  | (apply MOk.db <;> walk_at "mok")
  | (apply Ok.db <;> walk_at "ok")
  | solve_by_elim)
local macro_rules | `(tactic| walk_at "nopq") => `(tactic| first | assumption | solve_by_elim | (intro n h; cases h))
local macro_rules | `(tactic| walk_at "sz") => `(tactic| first | omega | assumption | (simp; done) | (simp_all <;> omega))
local macro_rules | `(tactic| walk_at "sok") => `(tactic| first
  | assumption
  | (apply plusSh_ok <;> walk_at "sok")
  | (apply gap_ok <;> walk_at "ok")
  | (apply size_ok <;> walk_at "ok")
  | exact nought_ok (n := 1) (by decide))
local macro_rules | `(tactic| walk_at "oks") => `(tactic| first
  | assumption
  | solve_by_elim)
local macro_rules | `(tactic| walk_at "ne") => `(tactic| first
  | assumption
  | (simp; done))
local macro_rules | `(tactic| walk_at "prs") => `(tactic| (apply prs <;> assumption))
local macro_rules | `(tactic| walk_at "norms") => `(tactic| first | assumption | solve_by_elim)
local macro_rules | `(tactic| walk_at "soks") => `(tactic| first | assumption | solve_by_elim)
local macro_rules | `(tactic| walk_at "bn") => `(tactic| first
  | assumption
  | (apply Bn.mul <;> walk_at "bn")
  | (apply Bn.add <;> walk_at "bn")
  | (apply Bn.sub <;> walk_at "bn")
  | (apply Bn.neg <;> walk_at "bn")
  | (apply Bn.abs <;> walk_at "bn")
  | exact (show Bn 64 _ by unfold Bn; decide)
  | exact (show Bn 64 _ by unfold Bn; omega))
local macro_rules | `(tactic| walk_at "pok") => `(tactic| first | assumption | solve_by_elim)
local macro_rules | `(tactic| walk_at "cd") => `(tactic| (apply Bn.cd; (focus walk_at "bn"); (first | assumption | omega); omega))
local macro_rules | `(tactic| walk_at "sz") => `(tactic| try simp only [c1, c2, c3, c4, ret, tupE, nilA, consA, lstE, itE, walkD_l, walkD_t, walkD_c, un2_t, un2_l, un3_t, un3_l, un3M, un3P, un2S])
section
variable {Φ : D → Prop} {Ψ : Str → Prop} {n m i j k' : Nat} {p q a b c d : Pt} {f : Int}
/-! ### quotients -/
theorem by_nz (hp : p.w ≠ 0) (hq : q.x ≠ 0 ∨ q.y ≠ 0) : p.w * (q.x * q.x + q.y * q.y) ≠ 0 := mulnz hp (by have := sq_pos_of hq; omega)
theorem by_norm (hp : p.w ≠ 0) (hq : q.x ≠ 0 ∨ q.y ≠ 0) : Norm (by_ p q) := low_norm (by_nz hp hq)
theorem by_ok (hp : Ok n p) (hq : Ok m q) (h : q.x ≠ 0 ∨ q.y ≠ 0) : Ok (n + 2 * m + 1) (by_ p q) :=
  (low_ok (((hp.x.mul hq.x).add (hp.y.mul hq.y)).mul hq.w) (((hp.y.mul hq.x).sub (hp.x.mul hq.y)).mul hq.w) (hp.w.mul ((hq.x.mul hq.x).add (hq.y.mul hq.y))) (by_nz hp.nz h)).mono (by omega)
theorem nn_of (hq : q.w ≠ 0) (h : q.x ≠ 0 ∨ q.y ≠ 0) : q.re * q.re + q.im * q.im ≠ 0 := by
  have h1 := castne hq
  have h2 : q.x * q.x + q.y * q.y ≠ 0 := by have := sq_pos_of h; omega
  have h3 := castne h2
  simp only [Rat.intCast_add, Rat.intCast_mul] at h3
  unfold Pt.re Pt.im
  intro e
  apply h3
  have e2 : ((q.x : Rat) / q.w * (q.x / q.w) + q.y / q.w * (q.y / q.w)) * (q.w * q.w) = q.x * q.x + q.y * q.y := by grind
  rw [← e2, e]; grind
theorem by_re (hp : p.w ≠ 0) (hq : q.w ≠ 0) (h : q.x ≠ 0 ∨ q.y ≠ 0) : (by_ p q).re * (q.re * q.re + q.im * q.im) = p.re * q.re + p.im * q.im := by
  have h1 := castne hp; have h2 := castne hq
  have h3 : q.x * q.x + q.y * q.y ≠ 0 := by have := sq_pos_of h; omega
  have h4 := castne h3
  unfold by_; rw [low_re (by_nz hp h)]; unfold Pt.re Pt.im
  simp only [Rat.intCast_add, Rat.intCast_mul] at h4 ⊢
  grind
theorem by_im (hp : p.w ≠ 0) (hq : q.w ≠ 0) (h : q.x ≠ 0 ∨ q.y ≠ 0) : (by_ p q).im * (q.re * q.re + q.im * q.im) = p.im * q.re - p.re * q.im := by
  have h1 := castne hp; have h2 := castne hq
  have h3 : q.x * q.x + q.y * q.y ≠ 0 := by have := sq_pos_of h; omega
  have h4 := castne h3
  unfold by_; rw [low_im (by_nz hp h)]; unfold Pt.re Pt.im
  simp only [Rat.intCast_add, Rat.intCast_mul, Rat.intCast_sub] at h4 ⊢
  grind
theorem rcancel {x y z : Rat} (hz : z ≠ 0) (h : x * z = y * z) : x = y := by
  have : x * z / z = y * z / z := by rw [h]
  grind
theorem by_mul (hp : p.w ≠ 0) (hq : q.w ≠ 0) (h : q.x ≠ 0 ∨ q.y ≠ 0) : (by_ p q).re * q.re - (by_ p q).im * q.im = p.re ∧ (by_ p q).re * q.im + (by_ p q).im * q.re = p.im := by
  have e1 := by_re hp hq h
  have e2 := by_im hp hq h
  have hz := nn_of hq h
  generalize (by_ p q).re = u at *
  generalize (by_ p q).im = v at *
  generalize q.re = x at *
  generalize q.im = y at *
  refine ⟨rcancel hz ?_, rcancel hz ?_⟩
  · have : (u * x - v * y) * (x * x + y * y) = (u * (x * x + y * y)) * x - (v * (x * x + y * y)) * y := by grind
    rw [this, e1, e2]; grind
  · have : (u * y + v * x) * (x * x + y * y) = (u * (x * x + y * y)) * y + (v * (x * x + y * y)) * x := by grind
    rw [this, e1, e2]; grind
theorem by_unit (hp : p.w ≠ 0) (hq : q.w ≠ 0) (h : q.x ≠ 0 ∨ q.y ≠ 0) (e : p.re * p.re + p.im * p.im = q.re * q.re + q.im * q.im) : size (by_ p q) = ⟨1, 1⟩ := by
  refine size_one (by_norm hp h).nz (rcancel (nn_of hq h) ?_)
  obtain ⟨e1, e2⟩ := by_mul hp hq h
  generalize (by_ p q).re = u at *
  generalize (by_ p q).im = v at *
  have : (u * u + v * v) * (q.re * q.re + q.im * q.im) = (u * q.re - v * q.im) * (u * q.re - v * q.im) + (u * q.im + v * q.re) * (u * q.im + v * q.re) := by grind
  rw [this, e1, e2, e]; grind
/-! ### the motion that leads two to two -/
def leadT (f : Int) (a b c d : Pt) : Pt := by_ (minus d c) (if f = 1 then flipped (minus b a) else minus b a)
def lead (f : Int) (a b c d : Pt) : Mo := ⟨leadT f a b c d, minus c (times (leadT f a b c d) (if f = 1 then flipped a else a)), f⟩
/-- four points, the first two not one -/
structure Four (n m : Nat) (a b c d : Pt) : Prop where
  oa : Ok n a
  ob : Ok n b
  oc : Ok m c
  od : Ok m d
  na : Norm a
  nb : Norm b
  nc : Norm c
  nd : Norm d
  ne : a ≠ b
theorem Four.df (h : Four n m a b c d) : (minus b a).x ≠ 0 ∨ (minus b a).y ≠ 0 := by
  by_cases hx : (minus b a).x = 0
  · right
    intro hy
    have h1 := minus_re h.ob.nz h.oa.nz
    have h2 := minus_im h.ob.nz h.oa.nz
    unfold Pt.re at h1
    unfold Pt.im at h2
    rw [hx] at h1
    rw [hy] at h2
    refine h.ne (val_inj h.na h.nb ?_ ?_)
    · unfold Pt.re; grind
    · unfold Pt.im; grind
  · exact .inl hx
theorem fl_df {p : Pt} (h : p.x ≠ 0 ∨ p.y ≠ 0) : (if f = 1 then flipped p else p).x ≠ 0 ∨ (if f = 1 then flipped p else p).y ≠ 0 := by
  split
  · rcases h with h | h
    · exact .inl h
    · exact .inr (by show -p.y ≠ 0; omega)
  · exact h
theorem Four.leadT_ok (h : Four n m a b c d) : Ok (2 * m + 4 * n + 4) (leadT f a b c d) := (by_ok (minus_ok h.od h.oc) (fl_ok (minus_ok h.ob h.oa)) (fl_df h.df)).mono (by omega)
theorem Four.leadT_norm (h : Four n m a b c d) : Norm (leadT f a b c d) := by_norm (minus_ok h.od h.oc).nz (fl_df h.df)
theorem Four.unit (h : Four n m a b c d) (e : gap a b = gap c d) : size (leadT f a b c d) = ⟨1, 1⟩ := by
  refine by_unit (minus_ok h.od h.oc).nz (fl_ok (minus_ok h.ob h.oa)).nz (fl_df h.df) ?_
  have g1 := gap_val h.oa h.ob
  have g2 := gap_val h.oc h.od
  rw [e, g2] at g1
  rw [fl_re, fl_im, minus_re h.od.nz h.oc.nz, minus_im h.od.nz h.oc.nz, minus_re h.ob.nz h.oa.nz, minus_im h.ob.nz h.oa.nz]
  split <;> grind
theorem Four.mul (h : Four n m a b c d) : (leadT f a b c d).re * (b.re - a.re) - (leadT f a b c d).im * (if f = 1 then -(b.im - a.im) else b.im - a.im) = d.re - c.re ∧
    (leadT f a b c d).re * (if f = 1 then -(b.im - a.im) else b.im - a.im) + (leadT f a b c d).im * (b.re - a.re) = d.im - c.im := by
  obtain ⟨e1, e2⟩ := by_mul (minus_ok h.od h.oc).nz (fl_ok (f := f) (minus_ok h.ob h.oa)).nz (fl_df h.df)
  rw [fl_re, fl_im, minus_re h.od.nz h.oc.nz, minus_re h.ob.nz h.oa.nz, minus_im h.ob.nz h.oa.nz] at e1
  rw [fl_re, fl_im, minus_im h.od.nz h.oc.nz, minus_re h.ob.nz h.oa.nz, minus_im h.ob.nz h.oa.nz] at e2
  exact ⟨e1, e2⟩
theorem Four.only (h : Four n m a b c d) {mo : Mo} (hm : MOk k' mo) (ha : ledBy mo a = c) (hb : ledBy mo b = d) : mo = lead mo.f a b c d := by
  obtain ⟨e1, e2⟩ := h.mul (f := mo.f)
  have ht := h.leadT_ok (f := mo.f)
  have hq := fl_ok (f := mo.f) (minus_ok h.ob h.oa)
  have hz := nn_of hq.nz (fl_df (f := mo.f) h.df)
  rw [fl_re, fl_im, minus_re h.ob.nz h.oa.nz, minus_im h.ob.nz h.oa.nz] at hz
  have a1 := ledBy_re hm h.oa; have a2 := ledBy_im hm h.oa; have b1 := ledBy_re hm h.ob; have b2 := ledBy_im hm h.ob
  rw [ha] at a1 a2
  rw [hb] at b1 b2
  have ey : (if mo.f = 1 then -b.im else b.im) - (if mo.f = 1 then -a.im else a.im) = (if mo.f = 1 then -(b.im - a.im) else b.im - a.im) := by split <;> grind
  generalize (if mo.f = 1 then -b.im else b.im) = fb at *
  generalize (if mo.f = 1 then -a.im else a.im) = fa at *
  generalize (if mo.f = 1 then -(b.im - a.im) else b.im - a.im) = y at *
  generalize hx : b.re - a.re = x at *
  have f1 : mo.t.re * x - mo.t.im * y = d.re - c.re := by rw [← ey, ← hx]; grind
  have f2 : mo.t.re * y + mo.t.im * x = d.im - c.im := by rw [← ey, ← hx]; grind
  have t1 : mo.t.re = (leadT mo.f a b c d).re := by
    refine rcancel hz ?_
    have g1 : mo.t.re * (x * x + y * y) = (mo.t.re * x - mo.t.im * y) * x + (mo.t.re * y + mo.t.im * x) * y := by grind
    have g2 : (leadT mo.f a b c d).re * (x * x + y * y) = ((leadT mo.f a b c d).re * x - (leadT mo.f a b c d).im * y) * x + ((leadT mo.f a b c d).re * y + (leadT mo.f a b c d).im * x) * y := by grind
    rw [g1, g2, f1, f2, e1, e2]
  have t2 : mo.t.im = (leadT mo.f a b c d).im := by
    refine rcancel hz ?_
    have g1 : mo.t.im * (x * x + y * y) = (mo.t.re * y + mo.t.im * x) * x - (mo.t.re * x - mo.t.im * y) * y := by grind
    have g2 : (leadT mo.f a b c d).im * (x * x + y * y) = ((leadT mo.f a b c d).re * y + (leadT mo.f a b c d).im * x) * x - ((leadT mo.f a b c d).re * x - (leadT mo.f a b c d).im * y) * y := by grind
    rw [g1, g2, f1, f2, e1, e2]
  have et : mo.t = leadT mo.f a b c d := val_inj hm.tn h.leadT_norm t1 t2
  have hfa := fl_ok (f := mo.f) h.oa
  have es : mo.s = minus c (times mo.t (if mo.f = 1 then flipped a else a)) := by
    refine val_inj hm.sn (minus_norm h.oc.nz (times_ok hm.t hfa).nz) ?_ ?_
    · have r1 := ledBy_re hm h.oa
      rw [ha] at r1
      rw [minus_re h.oc.nz (times_ok hm.t hfa).nz, times_re hm.t.nz hfa.nz, fl_re, fl_im, r1]; grind
    · have r1 := ledBy_im hm h.oa
      rw [ha] at r1
      rw [minus_im h.oc.nz (times_ok hm.t hfa).nz, times_im hm.t.nz hfa.nz, fl_re, fl_im, r1]; grind
  unfold lead
  rw [← et, ← es]
end
end G
namespace G
open PySem PySem.Spec L2
local macro_rules | `(tactic| walk_at "sx") => `(tactic| try simp only [bin, una, lcE, cmpV, cmpT, tv, bv_b, notT, andT, orT, notV, andV, orV, ifE, nilA, consA, tupE, lstE, c1, c2, c3, c4, itE, seqD_l, seqD_t, walkD_l, walkD_t, walkD_c, ret, addD_i, subD_i, mulD_i, negD_i, fdivD_i, modD_i, absD_i, maxD_i, lnD_l, lnD_t, ltB_i, leB_i, gtB_i, geB_i, rng1, rng2, zipM, zip2_l, zip2_t, chnV, chnT, un2_t, un2_l, un3_t, un3_l, join, isDat_d,
  ixP0, ixP1, ixP2, ixS0, ixS1, ixM0, ixM1, ixM2, un3M, un3P, un2S, eqB_i, neB_i, eqB_p, neB_p, eqB_s, neB_s, eqB_m, neB_m, ite_dec, ite_ndec, ite_tt, ite_ff, ite_nt, ite_nf, isNB, notNB, isVB_b, isntVB_b, ixT30, ixT31, ixT32, ixT20, ixT21, if_true, if_false])
local macro_rules | `(tactic| walk_at "sy") => `(tactic| try simp only [bin, una, lcE, cmpV, cmpT, tv, bv_b, nilA, consA, tupE, lstE, c1, c2, c3, c4, itE, seqD_l, seqD_t, walkD_l, walkD_t, walkD_c, ret, addD_i, subD_i, mulD_i, negD_i, fdivD_i, modD_i, absD_i, maxD_i, lnD_l, lnD_t, ltB_i, leB_i, gtB_i, geB_i, rng1, rng2, zipM, zip2_l, zip2_t, un2_t, un2_l, un3_t, un3_l, isDat_d,
  ixP0, ixP1, ixP2, ixS0, ixS1, ixM0, ixM1, ixM2, un3M, un3P, un2S, eqB_i, neB_i, eqB_p, neB_p, eqB_s, neB_s, eqB_m, neB_m, ite_dec, ite_ndec, ite_tt, ite_ff, ite_nt, ite_nf, isNB, notNB, isVB_b, isntVB_b, ixT30, ixT31, ixT32, ixT20, ixT21, if_true, if_false])
local macro_rules | `(tactic| walk_at "bn") => `(tactic| first
  | assumption
  | (apply Bn.mul <;> walk_at "bn")
  | (apply Bn.add <;> walk_at "bn")
  | (apply Bn.sub <;> walk_at "bn")
  | (apply Bn.neg <;> walk_at "bn")
  | (apply Bn.abs <;> walk_at "bn")
  | exact (show Bn 64 _ by unfold Bn; decide))
local macro_rules | `(tactic| walk_at "cm") => `(tactic| (apply Bn.cm; (focus walk_at "bn"); (focus walk_at "bn"); omega))
local macro_rules | `(tactic| walk_at "nz") => `(tactic| first
  | assumption
  | omega
  | (apply mulnz <;> walk_at "nz"))
local macro_rules | `(tactic| walk_at "mok") => `(tactic| first
  | assumption
  | (apply joined_ok <;> walk_at "mok")
  | (apply backOf_ok <;> walk_at "mok")
  | exact still_ok)
local macro_rules | `(tactic| walk_at "ok") => `(tactic| first
  | assumption
  | (apply plus_ok <;> walk_at "ok")
  | (apply minus_ok <;> walk_at "ok")
  | (apply times_ok <;> walk_at "ok")
  | (apply flipped_ok <;> walk_at "ok")
  | (apply ledBy_ok <;> first | walk_at "ok" | walk_at "mok")
  | solve_by_elim)
local macro_rules | `(tactic| walk_at "norm") => `(tactic| first
  | assumption
  | (apply flipped_norm <;> walk_at "norm")
  | (apply plus_norm' <;> walk_at "ok")
  | (apply minus_norm' <;> walk_at "ok")
  | (apply times_norm' <;> walk_at "ok")
  | (apply ledBy_norm <;> first | walk_at "ok" | walk_at "mok")
  | solve_by_elim)
local macro_rules | `(tactic| walk_at "shp") => `(tactic| first
  | rfl
  | assumption
  | exact shp_pt _ _
  | exact shp_sh _ _
  | exact shp_mo _ _
  | exact shpA_pt1 _ _
  | exact shpA_pt2 _ _ _
  | exact shp_pts
  | exact (show D.shp 8 _ = true from rfl)
  | solve_by_elim)
local macro_rules | `(tactic| walk_at "pts") => `(tactic| first
  | (apply pts1 <;> walk_at "norm")
  | (apply pts2 <;> walk_at "norm"))
local macro_rules | `(tactic| walk_at "ismo") => `(tactic| (apply isMo_yes <;> walk_at "mok"))
local macro_rules | `(tactic| walk_at "one") => `(tactic| assumption)
local macro_rules | `(tactic| walk_at "db") => `(tactic| first
  | assumption
  | (apply MOk.db <;> walk_at "mok")
  | (apply Ok.db <;> walk_at "ok")
  | solve_by_elim)
local macro_rules | `(tactic| walk_at "nopq") => `(tactic| first | assumption | solve_by_elim | (intro n h; cases h))
local macro_rules | `(tactic| walk_at "sz") => `(tactic| first | omega | assumption | (simp; done) | (simp_all <;> omega))
local macro_rules | `(tactic| walk_at "sok") => `(tactic| first
  | assumption
  | (apply plusSh_ok <;> walk_at "sok")
  | (apply gap_ok <;> walk_at "ok")
  | (apply size_ok <;> walk_at "ok")
  | exact nought_ok (n := 1) (by decide))
local macro_rules | `(tactic| walk_at "oks") => `(tactic| first
  | assumption
  | solve_by_elim)
local macro_rules | `(tactic| walk_at "ne") => `(tactic| first
  | assumption
  | (simp; done))
local macro_rules | `(tactic| walk_at "prs") => `(tactic| (apply prs <;> assumption))
local macro_rules | `(tactic| walk_at "norms") => `(tactic| first | assumption | solve_by_elim)
local macro_rules | `(tactic| walk_at "soks") => `(tactic| first | assumption | solve_by_elim)
local macro_rules | `(tactic| walk_at "bn") => `(tactic| first
  | assumption
  | (apply Bn.mul <;> walk_at "bn")
  | (apply Bn.add <;> walk_at "bn")
  | (apply Bn.sub <;> walk_at "bn")
  | (apply Bn.neg <;> walk_at "bn")
  | (apply Bn.abs <;> walk_at "bn")
  | exact (show Bn 64 _ by unfold Bn; decide)
  | exact (show Bn 64 _ by unfold Bn; omega))
local macro_rules | `(tactic| walk_at "pok") => `(tactic| first | assumption | solve_by_elim)
local macro_rules | `(tactic| walk_at "cd") => `(tactic| (apply Bn.cd; (focus walk_at "bn"); (first | assumption | omega); omega))
local macro_rules | `(tactic| walk_at "sz") => `(tactic| try simp only [c1, c2, c3, c4, ret, tupE, nilA, consA, lstE, itE, walkD_l, walkD_t, walkD_c, un2_t, un2_l, un3_t, un3_l, un3M, un3P, un2S])
section
variable {Φ : D → Prop} {Ψ : Str → Prop} {n m i j k' : Nat} {p q a b c d : Pt} {f : Int}
/-! ### what was refused -/
def refN (z : Str) : Str := if z = "BadNumber" then "number" else if z = "BadPoint" then "point" else if z = "BadMotion" then "motion" else if z = "BadHeap" then "heap" else if z = "BadPairs" then "pairs" else if z = "BadName" then "name" else if z = "BadText" then "text" else "none"
theorem isx {z y : Str} (hz : z ∈ excN) (k : Φ (.bl (subX z y))) : isxD y (excD z) Φ := ⟨z, hz, rfl, k⟩
def sortsL (z : Str) : List Bool := [subX z "BadNumber", subX z "BadPoint", subX z "BadMotion", subX z "BadHeap", subX z "BadPairs", subX z "BadName", subX z "BadText", subX z "NoThing"]
theorem sorts_is : ∀ z ∈ excN, (sortsL z).count true = 1 ∧ subX z "OverError" = true ∧ subX z "ValueError" = true ∧ ∃ j : Nat, (sortsL z)[j]? = some true ∧ (∀ m : Nat, m < j → (sortsL z)[m]? ≠ some true) ∧
    j < 8 ∧ ([.str "number", .str "point", .str "motion", .str "heap", .str "pairs", .str "name", .str "text", .str "none"] : List D)[j]? = some (.str (refN z)) := by
  intro z hz
  simp only [excN, List.mem_cons, List.not_mem_nil, or_false] at hz
  rcases hz with rfl | rfl | rfl | rfl | rfl | rfl | rfl | rfl
  · exact ⟨by decide, by decide, by decide, 0, by decide, by decide, by decide, rfl⟩
  · exact ⟨by decide, by decide, by decide, 1, by decide, by decide, by decide, rfl⟩
  · exact ⟨by decide, by decide, by decide, 2, by decide, by decide, by decide, rfl⟩
  · exact ⟨by decide, by decide, by decide, 3, by decide, by decide, by decide, rfl⟩
  · exact ⟨by decide, by decide, by decide, 4, by decide, by decide, by decide, rfl⟩
  · exact ⟨by decide, by decide, by decide, 5, by decide, by decide, by decide, rfl⟩
  · exact ⟨by decide, by decide, by decide, 6, by decide, by decide, by decide, rfl⟩
  · exact ⟨by decide, by decide, by decide, 7, by decide, by decide, by decide, rfl⟩
theorem law_refusal_w {z : Str} (hz : z ∈ excN) (k : Φ (.str (refN z))) : p_law_refusal (excD z) Φ Ψ := by
  obtain ⟨h1, h2, h3, j, hj, hno, h8, hs⟩ := sorts_is z hz
  refine ⟨?_⟩
  walk_at "sy"
  refine isx hz (isx hz (isx hz (isx hz (isx hz (isx hz ⟨by simp, isx hz (isx hz ⟨by simp, ?_⟩)⟩)))))
  have e : D.lst ([.bl (subX z "BadNumber"), .bl (subX z "BadPoint"), .bl (subX z "BadMotion")] ++ [.bl (subX z "BadHeap"), .bl (subX z "BadPairs"), .bl (subX z "BadName")] ++ [.bl (subX z "BadText"), .bl (subX z "NoThing")]) = D.lst ((sortsL z).map D.bl) := rfl
  rw [e]
  show orT _ _ _ _
  refine if_no (fun Θ hΘ => ?_) ?_
  · show ∃ bs : List Bool, _ = bs.map D.bl ∧ _
    refine ⟨sortsL z, rfl, ?_⟩
    rw [h1]
    simp only [ret, neB_i]
    rw [if_neg (by decide)]
    walk_at "sx"
    refine isx hz ?_
    rw [h2]
    walk_at "sx"
    refine isx hz ?_
    rw [h3]
    walk_at "sx"
    exact hΘ
  · refine ⟨sortsL z, j, rfl, hj, hno, ?_⟩
    refine ixL_in (by omega) (by simp; omega) ?_
    obtain ⟨_, e⟩ := List.getElem?_eq_some_iff.mp hs
    have e2 : (j : Int).toNat = j := by omega
    simp only [e2]
    rw [e]; exact k
theorem deq_self {d : D} {n : Nat} (h : D.shp n d = true) : deq d d = true := PySem.SeqAt.eqv_refl _ (D.shp_ok d n h).1
theorem neB_same {x : D} {Θ : Bool → Prop} (h : D.shp 40 x = true) (k : Θ false) : neB x x Θ := by
  refine ⟨⟨h, h⟩, ?_⟩
  rw [deq_self h]; exact k
theorem eqB_same {x : D} {Θ : Bool → Prop} (h : D.shp 40 x = true) (k : Θ true) : eqB x x Θ := by
  refine ⟨⟨h, h⟩, ?_⟩
  rw [deq_self h]; exact k
theorem shpS {x : Str} {n : Nat} (h : PyData.strOk x = true) : D.shp n (.str x) = true := h
end
end G
namespace G
open PySem PySem.Spec L2
local macro_rules | `(tactic| walk_at "sx") => `(tactic| try simp only [bin, una, lcE, cmpV, cmpT, tv, bv_b, notT, andT, orT, notV, andV, orV, ifE, nilA, consA, tupE, lstE, c1, c2, c3, c4, itE, seqD_l, seqD_t, walkD_l, walkD_t, walkD_c, ret, addD_i, subD_i, mulD_i, negD_i, fdivD_i, modD_i, absD_i, maxD_i, lnD_l, lnD_t, ltB_i, leB_i, gtB_i, geB_i, rng1, rng2, zipM, zip2_l, zip2_t, chnV, chnT, un2_t, un2_l, un3_t, un3_l, join, isDat_d,
  ixP0, ixP1, ixP2, ixS0, ixS1, ixM0, ixM1, ixM2, un3M, un3P, un2S, eqB_i, neB_i, eqB_p, neB_p, eqB_s, neB_s, eqB_m, neB_m, ite_dec, ite_ndec, ite_tt, ite_ff, ite_nt, ite_nf, isNB, notNB, isVB_b, isntVB_b, ixT30, ixT31, ixT32, ixT20, ixT21, if_true, if_false])
local macro_rules | `(tactic| walk_at "sy") => `(tactic| try simp only [bin, una, lcE, cmpV, cmpT, tv, bv_b, nilA, consA, tupE, lstE, c1, c2, c3, c4, itE, seqD_l, seqD_t, walkD_l, walkD_t, walkD_c, ret, addD_i, subD_i, mulD_i, negD_i, fdivD_i, modD_i, absD_i, maxD_i, lnD_l, lnD_t, ltB_i, leB_i, gtB_i, geB_i, rng1, rng2, zipM, zip2_l, zip2_t, un2_t, un2_l, un3_t, un3_l, isDat_d,
  ixP0, ixP1, ixP2, ixS0, ixS1, ixM0, ixM1, ixM2, un3M, un3P, un2S, eqB_i, neB_i, eqB_p, neB_p, eqB_s, neB_s, eqB_m, neB_m, ite_dec, ite_ndec, ite_tt, ite_ff, ite_nt, ite_nf, isNB, notNB, isVB_b, isntVB_b, ixT30, ixT31, ixT32, ixT20, ixT21, if_true, if_false])
local macro_rules | `(tactic| walk_at "bn") => `(tactic| first
  | assumption
  | (apply Bn.mul <;> walk_at "bn")
  | (apply Bn.add <;> walk_at "bn")
  | (apply Bn.sub <;> walk_at "bn")
  | (apply Bn.neg <;> walk_at "bn")
  | (apply Bn.abs <;> walk_at "bn")
  | exact (show Bn 64 _ by unfold Bn; decide))
local macro_rules | `(tactic| walk_at "cm") => `(tactic| (apply Bn.cm; (focus walk_at "bn"); (focus walk_at "bn"); omega))
local macro_rules | `(tactic| walk_at "nz") => `(tactic| first
  | assumption
  | omega
  | (apply mulnz <;> walk_at "nz"))
local macro_rules | `(tactic| walk_at "mok") => `(tactic| first
  | assumption
  | (apply joined_ok <;> walk_at "mok")
  | (apply backOf_ok <;> walk_at "mok")
  | exact still_ok)
local macro_rules | `(tactic| walk_at "ok") => `(tactic| first
  | assumption
  | (apply plus_ok <;> walk_at "ok")
  | (apply minus_ok <;> walk_at "ok")
  | (apply times_ok <;> walk_at "ok")
  | (apply flipped_ok <;> walk_at "ok")
  | (apply ledBy_ok <;> first | walk_at "ok" | walk_at "mok")
  | solve_by_elim)
local macro_rules | `(tactic| walk_at "norm") => `(tactic| first
  | assumption
  | (apply flipped_norm <;> walk_at "norm")
  | (apply plus_norm' <;> walk_at "ok")
  | (apply minus_norm' <;> walk_at "ok")
  | (apply times_norm' <;> walk_at "ok")
  | (apply ledBy_norm <;> first | walk_at "ok" | walk_at "mok")
  | solve_by_elim)
local macro_rules | `(tactic| walk_at "shp") => `(tactic| first
  | rfl
  | assumption
  | exact shp_pt _ _
  | exact shp_sh _ _
  | exact shp_mo _ _
  | exact shpA_pt1 _ _
  | exact shpA_pt2 _ _ _
  | exact shp_pts
  | exact (show D.shp 8 _ = true from rfl)
  | solve_by_elim)
local macro_rules | `(tactic| walk_at "pts") => `(tactic| first
  | (apply pts1 <;> walk_at "norm")
  | (apply pts2 <;> walk_at "norm"))
local macro_rules | `(tactic| walk_at "ismo") => `(tactic| (apply isMo_yes <;> walk_at "mok"))
local macro_rules | `(tactic| walk_at "one") => `(tactic| assumption)
local macro_rules | `(tactic| walk_at "db") => `(tactic| first
  | assumption
  | (apply MOk.db <;> walk_at "mok")
  | (apply Ok.db <;> walk_at "ok")
  | solve_by_elim)
local macro_rules | `(tactic| walk_at "nopq") => `(tactic| first | assumption | solve_by_elim | (intro n h; cases h))
local macro_rules | `(tactic| walk_at "sz") => `(tactic| first | omega | assumption | (simp; done) | (simp_all <;> omega))
local macro_rules | `(tactic| walk_at "sok") => `(tactic| first
  | assumption
  | (apply plusSh_ok <;> walk_at "sok")
  | (apply gap_ok <;> walk_at "ok")
  | (apply size_ok <;> walk_at "ok")
  | exact nought_ok (n := 1) (by decide))
local macro_rules | `(tactic| walk_at "oks") => `(tactic| first
  | assumption
  | solve_by_elim)
local macro_rules | `(tactic| walk_at "ne") => `(tactic| first
  | assumption
  | (simp; done))
local macro_rules | `(tactic| walk_at "prs") => `(tactic| (apply prs <;> assumption))
local macro_rules | `(tactic| walk_at "norms") => `(tactic| first | assumption | solve_by_elim)
local macro_rules | `(tactic| walk_at "soks") => `(tactic| first | assumption | solve_by_elim)
local macro_rules | `(tactic| walk_at "bn") => `(tactic| first
  | assumption
  | (apply Bn.mul <;> walk_at "bn")
  | (apply Bn.add <;> walk_at "bn")
  | (apply Bn.sub <;> walk_at "bn")
  | (apply Bn.neg <;> walk_at "bn")
  | (apply Bn.abs <;> walk_at "bn")
  | exact (show Bn 64 _ by unfold Bn; decide)
  | exact (show Bn 64 _ by unfold Bn; omega))
local macro_rules | `(tactic| walk_at "pok") => `(tactic| first | assumption | solve_by_elim)
local macro_rules | `(tactic| walk_at "cd") => `(tactic| (apply Bn.cd; (focus walk_at "bn"); (first | assumption | omega); omega))
local macro_rules | `(tactic| walk_at "sz") => `(tactic| try simp only [c1, c2, c3, c4, ret, tupE, nilA, consA, lstE, itE, walkD_l, walkD_t, walkD_c, un2_t, un2_l, un3_t, un3_l, un3M, un3P, un2S])
section
variable {Φ : D → Prop} {Ψ : Str → Prop} {n m i j k' : Nat} {p q : Pt} {x y : D}
/-! ### parts of things that are no motions -/
structure BadM (d : D) : Prop where
  s : D.shp 8 d = true
  b : Db 64 d
  z : SmT d
  e : isMo d = false
theorem BadM.is {d : D} (h : BadM d) (k : Φ (.bl false)) : p_is_motion d Φ Ψ := is_motion_w h.s h.b (by decide) h.z (by rw [h.e]; exact k)
end
end G
namespace G
open PySem PySem.Spec L2
local macro_rules | `(tactic| walk_at "sx") => `(tactic| try simp only [bin, una, lcE, cmpV, cmpT, tv, bv_b, notT, andT, orT, notV, andV, orV, ifE, nilA, consA, tupE, lstE, c1, c2, c3, c4, itE, seqD_l, seqD_t, walkD_l, walkD_t, walkD_c, ret, addD_i, subD_i, mulD_i, negD_i, fdivD_i, modD_i, absD_i, maxD_i, lnD_l, lnD_t, ltB_i, leB_i, gtB_i, geB_i, rng1, rng2, zipM, zip2_l, zip2_t, chnV, chnT, un2_t, un2_l, un3_t, un3_l, join, isDat_d,
  ixP0, ixP1, ixP2, ixS0, ixS1, ixM0, ixM1, ixM2, un3M, un3P, un2S, eqB_i, neB_i, eqB_p, neB_p, eqB_s, neB_s, eqB_m, neB_m, ite_dec, ite_ndec, ite_tt, ite_ff, ite_nt, ite_nf, isNB, notNB, isVB_b, isntVB_b, ixT30, ixT31, ixT32, ixT20, ixT21, if_true, if_false])
local macro_rules | `(tactic| walk_at "sy") => `(tactic| try simp only [bin, una, lcE, cmpV, cmpT, tv, bv_b, nilA, consA, tupE, lstE, c1, c2, c3, c4, itE, seqD_l, seqD_t, walkD_l, walkD_t, walkD_c, ret, addD_i, subD_i, mulD_i, negD_i, fdivD_i, modD_i, absD_i, maxD_i, lnD_l, lnD_t, ltB_i, leB_i, gtB_i, geB_i, rng1, rng2, zipM, zip2_l, zip2_t, un2_t, un2_l, un3_t, un3_l, isDat_d,
  ixP0, ixP1, ixP2, ixS0, ixS1, ixM0, ixM1, ixM2, un3M, un3P, un2S, eqB_i, neB_i, eqB_p, neB_p, eqB_s, neB_s, eqB_m, neB_m, ite_dec, ite_ndec, ite_tt, ite_ff, ite_nt, ite_nf, isNB, notNB, isVB_b, isntVB_b, ixT30, ixT31, ixT32, ixT20, ixT21, if_true, if_false])
local macro_rules | `(tactic| walk_at "bn") => `(tactic| first
  | assumption
  | (apply Bn.mul <;> walk_at "bn")
  | (apply Bn.add <;> walk_at "bn")
  | (apply Bn.sub <;> walk_at "bn")
  | (apply Bn.neg <;> walk_at "bn")
  | (apply Bn.abs <;> walk_at "bn")
  | exact (show Bn 64 _ by unfold Bn; decide))
local macro_rules | `(tactic| walk_at "cm") => `(tactic| (apply Bn.cm; (focus walk_at "bn"); (focus walk_at "bn"); omega))
local macro_rules | `(tactic| walk_at "nz") => `(tactic| first
  | assumption
  | omega
  | (apply mulnz <;> walk_at "nz"))
local macro_rules | `(tactic| walk_at "mok") => `(tactic| first
  | assumption
  | (apply joined_ok <;> walk_at "mok")
  | (apply backOf_ok <;> walk_at "mok")
  | exact still_ok)
local macro_rules | `(tactic| walk_at "ok") => `(tactic| first
  | assumption
  | (apply plus_ok <;> walk_at "ok")
  | (apply minus_ok <;> walk_at "ok")
  | (apply times_ok <;> walk_at "ok")
  | (apply flipped_ok <;> walk_at "ok")
  | (apply ledBy_ok <;> first | walk_at "ok" | walk_at "mok")
  | solve_by_elim)
local macro_rules | `(tactic| walk_at "norm") => `(tactic| first
  | assumption
  | (apply flipped_norm <;> walk_at "norm")
  | (apply plus_norm' <;> walk_at "ok")
  | (apply minus_norm' <;> walk_at "ok")
  | (apply times_norm' <;> walk_at "ok")
  | (apply ledBy_norm <;> first | walk_at "ok" | walk_at "mok")
  | solve_by_elim)
local macro_rules | `(tactic| walk_at "shp") => `(tactic| first
  | rfl
  | assumption
  | exact shp_pt _ _
  | exact shp_sh _ _
  | exact shp_mo _ _
  | exact shpA_pt1 _ _
  | exact shpA_pt2 _ _ _
  | exact shp_pts
  | exact (show D.shp 8 _ = true from rfl)
  | solve_by_elim)
local macro_rules | `(tactic| walk_at "pts") => `(tactic| first
  | (apply pts1 <;> walk_at "norm")
  | (apply pts2 <;> walk_at "norm"))
local macro_rules | `(tactic| walk_at "ismo") => `(tactic| (apply isMo_yes <;> walk_at "mok"))
local macro_rules | `(tactic| walk_at "one") => `(tactic| assumption)
local macro_rules | `(tactic| walk_at "db") => `(tactic| first
  | assumption
  | (apply MOk.db <;> walk_at "mok")
  | (apply Ok.db <;> walk_at "ok")
  | solve_by_elim)
local macro_rules | `(tactic| walk_at "nopq") => `(tactic| first | assumption | solve_by_elim | (intro n h; cases h))
local macro_rules | `(tactic| walk_at "sz") => `(tactic| first | omega | assumption | (simp; done) | (simp_all <;> omega))
local macro_rules | `(tactic| walk_at "sok") => `(tactic| first
  | assumption
  | (apply plusSh_ok <;> walk_at "sok")
  | (apply gap_ok <;> walk_at "ok")
  | (apply size_ok <;> walk_at "ok")
  | exact nought_ok (n := 1) (by decide))
local macro_rules | `(tactic| walk_at "oks") => `(tactic| first
  | assumption
  | solve_by_elim)
local macro_rules | `(tactic| walk_at "ne") => `(tactic| first
  | assumption
  | (simp; done))
local macro_rules | `(tactic| walk_at "prs") => `(tactic| (apply prs <;> assumption))
local macro_rules | `(tactic| walk_at "norms") => `(tactic| first | assumption | solve_by_elim)
local macro_rules | `(tactic| walk_at "soks") => `(tactic| first | assumption | solve_by_elim)
local macro_rules | `(tactic| walk_at "bn") => `(tactic| first
  | assumption
  | (apply Bn.mul <;> walk_at "bn")
  | (apply Bn.add <;> walk_at "bn")
  | (apply Bn.sub <;> walk_at "bn")
  | (apply Bn.neg <;> walk_at "bn")
  | (apply Bn.abs <;> walk_at "bn")
  | exact (show Bn 64 _ by unfold Bn; decide)
  | exact (show Bn 64 _ by unfold Bn; omega))
local macro_rules | `(tactic| walk_at "pok") => `(tactic| first | assumption | solve_by_elim)
local macro_rules | `(tactic| walk_at "cd") => `(tactic| (apply Bn.cd; (focus walk_at "bn"); (first | assumption | omega); omega))
local macro_rules | `(tactic| walk_at "sz") => `(tactic| try simp only [c1, c2, c3, c4, ret, tupE, nilA, consA, lstE, itE, walkD_l, walkD_t, walkD_c, un2_t, un2_l, un3_t, un3_l, un3M, un3P, un2S])
/-! ### tables -/
section
variable {α β : Type} [DecidableEq α]
def put (kvs : List (α × β)) (k : α) (v : β) : List (α × β) := if k ∈ kvs.map (·.1) then kvs.map (fun p => if p.1 = k then (p.1, v) else p) else kvs ++ [(k, v)]
def get (kvs : List (α × β)) (k : α) : Option β := (kvs.find? fun p => decide (p.1 = k)).map (·.2)
theorem mem_enc {enc : α → D} (hi : ∀ a b, enc a = enc b → a = b) {l : List α} {a : α} : enc a ∈ l.map enc ↔ a ∈ l := ⟨fun h => by
  obtain ⟨b, hb, e⟩ := List.mem_map.mp h
  rw [← hi _ _ e]; exact hb, fun h => List.mem_map.mpr ⟨a, h, rfl⟩⟩
/-! ### keys, each once, the first ahead -/
def ins (ks : List α) (k : α) : List α := if k ∈ ks then ks else ks ++ [k]
def dd (l : List α) : List α := l.foldl ins []
theorem mem_ins {ks : List α} {k j : α} : j ∈ ins ks k ↔ j ∈ ks ∨ j = k := by
  unfold ins
  split
  · rename_i h
    exact ⟨.inl, fun z => z.elim id fun z => z ▸ h⟩
  · rw [List.mem_append, List.mem_singleton]
theorem ins_nodup {ks : List α} {k : α} (h : ks.Nodup) : (ins ks k).Nodup := by
  unfold ins
  split
  · exact h
  · rename_i hk
    rw [List.nodup_append]
    exact ⟨h, by simp, fun a ha b hb => by rw [List.mem_singleton.mp hb]; exact fun z => hk (z ▸ ha)⟩
theorem foldl_ins_mem : ∀ {l ks : List α} {j : α}, j ∈ l.foldl ins ks ↔ j ∈ ks ∨ j ∈ l
  | [], ks, j => by simp
  | k :: l, ks, j => by
    rw [List.foldl_cons, foldl_ins_mem, mem_ins, List.mem_cons]
    constructor
    · rintro ((h | h) | h)
      · exact .inl h
      · exact .inr (.inl h)
      · exact .inr (.inr h)
    · rintro (h | h | h)
      · exact .inl (.inl h)
      · exact .inl (.inr h)
      · exact .inr h
theorem foldl_ins_nodup : ∀ {l ks : List α}, ks.Nodup → (l.foldl ins ks).Nodup
  | [], _, h => h
  | _ :: l, _, h => foldl_ins_nodup (l := l) (ins_nodup h)
theorem dd_mem {l : List α} {j : α} : j ∈ dd l ↔ j ∈ l := by unfold dd; rw [foldl_ins_mem]; simp
theorem dd_nodup {l : List α} : (dd l).Nodup := foldl_ins_nodup (by simp)
theorem foldl_ins_len : ∀ {l ks : List α}, (l.foldl ins ks).length ≤ ks.length + l.length
  | [], _ => by simp
  | k :: l, ks => by
    have := foldl_ins_len (l := l) (ks := ins ks k)
    have h : (ins ks k).length ≤ ks.length + 1 := by
      unfold ins
      split
      · omega
      · simp
    rw [List.foldl_cons, List.length_cons]; omega
theorem foldl_ins_fresh : ∀ {l ks : List α}, (ks ++ l).Nodup → l.foldl ins ks = ks ++ l
  | [], ks, _ => by simp
  | k :: l, ks, h => by
    have hk : k ∉ ks := fun z => by
      rw [List.nodup_append] at h
      exact h.2.2 k z k List.mem_cons_self rfl
    rw [List.foldl_cons]
    have e : ins ks k = ks ++ [k] := by unfold ins; rw [if_neg hk]
    rw [e, foldl_ins_fresh (by rw [List.append_assoc]; exact h), List.append_assoc]; rfl
theorem dd_of_nodup {l : List α} (h : l.Nodup) : dd l = l := by unfold dd; rw [foldl_ins_fresh (by simpa using h)]; rfl
theorem foldl_ins_dup : ∀ {l ks : List α}, ks.Nodup → (l.foldl ins ks).length = ks.length + l.length → (ks ++ l).Nodup
  | [], ks, h, _ => by simpa using h
  | k :: l, ks, h, e => by
    have hl := foldl_ins_len (l := l) (ks := ins ks k)
    rw [List.foldl_cons, List.length_cons] at e
    by_cases hk : k ∈ ks
    · have : ins ks k = ks := by unfold ins; rw [if_pos hk]
      rw [this] at hl e; omega
    · have e1 : ins ks k = ks ++ [k] := by unfold ins; rw [if_neg hk]
      have := foldl_ins_dup (l := l) (ins_nodup (k := k) h) (by rw [e, e1]; simp; omega)
      rw [e1, List.append_assoc] at this
      exact this
theorem dd_len {l : List α} : (dd l).length = l.length ↔ l.Nodup := ⟨fun h => by
  have := foldl_ins_dup (l := l) (ks := []) (by simp) (by simpa [dd] using h)
  simpa using this, fun h => by rw [dd_of_nodup h]⟩
theorem dd_le {l : List α} : (dd l).length ≤ l.length := by
  have := foldl_ins_len (l := l) (ks := [])
  simpa [dd] using this
abbrev kvT (enc : α → D) (ks : List α) : List (D × D) := ks.map fun k => (enc k, .bl true)
theorem kvT_fst {enc : α → D} {ks : List α} : (kvT enc ks).map (·.1) = ks.map enc := by rw [List.map_map]; rfl
theorem dPut_T {enc : α → D} (hi : ∀ a b, enc a = enc b → a = b) {ks : List α} {k : α} : dPut (kvT enc ks) (enc k) (.bl true) = kvT enc (ins ks k) := by
  unfold dPut ins
  rw [kvT_fst]
  by_cases h : k ∈ ks
  · rw [if_pos h, if_pos ((mem_enc hi).mpr h), List.map_map]
    refine List.map_congr_left fun p _ => ?_
    show (if enc p = enc k then (enc p, D.bl true) else (enc p, D.bl true)) = _
    split <;> rfl
  · rw [if_neg h, if_neg (fun z => h ((mem_enc hi).mp z))]
    show _ = List.map _ (ks ++ [k])
    rw [List.map_append]; rfl
theorem dcL_T {γ : Type} {f : D → (Option (D × D) → Prop) → Prop} {e : γ → D} {g : γ → α} {enc : α → D} {k : List (D × D) → Prop} (hi : ∀ a b, enc a = enc b → a = b) (hk : ∀ a, (enc a).key = true) :
    ∀ {ps : List γ} {acc : List α}, (∀ p ∈ ps, ∀ K : Option (D × D) → Prop, K (some (enc (g p), .bl true)) → f (e p) K) → k (kvT enc (ps.foldl (fun ks p => ins ks (g p)) acc)) → dcL f (ps.map e) (kvT enc acc) k
  | [], _, _, h => h
  | p :: ps, acc, hf, h => hf p List.mem_cons_self _ ⟨hk _, by
      show dcL f (ps.map e) (dPut (kvT enc acc) (enc (g p)) (.bl true)) k
      rw [dPut_T hi]
      exact dcL_T hi hk (fun p hp => hf p (List.mem_cons_of_mem _ hp)) h⟩
end
section
variable {Φ : D → Prop} {Ψ : Str → Prop} {n m i j k' : Nat} {p q : Pt} {x y : D} {l r : List Pt}
theorem ptd_inj (p q : Pt) (h : p.d = q.d) : p = q := by
  cases p; cases q
  unfold Pt.d at h
  injection h with h
  injection h with a h; injection h with b h; injection h with c h
  injection a with a; injection b with b; injection c with c
  subst a; subst b; subst c; rfl
theorem key_p (p : Pt) : D.key p.d = true := rfl
end
end G
namespace G
open PySem PySem.Spec L2
local macro_rules | `(tactic| walk_at "sx") => `(tactic| try simp only [bin, una, lcE, cmpV, cmpT, tv, bv_b, notT, andT, orT, notV, andV, orV, ifE, nilA, consA, tupE, lstE, c1, c2, c3, c4, itE, seqD_l, seqD_t, walkD_l, walkD_t, walkD_c, ret, addD_i, subD_i, mulD_i, negD_i, fdivD_i, modD_i, absD_i, maxD_i, lnD_l, lnD_t, ltB_i, leB_i, gtB_i, geB_i, rng1, rng2, zipM, zip2_l, zip2_t, chnV, chnT, un2_t, un2_l, un3_t, un3_l, join, isDat_d,
  ixP0, ixP1, ixP2, ixS0, ixS1, ixM0, ixM1, ixM2, un3M, un3P, un2S, eqB_i, neB_i, eqB_p, neB_p, eqB_s, neB_s, eqB_m, neB_m, ite_dec, ite_ndec, ite_tt, ite_ff, ite_nt, ite_nf, isNB, notNB, isVB_b, isntVB_b, ixT30, ixT31, ixT32, ixT20, ixT21, if_true, if_false])
local macro_rules | `(tactic| walk_at "sy") => `(tactic| try simp only [bin, una, lcE, cmpV, cmpT, tv, bv_b, nilA, consA, tupE, lstE, c1, c2, c3, c4, itE, seqD_l, seqD_t, walkD_l, walkD_t, walkD_c, ret, addD_i, subD_i, mulD_i, negD_i, fdivD_i, modD_i, absD_i, maxD_i, lnD_l, lnD_t, ltB_i, leB_i, gtB_i, geB_i, rng1, rng2, zipM, zip2_l, zip2_t, un2_t, un2_l, un3_t, un3_l, isDat_d,
  ixP0, ixP1, ixP2, ixS0, ixS1, ixM0, ixM1, ixM2, un3M, un3P, un2S, eqB_i, neB_i, eqB_p, neB_p, eqB_s, neB_s, eqB_m, neB_m, ite_dec, ite_ndec, ite_tt, ite_ff, ite_nt, ite_nf, isNB, notNB, isVB_b, isntVB_b, ixT30, ixT31, ixT32, ixT20, ixT21, if_true, if_false])
local macro_rules | `(tactic| walk_at "bn") => `(tactic| first
  | assumption
  | (apply Bn.mul <;> walk_at "bn")
  | (apply Bn.add <;> walk_at "bn")
  | (apply Bn.sub <;> walk_at "bn")
  | (apply Bn.neg <;> walk_at "bn")
  | (apply Bn.abs <;> walk_at "bn")
  | exact (show Bn 64 _ by unfold Bn; decide))
local macro_rules | `(tactic| walk_at "cm") => `(tactic| (apply Bn.cm; (focus walk_at "bn"); (focus walk_at "bn"); omega))
local macro_rules | `(tactic| walk_at "nz") => `(tactic| first
  | assumption
  | omega
  | (apply mulnz <;> walk_at "nz"))
local macro_rules | `(tactic| walk_at "mok") => `(tactic| first
  | assumption
  | (apply joined_ok <;> walk_at "mok")
  | (apply backOf_ok <;> walk_at "mok")
  | exact still_ok)
local macro_rules | `(tactic| walk_at "ok") => `(tactic| first
  | assumption
  | (apply plus_ok <;> walk_at "ok")
  | (apply minus_ok <;> walk_at "ok")
  | (apply times_ok <;> walk_at "ok")
  | (apply flipped_ok <;> walk_at "ok")
  | (apply ledBy_ok <;> first | walk_at "ok" | walk_at "mok")
  | solve_by_elim)
local macro_rules | `(tactic| walk_at "norm") => `(tactic| first
  | assumption
  | (apply flipped_norm <;> walk_at "norm")
  | (apply plus_norm' <;> walk_at "ok")
  | (apply minus_norm' <;> walk_at "ok")
  | (apply times_norm' <;> walk_at "ok")
  | (apply ledBy_norm <;> first | walk_at "ok" | walk_at "mok")
  | solve_by_elim)
local macro_rules | `(tactic| walk_at "shp") => `(tactic| first
  | rfl
  | assumption
  | exact shp_pt _ _
  | exact shp_sh _ _
  | exact shp_mo _ _
  | exact shpA_pt1 _ _
  | exact shpA_pt2 _ _ _
  | exact shp_pts
  | exact (show D.shp 8 _ = true from rfl)
  | solve_by_elim)
local macro_rules | `(tactic| walk_at "pts") => `(tactic| first
  | (apply pts1 <;> walk_at "norm")
  | (apply pts2 <;> walk_at "norm"))
local macro_rules | `(tactic| walk_at "ismo") => `(tactic| (apply isMo_yes <;> walk_at "mok"))
local macro_rules | `(tactic| walk_at "one") => `(tactic| assumption)
local macro_rules | `(tactic| walk_at "db") => `(tactic| first
  | assumption
  | (apply MOk.db <;> walk_at "mok")
  | (apply Ok.db <;> walk_at "ok")
  | solve_by_elim)
local macro_rules | `(tactic| walk_at "nopq") => `(tactic| first | assumption | solve_by_elim | (intro n h; cases h))
local macro_rules | `(tactic| walk_at "sz") => `(tactic| first | omega | assumption | (simp; done) | (simp_all <;> omega))
local macro_rules | `(tactic| walk_at "sok") => `(tactic| first
  | assumption
  | (apply plusSh_ok <;> walk_at "sok")
  | (apply gap_ok <;> walk_at "ok")
  | (apply size_ok <;> walk_at "ok")
  | exact nought_ok (n := 1) (by decide))
local macro_rules | `(tactic| walk_at "oks") => `(tactic| first
  | assumption
  | solve_by_elim)
local macro_rules | `(tactic| walk_at "ne") => `(tactic| first
  | assumption
  | (simp; done))
local macro_rules | `(tactic| walk_at "prs") => `(tactic| (apply prs <;> assumption))
local macro_rules | `(tactic| walk_at "norms") => `(tactic| first | assumption | solve_by_elim)
local macro_rules | `(tactic| walk_at "soks") => `(tactic| first | assumption | solve_by_elim)
local macro_rules | `(tactic| walk_at "bn") => `(tactic| first
  | assumption
  | (apply Bn.mul <;> walk_at "bn")
  | (apply Bn.add <;> walk_at "bn")
  | (apply Bn.sub <;> walk_at "bn")
  | (apply Bn.neg <;> walk_at "bn")
  | (apply Bn.abs <;> walk_at "bn")
  | exact (show Bn 64 _ by unfold Bn; decide)
  | exact (show Bn 64 _ by unfold Bn; omega))
local macro_rules | `(tactic| walk_at "pok") => `(tactic| first | assumption | solve_by_elim)
local macro_rules | `(tactic| walk_at "cd") => `(tactic| (apply Bn.cd; (focus walk_at "bn"); (first | assumption | omega); omega))
local macro_rules | `(tactic| walk_at "sz") => `(tactic| try simp only [c1, c2, c3, c4, ret, tupE, nilA, consA, lstE, itE, walkD_l, walkD_t, walkD_c, un2_t, un2_l, un3_t, un3_l, un3M, un3P, un2S])
section
variable {Φ : D → Prop} {Ψ : Str → Prop} {n m i j k' : Nat} {p q : Pt} {x y : D} {l r : List Pt}
/-! ### ahead; in order -/
def aheadB (p q : Pt) : Bool := decide (p.x * q.w < q.x * p.w) || (decide (p.x * q.w = q.x * p.w) && decide (p.y * q.w < q.y * p.w))
theorem ahead_w (hp : Ok n p) (hq : Ok m q) (hn : n + m ≤ 4000) (k : Φ (.bl (aheadB p q))) : p_ahead p.d q.d Φ Ψ := by
  have b1 := hp.x; have b2 := hp.y; have b3 := hp.w; have b4 := hq.x; have b5 := hq.y; have b6 := hq.w
  unfold aheadB at k
  refine ⟨?_⟩
  walk_at "sx"
  refine ⟨by walk_at "cm", by walk_at "cm", ?_⟩
  by_cases h1 : p.x * q.w < q.x * p.w
  · rw [decide_eq_true h1] at k
    rw [if_pos (by omega)]; exact k
  · rw [decide_eq_false h1] at k
    rw [if_neg (by omega)]
    by_cases h2 : p.x * q.w = q.x * p.w
    · rw [decide_eq_true h2] at k
      rw [if_pos (by omega)]
      exact ⟨by walk_at "cm", by walk_at "cm", k⟩
    · rw [decide_eq_false h2] at k
      rw [if_neg (by omega)]
      exact k
theorem rat_lt {a b c d : Int} (hb : 0 < b) (hd : 0 < d) : (a : Rat) / b < (c : Rat) / d ↔ a * d < c * b := by
  have := lessB_iff (a := ⟨a, b⟩) (b := ⟨c, d⟩) hb hd
  unfold lessB Sh.val at this
  rw [decide_eq_true_eq] at this
  exact this.symm
theorem ahead_iff (hp : 0 < p.w) (hq : 0 < q.w) : aheadB p q = true ↔ p.re < q.re ∨ (p.re = q.re ∧ p.im < q.im) := by
  unfold aheadB Pt.re Pt.im
  rw [Bool.or_eq_true, Bool.and_eq_true, decide_eq_true_eq, decide_eq_true_eq, decide_eq_true_eq, rat_lt hp hq, rat_lt hp hq]
  have e : (p.x : Rat) / p.w = (q.x : Rat) / q.w ↔ p.x * q.w = q.x * p.w := by
    constructor
    · intro h
      exact cross (p := p) (q := q) (by omega) (by omega) h
    · intro h
      have a1 := Rat.not_lt.mp fun z => by have := (rat_lt (a := p.x) (b := p.w) (c := q.x) (d := q.w) hp hq).mp z; omega
      have b1 := Rat.not_lt.mp fun z => by have := (rat_lt (a := q.x) (b := q.w) (c := p.x) (d := p.w) hq hp).mp z; omega
      exact Rat.le_antisymm b1 a1
  rw [e]
/-- one put in where it belongs -/
def insP (p : Pt) : List Pt → List Pt
  | [] => [p]
  | q :: l => if aheadB p q = true then p :: q :: l else q :: insP p l
def ordL (l : List Pt) : List Pt := l.foldl (fun f p => insP p f) []
theorem insP_perm : ∀ {l : List Pt}, (insP p l).Perm (p :: l)
  | [] => List.Perm.refl _
  | q :: l => by
    unfold insP
    split
    · exact List.Perm.refl _
    · exact ((insP_perm (l := l)).cons q).trans (List.Perm.swap _ _ _)
theorem ordL_foldl : ∀ {l acc : List Pt}, (l.foldl (fun f p => insP p f) acc).Perm (acc ++ l)
  | [], acc => by simp
  | p :: l, acc => by
    rw [List.foldl_cons]
    refine (ordL_foldl (l := l)).trans ?_
    have h1 : (insP p acc ++ l).Perm ((p :: acc) ++ l) := insP_perm.append_right l
    exact h1.trans (List.perm_middle (a := p) (l₁ := acc) (l₂ := l)).symm
theorem ordL_perm : (ordL l).Perm l := by
  have := ordL_foldl (l := l) (acc := [])
  simpa [ordL] using this
theorem ordL_mem : p ∈ ordL l ↔ p ∈ l := ordL_perm.mem_iff
theorem ordL_len : (ordL l).length = l.length := ordL_perm.length_eq
theorem insL_ins : ∀ {l : List Pt} {i : Nat}, i ≤ l.length → (∀ j, j < i → ∀ q, l[j]? = some q → aheadB p q = false) → (∀ q, l[i]? = some q → aheadB p q = true) → insL (l.map Pt.d) i p.d = (insP p l).map Pt.d
  | [], i, h, _, _ => by
    have : i = 0 := by simpa using h
    subst this; rfl
  | q :: l, 0, _, _, h2 => by
    have := h2 q rfl
    unfold insP
    rw [if_pos this]; rfl
  | q :: l, i + 1, h, h1, h2 => by
    have := h1 0 (by omega) q rfl
    unfold insP
    rw [if_neg (by rw [this]; simp)]
    have ih := insL_ins (l := l) (i := i) (by simpa using h) (fun j hj q hq => h1 (j + 1) (by omega) q hq) fun q hq => h2 q hq
    unfold insL at ih ⊢
    rw [List.map_cons, List.map_cons, List.take_succ_cons, List.drop_succ_cons, ← ih]
    simp
/-- a heap handed on: a list, or a tuple -/
def HL (x : D) (l : List Pt) : Prop := x = .lst (l.map Pt.d) ∨ x = .tup (l.map Pt.d)
theorem hl_l : HL (.lst (l.map Pt.d)) l := .inl rfl
theorem hl_t : HL (.tup (l.map Pt.d)) l := .inr rfl
theorem HL.walk (h : HL x l) {K : List D → Prop} : walkD x K = K (l.map Pt.d) := by
  rcases h with rfl | rfl
  · rw [walkD_l]
  · rw [walkD_t]
theorem HL.len (h : HL x l) : lnD x Φ = Φ (.int l.length) := by
  rcases h with rfl | rfl
  · rw [lnD_l, List.length_map]
  · rw [lnD_t, List.length_map]
theorem in_order_w (h : HL x l) (ok : ∀ p ∈ l, Ok n p) (hn : n ≤ 2000) (hl : l.length ≤ 1000) (k : Φ (.lst ((ordL l).map Pt.d))) : p_in_order x Φ Ψ := by
  refine ⟨?_⟩
  simp only [itE, ret, h.walk]
  refine forL_runT Pt.d (fun i s => s = ((l.take i).foldl (fun f p => insP p f) []).map Pt.d) rfl ?_ ?_
  · rintro i p s hp rfl nx hx
    have hpm := List.mem_of_getElem? hp
    have perm := ordL_foldl (l := l.take i) (acc := [])
    rw [List.nil_append] at perm
    have hf : ∀ q ∈ (l.take i).foldl (fun f p => insP p f) [], q ∈ l := fun q hq => List.mem_of_mem_take (perm.mem_iff.mp hq)
    have hfl : ((l.take i).foldl (fun f p => insP p f) []).length ≤ 1000 := by rw [perm.length_eq, List.length_take]; omega
    have hnx : ∀ s', s' = (insP p ((l.take i).foldl (fun f p => insP p f) [])).map Pt.d → nx s' := fun s' e => hx s' (by
      rw [e]
      congr 1
      rw [List.take_add_one, hp, List.foldl_append]; rfl)
    generalize (l.take i).foldl (fun f p => insP p f) [] = f at *
    refine ⟨fun m s => ∃ c : Nat, c ≤ f.length ∧ m = f.length - c ∧ s = .int c ∧ ∀ j, j < c → ∀ q, f[j]? = some q → aheadB p q = false, ⟨_, 0, by omega, rfl, rfl, fun j hj => absurd hj (by omega)⟩, ?_⟩
    rintro m _ ⟨c, hc, rfl, rfl, hb⟩
    walk_at "sx"
    rw [List.length_map]
    have fin : (∀ q, f[c]? = some q → aheadB p q = true) → f.length ≤ 100000 ∧ ∃ n16 : Nat, D.int (c : Int) = .int n16 ∧ n16 ≤ f.length ∧ nx (insL (List.map Pt.d f) n16 p.d) := fun ha =>
      ⟨by omega, c, rfl, hc, hnx _ (insL_ins hc hb ha)⟩
    by_cases hlt : c < f.length
    · rw [if_pos (by omega)]
      have hg : f[c]? = some f[c] := List.getElem?_eq_getElem hlt
      have hat : atI (f.map Pt.d) (c : Int) = some (f[c]).d := by
        rw [atI_in (by omega) (by rw [List.length_map]; omega)]
        simp
      have hix : ∀ K : D → Prop, ixD (.lst (f.map Pt.d)) (.int (c : Int)) K = K (f[c]).d := fun K => by
        show (match atI (f.map Pt.d) (c : Int) with
          | some d => K d
          | none => False) = _
        rw [hat]
      rw [hix]
      refine ahead_w (ok _ hpm) (ok _ (hf _ (List.getElem_mem hlt))) (by omega) ?_
      walk_at "sx"
      cases ha : aheadB p f[c] with
      | true =>
        rw [ite_nt]
        exact fin fun q hq => by rw [hg] at hq; cases hq; exact ha
      | false =>
        rw [ite_nf]
        refine ⟨(c : Int), 1, rfl, rfl, f.length - (c + 1), by omega, c + 1, by omega, rfl, by push_cast; rfl, fun j hj q hq => ?_⟩
        by_cases hjc : j = c
        · subst hjc; rw [hg] at hq; cases hq; exact ha
        · exact hb j (by omega) q hq
    · rw [if_neg (by omega)]
      exact fin fun q hq => by rw [List.getElem?_eq_none (by omega)] at hq; cases hq
  · rintro s rfl
    rw [List.take_length]
    exact k
end
end G
namespace G
open PySem PySem.Spec L2
local macro_rules | `(tactic| walk_at "sx") => `(tactic| try simp only [bin, una, lcE, cmpV, cmpT, tv, bv_b, notT, andT, orT, notV, andV, orV, ifE, nilA, consA, tupE, lstE, c1, c2, c3, c4, itE, seqD_l, seqD_t, walkD_l, walkD_t, walkD_c, ret, addD_i, subD_i, mulD_i, negD_i, fdivD_i, modD_i, absD_i, maxD_i, lnD_l, lnD_t, ltB_i, leB_i, gtB_i, geB_i, rng1, rng2, zipM, zip2_l, zip2_t, chnV, chnT, un2_t, un2_l, un3_t, un3_l, join, isDat_d,
  ixP0, ixP1, ixP2, ixS0, ixS1, ixM0, ixM1, ixM2, un3M, un3P, un2S, eqB_i, neB_i, eqB_p, neB_p, eqB_s, neB_s, eqB_m, neB_m, ite_dec, ite_ndec, ite_tt, ite_ff, ite_nt, ite_nf, isNB, notNB, isVB_b, isntVB_b, ixT30, ixT31, ixT32, ixT20, ixT21, if_true, if_false])
local macro_rules | `(tactic| walk_at "sy") => `(tactic| try simp only [bin, una, lcE, cmpV, cmpT, tv, bv_b, nilA, consA, tupE, lstE, c1, c2, c3, c4, itE, seqD_l, seqD_t, walkD_l, walkD_t, walkD_c, ret, addD_i, subD_i, mulD_i, negD_i, fdivD_i, modD_i, absD_i, maxD_i, lnD_l, lnD_t, ltB_i, leB_i, gtB_i, geB_i, rng1, rng2, zipM, zip2_l, zip2_t, un2_t, un2_l, un3_t, un3_l, isDat_d,
  ixP0, ixP1, ixP2, ixS0, ixS1, ixM0, ixM1, ixM2, un3M, un3P, un2S, eqB_i, neB_i, eqB_p, neB_p, eqB_s, neB_s, eqB_m, neB_m, ite_dec, ite_ndec, ite_tt, ite_ff, ite_nt, ite_nf, isNB, notNB, isVB_b, isntVB_b, ixT30, ixT31, ixT32, ixT20, ixT21, if_true, if_false])
local macro_rules | `(tactic| walk_at "bn") => `(tactic| first
  | assumption
  | (apply Bn.mul <;> walk_at "bn")
  | (apply Bn.add <;> walk_at "bn")
  | (apply Bn.sub <;> walk_at "bn")
  | (apply Bn.neg <;> walk_at "bn")
  | (apply Bn.abs <;> walk_at "bn")
  | exact (show Bn 64 _ by unfold Bn; decide))
local macro_rules | `(tactic| walk_at "cm") => `(tactic| (apply Bn.cm; (focus walk_at "bn"); (focus walk_at "bn"); omega))
local macro_rules | `(tactic| walk_at "nz") => `(tactic| first
  | assumption
  | omega
  | (apply mulnz <;> walk_at "nz"))
local macro_rules | `(tactic| walk_at "mok") => `(tactic| first
  | assumption
  | (apply joined_ok <;> walk_at "mok")
  | (apply backOf_ok <;> walk_at "mok")
  | exact still_ok)
local macro_rules | `(tactic| walk_at "ok") => `(tactic| first
  | assumption
  | (apply plus_ok <;> walk_at "ok")
  | (apply minus_ok <;> walk_at "ok")
  | (apply times_ok <;> walk_at "ok")
  | (apply flipped_ok <;> walk_at "ok")
  | (apply ledBy_ok <;> first | walk_at "ok" | walk_at "mok")
  | solve_by_elim)
local macro_rules | `(tactic| walk_at "norm") => `(tactic| first
  | assumption
  | (apply flipped_norm <;> walk_at "norm")
  | (apply plus_norm' <;> walk_at "ok")
  | (apply minus_norm' <;> walk_at "ok")
  | (apply times_norm' <;> walk_at "ok")
  | (apply ledBy_norm <;> first | walk_at "ok" | walk_at "mok")
  | solve_by_elim)
local macro_rules | `(tactic| walk_at "shp") => `(tactic| first
  | rfl
  | assumption
  | exact shp_pt _ _
  | exact shp_sh _ _
  | exact shp_mo _ _
  | exact shpA_pt1 _ _
  | exact shpA_pt2 _ _ _
  | exact shp_pts
  | exact (show D.shp 8 _ = true from rfl)
  | solve_by_elim)
local macro_rules | `(tactic| walk_at "pts") => `(tactic| first
  | (apply pts1 <;> walk_at "norm")
  | (apply pts2 <;> walk_at "norm"))
local macro_rules | `(tactic| walk_at "ismo") => `(tactic| (apply isMo_yes <;> walk_at "mok"))
local macro_rules | `(tactic| walk_at "one") => `(tactic| assumption)
local macro_rules | `(tactic| walk_at "db") => `(tactic| first
  | assumption
  | (apply MOk.db <;> walk_at "mok")
  | (apply Ok.db <;> walk_at "ok")
  | solve_by_elim)
local macro_rules | `(tactic| walk_at "nopq") => `(tactic| first | assumption | solve_by_elim | (intro n h; cases h))
local macro_rules | `(tactic| walk_at "sz") => `(tactic| first | omega | assumption | (simp; done) | (simp_all <;> omega))
local macro_rules | `(tactic| walk_at "sok") => `(tactic| first
  | assumption
  | (apply plusSh_ok <;> walk_at "sok")
  | (apply gap_ok <;> walk_at "ok")
  | (apply size_ok <;> walk_at "ok")
  | exact nought_ok (n := 1) (by decide))
local macro_rules | `(tactic| walk_at "oks") => `(tactic| first
  | assumption
  | solve_by_elim)
local macro_rules | `(tactic| walk_at "ne") => `(tactic| first
  | assumption
  | (simp; done))
local macro_rules | `(tactic| walk_at "prs") => `(tactic| (apply prs <;> assumption))
local macro_rules | `(tactic| walk_at "norms") => `(tactic| first | assumption | solve_by_elim)
local macro_rules | `(tactic| walk_at "soks") => `(tactic| first | assumption | solve_by_elim)
local macro_rules | `(tactic| walk_at "bn") => `(tactic| first
  | assumption
  | (apply Bn.mul <;> walk_at "bn")
  | (apply Bn.add <;> walk_at "bn")
  | (apply Bn.sub <;> walk_at "bn")
  | (apply Bn.neg <;> walk_at "bn")
  | (apply Bn.abs <;> walk_at "bn")
  | exact (show Bn 64 _ by unfold Bn; decide)
  | exact (show Bn 64 _ by unfold Bn; omega))
local macro_rules | `(tactic| walk_at "pok") => `(tactic| first | assumption | solve_by_elim)
local macro_rules | `(tactic| walk_at "cd") => `(tactic| (apply Bn.cd; (focus walk_at "bn"); (first | assumption | omega); omega))
local macro_rules | `(tactic| walk_at "sz") => `(tactic| try simp only [c1, c2, c3, c4, ret, tupE, nilA, consA, lstE, itE, walkD_l, walkD_t, walkD_c, un2_t, un2_l, un3_t, un3_l, un3M, un3P, un2S])
section
variable {Φ : D → Prop} {Ψ : Str → Prop} {n m i j k' : Nat} {p q : Pt} {x y : D} {l r : List Pt} {mo : Mo}
/-! ### heaps -/
structure Hp (n : Nat) (l : List Pt) : Prop where
  nm : ∀ p ∈ l, Norm p
  ok : ∀ p ∈ l, Ok n p
  nd : l.Nodup
  ge : 2 ≤ l.length
  le : l.length ≤ 14
/-- things of any kind that may be heaps -/
structure RowH (x : D) : Prop where
  q : x.nopq = true
  l : ∀ ys, x = .lst ys ∨ x = .tup ys → ys.length ≤ 1000 ∧ ∀ y ∈ ys, D.shp 8 y = true ∧ (y.isT = true → ∀ zs, y = .tup zs → zs.length ≤ 100000)
def toPt : D → Pt
  | .tup [.int x, .int y, .int w] => ⟨x, y, w⟩
  | _ => ⟨0, 0, 1⟩
def isHp (x : D) : Bool := match x with
  | .lst ds => decide (2 ≤ ds.length) && (decide (ds.length ≤ 14) && (ds.all isPt && decide ((ds.map toPt).Nodup)))
  | .tup ds => decide (2 ≤ ds.length) && (decide (ds.length ≤ 14) && (ds.all isPt && decide ((ds.map toPt).Nodup)))
  | _ => false
theorem all_pts : ∀ {ds : List D}, ds.all isPt = true → ∃ l : List Pt, ds = l.map Pt.d ∧ ds.map toPt = l
  | [], _ => ⟨[], rfl, rfl⟩
  | d :: ds, h => by
    rw [List.all_cons, Bool.and_eq_true] at h
    obtain ⟨p, rfl, _⟩ := isPt_inv h.1
    obtain ⟨l, e, e2⟩ := all_pts h.2
    exact ⟨p :: l, by rw [e]; rfl, by rw [List.map_cons, e2]; rfl⟩
/-- the part behind the looks: as many keys as points -/
theorem keys_w {Θ : Bool → Prop} (h : HL x l) (hl : l.length ≤ 1000) (k : Θ (decide l.Nodup)) :
    cmpT eqB (una lnD (dcE (itE (ret x)) (fun one8 k5 => (ret one8) (fun y6 => (ret (.bl true)) (fun z7 => k5 (some (y6, z7))) bot) bot))) (una lnD (ret x)) Θ Ψ := by
  simp only [cmpT, una, dcE, itE, ret, h.walk, h.len]
  refine ⟨by rw [List.length_map]; omega, ?_⟩
  refine dcL_T (e := Pt.d) (g := id) (enc := Pt.d) (acc := []) ptd_inj key_p (fun p hp K hK => hK) ?_
  show lnD (.dct _ _) _
  rw [kvT_fst]
  show eqB (.int (((l.foldl (fun ks p => ins ks (id p)) []).map Pt.d).length)) (.int l.length) Θ
  rw [List.length_map, eqB_i]
  have e : decide (((dd l).length : Int) = l.length) = decide l.Nodup := by
    congr 1
    refine propext ?_
    rw [← dd_len]
    omega
  show Θ (decide (((dd l).length : Int) = l.length))
  rw [e]; exact k
theorem is_heap_w (h : RowH x) (k : Φ (.bl (isHp x))) : p_is_heap x Φ Ψ := by
  have main : ∀ xs : List D, (x = .lst xs ∨ x = .tup xs) → p_is_heap x Φ Ψ := fun xs hx => by
    obtain ⟨hl, hy⟩ := h.l xs hx
    have hn : x.nopq = true := h.q
    have e : isHp x = (decide (2 ≤ xs.length) && (decide (xs.length ≤ 14) && (xs.all isPt && decide ((xs.map toPt).Nodup)))) := by rcases hx with rfl | rfl <;> rfl
    have hlt : (x.isL || x.isT) = true := by rcases hx with rfl | rfl <;> rfl
    have hlen : ∀ {K : D → Prop}, lnD x K = K (.int xs.length) := fun {K} => by
      rcases hx with rfl | rfl
      · rw [lnD_l]
      · rw [lnD_t]
    have hwalk : ∀ {K : List D → Prop}, walkD x K = K xs := fun {K} => by
      rcases hx with rfl | rfl
      · rw [walkD_l]
      · rw [walkD_t]
    refine ⟨?_⟩
    have tst : ∀ (P Q : Prop), ((decide (2 ≤ xs.length) && (decide (xs.length ≤ 14) && xs.all isPt)) = false → P) → ((decide (2 ≤ xs.length) && (decide (xs.length ≤ 14) && xs.all isPt)) = true → Q) →
        (orT (notT (tv (una (isiD fun d => D.isL d || D.isT d) (ret x)))) (orT (notT (chnT leB leB (ret (.int 2)) (una lnD (ret x)) (ret (.int 14)))) (notT (tv (una allD (lcE (itE (ret x)) (fun one4 k2 => (c1 p_is_point (ret one4)) (fun y3 => k2 (some y3)) bot))))))) (fun b => if b = true then P else Q) Ψ := fun P Q kP kQ => by
      walk_at "sx"
      refine ⟨hn, ?_⟩
      show bv (.bl (x.isL || x.isT)) _
      rw [hlt]
      walk_at "sx"
      rw [hlen]
      walk_at "sx"
      by_cases h1 : (2 : Int) ≤ xs.length
      · rw [if_pos h1]
        by_cases h2 : (xs.length : Int) ≤ 14
        · rw [if_pos h2, hwalk]
          refine ⟨by omega, lcL_map (fun d => .bl (isPt d)) (fun d hd K hK => is_point_w (hy d hd).1 (hy d hd).2 hK) (all_map ?_)⟩
          rw [decide_eq_true (by omega : 2 ≤ xs.length), decide_eq_true (by omega : xs.length ≤ 14), Bool.true_and, Bool.true_and] at kP kQ
          walk_at "sx"
          cases hb : xs.all isPt with
          | true => rw [ite_nt]; exact kQ hb
          | false => rw [ite_nf]; exact kP hb
        · rw [if_neg h2]
          exact kP (by rw [decide_eq_false (by omega : ¬ xs.length ≤ 14)]; simp)
      · rw [if_neg h1]
        exact kP (by rw [decide_eq_false (by omega : ¬ 2 ≤ xs.length)]; simp)
    refine tst _ _ (fun hb => ?_) fun hb => ?_
    · have : isHp x = false := by
        rw [e]
        cases h1 : decide (2 ≤ xs.length) <;> cases h2 : decide (xs.length ≤ 14) <;> cases h3 : xs.all isPt <;> rw [h1, h2, h3] at hb <;> first | rfl | cases hb
      rw [this] at k
      exact k
    · rw [Bool.and_eq_true, Bool.and_eq_true] at hb
      obtain ⟨l, el, em⟩ := all_pts hb.2.2
      have : isHp x = decide l.Nodup := by rw [e, hb.1, hb.2.1, hb.2.2, em]; simp
      rw [this] at k
      have hh : HL x l := by
        rcases hx with rfl | rfl
        · exact .inl (by rw [el])
        · exact .inr (by rw [el])
      have hl2 : l.length ≤ 1000 := by rw [el, List.length_map] at hl; exact hl
      exact keys_w (Θ := fun b => Φ (.bl b)) hh hl2 k
  cases x with
  | lst xs => exact main xs (.inl rfl)
  | tup xs => exact main xs (.inr rfl)
  | opq n => exact nomatch h.q
  | exc n => exact nomatch h.q
  | _ => exact ⟨⟨rfl, k⟩⟩
theorem Hp.row (h : Hp n l) (hx : HL x l) : RowH x := by
  have g : ∀ ys, ys = l.map Pt.d → ys.length ≤ 1000 ∧ ∀ y ∈ ys, D.shp 8 y = true ∧ (y.isT = true → ∀ zs, y = .tup zs → zs.length ≤ 100000) := fun ys e => by
    subst e
    refine ⟨by rw [List.length_map]; have := h.le; omega, fun y hy => ?_⟩
    obtain ⟨p, _, rfl⟩ := List.mem_map.mp hy
    exact ⟨shp_pt 7 p, pt_len⟩
  rcases hx with rfl | rfl
  · exact ⟨rfl, fun ys e => by
      rcases e with e | e
      · injection e with e; exact g ys e.symm
      · cases e⟩
  · exact ⟨rfl, fun ys e => by
      rcases e with e | e
      · cases e
      · injection e with e; exact g ys e.symm⟩
theorem toPt_map : ∀ {l : List Pt}, (l.map Pt.d).map toPt = l
  | [] => rfl
  | p :: l => by rw [List.map_cons, List.map_cons, toPt_map]; rfl
theorem Hp.is (h : Hp n l) (hx : HL x l) : isHp x = true := by
  have e : isHp x = (decide (2 ≤ (l.map Pt.d).length) && (decide ((l.map Pt.d).length ≤ 14) && ((l.map Pt.d).all isPt && decide (((l.map Pt.d).map toPt).Nodup)))) := by rcases hx with rfl | rfl <;> rfl
  have ha : (l.map Pt.d).all isPt = true := List.all_eq_true.mpr fun d hd => by
    obtain ⟨p, hp, rfl⟩ := List.mem_map.mp hd
    exact isPt_yes (h.nm p hp)
  rw [e, List.length_map, decide_eq_true h.ge, decide_eq_true h.le, ha, toPt_map, decide_eq_true h.nd]
  rfl
theorem look_heaps_any {xs : List D} (hl : xs.length ≤ 100000) (h : ∀ x ∈ xs, RowH x) (k1 : xs.all isHp = true → Φ .non) (k2 : xs.all isHp = false → Ψ "BadHeap") : p_look_heaps (.lst xs) Φ Ψ := by
  refine ⟨?_⟩
  walk_at "sx"
  refine ⟨hl, lcL_map (fun d => .bl (isHp d)) (fun d hd K hK => is_heap_w (h d hd) hK) (all_map ?_)⟩
  walk_at "sx"
  cases hb : xs.all isHp with
  | true => rw [ite_nt]; exact k1 hb
  | false => rw [ite_nf]; exact k2 hb
theorem look_heap1 (h : Hp n l) (hx : HL x l) (k : Φ .non) : p_look_heaps (.lst [x]) Φ Ψ :=
  look_heaps_any (by simp) (fun z hz => by rcases List.mem_singleton.mp hz with rfl; exact h.row hx) (fun _ => k) fun e => by simp [h.is hx] at e
end
end G
namespace G
open PySem PySem.Spec L2
local macro_rules | `(tactic| walk_at "sx") => `(tactic| try simp only [bin, una, lcE, cmpV, cmpT, tv, bv_b, notT, andT, orT, notV, andV, orV, ifE, nilA, consA, tupE, lstE, c1, c2, c3, c4, itE, seqD_l, seqD_t, walkD_l, walkD_t, walkD_c, ret, addD_i, subD_i, mulD_i, negD_i, fdivD_i, modD_i, absD_i, maxD_i, lnD_l, lnD_t, ltB_i, leB_i, gtB_i, geB_i, rng1, rng2, zipM, zip2_l, zip2_t, chnV, chnT, un2_t, un2_l, un3_t, un3_l, join, isDat_d,
  ixP0, ixP1, ixP2, ixS0, ixS1, ixM0, ixM1, ixM2, un3M, un3P, un2S, eqB_i, neB_i, eqB_p, neB_p, eqB_s, neB_s, eqB_m, neB_m, ite_dec, ite_ndec, ite_tt, ite_ff, ite_nt, ite_nf, isNB, notNB, isVB_b, isntVB_b, ixT30, ixT31, ixT32, ixT20, ixT21, if_true, if_false])
local macro_rules | `(tactic| walk_at "sy") => `(tactic| try simp only [bin, una, lcE, cmpV, cmpT, tv, bv_b, nilA, consA, tupE, lstE, c1, c2, c3, c4, itE, seqD_l, seqD_t, walkD_l, walkD_t, walkD_c, ret, addD_i, subD_i, mulD_i, negD_i, fdivD_i, modD_i, absD_i, maxD_i, lnD_l, lnD_t, ltB_i, leB_i, gtB_i, geB_i, rng1, rng2, zipM, zip2_l, zip2_t, un2_t, un2_l, un3_t, un3_l, isDat_d,
  ixP0, ixP1, ixP2, ixS0, ixS1, ixM0, ixM1, ixM2, un3M, un3P, un2S, eqB_i, neB_i, eqB_p, neB_p, eqB_s, neB_s, eqB_m, neB_m, ite_dec, ite_ndec, ite_tt, ite_ff, ite_nt, ite_nf, isNB, notNB, isVB_b, isntVB_b, ixT30, ixT31, ixT32, ixT20, ixT21, if_true, if_false])
local macro_rules | `(tactic| walk_at "bn") => `(tactic| first
  | assumption
  | (apply Bn.mul <;> walk_at "bn")
  | (apply Bn.add <;> walk_at "bn")
  | (apply Bn.sub <;> walk_at "bn")
  | (apply Bn.neg <;> walk_at "bn")
  | (apply Bn.abs <;> walk_at "bn")
  | exact (show Bn 64 _ by unfold Bn; decide))
local macro_rules | `(tactic| walk_at "cm") => `(tactic| (apply Bn.cm; (focus walk_at "bn"); (focus walk_at "bn"); omega))
local macro_rules | `(tactic| walk_at "nz") => `(tactic| first
  | assumption
  | omega
  | (apply mulnz <;> walk_at "nz"))
local macro_rules | `(tactic| walk_at "mok") => `(tactic| first
  | assumption
  | (apply joined_ok <;> walk_at "mok")
  | (apply backOf_ok <;> walk_at "mok")
  | exact still_ok)
local macro_rules | `(tactic| walk_at "ok") => `(tactic| first
  | assumption
  | (apply plus_ok <;> walk_at "ok")
  | (apply minus_ok <;> walk_at "ok")
  | (apply times_ok <;> walk_at "ok")
  | (apply flipped_ok <;> walk_at "ok")
  | (apply ledBy_ok <;> first | walk_at "ok" | walk_at "mok")
  | solve_by_elim)
local macro_rules | `(tactic| walk_at "norm") => `(tactic| first
  | assumption
  | (apply flipped_norm <;> walk_at "norm")
  | (apply plus_norm' <;> walk_at "ok")
  | (apply minus_norm' <;> walk_at "ok")
  | (apply times_norm' <;> walk_at "ok")
  | (apply ledBy_norm <;> first | walk_at "ok" | walk_at "mok")
  | solve_by_elim)
local macro_rules | `(tactic| walk_at "shp") => `(tactic| first
  | rfl
  | assumption
  | exact shp_pt _ _
  | exact shp_sh _ _
  | exact shp_mo _ _
  | exact shpA_pt1 _ _
  | exact shpA_pt2 _ _ _
  | exact shp_pts
  | exact (show D.shp 8 _ = true from rfl)
  | solve_by_elim)
local macro_rules | `(tactic| walk_at "pts") => `(tactic| first
  | (apply pts1 <;> walk_at "norm")
  | (apply pts2 <;> walk_at "norm"))
local macro_rules | `(tactic| walk_at "ismo") => `(tactic| (apply isMo_yes <;> walk_at "mok"))
local macro_rules | `(tactic| walk_at "one") => `(tactic| assumption)
local macro_rules | `(tactic| walk_at "db") => `(tactic| first
  | assumption
  | (apply MOk.db <;> walk_at "mok")
  | (apply Ok.db <;> walk_at "ok")
  | solve_by_elim)
local macro_rules | `(tactic| walk_at "nopq") => `(tactic| first | assumption | solve_by_elim | (intro n h; cases h))
local macro_rules | `(tactic| walk_at "sz") => `(tactic| first | omega | assumption | (simp; done) | (simp_all <;> omega))
local macro_rules | `(tactic| walk_at "sok") => `(tactic| first
  | assumption
  | (apply plusSh_ok <;> walk_at "sok")
  | (apply gap_ok <;> walk_at "ok")
  | (apply size_ok <;> walk_at "ok")
  | exact nought_ok (n := 1) (by decide))
local macro_rules | `(tactic| walk_at "oks") => `(tactic| first
  | assumption
  | solve_by_elim)
local macro_rules | `(tactic| walk_at "ne") => `(tactic| first
  | assumption
  | (simp; done))
local macro_rules | `(tactic| walk_at "prs") => `(tactic| (apply prs <;> assumption))
local macro_rules | `(tactic| walk_at "norms") => `(tactic| first | assumption | solve_by_elim)
local macro_rules | `(tactic| walk_at "soks") => `(tactic| first | assumption | solve_by_elim)
local macro_rules | `(tactic| walk_at "bn") => `(tactic| first
  | assumption
  | (apply Bn.mul <;> walk_at "bn")
  | (apply Bn.add <;> walk_at "bn")
  | (apply Bn.sub <;> walk_at "bn")
  | (apply Bn.neg <;> walk_at "bn")
  | (apply Bn.abs <;> walk_at "bn")
  | exact (show Bn 64 _ by unfold Bn; decide)
  | exact (show Bn 64 _ by unfold Bn; omega))
local macro_rules | `(tactic| walk_at "pok") => `(tactic| first | assumption | solve_by_elim)
local macro_rules | `(tactic| walk_at "cd") => `(tactic| (apply Bn.cd; (focus walk_at "bn"); (first | assumption | omega); omega))
local macro_rules | `(tactic| walk_at "sz") => `(tactic| try simp only [c1, c2, c3, c4, ret, tupE, nilA, consA, lstE, itE, walkD_l, walkD_t, walkD_c, un2_t, un2_l, un3_t, un3_l, un3M, un3P, un2S])
section
variable {Φ : D → Prop} {Ψ : Str → Prop} {n m i j k' : Nat} {p q : Pt} {x y : D} {l r : List Pt} {mo : Mo}
theorem lcL_inv {f : D → (Option D → Prop) → Prop} (I : Nat → List D → Prop) {ds : List D} {k : List D → Prop} (h0 : I 0 [])
    (hs : ∀ i d acc, ds[i]? = some d → I i acc → ∀ K : Option D → Prop, (∀ y, I (i + 1) (acc ++ [y]) → K (some y)) → (I (i + 1) acc → K none) → f d K) (hk : ∀ ys, I ds.length ys → k ys) : lcL f ds [] k := by
  have main : ∀ (rest : List D) (i : Nat) (acc : List D), ds.drop i = rest → i ≤ ds.length → I i acc → lcL f rest acc k := by
    intro rest
    induction rest with
    | nil =>
      intro i acc e hi hI
      have h2 : ds.length ≤ i := by
        have := congrArg List.length e
        rw [List.length_drop] at this; simp at this; omega
      have : i = ds.length := by omega
      subst this; exact hk _ hI
    | cons d rest ih =>
      intro i acc e hi hI
      have hg : ds[i]? = some d := by
        have := congrArg (fun z => z[0]?) e
        simpa using this
      have e2 : ds.drop (i + 1) = rest := by
        rw [← List.drop_drop, e]; rfl
      have h1 : i < ds.length := (List.getElem?_eq_some_iff.mp hg).1
      exact hs i d acc hg hI _ (fun y hy => ih (i + 1) _ e2 h1 hy) (fun hn => ih (i + 1) _ e2 h1 hn)
  exact main ds 0 [] rfl (Nat.zero_le _) h0
theorem dd_snoc {α : Type} [DecidableEq α] {l : List α} {a : α} : dd (l ++ [a]) = ins (dd l) a := by unfold dd; rw [List.foldl_append]; rfl
theorem memD_pts {l : List Pt} {p : Pt} : memD p.d (l.map Pt.d) = decide (p ∈ l) := by
  unfold memD
  rw [List.any_map]
  by_cases h : p ∈ l
  · rw [decide_eq_true h, List.any_eq_true]
    exact ⟨p, h, by show deq p.d p.d = true; rw [deq_pt]; simp⟩
  · rw [decide_eq_false h]
    rw [List.any_eq_false]
    intro q hq
    show ¬ deq q.d p.d = true
    rw [deq_pt, decide_eq_true_eq]
    exact fun e => h (e ▸ hq)
theorem shp_ptsN {n : Nat} {l : List Pt} : D.shpA (n + 1) (l.map Pt.d) = true := shpA_all fun d hd => by
  obtain ⟨p, _, rfl⟩ := List.mem_map.mp hd
  exact shp_pt n p
theorem ninB_pts {l : List Pt} {p : Pt} {Θ : Bool → Prop} (h : Θ (!decide (p ∈ l))) : ninB p.d (.lst (l.map Pt.d)) Θ := ⟨⟨shp_pt 39 p, shp_ptsN⟩, by rw [memD_pts]; exact h⟩
/-- those of a list that are not ahead in it, each by its place -/
theorem firsts_w {f : D → (Option D → Prop) → Prop} {l : List Pt} {k : List D → Prop}
    (hf : ∀ (j : Nat) (p : Pt), l[j]? = some p → ∀ K : Option D → Prop, (p ∉ l.take j → K (some p.d)) → (p ∈ l.take j → K none) → f (.int (j : Int)) K) (h : k ((dd l).map Pt.d)) : lcL f (rangeD 0 l.length) [] k := by
  refine lcL_inv (fun i ys => ys = (dd (l.take i)).map Pt.d) rfl (fun i d acc hd hI K h1 h2 => ?_) fun ys hI => ?_
  · subst hI
    have hi : i < l.length := by
      have := (List.getElem?_eq_some_iff.mp hd).1
      rwa [rangeD_length] at this
    rw [rangeD_get hi] at hd
    cases hd
    have hg : l[i]? = some l[i] := List.getElem?_eq_getElem hi
    have et : l.take (i + 1) = l.take i ++ [l[i]] := by rw [List.take_add_one, hg]; rfl
    have e0 : (0 : Int) + (i : Int) = i := by omega
    rw [e0]
    refine hf i _ hg K (fun hn => h1 _ ?_) fun hy => h2 ?_
    · rw [et, dd_snoc]
      unfold ins
      rw [if_neg (fun z => hn (dd_mem.mp z)), List.map_append]; rfl
    · rw [et, dd_snoc]
      unfold ins
      rw [if_pos (dd_mem.mpr hy)]
  · subst hI
    rw [rangeD_length, List.take_length]
    exact h
/-! ### heaps drawn -/
theorem law_point3_w {c : Int} (h0 : 0 ≤ c) (h3 : c ≤ 3) (k : ∀ p : Pt, Ok 2 p → Norm p → Φ p.d) : p_law_point (.opq 0) (.int c) Φ Ψ := by
  refine ⟨?_⟩
  walk_at "sx"
  have cm : CMulW 2 c := Bn.cm (n := 4) (m := 4) (by unfold Bn; omega) (by unfold Bn; omega) (by omega)
  refine ⟨cm, draw_w (by omega) (by omega) fun i hi hi2 => ⟨cm, draw_w (by omega) (by omega) fun j hj hj2 => ?_⟩⟩
  refine pick_w (by simp) (by decide) fun d hd => ?_
  have fin : ∀ w : Int, 0 < w → w < 4 → p_law_low (.int (i - c)) (.int (j - c)) (.int w) Φ Ψ := fun w h1 h2 => by
    have bx : Bn 2 (i - c) := by unfold Bn; omega
    have by' : Bn 2 (j - c) := by unfold Bn; omega
    have bw : Bn 2 w := by unfold Bn; omega
    exact law_low_w bw (by omega) (by decide) (k _ ((low_ok bx by' bw (by omega)).mono (by decide)) (low_norm (by omega)))
  simp only [List.mem_cons, List.not_mem_nil, or_false] at hd
  rcases hd with rfl | rfl | rfl | rfl | rfl <;> exact fin _ (by decide) (by decide)
structure Dh (l : List Pt) : Prop where
  a : ∀ p ∈ l, Ok 3 p ∧ Norm p ∧ p.x ≠ 7
  ge : 2 ≤ l.length
  le : l.length ≤ 7
theorem small_pt {x y w : Int} (hx : x.natAbs < 7) (hy : y.natAbs < 8) (hw : w.natAbs < 8) (h0 : 0 < w) (g : Int.gcd (Int.gcd x y) w = 1) : Ok 3 ⟨x, y, w⟩ ∧ Norm ⟨x, y, w⟩ ∧ (Pt.mk x y w).x ≠ 7 :=
  ⟨⟨show x.natAbs < 8 by omega, hy, hw, h0⟩, ⟨h0, g⟩, fun z => by have : x = 7 := z; omega⟩
theorem cut_take {ds : List D} {j : Nat} : cutD ds none (some (j : Int)) = ds.take j := by
  unfold cutD
  rw [HT.sIx_none, HT.sIx_nat, List.drop_zero, Nat.sub_zero]
  by_cases h : j ≤ ds.length
  · rw [Nat.min_eq_left h]
  · rw [Nat.min_eq_right (by omega), List.take_of_length_le (Nat.le_refl _), List.take_of_length_le (by omega)]
theorem sl_takeL {ds : List D} {j : Nat} {K : D → Prop} : slE (ret (.lst ds)) noneO (someO (ret (.int (j : Int)))) K Ψ = K (.lst (ds.take j)) := by
  show K (.lst (cutD ds none (some (j : Int)))) = _
  rw [cut_take]
theorem joinD_w {rest : D → Prop} {body : (D → Prop) → Prop} (P : D → Prop) (hb : ∀ k : D → Prop, (∀ d, P d → k d) → body k) (hr : ∀ d, P d → rest d) : join rest body := hb rest hr
theorem draw_ptsQ {Q : Pt → Prop} {f : D → (Option D → Prop) → Prop} {ds : List D} {k : List D → Prop} (h : ∀ d ∈ ds, ∀ K : Option D → Prop, (∀ p : Pt, Q p → K (some p.d)) → f d K) (hk : ∀ l : List Pt, l.length = ds.length → (∀ p ∈ l, Q p) → k (l.map Pt.d)) : lcL f ds [] k :=
  lcL_all (fun y => ∃ p : Pt, y = p.d ∧ Q p) (fun d hd K hK => h d hd K fun p qp => hK _ ⟨p, rfl, qp⟩) fun ys e hys => by
    have : ∃ l : List Pt, ys = l.map Pt.d ∧ ∀ p ∈ l, Q p := by
      clear e
      induction ys with
      | nil => exact ⟨[], rfl, by simp⟩
      | cons y ys ih =>
        obtain ⟨p, rfl, hp⟩ := hys y List.mem_cons_self
        obtain ⟨l, rfl, hl⟩ := ih fun z hz => hys z (List.mem_cons_of_mem _ hz)
        exact ⟨p :: l, rfl, fun z hz => by
          rcases List.mem_cons.mp hz with rfl | hz
          · exact hp
          · exact hl z hz⟩
    obtain ⟨l, rfl, hl⟩ := this
    rw [List.nil_append]
    exact hk l (by rw [← e, List.length_map]) hl
abbrev Dq (p : Pt) : Prop := Ok 3 p ∧ Norm p ∧ p.x ≠ 7
theorem law_heap_w {c : Int} (h4 : 4 ≤ c) (h7 : c ≤ 7) (k : ∀ l : List Pt, Hp 3 l → l.length ≤ 7 → Φ (.lst (l.map Pt.d))) : p_law_heap (.opq 0) (.int c) Φ Ψ := by
  refine ⟨?_⟩
  walk_at "sy"
  refine draw_w (by decide) (by decide) fun lot l0 l1 => draw_w (by omega) (by omega) fun a a0 a1 => ?_
  obtain ⟨N, hN, n2, n7⟩ : ∃ N : Nat, 2 + a = (N : Int) ∧ 2 ≤ N ∧ N ≤ 7 := ⟨(2 + a).toNat, by omega, by omega, by omega⟩
  walk_at "sy"
  rw [hN]
  have eN : (N : Int).toNat = N := by omega
  rw [eN]
  refine ⟨by omega, by rw [rangeD_length]; omega, ?_⟩
  refine draw_ptsQ (Q := Dq) (fun d hd K hK => law_point3_w (by decide) (by decide) fun p op np => hK p ⟨op.mono (by decide), np, fun z => ?_⟩) fun l hl hq => ?_
  · have := op.x
    unfold Bn at this
    rw [z] at this
    exact absurd this (by decide)
  rw [rangeD_length] at hl
  have P0 : Dh l := ⟨hq, by omega, by omega⟩
  have sm : ∀ x y w : Int, x.natAbs < 7 → y.natAbs < 8 → w.natAbs < 8 → 0 < w → Int.gcd (Int.gcd x y) w = 1 → Dq ⟨x, y, w⟩ := fun x y w h1 h2 h3 h4 h5 => small_pt h1 h2 h3 h4 h5
  refine joinD_w (fun d => ∃ l, d = .lst (l.map Pt.d) ∧ Dh l) (fun k8 hk8 => ?_) ?_
  · split
    · simp only [slE, noneO, someO, ret, c2]
      refine draw_w (by decide) (by decide) fun b b0 b1 => ?_
      obtain ⟨B, rfl, hB⟩ : ∃ B : Nat, b = (B : Int) ∧ B < 2 := ⟨b.toNat, by omega, by omega⟩
      simp only [slD]
      rw [cut_take]
      refine ⟨by simp; omega, hk8 _ ⟨[⟨0, 0, 1⟩, ⟨2, 0, 1⟩, ⟨0, 2, 1⟩, ⟨2, 2, 1⟩] ++ l.take B, by rw [List.map_append, List.map_take]; rfl, ?_, by simp <;> omega, by simp <;> omega⟩⟩
      intro p hp
      rcases List.mem_append.mp hp with hp | hp
      · simp only [List.mem_cons, List.not_mem_nil, or_false] at hp
        rcases hp with rfl | rfl | rfl | rfl <;> exact sm _ _ _ (by decide) (by decide) (by decide) (by decide) (by decide +kernel)
      · exact hq p (List.mem_of_mem_take hp)
    · exact hk8 _ ⟨l, rfl, P0⟩
  rintro _ ⟨l9, rfl, P9⟩
  refine joinD_w (fun d => ∃ l, d = .lst (l.map Pt.d) ∧ Dh l) (fun k8 hk8 => ?_) ?_
  · split
    · obtain ⟨C, rfl⟩ : ∃ C : Nat, c = (C : Int) := ⟨c.toNat, by omega⟩
      show k8 (.lst (cutD _ none (some (C : Int))))
      rw [cut_take]
      refine hk8 _ ⟨([⟨1, 0, 1⟩, ⟨0 - 1, 0, 1⟩, ⟨0, 1, 1⟩, ⟨0, 0 - 1, 1⟩, ⟨3, 4, 5⟩, ⟨4, 0 - 3, 5⟩] : List Pt).take C, by rw [List.map_take]; rfl, ?_, by simp; omega, by simp; omega⟩
      intro p hp
      have hp := List.mem_of_mem_take hp
      simp only [List.mem_cons, List.not_mem_nil, or_false] at hp
      rcases hp with rfl | rfl | rfl | rfl | rfl | rfl <;> exact sm _ _ _ (by decide) (by decide) (by decide) (by decide) (by decide +kernel)
    · exact hk8 _ ⟨l9, rfl, P9⟩
  rintro _ ⟨l11, rfl, P11⟩
  refine joinD_w (fun d => ∃ l, d = .lst (l.map Pt.d) ∧ Dh l) (fun k8 hk8 => ?_) ?_
  · split
    · have em : (if c - 2 > 2 then c - 2 else (2 : Int)).toNat = (c - 2).toNat := by split <;> omega
      rw [em]
      refine ⟨by split <;> omega, by rw [rangeD_length]; omega, ?_⟩
      refine draw_ptsQ (Q := Dq) (fun d hd K hK => ?_) fun l2 h2 q2 => ?_
      · obtain ⟨j, hj, rfl⟩ := List.mem_map.mp hd
        have hj' := List.mem_range.mp hj
        refine draw_w (by decide) (by decide) fun b b0 b1 => ?_
        rw [mulD_i]
        have hj5 : j < 5 := by omega
        have bb : b = 0 ∨ b = 1 := by omega
        refine ⟨Bn.cm (n := 4) (m := 4) (by unfold Bn; omega) (by unfold Bn; omega) (by omega), ?_⟩
        have hg : ∀ x y : Int, Int.gcd (Int.gcd x y) 1 = 1 := fun x y => by simp [Int.gcd]
        refine hK ⟨0 + (j : Int), (0 + (j : Int)) * b, 1⟩ (sm _ _ _ (by omega) ?_ (by decide) (by decide) (hg _ _))
        rcases bb with rfl | rfl <;> omega
      · rw [rangeD_length] at h2
        exact hk8 _ ⟨l2, rfl, q2, by omega, by omega⟩
    · exact hk8 _ ⟨l11, rfl, P11⟩
  rintro _ ⟨l13, rfl, P13⟩
  rw [lnD_l, List.length_map]
  have hle := P13.le
  have hge := P13.ge
  show _ ∧ _ ∧ lcL _ (rangeD 0 (l13.length : Int).toNat) _ _
  rw [Int.toNat_natCast]
  refine ⟨by omega, by rw [rangeD_length]; omega, firsts_w (fun j p hp K h1 h2 => ?_) ?_⟩
  · have hj : j < l13.length := (List.getElem?_eq_some_iff.mp hp).1
    have hix : ∀ K : D → Prop, K p.d → ixD (.lst (l13.map Pt.d)) (.int (j : Int)) K := fun K hK => by
      refine ixL_in (by omega) (by rw [List.length_map]; omega) ?_
      have : (l13.map Pt.d)[((j : Int)).toNat]'(by rw [List.length_map]; omega) = p.d := by
        have e2 := (List.getElem?_eq_some_iff.mp hp).2
        simp [e2]
      rw [this]; exact hK
    refine hix _ ?_
    rw [sl_takeL, ← List.map_take]
    refine ninB_pts ?_
    by_cases hin : p ∈ l13.take j
    · rw [decide_eq_true hin]; exact h2 hin
    · rw [decide_eq_false hin]
      exact hix _ (h1 hin)
  · have hm : ∀ p ∈ dd l13, Dq p := fun p hp => P13.a p (dd_mem.mp hp)
    have hln := dd_le (l := l13)
    walk_at "sx"
    rw [List.length_map]
    have hpos : 0 < (dd l13).length := by
      have : l13 ≠ [] := fun z => by rw [z] at hge; simp at hge
      obtain ⟨p, hp⟩ := List.exists_mem_of_ne_nil _ this
      exact List.length_pos_of_mem (dd_mem.mpr hp)
    by_cases h1 : (1 : Int) < (dd l13).length
    · rw [if_pos h1]
      exact k _ ⟨fun p hp => (hm p hp).2.1, fun p hp => (hm p hp).1, dd_nodup, by omega, by omega⟩ (by omega)
    · rw [if_neg h1]
      refine ⟨by simp; omega, ?_⟩
      have e7 : List.map Pt.d (dd l13) ++ [D.tup [.int 7, .int 7, .int 1]] = (dd l13 ++ [Pt.mk 7 7 1]).map Pt.d := by rw [List.map_append]; rfl
      rw [e7]
      refine k _ ⟨?_, ?_, ?_, by simp; omega, by simp; omega⟩ (by simp; omega)
      · intro p hp
        rcases List.mem_append.mp hp with hp | hp
        · exact (hm p hp).2.1
        · rcases List.mem_singleton.mp hp with rfl; exact ⟨by decide, by decide +kernel⟩
      · intro p hp
        rcases List.mem_append.mp hp with hp | hp
        · exact (hm p hp).1
        · rcases List.mem_singleton.mp hp with rfl
          exact ⟨by unfold Bn; decide, by unfold Bn; decide, by unfold Bn; decide, by decide⟩
      · rw [List.nodup_append]
        refine ⟨dd_nodup, by simp, fun a ha b hb => ?_⟩
        rcases List.mem_singleton.mp hb with rfl
        intro z
        exact (hm a ha).2.2 (by rw [z])
end
end G
namespace G
open PySem PySem.Spec L2
local macro_rules | `(tactic| walk_at "sx") => `(tactic| try simp only [bin, una, lcE, cmpV, cmpT, tv, bv_b, notT, andT, orT, notV, andV, orV, ifE, nilA, consA, tupE, lstE, c1, c2, c3, c4, itE, seqD_l, seqD_t, walkD_l, walkD_t, walkD_c, ret, addD_i, subD_i, mulD_i, negD_i, fdivD_i, modD_i, absD_i, maxD_i, lnD_l, lnD_t, ltB_i, leB_i, gtB_i, geB_i, rng1, rng2, zipM, zip2_l, zip2_t, chnV, chnT, un2_t, un2_l, un3_t, un3_l, join, isDat_d,
  ixP0, ixP1, ixP2, ixS0, ixS1, ixM0, ixM1, ixM2, un3M, un3P, un2S, eqB_i, neB_i, eqB_p, neB_p, eqB_s, neB_s, eqB_m, neB_m, ite_dec, ite_ndec, ite_tt, ite_ff, ite_nt, ite_nf, isNB, notNB, isVB_b, isntVB_b, ixT30, ixT31, ixT32, ixT20, ixT21, if_true, if_false])
local macro_rules | `(tactic| walk_at "sy") => `(tactic| try simp only [bin, una, lcE, cmpV, cmpT, tv, bv_b, nilA, consA, tupE, lstE, c1, c2, c3, c4, itE, seqD_l, seqD_t, walkD_l, walkD_t, walkD_c, ret, addD_i, subD_i, mulD_i, negD_i, fdivD_i, modD_i, absD_i, maxD_i, lnD_l, lnD_t, ltB_i, leB_i, gtB_i, geB_i, rng1, rng2, zipM, zip2_l, zip2_t, un2_t, un2_l, un3_t, un3_l, isDat_d,
  ixP0, ixP1, ixP2, ixS0, ixS1, ixM0, ixM1, ixM2, un3M, un3P, un2S, eqB_i, neB_i, eqB_p, neB_p, eqB_s, neB_s, eqB_m, neB_m, ite_dec, ite_ndec, ite_tt, ite_ff, ite_nt, ite_nf, isNB, notNB, isVB_b, isntVB_b, ixT30, ixT31, ixT32, ixT20, ixT21, if_true, if_false])
local macro_rules | `(tactic| walk_at "bn") => `(tactic| first
  | assumption
  | (apply Bn.mul <;> walk_at "bn")
  | (apply Bn.add <;> walk_at "bn")
  | (apply Bn.sub <;> walk_at "bn")
  | (apply Bn.neg <;> walk_at "bn")
  | (apply Bn.abs <;> walk_at "bn")
  | exact (show Bn 64 _ by unfold Bn; decide))
local macro_rules | `(tactic| walk_at "cm") => `(tactic| (apply Bn.cm; (focus walk_at "bn"); (focus walk_at "bn"); omega))
local macro_rules | `(tactic| walk_at "nz") => `(tactic| first
  | assumption
  | omega
  | (apply mulnz <;> walk_at "nz"))
local macro_rules | `(tactic| walk_at "mok") => `(tactic| first
  | assumption
  | (apply joined_ok <;> walk_at "mok")
  | (apply backOf_ok <;> walk_at "mok")
  | exact still_ok)
local macro_rules | `(tactic| walk_at "ok") => `(tactic| first
  | assumption
  | (apply plus_ok <;> walk_at "ok")
  | (apply minus_ok <;> walk_at "ok")
  | (apply times_ok <;> walk_at "ok")
  | (apply flipped_ok <;> walk_at "ok")
  | (apply ledBy_ok <;> first | walk_at "ok" | walk_at "mok")
  | solve_by_elim)
local macro_rules | `(tactic| walk_at "norm") => `(tactic| first
  | assumption
  | (apply flipped_norm <;> walk_at "norm")
  | (apply plus_norm' <;> walk_at "ok")
  | (apply minus_norm' <;> walk_at "ok")
  | (apply times_norm' <;> walk_at "ok")
  | (apply ledBy_norm <;> first | walk_at "ok" | walk_at "mok")
  | solve_by_elim)
local macro_rules | `(tactic| walk_at "shp") => `(tactic| first
  | rfl
  | assumption
  | exact shp_pt _ _
  | exact shp_sh _ _
  | exact shp_mo _ _
  | exact shpA_pt1 _ _
  | exact shpA_pt2 _ _ _
  | exact shp_pts
  | exact (show D.shp 8 _ = true from rfl)
  | solve_by_elim)
local macro_rules | `(tactic| walk_at "pts") => `(tactic| first
  | (apply pts1 <;> walk_at "norm")
  | (apply pts2 <;> walk_at "norm"))
local macro_rules | `(tactic| walk_at "ismo") => `(tactic| (apply isMo_yes <;> walk_at "mok"))
local macro_rules | `(tactic| walk_at "one") => `(tactic| assumption)
local macro_rules | `(tactic| walk_at "db") => `(tactic| first
  | assumption
  | (apply MOk.db <;> walk_at "mok")
  | (apply Ok.db <;> walk_at "ok")
  | solve_by_elim)
local macro_rules | `(tactic| walk_at "nopq") => `(tactic| first | assumption | solve_by_elim | (intro n h; cases h))
local macro_rules | `(tactic| walk_at "sz") => `(tactic| first | omega | assumption | (simp; done) | (simp_all <;> omega))
local macro_rules | `(tactic| walk_at "sok") => `(tactic| first
  | assumption
  | (apply plusSh_ok <;> walk_at "sok")
  | (apply gap_ok <;> walk_at "ok")
  | (apply size_ok <;> walk_at "ok")
  | exact nought_ok (n := 1) (by decide))
local macro_rules | `(tactic| walk_at "oks") => `(tactic| first
  | assumption
  | solve_by_elim)
local macro_rules | `(tactic| walk_at "ne") => `(tactic| first
  | assumption
  | (simp; done))
local macro_rules | `(tactic| walk_at "prs") => `(tactic| (apply prs <;> assumption))
local macro_rules | `(tactic| walk_at "norms") => `(tactic| first | assumption | solve_by_elim)
local macro_rules | `(tactic| walk_at "soks") => `(tactic| first | assumption | solve_by_elim)
local macro_rules | `(tactic| walk_at "bn") => `(tactic| first
  | assumption
  | (apply Bn.mul <;> walk_at "bn")
  | (apply Bn.add <;> walk_at "bn")
  | (apply Bn.sub <;> walk_at "bn")
  | (apply Bn.neg <;> walk_at "bn")
  | (apply Bn.abs <;> walk_at "bn")
  | exact (show Bn 64 _ by unfold Bn; decide)
  | exact (show Bn 64 _ by unfold Bn; omega))
local macro_rules | `(tactic| walk_at "pok") => `(tactic| first | assumption | solve_by_elim)
local macro_rules | `(tactic| walk_at "cd") => `(tactic| (apply Bn.cd; (focus walk_at "bn"); (first | assumption | omega); omega))
local macro_rules | `(tactic| walk_at "sz") => `(tactic| try simp only [c1, c2, c3, c4, ret, tupE, nilA, consA, lstE, itE, walkD_l, walkD_t, walkD_c, un2_t, un2_l, un3_t, un3_l, un3M, un3P, un2S])
section
variable {Φ : D → Prop} {Ψ : Str → Prop} {n m i j k' : Nat} {p q a b c d : Pt} {x y z : D} {l r : List Pt} {mo : Mo} {f : Int}
/-! ### a loop that adds -/
/-! ### the points of a heap as a table -/
/-! ### all motions that lay two points at least over -/
end
end G
namespace G
open PySem PySem.Spec L2
local macro_rules | `(tactic| walk_at "sx") => `(tactic| try simp only [bin, una, lcE, cmpV, cmpT, tv, bv_b, notT, andT, orT, notV, andV, orV, ifE, nilA, consA, tupE, lstE, c1, c2, c3, c4, itE, seqD_l, seqD_t, walkD_l, walkD_t, walkD_c, ret, addD_i, subD_i, mulD_i, negD_i, fdivD_i, modD_i, absD_i, maxD_i, lnD_l, lnD_t, ltB_i, leB_i, gtB_i, geB_i, rng1, rng2, zipM, zip2_l, zip2_t, chnV, chnT, un2_t, un2_l, un3_t, un3_l, join, isDat_d,
  ixP0, ixP1, ixP2, ixS0, ixS1, ixM0, ixM1, ixM2, un3M, un3P, un2S, eqB_i, neB_i, eqB_p, neB_p, eqB_s, neB_s, eqB_m, neB_m, ite_dec, ite_ndec, ite_tt, ite_ff, ite_nt, ite_nf, isNB, notNB, isVB_b, isntVB_b, ixT30, ixT31, ixT32, ixT20, ixT21, if_true, if_false])
local macro_rules | `(tactic| walk_at "sy") => `(tactic| try simp only [bin, una, lcE, cmpV, cmpT, tv, bv_b, nilA, consA, tupE, lstE, c1, c2, c3, c4, itE, seqD_l, seqD_t, walkD_l, walkD_t, walkD_c, ret, addD_i, subD_i, mulD_i, negD_i, fdivD_i, modD_i, absD_i, maxD_i, lnD_l, lnD_t, ltB_i, leB_i, gtB_i, geB_i, rng1, rng2, zipM, zip2_l, zip2_t, un2_t, un2_l, un3_t, un3_l, isDat_d,
  ixP0, ixP1, ixP2, ixS0, ixS1, ixM0, ixM1, ixM2, un3M, un3P, un2S, eqB_i, neB_i, eqB_p, neB_p, eqB_s, neB_s, eqB_m, neB_m, ite_dec, ite_ndec, ite_tt, ite_ff, ite_nt, ite_nf, isNB, notNB, isVB_b, isntVB_b, ixT30, ixT31, ixT32, ixT20, ixT21, if_true, if_false])
local macro_rules | `(tactic| walk_at "bn") => `(tactic| first
  | assumption
  | (apply Bn.mul <;> walk_at "bn")
  | (apply Bn.add <;> walk_at "bn")
  | (apply Bn.sub <;> walk_at "bn")
  | (apply Bn.neg <;> walk_at "bn")
  | (apply Bn.abs <;> walk_at "bn")
  | exact (show Bn 64 _ by unfold Bn; decide))
local macro_rules | `(tactic| walk_at "cm") => `(tactic| (apply Bn.cm; (focus walk_at "bn"); (focus walk_at "bn"); omega))
local macro_rules | `(tactic| walk_at "nz") => `(tactic| first
  | assumption
  | omega
  | (apply mulnz <;> walk_at "nz"))
local macro_rules | `(tactic| walk_at "mok") => `(tactic| first
  | assumption
  | (apply joined_ok <;> walk_at "mok")
  | (apply backOf_ok <;> walk_at "mok")
  | exact still_ok)
local macro_rules | `(tactic| walk_at "ok") => `(tactic| first
  | assumption
  | (apply plus_ok <;> walk_at "ok")
  | (apply minus_ok <;> walk_at "ok")
  | (apply times_ok <;> walk_at "ok")
  | (apply flipped_ok <;> walk_at "ok")
  | (apply ledBy_ok <;> first | walk_at "ok" | walk_at "mok")
  | solve_by_elim)
local macro_rules | `(tactic| walk_at "norm") => `(tactic| first
  | assumption
  | (apply flipped_norm <;> walk_at "norm")
  | (apply plus_norm' <;> walk_at "ok")
  | (apply minus_norm' <;> walk_at "ok")
  | (apply times_norm' <;> walk_at "ok")
  | (apply ledBy_norm <;> first | walk_at "ok" | walk_at "mok")
  | solve_by_elim)
local macro_rules | `(tactic| walk_at "shp") => `(tactic| first
  | rfl
  | assumption
  | exact shp_pt _ _
  | exact shp_sh _ _
  | exact shp_mo _ _
  | exact shpA_pt1 _ _
  | exact shpA_pt2 _ _ _
  | exact shp_pts
  | exact (show D.shp 8 _ = true from rfl)
  | solve_by_elim)
local macro_rules | `(tactic| walk_at "pts") => `(tactic| first
  | (apply pts1 <;> walk_at "norm")
  | (apply pts2 <;> walk_at "norm"))
local macro_rules | `(tactic| walk_at "ismo") => `(tactic| (apply isMo_yes <;> walk_at "mok"))
local macro_rules | `(tactic| walk_at "one") => `(tactic| assumption)
local macro_rules | `(tactic| walk_at "db") => `(tactic| first
  | assumption
  | (apply MOk.db <;> walk_at "mok")
  | (apply Ok.db <;> walk_at "ok")
  | solve_by_elim)
local macro_rules | `(tactic| walk_at "nopq") => `(tactic| first | assumption | solve_by_elim | (intro n h; cases h))
local macro_rules | `(tactic| walk_at "sz") => `(tactic| first | omega | assumption | (simp; done) | (simp_all <;> omega))
local macro_rules | `(tactic| walk_at "sok") => `(tactic| first
  | assumption
  | (apply plusSh_ok <;> walk_at "sok")
  | (apply gap_ok <;> walk_at "ok")
  | (apply size_ok <;> walk_at "ok")
  | exact nought_ok (n := 1) (by decide))
local macro_rules | `(tactic| walk_at "oks") => `(tactic| first
  | assumption
  | solve_by_elim)
local macro_rules | `(tactic| walk_at "ne") => `(tactic| first
  | assumption
  | (simp; done))
local macro_rules | `(tactic| walk_at "prs") => `(tactic| (apply prs <;> assumption))
local macro_rules | `(tactic| walk_at "norms") => `(tactic| first | assumption | solve_by_elim)
local macro_rules | `(tactic| walk_at "soks") => `(tactic| first | assumption | solve_by_elim)
local macro_rules | `(tactic| walk_at "bn") => `(tactic| first
  | assumption
  | (apply Bn.mul <;> walk_at "bn")
  | (apply Bn.add <;> walk_at "bn")
  | (apply Bn.sub <;> walk_at "bn")
  | (apply Bn.neg <;> walk_at "bn")
  | (apply Bn.abs <;> walk_at "bn")
  | exact (show Bn 64 _ by unfold Bn; decide)
  | exact (show Bn 64 _ by unfold Bn; omega))
local macro_rules | `(tactic| walk_at "pok") => `(tactic| first | assumption | solve_by_elim)
local macro_rules | `(tactic| walk_at "cd") => `(tactic| (apply Bn.cd; (focus walk_at "bn"); (first | assumption | omega); omega))
local macro_rules | `(tactic| walk_at "sz") => `(tactic| try simp only [c1, c2, c3, c4, ret, tupE, nilA, consA, lstE, itE, walkD_l, walkD_t, walkD_c, un2_t, un2_l, un3_t, un3_l, un3M, un3P, un2S])
/-! ### sorted(..) of things alike -/
/-- a kind of things that can be sorted: alike, told apart by == -/
structure Kind (α : Type) where
  enc : α → D
  tup : (∀ a, ∃ d ds, enc a = .tup (d :: ds)) ∨ ∀ a, (enc a).py ≠ .none ∧ ∀ xs, (enc a).py ≠ .tuple xs
  al : ∀ a b, PySem.W.alike (enc a).py (enc b).py = true
  eq : ∀ a b, deq (enc a) (enc b) = true → a = b
  shp : ∀ a, D.shp 39 (enc a) = true
section
variable {α : Type} {κ : Kind α} {l m : List α} {Φ : D → Prop}
end
section
variable {Φ : D → Prop} {Ψ : Str → Prop} {n m i j k' : Nat} {p q : Pt} {x y : D} {l r : List Pt} {mo : Mo}
/-! ### == of lists of points -/
theorem eqvA_nc (d : D) (ds : List D) : PyData.eqvAll (D.pyA []) (D.pyA (d :: ds)) = false := by
  show PyData.eqvAll [] (_ :: _) = false
  rw [PyData.eqvAll]
theorem eqvA_cn (d : D) (ds : List D) : PyData.eqvAll (D.pyA (d :: ds)) (D.pyA []) = false := by
  show PyData.eqvAll (_ :: _) [] = false
  rw [PyData.eqvAll]
theorem eqvA_enc {α : Type} [DecidableEq α] {enc : α → D} (h : ∀ a b, deq (enc a) (enc b) = decide (a = b)) : ∀ {l r : List α}, PyData.eqvAll (D.pyA (l.map enc)) (D.pyA (r.map enc)) = decide (l = r)
  | [], [] => by simpa using eqvA_nil
  | [], q :: r => by rw [List.map_nil, List.map_cons, eqvA_nc]; simp
  | p :: l, [] => by rw [List.map_nil, List.map_cons, eqvA_cn]; simp
  | p :: l, q :: r => by rw [List.map_cons, List.map_cons, eqvA_cons, h, eqvA_enc h]; simp
theorem deq_pts {l r : List Pt} : deq (.lst (l.map Pt.d)) (.lst (r.map Pt.d)) = decide (l = r) := by rw [deq_lst, eqvA_enc deq_pt]
theorem deq_ptsT {l r : List Pt} : deq (.tup (l.map Pt.d)) (.tup (r.map Pt.d)) = decide (l = r) := by rw [deq_tup, eqvA_enc deq_pt]
theorem shp40_pts : D.shp 40 (.lst (l.map Pt.d)) = true := shpA_all fun d hd => by obtain ⟨p, _, rfl⟩ := List.mem_map.mp hd; exact shp_pt 38 p
theorem shp40_ptsT : D.shp 40 (.tup (l.map Pt.d)) = true := shpA_all fun d hd => by obtain ⟨p, _, rfl⟩ := List.mem_map.mp hd; exact shp_pt 38 p
theorem neB_pts {Θ : Bool → Prop} (h : Θ (!decide (l = r))) : neB (.lst (l.map Pt.d)) (.lst (r.map Pt.d)) Θ := ⟨⟨shp40_pts, shp40_pts⟩, by rw [deq_pts]; exact h⟩
theorem neB_ptsT {Θ : Bool → Prop} (h : Θ (!decide (l = r))) : neB (.tup (l.map Pt.d)) (.tup (r.map Pt.d)) Θ := ⟨⟨shp40_ptsT, shp40_ptsT⟩, by rw [deq_ptsT]; exact h⟩
/-! ### heaps moved -/
theorem gap_zero (hp : Ok n p) (hq : Ok m q) (np : Norm p) (nq : Norm q) (h : (gap p q).val = 0) : p = q := by
  rw [gap_val hp hq] at h
  have a : (p.re - q.re) * (p.re - q.re) = 0 ∧ (p.im - q.im) * (p.im - q.im) = 0 := by
    have sq : ∀ a : Rat, 0 ≤ a * a := fun a => by
      by_cases h : 0 ≤ a
      · exact Rat.mul_nonneg h h
      · have e : a * a = (-a) * (-a) := by grind
        rw [e]
        exact Rat.mul_nonneg (by grind) (by grind)
    have h1 := sq (p.re - q.re)
    have h2 := sq (p.im - q.im)
    constructor <;> grind
  refine val_inj np nq ?_ ?_
  · rcases Rat.mul_eq_zero.mp a.1 with z | z <;> grind
  · rcases Rat.mul_eq_zero.mp a.2 with z | z <;> grind
theorem gap_same (hp : Ok n p) : (gap p p).val = 0 := by rw [gap_val hp hp]; grind
theorem led_inj (h : MOk n mo) (hp : Ok i p) (hq : Ok j q) (np : Norm p) (nq : Norm q) (e : ledBy mo p = ledBy mo q) : p = q := by
  have g := led_gap h hp hq
  rw [e] at g
  exact gap_zero hp hq np nq (by rw [← g]; exact gap_same (ledBy_ok h hq))
theorem map_nodup {α β : Type} {f : α → β} : ∀ {l : List α}, l.Nodup → (∀ a ∈ l, ∀ b ∈ l, f a = f b → a = b) → (l.map f).Nodup
  | [], _, _ => by simp
  | a :: l, h, hf => by
    rw [List.nodup_cons] at h
    rw [List.map_cons, List.nodup_cons]
    refine ⟨fun z => ?_, map_nodup h.2 fun b hb c hc => hf b (List.mem_cons_of_mem _ hb) c (List.mem_cons_of_mem _ hc)⟩
    obtain ⟨b, hb, e⟩ := List.mem_map.mp z
    exact h.1 (hf b (List.mem_cons_of_mem _ hb) a List.mem_cons_self e ▸ hb)
theorem Hp.moved (h : Hp n l) (hm : MOk m mo) : Hp (2 * m + n + 2) (l.map (ledBy mo)) := by
  refine ⟨fun p hp => ?_, fun p hp => ?_, map_nodup h.nd fun a ha b hb e => led_inj hm (h.ok a ha) (h.ok b hb) (h.nm a ha) (h.nm b hb) e, by rw [List.length_map]; exact h.ge, by rw [List.length_map]; exact h.le⟩
  · obtain ⟨q, hq, rfl⟩ := List.mem_map.mp hp
    exact ledBy_norm hm (h.ok q hq)
  · obtain ⟨q, hq, rfl⟩ := List.mem_map.mp hp
    exact ledBy_ok hm (h.ok q hq)
theorem Hp.perm (h : Hp n l) (e : l.Perm r) : Hp n r := ⟨fun p hp => h.nm p (e.mem_iff.mpr hp), fun p hp => h.ok p (e.mem_iff.mpr hp), e.nodup_iff.mp h.nd, by rw [← e.length_eq]; exact h.ge, by rw [← e.length_eq]; exact h.le⟩
theorem Hp.ord (h : Hp n l) : Hp n (ordL l) := h.perm ordL_perm.symm
theorem Hp.mono (h : Hp n l) (e : n ≤ m) : Hp m l := ⟨h.nm, fun p hp => (h.ok p hp).mono e, h.nd, h.ge, h.le⟩
theorem Hp.ne (h : Hp n l) : l ≠ [] := fun z => by have := h.ge; rw [z] at this; simp at this
end
end G
namespace G
open PySem PySem.Spec L2
local macro_rules | `(tactic| walk_at "sx") => `(tactic| try simp only [bin, una, lcE, cmpV, cmpT, tv, bv_b, notT, andT, orT, notV, andV, orV, ifE, nilA, consA, tupE, lstE, c1, c2, c3, c4, itE, seqD_l, seqD_t, walkD_l, walkD_t, walkD_c, ret, addD_i, subD_i, mulD_i, negD_i, fdivD_i, modD_i, absD_i, maxD_i, lnD_l, lnD_t, ltB_i, leB_i, gtB_i, geB_i, rng1, rng2, zipM, zip2_l, zip2_t, chnV, chnT, un2_t, un2_l, un3_t, un3_l, join, isDat_d,
  ixP0, ixP1, ixP2, ixS0, ixS1, ixM0, ixM1, ixM2, un3M, un3P, un2S, eqB_i, neB_i, eqB_p, neB_p, eqB_s, neB_s, eqB_m, neB_m, ite_dec, ite_ndec, ite_tt, ite_ff, ite_nt, ite_nf, isNB, notNB, isVB_b, isntVB_b, ixT30, ixT31, ixT32, ixT20, ixT21, if_true, if_false])
local macro_rules | `(tactic| walk_at "sy") => `(tactic| try simp only [bin, una, lcE, cmpV, cmpT, tv, bv_b, nilA, consA, tupE, lstE, c1, c2, c3, c4, itE, seqD_l, seqD_t, walkD_l, walkD_t, walkD_c, ret, addD_i, subD_i, mulD_i, negD_i, fdivD_i, modD_i, absD_i, maxD_i, lnD_l, lnD_t, ltB_i, leB_i, gtB_i, geB_i, rng1, rng2, zipM, zip2_l, zip2_t, un2_t, un2_l, un3_t, un3_l, isDat_d,
  ixP0, ixP1, ixP2, ixS0, ixS1, ixM0, ixM1, ixM2, un3M, un3P, un2S, eqB_i, neB_i, eqB_p, neB_p, eqB_s, neB_s, eqB_m, neB_m, ite_dec, ite_ndec, ite_tt, ite_ff, ite_nt, ite_nf, isNB, notNB, isVB_b, isntVB_b, ixT30, ixT31, ixT32, ixT20, ixT21, if_true, if_false])
local macro_rules | `(tactic| walk_at "bn") => `(tactic| first
  | assumption
  | (apply Bn.mul <;> walk_at "bn")
  | (apply Bn.add <;> walk_at "bn")
  | (apply Bn.sub <;> walk_at "bn")
  | (apply Bn.neg <;> walk_at "bn")
  | (apply Bn.abs <;> walk_at "bn")
  | exact (show Bn 64 _ by unfold Bn; decide))
local macro_rules | `(tactic| walk_at "cm") => `(tactic| (apply Bn.cm; (focus walk_at "bn"); (focus walk_at "bn"); omega))
local macro_rules | `(tactic| walk_at "nz") => `(tactic| first
  | assumption
  | omega
  | (apply mulnz <;> walk_at "nz"))
local macro_rules | `(tactic| walk_at "mok") => `(tactic| first
  | assumption
  | (apply joined_ok <;> walk_at "mok")
  | (apply backOf_ok <;> walk_at "mok")
  | exact still_ok)
local macro_rules | `(tactic| walk_at "ok") => `(tactic| first
  | assumption
  | (apply plus_ok <;> walk_at "ok")
  | (apply minus_ok <;> walk_at "ok")
  | (apply times_ok <;> walk_at "ok")
  | (apply flipped_ok <;> walk_at "ok")
  | (apply ledBy_ok <;> first | walk_at "ok" | walk_at "mok")
  | solve_by_elim)
local macro_rules | `(tactic| walk_at "norm") => `(tactic| first
  | assumption
  | (apply flipped_norm <;> walk_at "norm")
  | (apply plus_norm' <;> walk_at "ok")
  | (apply minus_norm' <;> walk_at "ok")
  | (apply times_norm' <;> walk_at "ok")
  | (apply ledBy_norm <;> first | walk_at "ok" | walk_at "mok")
  | solve_by_elim)
local macro_rules | `(tactic| walk_at "shp") => `(tactic| first
  | rfl
  | assumption
  | exact shp_pt _ _
  | exact shp_sh _ _
  | exact shp_mo _ _
  | exact shpA_pt1 _ _
  | exact shpA_pt2 _ _ _
  | exact shp_pts
  | exact (show D.shp 8 _ = true from rfl)
  | solve_by_elim)
local macro_rules | `(tactic| walk_at "pts") => `(tactic| first
  | (apply pts1 <;> walk_at "norm")
  | (apply pts2 <;> walk_at "norm"))
local macro_rules | `(tactic| walk_at "ismo") => `(tactic| (apply isMo_yes <;> walk_at "mok"))
local macro_rules | `(tactic| walk_at "one") => `(tactic| assumption)
local macro_rules | `(tactic| walk_at "db") => `(tactic| first
  | assumption
  | (apply MOk.db <;> walk_at "mok")
  | (apply Ok.db <;> walk_at "ok")
  | solve_by_elim)
local macro_rules | `(tactic| walk_at "nopq") => `(tactic| first | assumption | solve_by_elim | (intro n h; cases h))
local macro_rules | `(tactic| walk_at "sz") => `(tactic| first | omega | assumption | (simp; done) | (simp_all <;> omega))
local macro_rules | `(tactic| walk_at "sok") => `(tactic| first
  | assumption
  | (apply plusSh_ok <;> walk_at "sok")
  | (apply gap_ok <;> walk_at "ok")
  | (apply size_ok <;> walk_at "ok")
  | exact nought_ok (n := 1) (by decide))
local macro_rules | `(tactic| walk_at "oks") => `(tactic| first
  | assumption
  | solve_by_elim)
local macro_rules | `(tactic| walk_at "ne") => `(tactic| first
  | assumption
  | (simp; done))
local macro_rules | `(tactic| walk_at "prs") => `(tactic| (apply prs <;> assumption))
local macro_rules | `(tactic| walk_at "norms") => `(tactic| first | assumption | solve_by_elim)
local macro_rules | `(tactic| walk_at "soks") => `(tactic| first | assumption | solve_by_elim)
local macro_rules | `(tactic| walk_at "bn") => `(tactic| first
  | assumption
  | (apply Bn.mul <;> walk_at "bn")
  | (apply Bn.add <;> walk_at "bn")
  | (apply Bn.sub <;> walk_at "bn")
  | (apply Bn.neg <;> walk_at "bn")
  | (apply Bn.abs <;> walk_at "bn")
  | exact (show Bn 64 _ by unfold Bn; decide)
  | exact (show Bn 64 _ by unfold Bn; omega))
local macro_rules | `(tactic| walk_at "pok") => `(tactic| first | assumption | solve_by_elim)
local macro_rules | `(tactic| walk_at "cd") => `(tactic| (apply Bn.cd; (focus walk_at "bn"); (first | assumption | omega); omega))
local macro_rules | `(tactic| walk_at "sz") => `(tactic| try simp only [c1, c2, c3, c4, ret, tupE, nilA, consA, lstE, itE, walkD_l, walkD_t, walkD_c, un2_t, un2_l, un3_t, un3_l, un3M, un3P, un2S])
section
variable {Φ : D → Prop} {Ψ : Str → Prop} {n m i j k' : Nat} {p q a b c d : Pt} {x y : D} {l r : List Pt} {mo : Mo} {f : Int}
/-! ### the laws' own helpers -/
/-! ### bools -/
/-! ### points in order -/
theorem law_before_w (hp : Ok n p) (hq : Ok m q) (hn : n + m ≤ 4000) (k : Φ (.bl (aheadB p q))) : p_law_before p.d q.d Φ Ψ := by
  have b1 := hp.x; have b2 := hp.y; have b3 := hp.w; have b4 := hq.x; have b5 := hq.y; have b6 := hq.w
  unfold aheadB at k
  refine ⟨?_⟩
  walk_at "sx"
  refine ⟨by walk_at "cm", by walk_at "cm", ?_⟩
  by_cases h1 : p.x * q.w < q.x * p.w
  · rw [decide_eq_true h1] at k
    rw [if_pos (by omega)]; exact k
  · rw [decide_eq_false h1] at k
    rw [if_neg (by omega)]
    by_cases h2 : p.x * q.w = q.x * p.w
    · rw [decide_eq_true h2] at k
      rw [if_pos (by omega)]
      exact ⟨by walk_at "cm", by walk_at "cm", k⟩
    · rw [decide_eq_false h2] at k
      rw [if_neg (by omega)]
      exact k
theorem not_ahead (hp : 0 < p.w) (hq : 0 < q.w) : aheadB p q = false ↔ q.re < p.re ∨ (q.re = p.re ∧ q.im ≤ p.im) := by
  rw [← Bool.not_eq_true, ahead_iff hp hq]
  grind
/-- not ahead of: p may stand ahead of q -/
theorem le_trans3 (ha : 0 < a.w) (hb : 0 < b.w) (hc : 0 < c.w) (h1 : aheadB b a = false) (h2 : aheadB c b = false) : aheadB c a = false := by
  rw [not_ahead hb ha] at h1
  rw [not_ahead hc hb] at h2
  rw [not_ahead hc ha]
  grind
theorem lt_le (ha : 0 < a.w) (hb : 0 < b.w) (h : aheadB a b = true) : aheadB b a = false := by
  rw [ahead_iff ha hb] at h
  rw [not_ahead hb ha]
  grind
theorem lt_le_trans (ha : 0 < a.w) (hb : 0 < b.w) (hc : 0 < c.w) (h1 : aheadB a b = true) (h2 : aheadB c b = false) : aheadB a c = true := by
  cases h : aheadB a c with
  | true => rfl
  | false =>
    have := le_trans3 hb hc ha h2 h
    rw [this] at h1; cases h1
theorem le_anti (ha : Norm a) (hb : Norm b) (h1 : aheadB a b = false) (h2 : aheadB b a = false) : a = b := by
  rw [not_ahead ha.1 hb.1] at h1
  rw [not_ahead hb.1 ha.1] at h2
  exact val_inj ha hb (by grind) (by grind)
/-- a list in order -/
abbrev InOrd (l : List Pt) : Prop := l.Pairwise fun a b => aheadB b a = false
abbrev Pos (l : List Pt) : Prop := ∀ p ∈ l, 0 < p.w
theorem insP_mem {l : List Pt} : q ∈ insP p l ↔ q = p ∨ q ∈ l := by rw [insP_perm.mem_iff, List.mem_cons]
theorem insP_ord (hp : 0 < p.w) : ∀ {l : List Pt}, Pos l → InOrd l → InOrd (insP p l)
  | [], _, _ => by unfold insP; simp [InOrd]
  | q :: l, hl, h => by
    have hq := hl q List.mem_cons_self
    have hl' : Pos l := fun z hz => hl z (List.mem_cons_of_mem _ hz)
    have h' := List.pairwise_cons.mp h
    unfold insP
    split
    · rename_i ha
      refine List.pairwise_cons.mpr ⟨fun z hz => ?_, h⟩
      rcases List.mem_cons.mp hz with rfl | hz
      · exact lt_le hp hq ha
      · exact le_trans3 hp hq (hl' z hz) (lt_le hp hq ha) (h'.1 z hz)
    · rename_i ha
      refine List.pairwise_cons.mpr ⟨fun z hz => ?_, insP_ord hp hl' h'.2⟩
      rcases insP_mem.mp hz with rfl | hz
      · simpa using ha
      · exact h'.1 z hz
theorem ordL_snoc {l : List Pt} {p : Pt} : ordL (l ++ [p]) = insP p (ordL l) := by unfold ordL; rw [List.foldl_append]; rfl
theorem foldI_ord : ∀ {l acc : List Pt}, Pos l → Pos acc → InOrd acc → InOrd (l.foldl (fun f p => insP p f) acc)
  | [], _, _, _, h => h
  | p :: l, acc, hl, ha, h => by
    rw [List.foldl_cons]
    have hp := hl p List.mem_cons_self
    exact foldI_ord (fun z hz => hl z (List.mem_cons_of_mem _ hz)) (fun z hz => by
      rcases insP_mem.mp hz with rfl | hz
      · exact hp
      · exact ha z hz) (insP_ord hp ha h)
theorem ordL_ord (h : Pos l) : InOrd (ordL l) := foldI_ord h (fun p hp => by cases hp) List.Pairwise.nil
theorem ord_unique (hl : ∀ p ∈ l, Norm p) (h1 : InOrd l) (h2 : InOrd r) (e : l.Perm r) : l = r :=
  List.Perm.eq_of_pairwise (le := fun a b => aheadB b a = false) (fun a b ha hb h1 h2 => le_anti (hl a ha) (hl b (e.mem_iff.mpr hb)) h2 h1) h1 h2 e
theorem norms_pos (h : ∀ p ∈ l, Norm p) : Pos l := fun p hp => (h p hp).1
theorem ordL_id (hl : ∀ p ∈ l, Norm p) (h : InOrd l) : ordL l = l := ord_unique (fun p hp => hl p (ordL_mem.mp hp)) (ordL_ord (norms_pos hl)) h ordL_perm
theorem insP_split (hp : 0 < p.w) : ∀ {l : List Pt}, Pos l → InOrd l → insP p l = l.filter (fun q => !aheadB p q) ++ [p] ++ l.filter (fun q => aheadB p q)
  | [], _, _ => rfl
  | q :: l, hl, h => by
    have hq := hl q List.mem_cons_self
    have hl' : Pos l := fun z hz => hl z (List.mem_cons_of_mem _ hz)
    have h' := List.pairwise_cons.mp h
    unfold insP
    cases ha : aheadB p q with
    | true =>
      have all : ∀ z ∈ l, aheadB p z = true := fun z hz => lt_le_trans hp hq (hl' z hz) ha (h'.1 z hz)
      have e1 : l.filter (fun q => !aheadB p q) = [] := List.filter_eq_nil_iff.mpr fun z hz => by rw [all z hz]; simp
      have e2 : l.filter (fun q => aheadB p q) = l := List.filter_eq_self.mpr all
      rw [if_pos rfl, List.filter_cons, List.filter_cons, ha, e1, e2]
      simp
    | false =>
      rw [if_neg (by decide), insP_split hp hl' h'.2, List.filter_cons, List.filter_cons, ha]
      simp
theorem law_sorted_w (h : HL x l) (ok : ∀ p ∈ l, Ok n p) (hn : n ≤ 2000) (hl : l.length ≤ 1000) (k : Φ (.lst ((ordL l).map Pt.d))) : p_law_sorted x Φ Ψ := by
  refine ⟨?_⟩
  simp only [itE, ret, h.walk]
  refine forL_runT Pt.d (fun i s => s = .lst ((ordL (l.take i)).map Pt.d)) rfl ?_ ?_
  · rintro i p s hp rfl nx hx
    have hpm := List.mem_of_getElem? hp
    have hi : i < l.length := (List.getElem?_eq_some_iff.mp hp).1
    have okf : ∀ q ∈ ordL (l.take i), Ok n q := fun q hq => ok q (List.mem_of_mem_take (ordL_mem.mp hq))
    have hfl : (ordL (l.take i)).length ≤ 1000 := by rw [ordL_len, List.length_take]; omega
    have e : ordL (l.take (i + 1)) = insP p (ordL (l.take i)) := by rw [List.take_add_one, hp]; exact ordL_snoc
    have hx' := hx _ rfl
    rw [e, insP_split (ok p hpm).pos (fun q hq => (okf q hq).pos) (ordL_ord fun q hq => (ok q (List.mem_of_mem_take hq)).pos)] at hx'
    generalize ordL (l.take i) = f at *
    show _ ∧ lcL _ (f.map Pt.d) _ _
    refine ⟨by rw [List.length_map]; omega, lcL_filterT Pt.d Pt.d (fun q => !aheadB p q) (fun q hq K hK => law_before_w (ok p hpm) (okf q hq) (by omega) hK) ?_⟩
    have f1 := List.length_filter_le (fun q => !aheadB p q) f
    have f2 := List.length_filter_le (fun q => aheadB p q) f
    refine ⟨by simp; omega, ?_⟩
    show _ ∧ lcL _ (f.map Pt.d) _ _
    refine ⟨by rw [List.length_map]; omega, lcL_filterT Pt.d Pt.d (fun q => aheadB p q) (fun q hq K hK => law_before_w (ok p hpm) (okf q hq) (by omega) hK) ?_⟩
    refine ⟨by simp; omega, ?_⟩
    have e3 : ∀ u v : List Pt, ([] ++ u.map Pt.d) ++ [p.d] ++ ([] ++ v.map Pt.d) = (u ++ [p] ++ v).map Pt.d := fun u v => by simp
    rw [e3]
    exact hx'
  · rintro s rfl
    rw [List.take_length]
    exact k
end
end G
namespace G
open PySem PySem.Spec L2 TL
local macro_rules | `(tactic| walk_at "sx") => `(tactic| try simp only [bin, una, lcE, cmpV, cmpT, tv, bv_b, notT, andT, orT, notV, andV, orV, ifE, nilA, consA, tupE, lstE, c1, c2, c3, c4, itE, seqD_l, seqD_t, walkD_l, walkD_t, walkD_c, ret, addD_i, subD_i, mulD_i, negD_i, fdivD_i, modD_i, absD_i, maxD_i, lnD_l, lnD_t, ltB_i, leB_i, gtB_i, geB_i, rng1, rng2, zipM, zip2_l, zip2_t, chnV, chnT, un2_t, un2_l, un3_t, un3_l, join, isDat_d,
  ixP0, ixP1, ixP2, ixS0, ixS1, ixM0, ixM1, ixM2, un3M, un3P, un2S, eqB_i, neB_i, eqB_p, neB_p, eqB_s, neB_s, eqB_m, neB_m, ite_dec, ite_ndec, ite_tt, ite_ff, ite_nt, ite_nf, isNB, notNB, isVB_b, isntVB_b, ixT30, ixT31, ixT32, ixT20, ixT21, if_true, if_false])
local macro_rules | `(tactic| walk_at "sy") => `(tactic| try simp only [bin, una, lcE, cmpV, cmpT, tv, bv_b, nilA, consA, tupE, lstE, c1, c2, c3, c4, itE, seqD_l, seqD_t, walkD_l, walkD_t, walkD_c, ret, addD_i, subD_i, mulD_i, negD_i, fdivD_i, modD_i, absD_i, maxD_i, lnD_l, lnD_t, ltB_i, leB_i, gtB_i, geB_i, rng1, rng2, zipM, zip2_l, zip2_t, un2_t, un2_l, un3_t, un3_l, isDat_d,
  ixP0, ixP1, ixP2, ixS0, ixS1, ixM0, ixM1, ixM2, un3M, un3P, un2S, eqB_i, neB_i, eqB_p, neB_p, eqB_s, neB_s, eqB_m, neB_m, ite_dec, ite_ndec, ite_tt, ite_ff, ite_nt, ite_nf, isNB, notNB, isVB_b, isntVB_b, ixT30, ixT31, ixT32, ixT20, ixT21, if_true, if_false])
local macro_rules | `(tactic| walk_at "bn") => `(tactic| first
  | assumption
  | (apply Bn.mul <;> walk_at "bn")
  | (apply Bn.add <;> walk_at "bn")
  | (apply Bn.sub <;> walk_at "bn")
  | (apply Bn.neg <;> walk_at "bn")
  | (apply Bn.abs <;> walk_at "bn")
  | exact (show Bn 64 _ by unfold Bn; decide))
local macro_rules | `(tactic| walk_at "cm") => `(tactic| (apply Bn.cm; (focus walk_at "bn"); (focus walk_at "bn"); omega))
local macro_rules | `(tactic| walk_at "nz") => `(tactic| first
  | assumption
  | omega
  | (apply mulnz <;> walk_at "nz"))
local macro_rules | `(tactic| walk_at "mok") => `(tactic| first
  | assumption
  | (apply joined_ok <;> walk_at "mok")
  | (apply backOf_ok <;> walk_at "mok")
  | exact still_ok)
local macro_rules | `(tactic| walk_at "ok") => `(tactic| first
  | assumption
  | (apply plus_ok <;> walk_at "ok")
  | (apply minus_ok <;> walk_at "ok")
  | (apply times_ok <;> walk_at "ok")
  | (apply flipped_ok <;> walk_at "ok")
  | (apply ledBy_ok <;> first | walk_at "ok" | walk_at "mok")
  | solve_by_elim)
local macro_rules | `(tactic| walk_at "norm") => `(tactic| first
  | assumption
  | (apply flipped_norm <;> walk_at "norm")
  | (apply plus_norm' <;> walk_at "ok")
  | (apply minus_norm' <;> walk_at "ok")
  | (apply times_norm' <;> walk_at "ok")
  | (apply ledBy_norm <;> first | walk_at "ok" | walk_at "mok")
  | solve_by_elim)
local macro_rules | `(tactic| walk_at "shp") => `(tactic| first
  | rfl
  | assumption
  | exact shp_pt _ _
  | exact shp_sh _ _
  | exact shp_mo _ _
  | exact shpA_pt1 _ _
  | exact shpA_pt2 _ _ _
  | exact shp_pts
  | exact (show D.shp 8 _ = true from rfl)
  | solve_by_elim)
local macro_rules | `(tactic| walk_at "pts") => `(tactic| first
  | (apply pts1 <;> walk_at "norm")
  | (apply pts2 <;> walk_at "norm"))
local macro_rules | `(tactic| walk_at "ismo") => `(tactic| (apply isMo_yes <;> walk_at "mok"))
local macro_rules | `(tactic| walk_at "one") => `(tactic| assumption)
local macro_rules | `(tactic| walk_at "db") => `(tactic| first
  | assumption
  | (apply MOk.db <;> walk_at "mok")
  | (apply Ok.db <;> walk_at "ok")
  | solve_by_elim)
local macro_rules | `(tactic| walk_at "nopq") => `(tactic| first | assumption | solve_by_elim | (intro n h; cases h))
local macro_rules | `(tactic| walk_at "sz") => `(tactic| first | omega | assumption | (simp; done) | (simp_all <;> omega))
local macro_rules | `(tactic| walk_at "sok") => `(tactic| first
  | assumption
  | (apply plusSh_ok <;> walk_at "sok")
  | (apply gap_ok <;> walk_at "ok")
  | (apply size_ok <;> walk_at "ok")
  | exact nought_ok (n := 1) (by decide))
local macro_rules | `(tactic| walk_at "oks") => `(tactic| first
  | assumption
  | solve_by_elim)
local macro_rules | `(tactic| walk_at "ne") => `(tactic| first
  | assumption
  | (simp; done))
local macro_rules | `(tactic| walk_at "prs") => `(tactic| (apply prs <;> assumption))
local macro_rules | `(tactic| walk_at "norms") => `(tactic| first | assumption | solve_by_elim)
local macro_rules | `(tactic| walk_at "soks") => `(tactic| first | assumption | solve_by_elim)
local macro_rules | `(tactic| walk_at "bn") => `(tactic| first
  | assumption
  | (apply Bn.mul <;> walk_at "bn")
  | (apply Bn.add <;> walk_at "bn")
  | (apply Bn.sub <;> walk_at "bn")
  | (apply Bn.neg <;> walk_at "bn")
  | (apply Bn.abs <;> walk_at "bn")
  | exact (show Bn 64 _ by unfold Bn; decide)
  | exact (show Bn 64 _ by unfold Bn; omega))
local macro_rules | `(tactic| walk_at "pok") => `(tactic| first | assumption | solve_by_elim)
local macro_rules | `(tactic| walk_at "cd") => `(tactic| (apply Bn.cd; (focus walk_at "bn"); (first | assumption | omega); omega))
local macro_rules | `(tactic| walk_at "sz") => `(tactic| try simp only [c1, c2, c3, c4, ret, tupE, nilA, consA, lstE, itE, walkD_l, walkD_t, walkD_c, un2_t, un2_l, un3_t, un3_l, un3M, un3P, un2S])
section
variable {Φ : D → Prop} {Ψ : Str → Prop} {Θ : Bool → Prop} {n m : Nat} {p q : Pt} {x y d : D} {mo : Mo} {l : List Pt}
/-! ### texts, by their signs -/
abbrev mk (l : Sg) : Str := ⟨l.toArray⟩
theorem mk_tl (z : Str) : mk (tl z) = z := ext_tl rfl
theorem mk_add (a b : Sg) : mk a ++ mk b = mk (a ++ b) := ext_tl (by rw [tl_append])
theorem str_mk (i : Int) : (Str.ofString (toString i)) = mk (iT i) := ext_tl (iT_tl i)
theorem mk_len (l : Sg) : (mk l).length = l.length := by rw [len_tl]
theorem iT_len {i : Int} (h : Bn 200 i) : (iT i).length ≤ 62 := by
  have := numL_len (n := i.natAbs) (k := 61) (by decide) (Nat.lt_of_lt_of_le h (by decide))
  unfold iT
  split
  · rw [List.length_cons]; omega
  · omega
theorem log_ok {i : Int} (h : Bn 200 i) : i.natAbs.log2 < 1920 := by
  by_cases z : i.natAbs = 0
  · rw [z]; decide
  · have := (Nat.log2_lt z (k := 200)).mpr h
    omega
theorem sT_len {s : Sh} (h : SOk 200 s) : (sT s).length ≤ 125 := by
  have h1 := iT_len h.t
  have h2 := iT_len h.b
  unfold sT
  split
  · omega
  · show (iT s.t ++ ([47] ++ iT s.b)).length ≤ _
    simp; omega
theorem pT_len (h : Ok 200 p) : (pT p).length ≤ 251 := by
  have h1 := sT_len ((shr_ok h.x h.w h.nz).mono (show max 200 200 ≤ 200 by decide))
  have h2 := sT_len ((shr_ok h.y h.w h.nz).mono (show max 200 200 ≤ 200 by decide))
  show (sT _ ++ ([44] ++ sT _)).length ≤ _
  simp; omega
theorem strD_w {i : Int} (h : Bn 200 i) (k : Φ (.str (mk (iT i)))) : strD (.int i) Φ := ⟨log_ok h, by rw [show ((toString i : String) : Str) = Str.ofString (toString i) from rfl, str_mk]; exact k⟩
theorem addS {a b : Sg} (h : a.length + b.length ≤ 100000) (k : Φ (.str (mk (a ++ b)))) : addD (.str (mk a)) (.str (mk b)) Φ := ⟨by rw [mk_len, mk_len]; exact h, by rw [mk_add]; exact k⟩
theorem lit_mk {s : String} {l : Sg} (h : s.toList.map Char.toNat = l) : (Str.ofString s) = mk l := ext_tl (by rw [tl_ofString]; exact h)
theorem s_comma : ("," : Str) = mk [44] := lit_mk rfl
theorem s_slash : ("/" : Str) = mk [47] := lit_mk rfl
theorem s_blank : (" " : Str) = mk [32] := lit_mk rfl
theorem s_none : ("" : Str) = mk [] := lit_mk rfl
theorem s_flip : ("flip" : Str) = mk flipS := lit_mk rfl
theorem s_bflip : (" flip" : Str) = mk (32 :: flipS) := lit_mk rfl
theorem number_text_w {a b : Int} (ha : Bn 200 a) (hb : Bn 200 b) (nb : b ≠ 0) (k : Φ (.str (mk (sT (shr a b))))) : p_number_text (.int a) (.int b) Φ Ψ := by
  have os : SOk 200 (shr a b) := (shr_ok ha hb nb).mono (by decide)
  refine ⟨?_⟩
  show p_share _ _ _ _
  refine share_w hb nb (by decide) ?_
  rw [un2S]
  generalize shr a b = s at *
  unfold sT at k
  walk_at "sx"
  by_cases h : s.b = 1
  · rw [if_pos h] at k ⊢
    exact strD_w os.t k
  · rw [if_neg h] at k ⊢
    have h1 := iT_len os.t
    have h2 := iT_len os.b
    have e : (Str.ofString (toString s.t)) ++ ("/" : Str) ++ (Str.ofString (toString s.b)) = mk (joinL [47] [iT s.t, iT s.b]) := by
      rw [str_mk, str_mk, s_slash, mk_add, mk_add]
      show mk (iT s.t ++ [47] ++ iT s.b) = mk (iT s.t ++ ([47] ++ iT s.b))
      rw [List.append_assoc]
    refine ⟨_, rfl, log_ok os.t, _, rfl, log_ok os.b, ?_, ?_⟩
    · show ((Str.ofString (toString s.t)) ++ ("/" : Str) ++ (Str.ofString (toString s.b))).length ≤ _
      rw [e, mk_len]
      show (iT s.t ++ ([47] ++ iT s.b)).length ≤ _
      simp; omega
    · show Φ (.str ((Str.ofString (toString s.t)) ++ ("/" : Str) ++ (Str.ofString (toString s.b))))
      rw [e]; exact k
theorem law_number_w {a b : Int} (ha : Bn 200 a) (hb : Bn 200 b) (nb : b ≠ 0) (k : Φ (.str (mk (sT (shr a b))))) : p_law_number (.int a) (.int b) Φ Ψ := by
  have os : SOk 200 (shr a b) := (shr_ok ha hb nb).mono (by decide)
  refine ⟨?_⟩
  show p_law_share _ _ _ _
  refine law_share_w hb nb (by decide) ?_
  generalize shr a b = s at *
  have h1 := iT_len os.t
  have h2 := iT_len os.b
  unfold sT at k
  walk_at "sx"
  refine strD_w os.t ?_
  by_cases h : s.b = 1
  · rw [if_pos h] at k ⊢
    rw [s_none]
    refine addS (by simp; omega) ?_
    rw [List.append_nil]; exact k
  · rw [if_neg h] at k ⊢
    refine strD_w os.b ?_
    rw [s_slash]
    refine addS (by simp; omega) (addS (by simp; omega) ?_)
    exact k
theorem written_w (h : Ok 200 p) (k : Φ (.str (mk (pT p)))) : p_written p.d Φ Ψ := by
  have l1 := sT_len ((shr_ok h.x h.w h.nz).mono (show max 200 200 ≤ 200 by decide))
  have l2 := sT_len ((shr_ok h.y h.w h.nz).mono (show max 200 200 ≤ 200 by decide))
  refine ⟨?_⟩
  walk_at "sx"
  refine number_text_w h.x h.w h.nz ?_
  rw [s_comma]
  refine addS (by simp; omega) (number_text_w h.y h.w h.nz (addS (by simp; omega) ?_))
  rw [List.append_assoc]; exact k
theorem law_point_text_w (h : Ok 200 p) (k : Φ (.str (mk (pT p)))) : p_law_point_text p.d Φ Ψ := by
  have l1 := sT_len ((shr_ok h.x h.w h.nz).mono (show max 200 200 ≤ 200 by decide))
  have l2 := sT_len ((shr_ok h.y h.w h.nz).mono (show max 200 200 ≤ 200 by decide))
  refine ⟨?_⟩
  walk_at "sx"
  refine law_number_w h.x h.w h.nz ?_
  rw [s_comma]
  refine addS (by simp; omega) (law_number_w h.y h.w h.nz (addS (by simp; omega) ?_))
  rw [List.append_assoc]; exact k
theorem sum_le {α : Type} {f : α → Nat} {c : Nat} : ∀ {l : List α}, (∀ z ∈ l, f z ≤ c) → (l.map f).sum ≤ l.length * c
  | [], _ => by simp
  | z :: l, h => by
    rw [List.map_cons, List.sum_cons, List.length_cons, Nat.succ_mul]
    have := sum_le (l := l) fun y hy => h y (List.mem_cons_of_mem _ hy)
    have := h z List.mem_cons_self
    omega
theorem join_pts (hl : l.length ≤ 14) (ok : ∀ p ∈ l, Ok 200 p) (k : Φ (.str (mk (hT l)))) : joinD " " (.lst (l.map fun p => .str (mk (pT p)))) Φ := by
  refine ⟨l.map fun p => mk (pT p), by rw [List.map_map]; rfl, ?_, ?_⟩
  · rw [List.map_map, List.length_map]
    have := sum_le (l := l) (f := (fun z : Str => z.length) ∘ fun p => mk (pT p)) (c := 251) fun p hp => by
      show (mk (pT p)).length ≤ _
      rw [mk_len]; exact pT_len (ok p hp)
    have e : (" " : Str).length = 1 := by decide
    rw [e]
    omega
  · have e : Txt.join " " (l.map fun p => mk (pT p)) = mk (hT l) := ext_tl (by
      rw [join_tl (s := 32) (by rw [s_blank]), List.map_map]
      rfl)
    rw [e]; exact k
theorem heap_text_w (h : Hp n l) (hn : n ≤ 200) (hx : HL x l) (k : Φ (.str (mk (hT (ordL l))))) : p_heap_text x Φ Ψ := by
  have hle := h.le
  refine ⟨?_⟩
  walk_at "sx"
  refine look_heap1 h hx ?_
  simp only [mthS]
  refine in_order_w hx h.ok (by omega) (by omega) ?_
  walk_at "sx"
  refine ⟨by rw [List.length_map, ordL_len]; omega, lcL_mapT Pt.d (fun p => .str (mk (pT p))) (fun p hp K hK => written_w ((h.ok p (ordL_mem.mp hp)).mono hn) hK) ?_⟩
  rw [List.nil_append]
  exact join_pts (by rw [ordL_len]; omega) (fun p hp => (h.ok p (ordL_mem.mp hp)).mono hn) k
theorem law_join_w (hl : l.length ≤ 14) (ok : ∀ p ∈ l, Ok 200 p) (k : Φ (.str (mk (hT l)))) {mm : M} (hm : ∀ K : D → Prop, (∀ d, HL d l → K d) → mm K Ψ) : (mthS joinD (ret (.str " ")) (lcE (itE mm) (fun p8 k6 => (c1 p_law_point_text (ret p8)) (fun y7 => k6 (some y7)) bot))) Φ Ψ := by
  simp only [mthS, ret, lcE, itE]
  refine hm _ fun d hd => ?_
  rw [hd.walk]
  refine ⟨by rw [List.length_map]; omega, lcL_mapT Pt.d (fun p => .str (mk (pT p))) (fun p hp K hK => law_point_text_w (ok p hp) hK) ?_⟩
  rw [List.nil_append]
  exact join_pts hl ok k
theorem motion_text_w (h : MOk n mo) (hn : n ≤ 200) (k : Φ (.str (mk (mT mo)))) : p_motion_text mo.d Φ Ψ := by
  have l1 := pT_len (h.t.mono hn)
  have l2 := pT_len (h.s.mono hn)
  refine ⟨?_⟩
  walk_at "sx"
  refine look_motion_w h (by omega) ?_
  refine written_w (h.t.mono hn) (written_w (h.s.mono hn) ?_)
  have fin : ∀ ps : List Sg, mT mo = joinL [32] ps → (ps.map (·.length)).sum + ps.length ≤ 100000 → joinD " " (.lst (ps.map fun z => .str (mk z))) Φ := fun ps e hz => by
    refine ⟨ps.map mk, by rw [List.map_map]; rfl, ?_, ?_⟩
    · rw [List.map_map, List.length_map, show (" " : Str).length = 1 by decide, Nat.mul_one]
      have e2 : ((fun z : Str => z.length) ∘ mk) = fun z : Sg => z.length := funext fun z => mk_len z
      rw [e2]; exact hz
    · have e2 : Txt.join " " (ps.map mk) = mk (mT mo) := ext_tl (by
        rw [join_tl (s := 32) (by rw [s_blank]), List.map_map, e]
        show joinL [32] (ps.map (tl ∘ mk)) = joinL [32] ps
        rw [show (tl ∘ mk) = (id : Sg → Sg) from rfl, List.map_id])
      rw [e2]; exact k
  unfold mT at fin
  rcases h.f with e | e
  · rw [e] at fin ⊢
    rw [if_neg (by decide)] at fin ⊢
    refine ⟨by simp, ?_⟩
    exact fin [pT mo.t, pT mo.s] rfl (by simp; omega)
  · rw [e] at fin ⊢
    rw [if_pos rfl] at fin ⊢
    refine ⟨by simp, ?_⟩
    rw [s_flip]
    exact fin [pT mo.t, pT mo.s, flipS] rfl (by simp [flipS]; omega)
theorem law_motion_text_w (h : MOk n mo) (hn : n ≤ 200) (k : Φ (.str (mk (mT mo)))) : p_law_motion_text mo.d Φ Ψ := by
  have l1 := pT_len (h.t.mono hn)
  have l2 := pT_len (h.s.mono hn)
  refine ⟨?_⟩
  walk_at "sx"
  refine law_point_text_w (h.t.mono hn) ?_
  rw [s_blank]
  refine addS (by simp; omega) (law_point_text_w (h.s.mono hn) (addS (by simp; omega) ?_))
  unfold mT at k
  rcases h.f with e | e
  · rw [e] at k ⊢
    rw [if_neg (by decide)] at k ⊢
    rw [s_none]
    refine addS (by simp; omega) ?_
    rw [List.append_nil, List.append_assoc]
    exact k
  · rw [e] at k ⊢
    rw [if_pos rfl] at k ⊢
    rw [s_bflip]
    refine addS (by simp [flipS]; omega) ?_
    rw [List.append_assoc, List.append_assoc]
    exact k
end
end G
namespace G
open PySem PySem.Spec L2 TL PySem.NumText
local macro_rules | `(tactic| walk_at "sx") => `(tactic| try simp only [bin, una, lcE, cmpV, cmpT, tv, bv_b, notT, andT, orT, notV, andV, orV, ifE, nilA, consA, tupE, lstE, c1, c2, c3, c4, itE, seqD_l, seqD_t, walkD_l, walkD_t, walkD_c, ret, addD_i, subD_i, mulD_i, negD_i, fdivD_i, modD_i, absD_i, maxD_i, lnD_l, lnD_t, ltB_i, leB_i, gtB_i, geB_i, rng1, rng2, zipM, zip2_l, zip2_t, chnV, chnT, un2_t, un2_l, un3_t, un3_l, join, isDat_d,
  ixP0, ixP1, ixP2, ixS0, ixS1, ixM0, ixM1, ixM2, un3M, un3P, un2S, eqB_i, neB_i, eqB_p, neB_p, eqB_s, neB_s, eqB_m, neB_m, ite_dec, ite_ndec, ite_tt, ite_ff, ite_nt, ite_nf, isNB, notNB, isVB_b, isntVB_b, ixT30, ixT31, ixT32, ixT20, ixT21, if_true, if_false])
local macro_rules | `(tactic| walk_at "sy") => `(tactic| try simp only [bin, una, lcE, cmpV, cmpT, tv, bv_b, nilA, consA, tupE, lstE, c1, c2, c3, c4, itE, seqD_l, seqD_t, walkD_l, walkD_t, walkD_c, ret, addD_i, subD_i, mulD_i, negD_i, fdivD_i, modD_i, absD_i, maxD_i, lnD_l, lnD_t, ltB_i, leB_i, gtB_i, geB_i, rng1, rng2, zipM, zip2_l, zip2_t, un2_t, un2_l, un3_t, un3_l, isDat_d,
  ixP0, ixP1, ixP2, ixS0, ixS1, ixM0, ixM1, ixM2, un3M, un3P, un2S, eqB_i, neB_i, eqB_p, neB_p, eqB_s, neB_s, eqB_m, neB_m, ite_dec, ite_ndec, ite_tt, ite_ff, ite_nt, ite_nf, isNB, notNB, isVB_b, isntVB_b, ixT30, ixT31, ixT32, ixT20, ixT21, if_true, if_false])
local macro_rules | `(tactic| walk_at "bn") => `(tactic| first
  | assumption
  | (apply Bn.mul <;> walk_at "bn")
  | (apply Bn.add <;> walk_at "bn")
  | (apply Bn.sub <;> walk_at "bn")
  | (apply Bn.neg <;> walk_at "bn")
  | (apply Bn.abs <;> walk_at "bn")
  | exact (show Bn 64 _ by unfold Bn; decide))
local macro_rules | `(tactic| walk_at "cm") => `(tactic| (apply Bn.cm; (focus walk_at "bn"); (focus walk_at "bn"); omega))
local macro_rules | `(tactic| walk_at "nz") => `(tactic| first
  | assumption
  | omega
  | (apply mulnz <;> walk_at "nz"))
local macro_rules | `(tactic| walk_at "mok") => `(tactic| first
  | assumption
  | (apply joined_ok <;> walk_at "mok")
  | (apply backOf_ok <;> walk_at "mok")
  | exact still_ok)
local macro_rules | `(tactic| walk_at "ok") => `(tactic| first
  | assumption
  | (apply plus_ok <;> walk_at "ok")
  | (apply minus_ok <;> walk_at "ok")
  | (apply times_ok <;> walk_at "ok")
  | (apply flipped_ok <;> walk_at "ok")
  | (apply ledBy_ok <;> first | walk_at "ok" | walk_at "mok")
  | solve_by_elim)
local macro_rules | `(tactic| walk_at "norm") => `(tactic| first
  | assumption
  | (apply flipped_norm <;> walk_at "norm")
  | (apply plus_norm' <;> walk_at "ok")
  | (apply minus_norm' <;> walk_at "ok")
  | (apply times_norm' <;> walk_at "ok")
  | (apply ledBy_norm <;> first | walk_at "ok" | walk_at "mok")
  | solve_by_elim)
local macro_rules | `(tactic| walk_at "shp") => `(tactic| first
  | rfl
  | assumption
  | exact shp_pt _ _
  | exact shp_sh _ _
  | exact shp_mo _ _
  | exact shpA_pt1 _ _
  | exact shpA_pt2 _ _ _
  | exact shp_pts
  | exact (show D.shp 8 _ = true from rfl)
  | solve_by_elim)
local macro_rules | `(tactic| walk_at "pts") => `(tactic| first
  | (apply pts1 <;> walk_at "norm")
  | (apply pts2 <;> walk_at "norm"))
local macro_rules | `(tactic| walk_at "ismo") => `(tactic| (apply isMo_yes <;> walk_at "mok"))
local macro_rules | `(tactic| walk_at "one") => `(tactic| assumption)
local macro_rules | `(tactic| walk_at "db") => `(tactic| first
  | assumption
  | (apply MOk.db <;> walk_at "mok")
  | (apply Ok.db <;> walk_at "ok")
  | solve_by_elim)
local macro_rules | `(tactic| walk_at "nopq") => `(tactic| first | assumption | solve_by_elim | (intro n h; cases h))
local macro_rules | `(tactic| walk_at "sz") => `(tactic| first | omega | assumption | (simp; done) | (simp_all <;> omega))
local macro_rules | `(tactic| walk_at "sok") => `(tactic| first
  | assumption
  | (apply plusSh_ok <;> walk_at "sok")
  | (apply gap_ok <;> walk_at "ok")
  | (apply size_ok <;> walk_at "ok")
  | exact nought_ok (n := 1) (by decide))
local macro_rules | `(tactic| walk_at "oks") => `(tactic| first
  | assumption
  | solve_by_elim)
local macro_rules | `(tactic| walk_at "ne") => `(tactic| first
  | assumption
  | (simp; done))
local macro_rules | `(tactic| walk_at "prs") => `(tactic| (apply prs <;> assumption))
local macro_rules | `(tactic| walk_at "norms") => `(tactic| first | assumption | solve_by_elim)
local macro_rules | `(tactic| walk_at "soks") => `(tactic| first | assumption | solve_by_elim)
local macro_rules | `(tactic| walk_at "bn") => `(tactic| first
  | assumption
  | (apply Bn.mul <;> walk_at "bn")
  | (apply Bn.add <;> walk_at "bn")
  | (apply Bn.sub <;> walk_at "bn")
  | (apply Bn.neg <;> walk_at "bn")
  | (apply Bn.abs <;> walk_at "bn")
  | exact (show Bn 64 _ by unfold Bn; decide)
  | exact (show Bn 64 _ by unfold Bn; omega))
local macro_rules | `(tactic| walk_at "pok") => `(tactic| first | assumption | solve_by_elim)
local macro_rules | `(tactic| walk_at "cd") => `(tactic| (apply Bn.cd; (focus walk_at "bn"); (first | assumption | omega); omega))
local macro_rules | `(tactic| walk_at "sz") => `(tactic| try simp only [c1, c2, c3, c4, ret, tupE, nilA, consA, lstE, itE, walkD_l, walkD_t, walkD_c, un2_t, un2_l, un3_t, un3_l, un3M, un3P, un2S])
section
variable {Φ : D → Prop} {Ψ : Str → Prop} {Θ : Bool → Prop} {n m : Nat} {p q : Pt} {x y d : D} {mo : Mo} {l : List Pt} {z : Str}
/-! ### texts read -/
structure Zt (n : Nat) (l : Sg) : Prop where
  len : l.length ≤ n
  ok : ∀ c ∈ l, c < 1114112
theorem Zt.str (h : Zt n (tl z)) : PyData.strOk z = true := by
  unfold PyData.strOk
  rw [← Array.all_toList, List.all_eq_true]
  exact fun c hc => decide_eq_true (h.ok c hc)
theorem Zt.sub {l r : Sg} (h : Zt n l) (h1 : r.length ≤ l.length) (h2 : ∀ c ∈ r, c ∈ l) : Zt n r := ⟨Nat.le_trans h1 h.len, fun c hc => h.ok c (h2 c hc)⟩
theorem in_join {s : Nat} : ∀ {ps : List Sg} {p : Sg}, p ∈ ps → p.length ≤ (joinL [s] ps).length ∧ ∀ c ∈ p, c ∈ joinL [s] ps
  | [], _, h => by cases h
  | [q], p, h => by
    rcases List.mem_singleton.mp h with rfl
    exact ⟨Nat.le_refl _, fun c hc => hc⟩
  | q :: r :: ps, p, h => by
    have e : joinL [s] (q :: r :: ps) = q ++ ([s] ++ joinL [s] (r :: ps)) := rfl
    rw [e]
    rcases List.mem_cons.mp h with rfl | h
    · exact ⟨by simp, fun c hc => List.mem_append_left _ hc⟩
    · have ih := in_join (s := s) h
      refine ⟨?_, fun c hc => List.mem_append_right _ (List.mem_append_right _ (ih.2 c hc))⟩
      simp only [List.length_append]
      have := ih.1
      omega
theorem Zt.part {l : Sg} {s : Nat} {p : Sg} (h : Zt n l) (hp : p ∈ spl [s] 0 [] l) : Zt n p := by
  have := in_join (s := s) hp
  rw [join_spl, List.nil_append] at this
  exact h.sub this.1 this.2
theorem len_join {s : Nat} : ∀ {ps : List Sg}, ps.length ≤ (joinL [s] ps).length + 1
  | [] => by simp
  | [q] => by simp
  | q :: r :: ps => by
    have e : joinL [s] (q :: r :: ps) = q ++ ([s] ++ joinL [s] (r :: ps)) := rfl
    have ih := len_join (s := s) (ps := r :: ps)
    rw [e]
    simp only [List.length_append, List.length_cons, List.length_nil] at ih ⊢
    omega
theorem str_iff {a : Str} {b : Sg} : decide (a = mk b) = decide (tl a = b) := by
  by_cases h : tl a = b
  · rw [decide_eq_true h, decide_eq_true (by rw [← h, mk_tl])]
  · rw [decide_eq_false h, decide_eq_false fun e => h (by rw [e])]
theorem eqS {b : Sg} (hz : Zt n (tl z)) (hb : ∀ c ∈ b, c < 1114112) (k : Θ (decide (tl z = b))) : eqB (.str z) (.str (mk b)) Θ := ⟨⟨hz.str, Zt.str (z := mk b) (n := b.length) ⟨Nat.le_refl _, hb⟩⟩, by
  have e : deq (.str z) (.str (mk b)) = decide (z = mk b) := by
    show PyData.eqv (.str z) (.str (mk b)) = _
    unfold PyData.eqv
    by_cases h : z = mk b
    · rw [decide_eq_true h]; simpa using h
    · rw [decide_eq_false h]; simpa using h
  rw [e, str_iff]; exact k⟩
theorem neS {b : Sg} (hz : Zt n (tl z)) (hb : ∀ c ∈ b, c < 1114112) (k : Θ (!decide (tl z = b))) : neB (.str z) (.str (mk b)) Θ := by
  have h := eqS (Θ := fun t => Θ (!t)) hz hb k
  exact h
theorem figs_w {f : Sg} {fz : Str} (e : tl fz = f) (hl : f.length ≤ 100000) (k : Φ (.bl (Dg f))) : (una allD (lcE (itC (ret (.str fz))) (fun one5 k3 => (cmpV inSB (ret one5) (ret (.str "0123456789"))) (fun y4 => k3 (some y4)) bot))) Φ Ψ := by
  simp only [una, lcE, itC, ret]
  refine ⟨by unfold sgn; rw [List.length_map]; show (tl fz).length ≤ _; rw [e]; exact hl, ?_⟩
  unfold sgn
  refine lcL_mapT (fun c : Nat => D.str ⟨#[c]⟩) (fun c => D.bl (decide (48 ≤ c ∧ c ≤ 57))) (fun c hc K hK => ?_) ?_
  · simp only [cmpV, ret]
    refine ⟨c, rfl, ?_⟩
    have e10 : ("0123456789" : Str).cps.toList = [48, 49, 50, 51, 52, 53, 54, 55, 56, 57] := by
      show tl (Str.ofString "0123456789") = _
      rw [tl_ofString]; rfl
    rw [e10]
    have : decide (c ∈ [48, 49, 50, 51, 52, 53, 54, 55, 56, 57]) = decide (48 ≤ c ∧ c ≤ 57) := by
      simp only [List.mem_cons, List.not_mem_nil, or_false]
      exact decide_eq_decide.mpr (by omega)
    rw [this]; exact hK
  · rw [List.nil_append]
    show allD (.lst ((tl fz).map _)) Φ
    rw [e]
    exact ⟨f.map fun c => decide (48 ≤ c ∧ c ≤ 57), by rw [List.map_map]; rfl, by rw [List.all_map]; exact k⟩
theorem int_back {l : Sg} {i : Int} (h : wholeP l = some i) (hz : tl z = l) (hl : l.length ≤ 600) : PySem.intText? z = some i := by
  obtain ⟨e, lt⟩ := whole_back h
  have ne := numL_ne i.natAbs
  have dg := numL_digits i.natAbs
  have hv := numL_val i.natAbs
  have hl2 : z.length ≤ 4300 := by rw [len_tl, hz]; omega
  unfold iT at e
  by_cases h0 : i < 0
  · rw [if_pos h0] at e
    rw [intText_neg (hz.trans e.symm) dg ne hl2, hv]
    congr 1; omega
  · rw [if_neg h0] at e
    have hx : z.cps.toList = numL i.natAbs := hz.trans e.symm
    rw [intText_digits (by rw [hx]; exact dg) (by rw [hx]; exact ne) hl2, hx, hv]
    congr 1; omega
theorem whole_len {l : Sg} {i : Int} (h : wholeP l = some i) : l.length ≤ 62 := by
  obtain ⟨e, lt⟩ := whole_back h
  rw [← e]
  exact iT_len ((bn_30 lt).mono (by decide))
theorem or_w {a b : MB} {P Q : Prop} (ka : Bool) (ha : ∀ Θ : Bool → Prop, Θ ka → a Θ Ψ) (h1 : ka = true → P) (h2 : ka = false → b (fun t => if t = true then P else Q) Ψ) : orT a b (fun t => if t = true then P else Q) Ψ := ha _ (by
  cases ka
  · simpa using h2 rfl
  · simpa using h1 rfl)
theorem and_w {a b : MB} {P Q : Prop} (ka : Bool) (ha : ∀ Θ : Bool → Prop, Θ ka → a Θ Ψ) (h1 : ka = true → b (fun t => if t = true then P else Q) Ψ) (h2 : ka = false → Q) : andT a b (fun t => if t = true then P else Q) Ψ := ha _ (by
  cases ka
  · simpa using h2 rfl
  · simpa using h1 rfl)
theorem whole_in_w (hz : Zt n (tl z)) (hn : n ≤ 90000) (k1 : ∀ i, wholeP (tl z) = some i → Φ (.int i)) (k2 : wholeP (tl z) = none → Ψ "BadText") : p_whole_in (.str z) Φ Ψ := by
  have hl : z.length ≤ 100000 := by rw [len_tl]; have := hz.len; omega
  have h1 : Zt n (tl (Txt.slice z none (some 1))) := by rw [slice1_tl]; exact hz.sub (by rw [List.length_take]; omega) fun c hc => List.mem_of_mem_take hc
  have h2 : Zt n (tl (Txt.slice z (some 1) none)) := by rw [slice2_tl]; exact hz.sub (by rw [List.length_drop]; omega) fun c hc => List.mem_of_mem_drop hc
  have main : ∀ fz : Str, Zt n (tl fz) → tl fz = (if (tl z).head? = some 45 then (tl z).tail else tl z) → ((orT (cmpT eqB (ret (.str fz)) (ret (.str ""))) (orT (cmpT gtB (una lnD (ret (.str fz))) (ret (.int 30))) (notT (tv (una allD (lcE (itC (ret (.str fz))) (fun one5 k3 => (cmpV inSB (ret one5) (ret (.str "0123456789"))) (fun y4 => k3 (some y4)) bot))))))) (fun b => if b = true then (Ψ "BadText") else ((andT (cmpT eqB (bin ixSD (ret (.str fz)) (ret (.int 0))) (ret (.str "0"))) (cmpT neB (ret (.str z)) (ret (.str "0")))) (fun b => if b = true then (Ψ "BadText") else ((una intD (ret (.str z))) Φ Ψ)) Ψ)) Ψ) := fun fz hf ef => by
    have lf : fz.length ≤ 100000 := by rw [len_tl]; have := hf.len; omega
    have lfe : fz.length = (tl fz).length := len_tl fz
    have ew : wholeP (tl z) = (if tl fz = [] ∨ 30 < (tl fz).length ∨ Dg (tl fz) = false then none else if (tl fz).head? = some 48 ∧ tl z ≠ [48] then none else some (if (tl z).head? = some 45 then -(digitsVal (tl fz) : Int) else (digitsVal (tl fz) : Int))) := by
      unfold wholeP; rw [ef]
    refine or_w (decide (tl fz = [])) (fun Θ hΘ => by rw [s_none]; exact eqS hf (by simp) hΘ) (fun a => k2 (by rw [ew, if_pos (.inl (of_decide_eq_true a))])) fun a1 => ?_
    have a1 := of_decide_eq_false a1
    refine or_w (decide (30 < (tl fz).length)) (fun Θ hΘ => ⟨lf, by
      show gtB (.int fz.length) (.int 30) Θ
      rw [gtB_i]
      rw [show decide ((30 : Int) < (fz.length : Int)) = decide (30 < (tl fz).length) from decide_eq_decide.mpr (by omega)]
      exact hΘ⟩) (fun a => k2 (by rw [ew, if_pos (.inr (.inl (of_decide_eq_true a)))])) fun a2 => ?_
    have a2 := of_decide_eq_false a2
    refine if_of (!Dg (tl fz)) (fun Θ hΘ => ?_) (fun a => k2 (by rw [ew, if_pos (.inr (.inr (by simpa using a)))])) fun a3 => ?_
    · exact figs_w (Ψ := Ψ) (Φ := fun x => bv x fun k => Θ (!k)) rfl (by have := hf.len; omega) hΘ
    have a3 : Dg (tl fz) = true := by simpa using a3
    have a4 : ¬ (tl fz = [] ∨ 30 < (tl fz).length ∨ Dg (tl fz) = false) := by
      rintro (t | t | t)
      · exact a1 t
      · exact a2 t
      · rw [a3] at t; cases t
    rw [if_neg a4] at ew
    obtain ⟨c, r, ec⟩ := List.exists_cons_of_ne_nil a1
    have s0 : ("0" : Str) = mk [48] := lit_mk rfl
    refine and_w (decide (c = 48)) (fun Θ hΘ => ?_) (fun a => ?_) fun a => ?_
    · show ixSD (.str fz) (.int 0) fun x => eqB x (.str "0") Θ
      refine ⟨lf, c, ?_, ?_⟩
      · show atI (tl fz) 0 = some c
        rw [ec]
        exact atI_nat (j := 0) rfl
      · rw [s0]
        refine eqS (z := ⟨#[c]⟩) (n := 1) ⟨by simp, fun b hb => ?_⟩ (by simp) ?_
        · have : b = c := by simpa using hb
          subst this
          exact hf.ok b (by rw [ec]; exact List.mem_cons_self)
        · rw [show decide (tl (⟨#[c]⟩ : Str) = [48]) = decide (c = 48) from decide_eq_decide.mpr (by show [c] = [48] ↔ _; simp)]
          exact hΘ
    · have a := of_decide_eq_true a
      refine if_of (!decide (tl z = [48])) (fun Θ hΘ => by rw [s0]; exact neS hz (by simp) hΘ) (fun b => k2 ?_) fun b => ?_
      · rw [ew, if_pos ⟨by rw [ec, a]; rfl, by simpa using b⟩]
      · have b : tl z = [48] := by simpa using b
        rw [if_neg (fun t => t.2 b)] at ew
        have h62 := whole_len ew
        exact ⟨_, int_back ew rfl (by omega), by rw [len_tl]; omega, k1 _ ew⟩
    · have a := of_decide_eq_false a
      rw [if_neg (fun t => a (by have := t.1; rw [ec] at this; simpa using this))] at ew
      have h62 := whole_len ew
      exact ⟨_, int_back ew rfl (by omega), by rw [len_tl]; omega, k1 _ ew⟩
  refine ⟨?_⟩
  show slD (.str z) none (some 1) fun x => eqB x (.str "-") fun k => if k = true then _ else _
  refine ⟨hl, ?_⟩
  rw [show ("-" : Str) = mk [45] from lit_mk rfl]
  refine eqS h1 (by simp) ?_
  rw [slice1_tl]
  by_cases e : (tl z).head? = some 45
  · have e2 : (tl z).take 1 = [45] := by
      cases q : tl z with
      | nil => rw [q] at e; cases e
      | cons c r => rw [q] at e; simp at e; subst e; rfl
    rw [decide_eq_true e2, if_pos rfl]
    refine ⟨hl, main _ h2 ?_⟩
    rw [slice2_tl, if_pos e, List.drop_one]
  · have e2 : ¬ (tl z).take 1 = [45] := fun t => e (by
      cases q : tl z with
      | nil => rw [q] at t; cases t
      | cons c r => rw [q] at t; simp at t; rw [t]; rfl)
    rw [decide_eq_false e2, if_neg (by decide)]
    exact main _ hz (by rw [if_neg e])
theorem mthS_c {f : Str → D → (D → Prop) → Prop} {z : Str} {y : D} {K : D → Prop} : mthS f (ret (.str z)) (ret y) K Ψ = f z y K := rfl
theorem c1_ix {f : D → M} {x y : D} {K : D → Prop} : c1 f (bin ixD (ret x) (ret y)) K Ψ = ixD x y fun z => f z K Ψ := rfl
theorem ix_at {ds : List D} {j : Nat} {v : D} {K : D → Prop} (h : ds[j]? = some v) (k : K v) : ixD (.lst ds) (.int (j : Int)) K := by
  have hj := (List.getElem?_eq_some_iff.mp h).1
  refine ixL_in (by omega) (by omega) ?_
  have e := (List.getElem?_eq_some_iff.mp h).2
  have e2 : ((j : Nat) : Int).toNat = j := by omega
  simp only [e2]
  rw [e]; exact k
theorem split_w {s : Nat} {b : Str} (hb : b = mk [s]) (hs : s < 256) (hz : Zt n (tl z)) (hn : n ≤ 90000) (k : ∀ ps : List Str, ps.map tl = spl [s] 0 [] (tl z) → ps ≠ [] → ps.length ≤ n + 1 → (∀ p ∈ ps, Zt n (tl p)) → Φ (.lst (ps.map D.str))) : splitD z (.str b) Φ := by
  subst hb
  have e := split_tl (x := z) (y := mk [s]) (s := s) rfl hs
  have hp : ∀ p ∈ Txt.split z (mk [s]), Zt n (tl p) := fun p hp => hz.part (s := s) (by rw [← e]; exact List.mem_map.mpr ⟨p, hp, rfl⟩)
  refine ⟨rfl, by rw [len_tl]; have := hz.len; omega, k _ e (fun t => ?_) ?_ hp⟩
  · rw [t] at e
    exact spl_ne _ _ _ _ e.symm
  · have := len_join (s := s) (ps := spl [s] 0 [] (tl z))
    rw [join_spl, List.nil_append, ← e, List.length_map] at this
    have := hz.len
    omega
theorem neB_sh {t w : Int} {s : Sh} : neB s.d (.tup [.int t, .int w]) Θ = Θ (!decide (s = ⟨t, w⟩)) := neB_s (p := s) (q := ⟨t, w⟩)
theorem share_in_w (hz : Zt n (tl z)) (hn : n ≤ 90000) (k1 : ∀ s, shareP (tl z) = some s → Φ s.d) (k2 : shareP (tl z) = none → Ψ "BadText") : p_share_in (.str z) Φ Ψ := by
  refine ⟨?_⟩
  rw [mthS_c]
  refine split_w s_slash (by decide) hz hn fun ps e ne hl hp => ?_
  unfold shareP at k1 k2
  rw [← e] at k1 k2
  have ix0 : ∀ (ds : List D) (v : D) (K : D → Prop), ds[0]? = some v → K v → ixD (.lst ds) (.int 0) K := fun ds v K h k => ix_at (j := 0) h k
  have ix1 : ∀ (ds : List D) (v : D) (K : D → Prop), ds[1]? = some v → K v → ixD (.lst ds) (.int 1) K := fun ds v K h k => ix_at (j := 1) h k
  cases ps with
  | nil => exact absurd rfl ne
  | cons a r =>
    have ha := hp a List.mem_cons_self
    cases r with
    | nil =>
      refine if_no (fun Θ hΘ => ?_) ?_
      · show gtB (.int ((1 : Nat) : Int)) (.int 2) Θ
        rw [gtB_i]; exact hΘ
      rw [c1_ix]
      refine ix0 _ _ _ rfl (whole_in_w ha hn (fun t ht => ?_) fun hno => k2 ?_)
      · show eqB (.int ((1 : Nat) : Int)) (.int 2) fun k => if k = true then _ else _
        rw [eqB_i, if_neg (by decide)]
        refine or_w false (fun Θ hΘ => ?_) (fun z => nomatch z) fun _ => ?_
        · show eqB (.int ((1 : Nat) : Int)) (.int 2) fun k => if k = true then _ else _
          rw [eqB_i, if_neg (by decide)]; exact hΘ
        refine if_no (fun Θ hΘ => ?_) (k1 ⟨t, 1⟩ ?_)
        · show p_share _ _ _ _
          refine share_w (n3 := 2) (show Bn 2 1 by unfold Bn; decide) (by decide) (by decide) ?_
          show neB (shr t 1).d (.tup [.int t, .int 1]) Θ
          rw [neB_sh, shr_one, decide_eq_true rfl]; exact hΘ
        · show (wholeP (tl a)).map _ = _
          rw [ht]; rfl
      · show (wholeP (tl a)).map _ = _
        rw [hno]; rfl
    | cons b r =>
      have hb := hp b (List.mem_cons_of_mem _ List.mem_cons_self)
      cases r with
      | nil =>
        refine if_no (fun Θ hΘ => ?_) ?_
        · show gtB (.int ((2 : Nat) : Int)) (.int 2) Θ
          rw [gtB_i]; exact hΘ
        have eq : ∀ q : Option Sh, shareQ [tl a, tl b] = q → shareQ (List.map tl [a, b]) = q := fun q h => h
        rw [c1_ix]
        refine ix0 _ _ _ rfl (whole_in_w ha hn (fun t ht => ?_) fun hno => k2 ?_)
        · show eqB (.int ((2 : Nat) : Int)) (.int 2) fun k => if k = true then _ else _
          rw [eqB_i, if_pos (by decide)]
          rw [c1_ix]
          refine ix1 _ _ _ rfl (whole_in_w hb hn (fun w hw => ?_) fun hno => k2 ?_)
          · have sq : shareQ (List.map tl [a, b]) = if w < 2 ∨ shr t w ≠ ⟨t, w⟩ then none else some ⟨t, w⟩ := by
              show (wholeP (tl a)).bind _ = _
              rw [ht]
              show (wholeP (tl b)).bind _ = _
              rw [hw]; rfl
            rw [sq] at k1 k2
            refine or_w (decide (w < 2)) (fun Θ hΘ => ?_) (fun c => k2 (by rw [if_pos (.inl (of_decide_eq_true c))])) fun c => ?_
            · show eqB (.int ((2 : Nat) : Int)) (.int 2) fun k => if k = true then _ else _
              rw [eqB_i, if_pos (by decide)]
              show ltB (.int w) (.int 2) Θ
              exact hΘ
            have c := of_decide_eq_false c
            have bw : Bn 100 w := bn_30 (whole_back hw).2
            refine if_of (!decide (shr t w = ⟨t, w⟩)) (fun Θ hΘ => ?_) (fun c2 => k2 (by rw [if_pos (.inr (by simpa using c2))])) fun c2 => k1 ⟨t, w⟩ ?_
            · show p_share _ _ _ _
              refine share_w bw (by omega) (by decide) ?_
              show neB (shr t w).d (.tup [.int t, .int w]) Θ
              rw [neB_sh]; exact hΘ
            · rw [if_neg]
              rintro (h | h)
              · exact c h
              · exact h (by simpa using c2)
          · show (wholeP (tl a)).bind _ = _
            rw [ht]
            show (wholeP (tl b)).bind _ = _
            rw [hno]; rfl
        · show (wholeP (tl a)).bind _ = _
          rw [hno]; rfl
      | cons c r =>
        refine if_yes (fun Θ hΘ => ?_) (k2 rfl)
        show gtB (.int (((a :: b :: c :: r).map D.str).length : Int)) (.int 2) Θ
        rw [gtB_i, decide_eq_true (by simp; omega)]; exact hΘ
theorem point_in_w (hz : Zt n (tl z)) (hn : n ≤ 90000) (k1 : ∀ p, pointP (tl z) = some p → Φ p.d) (k2 : pointP (tl z) = none → Ψ "BadText") : p_point_in (.str z) Φ Ψ := by
  refine ⟨?_⟩
  rw [mthS_c]
  refine split_w s_comma (by decide) hz hn fun ps e ne hl hp => ?_
  unfold pointP at k1 k2
  rw [← e] at k1 k2
  have bad : ps.length ≠ 2 → Ψ "BadText" := fun h => k2 (by
    cases ps with
    | nil => rfl
    | cons a r => cases r with
      | nil => rfl
      | cons b r => cases r with
        | nil => exact absurd rfl h
        | cons c r => rfl)
  refine if_of (!decide (ps.length = 2)) (fun Θ hΘ => ?_) (fun c => bad (by simpa using c)) fun c => ?_
  · show neB (.int ((ps.map D.str).length : Int)) (.int 2) Θ
    rw [neB_i, List.length_map]
    rw [show decide ((ps.length : Int) = 2) = decide (ps.length = 2) from decide_eq_decide.mpr (by omega)]
    exact hΘ
  have c : ps.length = 2 := by simpa using c
  match ps, c, hp, k1, k2 with
  | [a, b], _, hp, k1, k2 =>
    have ha := hp a List.mem_cons_self
    have hb := hp b (List.mem_cons_of_mem _ List.mem_cons_self)
    rw [c1_ix]
    refine ix_at (j := 0) rfl (share_in_w ha hn (fun x hx => ?_) fun hno => k2 ?_)
    · rw [c1_ix]
      refine ix_at (j := 1) rfl (share_in_w hb hn (fun y hy => ?_) fun hno => k2 ?_)
      · obtain ⟨_, x2, x3, x4⟩ := share_back hx
        obtain ⟨_, y2, y3, y4⟩ := share_back hy
        have b1 := bn_30 x3; have b2 := bn_30 x4; have b3 := bn_30 y3; have b4 := bn_30 y4
        have bx : x.b ≠ 0 := by have := x2.1; omega
        have by' : y.b ≠ 0 := by have := y2.1; omega
        walk_at "sx"
        refine ⟨by walk_at "cm", by walk_at "cm", by walk_at "cm", lowest_w (b2.mul b4) (mulnz bx by') (by decide) (k1 _ ?_)⟩
        show (shareP (tl a)).bind _ = _
        rw [hx]
        show (shareP (tl b)).bind _ = _
        rw [hy]; rfl
      · show (shareP (tl a)).bind _ = _
        rw [hx]
        show (shareP (tl b)).bind _ = _
        rw [hno]; rfl
    · show (shareP (tl a)).bind _ = _
      rw [hno]; rfl
end
end G
namespace G
open PySem PySem.Spec L2 TL PySem.NumText
local macro_rules | `(tactic| walk_at "sx") => `(tactic| try simp only [bin, una, lcE, cmpV, cmpT, tv, bv_b, notT, andT, orT, notV, andV, orV, ifE, nilA, consA, tupE, lstE, c1, c2, c3, c4, itE, seqD_l, seqD_t, walkD_l, walkD_t, walkD_c, ret, addD_i, subD_i, mulD_i, negD_i, fdivD_i, modD_i, absD_i, maxD_i, lnD_l, lnD_t, ltB_i, leB_i, gtB_i, geB_i, rng1, rng2, zipM, zip2_l, zip2_t, chnV, chnT, un2_t, un2_l, un3_t, un3_l, join, isDat_d,
  ixP0, ixP1, ixP2, ixS0, ixS1, ixM0, ixM1, ixM2, un3M, un3P, un2S, eqB_i, neB_i, eqB_p, neB_p, eqB_s, neB_s, eqB_m, neB_m, ite_dec, ite_ndec, ite_tt, ite_ff, ite_nt, ite_nf, isNB, notNB, isVB_b, isntVB_b, ixT30, ixT31, ixT32, ixT20, ixT21, if_true, if_false])
local macro_rules | `(tactic| walk_at "sy") => `(tactic| try simp only [bin, una, lcE, cmpV, cmpT, tv, bv_b, nilA, consA, tupE, lstE, c1, c2, c3, c4, itE, seqD_l, seqD_t, walkD_l, walkD_t, walkD_c, ret, addD_i, subD_i, mulD_i, negD_i, fdivD_i, modD_i, absD_i, maxD_i, lnD_l, lnD_t, ltB_i, leB_i, gtB_i, geB_i, rng1, rng2, zipM, zip2_l, zip2_t, un2_t, un2_l, un3_t, un3_l, isDat_d,
  ixP0, ixP1, ixP2, ixS0, ixS1, ixM0, ixM1, ixM2, un3M, un3P, un2S, eqB_i, neB_i, eqB_p, neB_p, eqB_s, neB_s, eqB_m, neB_m, ite_dec, ite_ndec, ite_tt, ite_ff, ite_nt, ite_nf, isNB, notNB, isVB_b, isntVB_b, ixT30, ixT31, ixT32, ixT20, ixT21, if_true, if_false])
local macro_rules | `(tactic| walk_at "bn") => `(tactic| first
  | assumption
  | (apply Bn.mul <;> walk_at "bn")
  | (apply Bn.add <;> walk_at "bn")
  | (apply Bn.sub <;> walk_at "bn")
  | (apply Bn.neg <;> walk_at "bn")
  | (apply Bn.abs <;> walk_at "bn")
  | exact (show Bn 64 _ by unfold Bn; decide))
local macro_rules | `(tactic| walk_at "cm") => `(tactic| (apply Bn.cm; (focus walk_at "bn"); (focus walk_at "bn"); omega))
local macro_rules | `(tactic| walk_at "nz") => `(tactic| first
  | assumption
  | omega
  | (apply mulnz <;> walk_at "nz"))
local macro_rules | `(tactic| walk_at "mok") => `(tactic| first
  | assumption
  | (apply joined_ok <;> walk_at "mok")
  | (apply backOf_ok <;> walk_at "mok")
  | exact still_ok)
local macro_rules | `(tactic| walk_at "ok") => `(tactic| first
  | assumption
  | (apply plus_ok <;> walk_at "ok")
  | (apply minus_ok <;> walk_at "ok")
  | (apply times_ok <;> walk_at "ok")
  | (apply flipped_ok <;> walk_at "ok")
  | (apply ledBy_ok <;> first | walk_at "ok" | walk_at "mok")
  | solve_by_elim)
local macro_rules | `(tactic| walk_at "norm") => `(tactic| first
  | assumption
  | (apply flipped_norm <;> walk_at "norm")
  | (apply plus_norm' <;> walk_at "ok")
  | (apply minus_norm' <;> walk_at "ok")
  | (apply times_norm' <;> walk_at "ok")
  | (apply ledBy_norm <;> first | walk_at "ok" | walk_at "mok")
  | solve_by_elim)
local macro_rules | `(tactic| walk_at "shp") => `(tactic| first
  | rfl
  | assumption
  | exact shp_pt _ _
  | exact shp_sh _ _
  | exact shp_mo _ _
  | exact shpA_pt1 _ _
  | exact shpA_pt2 _ _ _
  | exact shp_pts
  | exact (show D.shp 8 _ = true from rfl)
  | solve_by_elim)
local macro_rules | `(tactic| walk_at "pts") => `(tactic| first
  | (apply pts1 <;> walk_at "norm")
  | (apply pts2 <;> walk_at "norm"))
local macro_rules | `(tactic| walk_at "ismo") => `(tactic| (apply isMo_yes <;> walk_at "mok"))
local macro_rules | `(tactic| walk_at "one") => `(tactic| assumption)
local macro_rules | `(tactic| walk_at "db") => `(tactic| first
  | assumption
  | (apply MOk.db <;> walk_at "mok")
  | (apply Ok.db <;> walk_at "ok")
  | solve_by_elim)
local macro_rules | `(tactic| walk_at "nopq") => `(tactic| first | assumption | solve_by_elim | (intro n h; cases h))
local macro_rules | `(tactic| walk_at "sz") => `(tactic| first | omega | assumption | (simp; done) | (simp_all <;> omega))
local macro_rules | `(tactic| walk_at "sok") => `(tactic| first
  | assumption
  | (apply plusSh_ok <;> walk_at "sok")
  | (apply gap_ok <;> walk_at "ok")
  | (apply size_ok <;> walk_at "ok")
  | exact nought_ok (n := 1) (by decide))
local macro_rules | `(tactic| walk_at "oks") => `(tactic| first
  | assumption
  | solve_by_elim)
local macro_rules | `(tactic| walk_at "ne") => `(tactic| first
  | assumption
  | (simp; done))
local macro_rules | `(tactic| walk_at "prs") => `(tactic| (apply prs <;> assumption))
local macro_rules | `(tactic| walk_at "norms") => `(tactic| first | assumption | solve_by_elim)
local macro_rules | `(tactic| walk_at "soks") => `(tactic| first | assumption | solve_by_elim)
local macro_rules | `(tactic| walk_at "bn") => `(tactic| first
  | assumption
  | (apply Bn.mul <;> walk_at "bn")
  | (apply Bn.add <;> walk_at "bn")
  | (apply Bn.sub <;> walk_at "bn")
  | (apply Bn.neg <;> walk_at "bn")
  | (apply Bn.abs <;> walk_at "bn")
  | exact (show Bn 64 _ by unfold Bn; decide)
  | exact (show Bn 64 _ by unfold Bn; omega))
local macro_rules | `(tactic| walk_at "pok") => `(tactic| first | assumption | solve_by_elim)
local macro_rules | `(tactic| walk_at "cd") => `(tactic| (apply Bn.cd; (focus walk_at "bn"); (first | assumption | omega); omega))
local macro_rules | `(tactic| walk_at "sz") => `(tactic| try simp only [c1, c2, c3, c4, ret, tupE, nilA, consA, lstE, itE, walkD_l, walkD_t, walkD_c, un2_t, un2_l, un3_t, un3_l, un3M, un3P, un2S])
section
variable {Φ : D → Prop} {Ψ : Str → Prop} {Θ : Bool → Prop} {n m : Nat} {p q : Pt} {x y d : D} {mo : Mo} {l : List Pt} {z : Str}
def heapP (s : Sg) : Option (List Pt) := (ptsP (spl [32] 0 [] s)).bind fun l => if isHp (.tup (l.map Pt.d)) = true ∧ ordL l = l then some l else none
theorem tupleD_l {ds : List D} {K : D → Prop} : tupleD (.lst ds) K = K (.tup ds) := rfl
theorem cmpT_ix {o : D → D → (Bool → Prop) → Prop} {x y d : D} : cmpT o (bin ixD (ret x) (ret y)) (ret d) Θ Ψ = ixD x y fun z => o z d Θ := rfl
theorem lcLX_pts {k : List D → Prop} (hn : n ≤ 90000) : ∀ {ps : List Str} {acc : List D}, (∀ p ∈ ps, Zt n (tl p)) → (∀ l, ptsP (ps.map tl) = some l → k (acc ++ l.map Pt.d)) → (ptsP (ps.map tl) = none → Ψ "BadText") → lcLX (fun one => c1 p_point_in (ret one)) Ψ (ps.map D.str) acc k
  | [], acc, _, k1, _ => by
    have := k1 [] rfl
    rw [List.map_nil, List.append_nil] at this
    exact this
  | a :: ps, acc, hz, k1, k2 => by
    have e : ptsP ((a :: ps).map tl) = (pointP (tl a)).bind fun p => (ptsP (ps.map tl)).map fun q => p :: q := rfl
    rw [e] at k1 k2
    show p_point_in (.str a) (fun y => lcLX (fun one => c1 p_point_in (ret one)) Ψ (ps.map D.str) (acc ++ [y]) k) Ψ
    refine point_in_w (hz a List.mem_cons_self) hn (fun p hp => ?_) fun hno => k2 (by rw [hno]; rfl)
    rw [hp] at k1 k2
    refine lcLX_pts hn (fun q hq => hz q (List.mem_cons_of_mem _ hq)) (fun l hl => ?_) fun hno => k2 (by rw [hno]; rfl)
    have := k1 (p :: l) (by rw [hl]; rfl)
    rw [List.append_assoc]
    exact this
theorem row_tpts (h : l.length ≤ 1000) : RowH (.tup (l.map Pt.d)) := ⟨rfl, fun ys e => by
  rcases e with e | e
  · cases e
  · cases e
    refine ⟨by rw [List.length_map]; exact h, fun y hy => ?_⟩
    obtain ⟨p, _, rfl⟩ := List.mem_map.mp hy
    exact ⟨shp_pt 7 p, pt_len⟩⟩
theorem isS_w {K : D → Prop} (k : K (.bl true)) : una (isiD D.isS) (ret (.str z)) K Ψ := ⟨rfl, k⟩
theorem ptsP_len : ∀ {ps : List Sg} {l : List Pt}, ptsP ps = some l → l.length = ps.length := fun {ps l} h => by
  rw [← (pts_back h).1, List.length_map]
theorem heap_read_w (hz : Zt 900 (tl z)) (k1 : ∀ l, heapP (tl z) = some l → Φ (.tup (l.map Pt.d))) (k2 : heapP (tl z) = none → Ψ "BadText") : p_heap_read (.str z) Φ Ψ := by
  refine ⟨?_⟩
  refine if_no (fun Θ hΘ => ?_) ?_
  · show una (isiD D.isS) (ret (.str z)) (fun x => bv x fun k => Θ (!k)) Ψ
    exact isS_w hΘ
  simp only [una, lcX, itE]
  rw [mthS_c]
  refine split_w s_blank (by decide) hz (by decide) fun ps e ne hl hp => ?_
  show walkD (.lst (ps.map D.str)) _
  rw [walkD_l]
  refine ⟨by rw [List.length_map]; omega, ?_⟩
  unfold heapP at k1 k2
  rw [← e] at k1 k2
  refine lcLX_pts (n := 900) (by decide) hp (fun l hl2 => ?_) fun hno => k2 (by rw [hno]; rfl)
  have hlen : l.length ≤ 1000 := by rw [ptsP_len hl2, List.length_map]; omega
  have okn := (pts_back hl2).2
  rw [hl2] at k1 k2
  rw [List.nil_append]
  rw [tupleD_l]
  refine or_w (!isHp (.tup (l.map Pt.d))) (fun Θ hΘ => ?_) (fun c => k2 ?_) fun c => ?_
  · show p_is_heap (.tup (l.map Pt.d)) (fun x => bv x fun k => Θ (!k)) Ψ
    exact is_heap_w (row_tpts hlen) hΘ
  · show (if _ ∧ _ then some l else none) = none
    rw [if_neg (fun t => by rw [t.1] at c; cases c)]
  have c : isHp (.tup (l.map Pt.d)) = true := by simpa using c
  refine if_of (!decide (ordL l = l)) (fun Θ hΘ => ?_) (fun c2 => k2 ?_) fun c2 => k1 l ?_
  · show p_in_order (.tup (l.map Pt.d)) (fun x => tupleD x fun y => neB y (.tup (l.map Pt.d)) Θ) Ψ
    refine in_order_w hl_t (fun p hp => (okn p hp).2) (by decide) hlen ?_
    exact neB_ptsT hΘ
  · show (if _ ∧ _ then some l else none) = none
    rw [if_neg (fun t => by have := t.2; simp [this] at c2)]
  · show (if _ ∧ _ then some l else none) = some l
    rw [if_pos ⟨c, by simpa using c2⟩]
def motionQ (ws : List Sg) : Option Mo := match ws with
  | [a, b] => (pointP a).bind fun t => (pointP b).bind fun s => if isMo (Mo.mk t s 0).d = true then some ⟨t, s, 0⟩ else none
  | [a, b, c] => if c = flipS then (pointP a).bind fun t => (pointP b).bind fun s => if isMo (Mo.mk t s 1).d = true then some ⟨t, s, 1⟩ else none else none
  | _ => none
def motionP (s : Sg) : Option Mo := motionQ (spl [32] 0 [] s)
theorem mo_parts {t s : Pt} {f : Int} (ht : Ok 200 t) (hs : Ok 200 s) (hf : f = 0 ∨ f = 1) (k : Φ (.bl (isMo (Mo.mk t s f).d))) : p_is_motion (Mo.mk t s f).d Φ Ψ := by
  refine is_motion_w (n := 200) (shp_mo 6 _) ⟨ht.db, hs.db, ?_, trivial⟩ (by decide) (fun _ ys e => ?_) k
  · show Bn 200 f
    unfold Bn
    rcases hf with rfl | rfl <;> decide
  · have e' : D.tup [t.d, s.d, .int f] = D.tup ys := e
    cases e'
    refine ⟨by simp, fun y hy => ?_⟩
    simp only [List.mem_cons, List.not_mem_nil, or_false] at hy
    rcases hy with rfl | rfl | rfl
    · exact pt_len
    · exact pt_len
    · exact fun z => nomatch z
theorem motion_read_w (hz : Zt 900 (tl z)) (k1 : ∀ m, motionP (tl z) = some m → Φ m.d) (k2 : motionP (tl z) = none → Ψ "BadText") : p_motion_read (.str z) Φ Ψ := by
  refine ⟨?_⟩
  refine if_no (fun Θ hΘ => ?_) ?_
  · show una (isiD D.isS) (ret (.str z)) (fun x => bv x fun k => Θ (!k)) Ψ
    exact isS_w hΘ
  rw [mthS_c]
  refine split_w s_blank (by decide) hz (by decide) fun ps e ne hl hp => ?_
  unfold motionP at k1 k2
  rw [← e] at k1 k2
  have two : ∀ (a b : Str) (f : Int) (dl : List D) (g : Option Mo → Prop), (f = 0 ∨ f = 1) → dl[0]? = some (.str a) → dl[1]? = some (.str b) → (dl.length : Int) - 2 = f → Zt 900 (tl a) → Zt 900 (tl b) →
      (∀ m, ((pointP (tl a)).bind fun t => (pointP (tl b)).bind fun s => if isMo (Mo.mk t s f).d = true then some (Mo.mk t s f) else none) = some m → Φ m.d) →
      (((pointP (tl a)).bind fun t => (pointP (tl b)).bind fun s => if isMo (Mo.mk t s f).d = true then some (Mo.mk t s f) else none) = none → Ψ "BadText") →
      ((tupE (consA (c1 p_point_in (bin ixD (ret (.lst dl)) (ret (.int 0)))) (consA (c1 p_point_in (bin ixD (ret (.lst dl)) (ret (.int 1)))) (consA (bin subD (una lnD (ret (.lst dl))) (ret (.int 2))) nilA)))) (fun found3 => (notT (tv (c1 p_is_motion (ret found3)))) (fun b => if b = true then (Ψ "BadText") else ((ret found3) Φ Ψ)) Ψ) Ψ) := fun a b f dl g hf i0 i1 ln za zb h1 h2 => by
    show c1 p_point_in (bin ixD (ret (.lst dl)) (ret (.int 0))) (fun x => c1 p_point_in (bin ixD (ret (.lst dl)) (ret (.int 1))) (fun y => (notT (tv (c1 p_is_motion (ret (.tup [x, y, .int ((dl.length : Int) - 2)]))))) (fun b => if b = true then (Ψ "BadText") else ((ret (.tup [x, y, .int ((dl.length : Int) - 2)])) Φ Ψ)) Ψ) Ψ) Ψ
    rw [c1_ix, ln]
    refine ix_at (j := 0) i0 (point_in_w za (by decide) (fun t ht => ?_) fun hno => h2 (by rw [hno]; rfl))
    rw [c1_ix]
    refine ix_at (j := 1) i1 (point_in_w zb (by decide) (fun s hs => ?_) fun hno => h2 (by rw [ht, hno]; rfl))
    rw [ht, hs] at h1 h2
    have h1 : ∀ m, (if isMo (Mo.mk t s f).d = true then some (Mo.mk t s f) else none) = some m → Φ m.d := h1
    have h2 : (if isMo (Mo.mk t s f).d = true then some (Mo.mk t s f) else none) = none → Ψ "BadText" := h2
    refine if_of (!isMo (Mo.mk t s f).d) (fun Θ hΘ => ?_) (fun c => h2 (by rw [if_neg (fun z => by rw [z] at c; cases c)])) fun c => h1 ⟨t, s, f⟩ (by rw [if_pos (by simpa using c)])
    show p_is_motion (Mo.mk t s f).d (fun x => bv x fun k => Θ (!k)) Ψ
    exact mo_parts (point_back ht).2.2 (point_back hs).2.2 hf hΘ
  have bad : (ps.length ≠ 2 ∧ ps.length ≠ 3) → Ψ "BadText" := fun h => k2 (by
    match ps, h with
    | [], _ => rfl
    | [a], _ => rfl
    | [a, b], h => exact absurd rfl h.1
    | [a, b, c], h => exact absurd rfl h.2
    | a :: b :: c :: d :: r, _ => rfl)
  refine or_w (!decide (((ps.map D.str).length : Int) ∈ [2, 3])) (fun Θ hΘ => ?_) (fun c => bad ?_) fun c => ?_
  · show ninB (.int ((ps.map D.str).length : Int)) (.tup [.int 2, .int 3]) Θ
    exact ⟨[2, 3], rfl, hΘ⟩
  · simp only [List.length_map, List.mem_cons, List.not_mem_nil, or_false, Bool.not_eq_true', decide_eq_false_iff_not] at c
    omega
  simp only [List.length_map, List.mem_cons, List.not_mem_nil, or_false, Bool.not_eq_false', decide_eq_true_eq] at c
  match ps, hp, k1, k2, c with
  | [a, b], hp, k1, k2, _ =>
    refine if_no (fun Θ hΘ => ?_) ?_
    · show eqB (.int ((2 : Nat) : Int)) (.int 3) fun k => if k = true then _ else _
      rw [eqB_i, if_neg (by decide)]
      exact hΘ
    exact two a b 0 _ (fun _ => True) (.inl rfl) rfl rfl rfl (hp a List.mem_cons_self) (hp b (List.mem_cons_of_mem _ List.mem_cons_self)) k1 k2
  | [a, b, c], hp, k1, k2, _ =>
    have hc := hp c (List.mem_cons_of_mem _ (List.mem_cons_of_mem _ List.mem_cons_self))
    refine if_of (!decide (tl c = flipS)) (fun Θ hΘ => ?_) (fun q => k2 ?_) fun q => ?_
    · show eqB (.int ((3 : Nat) : Int)) (.int 3) fun k => if k = true then _ else _
      rw [eqB_i, if_pos (by decide)]
      rw [cmpT_ix]
      refine ix_at (j := 2) rfl ?_
      rw [s_flip]
      exact neS hc (by decide) hΘ
    · show (if tl c = flipS then _ else none) = none
      rw [if_neg (by simpa using q)]
    · have q : tl c = flipS := by simpa using q
      have eq : motionQ (List.map tl [a, b, c]) = (pointP (tl a)).bind fun t => (pointP (tl b)).bind fun s => if isMo (Mo.mk t s 1).d = true then some (Mo.mk t s 1) else none := by
        show (if tl c = flipS then _ else none) = _
        rw [if_pos q]
      rw [eq] at k1 k2
      exact two a b 1 _ (fun _ => True) (.inr rfl) rfl rfl rfl (hp a List.mem_cons_self) (hp b (List.mem_cons_of_mem _ List.mem_cons_self)) k1 k2
/-! ### the law's reading -/
theorem caughtT (k : Φ (.str "text")) : (ifE (cmpT isNB (ret (excD "BadText")) (ret (.non))) (ret .non) (c1 p_law_refusal (ret (excD "BadText")))) Φ Ψ := by
  show p_law_refusal (excD "BadText") Φ Ψ
  exact law_refusal_w (by decide) k
theorem read_heap_w (h : ∀ (Φ' : D → Prop) (Ψ' : Str → Prop), (∀ d, Φ d → Φ' d) → (Φ (.str "text") → Ψ' "BadText") → p_heap_read x Φ' Ψ') : p_law_read (.int 0) x Φ Ψ := by
  refine ⟨?_⟩
  show join _ _
  show (ifE _ _ _) _ _
  show eqB (.int 0) (.int 0) fun k => if k = true then _ else _
  rw [eqB_i, if_pos (by decide)]
  refine h _ _ (fun d hd => hd) fun hk => ⟨by decide, ?_⟩
  exact caughtT hk
theorem read_motion_w (h : ∀ (Φ' : D → Prop) (Ψ' : Str → Prop), (∀ d, Φ d → Φ' d) → (Φ (.str "text") → Ψ' "BadText") → p_motion_read x Φ' Ψ') : p_law_read (.int 1) x Φ Ψ := by
  refine ⟨?_⟩
  show join _ _
  show (ifE _ _ _) _ _
  show eqB (.int 1) (.int 0) fun k => if k = true then _ else _
  rw [eqB_i, if_neg (by decide)]
  refine h _ _ (fun d hd => hd) fun hk => ⟨by decide, ?_⟩
  exact caughtT hk
end
end G
namespace G
open PySem PySem.Spec L2
structure p_k22 (script1 : D) (Φ : D → Prop) (Ψ : Str → Prop) : Prop where run ::
  go : (c1 p_law_town (ret script1)) (fun town_here2 => (c2 p_law_heap (ret town_here2) (ret (.int 5))) (fun points3 => (c1 p_law_motion (ret town_here2)) (fun motion_here4 => (lstE (consA (mthS joinD (ret (.str " ")) (lcE (itE (c1 p_law_sorted (ret points3))) (fun p8 k6 => (c1 p_law_point_text (ret p8)) (fun y7 => k6 (some y7)) bot))) (consA (c1 p_law_motion_text (ret motion_here4)) nilA))) (fun texts5 => (orT (cmpT neB (c1 p_heap_text (ret points3)) (bin ixD (ret texts5) (ret (.int 0)))) (cmpT neB (c1 p_motion_text (ret motion_here4)) (bin ixD (ret texts5) (ret (.int 1))))) (fun b => if b = true then ((ret (.bl false)) Φ Ψ) else ((orT (cmpT neB (c2 p_law_read (ret (.int 0)) (bin ixD (ret texts5) (ret (.int 0)))) (una tupleD (c1 p_law_sorted (ret points3)))) (cmpT neB (c2 p_law_read (ret (.int 1)) (bin ixD (ret texts5) (ret (.int 1)))) (ret motion_here4))) (fun b => if b = true then ((ret (.bl false)) Φ Ψ) else ((rng1 (ret (.int 8))) (fun ds => forL (fun turn_of29 (s9 : Unit) nx27 br28 => (c2 p_law_draw (ret town_here2) (ret (.int 2))) (fun k30 => (bin ixD (ret texts5) (ret k30)) (fun text31 => (c2 p_law_draw (ret town_here2) (bin addD (una lnD (ret text31)) (ret (.int 1)))) (fun at32 => (c2 p_law_pick (ret town_here2) (ret (.lst [.str "0", .str "1", .str "-", .str "/", .str ",", .str " ", .str "2", .str "f", .str "flip", .str ""]))) (fun mark33 => (c2 p_law_pick (ret town_here2) (lstE (consA (bin addD (bin addD (slE (ret text31) noneO (someO (ret at32))) (ret mark33)) (slE (ret text31) (someO (bin addD (ret at32) (ret (.int 1)))) noneO)) (consA (bin addD (bin addD (slE (ret text31) noneO (someO (ret at32))) (ret mark33)) (slE (ret text31) (someO (ret at32)) noneO)) nilA)))) (fun worse34 => (c2 p_law_read (ret k30) (ret worse34)) (fun told35 => join (fun (_ : Unit) => nx27 ()) (fun k36 => (cmpT neB (ret told35) (ret (.str "text"))) (fun b => if b = true then ((ifE (cmpT eqB (ret k30) (ret (.int 0))) (mthS joinD (ret (.str " ")) (lcE (itE (ret told35)) (fun p42 k40 => (c1 p_law_point_text (ret p42)) (fun y41 => k40 (some y41)) bot))) (c1 p_law_motion_text (ret told35))) (fun again39 => (ifE (cmpT eqB (ret k30) (ret (.int 0))) (c1 p_is_heap (ret told35)) (c1 p_is_motion (ret told35))) (fun good43 => (orT (cmpT neB (ret again39) (ret worse34)) (orT (cmpT isntVB (ret good43) (ret (.bl true))) (andT (cmpT eqB (ret k30) (ret (.int 0))) (cmpT neB (una listD (ret told35)) (c1 p_law_sorted (ret told35)))))) (fun b => if b = true then ((ret (.bl false)) Φ Ψ) else (k36 ())) Ψ) Ψ) Ψ) else (k36 ())) Ψ)) Ψ) Ψ) Ψ) Ψ) Ψ) Ψ) (fun (s11 : Unit) => (itE (ret (.lst [.non, .int 5, .str "", .str "0,0", .str "1,0 0,0", .str "0,0 0,0", .str "0,0 01,2", .str "0,0 2/4,1", .str "0,0 1,-0", .str "0,0  1,1", .lst [.str "0,0 1,1"], .str "0,0 1/-2,1"]))) (fun ds => forL (fun bad26 (s13 : Unit) nx24 br25 => (cmpT neB (c2 p_law_read (ret (.int 0)) (ret bad26)) (ret (.str "text"))) (fun b => if b = true then ((ret (.bl false)) Φ Ψ) else (nx24 ())) Ψ) (fun (s15 : Unit) => (itE (ret (.lst [.non, .str "", .str "1,0", .str "1,1 0,0", .str "1,0 0,0 Flip", .str "1,0 0,0 flip flip", .str "2,0 0,0", .str "1,0 0,0 ", .str "1,0 0"]))) (fun ds => forL (fun bad23 (s17 : Unit) nx21 br22 => (cmpT neB (c2 p_law_read (ret (.int 1)) (ret bad23)) (ret (.str "text"))) (fun b => if b = true then ((ret (.bl false)) Φ Ψ) else (nx21 ())) Ψ) (fun (s19 : Unit) => (andV (cmpV eqB (c2 p_law_read (ret (.int 1)) (ret (.str "3/5,-4/5 0,1/2 flip"))) (ret (.tup [.tup [.int 3, .int (0 - 4), .int 5], .tup [.int 0, .int 1, .int 2], .int 1]))) (cmpV eqB (c2 p_law_read (ret (.int 0)) (bin addD (bin addD (ret (.str "0,0 ")) (bin repSD (ret (.str "1")) (ret (.int 31)))) (ret (.str ",0")))) (ret (.str "text")))) Φ Ψ) ds ()) Ψ) ds ()) Ψ) ds ()) Ψ)) Ψ)) Ψ) Ψ) Ψ) Ψ) Ψ
end G
namespace G
open PySem PySem.Spec L2 TL PySem.NumText
local macro_rules | `(tactic| walk_at "sx") => `(tactic| try simp only [bin, una, lcE, cmpV, cmpT, tv, bv_b, notT, andT, orT, notV, andV, orV, ifE, nilA, consA, tupE, lstE, c1, c2, c3, c4, itE, seqD_l, seqD_t, walkD_l, walkD_t, walkD_c, ret, addD_i, subD_i, mulD_i, negD_i, fdivD_i, modD_i, absD_i, maxD_i, lnD_l, lnD_t, ltB_i, leB_i, gtB_i, geB_i, rng1, rng2, zipM, zip2_l, zip2_t, chnV, chnT, un2_t, un2_l, un3_t, un3_l, join, isDat_d,
  ixP0, ixP1, ixP2, ixS0, ixS1, ixM0, ixM1, ixM2, un3M, un3P, un2S, eqB_i, neB_i, eqB_p, neB_p, eqB_s, neB_s, eqB_m, neB_m, ite_dec, ite_ndec, ite_tt, ite_ff, ite_nt, ite_nf, isNB, notNB, isVB_b, isntVB_b, ixT30, ixT31, ixT32, ixT20, ixT21, if_true, if_false])
local macro_rules | `(tactic| walk_at "sy") => `(tactic| try simp only [bin, una, lcE, cmpV, cmpT, tv, bv_b, nilA, consA, tupE, lstE, c1, c2, c3, c4, itE, seqD_l, seqD_t, walkD_l, walkD_t, walkD_c, ret, addD_i, subD_i, mulD_i, negD_i, fdivD_i, modD_i, absD_i, maxD_i, lnD_l, lnD_t, ltB_i, leB_i, gtB_i, geB_i, rng1, rng2, zipM, zip2_l, zip2_t, un2_t, un2_l, un3_t, un3_l, isDat_d,
  ixP0, ixP1, ixP2, ixS0, ixS1, ixM0, ixM1, ixM2, un3M, un3P, un2S, eqB_i, neB_i, eqB_p, neB_p, eqB_s, neB_s, eqB_m, neB_m, ite_dec, ite_ndec, ite_tt, ite_ff, ite_nt, ite_nf, isNB, notNB, isVB_b, isntVB_b, ixT30, ixT31, ixT32, ixT20, ixT21, if_true, if_false])
local macro_rules | `(tactic| walk_at "bn") => `(tactic| first
  | assumption
  | (apply Bn.mul <;> walk_at "bn")
  | (apply Bn.add <;> walk_at "bn")
  | (apply Bn.sub <;> walk_at "bn")
  | (apply Bn.neg <;> walk_at "bn")
  | (apply Bn.abs <;> walk_at "bn")
  | exact (show Bn 64 _ by unfold Bn; decide))
local macro_rules | `(tactic| walk_at "cm") => `(tactic| (apply Bn.cm; (focus walk_at "bn"); (focus walk_at "bn"); omega))
local macro_rules | `(tactic| walk_at "nz") => `(tactic| first
  | assumption
  | omega
  | (apply mulnz <;> walk_at "nz"))
local macro_rules | `(tactic| walk_at "mok") => `(tactic| first
  | assumption
  | (apply joined_ok <;> walk_at "mok")
  | (apply backOf_ok <;> walk_at "mok")
  | exact still_ok)
local macro_rules | `(tactic| walk_at "ok") => `(tactic| first
  | assumption
  | (apply plus_ok <;> walk_at "ok")
  | (apply minus_ok <;> walk_at "ok")
  | (apply times_ok <;> walk_at "ok")
  | (apply flipped_ok <;> walk_at "ok")
  | (apply ledBy_ok <;> first | walk_at "ok" | walk_at "mok")
  | solve_by_elim)
local macro_rules | `(tactic| walk_at "norm") => `(tactic| first
  | assumption
  | (apply flipped_norm <;> walk_at "norm")
  | (apply plus_norm' <;> walk_at "ok")
  | (apply minus_norm' <;> walk_at "ok")
  | (apply times_norm' <;> walk_at "ok")
  | (apply ledBy_norm <;> first | walk_at "ok" | walk_at "mok")
  | solve_by_elim)
local macro_rules | `(tactic| walk_at "shp") => `(tactic| first
  | rfl
  | assumption
  | exact shp_pt _ _
  | exact shp_sh _ _
  | exact shp_mo _ _
  | exact shpA_pt1 _ _
  | exact shpA_pt2 _ _ _
  | exact shp_pts
  | exact (show D.shp 8 _ = true from rfl)
  | solve_by_elim)
local macro_rules | `(tactic| walk_at "pts") => `(tactic| first
  | (apply pts1 <;> walk_at "norm")
  | (apply pts2 <;> walk_at "norm"))
local macro_rules | `(tactic| walk_at "ismo") => `(tactic| (apply isMo_yes <;> walk_at "mok"))
local macro_rules | `(tactic| walk_at "one") => `(tactic| assumption)
local macro_rules | `(tactic| walk_at "db") => `(tactic| first
  | assumption
  | (apply MOk.db <;> walk_at "mok")
  | (apply Ok.db <;> walk_at "ok")
  | solve_by_elim)
local macro_rules | `(tactic| walk_at "nopq") => `(tactic| first | assumption | solve_by_elim | (intro n h; cases h))
local macro_rules | `(tactic| walk_at "sz") => `(tactic| first | omega | assumption | (simp; done) | (simp_all <;> omega))
local macro_rules | `(tactic| walk_at "sok") => `(tactic| first
  | assumption
  | (apply plusSh_ok <;> walk_at "sok")
  | (apply gap_ok <;> walk_at "ok")
  | (apply size_ok <;> walk_at "ok")
  | exact nought_ok (n := 1) (by decide))
local macro_rules | `(tactic| walk_at "oks") => `(tactic| first
  | assumption
  | solve_by_elim)
local macro_rules | `(tactic| walk_at "ne") => `(tactic| first
  | assumption
  | (simp; done))
local macro_rules | `(tactic| walk_at "prs") => `(tactic| (apply prs <;> assumption))
local macro_rules | `(tactic| walk_at "norms") => `(tactic| first | assumption | solve_by_elim)
local macro_rules | `(tactic| walk_at "soks") => `(tactic| first | assumption | solve_by_elim)
local macro_rules | `(tactic| walk_at "bn") => `(tactic| first
  | assumption
  | (apply Bn.mul <;> walk_at "bn")
  | (apply Bn.add <;> walk_at "bn")
  | (apply Bn.sub <;> walk_at "bn")
  | (apply Bn.neg <;> walk_at "bn")
  | (apply Bn.abs <;> walk_at "bn")
  | exact (show Bn 64 _ by unfold Bn; decide)
  | exact (show Bn 64 _ by unfold Bn; omega))
local macro_rules | `(tactic| walk_at "pok") => `(tactic| first | assumption | solve_by_elim)
local macro_rules | `(tactic| walk_at "cd") => `(tactic| (apply Bn.cd; (focus walk_at "bn"); (first | assumption | omega); omega))
local macro_rules | `(tactic| walk_at "sz") => `(tactic| try simp only [c1, c2, c3, c4, ret, tupE, nilA, consA, lstE, itE, walkD_l, walkD_t, walkD_c, un2_t, un2_l, un3_t, un3_l, un3M, un3P, un2S])
section
variable {Φ : D → Prop} {Ψ : Str → Prop} {Θ : Bool → Prop} {n m : Nat} {p q : Pt} {x y d : D} {mo : Mo} {l : List Pt} {z : Str}
/-! ### how long, which signs -/
theorem iT_zt {i : Int} (h : Bn 4 i) : Zt 3 (iT i) := by
  have hl := numL_len (n := i.natAbs) (k := 2) (by decide) (Nat.lt_of_lt_of_le h (by decide))
  have hd := numL_digits i.natAbs
  unfold iT
  split
  · refine ⟨by rw [List.length_cons]; omega, fun c hc => ?_⟩
    rcases List.mem_cons.mp hc with rfl | hc
    · decide
    · have := hd c hc; omega
  · exact ⟨by omega, fun c hc => by have := hd c hc; omega⟩
theorem Zt.app {a b : Sg} (h : Zt n a) (k : Zt m b) : Zt (n + m) (a ++ b) := ⟨by rw [List.length_append]; have := h.len; have := k.len; omega, fun c hc => (List.mem_append.mp hc).elim (h.ok c) (k.ok c)⟩
theorem Zt.le {a : Sg} (h : Zt n a) (e : n ≤ m) : Zt m a := ⟨Nat.le_trans h.len e, h.ok⟩
theorem zt1 {s : Nat} (h : s < 1114112) : Zt 1 [s] := ⟨Nat.le_refl _, fun c hc => by rcases List.mem_singleton.mp hc with rfl; exact h⟩
theorem sT_zt {s : Sh} (h : SOk 4 s) : Zt 7 (sT s) := by
  unfold sT
  split
  · exact (iT_zt h.t).le (by decide)
  · exact (iT_zt h.t).app ((zt1 (by decide)).app (iT_zt h.b))
theorem pT_zt (h : Ok 4 p) : Zt 15 (pT p) := (sT_zt ((shr_ok h.x h.w h.nz).mono (show max 4 4 ≤ 4 by decide))).app ((zt1 (by decide)).app (sT_zt ((shr_ok h.y h.w h.nz).mono (show max 4 4 ≤ 4 by decide))))
theorem hT_zt : ∀ {l : List Pt}, (∀ p ∈ l, Ok 4 p) → Zt (l.length * 16) (hT l)
  | [], _ => ⟨Nat.zero_le _, fun c hc => by cases hc⟩
  | [p], h => (pT_zt (h p List.mem_cons_self)).le (by simp)
  | p :: q :: l, h => by
    have ih := hT_zt (l := q :: l) fun z hz => h z (List.mem_cons_of_mem _ hz)
    have e : hT (p :: q :: l) = pT p ++ ([32] ++ hT (q :: l)) := rfl
    rw [e]
    exact ((pT_zt (h p List.mem_cons_self)).app ((zt1 (by decide)).app ih)).le (by simp only [List.length_cons]; omega)
theorem mT_zt (h : MOk 4 mo) : Zt 40 (mT mo) := by
  have e : mT mo = pT mo.t ++ ([32] ++ (if mo.f = 1 then pT mo.s ++ ([32] ++ flipS) else pT mo.s)) := by
    unfold mT
    split <;> rfl
  rw [e]
  refine ((pT_zt h.t).app ((zt1 (by decide)).app (m := 20) ?_)).le (by decide)
  split
  · exact ((pT_zt h.s).app ((zt1 (by decide)).app (m := 4) ⟨by decide, by decide⟩)).le (by decide)
  · exact (pT_zt h.s).le (by decide)
theorem slice_zt {a b : Option Int} (h : Zt n (tl z)) : Zt n (tl (Txt.slice z a b)) := by
  rw [← C8.cutS_slice]
  show Zt n (((tl z).drop _).take _)
  exact h.sub (by rw [List.length_take, List.length_drop]; omega) fun c hc => List.mem_of_mem_drop (List.mem_of_mem_take hc)
def ztB (n : Nat) (l : Sg) : Bool := decide (l.length ≤ n) && l.all fun c => decide (c < 1114112)
theorem Zt.of {l : Sg} (h : ztB n l = true) : Zt n l := by
  unfold ztB at h
  rw [Bool.and_eq_true, List.all_eq_true] at h
  exact ⟨of_decide_eq_true h.1, fun c hc => of_decide_eq_true (h.2 c hc)⟩
/-! ### read back -/
theorem heap_in (h : Hp n l) (hn : n ≤ 4) : heapP (hT (ordL l)) = some (ordL l) := by
  have ho := h.ord
  have ne : ordL l ≠ [] := fun t => by have := ho.ge; rw [t] at this; simp at this
  unfold heapP
  rw [heap_of ne fun p hp => ⟨ho.nm p hp, (ho.ok p hp).mono (by omega)⟩]
  show (if _ ∧ _ then some (ordL l) else none) = _
  rw [if_pos ⟨ho.is hl_t, ordL_id ho.nm (ordL_ord (norms_pos h.nm))⟩]
theorem motion_in (h : MOk 4 mo) : motionP (mT mo) = some mo := by
  unfold motionP
  rw [spl_mo]
  have ht := point_of h.tn (h.t.mono (show 4 ≤ 99 by decide))
  have hs := point_of h.sn (h.s.mono (show 4 ≤ 99 by decide))
  have im := isMo_yes h
  obtain ⟨t, s, f⟩ := mo
  rcases h.f with e | e
  · have e : f = 0 := e
    subst e
    rw [if_neg (show ¬ (0 : Int) = 1 by decide)]
    show (pointP (pT t)).bind _ = _
    rw [ht]
    show (pointP (pT s)).bind _ = _
    rw [hs]
    show (if _ then _ else none) = _
    rw [if_pos im]
  · have e : f = 1 := e
    subst e
    rw [if_pos rfl]
    show (if flipS = flipS then (pointP (pT t)).bind _ else none) = _
    rw [if_pos rfl, ht]
    show (pointP (pT s)).bind _ = _
    rw [hs]
    show (if _ then _ else none) = _
    rw [if_pos im]
theorem heap_out {s : Sg} (h : heapP s = some l) : hT l = s ∧ (∀ p ∈ l, Norm p ∧ Ok 200 p) ∧ isHp (.tup (l.map Pt.d)) = true ∧ ordL l = l := by
  obtain ⟨r, hr, h⟩ := Option.bind_eq_some_iff.mp h
  split at h
  · rename_i c
    cases h
    exact ⟨(heap_back hr).1, (heap_back hr).2, c.1, c.2⟩
  · cases h
theorem mo_out {a b : Sg} {f : Int} (hf : f = 0 ∨ f = 1) (h : ((pointP a).bind fun t => (pointP b).bind fun s => if isMo (Mo.mk t s f).d = true then some (Mo.mk t s f) else none) = some mo) : pT mo.t = a ∧ pT mo.s = b ∧ mo.f = f ∧ MOk 200 mo := by
  obtain ⟨t, ht, h⟩ := Option.bind_eq_some_iff.mp h
  obtain ⟨s, hs, h⟩ := Option.bind_eq_some_iff.mp h
  split at h
  · rename_i c
    cases h
    obtain ⟨t1, t2, t3⟩ := point_back ht
    obtain ⟨s1, s2, s3⟩ := point_back hs
    refine ⟨t1, s1, rfl, t3, s3, t2, s2, ?_, hf⟩
    have c' : (isPt t.d && (isPt s.d && (isWh (.int f) 0 1 && decide (size t = ⟨1, 1⟩)))) = true := c
    simp only [Bool.and_eq_true] at c'
    exact of_decide_eq_true c'.2.2.2
  · cases h
theorem motion_out {s : Sg} (h : motionP s = some mo) : mT mo = s ∧ MOk 200 mo := by
  unfold motionP at h
  cases e : spl [32] 0 [] s with
  | nil => rw [e] at h; cases h
  | cons a r =>
    have jl := cut_back e
    rw [e] at h
    cases r with
    | nil => cases h
    | cons b r =>
      cases r with
      | nil =>
        obtain ⟨h1, h2, h3, h4⟩ := mo_out (.inl rfl) h
        refine ⟨?_, h4⟩
        unfold mT
        rw [h1, h2, h3, if_neg (by decide), ← jl]; rfl
      | cons c r =>
        cases r with
        | cons d r => cases h
        | nil =>
          have h : (if c = flipS then (pointP a).bind fun t => (pointP b).bind fun s => if isMo (Mo.mk t s 1).d = true then some (Mo.mk t s 1) else none else none) = some mo := h
          by_cases hc : c = flipS
          · rw [if_pos hc] at h
            obtain ⟨h1, h2, h3, h4⟩ := mo_out (.inr rfl) h
            refine ⟨?_, h4⟩
            unfold mT
            rw [h1, h2, h3, if_pos rfl, ← jl, hc]; rfl
          · rw [if_neg hc] at h; cases h
/-! ### the law's steps -/
theorem read0_w (hz : Zt 900 (tl z)) (k1 : ∀ l, heapP (tl z) = some l → Φ (.tup (l.map Pt.d))) (k2 : heapP (tl z) = none → Φ (.str "text")) : p_law_read (.int 0) (.str z) Φ Ψ :=
  read_heap_w fun Φ' Ψ' h1 h2 => heap_read_w hz (fun l hl => h1 _ (k1 l hl)) fun hno => h2 (k2 hno)
theorem read1_w (hz : Zt 900 (tl z)) (k1 : ∀ m, motionP (tl z) = some m → Φ m.d) (k2 : motionP (tl z) = none → Φ (.str "text")) : p_law_read (.int 1) (.str z) Φ Ψ :=
  read_motion_w fun Φ' Ψ' h1 h2 => motion_read_w hz (fun l hl => h1 _ (k1 l hl)) fun hno => h2 (k2 hno)
theorem read0_no (hq : x.nopq = true) (hs : x.isS = false) (k : Φ (.str "text")) : p_law_read (.int 0) x Φ Ψ :=
  read_heap_w fun Φ' Ψ' h1 h2 => ⟨if_yes (fun Θ hΘ => by
    show una (isiD D.isS) (ret x) (fun x => bv x fun k => Θ (!k)) Ψ'
    refine ⟨hq, ?_⟩
    rw [hs]; exact hΘ) (h2 k)⟩
theorem read1_no (hq : x.nopq = true) (hs : x.isS = false) (k : Φ (.str "text")) : p_law_read (.int 1) x Φ Ψ :=
  read_motion_w fun Φ' Ψ' h1 h2 => ⟨if_yes (fun Θ hΘ => by
    show una (isiD D.isS) (ret x) (fun x => bv x fun k => Θ (!k)) Ψ'
    refine ⟨hq, ?_⟩
    rw [hs]; exact hΘ) (h2 k)⟩
theorem text_ok : D.shp 40 (.str "text") = true := by decide +kernel
theorem text_same (k : Θ false) : neB (.str "text") (.str "text") Θ := neB_same text_ok k
def bads0 : List String := ["", "0,0", "1,0 0,0", "0,0 0,0", "0,0 01,2", "0,0 2/4,1", "0,0 1,-0", "0,0  1,1", "0,0 1/-2,1"]
def bads1 : List String := ["", "1,0", "1,1 0,0", "1,0 0,0 Flip", "1,0 0,0 flip flip", "2,0 0,0", "1,0 0,0 ", "1,0 0"]
theorem bads0_ok : ∀ s ∈ bads0, ztB 900 (s.toList.map Char.toNat) = true ∧ heapP (s.toList.map Char.toNat) = none := by decide +kernel
theorem bads1_ok : ∀ s ∈ bads1, ztB 900 (s.toList.map Char.toNat) = true ∧ motionP (s.toList.map Char.toNat) = none := by decide +kernel
theorem marks_zt {d : D} (h : d ∈ ([.str "0", .str "1", .str "-", .str "/", .str ",", .str " ", .str "2", .str "f", .str "flip", .str ""] : List D)) : ∃ w : Str, d = .str w ∧ Zt 4 (tl w) := by
  simp only [List.mem_cons, List.not_mem_nil, or_false] at h
  rcases h with rfl | rfl | rfl | rfl | rfl | rfl | rfl | rfl | rfl | rfl <;> exact ⟨_, rfl, Zt.of (by rw [tl_ofString]; decide +kernel)⟩
theorem cat_w {a b : Str} (ha : Zt n (tl a)) (hb : Zt m (tl b)) (hn : n + m ≤ 100000) (k : ∀ c : Str, Zt (n + m) (tl c) → Φ (.str c)) : addD (.str a) (.str b) Φ := ⟨by rw [len_tl, len_tl]; have := ha.len; have := hb.len; omega, k _ (by rw [tl_append]; exact ha.app hb)⟩
theorem sl_w {a b : Option Int} (hz : Zt n (tl z)) (hn : n ≤ 100000) (k : ∀ c : Str, Zt n (tl c) → Φ (.str c)) : slD (.str z) a b Φ := ⟨by rw [len_tl]; have := hz.len; omega, k _ (slice_zt hz)⟩
theorem c1_r {f : D → M} {d : D} {K : D → Prop} : c1 f (ret d) K Ψ = f d K Ψ := rfl
theorem c2_r {f : D → D → M} {d e : D} {K : D → Prop} : c2 f (ret d) (ret e) K Ψ = f d e K Ψ := rfl
theorem cm1 {o : D → D → (Bool → Prop) → Prop} {f : D → M} {a x y : D} : cmpT o (c1 f (ret a)) (bin ixD (ret x) (ret y)) Θ Ψ = f a (fun u => ixD x y fun v => o u v Θ) Ψ := rfl
theorem cm2 {o : D → D → (Bool → Prop) → Prop} {f : D → D → M} {g : D → M} {a b x y : D} : cmpT o (c2 f (ret a) (bin ixD (ret x) (ret y))) (una tupleD (c1 g (ret b))) Θ Ψ = ixD x y fun t => f a t (fun u => g b (fun v => tupleD v fun w => o u w Θ) Ψ) Ψ := rfl
theorem cm3 {o : D → D → (Bool → Prop) → Prop} {f : D → D → M} {a x y d : D} : cmpT o (c2 f (ret a) (bin ixD (ret x) (ret y))) (ret d) Θ Ψ = ixD x y fun t => f a t (fun u => o u d Θ) Ψ := rfl
theorem cm4 {o : D → D → (Bool → Prop) → Prop} {f : D → D → M} {a b d : D} : cmpT o (c2 f (ret a) (ret b)) (ret d) Θ Ψ = f a b (fun u => o u d Θ) Ψ := rfl
theorem bin_r {op : D → D → (D → Prop) → Prop} {x y : D} {K : D → Prop} : bin op (ret x) (ret y) K Ψ = op x y K := rfl
theorem dr1 {f : D → D → M} {a : D} {z : Str} {K : D → Prop} : c2 f (ret a) (bin addD (una lnD (ret (.str z))) (ret (.int 1))) K Ψ = (z.length ≤ 100000 ∧ f a (.int ((z.length : Int) + 1)) K Ψ) := rfl
theorem lst2 {a b : M} {K : D → Prop} : lstE (consA a (consA b nilA)) K Ψ = a (fun x => b (fun y => K (.lst [x, y])) Ψ) Ψ := rfl
/-- what a text becomes: any text that is not too long -/
theorem worse_w {w : Str} {i : Int} (hz : Zt 200 (tl z)) (hw : Zt 4 (tl w)) (k : ∀ c : Str, Zt 900 (tl c) → Φ (.str c)) : (c2 p_law_pick (ret (.opq 0)) (lstE (consA (bin addD (bin addD (slE (ret (.str z)) noneO (someO (ret (.int i)))) (ret (.str w))) (slE (ret (.str z)) (someO (bin addD (ret (.int i)) (ret (.int 1)))) noneO)) (consA (bin addD (bin addD (slE (ret (.str z)) noneO (someO (ret (.int i)))) (ret (.str w))) (slE (ret (.str z)) (someO (ret (.int i))) noneO)) nilA)))) Φ Ψ := by
  simp only [c2, lstE, consA, nilA, bin, slE, noneO, someO, ret]
  refine sl_w hz (by decide) fun a za => ?_
  refine cat_w za hw (by decide) fun b zb => ?_
  rw [addD_i]
  refine sl_w hz (by decide) fun c zc => ?_
  refine cat_w zb zc (by decide) fun u zu => ?_
  refine sl_w hz (by decide) fun a za => ?_
  refine cat_w za hw (by decide) fun b zb => ?_
  refine sl_w hz (by decide) fun c zc => ?_
  refine cat_w zb zc (by decide) fun v zv => ?_
  refine pick_w (by simp) (by simp) fun d hd => ?_
  simp only [List.mem_cons, List.not_mem_nil, or_false] at hd
  rcases hd with rfl | rfl
  · exact k _ (zu.le (by decide))
  · exact k _ (zv.le (by decide))
theorem neS_no {ds : List D} (hs : D.shp 40 (.tup ds) = true) (k : Θ true) : neB (.tup ds) (.str "text") Θ := ⟨⟨hs, text_ok⟩, k⟩
theorem good0 {nx : Prop} (hz : Zt 900 (tl z)) (h : heapP (tl z) = some l) (hn : nx) : ((ifE (cmpT eqB (ret (.int 0)) (ret (.int 0))) (mthS joinD (ret (.str " ")) (lcE (itE (ret (.tup (l.map Pt.d)))) (fun p42 k40 => (c1 p_law_point_text (ret p42)) (fun y41 => k40 (some y41)) bot))) (c1 p_law_motion_text (ret (.tup (l.map Pt.d))))) (fun again39 => (ifE (cmpT eqB (ret (.int 0)) (ret (.int 0))) (c1 p_is_heap (ret (.tup (l.map Pt.d)))) (c1 p_is_motion (ret (.tup (l.map Pt.d))))) (fun good43 => (orT (cmpT neB (ret again39) (ret (.str z))) (orT (cmpT isntVB (ret good43) (ret (.bl true))) (andT (cmpT eqB (ret (.int 0)) (ret (.int 0))) (cmpT neB (una listD (ret (.tup (l.map Pt.d)))) (c1 p_law_sorted (ret (.tup (l.map Pt.d)))))))) (fun b => if b = true then ((ret (.bl false)) Φ Ψ) else nx) Ψ) Ψ) Ψ) := by
  obtain ⟨h1, h2, h3, h4⟩ := heap_out h
  have hle : l.length ≤ 14 := by
    have : (decide (2 ≤ (l.map Pt.d).length) && (decide ((l.map Pt.d).length ≤ 14) && _)) = true := h3
    rw [Bool.and_eq_true, Bool.and_eq_true, List.length_map] at this
    exact of_decide_eq_true this.2.1
  show eqB (.int 0) (.int 0) fun k => if k = true then _ else _
  rw [eqB_i, if_pos (by decide)]
  refine law_join_w hle (fun p hp => (h2 p hp).2) ?_ fun K hK => hK _ hl_t
  show eqB (.int 0) (.int 0) fun k => if k = true then _ else _
  rw [eqB_i, if_pos (by decide)]
  show p_is_heap (.tup (l.map Pt.d)) _ _
  refine is_heap_w (row_tpts (by omega)) ?_
  rw [h3]
  refine or_w false (fun Θ hΘ => ?_) (fun c => nomatch c) fun _ => or_w false (fun Θ hΘ => hΘ) (fun c => nomatch c) fun _ => if_no (fun Θ hΘ => ?_) hn
  · show neB (.str (mk (hT l))) (.str z) Θ
    rw [h1, mk_tl]
    exact neB_same (shpS hz.str) hΘ
  · show eqB (.int 0) (.int 0) fun k => if k = true then _ else _
    rw [eqB_i, if_pos (by decide)]
    show p_law_sorted (.tup (l.map Pt.d)) (fun y => neB (.lst (l.map Pt.d)) y Θ) Ψ
    refine law_sorted_w hl_t (fun p hp => (h2 p hp).2) (by decide) (by omega) (neB_pts ?_)
    rw [h4, decide_eq_true rfl]; exact hΘ
theorem good1 {nx : Prop} (hz : Zt 900 (tl z)) (h : motionP (tl z) = some mo) (hn : nx) : ((ifE (cmpT eqB (ret (.int 1)) (ret (.int 0))) (mthS joinD (ret (.str " ")) (lcE (itE (ret mo.d)) (fun p42 k40 => (c1 p_law_point_text (ret p42)) (fun y41 => k40 (some y41)) bot))) (c1 p_law_motion_text (ret mo.d))) (fun again39 => (ifE (cmpT eqB (ret (.int 1)) (ret (.int 0))) (c1 p_is_heap (ret mo.d)) (c1 p_is_motion (ret mo.d))) (fun good43 => (orT (cmpT neB (ret again39) (ret (.str z))) (orT (cmpT isntVB (ret good43) (ret (.bl true))) (andT (cmpT eqB (ret (.int 1)) (ret (.int 0))) (cmpT neB (una listD (ret mo.d)) (c1 p_law_sorted (ret mo.d)))))) (fun b => if b = true then ((ret (.bl false)) Φ Ψ) else nx) Ψ) Ψ) Ψ) := by
  obtain ⟨h1, h2⟩ := motion_out h
  show eqB (.int 1) (.int 0) fun k => if k = true then _ else _
  rw [eqB_i, if_neg (by decide)]
  show p_law_motion_text mo.d _ _
  refine law_motion_text_w h2 (by decide) ?_
  show eqB (.int 1) (.int 0) fun k => if k = true then _ else _
  rw [eqB_i, if_neg (by decide)]
  show p_is_motion mo.d _ _
  refine mo_parts h2.t h2.s h2.f ?_
  have im : isMo (Mo.mk mo.t mo.s mo.f).d = true := isMo_yes h2
  rw [im]
  refine or_w false (fun Θ hΘ => ?_) (fun c => nomatch c) fun _ => or_w false (fun Θ hΘ => hΘ) (fun c => nomatch c) fun _ => and_w false (fun Θ hΘ => ?_) (fun c => nomatch c) fun _ => hn
  · show neB (.str (mk (mT mo))) (.str z) Θ
    rw [h1, mk_tl]
    exact neB_same (shpS hz.str) hΘ
  · show eqB (.int 1) (.int 0) Θ
    rw [eqB_i]; exact hΘ
theorem bad0_w {s : String} (h : s ∈ bads0) (k : Φ (.str "text")) : p_law_read (.int 0) (.str (Str.ofString s)) Φ Ψ := by
  obtain ⟨h1, h2⟩ := bads0_ok s h
  rw [← tl_ofString] at h1 h2
  exact read0_w (Zt.of h1) (fun l e => by rw [h2] at e; cases e) fun _ => k
theorem bad1_w {s : String} (h : s ∈ bads1) (k : Φ (.str "text")) : p_law_read (.int 1) (.str (Str.ofString s)) Φ Ψ := by
  obtain ⟨h1, h2⟩ := bads1_ok s h
  rw [← tl_ofString] at h1 h2
  exact read1_w (Zt.of h1) (fun l e => by rw [h2] at e; cases e) fun _ => k
theorem an4 {o : D → D → (Bool → Prop) → Prop} {f : D → D → M} {a b d : D} {r : M} : andV (cmpV o (c2 f (ret a) (ret b)) (ret d)) r Φ Ψ = f a b (fun u => o u d fun k => bv (.bl k) fun k => if k = true then r Φ Ψ else Φ (.bl false)) Ψ := rfl
theorem cm5 {o : D → D → (Bool → Prop) → Prop} {f : D → D → M} {a b c d e g : D} : cmpV o (c2 f (ret a) (bin addD (bin addD (ret b) (bin repSD (ret c) (ret d))) (ret e))) (ret g) Φ Ψ = repSD c d fun r => addD b r fun s => addD s e fun t => f a t (fun u => o u g fun k => Φ (.bl k)) Ψ := rfl
def longS : Sg := [48, 44, 48, 32] ++ List.replicate 31 49 ++ [44, 48]
theorem long_no : heapP longS = none := by decide +kernel
theorem flip_yes : motionP ("3/5,-4/5 0,1/2 flip".toList.map Char.toNat) = some ⟨⟨3, -4, 5⟩, ⟨0, 1, 2⟩, 1⟩ := by decide +kernel
theorem ones : (⟨(List.replicate (31 : Int).toNat ("1" : Str).cps).foldl (· ++ ·) #[]⟩ : Str) = mk (List.replicate 31 49) := by decide +kernel
theorem end_w (k : Φ (.bl true)) : (andV (cmpV eqB (c2 p_law_read (ret (.int 1)) (ret (.str "3/5,-4/5 0,1/2 flip"))) (ret (.tup [.tup [.int 3, .int (0 - 4), .int 5], .tup [.int 0, .int 1, .int 2], .int 1]))) (cmpV eqB (c2 p_law_read (ret (.int 0)) (bin addD (bin addD (ret (.str "0,0 ")) (bin repSD (ret (.str "1")) (ret (.int 31)))) (ret (.str ",0")))) (ret (.str "text")))) Φ Ψ := by
  rw [an4]
  have fy := flip_yes
  rw [← tl_ofString] at fy
  refine read1_w (Zt.of (by rw [tl_ofString]; decide +kernel)) (fun m hm => ?_) fun hno => absurd (fy.symm.trans hno) (by simp)
  have e := Option.some.inj (hm.symm.trans fy)
  subst e
  refine eqB_same (shp_mo 38 _) ?_
  rw [show ∀ K : Bool → Prop, bv (D.bl true) K = K true from fun _ => rfl, if_pos rfl, cm5]
  refine ⟨⟨by decide, by decide, by decide, by decide⟩, ?_⟩
  rw [ones, show ("0,0 " : Str) = mk [48, 44, 48, 32] from lit_mk rfl]
  refine addS (by simp) ?_
  rw [show (",0" : Str) = mk [44, 48] from lit_mk rfl]
  refine addS (by simp) ?_
  refine read0_w (Zt.of (by show ztB 900 longS = true; decide +kernel)) (fun l hl => ?_) fun _ => eqB_same text_ok k
  have hl : heapP longS = some l := hl
  rw [long_no] at hl; cases hl
theorem law_true : p_k22 (.opq 1) (fun z => z = .bl true) (fun _ => False) := by
  refine ⟨?_⟩
  rw [c1_r]
  refine town_w ?_
  rw [c2_r]
  refine law_heap_w (by decide) (by decide) fun l hp h7 => ?_
  rw [c1_r]
  refine law_motion_w fun mo om => ?_
  have hle := hp.le
  have ok4 : ∀ p ∈ ordL l, Ok 4 p := fun p hq => (hp.ord.ok p hq).mono (by decide)
  have zh : Zt 200 (tl (mk (hT (ordL l)))) := (hT_zt ok4).le (by rw [ordL_len]; omega)
  have zm : Zt 200 (tl (mk (mT mo))) := (mT_zt om).le (by decide)
  rw [lst2]
  refine law_join_w (l := ordL l) (by rw [ordL_len]; omega) (fun p hq => (ok4 p hq).mono (by decide)) ?_ fun K hK => ?_
  · show p_law_motion_text mo.d _ _
    refine law_motion_text_w om (by decide) ?_
    refine or_w false (fun Θ hΘ => ?_) (fun c => nomatch c) fun _ => if_no (fun Θ hΘ => ?_) ?_
    · rw [cm1]
      refine heap_text_w hp (by decide) hl_l (ix_at (j := 0) rfl ?_)
      exact neB_same (shpS zh.str) hΘ
    · rw [cm1]
      refine motion_text_w om (by decide) (ix_at (j := 1) rfl ?_)
      exact neB_same (shpS zm.str) hΘ
    refine or_w false (fun Θ hΘ => ?_) (fun c => nomatch c) fun _ => if_no (fun Θ hΘ => ?_) ?_
    · rw [cm2]
      refine ix_at (j := 0) rfl ?_
      have hin := heap_in hp (by decide)
      refine read0_w (zh.le (by decide)) (fun r hr => ?_) fun hno => ?_
      · have e : r = ordL l := Option.some.inj (hr.symm.trans hin)
        subst e
        refine law_sorted_w hl_l hp.ok (by decide) (by omega) ?_
        rw [tupleD_l]
        refine neB_ptsT ?_
        rw [decide_eq_true rfl]; exact hΘ
      · exact absurd (hin.symm.trans hno) (by simp)
    · rw [cm3]
      refine ix_at (j := 1) rfl ?_
      have hin := motion_in om
      refine read1_w (zm.le (by decide)) (fun r hr => ?_) fun hno => ?_
      · have e : r = mo := Option.some.inj (hr.symm.trans hin)
        subst e
        exact neB_same (shp_mo 38 _) hΘ
      · exact absurd (hin.symm.trans hno) (by simp)
    show _ ∧ forL _ _ _ _
    refine ⟨by decide, forL_run (fun _ _ => True) trivial (fun i x _ hx _ nx hn => ?_) fun _ _ => ?_⟩
    · rw [c2_r]
      refine draw_w (by decide) (by decide) fun k k0 k1 => ?_
      rw [bin_r]
      have hk : k = 0 ∨ k = 1 := by omega
      have go : ∀ (w0 : Str), Zt 200 (tl w0) → ∀ K : D → Prop, (∀ c : Str, Zt 900 (tl c) → K (.str c)) →
          (c2 p_law_draw (ret (.opq 0)) (bin addD (una lnD (ret (.str w0))) (ret (.int 1)))) (fun at32 => (c2 p_law_pick (ret (.opq 0)) (ret (.lst [.str "0", .str "1", .str "-", .str "/", .str ",", .str " ", .str "2", .str "f", .str "flip", .str ""]))) (fun mark33 => (c2 p_law_pick (ret (.opq 0)) (lstE (consA (bin addD (bin addD (slE (ret (.str w0)) noneO (someO (ret at32))) (ret mark33)) (slE (ret (.str w0)) (someO (bin addD (ret at32) (ret (.int 1)))) noneO)) (consA (bin addD (bin addD (slE (ret (.str w0)) noneO (someO (ret at32))) (ret mark33)) (slE (ret (.str w0)) (someO (ret at32)) noneO)) nilA)))) K (fun _ => False)) (fun _ => False)) (fun _ => False) := fun w0 z0 K hK => by
        have := z0.len
        rw [← len_tl] at this
        rw [dr1]
        refine ⟨by omega, ?_⟩
        refine draw_w (by omega) (by omega) fun at_ a0 a1 => ?_
        rw [c2_r]
        refine pick_w (by simp) (by decide) fun d hd => ?_
        obtain ⟨w, rfl, zw⟩ := marks_zt hd
        exact worse_w z0 zw hK
      rcases hk with rfl | rfl
      · refine ix_at (j := 0) rfl (go _ zh _ fun c zc => ?_)
        rw [c2_r]
        refine read0_w zc (fun r hr => ?_) fun hno => ?_
        · refine if_yes (fun Θ hΘ => neS_no shp40_ptsT hΘ) ?_
          exact good0 zc hr (hn _ trivial)
        · exact if_no (fun Θ hΘ => text_same hΘ) (hn _ trivial)
      · refine ix_at (j := 1) rfl (go _ zm _ fun c zc => ?_)
        rw [c2_r]
        refine read1_w zc (fun r hr => ?_) fun hno => ?_
        · refine if_yes (fun Θ hΘ => neS_no (shp_mo 38 r) hΘ) ?_
          exact good1 zc hr (hn _ trivial)
        · exact if_no (fun Θ hΘ => text_same hΘ) (hn _ trivial)
    show forL _ _ _ _
    refine forL_run (fun _ _ => True) trivial (fun i x _ hx _ nx hn => ?_) fun _ _ => ?_
    · refine if_no (fun Θ hΘ => ?_) (hn _ trivial)
      rw [cm4]
      have hx := List.mem_of_getElem? hx
      simp only [List.mem_cons, List.not_mem_nil, or_false] at hx
      have fin : neB (.str "text") (.str "text") Θ := text_same hΘ
      rcases hx with rfl | rfl | rfl | rfl | rfl | rfl | rfl | rfl | rfl | rfl | rfl | rfl <;> first
        | exact read0_no rfl rfl fin
        | exact bad0_w (by decide) fin
    show forL _ _ _ _
    refine forL_run (fun _ _ => True) trivial (fun i x _ hx _ nx hn => ?_) fun _ _ => ?_
    · refine if_no (fun Θ hΘ => ?_) (hn _ trivial)
      rw [cm4]
      have hx := List.mem_of_getElem? hx
      simp only [List.mem_cons, List.not_mem_nil, or_false] at hx
      have fin : neB (.str "text") (.str "text") Θ := text_same hΘ
      rcases hx with rfl | rfl | rfl | rfl | rfl | rfl | rfl | rfl | rfl <;> first
        | exact read1_no rfl rfl fin
        | exact bad1_w (by decide) fin
    exact end_w rfl
  · show p_law_sorted (.lst (l.map Pt.d)) _ _
    exact law_sorted_w hl_l hp.ok (by decide) (by omega) (hK _ hl_l)
end
end G
namespace G.W
open PySem PySem.Spec L2 G
def top (i : Nat) : Stmt := PySem.Challenge.pw_laidover_k22_whole_texts.main.body.getD i (.Pass ⟨0, 0, 0, 0⟩)
section
variable {P : Program} {w : World} {K : PySem.W.Frag} {mg : Str → Option Value} {base : Heap} {f : Addr} {fd : FuncData}
abbrev s_law_town : Stmt := top 40
theorem sc_law_town : FnScope ["_law_script"] ["_law_script"] (defScope s_law_town) := ⟨rfl, rfl, rfl, by decide +kernel, rfl, by decide +kernel, by decide +kernel⟩
theorem ok_law_town (Z : Zs mg) (F : FunD K "_law_town" "_law_town" (defArgs s_law_town) (defBody s_law_town) (defScope s_law_town) [] [] f fd) (hm : mg "_law_town" = some (.ref f)) : FnS P w K mg base "_law_town" 1 1 (sp1 p_law_town) := by
  refine fnS_of (k := 0) F hm sc_law_town (fun ds Φ Ψ h => by obtain ⟨_, rfl, _⟩ := h; rfl) (fun _ _ _ _ _ _ us hl => match us, hl with | [_], _ => rfl) (fun cdv A outer s H E hr ds Φ Ψ h => ?_)
  obtain ⟨_, rfl, rfl, k⟩ := h
  refine qs_town k fun H a ns hs hn => ?_
  have sh : ∀ l : List Int, D.shp 8 (.lst (l.map D.int)) = true := fun l => by
    rw [shp_lst]; exact shpA_all fun d hd => by obtain ⟨i, _, rfl⟩ := List.mem_map.mp hd; rfl
  have rp : ∀ (H : L2.Hp) (l : List Int), RpA K H (l.map V.int) (l.map D.int) := fun H l => by
    induction l with
    | nil => exact .nil
    | cons i l ih => exact .cons (.int i) ih
  refine wSs.cons (ps_ret (pe_lst (pa_cons (pe_ifExp (pt_cmpR (op_neD hr.units) (pe_var (i := 0) rfl (Or.inl rfl)) (pe_lst pa_nil) (nomark _)) (pe_callTy call_list_of rfl Z.list (by decide +kernel) (pa_cons (pe_var (i := 0) rfl (Or.inl rfl)) pa_nil)) (pe_lst (pa_cons pe_int pa_nil))) (pa_cons pe_int pa_nil)))) ?_
  refine ⟨_, rfl, by show 0 ≤ sizeLine; decide, fun p hp => ?_⟩
  have e1 : Ex H (upd H p (.lst [])) := Ex.new hp
  have hd1 : Dp K (upd H p (.lst [])) (.ref a) (D.lst (ns.map D.int)).py := .lst (e1.l hs) (RpA.dp _ _ 7 (by have := sh ns; rw [shp_lst] at this; exact this) (rp _ ns))
  have hd2 : Dp K (upd H p (.lst [])) (.ref p) (D.lst []).py := .lst (SqL.of upd_same) .nil
  refine ⟨_, _, hd1, hd2, D.shp_shaped (sh ns) (by decide), D.shp_shaped (sh []) (by decide), _, rfl, ?_⟩
  have fin : ∀ (Hx : L2.Hp) (l : List Int), Ex H Hx → l ≠ [] → l.length ≤ 63 → ∀ q, Hx q = none → (tCons (tC (.int 0)) tNil) [some (.ref a)] (upd Hx q (.lst (l.map V.int))) (fun ys H2 => (V.ref q :: ys).length ≤ sizeLine ∧ ∀ p, H2 p = none → (TownEnd H).rt (.ref p) (upd H2 p (.lst (V.ref q :: ys)))) := fun Hx l ex hne hl q hq => by
    refine ⟨by show 2 ≤ sizeLine; decide, fun t ht => ?_⟩
    have hn : Hx t = none := by
      cases z : Hx t with
      | none => rfl
      | some u => rw [upd_ne (ne_of_none z hq), z] at ht; cases ht
    have htq : t ≠ q := fun e => by subst e; rw [upd_same] at ht; cases ht
    exact ⟨Hx, t, q, 0, l, ex, hq, hn, htq, hne, rfl, rfl⟩
  cases ns with
  | nil => exact ⟨by show 1 ≤ sizeLine; decide, fun q hq => fin _ [0] e1 (by simp) (by decide) q hq⟩
  | cons i ns =>
    exact ⟨_, rfl, a, _, rfl, .inl (e1.l hs), fun q hq => fin _ (i :: ns) e1 (by simp) hn q hq⟩
abbrev s_law_draw : Stmt := top 41
theorem sc_law_draw : FnScope ["_law_town_here", "_law_count", "_law_row", "_law_at", "_law_cell", "_law_mixed"] ["_law_town_here", "_law_count"] (defScope s_law_draw) := ⟨rfl, rfl, rfl, by decide +kernel, rfl, by decide +kernel, by decide +kernel⟩
theorem ok_law_draw (Z : Zs mg) (F : FunD K "_law_draw" "_law_draw" (defArgs s_law_draw) (defBody s_law_draw) (defScope s_law_draw) [] [] f fd) (hm : mg "_law_draw" = some (.ref f)) : FnS P w K mg base "_law_draw" 1 2 (sp2 p_law_draw) := by
  refine fnS_of (k := 0) F hm sc_law_draw (fun ds Φ Ψ h => by obtain ⟨_, _, rfl, _⟩ := h; rfl) (fun _ _ _ _ _ _ us hl => match us, hl with | [_, _], _ => rfl) (fun cdv A outer s H E hr ds Φ Ψ h => ?_)
  obtain ⟨_, _, rfl, c, rfl, rfl, h0, h1, k⟩ := h
  refine qs_draw k fun H t r n ns x2 x3 x4 x5 htr hne ht hr0 => ?_
  refine wSs.cons (ps_set (i := 2) sc_law_draw.nd rfl (.inl rfl) (pe_ix ix_list (pe_var (i := 0) rfl (Or.inl rfl)) pe_int (fun _ _ => rfl))) ⟨_, rfl, t, _, 0, .ref r, rfl, rfl, SqL.of ht, rfl, ?_⟩
  refine wSs.cons (ps_asg (pe_op op_add (pe_ix ix_list (pe_var (i := 0) rfl (Or.inl rfl)) pe_int (fun _ _ => rfl)) pe_int) (pg_sub (pe_var (i := 0) rfl (Or.inl rfl)) pe_int set_list (fun _ => rfl))) ⟨_, rfl, t, _, 1, .int n, rfl, rfl, SqL.of ht, rfl, n, 1, rfl, rfl, _, rfl, t, _, 1, 1, rfl, rfl, ht, rfl, ?_⟩
  have ht1 : upd H t (.lst [.ref r, .int (n + 1)]) t = some (.lst [.ref r, .int (n + 1)]) := upd_same
  have hr1 : upd H t (.lst [.ref r, .int (n + 1)]) r = some (.lst (ns.map V.int)) := by rw [upd_ne (Ne.symm htr)]; exact hr0
  have hl : 0 < ns.length := List.length_pos_iff.mpr hne
  obtain ⟨cell, hc, j, hj⟩ := row_at hne (n + 1)
  have hl2 : ((ns.map V.int).length : Int) = (ns.length : Int) := by simp
  refine wSs.cons (ps_set (i := 3) sc_law_draw.nd rfl (.inl rfl) (pe_op op_mod (pe_ix ix_list (pe_var (i := 0) rfl (Or.inl rfl)) pe_int (fun _ _ => rfl)) (pe_callB call_len_seq rfl Z.len PySem.boot_len (pa_cons (pe_var (i := 2) rfl (Or.inl rfl)) pa_nil)))) ⟨_, rfl, t, _, 1, .int (n + 1), rfl, rfl, SqL.of ht1, rfl, _, rfl, r, _, rfl, .inl (SqL.of hr1), n + 1, _, rfl, rfl, (by rw [hl2]; omega), ?_⟩
  rw [hl2]
  refine wSs.cons (ps_set (i := 4) sc_law_draw.nd rfl (.inl rfl) (pe_ix ix_list (pe_var (i := 2) rfl (Or.inl rfl)) (pe_var (i := 3) rfl (Or.inl rfl)) (fun _ _ => rfl))) ⟨_, rfl, _, rfl, r, _, _, .int cell, rfl, rfl, SqL.of hr1, hc, ?_⟩
  refine wSs.cons (ps_if (pt_cmpR op_ge (pe_var (i := 4) rfl (Or.inl rfl)) pe_int (nomark _)) pss_w pss_w) ⟨_, rfl, cell, _, rfl, rfl, _, rfl, ?_⟩
  by_cases hb : (1000000000000000000 : Int) ≤ cell
  · rw [decide_eq_true hb]
    show wSs _ _ _ _ _
    refine wSs.cons (ps_asg (pe_op op_fdiv (pe_var (i := 4) rfl (Or.inl rfl)) (pe_var (i := 1) rfl (Or.inl rfl))) (pg_sub (pe_var (i := 2) rfl (Or.inl rfl)) (pe_var (i := 3) rfl (Or.inl rfl)) set_list (fun _ => rfl))) ⟨_, rfl, _, rfl, cell, c, rfl, rfl, ⟨h0, h1⟩, _, rfl, _, rfl, r, _, _, j, rfl, rfl, hr1, hj, ?_⟩
    refine wSs.cons (ps_ret (pe_op op_mod (pe_var (i := 4) rfl (Or.inl rfl)) (pe_var (i := 1) rfl (Or.inl rfl)))) ⟨_, rfl, _, rfl, cell, c, rfl, rfl, h0, cell % c, n + 1, ns.set j (cell / c), rfl, Int.emod_nonneg _ (by omega), Int.emod_lt_of_pos _ h0, (fun e => hne (by simpa using e)), ?_⟩
    rw [List.map_set]; rfl
  · rw [decide_eq_false hb]
    show wSs _ _ _ _ _
    refine wSs.of pss_nil ?_
    have hb1 : ∀ x : Int, 0 ≤ x % 4294967291 ∧ x % 4294967291 < 4294967291 := fun x => ⟨by omega, by omega⟩
    refine wSs.cons (ps_set (i := 5) sc_law_draw.nd rfl (.inl rfl) (pe_op op_mod (pe_op op_add (pe_var (i := 4) rfl (Or.inl rfl)) (pe_op op_mul pe_int (pe_ix ix_list (pe_var (i := 0) rfl (Or.inl rfl)) pe_int (fun _ _ => rfl)))) pe_int)) ⟨_, rfl, _, rfl, t, _, 1, .int (n + 1), rfl, rfl, SqL.of ht1, rfl, 104729, n + 1, rfl, rfl, .inl ⟨by decide, by decide⟩, cell, _, rfl, rfl, _, 4294967291, rfl, rfl, (show (0 : Int) < 4294967291 by decide), ?_⟩
    have b1 := hb1 (cell + 104729 * (n + 1))
    refine wSs.cons (ps_set (i := 5) sc_law_draw.nd rfl (.inl rfl) (pe_op op_mod (pe_op op_pow (pe_var (i := 5) rfl (Or.inl rfl)) pe_int) pe_int)) ⟨_, rfl, (cell + 104729 * (n + 1)) % 4294967291, 5, rfl, rfl, ⟨by decide, by decide, by omega⟩, _, 4294967279, rfl, rfl, (show (0 : Int) < 4294967279 by decide), ?_⟩
    refine wSs.cons (ps_ret (pe_op op_mod (pe_op op_fdiv (pe_op op_mod (pe_op op_add (pe_op op_mul (pe_op op_fdiv (pe_var (i := 5) rfl (Or.inl rfl)) pe_int) pe_int) (pe_var (i := 5) rfl (Or.inl rfl))) pe_int) pe_int) (pe_var (i := 1) rfl (Or.inl rfl)))) ?_
    refine ⟨_, rfl, _, 64, rfl, rfl, ⟨by decide, by decide⟩, _, 69621, rfl, rfl, .inr ⟨by decide, by decide⟩, _, rfl, _, _, rfl, rfl, _, 4294967231, rfl, rfl, (show (0 : Int) < 4294967231 by decide), _, 8, rfl, rfl, ⟨by decide, by decide⟩, _, rfl, _, c, rfl, rfl, h0, _, n + 1, ns, rfl, Int.emod_nonneg _ (by omega), Int.emod_lt_of_pos _ h0, hne, ?_⟩
    funext b
    by_cases hb3 : b = r
    · rw [hb3, upd_same]; exact hr1
    · rw [upd_ne hb3]; rfl
abbrev s_law_gcd : Stmt := top 44
theorem sc_law_gcd : FnScope ["_law_one", "_law_two"] ["_law_one", "_law_two"] (defScope s_law_gcd) := ⟨rfl, rfl, rfl, by decide +kernel, rfl, by decide +kernel, by decide +kernel⟩
theorem ok_law_gcd (Z : Zs mg) (F : FunD K "_law_gcd" "_law_gcd" (defArgs s_law_gcd) (defBody s_law_gcd) (defScope s_law_gcd) [] [] f fd) (hm : mg "_law_gcd" = some (.ref f)) : FnS P w K mg base "_law_gcd" 1 2 (sp2 p_law_gcd) := by
  refine fnS_of (k := 0) F hm sc_law_gcd (fun ds Φ Ψ h => by obtain ⟨_, _, rfl, _⟩ := h; rfl) (fun _ _ _ _ _ _ us hl => match us, hl with | [_, _], _ => rfl) (fun cdv A outer s H E hr ds Φ Ψ h => ?_)
  obtain ⟨one1, two2, rfl, h⟩ := h
  obtain ⟨h⟩ := h
  refine SQ.run ?_
  show SQ _ _ _ [.dat one1, .dat two2] _
  refine s_par 0 1 (sx_max2 Z.max (sx_v 0) (sx_sub sx_i (sx_v 0))) (sx_max2 Z.max (sx_v 1) (sx_sub sx_i (sx_v 1))) h (fun one3 two4 h => ?_) sc_law_gcd.nd
  show SQ _ _ _ [.dat one3, .dat two4] _
  refine s_while (S := D × D) (J := Unit) h (fun s5 j6 => [.dat s5.1, .dat s5.2]) () rfl (fun s5 j6 => (st_ne hr.units (sx_v 1) sx_i)) ?_ ?_ pass_cx
  · intro s5 j6 nx9 h
    show SQ _ _ _ [.dat s5.1, .dat s5.2] _
    refine s_par 0 1 (sx_v 1) (sx_mod (sx_v 0) (sx_v 1)) h (fun one11 two12 h => ?_) sc_law_gcd.nd
    show SQ _ _ _ [.dat one11, .dat two12] _
    exact s_nil ⟨(one11, two12), (), rfl, h⟩
  · intro s7 j8 h
    show SQ _ _ _ [.dat s7.1, .dat s7.2] _
    exact s_ret (sx_v 0) h
abbrev s_law_low : Stmt := top 45
theorem sc_law_low : FnScope ["_law_px", "_law_py", "_law_pw", "_law_div"] ["_law_px", "_law_py", "_law_pw"] (defScope s_law_low) := ⟨rfl, rfl, rfl, by decide +kernel, rfl, by decide +kernel, by decide +kernel⟩
theorem ok_law_low (Z : Zs mg) (F_law_gcd : FnS P w K mg base "_law_gcd" 1 2 (sp2 p_law_gcd)) (F : FunD K "_law_low" "_law_low" (defArgs s_law_low) (defBody s_law_low) (defScope s_law_low) [] [] f fd) (hm : mg "_law_low" = some (.ref f)) : FnS P w K mg base "_law_low" 2 3 (sp3 p_law_low) := by
  refine fnS_of (k := 1) F hm sc_law_low (fun ds Φ Ψ h => by obtain ⟨_, _, _, rfl, _⟩ := h; rfl) (fun _ _ _ _ _ _ us hl => match us, hl with | [_, _, _], _ => rfl) (fun cdv A outer s H E hr ds Φ Ψ h => ?_)
  obtain ⟨px1, py2, pw3, rfl, h⟩ := h
  obtain ⟨h⟩ := h
  refine SQ.run ?_
  show SQ _ _ _ [.dat px1, .dat py2, .dat pw3, .emp] _
  refine s_set 3 (sx_c2 F_law_gcd (hr.mono (by decide)) (sx_c2 F_law_gcd (hr.mono (by decide)) (sx_v 0) (sx_v 1)) (sx_v 2)) h (fun div4 h => ?_) sc_law_low.nd
  show SQ _ _ _ [.dat px1, .dat py2, .dat pw3, .dat div4] _
  refine s_set 3 (sx_if (st_gt (sx_v 2) sx_i) (sx_v 3) (sx_sub sx_i (sx_v 3))) h (fun div5 h => ?_) sc_law_low.nd
  show SQ _ _ _ [.dat px1, .dat py2, .dat pw3, .dat div5] _
  exact s_ret (sx_tup (sa_cons (sx_fdiv (sx_v 0) (sx_v 3)) (sa_cons (sx_fdiv (sx_v 1) (sx_v 3)) (sa_cons (sx_fdiv (sx_v 2) (sx_v 3)) sa_nil)))) h
abbrev s_law_pick : Stmt := top 42
theorem sc_law_pick : FnScope ["_law_town_here", "_law_some"] ["_law_town_here", "_law_some"] (defScope s_law_pick) := ⟨rfl, rfl, rfl, by decide +kernel, rfl, by decide +kernel, by decide +kernel⟩
theorem ok_law_pick (Z : Zs mg) (F_law_draw : FnS P w K mg base "_law_draw" 1 2 (sp2 p_law_draw)) (F : FunD K "_law_pick" "_law_pick" (defArgs s_law_pick) (defBody s_law_pick) (defScope s_law_pick) [] [] f fd) (hm : mg "_law_pick" = some (.ref f)) : FnS P w K mg base "_law_pick" 2 2 (sp2 p_law_pick) := by
  refine fnS_of (k := 1) F hm sc_law_pick (fun ds Φ Ψ h => by obtain ⟨_, _, rfl, _⟩ := h; rfl) (fun _ _ _ _ _ _ us hl => match us, hl with | [_, _], _ => rfl) (fun cdv A outer s H E hr ds Φ Ψ h => ?_)
  obtain ⟨town_here1, some2, rfl, h⟩ := h
  obtain ⟨h⟩ := h
  refine SQ.run ?_
  show SQ _ _ _ [.dat town_here1, .dat some2] _
  exact s_ret (sx_ix (Room.u65 hr) (sx_v 1) (sx_c2 F_law_draw (hr.mono (by decide)) (sx_v 0) (sx_len Z.len (sx_v 1)))) h
abbrev s_law_point : Stmt := top 49
theorem sc_law_point : FnScope ["_law_town_here", "_law_broad", "_law_px", "_law_py"] ["_law_town_here", "_law_broad"] (defScope s_law_point) := ⟨rfl, rfl, rfl, by decide +kernel, rfl, by decide +kernel, by decide +kernel⟩
theorem ok_law_point (Z : Zs mg) (F_law_low : FnS P w K mg base "_law_low" 2 3 (sp3 p_law_low)) (F_law_draw : FnS P w K mg base "_law_draw" 1 2 (sp2 p_law_draw)) (F_law_pick : FnS P w K mg base "_law_pick" 2 2 (sp2 p_law_pick)) (F : FunD K "_law_point" "_law_point" (defArgs s_law_point) (defBody s_law_point) (defScope s_law_point) [] [] f fd) (hm : mg "_law_point" = some (.ref f)) : FnS P w K mg base "_law_point" 3 2 (sp2 p_law_point) := by
  refine fnS_of (k := 2) F hm sc_law_point (fun ds Φ Ψ h => by obtain ⟨_, _, rfl, _⟩ := h; rfl) (fun _ _ _ _ _ _ us hl => match us, hl with | [_, _], _ => rfl) (fun cdv A outer s H E hr ds Φ Ψ h => ?_)
  obtain ⟨town_here1, broad2, rfl, h⟩ := h
  obtain ⟨h⟩ := h
  refine SQ.run ?_
  show SQ _ _ _ [.dat town_here1, .dat broad2, .emp, .emp] _
  refine s_set 2 (sx_sub (sx_c2 F_law_draw (hr.mono (by decide)) (sx_v 0) (sx_add (sx_mul sx_i (sx_v 1)) sx_i)) (sx_v 1)) h (fun px3 h => ?_) sc_law_point.nd
  show SQ _ _ _ [.dat town_here1, .dat broad2, .dat px3, .emp] _
  refine s_set 3 (sx_sub (sx_c2 F_law_draw (hr.mono (by decide)) (sx_v 0) (sx_add (sx_mul sx_i (sx_v 1)) sx_i)) (sx_v 1)) h (fun py4 h => ?_) sc_law_point.nd
  show SQ _ _ _ [.dat town_here1, .dat broad2, .dat px3, .dat py4] _
  exact s_ret (sx_c3 F_law_low (hr.mono (by decide)) (sx_v 2) (sx_v 3) (sx_c2 F_law_pick (hr.mono (by decide)) (sx_v 0) (sx_lit (.lst [.int 1, .int 1, .int 1, .int 2, .int 3])))) h
abbrev s_law_heap : Stmt := top 52
theorem sc_law_heap : FnScope ["_law_town_here", "_law_most", "_law_lot", "_law_found", "_law_k"] ["_law_town_here", "_law_most"] (defScope s_law_heap) := ⟨rfl, rfl, rfl, by decide +kernel, rfl, by decide +kernel, by decide +kernel⟩
theorem ok_law_heap (Z : Zs mg) (F_law_draw : FnS P w K mg base "_law_draw" 1 2 (sp2 p_law_draw)) (F_law_point : FnS P w K mg base "_law_point" 3 2 (sp2 p_law_point)) (F : FunD K "_law_heap" "_law_heap" (defArgs s_law_heap) (defBody s_law_heap) (defScope s_law_heap) [] [] f fd) (hm : mg "_law_heap" = some (.ref f)) : FnS P w K mg base "_law_heap" 4 2 (sp2 p_law_heap) := by
  refine fnS_of (k := 3) F hm sc_law_heap (fun ds Φ Ψ h => by obtain ⟨_, _, rfl, _⟩ := h; rfl) (fun _ _ _ _ _ _ us hl => match us, hl with | [_, _], _ => rfl) (fun cdv A outer s H E hr ds Φ Ψ h => ?_)
  obtain ⟨town_here1, most2, rfl, h⟩ := h
  obtain ⟨h⟩ := h
  refine SQ.run ?_
  show SQ _ _ _ [.dat town_here1, .dat most2, .emp, .emp, .emp] _
  refine s_set 2 (sx_c2 F_law_draw (hr.mono (by decide)) (sx_v 0) sx_i) h (fun lot3 h => ?_) sc_law_heap.nd
  show SQ _ _ _ [.dat town_here1, .dat most2, .dat lot3, .emp, .emp] _
  refine s_set 3 (sx_lc0 sc_law_heap.nd (blkOk_by (N := ["_law_town_here", "_law_most", "_law_lot", "_law_found", "_law_k"]) (sc := defScope s_law_heap) (own := [("_law_k", 4)]) (by decide +kernel)) (si_range1 Z.range (sx_add sx_i (sx_c2 F_law_draw (hr.mono (by decide)) (sx_v 0) (sx_sub (sx_v 1) sx_i)))) (fun k7 k5 h => ⟨_, qgb_name 4 sc_law_heap.nd, fun s H C cl fp => ((sx_c2 F_law_point (hr.mono (by decide)) (sx_v 0) sx_i)).run h⟩)) h (fun found4 h => ?_) sc_law_heap.nd
  show SQ _ _ _ [.dat town_here1, .dat most2, .dat lot3, .dat found4, .emp] _
  refine s_ifJ (J := D) h (st_eq hr.units (sx_v 2) sx_i) (fun j => [.dat town_here1, .dat most2, .dat lot3, .dat j, .emp]) (fun j k => k (j)) ?_ ?_ ?_
  · rintro found9 h
    show SQ _ _ _ [.dat town_here1, .dat most2, .dat lot3, .dat found9, .emp] _
    refine s_ifJ (J := D) h (st_eq hr.units (sx_v 2) sx_i) (fun j => [.dat town_here1, .dat most2, .dat lot3, .dat j, .emp]) (fun j k => k (j)) ?_ ?_ ?_
    · rintro found11 h
      show SQ _ _ _ [.dat town_here1, .dat most2, .dat lot3, .dat found11, .emp] _
      refine s_ifJ (J := D) h (st_eq hr.units (sx_v 2) sx_i) (fun j => [.dat town_here1, .dat most2, .dat lot3, .dat j, .emp]) (fun j k => k (j)) ?_ ?_ ?_
      · rintro found13 h
        show SQ _ _ _ [.dat town_here1, .dat most2, .dat lot3, .dat found13, .emp] _
        refine s_set 3 (sx_lc1 sc_law_heap.nd (blkOk_by (N := ["_law_town_here", "_law_most", "_law_lot", "_law_found", "_law_k"]) (sc := defScope s_law_heap) (own := [("_law_k", 4)]) (by decide +kernel)) (si_range1 Z.range (sx_len Z.len (sx_v 3))) (fun k17 k15 h => ⟨_, qgb_name 4 sc_law_heap.nd, (cmpT ninB (bin ixD (ret found13) (ret k17)) (slE (ret found13) noneO (someO (ret k17)))), (fun b => if b = true then (bin ixD (ret found13) (ret k17)) (fun y16 => k15 (some y16)) bot else k15 none), h, fun s H C cl fp => (st_nin (Room.u65 hr) (sx_ix (Room.u65 hr) (sx_v 3) (sx_v 4)) (sx_sl (sx_v 3) so_none (so_some (sx_v 4)))), fun h s H C cl fp => ((sx_ix (Room.u65 hr) (sx_v 3) (sx_v 4))).run (itU h), fun h => itG h⟩)) h (fun found14 h => ?_) sc_law_heap.nd
        show SQ _ _ _ [.dat town_here1, .dat most2, .dat lot3, .dat found14, .emp] _
        exact s_ret (sx_if (st_gt (sx_len Z.len (sx_v 3)) sx_i) (sx_v 3) (sx_add (sx_v 3) (sx_lit (.lst [.tup [.int 7, .int 7, .int 1]])))) h
      · intro h
        refine s_set 3 (sx_lc0 sc_law_heap.nd (blkOk_by (N := ["_law_town_here", "_law_most", "_law_lot", "_law_found", "_law_k"]) (sc := defScope s_law_heap) (own := [("_law_k", 4)]) (by decide +kernel)) (si_range1 Z.range (sx_max2 Z.max sx_i (sx_sub (sx_v 1) sx_i))) (fun k21 k19 h => ⟨_, qgb_name 4 sc_law_heap.nd, fun s H C cl fp => ((sx_tup (sa_cons (sx_v 4) (sa_cons (sx_mul (sx_v 4) (sx_c2 F_law_draw (hr.mono (by decide)) (sx_v 0) sx_i)) (sa_cons sx_i sa_nil))))).run h⟩)) h (fun found18 h => ?_) sc_law_heap.nd
        show SQ _ _ _ [.dat town_here1, .dat most2, .dat lot3, .dat found18, .emp] _
        exact s_nil ⟨found18, rfl, h⟩
      · intro h
        exact s_nil ⟨found11, rfl, h⟩
    · intro h
      refine s_set 3 (sx_sl (sx_lit (.lst [.tup [.int 1, .int 0, .int 1], .tup [.int (0 - 1), .int 0, .int 1], .tup [.int 0, .int 1, .int 1], .tup [.int 0, .int (0 - 1), .int 1], .tup [.int 3, .int 4, .int 5], .tup [.int 4, .int (0 - 3), .int 5]])) so_none (so_some (sx_v 1))) h (fun found22 h => ?_) sc_law_heap.nd
      show SQ _ _ _ [.dat town_here1, .dat most2, .dat lot3, .dat found22, .emp] _
      exact s_nil ⟨found22, rfl, h⟩
    · intro h
      exact s_nil ⟨found9, rfl, h⟩
  · intro h
    refine s_set 3 (sx_add (sx_lit (.lst [.tup [.int 0, .int 0, .int 1], .tup [.int 2, .int 0, .int 1], .tup [.int 0, .int 2, .int 1], .tup [.int 2, .int 2, .int 1]])) (sx_sl (sx_v 3) so_none (so_some (sx_c2 F_law_draw (hr.mono (by decide)) (sx_v 0) sx_i)))) h (fun found23 h => ?_) sc_law_heap.nd
    show SQ _ _ _ [.dat town_here1, .dat most2, .dat lot3, .dat found23, .emp] _
    exact s_nil ⟨found23, rfl, h⟩
  · intro h
    exact s_nil ⟨found4, rfl, h⟩
abbrev s_law_turn : Stmt := top 50
theorem sc_law_turn : FnScope ["_law_town_here", "_law_a", "_law_b", "_law_w"] ["_law_town_here"] (defScope s_law_turn) := ⟨rfl, rfl, rfl, by decide +kernel, rfl, by decide +kernel, by decide +kernel⟩
theorem ok_law_turn (Z : Zs mg) (F_law_pick : FnS P w K mg base "_law_pick" 2 2 (sp2 p_law_pick)) (F_law_low : FnS P w K mg base "_law_low" 2 3 (sp3 p_law_low)) (F : FunD K "_law_turn" "_law_turn" (defArgs s_law_turn) (defBody s_law_turn) (defScope s_law_turn) [] [] f fd) (hm : mg "_law_turn" = some (.ref f)) : FnS P w K mg base "_law_turn" 3 1 (sp1 p_law_turn) := by
  refine fnS_of (k := 2) F hm sc_law_turn (fun ds Φ Ψ h => by obtain ⟨_, rfl, _⟩ := h; rfl) (fun _ _ _ _ _ _ us hl => match us, hl with | [_], _ => rfl) (fun cdv A outer s H E hr ds Φ Ψ h => ?_)
  obtain ⟨town_here1, rfl, h⟩ := h
  obtain ⟨h⟩ := h
  refine SQ.run ?_
  show SQ _ _ _ [.dat town_here1, .emp, .emp, .emp] _
  refine s_un3 (sx_c2 F_law_pick (hr.mono (by decide)) (sx_v 0) (sx_lit (.lst [.tup [.int 1, .int 0, .int 1], .tup [.int 0, .int 1, .int 1], .tup [.int 3, .int 4, .int 5], .tup [.int 4, .int 3, .int 5], .tup [.int 5, .int 12, .int 13]]))) h (fun a2 b3 w4 h => ?_)
  refine ⟨_, (qgs_cons (qg_name 1 sc_law_turn.nd) (qgs_cons (qg_name 2 sc_law_turn.nd) (qgs_cons (qg_name 3 sc_law_turn.nd) qgs_nil))), ?_⟩
  show SQ _ _ _ [.dat town_here1, .dat a2, .dat b3, .dat w4] _
  exact s_ret (sx_c3 F_law_low (hr.mono (by decide)) (sx_mul (sx_v 1) (sx_c2 F_law_pick (hr.mono (by decide)) (sx_v 0) (sx_lit (.lst [.int 1, .int (0 - 1)])))) (sx_mul (sx_v 2) (sx_c2 F_law_pick (hr.mono (by decide)) (sx_v 0) (sx_lit (.lst [.int 1, .int (0 - 1)])))) (sx_v 3)) h
abbrev s_law_motion : Stmt := top 51
theorem sc_law_motion : FnScope ["_law_town_here"] ["_law_town_here"] (defScope s_law_motion) := ⟨rfl, rfl, rfl, by decide +kernel, rfl, by decide +kernel, by decide +kernel⟩
theorem ok_law_motion (Z : Zs mg) (F_law_turn : FnS P w K mg base "_law_turn" 3 1 (sp1 p_law_turn)) (F_law_point : FnS P w K mg base "_law_point" 3 2 (sp2 p_law_point)) (F_law_draw : FnS P w K mg base "_law_draw" 1 2 (sp2 p_law_draw)) (F : FunD K "_law_motion" "_law_motion" (defArgs s_law_motion) (defBody s_law_motion) (defScope s_law_motion) [] [] f fd) (hm : mg "_law_motion" = some (.ref f)) : FnS P w K mg base "_law_motion" 4 1 (sp1 p_law_motion) := by
  refine fnS_of (k := 3) F hm sc_law_motion (fun ds Φ Ψ h => by obtain ⟨_, rfl, _⟩ := h; rfl) (fun _ _ _ _ _ _ us hl => match us, hl with | [_], _ => rfl) (fun cdv A outer s H E hr ds Φ Ψ h => ?_)
  obtain ⟨town_here1, rfl, h⟩ := h
  obtain ⟨h⟩ := h
  refine SQ.run ?_
  show SQ _ _ _ [.dat town_here1] _
  exact s_ret (sx_tup (sa_cons (sx_c1 F_law_turn (hr.mono (by decide)) (sx_v 0)) (sa_cons (sx_c2 F_law_point (hr.mono (by decide)) (sx_v 0) sx_i) (sa_cons (sx_c2 F_law_draw (hr.mono (by decide)) (sx_v 0) sx_i) sa_nil)))) h
abbrev s_law_share : Stmt := top 46
theorem sc_law_share : FnScope ["_law_top", "_law_low_here", "_law_div"] ["_law_top", "_law_low_here"] (defScope s_law_share) := ⟨rfl, rfl, rfl, by decide +kernel, rfl, by decide +kernel, by decide +kernel⟩
theorem ok_law_share (Z : Zs mg) (F_law_gcd : FnS P w K mg base "_law_gcd" 1 2 (sp2 p_law_gcd)) (F : FunD K "_law_share" "_law_share" (defArgs s_law_share) (defBody s_law_share) (defScope s_law_share) [] [] f fd) (hm : mg "_law_share" = some (.ref f)) : FnS P w K mg base "_law_share" 2 2 (sp2 p_law_share) := by
  refine fnS_of (k := 1) F hm sc_law_share (fun ds Φ Ψ h => by obtain ⟨_, _, rfl, _⟩ := h; rfl) (fun _ _ _ _ _ _ us hl => match us, hl with | [_, _], _ => rfl) (fun cdv A outer s H E hr ds Φ Ψ h => ?_)
  obtain ⟨top1, low_here2, rfl, h⟩ := h
  obtain ⟨h⟩ := h
  refine SQ.run ?_
  show SQ _ _ _ [.dat top1, .dat low_here2, .emp] _
  refine s_set 2 (sx_c2 F_law_gcd (hr.mono (by decide)) (sx_v 0) (sx_v 1)) h (fun div3 h => ?_) sc_law_share.nd
  show SQ _ _ _ [.dat top1, .dat low_here2, .dat div3] _
  refine s_set 2 (sx_if (st_gt (sx_v 1) sx_i) (sx_v 2) (sx_sub sx_i (sx_v 2))) h (fun div4 h => ?_) sc_law_share.nd
  show SQ _ _ _ [.dat top1, .dat low_here2, .dat div4] _
  exact s_ret (sx_tup (sa_cons (sx_fdiv (sx_v 0) (sx_v 2)) (sa_cons (sx_fdiv (sx_v 1) (sx_v 2)) sa_nil))) h
abbrev s_law_number : Stmt := top 53
theorem sc_law_number : FnScope ["_law_top", "_law_low_here", "_law_one"] ["_law_top", "_law_low_here"] (defScope s_law_number) := ⟨rfl, rfl, rfl, by decide +kernel, rfl, by decide +kernel, by decide +kernel⟩
theorem ok_law_number (Z : Zs mg) (F_law_share : FnS P w K mg base "_law_share" 2 2 (sp2 p_law_share)) (F : FunD K "_law_number" "_law_number" (defArgs s_law_number) (defBody s_law_number) (defScope s_law_number) [] [] f fd) (hm : mg "_law_number" = some (.ref f)) : FnS P w K mg base "_law_number" 3 2 (sp2 p_law_number) := by
  refine fnS_of (k := 2) F hm sc_law_number (fun ds Φ Ψ h => by obtain ⟨_, _, rfl, _⟩ := h; rfl) (fun _ _ _ _ _ _ us hl => match us, hl with | [_, _], _ => rfl) (fun cdv A outer s H E hr ds Φ Ψ h => ?_)
  obtain ⟨top1, low_here2, rfl, h⟩ := h
  obtain ⟨h⟩ := h
  refine SQ.run ?_
  show SQ _ _ _ [.dat top1, .dat low_here2, .emp] _
  refine s_set 2 (sx_c2 F_law_share (hr.mono (by decide)) (sx_v 0) (sx_v 1)) h (fun one3 h => ?_) sc_law_number.nd
  show SQ _ _ _ [.dat top1, .dat low_here2, .dat one3] _
  exact s_ret (sx_add (sx_str Z.str (sx_ix (Room.u65 hr) (sx_v 2) sx_i)) (sx_if (st_eq hr.units (sx_ix (Room.u65 hr) (sx_v 2) sx_i) sx_i) sx_s (sx_add sx_s (sx_str Z.str (sx_ix (Room.u65 hr) (sx_v 2) sx_i))))) h
abbrev s_law_point_text : Stmt := top 54
theorem sc_law_point_text : FnScope ["_law_p"] ["_law_p"] (defScope s_law_point_text) := ⟨rfl, rfl, rfl, by decide +kernel, rfl, by decide +kernel, by decide +kernel⟩
theorem ok_law_point_text (Z : Zs mg) (F_law_number : FnS P w K mg base "_law_number" 3 2 (sp2 p_law_number)) (F : FunD K "_law_point_text" "_law_point_text" (defArgs s_law_point_text) (defBody s_law_point_text) (defScope s_law_point_text) [] [] f fd) (hm : mg "_law_point_text" = some (.ref f)) : FnS P w K mg base "_law_point_text" 4 1 (sp1 p_law_point_text) := by
  refine fnS_of (k := 3) F hm sc_law_point_text (fun ds Φ Ψ h => by obtain ⟨_, rfl, _⟩ := h; rfl) (fun _ _ _ _ _ _ us hl => match us, hl with | [_], _ => rfl) (fun cdv A outer s H E hr ds Φ Ψ h => ?_)
  obtain ⟨p1, rfl, h⟩ := h
  obtain ⟨h⟩ := h
  refine SQ.run ?_
  show SQ _ _ _ [.dat p1] _
  exact s_ret (sx_add (sx_add (sx_c2 F_law_number (hr.mono (by decide)) (sx_ix (Room.u65 hr) (sx_v 0) sx_i) (sx_ix (Room.u65 hr) (sx_v 0) sx_i)) sx_s) (sx_c2 F_law_number (hr.mono (by decide)) (sx_ix (Room.u65 hr) (sx_v 0) sx_i) (sx_ix (Room.u65 hr) (sx_v 0) sx_i))) h
abbrev s_law_motion_text : Stmt := top 55
theorem sc_law_motion_text : FnScope ["_law_motion_here"] ["_law_motion_here"] (defScope s_law_motion_text) := ⟨rfl, rfl, rfl, by decide +kernel, rfl, by decide +kernel, by decide +kernel⟩
theorem ok_law_motion_text (Z : Zs mg) (F_law_point_text : FnS P w K mg base "_law_point_text" 4 1 (sp1 p_law_point_text)) (F : FunD K "_law_motion_text" "_law_motion_text" (defArgs s_law_motion_text) (defBody s_law_motion_text) (defScope s_law_motion_text) [] [] f fd) (hm : mg "_law_motion_text" = some (.ref f)) : FnS P w K mg base "_law_motion_text" 5 1 (sp1 p_law_motion_text) := by
  refine fnS_of (k := 4) F hm sc_law_motion_text (fun ds Φ Ψ h => by obtain ⟨_, rfl, _⟩ := h; rfl) (fun _ _ _ _ _ _ us hl => match us, hl with | [_], _ => rfl) (fun cdv A outer s H E hr ds Φ Ψ h => ?_)
  obtain ⟨motion_here1, rfl, h⟩ := h
  obtain ⟨h⟩ := h
  refine SQ.run ?_
  show SQ _ _ _ [.dat motion_here1] _
  exact s_ret (sx_add (sx_add (sx_add (sx_c1 F_law_point_text (hr.mono (by decide)) (sx_ix (Room.u65 hr) (sx_v 0) sx_i)) sx_s) (sx_c1 F_law_point_text (hr.mono (by decide)) (sx_ix (Room.u65 hr) (sx_v 0) sx_i))) (sx_if (st_eq hr.units (sx_ix (Room.u65 hr) (sx_v 0) sx_i) sx_i) sx_s sx_s)) h
abbrev s_law_refusal : Stmt := top 43
theorem sc_law_refusal : FnScope ["_law_caught", "_law_sorts"] ["_law_caught"] (defScope s_law_refusal) := ⟨rfl, rfl, rfl, by decide +kernel, rfl, by decide +kernel, by decide +kernel⟩
theorem ok_law_refusal (Z : Zs mg) (EI : ExcI K mg) (E_BadMotion : ExcF K mg "BadMotion") (E_BadPoint : ExcF K mg "BadPoint") (E_BadNumber : ExcF K mg "BadNumber") (E_BadName : ExcF K mg "BadName") (E_BadPairs : ExcF K mg "BadPairs") (E_BadHeap : ExcF K mg "BadHeap") (E_NoThing : ExcF K mg "NoThing") (E_BadText : ExcF K mg "BadText") (v_ValueError : mg "ValueError" = none) (F : FunD K "_law_refusal" "_law_refusal" (defArgs s_law_refusal) (defBody s_law_refusal) (defScope s_law_refusal) [] [] f fd) (hm : mg "_law_refusal" = some (.ref f)) : FnS P w K mg base "_law_refusal" 1 1 (sp1 p_law_refusal) := by
  refine fnS_of (k := 0) F hm sc_law_refusal (fun ds Φ Ψ h => by obtain ⟨_, rfl, _⟩ := h; rfl) (fun _ _ _ _ _ _ us hl => match us, hl with | [_], _ => rfl) (fun cdv A outer s H E hr ds Φ Ψ h => ?_)
  obtain ⟨caught1, rfl, h⟩ := h
  obtain ⟨h⟩ := h
  refine SQ.run ?_
  show SQ _ _ _ [.dat caught1, .emp] _
  refine s_set 1 (sx_lst (sa_cons (sx_isx EI Z.isinstance E_BadNumber.g (sx_v 0)) (sa_cons (sx_isx EI Z.isinstance E_BadPoint.g (sx_v 0)) (sa_cons (sx_isx EI Z.isinstance E_BadMotion.g (sx_v 0)) sa_nil)))) h (fun sorts2 h => ?_) sc_law_refusal.nd
  show SQ _ _ _ [.dat caught1, .dat sorts2] _
  refine s_set 1 (sx_add (sx_v 1) (sx_lst (sa_cons (sx_isx EI Z.isinstance E_BadHeap.g (sx_v 0)) (sa_cons (sx_isx EI Z.isinstance E_BadPairs.g (sx_v 0)) (sa_cons (sx_isx EI Z.isinstance E_BadName.g (sx_v 0)) sa_nil))))) h (fun sorts3 h => ?_) sc_law_refusal.nd
  show SQ _ _ _ [.dat caught1, .dat sorts3] _
  refine s_set 1 (sx_add (sx_v 1) (sx_lst (sa_cons (sx_isx EI Z.isinstance E_BadText.g (sx_v 0)) (sa_cons (sx_isx EI Z.isinstance E_NoThing.g (sx_v 0)) sa_nil)))) h (fun sorts4 h => ?_) sc_law_refusal.nd
  show SQ _ _ _ [.dat caught1, .dat sorts4] _
  refine s_if (sw_t (sw_or (st_ne hr.units (sx_count (sx_v 1) sx_b) sx_i) (sw_or (st_not (st_v (sx_isx EI Z.isinstance EI.over (sx_v 0)))) (sw_or1 (st_not (st_v (sx_isv EI Z.isinstance v_ValueError (sx_v 0)))))))) h (fun h => ?_) (fun h => ?_)
  · exact s_ret sx_s h
  · refine s_nil ?_
    show SQ _ _ _ [.dat caught1, .dat sorts4] _
    exact s_ret (sx_ix (Room.u65 hr) (sx_lit (.lst [.str "number", .str "point", .str "motion", .str "heap", .str "pairs", .str "name", .str "text", .str "none"])) (sx_index (sx_v 1) sx_b)) h
abbrev s_common : Stmt := top 13
theorem sc_common : FnScope ["one", "other"] ["one", "other"] (defScope s_common) := ⟨rfl, rfl, rfl, by decide +kernel, rfl, by decide +kernel, by decide +kernel⟩
theorem ok_common (Z : Zs mg) (F : FunD K "common" "common" (defArgs s_common) (defBody s_common) (defScope s_common) [] [] f fd) (hm : mg "common" = some (.ref f)) : FnS P w K mg base "common" 1 2 (sp2 p_common) := by
  refine fnS_of (k := 0) F hm sc_common (fun ds Φ Ψ h => by obtain ⟨_, _, rfl, _⟩ := h; rfl) (fun _ _ _ _ _ _ us hl => match us, hl with | [_, _], _ => rfl) (fun cdv A outer s H E hr ds Φ Ψ h => ?_)
  obtain ⟨one1, other2, rfl, h⟩ := h
  obtain ⟨h⟩ := h
  refine SQ.run ?_
  show SQ _ _ _ [.dat one1, .dat other2] _
  refine s_par 0 1 (sx_abs Z.abs (sx_v 0)) (sx_abs Z.abs (sx_v 1)) h (fun one3 other4 h => ?_) sc_common.nd
  show SQ _ _ _ [.dat one3, .dat other4] _
  refine s_while (S := D × D) (J := Unit) h (fun s5 j6 => [.dat s5.1, .dat s5.2]) () rfl (fun s5 j6 => (st_ne hr.units (sx_v 1) sx_i)) ?_ ?_ pass_cx
  · intro s5 j6 nx9 h
    show SQ _ _ _ [.dat s5.1, .dat s5.2] _
    refine s_par 0 1 (sx_v 1) (sx_mod (sx_v 0) (sx_v 1)) h (fun one11 other12 h => ?_) sc_common.nd
    show SQ _ _ _ [.dat one11, .dat other12] _
    exact s_nil ⟨(one11, other12), (), rfl, h⟩
  · intro s7 j8 h
    show SQ _ _ _ [.dat s7.1, .dat s7.2] _
    exact s_ret (sx_v 0) h
abbrev s_lowest : Stmt := top 15
theorem sc_lowest : FnScope ["a", "b", "w", "by"] ["a", "b", "w"] (defScope s_lowest) := ⟨rfl, rfl, rfl, by decide +kernel, rfl, by decide +kernel, by decide +kernel⟩
theorem ok_lowest (Z : Zs mg) (F_common : FnS P w K mg base "common" 1 2 (sp2 p_common)) (F : FunD K "lowest" "lowest" (defArgs s_lowest) (defBody s_lowest) (defScope s_lowest) [] [] f fd) (hm : mg "lowest" = some (.ref f)) : FnS P w K mg base "lowest" 2 3 (sp3 p_lowest) := by
  refine fnS_of (k := 1) F hm sc_lowest (fun ds Φ Ψ h => by obtain ⟨_, _, _, rfl, _⟩ := h; rfl) (fun _ _ _ _ _ _ us hl => match us, hl with | [_, _, _], _ => rfl) (fun cdv A outer s H E hr ds Φ Ψ h => ?_)
  obtain ⟨a1, b2, w3, rfl, h⟩ := h
  obtain ⟨h⟩ := h
  refine SQ.run ?_
  show SQ _ _ _ [.dat a1, .dat b2, .dat w3, .emp] _
  refine s_set 3 (sx_c2 F_common (hr.mono (by decide)) (sx_c2 F_common (hr.mono (by decide)) (sx_v 0) (sx_v 1)) (sx_v 2)) h (fun by4 h => ?_) sc_lowest.nd
  show SQ _ _ _ [.dat a1, .dat b2, .dat w3, .dat by4] _
  refine s_set 3 (sx_if (st_gt (sx_v 2) sx_i) (sx_v 3) (sx_neg (sx_v 3))) h (fun by5 h => ?_) sc_lowest.nd
  show SQ _ _ _ [.dat a1, .dat b2, .dat w3, .dat by5] _
  exact s_ret (sx_tup (sa_cons (sx_fdiv (sx_v 0) (sx_v 3)) (sa_cons (sx_fdiv (sx_v 1) (sx_v 3)) (sa_cons (sx_fdiv (sx_v 2) (sx_v 3)) sa_nil)))) h
abbrev s_whole_in : Stmt := top 34
theorem sc_whole_in : FnScope ["text", "figures", "one"] ["text"] (defScope s_whole_in) := ⟨rfl, rfl, rfl, by decide +kernel, rfl, by decide +kernel, by decide +kernel⟩
theorem ok_whole_in (Z : Zs mg) (i_FIGURES : ∃ t, mg "FIGURES" = some (.str "0123456789" t)) (E_BadText : ExcF K mg "BadText") (F : FunD K "whole_in" "whole_in" (defArgs s_whole_in) (defBody s_whole_in) (defScope s_whole_in) [] [] f fd) (hm : mg "whole_in" = some (.ref f)) : FnS P w K mg base "whole_in" 1 1 (sp1 p_whole_in) := by
  refine fnS_of (k := 0) F hm sc_whole_in (fun ds Φ Ψ h => by obtain ⟨_, rfl, _⟩ := h; rfl) (fun _ _ _ _ _ _ us hl => match us, hl with | [_], _ => rfl) (fun cdv A outer s H E hr ds Φ Ψ h => ?_)
  obtain ⟨text1, rfl, h⟩ := h
  obtain ⟨h⟩ := h
  refine SQ.run ?_
  show SQ _ _ _ [.dat text1, .emp, .emp] _
  refine s_set 1 (sx_if (st_eq hr.units (sx_sl (sx_v 0) so_none (so_some sx_i)) sx_s) (sx_sl (sx_v 0) (so_some sx_i) so_none) (sx_v 0)) h (fun figures2 h => ?_) sc_whole_in.nd
  show SQ _ _ _ [.dat text1, .dat figures2, .emp] _
  refine s_if (sw_t (sw_or (st_eq hr.units (sx_v 1) sx_s) (sw_or (st_gt (sx_len Z.len (sx_v 1)) sx_i) (sw_or1 (st_not (st_v (sx_all Z.all (sx_lc0 sc_whole_in.nd (blkOk_by (N := ["text", "figures", "one"]) (sc := defScope s_whole_in) (own := [("one", 2)]) (by decide +kernel)) (si_str (sx_v 1)) (fun one5 k3 h => ⟨_, qgb_name 2 sc_whole_in.nd, fun s H C cl fp => ((sx_inS (sx_v 2) (sx_gs i_FIGURES))).run h⟩))))))))) h (fun h => ?_) (fun h => ?_)
  · exact s_raise E_BadText h
  · refine s_nil ?_
    show SQ _ _ _ [.dat text1, .dat figures2, .emp] _
    refine s_if (sw_t (sw_and (st_eq hr.units (sx_ixS (sx_v 1) sx_i) sx_s) (sw_and1 (st_ne hr.units (sx_v 0) sx_s)))) h (fun h => ?_) (fun h => ?_)
    · exact s_raise E_BadText h
    · refine s_nil ?_
      show SQ _ _ _ [.dat text1, .dat figures2, .emp] _
      exact s_ret (sx_int Z.int (sx_v 0)) h
abbrev s_share : Stmt := top 14
theorem sc_share : FnScope ["top", "below", "by"] ["top", "below"] (defScope s_share) := ⟨rfl, rfl, rfl, by decide +kernel, rfl, by decide +kernel, by decide +kernel⟩
theorem ok_share (Z : Zs mg) (F_common : FnS P w K mg base "common" 1 2 (sp2 p_common)) (F : FunD K "share" "share" (defArgs s_share) (defBody s_share) (defScope s_share) [] [] f fd) (hm : mg "share" = some (.ref f)) : FnS P w K mg base "share" 2 2 (sp2 p_share) := by
  refine fnS_of (k := 1) F hm sc_share (fun ds Φ Ψ h => by obtain ⟨_, _, rfl, _⟩ := h; rfl) (fun _ _ _ _ _ _ us hl => match us, hl with | [_, _], _ => rfl) (fun cdv A outer s H E hr ds Φ Ψ h => ?_)
  obtain ⟨top1, below2, rfl, h⟩ := h
  obtain ⟨h⟩ := h
  refine SQ.run ?_
  show SQ _ _ _ [.dat top1, .dat below2, .emp] _
  refine s_set 2 (sx_c2 F_common (hr.mono (by decide)) (sx_v 0) (sx_v 1)) h (fun by3 h => ?_) sc_share.nd
  show SQ _ _ _ [.dat top1, .dat below2, .dat by3] _
  refine s_set 2 (sx_if (st_gt (sx_v 1) sx_i) (sx_v 2) (sx_neg (sx_v 2))) h (fun by4 h => ?_) sc_share.nd
  show SQ _ _ _ [.dat top1, .dat below2, .dat by4] _
  exact s_ret (sx_tup (sa_cons (sx_fdiv (sx_v 0) (sx_v 2)) (sa_cons (sx_fdiv (sx_v 1) (sx_v 2)) sa_nil))) h
abbrev s_share_in : Stmt := top 35
theorem sc_share_in : FnScope ["text", "parts", "top", "below"] ["text"] (defScope s_share_in) := ⟨rfl, rfl, rfl, by decide +kernel, rfl, by decide +kernel, by decide +kernel⟩
theorem ok_share_in (Z : Zs mg) (F_whole_in : FnS P w K mg base "whole_in" 1 1 (sp1 p_whole_in)) (F_share : FnS P w K mg base "share" 2 2 (sp2 p_share)) (E_BadText : ExcF K mg "BadText") (F : FunD K "share_in" "share_in" (defArgs s_share_in) (defBody s_share_in) (defScope s_share_in) [] [] f fd) (hm : mg "share_in" = some (.ref f)) : FnS P w K mg base "share_in" 3 1 (sp1 p_share_in) := by
  refine fnS_of (k := 2) F hm sc_share_in (fun ds Φ Ψ h => by obtain ⟨_, rfl, _⟩ := h; rfl) (fun _ _ _ _ _ _ us hl => match us, hl with | [_], _ => rfl) (fun cdv A outer s H E hr ds Φ Ψ h => ?_)
  obtain ⟨text1, rfl, h⟩ := h
  obtain ⟨h⟩ := h
  refine SQ.run ?_
  show SQ _ _ _ [.dat text1, .emp, .emp, .emp] _
  refine s_set 1 (sx_split (sx_v 0) sx_s) h (fun parts2 h => ?_) sc_share_in.nd
  show SQ _ _ _ [.dat text1, .dat parts2, .emp, .emp] _
  refine s_if (st_gt (sx_len Z.len (sx_v 1)) sx_i) h (fun h => ?_) (fun h => ?_)
  · exact s_raise E_BadText h
  · refine s_nil ?_
    show SQ _ _ _ [.dat text1, .dat parts2, .emp, .emp] _
    refine s_set 2 (sx_c1 F_whole_in (hr.mono (by decide)) (sx_ix (Room.u65 hr) (sx_v 1) sx_i)) h (fun top3 h => ?_) sc_share_in.nd
    show SQ _ _ _ [.dat text1, .dat parts2, .dat top3, .emp] _
    refine s_set 3 (sx_if (st_eq hr.units (sx_len Z.len (sx_v 1)) sx_i) (sx_c1 F_whole_in (hr.mono (by decide)) (sx_ix (Room.u65 hr) (sx_v 1) sx_i)) sx_i) h (fun below4 h => ?_) sc_share_in.nd
    show SQ _ _ _ [.dat text1, .dat parts2, .dat top3, .dat below4] _
    refine s_if (sw_t (sw_or (sw_t (sw_and (st_eq hr.units (sx_len Z.len (sx_v 1)) sx_i) (sw_and1 (st_lt (sx_v 3) sx_i)))) (sw_or1 (st_ne hr.units (sx_c2 F_share (hr.mono (by decide)) (sx_v 2) (sx_v 3)) (sx_tup (sa_cons (sx_v 2) (sa_cons (sx_v 3) sa_nil))))))) h (fun h => ?_) (fun h => ?_)
    · exact s_raise E_BadText h
    · refine s_nil ?_
      show SQ _ _ _ [.dat text1, .dat parts2, .dat top3, .dat below4] _
      exact s_ret (sx_tup (sa_cons (sx_v 2) (sa_cons (sx_v 3) sa_nil))) h
abbrev s_point_in : Stmt := top 36
theorem sc_point_in : FnScope ["text", "parts", "x", "y"] ["text"] (defScope s_point_in) := ⟨rfl, rfl, rfl, by decide +kernel, rfl, by decide +kernel, by decide +kernel⟩
theorem ok_point_in (Z : Zs mg) (F_lowest : FnS P w K mg base "lowest" 2 3 (sp3 p_lowest)) (F_share_in : FnS P w K mg base "share_in" 3 1 (sp1 p_share_in)) (E_BadText : ExcF K mg "BadText") (F : FunD K "point_in" "point_in" (defArgs s_point_in) (defBody s_point_in) (defScope s_point_in) [] [] f fd) (hm : mg "point_in" = some (.ref f)) : FnS P w K mg base "point_in" 4 1 (sp1 p_point_in) := by
  refine fnS_of (k := 3) F hm sc_point_in (fun ds Φ Ψ h => by obtain ⟨_, rfl, _⟩ := h; rfl) (fun _ _ _ _ _ _ us hl => match us, hl with | [_], _ => rfl) (fun cdv A outer s H E hr ds Φ Ψ h => ?_)
  obtain ⟨text1, rfl, h⟩ := h
  obtain ⟨h⟩ := h
  refine SQ.run ?_
  show SQ _ _ _ [.dat text1, .emp, .emp, .emp] _
  refine s_set 1 (sx_split (sx_v 0) sx_s) h (fun parts2 h => ?_) sc_point_in.nd
  show SQ _ _ _ [.dat text1, .dat parts2, .emp, .emp] _
  refine s_if (st_ne hr.units (sx_len Z.len (sx_v 1)) sx_i) h (fun h => ?_) (fun h => ?_)
  · exact s_raise E_BadText h
  · refine s_nil ?_
    show SQ _ _ _ [.dat text1, .dat parts2, .emp, .emp] _
    refine s_par 2 3 (sx_c1 F_share_in (hr.mono (by decide)) (sx_ix (Room.u65 hr) (sx_v 1) sx_i)) (sx_c1 F_share_in (hr.mono (by decide)) (sx_ix (Room.u65 hr) (sx_v 1) sx_i)) h (fun x3 y4 h => ?_) sc_point_in.nd
    show SQ _ _ _ [.dat text1, .dat parts2, .dat x3, .dat y4] _
    exact s_ret (sx_c3 F_lowest (hr.mono (by decide)) (sx_mul (sx_ix (Room.u65 hr) (sx_v 2) sx_i) (sx_ix (Room.u65 hr) (sx_v 3) sx_i)) (sx_mul (sx_ix (Room.u65 hr) (sx_v 3) sx_i) (sx_ix (Room.u65 hr) (sx_v 2) sx_i)) (sx_mul (sx_ix (Room.u65 hr) (sx_v 2) sx_i) (sx_ix (Room.u65 hr) (sx_v 3) sx_i))) h
abbrev s_is_number : Stmt := top 10
theorem sc_is_number : FnScope ["thing"] ["thing"] (defScope s_is_number) := ⟨rfl, rfl, rfl, by decide +kernel, rfl, by decide +kernel, by decide +kernel⟩
theorem ok_is_number (Z : Zs mg) (F : FunD K "is_number" "is_number" (defArgs s_is_number) (defBody s_is_number) (defScope s_is_number) [] [] f fd) (hm : mg "is_number" = some (.ref f)) : FnS P w K mg base "is_number" 1 1 (sp1 p_is_number) := by
  refine fnS_of (k := 0) F hm sc_is_number (fun ds Φ Ψ h => by obtain ⟨_, rfl, _⟩ := h; rfl) (fun _ _ _ _ _ _ us hl => match us, hl with | [_], _ => rfl) (fun cdv A outer s H E hr ds Φ Ψ h => ?_)
  obtain ⟨thing1, rfl, h⟩ := h
  obtain ⟨h⟩ := h
  refine SQ.run ?_
  show SQ _ _ _ [.dat thing1] _
  exact s_ret (sx_and (sx_isi Z.isinstance Z.int (by decide +kernel) kit_int (sx_v 0)) (sx_and1 (sx_not (sx_isi Z.isinstance Z.bool (by decide +kernel) kit_bool (sx_v 0))))) h
abbrev s_is_point : Stmt := top 18
theorem sc_is_point : FnScope ["thing", "one"] ["thing"] (defScope s_is_point) := ⟨rfl, rfl, rfl, by decide +kernel, rfl, by decide +kernel, by decide +kernel⟩
theorem ok_is_point (Z : Zs mg) (F_common : FnS P w K mg base "common" 1 2 (sp2 p_common)) (F_is_number : FnS P w K mg base "is_number" 1 1 (sp1 p_is_number)) (F : FunD K "is_point" "is_point" (defArgs s_is_point) (defBody s_is_point) (defScope s_is_point) [] [] f fd) (hm : mg "is_point" = some (.ref f)) : FnS P w K mg base "is_point" 2 1 (sp1 p_is_point) := by
  refine fnS_of (k := 1) F hm sc_is_point (fun ds Φ Ψ h => by obtain ⟨_, rfl, _⟩ := h; rfl) (fun _ _ _ _ _ _ us hl => match us, hl with | [_], _ => rfl) (fun cdv A outer s H E hr ds Φ Ψ h => ?_)
  obtain ⟨thing1, rfl, h⟩ := h
  obtain ⟨h⟩ := h
  refine SQ.run ?_
  show SQ _ _ _ [.dat thing1, .emp] _
  refine s_if (sw_t (sw_or (st_not (st_v (sx_isi Z.isinstance Z.tuple (by decide +kernel) kit_tuple (sx_v 0)))) (sw_or (st_ne hr.units (sx_len Z.len (sx_v 0)) sx_i) (sw_or1 (st_not (st_v (sx_all Z.all (sx_lc0 sc_is_point.nd (blkOk_by (N := ["thing", "one"]) (sc := defScope s_is_point) (own := [("one", 1)]) (by decide +kernel)) (si_v (sx_v 0)) (fun one4 k2 h => ⟨_, qgb_name 1 sc_is_point.nd, fun s H C cl fp => ((sx_c1 F_is_number (hr.mono (by decide)) (sx_v 1))).run h⟩))))))))) h (fun h => ?_) (fun h => ?_)
  · exact s_ret sx_b h
  · refine s_nil ?_
    show SQ _ _ _ [.dat thing1, .emp] _
    exact s_ret (sx_and (sx_gt (sx_ix (Room.u65 hr) (sx_v 0) sx_i) sx_i) (sx_and1 (sx_eq hr.units (sx_c2 F_common (hr.mono (by decide)) (sx_c2 F_common (hr.mono (by decide)) (sx_ix (Room.u65 hr) (sx_v 0) sx_i) (sx_ix (Room.u65 hr) (sx_v 0) sx_i)) (sx_ix (Room.u65 hr) (sx_v 0) sx_i)) sx_i))) h
abbrev s_is_heap : Stmt := top 26
theorem sc_is_heap : FnScope ["thing", "one"] ["thing"] (defScope s_is_heap) := ⟨rfl, rfl, rfl, by decide +kernel, rfl, by decide +kernel, by decide +kernel⟩
theorem ok_is_heap (Z : Zs mg) (F_is_point : FnS P w K mg base "is_point" 2 1 (sp1 p_is_point)) (i_MOST : ∃ t, mg "MOST" = some (.int 14 t)) (F : FunD K "is_heap" "is_heap" (defArgs s_is_heap) (defBody s_is_heap) (defScope s_is_heap) [] [] f fd) (hm : mg "is_heap" = some (.ref f)) : FnS P w K mg base "is_heap" 3 1 (sp1 p_is_heap) := by
  refine fnS_of (k := 2) F hm sc_is_heap (fun ds Φ Ψ h => by obtain ⟨_, rfl, _⟩ := h; rfl) (fun _ _ _ _ _ _ us hl => match us, hl with | [_], _ => rfl) (fun cdv A outer s H E hr ds Φ Ψ h => ?_)
  obtain ⟨thing1, rfl, h⟩ := h
  obtain ⟨h⟩ := h
  refine SQ.run ?_
  show SQ _ _ _ [.dat thing1, .emp] _
  refine s_if (sw_t (sw_or (st_not (st_v (sx_isi2 Z.isinstance Z.list Z.tuple (by decide +kernel) (by decide +kernel) kit_list kit_tuple (sx_v 0)))) (sw_or (st_not (st_chn (w_le) (w_le) sx_i (sx_len Z.len (sx_v 0)) (sx_gi i_MOST))) (sw_or1 (st_not (st_v (sx_all Z.all (sx_lc0 sc_is_heap.nd (blkOk_by (N := ["thing", "one"]) (sc := defScope s_is_heap) (own := [("one", 1)]) (by decide +kernel)) (si_v (sx_v 0)) (fun one4 k2 h => ⟨_, qgb_name 1 sc_is_heap.nd, fun s H C cl fp => ((sx_c1 F_is_point (hr.mono (by decide)) (sx_v 1))).run h⟩))))))))) h (fun h => ?_) (fun h => ?_)
  · exact s_ret sx_b h
  · refine s_nil ?_
    show SQ _ _ _ [.dat thing1, .emp] _
    exact s_ret (sx_eq hr.units (sx_len Z.len (sx_dc0 (Room.u65 hr) sc_is_heap.nd (blkOk_by (N := ["thing", "one"]) (sc := defScope s_is_heap) (own := [("one", 1)]) (by decide +kernel)) (si_v (sx_v 0)) (fun one8 k5 h => ⟨_, qgb_name 1 sc_is_heap.nd, fun s H C cl fp => (((sx_v 1)).run h).mono fun _ h s H C cl fp => (sx_b).run h⟩))) (sx_len Z.len (sx_v 0))) h
abbrev s_ahead : Stmt := top 19
theorem sc_ahead : FnScope ["p", "q", "across"] ["p", "q"] (defScope s_ahead) := ⟨rfl, rfl, rfl, by decide +kernel, rfl, by decide +kernel, by decide +kernel⟩
theorem ok_ahead (Z : Zs mg) (F : FunD K "ahead" "ahead" (defArgs s_ahead) (defBody s_ahead) (defScope s_ahead) [] [] f fd) (hm : mg "ahead" = some (.ref f)) : FnS P w K mg base "ahead" 1 2 (sp2 p_ahead) := by
  refine fnS_of (k := 0) F hm sc_ahead (fun ds Φ Ψ h => by obtain ⟨_, _, rfl, _⟩ := h; rfl) (fun _ _ _ _ _ _ us hl => match us, hl with | [_, _], _ => rfl) (fun cdv A outer s H E hr ds Φ Ψ h => ?_)
  obtain ⟨p1, q2, rfl, h⟩ := h
  obtain ⟨h⟩ := h
  refine SQ.run ?_
  show SQ _ _ _ [.dat p1, .dat q2, .emp] _
  refine s_set 2 (sx_sub (sx_mul (sx_ix (Room.u65 hr) (sx_v 0) sx_i) (sx_ix (Room.u65 hr) (sx_v 1) sx_i)) (sx_mul (sx_ix (Room.u65 hr) (sx_v 1) sx_i) (sx_ix (Room.u65 hr) (sx_v 0) sx_i))) h (fun across3 h => ?_) sc_ahead.nd
  show SQ _ _ _ [.dat p1, .dat q2, .dat across3] _
  exact s_ret (sx_or (sx_lt (sx_v 2) sx_i) (sx_or1 (sx_and (sx_eq hr.units (sx_v 2) sx_i) (sx_and1 (sx_lt (sx_mul (sx_ix (Room.u65 hr) (sx_v 0) sx_i) (sx_ix (Room.u65 hr) (sx_v 1) sx_i)) (sx_mul (sx_ix (Room.u65 hr) (sx_v 1) sx_i) (sx_ix (Room.u65 hr) (sx_v 0) sx_i))))))) h
abbrev s_in_order : Stmt := top 20
theorem sc_in_order : FnScope ["points", "found", "one", "at"] ["points"] (defScope s_in_order) := ⟨rfl, rfl, rfl, by decide +kernel, rfl, by decide +kernel, by decide +kernel⟩
theorem ok_in_order (Z : Zs mg) (F_ahead : FnS P w K mg base "ahead" 1 2 (sp2 p_ahead)) (F : FunD K "in_order" "in_order" (defArgs s_in_order) (defBody s_in_order) (defScope s_in_order) [] [] f fd) (hm : mg "in_order" = some (.ref f)) : FnS P w K mg base "in_order" 2 1 (sp1 p_in_order) := by
  refine fnS_of (k := 1) F hm sc_in_order (fun ds Φ Ψ h => by obtain ⟨_, rfl, _⟩ := h; rfl) (fun _ _ _ _ _ _ us hl => match us, hl with | [_], _ => rfl) (fun cdv A outer s H E hr ds Φ Ψ h => ?_)
  obtain ⟨points1, rfl, h⟩ := h
  obtain ⟨h⟩ := h
  refine SQ.run ?_
  show SQ _ _ _ [.dat points1, .emp, .emp, .emp] _
  refine s_new 1 ?_ sc_in_order.nd
  show SQ _ _ _ [.dat points1, .lst [], .emp, .emp] _
  refine s_for (S := List D) (J := Sl × Sl) h (si_v (sx_v 0)) (fun s2 j3 => [.dat points1, .lst s2, j3.1, j3.2]) ((.emp), (.emp)) rfl ?_ ?_ pass_cx
  · intro one8 s2 j3 nx6 h
    refine ⟨_, qg_name 2 sc_in_order.nd, ?_⟩
    show SQ _ _ _ [.dat points1, .lst s2, .dat one8, j3.2] _
    refine s_set 3 sx_i h (fun at9 h => ?_) sc_in_order.nd
    show SQ _ _ _ [.dat points1, .lst s2, .dat one8, .dat at9] _
    refine s_while (S := D) (J := Unit) h (fun s10 j11 => [.dat points1, .lst s2, .dat one8, .dat s10]) () rfl (fun s10 j11 => (st_peek 1 rfl (sw_t (sw_and (st_lt (sx_v 3) (sx_len Z.len (sx_v 1))) (sw_and1 (st_not (st_v (sx_c2 F_ahead (hr.mono (by decide)) (sx_v 2) (sx_ix (Room.u65 hr) (sx_v 1) (sx_v 3)))))))))) ?_ ?_ pass_cx
    · intro s10 j11 nx17 h
      show SQ _ _ _ [.dat points1, .lst s2, .dat one8, .dat s10] _
      refine s_augAdd 3 rfl sx_i h (fun at19 h => ?_) sc_in_order.nd
      show SQ _ _ _ [.dat points1, .lst s2, .dat one8, .dat at19] _
      exact s_nil ⟨at19, (), rfl, h⟩
    · intro s12 j13 h
      show SQ _ _ _ [.dat points1, .lst s2, .dat one8, .dat s12] _
      refine s_insert 1 rfl (sx_v 3) (sx_v 2) h (fun n16 d15 h => ?_)
      show SQ _ _ _ [.dat points1, .lst (insL s2 n16 d15), .dat one8, .dat s12] _
      exact s_nil ⟨(insL s2 n16 d15), ((.dat one8), (.dat s12)), rfl, h⟩
  · intro s4 j5 h
    show SQ _ _ _ [.dat points1, .lst s4, j5.1, j5.2] _
    refine s_frz 1 rfl ?_
    show SQ _ _ _ [.dat points1, .dat (.lst s4), j5.1, j5.2] _
    exact s_ret (sx_v 1) h
abbrev s_heap_read : Stmt := top 37
theorem sc_heap_read : FnScope ["text", "found", "one"] ["text"] (defScope s_heap_read) := ⟨rfl, rfl, rfl, by decide +kernel, rfl, by decide +kernel, by decide +kernel⟩
theorem ok_heap_read (Z : Zs mg) (F_point_in : FnS P w K mg base "point_in" 4 1 (sp1 p_point_in)) (F_is_heap : FnS P w K mg base "is_heap" 3 1 (sp1 p_is_heap)) (F_in_order : FnS P w K mg base "in_order" 2 1 (sp1 p_in_order)) (E_BadText : ExcF K mg "BadText") (F : FunD K "heap_read" "heap_read" (defArgs s_heap_read) (defBody s_heap_read) (defScope s_heap_read) [] [] f fd) (hm : mg "heap_read" = some (.ref f)) : FnS P w K mg base "heap_read" 5 1 (sp1 p_heap_read) := by
  refine fnS_of (k := 4) F hm sc_heap_read (fun ds Φ Ψ h => by obtain ⟨_, rfl, _⟩ := h; rfl) (fun _ _ _ _ _ _ us hl => match us, hl with | [_], _ => rfl) (fun cdv A outer s H E hr ds Φ Ψ h => ?_)
  obtain ⟨text1, rfl, h⟩ := h
  obtain ⟨h⟩ := h
  refine SQ.run ?_
  show SQ _ _ _ [.dat text1, .emp, .emp] _
  refine s_if (st_not (st_v (sx_isi Z.isinstance Z.str (by decide +kernel) kit_str (sx_v 0)))) h (fun h => ?_) (fun h => ?_)
  · exact s_raise E_BadText h
  · refine s_nil ?_
    show SQ _ _ _ [.dat text1, .emp, .emp] _
    refine s_set 1 (sx_tuple Z.tuple (sx_lcX sc_heap_read.nd (blkOk_by (N := ["text", "found", "one"]) (sc := defScope s_heap_read) (own := [("one", 2)]) (by decide +kernel)) (si_v (sx_split (sx_v 0) sx_s)) (fun one3 => ⟨_, qgb_name 2 sc_heap_read.nd, fun t G C cl fp pn xe => (sx_c1 F_point_in (hr.mono (by decide)) (sx_v 2))⟩))) h (fun found2 h => ?_) sc_heap_read.nd
    show SQ _ _ _ [.dat text1, .dat found2, .emp] _
    refine s_if (sw_t (sw_or (st_not (st_v (sx_c1 F_is_heap (hr.mono (by decide)) (sx_v 1)))) (sw_or1 (st_ne hr.units (sx_tuple Z.tuple (sx_c1 F_in_order (hr.mono (by decide)) (sx_v 1))) (sx_v 1))))) h (fun h => ?_) (fun h => ?_)
    · exact s_raise E_BadText h
    · refine s_nil ?_
      show SQ _ _ _ [.dat text1, .dat found2, .emp] _
      exact s_ret (sx_v 1) h
abbrev s_is_whole : Stmt := top 11
theorem sc_is_whole : FnScope ["thing", "low", "high"] ["thing", "low", "high"] (defScope s_is_whole) := ⟨rfl, rfl, rfl, by decide +kernel, rfl, by decide +kernel, by decide +kernel⟩
theorem ok_is_whole (Z : Zs mg) (F_is_number : FnS P w K mg base "is_number" 1 1 (sp1 p_is_number)) (F : FunD K "is_whole" "is_whole" (defArgs s_is_whole) (defBody s_is_whole) (defScope s_is_whole) [] [] f fd) (hm : mg "is_whole" = some (.ref f)) : FnS P w K mg base "is_whole" 2 3 (sp3 p_is_whole) := by
  refine fnS_of (k := 1) F hm sc_is_whole (fun ds Φ Ψ h => by obtain ⟨_, _, _, rfl, _⟩ := h; rfl) (fun _ _ _ _ _ _ us hl => match us, hl with | [_, _, _], _ => rfl) (fun cdv A outer s H E hr ds Φ Ψ h => ?_)
  obtain ⟨thing1, low2, high3, rfl, h⟩ := h
  obtain ⟨h⟩ := h
  refine SQ.run ?_
  show SQ _ _ _ [.dat thing1, .dat low2, .dat high3] _
  exact s_ret (sx_and (sx_c1 F_is_number (hr.mono (by decide)) (sx_v 0)) (sx_and1 (sx_chn (w_le) (w_le) (sx_v 1) (sx_v 0) (sx_v 2)))) h
abbrev s_size : Stmt := top 16
theorem sc_size : FnScope ["p"] ["p"] (defScope s_size) := ⟨rfl, rfl, rfl, by decide +kernel, rfl, by decide +kernel, by decide +kernel⟩
theorem ok_size (Z : Zs mg) (F_share : FnS P w K mg base "share" 2 2 (sp2 p_share)) (F : FunD K "size" "size" (defArgs s_size) (defBody s_size) (defScope s_size) [] [] f fd) (hm : mg "size" = some (.ref f)) : FnS P w K mg base "size" 3 1 (sp1 p_size) := by
  refine fnS_of (k := 2) F hm sc_size (fun ds Φ Ψ h => by obtain ⟨_, rfl, _⟩ := h; rfl) (fun _ _ _ _ _ _ us hl => match us, hl with | [_], _ => rfl) (fun cdv A outer s H E hr ds Φ Ψ h => ?_)
  obtain ⟨p1, rfl, h⟩ := h
  obtain ⟨h⟩ := h
  refine SQ.run ?_
  show SQ _ _ _ [.dat p1] _
  exact s_ret (sx_c2 F_share (hr.mono (by decide)) (sx_add (sx_mul (sx_ix (Room.u65 hr) (sx_v 0) sx_i) (sx_ix (Room.u65 hr) (sx_v 0) sx_i)) (sx_mul (sx_ix (Room.u65 hr) (sx_v 0) sx_i) (sx_ix (Room.u65 hr) (sx_v 0) sx_i))) (sx_mul (sx_ix (Room.u65 hr) (sx_v 0) sx_i) (sx_ix (Room.u65 hr) (sx_v 0) sx_i))) h
abbrev s_is_motion : Stmt := top 22
theorem sc_is_motion : FnScope ["thing"] ["thing"] (defScope s_is_motion) := ⟨rfl, rfl, rfl, by decide +kernel, rfl, by decide +kernel, by decide +kernel⟩
theorem ok_is_motion (Z : Zs mg) (F_is_whole : FnS P w K mg base "is_whole" 2 3 (sp3 p_is_whole)) (F_is_point : FnS P w K mg base "is_point" 2 1 (sp1 p_is_point)) (F_size : FnS P w K mg base "size" 3 1 (sp1 p_size)) (F : FunD K "is_motion" "is_motion" (defArgs s_is_motion) (defBody s_is_motion) (defScope s_is_motion) [] [] f fd) (hm : mg "is_motion" = some (.ref f)) : FnS P w K mg base "is_motion" 4 1 (sp1 p_is_motion) := by
  refine fnS_of (k := 3) F hm sc_is_motion (fun ds Φ Ψ h => by obtain ⟨_, rfl, _⟩ := h; rfl) (fun _ _ _ _ _ _ us hl => match us, hl with | [_], _ => rfl) (fun cdv A outer s H E hr ds Φ Ψ h => ?_)
  obtain ⟨thing1, rfl, h⟩ := h
  obtain ⟨h⟩ := h
  refine SQ.run ?_
  show SQ _ _ _ [.dat thing1] _
  refine s_if (sw_t (sw_or (st_not (st_v (sx_isi Z.isinstance Z.tuple (by decide +kernel) kit_tuple (sx_v 0)))) (sw_or (st_ne hr.units (sx_len Z.len (sx_v 0)) sx_i) (sw_or (st_not (st_v (sx_c1 F_is_point (hr.mono (by decide)) (sx_ix (Room.u65 hr) (sx_v 0) sx_i)))) (sw_or1 (st_not (st_v (sx_c1 F_is_point (hr.mono (by decide)) (sx_ix (Room.u65 hr) (sx_v 0) sx_i))))))))) h (fun h => ?_) (fun h => ?_)
  · exact s_ret sx_b h
  · refine s_nil ?_
    show SQ _ _ _ [.dat thing1] _
    exact s_ret (sx_and (sx_eq hr.units (sx_c1 F_size (hr.mono (by decide)) (sx_ix (Room.u65 hr) (sx_v 0) sx_i)) (sx_lit (.tup [.int 1, .int 1]))) (sx_and1 (sx_c3 F_is_whole (hr.mono (by decide)) (sx_ix (Room.u65 hr) (sx_v 0) sx_i) sx_i sx_i))) h
abbrev s_motion_read : Stmt := top 38
theorem sc_motion_read : FnScope ["text", "words", "found"] ["text"] (defScope s_motion_read) := ⟨rfl, rfl, rfl, by decide +kernel, rfl, by decide +kernel, by decide +kernel⟩
theorem ok_motion_read (Z : Zs mg) (F_point_in : FnS P w K mg base "point_in" 4 1 (sp1 p_point_in)) (F_is_motion : FnS P w K mg base "is_motion" 4 1 (sp1 p_is_motion)) (E_BadText : ExcF K mg "BadText") (F : FunD K "motion_read" "motion_read" (defArgs s_motion_read) (defBody s_motion_read) (defScope s_motion_read) [] [] f fd) (hm : mg "motion_read" = some (.ref f)) : FnS P w K mg base "motion_read" 5 1 (sp1 p_motion_read) := by
  refine fnS_of (k := 4) F hm sc_motion_read (fun ds Φ Ψ h => by obtain ⟨_, rfl, _⟩ := h; rfl) (fun _ _ _ _ _ _ us hl => match us, hl with | [_], _ => rfl) (fun cdv A outer s H E hr ds Φ Ψ h => ?_)
  obtain ⟨text1, rfl, h⟩ := h
  obtain ⟨h⟩ := h
  refine SQ.run ?_
  show SQ _ _ _ [.dat text1, .emp, .emp] _
  refine s_if (st_not (st_v (sx_isi Z.isinstance Z.str (by decide +kernel) kit_str (sx_v 0)))) h (fun h => ?_) (fun h => ?_)
  · exact s_raise E_BadText h
  · refine s_nil ?_
    show SQ _ _ _ [.dat text1, .emp, .emp] _
    refine s_set 1 (sx_split (sx_v 0) sx_s) h (fun words2 h => ?_) sc_motion_read.nd
    show SQ _ _ _ [.dat text1, .dat words2, .emp] _
    refine s_if (sw_t (sw_or (st_nin (Room.u65 hr) (sx_len Z.len (sx_v 1)) (sx_lit (.tup [.int 2, .int 3]))) (sw_or1 (sw_t (sw_and (st_eq hr.units (sx_len Z.len (sx_v 1)) sx_i) (sw_and1 (st_ne hr.units (sx_ix (Room.u65 hr) (sx_v 1) sx_i) sx_s))))))) h (fun h => ?_) (fun h => ?_)
    · exact s_raise E_BadText h
    · refine s_nil ?_
      show SQ _ _ _ [.dat text1, .dat words2, .emp] _
      refine s_set 2 (sx_tup (sa_cons (sx_c1 F_point_in (hr.mono (by decide)) (sx_ix (Room.u65 hr) (sx_v 1) sx_i)) (sa_cons (sx_c1 F_point_in (hr.mono (by decide)) (sx_ix (Room.u65 hr) (sx_v 1) sx_i)) (sa_cons (sx_sub (sx_len Z.len (sx_v 1)) sx_i) sa_nil)))) h (fun found3 h => ?_) sc_motion_read.nd
      show SQ _ _ _ [.dat text1, .dat words2, .dat found3] _
      refine s_if (st_not (st_v (sx_c1 F_is_motion (hr.mono (by decide)) (sx_v 2)))) h (fun h => ?_) (fun h => ?_)
      · exact s_raise E_BadText h
      · refine s_nil ?_
        show SQ _ _ _ [.dat text1, .dat words2, .dat found3] _
        exact s_ret (sx_v 2) h
abbrev s_law_read : Stmt := top 56
theorem sc_law_read : FnScope ["_law_sort_of", "_law_text", "_law_told", "_law_caught", "e"] ["_law_sort_of", "_law_text"] (defScope s_law_read) := ⟨rfl, rfl, rfl, by decide +kernel, rfl, by decide +kernel, by decide +kernel⟩
theorem ok_law_read (Z : Zs mg) (F_law_refusal : FnS P w K mg base "_law_refusal" 1 1 (sp1 p_law_refusal)) (F_heap_read : FnS P w K mg base "heap_read" 5 1 (sp1 p_heap_read)) (F_motion_read : FnS P w K mg base "motion_read" 5 1 (sp1 p_motion_read)) (EI : ExcI K mg) (F : FunD K "_law_read" "_law_read" (defArgs s_law_read) (defBody s_law_read) (defScope s_law_read) [] [] f fd) (hm : mg "_law_read" = some (.ref f)) : FnS P w K mg base "_law_read" 6 2 (sp2 p_law_read) := by
  refine fnS_of (k := 5) F hm sc_law_read (fun ds Φ Ψ h => by obtain ⟨_, _, rfl, _⟩ := h; rfl) (fun _ _ _ _ _ _ us hl => match us, hl with | [_, _], _ => rfl) (fun cdv A outer s H E hr ds Φ Ψ h => ?_)
  obtain ⟨sort_of1, text2, rfl, h⟩ := h
  obtain ⟨h⟩ := h
  refine SQ.run ?_
  show SQ _ _ _ [.dat sort_of1, .dat text2, .emp, .emp, .emp] _
  refine s_set 2 sx_n h (fun told3 h => ?_) sc_law_read.nd
  show SQ _ _ _ [.dat sort_of1, .dat text2, .dat told3, .emp, .emp] _
  refine s_set 3 sx_n h (fun caught4 h => ?_) sc_law_read.nd
  show SQ _ _ _ [.dat sort_of1, .dat text2, .dat told3, .dat caught4, .emp] _
  refine s_tryJ (J := D × D) h (fun j => [.dat sort_of1, .dat text2, .dat j.1, .dat j.2, .emp]) (fun j k => k (j.1) (j.2)) (fun z6 => (told3, (excD z6))) 4 3 (fun pn xe h => (sb_set 2 (sx_if (st_eq hr.units (sx_v 0) sx_i) (sx_c1 F_heap_read (hr.mono (by decide)) (sx_v 1)) (sx_c1 F_motion_read (hr.mono (by decide)) (sx_v 1))) h (fun told9 h => ⟨(told9, caught4), rfl, h⟩) sc_law_read.nd)) EI ?_ sc_law_read.nd
  · rintro ⟨told7, caught8⟩ h
    show SQ _ _ _ [.dat sort_of1, .dat text2, .dat told7, .dat caught8, .emp] _
    exact s_ret (sx_if (st_isN (sx_v 3)) (sx_v 2) (sx_c1 F_law_refusal (hr.mono (by decide)) (sx_v 3))) h
abbrev s_look_heaps : Stmt := top 27
theorem sc_look_heaps : FnScope ["things", "one"] ["things"] (defScope s_look_heaps) := ⟨rfl, rfl, rfl, by decide +kernel, rfl, by decide +kernel, by decide +kernel⟩
theorem ok_look_heaps (Z : Zs mg) (F_is_heap : FnS P w K mg base "is_heap" 3 1 (sp1 p_is_heap)) (E_BadHeap : ExcF K mg "BadHeap") (F : FunD K "look_heaps" "look_heaps" (defArgs s_look_heaps) (defBody s_look_heaps) (defScope s_look_heaps) [] [] f fd) (hm : mg "look_heaps" = some (.ref f)) : FnS P w K mg base "look_heaps" 4 1 (sp1 p_look_heaps) := by
  refine fnS_of (k := 3) F hm sc_look_heaps (fun ds Φ Ψ h => by obtain ⟨_, rfl, _⟩ := h; rfl) (fun _ _ _ _ _ _ us hl => match us, hl with | [_], _ => rfl) (fun cdv A outer s H E hr ds Φ Ψ h => ?_)
  obtain ⟨things1, rfl, h⟩ := h
  obtain ⟨h⟩ := h
  refine SQ.run ?_
  show SQ _ _ _ [.dat things1, .emp] _
  refine s_if (st_not (st_v (sx_all Z.all (sx_lc0 sc_look_heaps.nd (blkOk_by (N := ["things", "one"]) (sc := defScope s_look_heaps) (own := [("one", 1)]) (by decide +kernel)) (si_v (sx_v 0)) (fun one4 k2 h => ⟨_, qgb_name 1 sc_look_heaps.nd, fun s H C cl fp => ((sx_c1 F_is_heap (hr.mono (by decide)) (sx_v 1))).run h⟩))))) h (fun h => ?_) (fun h => ?_)
  · exact s_raise E_BadHeap h
  · refine s_nil ?_
    show SQ _ _ _ [.dat things1, .emp] _
    exact s_nil h
abbrev s_number_text : Stmt := top 30
theorem sc_number_text : FnScope ["top", "below", "one", "other"] ["top", "below"] (defScope s_number_text) := ⟨rfl, rfl, rfl, by decide +kernel, rfl, by decide +kernel, by decide +kernel⟩
theorem ok_number_text (Z : Zs mg) (F_share : FnS P w K mg base "share" 2 2 (sp2 p_share)) (F : FunD K "number_text" "number_text" (defArgs s_number_text) (defBody s_number_text) (defScope s_number_text) [] [] f fd) (hm : mg "number_text" = some (.ref f)) : FnS P w K mg base "number_text" 3 2 (sp2 p_number_text) := by
  refine fnS_of (k := 2) F hm sc_number_text (fun ds Φ Ψ h => by obtain ⟨_, _, rfl, _⟩ := h; rfl) (fun _ _ _ _ _ _ us hl => match us, hl with | [_, _], _ => rfl) (fun cdv A outer s H E hr ds Φ Ψ h => ?_)
  obtain ⟨top1, below2, rfl, h⟩ := h
  obtain ⟨h⟩ := h
  refine SQ.run ?_
  show SQ _ _ _ [.dat top1, .dat below2, .emp, .emp] _
  refine s_un2 (sx_c2 F_share (hr.mono (by decide)) (sx_v 0) (sx_v 1)) h (fun one3 other4 h => ?_)
  refine ⟨_, (qgs_cons (qg_name 2 sc_number_text.nd) (qgs_cons (qg_name 3 sc_number_text.nd) qgs_nil)), ?_⟩
  show SQ _ _ _ [.dat top1, .dat below2, .dat one3, .dat other4] _
  exact s_ret (sx_if (st_eq hr.units (sx_v 3) sx_i) (sx_str Z.str (sx_v 2)) (sx_fs (sx_v 2) (sx_v 3))) h
abbrev s_written : Stmt := top 31
theorem sc_written : FnScope ["p"] ["p"] (defScope s_written) := ⟨rfl, rfl, rfl, by decide +kernel, rfl, by decide +kernel, by decide +kernel⟩
theorem ok_written (Z : Zs mg) (F_number_text : FnS P w K mg base "number_text" 3 2 (sp2 p_number_text)) (F : FunD K "written" "written" (defArgs s_written) (defBody s_written) (defScope s_written) [] [] f fd) (hm : mg "written" = some (.ref f)) : FnS P w K mg base "written" 4 1 (sp1 p_written) := by
  refine fnS_of (k := 3) F hm sc_written (fun ds Φ Ψ h => by obtain ⟨_, rfl, _⟩ := h; rfl) (fun _ _ _ _ _ _ us hl => match us, hl with | [_], _ => rfl) (fun cdv A outer s H E hr ds Φ Ψ h => ?_)
  obtain ⟨p1, rfl, h⟩ := h
  obtain ⟨h⟩ := h
  refine SQ.run ?_
  show SQ _ _ _ [.dat p1] _
  exact s_ret (sx_add (sx_add (sx_c2 F_number_text (hr.mono (by decide)) (sx_ix (Room.u65 hr) (sx_v 0) sx_i) (sx_ix (Room.u65 hr) (sx_v 0) sx_i)) sx_s) (sx_c2 F_number_text (hr.mono (by decide)) (sx_ix (Room.u65 hr) (sx_v 0) sx_i) (sx_ix (Room.u65 hr) (sx_v 0) sx_i))) h
abbrev s_heap_text : Stmt := top 32
theorem sc_heap_text : FnScope ["points", "p"] ["points"] (defScope s_heap_text) := ⟨rfl, rfl, rfl, by decide +kernel, rfl, by decide +kernel, by decide +kernel⟩
theorem ok_heap_text (Z : Zs mg) (F_look_heaps : FnS P w K mg base "look_heaps" 4 1 (sp1 p_look_heaps)) (F_written : FnS P w K mg base "written" 4 1 (sp1 p_written)) (F_in_order : FnS P w K mg base "in_order" 2 1 (sp1 p_in_order)) (F : FunD K "heap_text" "heap_text" (defArgs s_heap_text) (defBody s_heap_text) (defScope s_heap_text) [] [] f fd) (hm : mg "heap_text" = some (.ref f)) : FnS P w K mg base "heap_text" 5 1 (sp1 p_heap_text) := by
  refine fnS_of (k := 4) F hm sc_heap_text (fun ds Φ Ψ h => by obtain ⟨_, rfl, _⟩ := h; rfl) (fun _ _ _ _ _ _ us hl => match us, hl with | [_], _ => rfl) (fun cdv A outer s H E hr ds Φ Ψ h => ?_)
  obtain ⟨points1, rfl, h⟩ := h
  obtain ⟨h⟩ := h
  refine SQ.run ?_
  show SQ _ _ _ [.dat points1, .emp] _
  refine s_expr (sx_c1 F_look_heaps (hr.mono (by decide)) (sx_lst (sa_cons (sx_v 0) sa_nil))) h (fun _ h => ?_)
  exact s_ret (sx_join sx_s (sx_lc0 sc_heap_text.nd (blkOk_by (N := ["points", "p"]) (sc := defScope s_heap_text) (own := [("p", 1)]) (by decide +kernel)) (si_v (sx_c1 F_in_order (hr.mono (by decide)) (sx_v 0))) (fun p4 k2 h => ⟨_, qgb_name 1 sc_heap_text.nd, fun s H C cl fp => ((sx_c1 F_written (hr.mono (by decide)) (sx_v 1))).run h⟩))) h
abbrev s_look_motion : Stmt := top 23
theorem sc_look_motion : FnScope ["thing"] ["thing"] (defScope s_look_motion) := ⟨rfl, rfl, rfl, by decide +kernel, rfl, by decide +kernel, by decide +kernel⟩
theorem ok_look_motion (Z : Zs mg) (F_is_motion : FnS P w K mg base "is_motion" 4 1 (sp1 p_is_motion)) (E_BadMotion : ExcF K mg "BadMotion") (F : FunD K "look_motion" "look_motion" (defArgs s_look_motion) (defBody s_look_motion) (defScope s_look_motion) [] [] f fd) (hm : mg "look_motion" = some (.ref f)) : FnS P w K mg base "look_motion" 5 1 (sp1 p_look_motion) := by
  refine fnS_of (k := 4) F hm sc_look_motion (fun ds Φ Ψ h => by obtain ⟨_, rfl, _⟩ := h; rfl) (fun _ _ _ _ _ _ us hl => match us, hl with | [_], _ => rfl) (fun cdv A outer s H E hr ds Φ Ψ h => ?_)
  obtain ⟨thing1, rfl, h⟩ := h
  obtain ⟨h⟩ := h
  refine SQ.run ?_
  show SQ _ _ _ [.dat thing1] _
  refine s_if (st_not (st_v (sx_c1 F_is_motion (hr.mono (by decide)) (sx_v 0)))) h (fun h => ?_) (fun h => ?_)
  · exact s_raise E_BadMotion h
  · refine s_nil ?_
    show SQ _ _ _ [.dat thing1] _
    exact s_nil h
abbrev s_motion_text : Stmt := top 33
theorem sc_motion_text : FnScope ["motion", "words"] ["motion"] (defScope s_motion_text) := ⟨rfl, rfl, rfl, by decide +kernel, rfl, by decide +kernel, by decide +kernel⟩
theorem ok_motion_text (Z : Zs mg) (F_look_motion : FnS P w K mg base "look_motion" 5 1 (sp1 p_look_motion)) (F_written : FnS P w K mg base "written" 4 1 (sp1 p_written)) (F : FunD K "motion_text" "motion_text" (defArgs s_motion_text) (defBody s_motion_text) (defScope s_motion_text) [] [] f fd) (hm : mg "motion_text" = some (.ref f)) : FnS P w K mg base "motion_text" 6 1 (sp1 p_motion_text) := by
  refine fnS_of (k := 5) F hm sc_motion_text (fun ds Φ Ψ h => by obtain ⟨_, rfl, _⟩ := h; rfl) (fun _ _ _ _ _ _ us hl => match us, hl with | [_], _ => rfl) (fun cdv A outer s H E hr ds Φ Ψ h => ?_)
  obtain ⟨motion1, rfl, h⟩ := h
  obtain ⟨h⟩ := h
  refine SQ.run ?_
  show SQ _ _ _ [.dat motion1, .emp] _
  refine s_expr (sx_c1 F_look_motion (hr.mono (by decide)) (sx_v 0)) h (fun _ h => ?_)
  refine s_set 1 (sx_add (sx_lst (sa_cons (sx_c1 F_written (hr.mono (by decide)) (sx_ix (Room.u65 hr) (sx_v 0) sx_i)) (sa_cons (sx_c1 F_written (hr.mono (by decide)) (sx_ix (Room.u65 hr) (sx_v 0) sx_i)) sa_nil))) (sx_if (st_eq hr.units (sx_ix (Room.u65 hr) (sx_v 0) sx_i) sx_i) (sx_lit (.lst [.str "flip"])) (sx_lit (.lst [])))) h (fun words2 h => ?_) sc_motion_text.nd
  show SQ _ _ _ [.dat motion1, .dat words2] _
  exact s_ret (sx_join sx_s (sx_v 1)) h
abbrev s_law_before : Stmt := top 47
theorem sc_law_before : FnScope ["_law_p", "_law_q", "_law_told"] ["_law_p", "_law_q"] (defScope s_law_before) := ⟨rfl, rfl, rfl, by decide +kernel, rfl, by decide +kernel, by decide +kernel⟩
theorem ok_law_before (Z : Zs mg) (F : FunD K "_law_before" "_law_before" (defArgs s_law_before) (defBody s_law_before) (defScope s_law_before) [] [] f fd) (hm : mg "_law_before" = some (.ref f)) : FnS P w K mg base "_law_before" 1 2 (sp2 p_law_before) := by
  refine fnS_of (k := 0) F hm sc_law_before (fun ds Φ Ψ h => by obtain ⟨_, _, rfl, _⟩ := h; rfl) (fun _ _ _ _ _ _ us hl => match us, hl with | [_, _], _ => rfl) (fun cdv A outer s H E hr ds Φ Ψ h => ?_)
  obtain ⟨p1, q2, rfl, h⟩ := h
  obtain ⟨h⟩ := h
  refine SQ.run ?_
  show SQ _ _ _ [.dat p1, .dat q2, .emp] _
  refine s_set 2 (sx_sub (sx_mul (sx_ix (Room.u65 hr) (sx_v 0) sx_i) (sx_ix (Room.u65 hr) (sx_v 1) sx_i)) (sx_mul (sx_ix (Room.u65 hr) (sx_v 1) sx_i) (sx_ix (Room.u65 hr) (sx_v 0) sx_i))) h (fun told3 h => ?_) sc_law_before.nd
  show SQ _ _ _ [.dat p1, .dat q2, .dat told3] _
  exact s_ret (sx_or (sx_lt (sx_v 2) sx_i) (sx_or1 (sx_and (sx_eq hr.units (sx_v 2) sx_i) (sx_and1 (sx_lt (sx_mul (sx_ix (Room.u65 hr) (sx_v 0) sx_i) (sx_ix (Room.u65 hr) (sx_v 1) sx_i)) (sx_mul (sx_ix (Room.u65 hr) (sx_v 1) sx_i) (sx_ix (Room.u65 hr) (sx_v 0) sx_i))))))) h
abbrev s_law_sorted : Stmt := top 48
theorem sc_law_sorted : FnScope ["_law_points", "_law_found", "_law_one", "_law_early", "_law_two"] ["_law_points"] (defScope s_law_sorted) := ⟨rfl, rfl, rfl, by decide +kernel, rfl, by decide +kernel, by decide +kernel⟩
theorem ok_law_sorted (Z : Zs mg) (F_law_before : FnS P w K mg base "_law_before" 1 2 (sp2 p_law_before)) (F : FunD K "_law_sorted" "_law_sorted" (defArgs s_law_sorted) (defBody s_law_sorted) (defScope s_law_sorted) [] [] f fd) (hm : mg "_law_sorted" = some (.ref f)) : FnS P w K mg base "_law_sorted" 2 1 (sp1 p_law_sorted) := by
  refine fnS_of (k := 1) F hm sc_law_sorted (fun ds Φ Ψ h => by obtain ⟨_, rfl, _⟩ := h; rfl) (fun _ _ _ _ _ _ us hl => match us, hl with | [_], _ => rfl) (fun cdv A outer s H E hr ds Φ Ψ h => ?_)
  obtain ⟨points1, rfl, h⟩ := h
  obtain ⟨h⟩ := h
  refine SQ.run ?_
  show SQ _ _ _ [.dat points1, .emp, .emp, .emp, .emp] _
  refine s_set 1 (sx_lit (.lst [])) h (fun found2 h => ?_) sc_law_sorted.nd
  show SQ _ _ _ [.dat points1, .dat found2, .emp, .emp, .emp] _
  refine s_for (S := D) (J := Sl × Sl) h (si_v (sx_v 0)) (fun s3 j4 => [.dat points1, .dat s3, j4.1, j4.2, .emp]) ((.emp), (.emp)) rfl ?_ ?_ pass_cx
  · intro one9 s3 j4 nx7 h
    refine ⟨_, qg_name 2 sc_law_sorted.nd, ?_⟩
    show SQ _ _ _ [.dat points1, .dat s3, .dat one9, j4.2, .emp] _
    refine s_lc1 3 h sc_law_sorted.nd (blkOk_by (N := ["_law_points", "_law_found", "_law_one", "_law_early", "_law_two"]) (sc := defScope s_law_sorted) (own := [("_law_two", 4)]) (by decide +kernel)) (si_v (sx_v 1)) (fun two13 k11 h => ⟨_, qgb_name 4 sc_law_sorted.nd, (notT (tv (c2 p_law_before (ret one9) (ret two13)))), (fun b => if b = true then (ret two13) (fun y12 => k11 (some y12)) bot else k11 none), h, fun s H C cl fp => (st_not (st_v (sx_c2 F_law_before (hr.mono (by decide)) (sx_v 2) (sx_v 4)))), fun h s H C cl fp => ((sx_v 4)).run (itU h), fun h => itG h⟩) (fun early10 h => ?_)
    show SQ _ _ _ [.dat points1, .dat s3, .dat one9, .dat early10, .emp] _
    refine s_set 1 (sx_add (sx_add (sx_v 3) (sx_lst (sa_cons (sx_v 2) sa_nil))) (sx_lc1 sc_law_sorted.nd (blkOk_by (N := ["_law_points", "_law_found", "_law_one", "_law_early", "_law_two"]) (sc := defScope s_law_sorted) (own := [("_law_two", 4)]) (by decide +kernel)) (si_v (sx_v 1)) (fun two17 k15 h => ⟨_, qgb_name 4 sc_law_sorted.nd, (tv (c2 p_law_before (ret one9) (ret two17))), (fun b => if b = true then (ret two17) (fun y16 => k15 (some y16)) bot else k15 none), h, fun s H C cl fp => (st_v (sx_c2 F_law_before (hr.mono (by decide)) (sx_v 2) (sx_v 4))), fun h s H C cl fp => ((sx_v 4)).run (itU h), fun h => itG h⟩))) h (fun found14 h => ?_) sc_law_sorted.nd
    show SQ _ _ _ [.dat points1, .dat found14, .dat one9, .dat early10, .emp] _
    exact s_nil ⟨found14, ((.dat one9), (.dat early10)), rfl, h⟩
  · intro s5 j6 h
    show SQ _ _ _ [.dat points1, .dat s5, j6.1, j6.2, .emp] _
    exact s_ret (sx_v 1) h
abbrev s_law : Stmt := top 57
theorem sc_law : FnScope ["_law_script", "_law_town_here", "_law_points", "_law_motion_here", "_law_texts", "_law_p", "_law_turn_of", "_law_k", "_law_text", "_law_at", "_law_mark", "_law_worse", "_law_told", "_law_again", "_law_good", "_law_bad"] ["_law_script"] (defScope s_law) := ⟨rfl, rfl, rfl, by decide +kernel, rfl, by decide +kernel, by decide +kernel⟩
theorem ok_law (Z : Zs mg) (F_law_town : FnS P w K mg base "_law_town" 1 1 (sp1 p_law_town)) (F_law_heap : FnS P w K mg base "_law_heap" 4 2 (sp2 p_law_heap)) (F_law_motion : FnS P w K mg base "_law_motion" 4 1 (sp1 p_law_motion)) (F_law_motion_text : FnS P w K mg base "_law_motion_text" 5 1 (sp1 p_law_motion_text)) (F_law_draw : FnS P w K mg base "_law_draw" 1 2 (sp2 p_law_draw)) (F_law_pick : FnS P w K mg base "_law_pick" 2 2 (sp2 p_law_pick)) (F_law_read : FnS P w K mg base "_law_read" 6 2 (sp2 p_law_read)) (F_heap_text : FnS P w K mg base "heap_text" 5 1 (sp1 p_heap_text)) (F_motion_text : FnS P w K mg base "motion_text" 6 1 (sp1 p_motion_text)) (F_law_point_text : FnS P w K mg base "_law_point_text" 4 1 (sp1 p_law_point_text)) (F_law_sorted : FnS P w K mg base "_law_sorted" 2 1 (sp1 p_law_sorted)) (F_is_heap : FnS P w K mg base "is_heap" 3 1 (sp1 p_is_heap)) (F_is_motion : FnS P w K mg base "is_motion" 4 1 (sp1 p_is_motion)) (F : FunD K "law" "law" (defArgs s_law) (defBody s_law) (defScope s_law) [] [] f fd) (hm : mg "law" = some (.ref f)) : FnOk P w K mg base (L2.CX P w) 7 f fd ["_law_script"] (spD K 1 (sp1 p_k22)) := by
  refine fnOk_of (k := 6) F hm sc_law (fun ds Φ Ψ h => by obtain ⟨_, rfl, _⟩ := h; rfl) (fun _ _ _ _ _ _ us hl => match us, hl with | [_], _ => rfl) (fun cdv A outer s H E hr ds Φ Ψ h => ?_)
  obtain ⟨script1, rfl, h⟩ := h
  obtain ⟨h⟩ := h
  refine SQ.run ?_
  show SQ _ _ _ [.dat script1, .emp, .emp, .emp, .emp, .emp, .emp, .emp, .emp, .emp, .emp, .emp, .emp, .emp, .emp, .emp] _
  refine s_set 1 (sx_c1 F_law_town (hr.mono (by decide)) (sx_v 0)) h (fun town_here2 h => ?_) sc_law.nd
  show SQ _ _ _ [.dat script1, .dat town_here2, .emp, .emp, .emp, .emp, .emp, .emp, .emp, .emp, .emp, .emp, .emp, .emp, .emp, .emp] _
  refine s_par 2 3 (sx_c2 F_law_heap (hr.mono (by decide)) (sx_v 1) sx_i) (sx_c1 F_law_motion (hr.mono (by decide)) (sx_v 1)) h (fun points3 motion_here4 h => ?_) sc_law.nd
  show SQ _ _ _ [.dat script1, .dat town_here2, .dat points3, .dat motion_here4, .emp, .emp, .emp, .emp, .emp, .emp, .emp, .emp, .emp, .emp, .emp, .emp] _
  refine s_set 4 (sx_lst (sa_cons (sx_join sx_s (sx_lc0 sc_law.nd (blkOk_by (N := ["_law_script", "_law_town_here", "_law_points", "_law_motion_here", "_law_texts", "_law_p", "_law_turn_of", "_law_k", "_law_text", "_law_at", "_law_mark", "_law_worse", "_law_told", "_law_again", "_law_good", "_law_bad"]) (sc := defScope s_law) (own := [("_law_p", 5)]) (by decide +kernel)) (si_v (sx_c1 F_law_sorted (hr.mono (by decide)) (sx_v 2))) (fun p8 k6 h => ⟨_, qgb_name 5 sc_law.nd, fun s H C cl fp => ((sx_c1 F_law_point_text (hr.mono (by decide)) (sx_v 5))).run h⟩))) (sa_cons (sx_c1 F_law_motion_text (hr.mono (by decide)) (sx_v 3)) sa_nil))) h (fun texts5 h => ?_) sc_law.nd
  show SQ _ _ _ [.dat script1, .dat town_here2, .dat points3, .dat motion_here4, .dat texts5, .emp, .emp, .emp, .emp, .emp, .emp, .emp, .emp, .emp, .emp, .emp] _
  refine s_if (sw_t (sw_or (st_ne hr.units (sx_c1 F_heap_text (hr.mono (by decide)) (sx_v 2)) (sx_ix (Room.u65 hr) (sx_v 4) sx_i)) (sw_or1 (st_ne hr.units (sx_c1 F_motion_text (hr.mono (by decide)) (sx_v 3)) (sx_ix (Room.u65 hr) (sx_v 4) sx_i))))) h (fun h => ?_) (fun h => ?_)
  · exact s_ret sx_b h
  · refine s_nil ?_
    show SQ _ _ _ [.dat script1, .dat town_here2, .dat points3, .dat motion_here4, .dat texts5, .emp, .emp, .emp, .emp, .emp, .emp, .emp, .emp, .emp, .emp, .emp] _
    refine s_if (sw_t (sw_or (st_ne hr.units (sx_c2 F_law_read (hr.mono (by decide)) sx_i (sx_ix (Room.u65 hr) (sx_v 4) sx_i)) (sx_tuple Z.tuple (sx_c1 F_law_sorted (hr.mono (by decide)) (sx_v 2)))) (sw_or1 (st_ne hr.units (sx_c2 F_law_read (hr.mono (by decide)) sx_i (sx_ix (Room.u65 hr) (sx_v 4) sx_i)) (sx_v 3))))) h (fun h => ?_) (fun h => ?_)
    · exact s_ret sx_b h
    · refine s_nil ?_
      show SQ _ _ _ [.dat script1, .dat town_here2, .dat points3, .dat motion_here4, .dat texts5, .emp, .emp, .emp, .emp, .emp, .emp, .emp, .emp, .emp, .emp, .emp] _
      refine s_for (S := Unit) (J := Sl × Sl × Sl × Sl × Sl × Sl × Sl × Sl × Sl) h (si_range1 Z.range sx_i) (fun s9 j10 => [.dat script1, .dat town_here2, .dat points3, .dat motion_here4, .dat texts5, .emp, j10.1, j10.2.1, j10.2.2.1, j10.2.2.2.1, j10.2.2.2.2.1, j10.2.2.2.2.2.1, j10.2.2.2.2.2.2.1, j10.2.2.2.2.2.2.2.1, j10.2.2.2.2.2.2.2.2, .emp]) ((.emp), (.emp), (.emp), (.emp), (.emp), (.emp), (.emp), (.emp), (.emp)) rfl ?_ ?_ pass_cx
      · intro turn_of29 s9 j10 nx27 h
        refine ⟨_, qg_name 6 sc_law.nd, ?_⟩
        show SQ _ _ _ [.dat script1, .dat town_here2, .dat points3, .dat motion_here4, .dat texts5, .emp, .dat turn_of29, j10.2.1, j10.2.2.1, j10.2.2.2.1, j10.2.2.2.2.1, j10.2.2.2.2.2.1, j10.2.2.2.2.2.2.1, j10.2.2.2.2.2.2.2.1, j10.2.2.2.2.2.2.2.2, .emp] _
        refine s_set 7 (sx_c2 F_law_draw (hr.mono (by decide)) (sx_v 1) sx_i) h (fun k30 h => ?_) sc_law.nd
        show SQ _ _ _ [.dat script1, .dat town_here2, .dat points3, .dat motion_here4, .dat texts5, .emp, .dat turn_of29, .dat k30, j10.2.2.1, j10.2.2.2.1, j10.2.2.2.2.1, j10.2.2.2.2.2.1, j10.2.2.2.2.2.2.1, j10.2.2.2.2.2.2.2.1, j10.2.2.2.2.2.2.2.2, .emp] _
        refine s_set 8 (sx_ix (Room.u65 hr) (sx_v 4) (sx_v 7)) h (fun text31 h => ?_) sc_law.nd
        show SQ _ _ _ [.dat script1, .dat town_here2, .dat points3, .dat motion_here4, .dat texts5, .emp, .dat turn_of29, .dat k30, .dat text31, j10.2.2.2.1, j10.2.2.2.2.1, j10.2.2.2.2.2.1, j10.2.2.2.2.2.2.1, j10.2.2.2.2.2.2.2.1, j10.2.2.2.2.2.2.2.2, .emp] _
        refine s_set 9 (sx_c2 F_law_draw (hr.mono (by decide)) (sx_v 1) (sx_add (sx_len Z.len (sx_v 8)) sx_i)) h (fun at32 h => ?_) sc_law.nd
        show SQ _ _ _ [.dat script1, .dat town_here2, .dat points3, .dat motion_here4, .dat texts5, .emp, .dat turn_of29, .dat k30, .dat text31, .dat at32, j10.2.2.2.2.1, j10.2.2.2.2.2.1, j10.2.2.2.2.2.2.1, j10.2.2.2.2.2.2.2.1, j10.2.2.2.2.2.2.2.2, .emp] _
        refine s_set 10 (sx_c2 F_law_pick (hr.mono (by decide)) (sx_v 1) (sx_lit (.lst [.str "0", .str "1", .str "-", .str "/", .str ",", .str " ", .str "2", .str "f", .str "flip", .str ""]))) h (fun mark33 h => ?_) sc_law.nd
        show SQ _ _ _ [.dat script1, .dat town_here2, .dat points3, .dat motion_here4, .dat texts5, .emp, .dat turn_of29, .dat k30, .dat text31, .dat at32, .dat mark33, j10.2.2.2.2.2.1, j10.2.2.2.2.2.2.1, j10.2.2.2.2.2.2.2.1, j10.2.2.2.2.2.2.2.2, .emp] _
        refine s_set 11 (sx_c2 F_law_pick (hr.mono (by decide)) (sx_v 1) (sx_lst (sa_cons (sx_add (sx_add (sx_sl (sx_v 8) so_none (so_some (sx_v 9))) (sx_v 10)) (sx_sl (sx_v 8) (so_some (sx_add (sx_v 9) sx_i)) so_none)) (sa_cons (sx_add (sx_add (sx_sl (sx_v 8) so_none (so_some (sx_v 9))) (sx_v 10)) (sx_sl (sx_v 8) (so_some (sx_v 9)) so_none)) sa_nil)))) h (fun worse34 h => ?_) sc_law.nd
        show SQ _ _ _ [.dat script1, .dat town_here2, .dat points3, .dat motion_here4, .dat texts5, .emp, .dat turn_of29, .dat k30, .dat text31, .dat at32, .dat mark33, .dat worse34, j10.2.2.2.2.2.2.1, j10.2.2.2.2.2.2.2.1, j10.2.2.2.2.2.2.2.2, .emp] _
        refine s_set 12 (sx_c2 F_law_read (hr.mono (by decide)) (sx_v 7) (sx_v 11)) h (fun told35 h => ?_) sc_law.nd
        show SQ _ _ _ [.dat script1, .dat town_here2, .dat points3, .dat motion_here4, .dat texts5, .emp, .dat turn_of29, .dat k30, .dat text31, .dat at32, .dat mark33, .dat worse34, .dat told35, j10.2.2.2.2.2.2.2.1, j10.2.2.2.2.2.2.2.2, .emp] _
        refine s_ifJ (J := Sl × Sl) h (st_ne hr.units (sx_v 12) sx_s) (fun j => [.dat script1, .dat town_here2, .dat points3, .dat motion_here4, .dat texts5, .emp, .dat turn_of29, .dat k30, .dat text31, .dat at32, .dat mark33, .dat worse34, .dat told35, j.1, j.2, .emp]) (fun j k => k ()) ?_ ?_ ?_
        · rintro ⟨j37, j38⟩ h
          show SQ _ _ _ [.dat script1, .dat town_here2, .dat points3, .dat motion_here4, .dat texts5, .emp, .dat turn_of29, .dat k30, .dat text31, .dat at32, .dat mark33, .dat worse34, .dat told35, j37, j38, .emp] _
          exact s_nil ⟨(), ((.dat turn_of29), (.dat k30), (.dat text31), (.dat at32), (.dat mark33), (.dat worse34), (.dat told35), (j37), (j38)), rfl, h⟩
        · intro h
          refine s_set 13 (sx_if (st_eq hr.units (sx_v 7) sx_i) (sx_join sx_s (sx_lc0 sc_law.nd (blkOk_by (N := ["_law_script", "_law_town_here", "_law_points", "_law_motion_here", "_law_texts", "_law_p", "_law_turn_of", "_law_k", "_law_text", "_law_at", "_law_mark", "_law_worse", "_law_told", "_law_again", "_law_good", "_law_bad"]) (sc := defScope s_law) (own := [("_law_p", 5)]) (by decide +kernel)) (si_v (sx_v 12)) (fun p42 k40 h => ⟨_, qgb_name 5 sc_law.nd, fun s H C cl fp => ((sx_c1 F_law_point_text (hr.mono (by decide)) (sx_v 5))).run h⟩))) (sx_c1 F_law_motion_text (hr.mono (by decide)) (sx_v 12))) h (fun again39 h => ?_) sc_law.nd
          show SQ _ _ _ [.dat script1, .dat town_here2, .dat points3, .dat motion_here4, .dat texts5, .emp, .dat turn_of29, .dat k30, .dat text31, .dat at32, .dat mark33, .dat worse34, .dat told35, .dat again39, j10.2.2.2.2.2.2.2.2, .emp] _
          refine s_set 14 (sx_if (st_eq hr.units (sx_v 7) sx_i) (sx_c1 F_is_heap (hr.mono (by decide)) (sx_v 12)) (sx_c1 F_is_motion (hr.mono (by decide)) (sx_v 12))) h (fun good43 h => ?_) sc_law.nd
          show SQ _ _ _ [.dat script1, .dat town_here2, .dat points3, .dat motion_here4, .dat texts5, .emp, .dat turn_of29, .dat k30, .dat text31, .dat at32, .dat mark33, .dat worse34, .dat told35, .dat again39, .dat good43, .emp] _
          refine s_if (sw_t (sw_or (st_ne hr.units (sx_v 13) (sx_v 11)) (sw_or (st_isntB (sx_v 14)) (sw_or1 (sw_t (sw_and (st_eq hr.units (sx_v 7) sx_i) (sw_and1 (st_ne hr.units (sx_list Z.list (sx_v 12)) (sx_c1 F_law_sorted (hr.mono (by decide)) (sx_v 12)))))))))) h (fun h => ?_) (fun h => ?_)
          · exact s_ret sx_b h
          · refine s_nil ?_
            show SQ _ _ _ [.dat script1, .dat town_here2, .dat points3, .dat motion_here4, .dat texts5, .emp, .dat turn_of29, .dat k30, .dat text31, .dat at32, .dat mark33, .dat worse34, .dat told35, .dat again39, .dat good43, .emp] _
            exact s_nil ⟨(.dat again39, .dat good43), rfl, h⟩
        · intro h
          exact s_nil ⟨(j10.2.2.2.2.2.2.2.1, j10.2.2.2.2.2.2.2.2), rfl, h⟩
      · intro s11 j12 h
        show SQ _ _ _ [.dat script1, .dat town_here2, .dat points3, .dat motion_here4, .dat texts5, .emp, j12.1, j12.2.1, j12.2.2.1, j12.2.2.2.1, j12.2.2.2.2.1, j12.2.2.2.2.2.1, j12.2.2.2.2.2.2.1, j12.2.2.2.2.2.2.2.1, j12.2.2.2.2.2.2.2.2, .emp] _
        refine s_for (S := Unit) (J := Sl) h (si_v (sx_lit (.lst [.non, .int 5, .str "", .str "0,0", .str "1,0 0,0", .str "0,0 0,0", .str "0,0 01,2", .str "0,0 2/4,1", .str "0,0 1,-0", .str "0,0  1,1", .lst [.str "0,0 1,1"], .str "0,0 1/-2,1"]))) (fun s13 j14 => [.dat script1, .dat town_here2, .dat points3, .dat motion_here4, .dat texts5, .emp, j12.1, j12.2.1, j12.2.2.1, j12.2.2.2.1, j12.2.2.2.2.1, j12.2.2.2.2.2.1, j12.2.2.2.2.2.2.1, j12.2.2.2.2.2.2.2.1, j12.2.2.2.2.2.2.2.2, j14]) (.emp) rfl ?_ ?_ pass_cx
        · intro bad26 s13 j14 nx24 h
          refine ⟨_, qg_name 15 sc_law.nd, ?_⟩
          show SQ _ _ _ [.dat script1, .dat town_here2, .dat points3, .dat motion_here4, .dat texts5, .emp, j12.1, j12.2.1, j12.2.2.1, j12.2.2.2.1, j12.2.2.2.2.1, j12.2.2.2.2.2.1, j12.2.2.2.2.2.2.1, j12.2.2.2.2.2.2.2.1, j12.2.2.2.2.2.2.2.2, .dat bad26] _
          refine s_if (st_ne hr.units (sx_c2 F_law_read (hr.mono (by decide)) sx_i (sx_v 15)) sx_s) h (fun h => ?_) (fun h => ?_)
          · exact s_ret sx_b h
          · refine s_nil ?_
            show SQ _ _ _ [.dat script1, .dat town_here2, .dat points3, .dat motion_here4, .dat texts5, .emp, j12.1, j12.2.1, j12.2.2.1, j12.2.2.2.1, j12.2.2.2.2.1, j12.2.2.2.2.2.1, j12.2.2.2.2.2.2.1, j12.2.2.2.2.2.2.2.1, j12.2.2.2.2.2.2.2.2, .dat bad26] _
            exact s_nil ⟨(), (.dat bad26), rfl, h⟩
        · intro s15 j16 h
          show SQ _ _ _ [.dat script1, .dat town_here2, .dat points3, .dat motion_here4, .dat texts5, .emp, j12.1, j12.2.1, j12.2.2.1, j12.2.2.2.1, j12.2.2.2.2.1, j12.2.2.2.2.2.1, j12.2.2.2.2.2.2.1, j12.2.2.2.2.2.2.2.1, j12.2.2.2.2.2.2.2.2, j16] _
          refine s_for (S := Unit) (J := Sl) h (si_v (sx_lit (.lst [.non, .str "", .str "1,0", .str "1,1 0,0", .str "1,0 0,0 Flip", .str "1,0 0,0 flip flip", .str "2,0 0,0", .str "1,0 0,0 ", .str "1,0 0"]))) (fun s17 j18 => [.dat script1, .dat town_here2, .dat points3, .dat motion_here4, .dat texts5, .emp, j12.1, j12.2.1, j12.2.2.1, j12.2.2.2.1, j12.2.2.2.2.1, j12.2.2.2.2.2.1, j12.2.2.2.2.2.2.1, j12.2.2.2.2.2.2.2.1, j12.2.2.2.2.2.2.2.2, j18]) (j16) rfl ?_ ?_ pass_cx
          · intro bad23 s17 j18 nx21 h
            refine ⟨_, qg_name 15 sc_law.nd, ?_⟩
            show SQ _ _ _ [.dat script1, .dat town_here2, .dat points3, .dat motion_here4, .dat texts5, .emp, j12.1, j12.2.1, j12.2.2.1, j12.2.2.2.1, j12.2.2.2.2.1, j12.2.2.2.2.2.1, j12.2.2.2.2.2.2.1, j12.2.2.2.2.2.2.2.1, j12.2.2.2.2.2.2.2.2, .dat bad23] _
            refine s_if (st_ne hr.units (sx_c2 F_law_read (hr.mono (by decide)) sx_i (sx_v 15)) sx_s) h (fun h => ?_) (fun h => ?_)
            · exact s_ret sx_b h
            · refine s_nil ?_
              show SQ _ _ _ [.dat script1, .dat town_here2, .dat points3, .dat motion_here4, .dat texts5, .emp, j12.1, j12.2.1, j12.2.2.1, j12.2.2.2.1, j12.2.2.2.2.1, j12.2.2.2.2.2.1, j12.2.2.2.2.2.2.1, j12.2.2.2.2.2.2.2.1, j12.2.2.2.2.2.2.2.2, .dat bad23] _
              exact s_nil ⟨(), (.dat bad23), rfl, h⟩
          · intro s19 j20 h
            show SQ _ _ _ [.dat script1, .dat town_here2, .dat points3, .dat motion_here4, .dat texts5, .emp, j12.1, j12.2.1, j12.2.2.1, j12.2.2.2.1, j12.2.2.2.2.1, j12.2.2.2.2.2.1, j12.2.2.2.2.2.2.1, j12.2.2.2.2.2.2.2.1, j12.2.2.2.2.2.2.2.2, j20] _
            exact s_ret (sx_and (sx_eq hr.units (sx_c2 F_law_read (hr.mono (by decide)) sx_i sx_s) (sx_lit (.tup [.tup [.int 3, .int (0 - 4), .int 5], .tup [.int 0, .int 1, .int 2], .int 1]))) (sx_and1 (sx_eq hr.units (sx_c2 F_law_read (hr.mono (by decide)) sx_i (sx_add (sx_add sx_s (sx_repS sx_s sx_i)) sx_s)) sx_s))) h
end
def d_law_town : He.DefD := ⟨("_law_town", none), "_law_town", "_law_town", defArgs s_law_town, defBody s_law_town, defScope s_law_town, [], []⟩
def d_law_draw : He.DefD := ⟨("_law_draw", none), "_law_draw", "_law_draw", defArgs s_law_draw, defBody s_law_draw, defScope s_law_draw, [], []⟩
def d_law_gcd : He.DefD := ⟨("_law_gcd", none), "_law_gcd", "_law_gcd", defArgs s_law_gcd, defBody s_law_gcd, defScope s_law_gcd, [], []⟩
def d_law_low : He.DefD := ⟨("_law_low", none), "_law_low", "_law_low", defArgs s_law_low, defBody s_law_low, defScope s_law_low, [], []⟩
def d_law_pick : He.DefD := ⟨("_law_pick", none), "_law_pick", "_law_pick", defArgs s_law_pick, defBody s_law_pick, defScope s_law_pick, [], []⟩
def d_law_point : He.DefD := ⟨("_law_point", none), "_law_point", "_law_point", defArgs s_law_point, defBody s_law_point, defScope s_law_point, [], []⟩
def d_law_heap : He.DefD := ⟨("_law_heap", none), "_law_heap", "_law_heap", defArgs s_law_heap, defBody s_law_heap, defScope s_law_heap, [], []⟩
def d_law_turn : He.DefD := ⟨("_law_turn", none), "_law_turn", "_law_turn", defArgs s_law_turn, defBody s_law_turn, defScope s_law_turn, [], []⟩
def d_law_motion : He.DefD := ⟨("_law_motion", none), "_law_motion", "_law_motion", defArgs s_law_motion, defBody s_law_motion, defScope s_law_motion, [], []⟩
def d_law_share : He.DefD := ⟨("_law_share", none), "_law_share", "_law_share", defArgs s_law_share, defBody s_law_share, defScope s_law_share, [], []⟩
def d_law_number : He.DefD := ⟨("_law_number", none), "_law_number", "_law_number", defArgs s_law_number, defBody s_law_number, defScope s_law_number, [], []⟩
def d_law_point_text : He.DefD := ⟨("_law_point_text", none), "_law_point_text", "_law_point_text", defArgs s_law_point_text, defBody s_law_point_text, defScope s_law_point_text, [], []⟩
def d_law_motion_text : He.DefD := ⟨("_law_motion_text", none), "_law_motion_text", "_law_motion_text", defArgs s_law_motion_text, defBody s_law_motion_text, defScope s_law_motion_text, [], []⟩
def d_law_refusal : He.DefD := ⟨("_law_refusal", none), "_law_refusal", "_law_refusal", defArgs s_law_refusal, defBody s_law_refusal, defScope s_law_refusal, [], []⟩
def d_common : He.DefD := ⟨("common", none), "common", "common", defArgs s_common, defBody s_common, defScope s_common, [], []⟩
def d_lowest : He.DefD := ⟨("lowest", none), "lowest", "lowest", defArgs s_lowest, defBody s_lowest, defScope s_lowest, [], []⟩
def d_whole_in : He.DefD := ⟨("whole_in", none), "whole_in", "whole_in", defArgs s_whole_in, defBody s_whole_in, defScope s_whole_in, [], []⟩
def d_share : He.DefD := ⟨("share", none), "share", "share", defArgs s_share, defBody s_share, defScope s_share, [], []⟩
def d_share_in : He.DefD := ⟨("share_in", none), "share_in", "share_in", defArgs s_share_in, defBody s_share_in, defScope s_share_in, [], []⟩
def d_point_in : He.DefD := ⟨("point_in", none), "point_in", "point_in", defArgs s_point_in, defBody s_point_in, defScope s_point_in, [], []⟩
def d_is_number : He.DefD := ⟨("is_number", none), "is_number", "is_number", defArgs s_is_number, defBody s_is_number, defScope s_is_number, [], []⟩
def d_is_point : He.DefD := ⟨("is_point", none), "is_point", "is_point", defArgs s_is_point, defBody s_is_point, defScope s_is_point, [], []⟩
def d_is_heap : He.DefD := ⟨("is_heap", none), "is_heap", "is_heap", defArgs s_is_heap, defBody s_is_heap, defScope s_is_heap, [], []⟩
def d_ahead : He.DefD := ⟨("ahead", none), "ahead", "ahead", defArgs s_ahead, defBody s_ahead, defScope s_ahead, [], []⟩
def d_in_order : He.DefD := ⟨("in_order", none), "in_order", "in_order", defArgs s_in_order, defBody s_in_order, defScope s_in_order, [], []⟩
def d_heap_read : He.DefD := ⟨("heap_read", none), "heap_read", "heap_read", defArgs s_heap_read, defBody s_heap_read, defScope s_heap_read, [], []⟩
def d_is_whole : He.DefD := ⟨("is_whole", none), "is_whole", "is_whole", defArgs s_is_whole, defBody s_is_whole, defScope s_is_whole, [], []⟩
def d_size : He.DefD := ⟨("size", none), "size", "size", defArgs s_size, defBody s_size, defScope s_size, [], []⟩
def d_is_motion : He.DefD := ⟨("is_motion", none), "is_motion", "is_motion", defArgs s_is_motion, defBody s_is_motion, defScope s_is_motion, [], []⟩
def d_motion_read : He.DefD := ⟨("motion_read", none), "motion_read", "motion_read", defArgs s_motion_read, defBody s_motion_read, defScope s_motion_read, [], []⟩
def d_law_read : He.DefD := ⟨("_law_read", none), "_law_read", "_law_read", defArgs s_law_read, defBody s_law_read, defScope s_law_read, [], []⟩
def d_look_heaps : He.DefD := ⟨("look_heaps", none), "look_heaps", "look_heaps", defArgs s_look_heaps, defBody s_look_heaps, defScope s_look_heaps, [], []⟩
def d_number_text : He.DefD := ⟨("number_text", none), "number_text", "number_text", defArgs s_number_text, defBody s_number_text, defScope s_number_text, [], []⟩
def d_written : He.DefD := ⟨("written", none), "written", "written", defArgs s_written, defBody s_written, defScope s_written, [], []⟩
def d_heap_text : He.DefD := ⟨("heap_text", none), "heap_text", "heap_text", defArgs s_heap_text, defBody s_heap_text, defScope s_heap_text, [], []⟩
def d_look_motion : He.DefD := ⟨("look_motion", none), "look_motion", "look_motion", defArgs s_look_motion, defBody s_look_motion, defScope s_look_motion, [], []⟩
def d_motion_text : He.DefD := ⟨("motion_text", none), "motion_text", "motion_text", defArgs s_motion_text, defBody s_motion_text, defScope s_motion_text, [], []⟩
def d_law_before : He.DefD := ⟨("_law_before", none), "_law_before", "_law_before", defArgs s_law_before, defBody s_law_before, defScope s_law_before, [], []⟩
def d_law_sorted : He.DefD := ⟨("_law_sorted", none), "_law_sorted", "_law_sorted", defArgs s_law_sorted, defBody s_law_sorted, defScope s_law_sorted, [], []⟩
def d_law : He.DefD := ⟨("law", none), "law", "law", defArgs s_law, defBody s_law, defScope s_law, [], []⟩
def fn : List He.DefD := ([d_law_town, d_law_draw, d_law_gcd, d_law_low, d_law_pick, d_law_point, d_law_heap, d_law_turn, d_law_motion, d_law_share, d_law_number, d_law_point_text, d_law_motion_text, d_law_refusal, d_common, d_lowest, d_whole_in, d_share, d_share_in, d_point_in, d_is_number, d_is_point, d_is_heap, d_ahead, d_in_order, d_heap_read, d_is_whole, d_size, d_is_motion, d_motion_read] : List He.DefD) ++ ([d_law_read, d_look_heaps, d_number_text, d_written, d_heap_text, d_look_motion, d_motion_text, d_law_before, d_law_sorted, d_law] : List He.DefD)
def fa : List He.Fa := ([.glo "_law_town", .glo "_law_draw", .glo "_law_gcd", .glo "_law_low", .glo "_law_pick", .glo "_law_point", .glo "_law_heap", .glo "_law_turn", .glo "_law_motion", .glo "_law_share", .glo "_law_number", .glo "_law_point_text", .glo "_law_motion_text", .glo "_law_refusal", .glo "common", .glo "lowest", .glo "whole_in", .glo "share", .glo "share_in", .glo "point_in", .glo "is_number", .glo "is_point", .glo "is_heap", .glo "ahead", .glo "in_order", .glo "heap_read", .glo "is_whole", .glo "size", .glo "is_motion", .glo "motion_read"] : List He.Fa) ++ ([.glo "_law_read", .glo "look_heaps", .glo "number_text", .glo "written", .glo "heap_text", .glo "look_motion", .glo "motion_text", .glo "_law_before", .glo "_law_sorted", .glo "law", .glo "BadMotion", .glo "BadPoint", .glo "BadNumber", .glo "BadName", .glo "BadPairs", .glo "BadHeap", .glo "NoThing", .glo "BadText", .glo "OverError", .free "abs", .free "len", .free "all", .free "any", .free "max", .free "isinstance", .free "int", .free "bool", .free "tuple", .free "list", .free "str"] : List He.Fa) ++ ([.free "range", .free "zip", .free "enumerate", .free "sorted", .free "sum", .free "min", .free "ValueError", .exc "BadMotion", .exc "BadPoint", .exc "BadNumber", .exc "BadName", .exc "BadPairs", .exc "BadHeap", .exc "NoThing", .exc "BadText", .str "FIGURES" "0123456789", .int "MOST" 14] : List He.Fa)
def cs : List (Str × D) := [("", .exc "")]
def loose : List Str := (["__name__", "OverError", "BadNumber", "BadPoint", "BadMotion", "BadHeap", "BadPairs", "BadName", "BadText", "NoThing", "is_number", "is_whole", "common", "share", "lowest", "size", "is_point", "ahead", "in_order", "is_motion", "look_motion", "MOST", "is_heap", "look_heaps", "FIGURES", "number_text", "written", "heap_text", "motion_text", "whole_in"] : List Str) ++ (["share_in", "point_in", "heap_read", "motion_read", "_law_town", "_law_draw", "_law_pick", "_law_refusal", "_law_gcd", "_law_low", "_law_share", "_law_before", "_law_sorted", "_law_point", "_law_turn", "_law_motion", "_law_heap", "_law_number", "_law_point_text", "_law_motion_text", "_law_read"] : List Str)
abbrev R : PySem.W.OpenRow := PySem.W.OpenLaw.row PySem.Challenge.rw_laidover_k22_whole_texts
def asl : List Addr := ([3, 6, 4, 24, 37, 49, 61, 73, 85, 97, 109, 121, 130, 137, 144, 151, 158, 165, 170, 177, 184, 191, 198, 203, 208, 215, 222, 227, 234, 239] : List Addr) ++ ([246, 253, 258, 265, 272, 279, 286, 293, 300, 307, 314, 321, 326, 333, 340, 347, 352, 359, 366, 373, 380, 385, 0, 23, 36, 48, 60, 72, 84, 96] : List Addr) ++ ([108, 120, 129, 136, 143, 150, 157, 164, 169, 176, 183, 190, 197, 202, 207, 214, 221, 226, 233, 238, 245, 252, 257, 264, 271, 278, 285, 292, 299, 306] : List Addr) ++ ([313, 320, 325, 332, 339, 346, 351, 358, 365, 372, 379, 384, 22, 25, 35, 47, 59, 71, 83, 95, 107, 119, 124, 125, 126, 127, 128, 131, 132, 133] : List Addr) ++ ([134, 135, 138, 139, 140, 141, 142, 145, 146, 147, 148, 149, 152, 153, 154, 155, 156, 159, 160, 161, 162, 163, 166, 167, 168, 171, 172, 173, 174, 175] : List Addr) ++ ([178, 179, 180, 181, 182, 185, 186, 187, 188, 189, 192, 193, 194, 195, 196, 199, 200, 201, 204, 205, 206, 209, 210, 211, 212, 213, 216, 217, 218, 219] : List Addr) ++ ([220, 223, 224, 225, 228, 229, 230, 231, 232, 235, 236, 237, 240, 241, 242, 243, 244, 247, 248, 249, 250, 251, 254, 255, 256, 259, 260, 261, 262, 263] : List Addr) ++ ([266, 267, 268, 269, 270, 273, 274, 275, 276, 277, 280, 281, 282, 283, 284, 287, 288, 289, 290, 291, 294, 295, 296, 297, 298, 301, 302, 303, 304, 305] : List Addr) ++ ([308, 309, 310, 311, 312, 315, 316, 317, 318, 319, 322, 323, 324, 327, 328, 329, 330, 331, 334, 335, 336, 337, 338, 341, 342, 343, 344, 345, 348, 349] : List Addr) ++ ([350, 353, 354, 355, 356, 357, 360, 361, 362, 363, 364, 367, 368, 369, 370, 371, 374, 375, 376, 377, 378, 381, 382, 383] : List Addr)
abbrev hk : PySem.W.Hook := hookA asl cs fa fn
def ob (s : PySem.W.SharedT) : AlG := obsGA asl cs fa fn (HandSHeadRun.getT s)
theorem ob_eq (s : PySem.W.SharedT) : ob s = hk.obs s.abs := obsGA_eq (HandSHeadRun.getT_eq s)
theorem run1 (w : World) : ∀ os : OsState, (HandSHeadRun.endF (HandSHeadRun.stepQ (HandSHeadRun.denQ HandSHeadRun.tabQ) R.prog w) 8000 R.prog w os).map (fun s => (HandSHeadRun.looksF R.prog (PySem.W.boot_heap w.params) s.abs, HandSHeadRun.seenQ (PySem.W.view R.prog [57]) loose (PySem.importedModules R.prog.main.body) (fun s => PySem.W.xlAt (PySem.W.view R.prog [57]) [] s && PySem.W.recOk R.toRowW.records s) s.abs)) = some (true, PySem.W.openGood (PySem.W.view R.prog [57]) loose) := by
  intro os
  kernel_rfl
theorem run2 (w : World) : ∀ os : OsState, (HandSHeadRun.endF (HandSHeadRun.stepQ (HandSHeadRun.denQ HandSHeadRun.tabQ) R.prog w) 8000 R.prog w os).map (fun s => ob s) = some (hk.val w) := by
  intro os
  kernel_rfl
theorem run (w : World) : HandSHeadRun.RunEq R (PySem.W.view R.prog [57]) hk ob 8000 loose w := fun os => run_two (run1 w os) (run2 w os)
theorem facts {P : Program} {w : World} {K : PySem.W.Frag} {h : Heap} {mg : Str → Option Value} {f : Addr} (X : K.In h) (Gn : h.Ns mainGlobals mg) (hfa : mg ("law" : Str) = some (.ref f)) (c : SaysG cs fa fn K) :
    ∃ fd : FuncData, (∀ (s : Shared) (v : Value), BindsTo s fd ⟨[v], []⟩ [("_law_script", v)]) ∧ ∀ base : Heap, K.In base → base.Ns mainGlobals mg → FnOk P w K mg base CX0 7 f fd ["_law_script"] (spEnd K) := by
  obtain ⟨cc, c⟩ := c
  have Z : Zs mg := ⟨He.free_ok X Gn (c.fact 49 (f := .free "abs") rfl), He.free_ok X Gn (c.fact 50 (f := .free "len") rfl), He.free_ok X Gn (c.fact 51 (f := .free "all") rfl), He.free_ok X Gn (c.fact 52 (f := .free "any") rfl), He.free_ok X Gn (c.fact 53 (f := .free "max") rfl), He.free_ok X Gn (c.fact 54 (f := .free "isinstance") rfl), He.free_ok X Gn (c.fact 55 (f := .free "int") rfl), He.free_ok X Gn (c.fact 56 (f := .free "bool") rfl), He.free_ok X Gn (c.fact 57 (f := .free "tuple") rfl), He.free_ok X Gn (c.fact 58 (f := .free "list") rfl), He.free_ok X Gn (c.fact 59 (f := .free "str") rfl), He.free_ok X Gn (c.fact 60 (f := .free "range") rfl), He.free_ok X Gn (c.fact 61 (f := .free "zip") rfl), He.free_ok X Gn (c.fact 62 (f := .free "enumerate") rfl), He.free_ok X Gn (c.fact 63 (f := .free "sorted") rfl), He.free_ok X Gn (c.fact 64 (f := .free "sum") rfl), He.free_ok X Gn (c.fact 65 (f := .free "min") rfl)⟩
  have E_BadMotion : ExcF K mg "BadMotion" := exc_of X Gn (c.fact 40 (f := .glo "BadMotion") rfl) (c.fact 67 (f := .exc "BadMotion") rfl)
  have E_BadPoint : ExcF K mg "BadPoint" := exc_of X Gn (c.fact 41 (f := .glo "BadPoint") rfl) (c.fact 68 (f := .exc "BadPoint") rfl)
  have E_BadNumber : ExcF K mg "BadNumber" := exc_of X Gn (c.fact 42 (f := .glo "BadNumber") rfl) (c.fact 69 (f := .exc "BadNumber") rfl)
  have E_BadName : ExcF K mg "BadName" := exc_of X Gn (c.fact 43 (f := .glo "BadName") rfl) (c.fact 70 (f := .exc "BadName") rfl)
  have E_BadPairs : ExcF K mg "BadPairs" := exc_of X Gn (c.fact 44 (f := .glo "BadPairs") rfl) (c.fact 71 (f := .exc "BadPairs") rfl)
  have E_BadHeap : ExcF K mg "BadHeap" := exc_of X Gn (c.fact 45 (f := .glo "BadHeap") rfl) (c.fact 72 (f := .exc "BadHeap") rfl)
  have E_NoThing : ExcF K mg "NoThing" := exc_of X Gn (c.fact 46 (f := .glo "NoThing") rfl) (c.fact 73 (f := .exc "NoThing") rfl)
  have E_BadText : ExcF K mg "BadText" := exc_of X Gn (c.fact 47 (f := .glo "BadText") rfl) (c.fact 74 (f := .exc "BadText") rfl)
  have EI := excI_of (exq_of cc 0 rfl) (He.glo_ok X Gn (c.fact 48 (f := .glo "OverError") rfl))
  have v_ValueError := He.free_ok X Gn (c.fact 66 (f := .free "ValueError") rfl)
  have i_FIGURES := He.str_ok X Gn (c.fact 75 (f := .str "FIGURES" "0123456789") rfl)
  have i_MOST := He.int_ok X Gn (c.fact 76 (f := .int "MOST" 14) rfl)
  obtain ⟨fd_law_town, F_law_town⟩ := c.def_ 0 (d := d_law_town) rfl
  obtain ⟨fd_law_draw, F_law_draw⟩ := c.def_ 1 (d := d_law_draw) rfl
  obtain ⟨fd_law_gcd, F_law_gcd⟩ := c.def_ 2 (d := d_law_gcd) rfl
  obtain ⟨fd_law_low, F_law_low⟩ := c.def_ 3 (d := d_law_low) rfl
  obtain ⟨fd_law_pick, F_law_pick⟩ := c.def_ 4 (d := d_law_pick) rfl
  obtain ⟨fd_law_point, F_law_point⟩ := c.def_ 5 (d := d_law_point) rfl
  obtain ⟨fd_law_heap, F_law_heap⟩ := c.def_ 6 (d := d_law_heap) rfl
  obtain ⟨fd_law_turn, F_law_turn⟩ := c.def_ 7 (d := d_law_turn) rfl
  obtain ⟨fd_law_motion, F_law_motion⟩ := c.def_ 8 (d := d_law_motion) rfl
  obtain ⟨fd_law_share, F_law_share⟩ := c.def_ 9 (d := d_law_share) rfl
  obtain ⟨fd_law_number, F_law_number⟩ := c.def_ 10 (d := d_law_number) rfl
  obtain ⟨fd_law_point_text, F_law_point_text⟩ := c.def_ 11 (d := d_law_point_text) rfl
  obtain ⟨fd_law_motion_text, F_law_motion_text⟩ := c.def_ 12 (d := d_law_motion_text) rfl
  obtain ⟨fd_law_refusal, F_law_refusal⟩ := c.def_ 13 (d := d_law_refusal) rfl
  obtain ⟨fd_common, F_common⟩ := c.def_ 14 (d := d_common) rfl
  obtain ⟨fd_lowest, F_lowest⟩ := c.def_ 15 (d := d_lowest) rfl
  obtain ⟨fd_whole_in, F_whole_in⟩ := c.def_ 16 (d := d_whole_in) rfl
  obtain ⟨fd_share, F_share⟩ := c.def_ 17 (d := d_share) rfl
  obtain ⟨fd_share_in, F_share_in⟩ := c.def_ 18 (d := d_share_in) rfl
  obtain ⟨fd_point_in, F_point_in⟩ := c.def_ 19 (d := d_point_in) rfl
  obtain ⟨fd_is_number, F_is_number⟩ := c.def_ 20 (d := d_is_number) rfl
  obtain ⟨fd_is_point, F_is_point⟩ := c.def_ 21 (d := d_is_point) rfl
  obtain ⟨fd_is_heap, F_is_heap⟩ := c.def_ 22 (d := d_is_heap) rfl
  obtain ⟨fd_ahead, F_ahead⟩ := c.def_ 23 (d := d_ahead) rfl
  obtain ⟨fd_in_order, F_in_order⟩ := c.def_ 24 (d := d_in_order) rfl
  obtain ⟨fd_heap_read, F_heap_read⟩ := c.def_ 25 (d := d_heap_read) rfl
  obtain ⟨fd_is_whole, F_is_whole⟩ := c.def_ 26 (d := d_is_whole) rfl
  obtain ⟨fd_size, F_size⟩ := c.def_ 27 (d := d_size) rfl
  obtain ⟨fd_is_motion, F_is_motion⟩ := c.def_ 28 (d := d_is_motion) rfl
  obtain ⟨fd_motion_read, F_motion_read⟩ := c.def_ 29 (d := d_motion_read) rfl
  obtain ⟨fd_law_read, F_law_read⟩ := c.def_ 30 (d := d_law_read) rfl
  obtain ⟨fd_look_heaps, F_look_heaps⟩ := c.def_ 31 (d := d_look_heaps) rfl
  obtain ⟨fd_number_text, F_number_text⟩ := c.def_ 32 (d := d_number_text) rfl
  obtain ⟨fd_written, F_written⟩ := c.def_ 33 (d := d_written) rfl
  obtain ⟨fd_heap_text, F_heap_text⟩ := c.def_ 34 (d := d_heap_text) rfl
  obtain ⟨fd_look_motion, F_look_motion⟩ := c.def_ 35 (d := d_look_motion) rfl
  obtain ⟨fd_motion_text, F_motion_text⟩ := c.def_ 36 (d := d_motion_text) rfl
  obtain ⟨fd_law_before, F_law_before⟩ := c.def_ 37 (d := d_law_before) rfl
  obtain ⟨fd_law_sorted, F_law_sorted⟩ := c.def_ 38 (d := d_law_sorted) rfl
  obtain ⟨fd, F⟩ := c.def_ 39 (d := d_law) rfl
  have e := hfa.symm.trans (He.glo_ok X Gn (c.fact 39 (f := .glo "law") rfl))
  cases e
  have b := FunD.bindsA (ps := ["_law_script"]) F fun _ _ _ _ _ _ us hl => match us, hl with | [_], _ => rfl
  refine ⟨fd, fun s v => b s [v] rfl, fun base _ _ => ?_⟩
  have A_law_town : FnS P w K mg base "_law_town" 1 1 (sp1 p_law_town) := ok_law_town Z F_law_town (He.glo_ok X Gn (c.fact 0 (f := .glo "_law_town") rfl))
  have A_law_draw : FnS P w K mg base "_law_draw" 1 2 (sp2 p_law_draw) := ok_law_draw Z F_law_draw (He.glo_ok X Gn (c.fact 1 (f := .glo "_law_draw") rfl))
  have A_law_gcd : FnS P w K mg base "_law_gcd" 1 2 (sp2 p_law_gcd) := ok_law_gcd Z F_law_gcd (He.glo_ok X Gn (c.fact 2 (f := .glo "_law_gcd") rfl))
  have A_law_low : FnS P w K mg base "_law_low" 2 3 (sp3 p_law_low) := ok_law_low Z A_law_gcd F_law_low (He.glo_ok X Gn (c.fact 3 (f := .glo "_law_low") rfl))
  have A_law_pick : FnS P w K mg base "_law_pick" 2 2 (sp2 p_law_pick) := ok_law_pick Z A_law_draw F_law_pick (He.glo_ok X Gn (c.fact 4 (f := .glo "_law_pick") rfl))
  have A_law_point : FnS P w K mg base "_law_point" 3 2 (sp2 p_law_point) := ok_law_point Z A_law_low A_law_draw A_law_pick F_law_point (He.glo_ok X Gn (c.fact 5 (f := .glo "_law_point") rfl))
  have A_law_heap : FnS P w K mg base "_law_heap" 4 2 (sp2 p_law_heap) := ok_law_heap Z A_law_draw A_law_point F_law_heap (He.glo_ok X Gn (c.fact 6 (f := .glo "_law_heap") rfl))
  have A_law_turn : FnS P w K mg base "_law_turn" 3 1 (sp1 p_law_turn) := ok_law_turn Z A_law_pick A_law_low F_law_turn (He.glo_ok X Gn (c.fact 7 (f := .glo "_law_turn") rfl))
  have A_law_motion : FnS P w K mg base "_law_motion" 4 1 (sp1 p_law_motion) := ok_law_motion Z A_law_turn A_law_point A_law_draw F_law_motion (He.glo_ok X Gn (c.fact 8 (f := .glo "_law_motion") rfl))
  have A_law_share : FnS P w K mg base "_law_share" 2 2 (sp2 p_law_share) := ok_law_share Z A_law_gcd F_law_share (He.glo_ok X Gn (c.fact 9 (f := .glo "_law_share") rfl))
  have A_law_number : FnS P w K mg base "_law_number" 3 2 (sp2 p_law_number) := ok_law_number Z A_law_share F_law_number (He.glo_ok X Gn (c.fact 10 (f := .glo "_law_number") rfl))
  have A_law_point_text : FnS P w K mg base "_law_point_text" 4 1 (sp1 p_law_point_text) := ok_law_point_text Z A_law_number F_law_point_text (He.glo_ok X Gn (c.fact 11 (f := .glo "_law_point_text") rfl))
  have A_law_motion_text : FnS P w K mg base "_law_motion_text" 5 1 (sp1 p_law_motion_text) := ok_law_motion_text Z A_law_point_text F_law_motion_text (He.glo_ok X Gn (c.fact 12 (f := .glo "_law_motion_text") rfl))
  have A_law_refusal : FnS P w K mg base "_law_refusal" 1 1 (sp1 p_law_refusal) := ok_law_refusal Z EI E_BadMotion E_BadPoint E_BadNumber E_BadName E_BadPairs E_BadHeap E_NoThing E_BadText v_ValueError F_law_refusal (He.glo_ok X Gn (c.fact 13 (f := .glo "_law_refusal") rfl))
  have A_common : FnS P w K mg base "common" 1 2 (sp2 p_common) := ok_common Z F_common (He.glo_ok X Gn (c.fact 14 (f := .glo "common") rfl))
  have A_lowest : FnS P w K mg base "lowest" 2 3 (sp3 p_lowest) := ok_lowest Z A_common F_lowest (He.glo_ok X Gn (c.fact 15 (f := .glo "lowest") rfl))
  have A_whole_in : FnS P w K mg base "whole_in" 1 1 (sp1 p_whole_in) := ok_whole_in Z i_FIGURES E_BadText F_whole_in (He.glo_ok X Gn (c.fact 16 (f := .glo "whole_in") rfl))
  have A_share : FnS P w K mg base "share" 2 2 (sp2 p_share) := ok_share Z A_common F_share (He.glo_ok X Gn (c.fact 17 (f := .glo "share") rfl))
  have A_share_in : FnS P w K mg base "share_in" 3 1 (sp1 p_share_in) := ok_share_in Z A_whole_in A_share E_BadText F_share_in (He.glo_ok X Gn (c.fact 18 (f := .glo "share_in") rfl))
  have A_point_in : FnS P w K mg base "point_in" 4 1 (sp1 p_point_in) := ok_point_in Z A_lowest A_share_in E_BadText F_point_in (He.glo_ok X Gn (c.fact 19 (f := .glo "point_in") rfl))
  have A_is_number : FnS P w K mg base "is_number" 1 1 (sp1 p_is_number) := ok_is_number Z F_is_number (He.glo_ok X Gn (c.fact 20 (f := .glo "is_number") rfl))
  have A_is_point : FnS P w K mg base "is_point" 2 1 (sp1 p_is_point) := ok_is_point Z A_common A_is_number F_is_point (He.glo_ok X Gn (c.fact 21 (f := .glo "is_point") rfl))
  have A_is_heap : FnS P w K mg base "is_heap" 3 1 (sp1 p_is_heap) := ok_is_heap Z A_is_point i_MOST F_is_heap (He.glo_ok X Gn (c.fact 22 (f := .glo "is_heap") rfl))
  have A_ahead : FnS P w K mg base "ahead" 1 2 (sp2 p_ahead) := ok_ahead Z F_ahead (He.glo_ok X Gn (c.fact 23 (f := .glo "ahead") rfl))
  have A_in_order : FnS P w K mg base "in_order" 2 1 (sp1 p_in_order) := ok_in_order Z A_ahead F_in_order (He.glo_ok X Gn (c.fact 24 (f := .glo "in_order") rfl))
  have A_heap_read : FnS P w K mg base "heap_read" 5 1 (sp1 p_heap_read) := ok_heap_read Z A_point_in A_is_heap A_in_order E_BadText F_heap_read (He.glo_ok X Gn (c.fact 25 (f := .glo "heap_read") rfl))
  have A_is_whole : FnS P w K mg base "is_whole" 2 3 (sp3 p_is_whole) := ok_is_whole Z A_is_number F_is_whole (He.glo_ok X Gn (c.fact 26 (f := .glo "is_whole") rfl))
  have A_size : FnS P w K mg base "size" 3 1 (sp1 p_size) := ok_size Z A_share F_size (He.glo_ok X Gn (c.fact 27 (f := .glo "size") rfl))
  have A_is_motion : FnS P w K mg base "is_motion" 4 1 (sp1 p_is_motion) := ok_is_motion Z A_is_whole A_is_point A_size F_is_motion (He.glo_ok X Gn (c.fact 28 (f := .glo "is_motion") rfl))
  have A_motion_read : FnS P w K mg base "motion_read" 5 1 (sp1 p_motion_read) := ok_motion_read Z A_point_in A_is_motion E_BadText F_motion_read (He.glo_ok X Gn (c.fact 29 (f := .glo "motion_read") rfl))
  have A_law_read : FnS P w K mg base "_law_read" 6 2 (sp2 p_law_read) := ok_law_read Z A_law_refusal A_heap_read A_motion_read EI F_law_read (He.glo_ok X Gn (c.fact 30 (f := .glo "_law_read") rfl))
  have A_look_heaps : FnS P w K mg base "look_heaps" 4 1 (sp1 p_look_heaps) := ok_look_heaps Z A_is_heap E_BadHeap F_look_heaps (He.glo_ok X Gn (c.fact 31 (f := .glo "look_heaps") rfl))
  have A_number_text : FnS P w K mg base "number_text" 3 2 (sp2 p_number_text) := ok_number_text Z A_share F_number_text (He.glo_ok X Gn (c.fact 32 (f := .glo "number_text") rfl))
  have A_written : FnS P w K mg base "written" 4 1 (sp1 p_written) := ok_written Z A_number_text F_written (He.glo_ok X Gn (c.fact 33 (f := .glo "written") rfl))
  have A_heap_text : FnS P w K mg base "heap_text" 5 1 (sp1 p_heap_text) := ok_heap_text Z A_look_heaps A_written A_in_order F_heap_text (He.glo_ok X Gn (c.fact 34 (f := .glo "heap_text") rfl))
  have A_look_motion : FnS P w K mg base "look_motion" 5 1 (sp1 p_look_motion) := ok_look_motion Z A_is_motion E_BadMotion F_look_motion (He.glo_ok X Gn (c.fact 35 (f := .glo "look_motion") rfl))
  have A_motion_text : FnS P w K mg base "motion_text" 6 1 (sp1 p_motion_text) := ok_motion_text Z A_look_motion A_written F_motion_text (He.glo_ok X Gn (c.fact 36 (f := .glo "motion_text") rfl))
  have A_law_before : FnS P w K mg base "_law_before" 1 2 (sp2 p_law_before) := ok_law_before Z F_law_before (He.glo_ok X Gn (c.fact 37 (f := .glo "_law_before") rfl))
  have A_law_sorted : FnS P w K mg base "_law_sorted" 2 1 (sp1 p_law_sorted) := ok_law_sorted Z A_law_before F_law_sorted (He.glo_ok X Gn (c.fact 38 (f := .glo "_law_sorted") rfl))
  exact fin_law (ok_law Z A_law_town A_law_heap A_law_motion A_law_motion_text A_law_draw A_law_pick A_law_read A_heap_text A_motion_text A_law_point_text A_law_sorted A_is_heap A_is_motion F hfa) rfl ⟨_, rfl, law_true⟩
end G.W
open PySem PySem.W PySem.Calls PyProof.Rows in
theorem PySem.Challenge.cw_laidover_k22_whole_texts_holds : PySem.Challenge.rw_laidover_k22_whole_texts.Holds := by
  w_on; o_law
  refine HandSHeadRun.head_any (r := OpenLaw.row PySem.Challenge.rw_laidover_k22_whole_texts) (q := view (OpenLaw.row PySem.Challenge.rw_laidover_k22_whole_texts).prog [57]) (H := G.W.hk) (ob := G.W.ob) (M := 8000) (loose := G.W.loose) (d := HandSHeadRun.topDef (OpenLaw.row PySem.Challenge.rw_laidover_k22_whole_texts).prog 57) (kwd := []) G.W.ob_eq
    (by kernel_rfl) (fun s => by kernel_rfl) G.W.run (by kernel_rfl) (by kernel_rfl) (by kernel_rfl) (by rfl) (by first | assumption | decide +kernel) (by decide +kernel) ⟨rfl, rfl, rfl, rfl, rfl, by decide +kernel⟩ ?hw ?hc
  case hw => w_witness2
  case hc =>
    refine L2.walk_ofE (l := PySem.Challenge.rw_laidover_k22_whole_texts) (n := 63) (k := 7) (x := "_law_script") (CX := L2.CX0) rfl (by decide) (by kernel_rfl) ⟨rfl, by decide, by decide⟩ ?F (fun _ _ _ _ z => z)
    intro w mg fa h Y G' hmg0
    obtain ⟨K, KX, c⟩ := Y
    have hmg : mg ("law" : PySem.Str) = some (.ref fa) := by
      have e : (HandSHeadRun.topDef (OpenLaw.row PySem.Challenge.rw_laidover_k22_whole_texts).prog 57).name = ("law" : PySem.Str) := by kernel_rfl
      rw [← e]
      exact hmg0
    obtain ⟨fd, hb, hF⟩ := G.W.facts (P := (PySem.Challenge.rw_laidover_k22_whole_texts).prog) (w := w) KX G' hmg c
    exact ⟨K, fd, G.spEnd K, KX, hb, fun H a ns hl _ hS => ⟨a, ns, rfl, hS, hl, fun _ => rfl⟩, hF⟩
