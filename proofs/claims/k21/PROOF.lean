import PyProof.Rows.All
import Wide.All
import OpenK.AllK
import Wide.FinOn
import HandS.ForExc
import HandS.ForMost
import HandS.Wide
import HandS.IsInst
import HandS.Flow
import HandS.Style
import HandS.Defaults
import HandS.HeadHook1
import HandS.HeadHook2
import HandS.DictComp
import HandS.CallSlots
import KE.KDictKeyed
import KE.SortData
import HandS.Deep
import HandS.Zip
import HandS.Head0
import HandS.Head1
import HandS.Head2
import HandS.HeadEnd
import HandS.TupAny
import HandS.NoneIn
import HandS.Codes
import HandS.More
import HandS.ExcIs
import HandS.SetFor
import KE.KDictSum
import HandS.DictEq
import KE.GoesMore
import KE.DataMinMax
import HandS.FStr
import HandS.Steps
import KE.GoesComp
import KE.GoesRaise
import KE.KAsSuite
import HandS.Iter
import HandS.ListEq
import HandS.WordsDict
import HandS.NamedTup0
import PyProof.InstSpecial
import HandS.Call
import PySem.Challenge.RW_laidover_k21_albums_refused
set_option Elab.async false
set_option linter.all false
set_option maxRecDepth 100000
set_option maxHeartbeats 4000000
/-! G: data (no heap) over the hand layer. What an expression gives, what a block does, told of data alone. -/
namespace G
open PySem PySem.Spec L2
/-! ### data -/
inductive D where
  | non | bl (b : Bool) | int (i : Int) | str (x : Str) | lst (xs : List D) | tup (xs : List D) | dct (ks vs : List D) | exc (x : Str) | opq (n : Nat) | obj (n : Nat) (ks : List Str) (vs : List D)
noncomputable instance : DecidableEq D := fun a b => Classical.propDecidable (a = b)
/-- heaps: what stood stands -/
def Ex (H H' : Hp) : Prop := ∀ a o, H a = some o → H' a = some o
theorem Ex.refl (H : Hp) : Ex H H := fun _ _ h => h
theorem Ex.trans {H H1 H2 : Hp} (a : Ex H H1) (b : Ex H1 H2) : Ex H H2 := fun x o h => b x o (a x o h)
theorem Ex.new {H : Hp} {p : Addr} {o : HO} (h : H p = none) : Ex H (upd H p o) := fun a u e => by
  rw [upd_ne (ne_of_none e h)]
  exact e
theorem Ex.free {H H' : Hp} (e : Ex H H') {p : Addr} (h : H' p = none) : H p = none := by
  cases h1 : H p with
  | none => rfl
  | some o => rw [e p o h1] at h; cases h
theorem Ex.rd {H H' : Hp} {a : Addr} {u : HO} (e : Ex H H') (h : Rd H a u) : Rd H' a u := by
  rcases h with h | ⟨o, h⟩
  · exact .inl (e a _ h)
  · exact .inr ⟨o, e a _ h⟩
theorem Ex.l {K : PySem.W.Frag} {H H' : Hp} {a : Addr} {xs : List V} (e : Ex H H') (h : SqL K H a xs) : SqL K H' a xs := by
  rcases h with h | h
  · exact .inl (e.rd h)
  · exact .inr h
theorem Ex.t {K : PySem.W.Frag} {H H' : Hp} {a : Addr} {xs : List V} (e : Ex H H') (h : SqT K H a xs) : SqT K H' a xs := by
  rcases h with h | h
  · exact .inl (e.rd h)
  · exact .inr h
/-- the town: a list of a row's address and a count; the row: ints, one at least -/
def townO (t r : Addr) : Heap → Prop := fun h => ∃ (k : Int) (tk : Tok) (n : Nat), h.get? t = some { cls := .type "list", data := .seq #[.ref r, .int k tk] n }
def rowO (r : Addr) : Heap → Prop := fun h => ∃ (ns : List Int) (its : List Value) (n : Nat), ns ≠ [] ∧ ns.length ≤ sizeLine ∧ Vals (ns.map V.int) its ∧ h.get? r = some { cls := .type "list", data := .seq its.toArray n }
/-- an exception object of the class cls, caught once -/
def XO (cls : Value) (a : Addr) : HO := .ext fun h => ∃ (oe : Obj) (vs : Array Value), h.get? a = some oe ∧ Zc cls none oe ∧ oe.data = .fields vs
/-- the own exceptions' names; one that was caught, as data -/
def excN : List Str := ["BadNumber", "BadPoint", "BadMotion", "BadHeap", "BadPairs", "BadName", "BadText", "NoThing"]
abbrev excD (x : Str) : D := .opq (2 + excN.idxOf x)
mutual
/-- data as the key of a dict: whole numbers, tuples of such -/
def D.ky : D → NestedKey
  | .int i => .num i
  | .tup ds => .tup (D.kys ds)
  | .non => .none | .bl _ => .none | .str _ => .none | .lst _ => .none | .dct _ _ => .none | .exc _ => .none | .opq _ => .none | .obj _ _ _ => .none
def D.kys : List D → List NestedKey
  | [] => []
  | d :: ds => d.ky :: D.kys ds
end
mutual
/-- such a key, at most n levels -/
def D.kyB : D → Nat → Bool
  | .int _, _ => true
  | .tup ds, n => decide (0 < n) && D.kysB ds (n - 1)
  | .non, _ => false | .bl _, _ => false | .str _, _ => false | .lst _, _ => false | .dct _ _, _ => false | .exc _, _ => false | .opq _, _ => false | .obj _ _ _, _ => false
def D.kysB : List D → Nat → Bool
  | [], _ => true
  | d :: ds, n => D.kyB d n && D.kysB ds n
end
/-- a tuple that may be a key -/
def D.key (d : D) : Bool := match d with
  | .tup ds => D.kysB ds 7
  | _ => false
/-- a dict with such keys: the object at a is o; each entry's key, where its tuple stands, its value -/
abbrev Ent : Type := D × Addr × Value
structure DctS (a : Addr) (xs : List Ent) (o : Obj) : Prop where
  sm : (a == sysModules) = false
  len : xs.length ≤ sizeLine
  nd : (xs.map fun x => x.1.ky).Nodup
  ex : o.ExactDict
  dat : ∃ es ep, o.data = .dict es ep ∧ ∀ w : World, es.toList = xs.map fun x => (⟨x.1.ky.hash w, .ref x.2.1, x.2.2⟩ : DictEntry)
def dctO (a : Addr) (xs : List Ent) (o : Obj) : Heap → Prop := fun h => h.get? a = some o ∧ DctS a xs o
mutual
/-- the value v stands for the data d in the heap H -/
inductive Rp (K : PySem.W.Frag) (H : Hp) : V → D → Prop
  | non : Rp K H .non .non
  | bl (b : Bool) : Rp K H (.bl b) (.bl b)
  | int (i : Int) : Rp K H (.int i) (.int i)
  | str (x : Str) : Rp K H (.str x) (.str x)
  | lst {a : Addr} {xs : List V} {ds : List D} : H a = some (.lst xs) → RpA K H xs ds → Rp K H (.ref a) (.lst ds)
  | tup {a : Addr} {xs : List V} {ds : List D} : SqT K H a xs → RpA K H xs ds → Rp K H (.ref a) (.tup ds)
  | town {t r : Addr} : H t = some (.ext (townO t r)) → H r = some (.ext (rowO r)) → Rp K H (.ref t) (.opq 0)
  | scr {a : Addr} {ns : List Int} : SqL K H a (ns.map V.int) → ns.length ≤ 63 → Rp K H (.ref a) (.opq 1)
  | exc {a : Addr} {x : Str} : x ∈ excN → H a = some (XO (.ref (He.ga K x)) a) → Rp K H (.ref a) (excD x)
  | dct {a : Addr} {xs : List Ent} {o : Obj} {ks vs : List D} {us : List V} : H a = some (.ext (dctO a xs o)) → ks = xs.map (·.1) → ks.all D.key = true → RpA K H (xs.map fun x => V.ref x.2.1) ks → Vals us (xs.map fun x => x.2.2) → RpA K H us vs → Rp K H (.ref a) (.dct ks vs)
  | sdc {a : Addr} {ob : Obj} {kvs : List (L2.Key × V)} {ks : List Str} {ds : List D} : H a = some (.frz ob (.dK kvs)) → kvs.map (·.1) = ks.map Sum.inr → RpA K H (kvs.map (·.2)) ds → Rp K H (.ref a) (.obj 0 ks ds)
  | alb {a dx s m p : Addr} {xs : List V} {n : Nat} {ds : List D} : H a = some (.ins (He.ga K "Album") dx [("stock", .ref s), ("marks", .ref m), ("past", .ref p)]) → H dx = some (.own a) → H p = some (.lst xs) → n = (if xs.isEmpty = true then 1 else 2) → RpA K H [.ref s, .ref m] ds → Rp K H (.ref a) (.obj n [] ds)
inductive RpA (K : PySem.W.Frag) (H : Hp) : List V → List D → Prop
  | nil : RpA K H [] []
  | cons {v : V} {vs : List V} {d : D} {ds : List D} : Rp K H v d → RpA K H vs ds → RpA K H (v :: vs) (d :: ds)
end
section
variable {K : PySem.W.Frag} {H H' : Hp}
mutual
theorem Rp.mono (e : Ex H H') : ∀ (d : D) (v : V), Rp K H v d → Rp K H' v d
  | .non, _, h => by cases h; exact .non
  | .bl _, _, h => by cases h; exact .bl _
  | .int _, _, h => by cases h; exact .int _
  | .str _, _, h => by cases h; exact .str _
  | .lst ds, _, h => by cases h with | lst hs ha => exact .lst (e _ _ hs) (RpA.mono e ds _ ha)
  | .tup ds, _, h => by cases h with | tup hs ha => exact .tup (e.t hs) (RpA.mono e ds _ ha)
  | .dct ks vs, _, h => by cases h with | dct h1 h2 h3 h4 h5 h6 => exact .dct (e _ _ h1) h2 h3 (RpA.mono e ks _ h4) h5 (RpA.mono e vs _ h6)
  | .exc _, _, h => by cases h
  | .opq _, _, h => by cases h with | town h1 h2 => exact .town (e _ _ h1) (e _ _ h2) | scr h1 h2 => exact .scr (e.l h1) h2 | exc hx h1 => exact .exc hx (e _ _ h1)
  | .obj _ _ ds, _, h => by cases h with | sdc h1 h2 h3 => exact .sdc (e _ _ h1) h2 (RpA.mono e ds _ h3) | alb h1 h2 h3 h4 h5 => exact .alb (e _ _ h1) (e _ _ h2) (e _ _ h3) h4 (RpA.mono e ds _ h5)
theorem RpA.mono (e : Ex H H') : ∀ (ds : List D) (vs : List V), RpA K H vs ds → RpA K H' vs ds
  | [], _, h => by cases h; exact .nil
  | d :: ds, _, h => by cases h with | cons h1 h2 => exact .cons (Rp.mono e d _ h1) (RpA.mono e ds _ h2)
end
theorem Rp.town_inv {v : V} (h : Rp K H v (.opq 0)) : ∃ t r, v = .ref t ∧ H t = some (.ext (townO t r)) ∧ H r = some (.ext (rowO r)) := by
  generalize e : D.opq 0 = d at h
  cases h with
  | town h1 h2 => exact ⟨_, _, rfl, h1, h2⟩
  | scr h1 h2 => injection e with e; cases e
  | exc h1 h2 => injection e with e; omega
  | _ => cases e
theorem Rp.scr_inv {v : V} (h : Rp K H v (.opq 1)) : ∃ (a : Addr) (ns : List Int), v = .ref a ∧ SqL K H a (ns.map V.int) ∧ ns.length ≤ 63 := by
  generalize e : D.opq 1 = d at h
  cases h with
  | town h1 h2 => injection e with e; cases e
  | scr h1 h2 => exact ⟨_, _, rfl, h1, h2⟩
  | exc h1 h2 => injection e with e; omega
  | _ => cases e
theorem Rp.exc_inv {v : V} {x : Str} (h : Rp K H v (excD x)) (hx : x ∈ excN) : ∃ a : Addr, v = .ref a ∧ H a = some (XO (.ref (He.ga K x)) a) := by
  generalize e : excD x = d at h
  cases h with
  | town h1 h2 => injection e with e; omega
  | scr h1 h2 => injection e with e; omega
  | @exc a y h1 h2 =>
    injection e with e
    have e2 : excN.idxOf x = excN.idxOf y := by omega
    have e3 : x = y := by
      have g1 := List.getElem_idxOf (List.idxOf_lt_length_iff.mpr hx)
      have g2 := List.getElem_idxOf (List.idxOf_lt_length_iff.mpr h1)
      rw [← g1, ← g2]
      simp only [e2]
    subst e3
    exact ⟨a, rfl, h2⟩
  | _ => cases e
theorem Rp.up {v : V} {d : D} (h : Rp K H v d) (e : Ex H H') : Rp K H' v d := Rp.mono e d v h
theorem RpA.up {vs : List V} {ds : List D} (h : RpA K H vs ds) (e : Ex H H') : RpA K H' vs ds := RpA.mono e ds vs h
theorem RpA.length : ∀ {vs : List V} {ds : List D}, RpA K H vs ds → vs.length = ds.length
  | _, _, .nil => rfl
  | _, _, .cons _ t => by simp [RpA.length t]
theorem RpA.get : ∀ {vs : List V} {ds : List D} {i : Nat} {d : D}, RpA K H vs ds → ds[i]? = some d → ∃ v, vs[i]? = some v ∧ Rp K H v d
  | _, _, _, _, .nil, e => by simp at e
  | _, _, 0, _, .cons h _, e => by simp at e; subst e; exact ⟨_, rfl, h⟩
  | _, _, i + 1, d, .cons _ t, e => by
    obtain ⟨v, h1, h2⟩ := RpA.get (i := i) (d := d) t (by simpa using e)
    exact ⟨v, by simpa using h1, h2⟩
theorem RpA.getV : ∀ {vs : List V} {ds : List D} {i : Nat} {v : V}, RpA K H vs ds → vs[i]? = some v → ∃ d, ds[i]? = some d ∧ Rp K H v d
  | _, _, _, _, .nil, e => by simp at e
  | _, _, 0, _, .cons h _, e => by simp at e; subst e; exact ⟨_, rfl, h⟩
  | _, _, i + 1, d, .cons _ t, e => by
    obtain ⟨v, h1, h2⟩ := RpA.getV (i := i) (v := d) t (by simpa using e)
    exact ⟨v, by simpa using h1, h2⟩
theorem RpA.app : ∀ {vs us : List V} {ds es : List D}, RpA K H vs ds → RpA K H us es → RpA K H (vs ++ us) (ds ++ es)
  | _, _, _, _, .nil, h => h
  | _, _, _, _, .cons h t, h' => .cons h (RpA.app t h')
theorem RpA.drop : ∀ {vs : List V} {ds : List D} (n : Nat), RpA K H vs ds → RpA K H (vs.drop n) (ds.drop n)
  | _, _, 0, h => h
  | _, _, _ + 1, .nil => .nil
  | _, _, n + 1, .cons _ t => RpA.drop n t
theorem RpA.take : ∀ {vs : List V} {ds : List D} (n : Nat), RpA K H vs ds → RpA K H (vs.take n) (ds.take n)
  | _, _, 0, _ => .nil
  | _, _, _ + 1, .nil => .nil
  | _, _, n + 1, .cons h t => .cons h (RpA.take n t)
end
/-! ### data as the library's deep == has it -/
mutual
def D.py : D → PyData
  | .non => .none | .bl b => .bool b | .int i => .int i | .str x => .str x
  | .lst xs => .list (D.pyA xs) | .tup xs => .tuple (D.pyA xs) | .opq _ => .none | .dct _ _ => .none | .exc _ => .none | .obj _ _ _ => .none
def D.pyA : List D → List PyData
  | [] => []
  | d :: ds => d.py :: D.pyA ds
end
mutual
/-- no opaque thing, at most n levels -/
def D.sh : D → Nat → Bool
  | .non, _ => true
  | .bl _, _ => true
  | .int _, _ => true
  | .str x, _ => PyData.strOk x
  | .opq _, _ => false
  | .dct _ _, _ => false
  | .exc _, _ => false
  | .obj _ _ _, _ => false
  | .lst xs, n => decide (0 < n) && D.shA xs (n - 1)
  | .tup xs, n => decide (0 < n) && D.shA xs (n - 1)
def D.shA : List D → Nat → Bool
  | [], _ => true
  | d :: ds, n => D.sh d n && D.shA ds n
end
abbrev D.shp (n : Nat) (d : D) : Bool := D.sh d n
abbrev D.shpA (n : Nat) (ds : List D) : Bool := D.shA ds n
theorem shp_lst {n : Nat} {xs : List D} : D.shp (n + 1) (.lst xs) = D.shpA n xs := by show (decide (0 < n + 1) && D.shA xs (n + 1 - 1)) = _; simp
theorem shp_tup {n : Nat} {xs : List D} : D.shp (n + 1) (.tup xs) = D.shpA n xs := by show (decide (0 < n + 1) && D.shA xs (n + 1 - 1)) = _; simp
theorem shpA_cons {n : Nat} {d : D} {ds : List D} : D.shpA n (d :: ds) = (D.shp n d && D.shpA n ds) := rfl
theorem shpA_all {n : Nat} : ∀ {ds : List D}, (∀ d ∈ ds, D.shp n d = true) → D.shpA n ds = true
  | [], _ => rfl
  | d :: ds, h => by rw [shpA_cons, h d List.mem_cons_self, shpA_all fun x hx => h x (List.mem_cons_of_mem _ hx)]; rfl
theorem shp_inv {n : Nat} {xs : List D} (h : D.shp n (.lst xs) = true ∨ D.shp n (.tup xs) = true) : ∃ m, n = m + 1 ∧ D.shpA m xs = true := by
  have h' : (decide (0 < n) && D.shA xs (n - 1)) = true := h.elim id id
  rw [Bool.and_eq_true, decide_eq_true_eq] at h'
  exact ⟨n - 1, by omega, h'.2⟩
mutual
theorem D.shp_ok : ∀ (d : D) (n : Nat), D.shp n d = true → d.py.canLay0 = true ∧ d.py.depth ≤ n
  | .non, n, _ => ⟨rfl, Nat.zero_le _⟩
  | .bl _, n, _ => ⟨rfl, Nat.zero_le _⟩
  | .int _, n, _ => ⟨rfl, Nat.zero_le _⟩
  | .str x, n, h => by
    have h' : PyData.strOk x = true := h
    exact ⟨by simpa [D.py, PyData.canLay0] using h', by simp [D.py, PyData.depth]⟩
  | .lst xs, n, h => by
    obtain ⟨m, rfl, h'⟩ := shp_inv (.inl h)
    obtain ⟨a, b⟩ := D.shpA_ok xs m h'
    exact ⟨by simpa [D.py, PyData.canLay0] using a, by simpa [D.py, PyData.depth] using b⟩
  | .tup xs, n, h => by
    obtain ⟨m, rfl, h'⟩ := shp_inv (.inr h)
    obtain ⟨a, b⟩ := D.shpA_ok xs m h'
    exact ⟨by simpa [D.py, PyData.canLay0] using a, by simpa [D.py, PyData.depth] using b⟩
  | .opq _, n, h => Bool.noConfusion h
  | .dct _ _, n, h => Bool.noConfusion h
  | .exc _, n, h => Bool.noConfusion h
  | .obj _ _ _, n, h => Bool.noConfusion h
theorem D.shpA_ok : ∀ (ds : List D) (n : Nat), D.shpA n ds = true → PyData.canLayAll0 (D.pyA ds) = true ∧ PyData.depthAll (D.pyA ds) ≤ n
  | [], n, _ => ⟨by simp [D.pyA, PyData.canLayAll0], by simp [D.pyA, PyData.depthAll]⟩
  | d :: ds, n, h => by
    rw [shpA_cons, Bool.and_eq_true] at h
    obtain ⟨a, b⟩ := D.shp_ok d n h.1
    obtain ⟨a', b'⟩ := D.shpA_ok ds n h.2
    exact ⟨by simp [D.pyA, PyData.canLayAll0, a, a'], by simp [D.pyA, PyData.depthAll]; omega⟩
end
theorem D.shp_shaped {d : D} {n : Nat} (h : D.shp n d = true) (hn : n ≤ 64) : SeqAt.shaped d.py = true := by
  obtain ⟨a, b⟩ := D.shp_ok d n h
  unfold SeqAt.shaped
  rw [a, Bool.true_and]
  exact decide_eq_true (by omega)
mutual
theorem Rp.dp {K : PySem.W.Frag} {H : Hp} : ∀ (d : D) (v : V) (n : Nat), D.shp n d = true → Rp K H v d → Dp K H v d.py
  | .non, _, _, _, h => by cases h; exact .non
  | .bl _, _, _, _, h => by cases h; exact .bl _
  | .int _, _, _, _, h => by cases h; exact .int _
  | .str _, _, _, _, h => by cases h; exact .str _
  | .lst xs, _, n, s, h => by
    obtain ⟨m, rfl, s'⟩ := shp_inv (.inl s)
    cases h with | lst hs ha => exact .lst (SqL.of hs) (RpA.dp xs _ m s' ha)
  | .tup xs, _, n, s, h => by
    obtain ⟨m, rfl, s'⟩ := shp_inv (.inr s)
    cases h with | tup hs ha => exact .tup hs (RpA.dp xs _ m s' ha)
  | .opq _, _, n, s, _ => Bool.noConfusion s
  | .dct _ _, _, n, s, _ => Bool.noConfusion s
  | .exc _, _, n, s, _ => Bool.noConfusion s
  | .obj _ _ _, _, n, s, _ => Bool.noConfusion s
theorem RpA.dp {K : PySem.W.Frag} {H : Hp} : ∀ (ds : List D) (vs : List V) (n : Nat), D.shpA n ds = true → RpA K H vs ds → DpAll K H vs (D.pyA ds)
  | [], _, _, _, h => by cases h; exact .nil
  | d :: ds, _, n, s, h => by
    rw [shpA_cons, Bool.and_eq_true] at s
    cases h with | cons h1 h2 => exact .cons (Rp.dp d _ n s.1 h1) (RpA.dp ds _ n s.2 h2)
end
/-- == of data -/
def deq (d e : D) : Bool := PyData.eqv d.py e.py
end G
namespace G
/-! ### numbers of two parts, with one below -/
structure Pt where
  x : Int
  y : Int
  w : Int
deriving DecidableEq
/-- the divisor -/
def g3 (a b w : Int) : Int := if 0 < w then (Int.gcd (Int.gcd a b) w : Int) else -(Int.gcd (Int.gcd a b) w : Int)
def low (a b w : Int) : Pt := ⟨a / g3 a b w, b / g3 a b w, w / g3 a b w⟩
def Norm (p : Pt) : Prop := 0 < p.w ∧ Int.gcd (Int.gcd p.x p.y) p.w = 1
instance {p : Pt} : Decidable (Norm p) := inferInstanceAs (Decidable (_ ∧ _))
def Pt.re (p : Pt) : Rat := (p.x : Rat) / (p.w : Rat)
def Pt.im (p : Pt) : Rat := (p.y : Rat) / (p.w : Rat)
section
variable {a b w : Int}
theorem g3_abs : (g3 a b w).natAbs = Int.gcd (Int.gcd a b) w := by unfold g3; split <;> omega
theorem g3_pos (h : w ≠ 0) : 0 < Int.gcd (Int.gcd a b) w := Int.gcd_pos_of_ne_zero_right _ h
theorem g3_ne (h : w ≠ 0) : g3 a b w ≠ 0 := by
  have := g3_pos (a := a) (b := b) h
  unfold g3; split <;> omega
theorem g3_dvd_of {z : Int} (h : (Int.gcd (Int.gcd a b) w : Int) ∣ z) : g3 a b w ∣ z := by
  unfold g3; split
  · exact h
  · exact Int.neg_dvd.mpr h
theorem g3_dvd_w : g3 a b w ∣ w := g3_dvd_of (Int.gcd_dvd_right _ _)
theorem g3_dvd_a : g3 a b w ∣ a := g3_dvd_of (Int.dvd_trans (Int.gcd_dvd_left _ _) (Int.gcd_dvd_left _ _))
theorem g3_dvd_b : g3 a b w ∣ b := g3_dvd_of (Int.dvd_trans (Int.gcd_dvd_left _ _) (Int.gcd_dvd_right _ _))
theorem low_w_pos (h : w ≠ 0) : 0 < (low a b w).w := by
  have hg := g3_pos (a := a) (b := b) h
  show 0 < w / g3 a b w
  obtain ⟨k, hk⟩ := g3_dvd_w (a := a) (b := b) (w := w)
  have hne := g3_ne (a := a) (b := b) h
  have e : w / g3 a b w = k := by
    conv => lhs; lhs; rw [hk]
    exact Int.mul_ediv_cancel_left k hne
  rw [e]
  have hk0 : ¬ k ≤ 0 := fun hk0 => by
    by_cases hw : 0 < w
    · have h1 : 0 < g3 a b w := by unfold g3; rw [if_pos hw]; omega
      have h2 : g3 a b w * k ≤ 0 := Int.mul_nonpos_of_nonneg_of_nonpos (by omega) hk0
      omega
    · have h1 : g3 a b w < 0 := by unfold g3; rw [if_neg hw]; omega
      have h2 : 0 ≤ g3 a b w * k := Int.mul_nonneg_of_nonpos_of_nonpos (by omega) hk0
      omega
  omega
theorem gcd3_ediv {a b c g : Int} (h1 : g ∣ a) (h2 : g ∣ b) (h3 : g ∣ c) : Int.gcd (Int.gcd (a / g) (b / g)) (c / g) = Int.gcd (Int.gcd a b) c / g.natAbs := by
  rw [Int.gcd_ediv h1 h2]
  have e : ((Int.gcd a b / g.natAbs : Nat) : Int) = (Int.gcd a b : Int) / (g.natAbs : Int) := by simp
  rw [e]
  have h4 : (g.natAbs : Int) ∣ (Int.gcd a b : Int) := Int.natAbs_dvd.mpr (Int.dvd_coe_gcd h1 h2)
  have h5 : (g.natAbs : Int) ∣ c := Int.natAbs_dvd.mpr h3
  have e2 : Int.gcd ((Int.gcd a b : Int) / (g.natAbs : Int)) (c / g) = Int.gcd ((Int.gcd a b : Int) / (g.natAbs : Int)) (c / (g.natAbs : Int)) := by
    rcases Int.natAbs_eq g with h | h
    · rw [← h]
    · rw [h, Int.natAbs_neg, Int.natAbs_natCast, Int.ediv_neg, Int.gcd_neg]
  rw [e2, Int.gcd_ediv h4 h5]
  simp
theorem low_norm (h : w ≠ 0) : Norm (low a b w) := by
  refine ⟨low_w_pos h, ?_⟩
  show Int.gcd (Int.gcd (a / g3 a b w) (b / g3 a b w)) (w / g3 a b w) = 1
  rw [gcd3_ediv g3_dvd_a g3_dvd_b g3_dvd_w, g3_abs]
  exact Nat.div_self (g3_pos h)
theorem low_x : (low a b w).x * g3 a b w = a := Int.ediv_mul_cancel g3_dvd_a
theorem low_y : (low a b w).y * g3 a b w = b := Int.ediv_mul_cancel g3_dvd_b
theorem low_w : (low a b w).w * g3 a b w = w := Int.ediv_mul_cancel g3_dvd_w
theorem castne {z : Int} (h : z ≠ 0) : (z : Rat) ≠ 0 := fun e => h (by exact_mod_cast e)
theorem low_re (h : w ≠ 0) : (low a b w).re = (a : Rat) / (w : Rat) := by
  have h1 := castne (g3_ne (a := a) (b := b) h)
  have h2 := castne (show (low a b w).w ≠ 0 by have := low_w_pos (a := a) (b := b) h; omega)
  have h3 := castne h
  have e1 : ((low a b w).x : Rat) * (g3 a b w : Rat) = (a : Rat) := by exact_mod_cast congrArg (fun z : Int => (z : Rat)) (low_x (a := a) (b := b) (w := w))
  have e2 : ((low a b w).w : Rat) * (g3 a b w : Rat) = (w : Rat) := by exact_mod_cast congrArg (fun z : Int => (z : Rat)) (low_w (a := a) (b := b) (w := w))
  unfold Pt.re
  rw [← e1, ← e2] at *
  grind
theorem low_im (h : w ≠ 0) : (low a b w).im = (b : Rat) / (w : Rat) := by
  have h1 := castne (g3_ne (a := a) (b := b) h)
  have h2 := castne (show (low a b w).w ≠ 0 by have := low_w_pos (a := a) (b := b) h; omega)
  have h3 := castne h
  have e1 : ((low a b w).y : Rat) * (g3 a b w : Rat) = (b : Rat) := by exact_mod_cast congrArg (fun z : Int => (z : Rat)) (low_y (a := a) (b := b) (w := w))
  have e2 : ((low a b w).w : Rat) * (g3 a b w : Rat) = (w : Rat) := by exact_mod_cast congrArg (fun z : Int => (z : Rat)) (low_w (a := a) (b := b) (w := w))
  unfold Pt.im
  rw [← e1, ← e2] at *
  grind
end
theorem norm_dvd {p q : Pt} (hp : Norm p) (hx : p.x * q.w = q.x * p.w) (hy : p.y * q.w = q.y * p.w) : p.w ∣ q.w := by
  have h1 : p.w ∣ p.x * q.w := ⟨q.x, by rw [hx, Int.mul_comm]⟩
  have h2 : p.w ∣ p.y * q.w := ⟨q.y, by rw [hy, Int.mul_comm]⟩
  have h3 : p.w ∣ p.w * q.w := ⟨q.w, rfl⟩
  have h4 : p.w ∣ (Int.gcd (Int.gcd (p.x * q.w) (p.y * q.w)) (p.w * q.w) : Int) := Int.dvd_coe_gcd (Int.dvd_coe_gcd h1 h2) h3
  rw [Int.gcd_mul_right] at h4
  have e : ((Int.gcd p.x p.y * q.w.natAbs : Nat) : Int) = (Int.gcd p.x p.y : Int) * (q.w.natAbs : Int) := by simp
  rw [e] at h4
  have e2 : Int.gcd ((Int.gcd p.x p.y : Int) * (q.w.natAbs : Int)) (p.w * q.w) = Int.gcd ((Int.gcd p.x p.y : Int) * (q.w.natAbs : Int)) (p.w * (q.w.natAbs : Int)) := by
    rcases Int.natAbs_eq q.w with h | h
    · rw [← h]
    · rw [h, Int.natAbs_neg, Int.natAbs_natCast, Int.mul_neg, Int.gcd_neg]
  rw [e2, Int.gcd_mul_right, hp.2] at h4
  rw [Nat.one_mul] at h4
  first | exact Int.dvd_natAbs.mp (by simpa using h4) | simpa using h4
theorem pt_eq {p q : Pt} (hp : Norm p) (hq : Norm q) (hx : p.x * q.w = q.x * p.w) (hy : p.y * q.w = q.y * p.w) : p = q := by
  have h1 := norm_dvd hp hx hy
  have h2 := norm_dvd hq hx.symm hy.symm
  have hw : p.w = q.w := Int.dvd_antisymm (Int.le_of_lt hp.1) (Int.le_of_lt hq.1) h1 h2
  have hne : q.w ≠ 0 := by have := hq.1; omega
  cases p; cases q
  simp only at hw hx hy hne
  subst hw
  rw [Int.mul_eq_mul_right_iff hne] at hx hy
  rw [hx, hy]
theorem Norm.ne {p : Pt} (hp : Norm p) : (p.w : Rat) ≠ 0 := castne (by have := hp.1; omega)
theorem Norm.nz {p : Pt} (hp : Norm p) : p.w ≠ 0 := by have := hp.1; omega
theorem cross {p q : Pt} (hp : p.w ≠ 0) (hq : q.w ≠ 0) {x y : Int} (h : (x : Rat) / (p.w : Rat) = (y : Rat) / (q.w : Rat)) : x * q.w = y * p.w := by
  have h1 := castne hp
  have h2 := castne hq
  have : (x : Rat) * (q.w : Rat) = (y : Rat) * (p.w : Rat) := by grind
  exact_mod_cast this
/-- points at the same place are the same -/
theorem val_inj {p q : Pt} (hp : Norm p) (hq : Norm q) (hx : p.re = q.re) (hy : p.im = q.im) : p = q := pt_eq hp hq (cross hp.nz hq.nz hx) (cross hp.nz hq.nz hy)
/-! ### the numbers' operations -/
def plus (p q : Pt) : Pt := low (p.x * q.w + q.x * p.w) (p.y * q.w + q.y * p.w) (p.w * q.w)
def minus (p q : Pt) : Pt := low (p.x * q.w - q.x * p.w) (p.y * q.w - q.y * p.w) (p.w * q.w)
def times (p q : Pt) : Pt := low (p.x * q.x - p.y * q.y) (p.x * q.y + p.y * q.x) (p.w * q.w)
def flipped (p : Pt) : Pt := ⟨p.x, -p.y, p.w⟩
def by_ (p q : Pt) : Pt := low ((p.x * q.x + p.y * q.y) * q.w) ((p.y * q.x - p.x * q.y) * q.w) (p.w * (q.x * q.x + q.y * q.y))
section
variable {p q : Pt}
theorem mulnz {a b : Int} (h : a ≠ 0) (k : b ≠ 0) : a * b ≠ 0 := fun e => (Int.mul_eq_zero.mp e).elim h k
theorem plus_norm (hp : p.w ≠ 0) (hq : q.w ≠ 0) : Norm (plus p q) := low_norm (mulnz hp hq)
theorem minus_norm (hp : p.w ≠ 0) (hq : q.w ≠ 0) : Norm (minus p q) := low_norm (mulnz hp hq)
theorem times_norm (hp : p.w ≠ 0) (hq : q.w ≠ 0) : Norm (times p q) := low_norm (mulnz hp hq)
theorem flipped_norm (hp : Norm p) : Norm (flipped p) := ⟨hp.1, by show Int.gcd (Int.gcd p.x (-p.y)) p.w = 1; rw [Int.gcd_neg]; exact hp.2⟩
theorem plus_re (hp : p.w ≠ 0) (hq : q.w ≠ 0) : (plus p q).re = p.re + q.re := by
  have h1 := castne hp; have h2 := castne hq
  unfold plus; rw [low_re (mulnz hp hq)]; unfold Pt.re
  simp only [Rat.intCast_add, Rat.intCast_mul]; grind
theorem plus_im (hp : p.w ≠ 0) (hq : q.w ≠ 0) : (plus p q).im = p.im + q.im := by
  have h1 := castne hp; have h2 := castne hq
  unfold plus; rw [low_im (mulnz hp hq)]; unfold Pt.im
  simp only [Rat.intCast_add, Rat.intCast_mul]; grind
theorem minus_re (hp : p.w ≠ 0) (hq : q.w ≠ 0) : (minus p q).re = p.re - q.re := by
  have h1 := castne hp; have h2 := castne hq
  unfold minus; rw [low_re (mulnz hp hq)]; unfold Pt.re
  simp only [Rat.intCast_sub, Rat.intCast_mul]; grind
theorem minus_im (hp : p.w ≠ 0) (hq : q.w ≠ 0) : (minus p q).im = p.im - q.im := by
  have h1 := castne hp; have h2 := castne hq
  unfold minus; rw [low_im (mulnz hp hq)]; unfold Pt.im
  simp only [Rat.intCast_sub, Rat.intCast_mul]; grind
theorem times_re (hp : p.w ≠ 0) (hq : q.w ≠ 0) : (times p q).re = p.re * q.re - p.im * q.im := by
  have h1 := castne hp; have h2 := castne hq
  unfold times; rw [low_re (mulnz hp hq)]; unfold Pt.re Pt.im
  simp only [Rat.intCast_sub, Rat.intCast_mul]; grind
theorem times_im (hp : p.w ≠ 0) (hq : q.w ≠ 0) : (times p q).im = p.re * q.im + p.im * q.re := by
  have h1 := castne hp; have h2 := castne hq
  unfold times; rw [low_im (mulnz hp hq)]; unfold Pt.re Pt.im
  simp only [Rat.intCast_add, Rat.intCast_mul]; grind
theorem flipped_re : (flipped p).re = p.re := rfl
theorem flipped_im : (flipped p).im = -p.im := by
  unfold flipped Pt.im
  simp only [Rat.intCast_neg]; grind
theorem sq_nn (a : Int) : 0 ≤ a * a := by
  rcases Int.le_total 0 a with h | h
  · exact Int.mul_nonneg h h
  · exact Int.mul_nonneg_of_nonpos_of_nonpos h h
theorem sq_pos_of {a b : Int} (h : a ≠ 0 ∨ b ≠ 0) : 0 < a * a + b * b := by
  have h1 : 0 ≤ a * a := sq_nn a
  have h2 : 0 ≤ b * b := sq_nn b
  rcases h with h | h
  · have : a * a ≠ 0 := mulnz h h
    omega
  · have : b * b ≠ 0 := mulnz h h
    omega
end
/-! ### shares -/
structure Sh where
  t : Int
  b : Int
deriving DecidableEq
def shr (t b : Int) : Sh := ⟨t / g3 t 0 b, b / g3 t 0 b⟩
def Sh.pt (s : Sh) : Pt := ⟨s.t, 0, s.b⟩
def Sh.Norm (s : Sh) : Prop := 0 < s.b ∧ Int.gcd s.t s.b = 1
def Sh.val (s : Sh) : Rat := (s.t : Rat) / (s.b : Rat)
theorem shr_pt (t b : Int) : (shr t b).pt = low t 0 b := by unfold shr low Sh.pt; simp
theorem Sh.Norm.pt {s : Sh} (h : s.Norm) : G.Norm s.pt := ⟨h.1, by show Int.gcd (Int.gcd s.t 0) s.b = 1; rw [Int.gcd_zero]; simpa [Int.gcd] using h.2⟩
theorem Sh.Norm.of {s : Sh} (h : G.Norm s.pt) : s.Norm := ⟨h.1, by have := h.2; unfold Sh.pt at this; simpa [Int.gcd] using this⟩
theorem shr_norm {t b : Int} (h : b ≠ 0) : (shr t b).Norm := Sh.Norm.of (by rw [shr_pt]; exact low_norm h)
theorem shr_val {t b : Int} (h : b ≠ 0) : (shr t b).val = (t : Rat) / (b : Rat) := by
  have := low_re (a := t) (b := 0) h
  rw [← shr_pt] at this
  exact this
theorem sh_inj {s r : Sh} (h1 : s.Norm) (h2 : r.Norm) (e : s.val = r.val) : s = r := by
  have : s.pt = r.pt := val_inj h1.pt h2.pt e (by unfold Sh.pt Pt.im; simp [Rat.div_def])
  cases s; cases r
  unfold Sh.pt at this
  simp at this
  simp [this]
def size (p : Pt) : Sh := shr (p.x * p.x + p.y * p.y) (p.w * p.w)
theorem size_norm {p : Pt} (h : p.w ≠ 0) : (size p).Norm := shr_norm (mulnz h h)
theorem size_val {p : Pt} (h : p.w ≠ 0) : (size p).val = p.re * p.re + p.im * p.im := by
  have h1 := castne h
  unfold size; rw [shr_val (mulnz h h)]; unfold Pt.re Pt.im
  simp only [Rat.intCast_add, Rat.intCast_mul]; grind
end G
namespace G
open PySem PySem.Spec L2
/-! ### heaps that grow: Hi what the data stand in, H all that is tracked -/
structure Gr (Hi H Hi' H' : Hp) : Prop where
  i : Ex Hi Hi'
  o : Ex H H'
  sub : Ex Hi' H'
  new : ∀ a, Hi a = none → (∃ u, Hi' a = some u) → H a = none
theorem Gr.refl {Hi H : Hp} (s : Ex Hi H) : Gr Hi H Hi H := ⟨Ex.refl _, Ex.refl _, s, fun a h ⟨u, z⟩ => by rw [h] at z; cases z⟩
theorem Gr.trans {Hi H Hi1 H1 Hi2 H2 : Hp} (a : Gr Hi H Hi1 H1) (b : Gr Hi1 H1 Hi2 H2) : Gr Hi H Hi2 H2 := ⟨a.i.trans b.i, a.o.trans b.o, b.sub, fun c h z => by
  cases q : Hi1 c with
  | some u => exact a.new c h ⟨u, q⟩
  | none => exact a.o.free (b.new c q z)⟩
/-- only H grows -/
theorem Gr.out {Hi H H' : Hp} (s : Ex Hi H) (e : Ex H H') : Gr Hi H Hi H' := ⟨Ex.refl _, e, s.trans e, fun a h ⟨u, z⟩ => by rw [h] at z; cases z⟩
/-- a new object, both -/
theorem Gr.mk1 {Hi H : Hp} {p : Addr} {o : HO} (s : Ex Hi H) (h : H p = none) : Gr Hi H (upd Hi p o) (upd H p o) := ⟨Ex.new (s.free h), Ex.new h, fun a u e => by
    by_cases z : a = p
    · subst z; rw [upd_same] at e ⊢; exact e
    · rw [upd_ne z] at e ⊢; exact s a u e, fun a q ⟨u, z⟩ => by
    by_cases y : a = p
    · subst y; exact h
    · rw [upd_ne y, q] at z; cases z⟩
/-! ### slots, told as data -/
/-- what stands at an address of one's own -/
inductive Cl where
  | lst (ds : List D)
  | dct (kvs : List (D × D))
def ClOk (K : PySem.W.Frag) (Hi : Hp) (a : Addr) : HO → Cl → Prop
  | .lst vs, .lst ds => RpA K Hi vs ds
  | .ext φ, .dct kvs => ∃ (xs : List Ent) (us : List V) (ob : Obj), φ = dctO a xs ob ∧ kvs.map (·.1) = xs.map (·.1) ∧ (kvs.map (·.1)).all D.key = true ∧ RpA K Hi (xs.map fun x => V.ref x.2.1) (kvs.map (·.1)) ∧ Vals us (xs.map fun x => x.2.2) ∧ RpA K Hi us (kvs.map (·.2))
  | _, _ => False
/-- things of one's own that stand in many cells: what K, the data's heap, the value and the cells are -/
abbrev Mc : Type := PySem.W.Frag → Hp → V → Hp → Prop
inductive Sl where
  /-- nothing is known -/
  | emp
  /-- the slot holds this -/
  | dat (d : D)
  /-- a list of this def's own, that it may change -/
  | cl (c : Cl)
  /-- a thing of many cells, of this def's own -/
  | mo (m : Mc)
abbrev Sl.lst (ds : List D) : Sl := .cl (.lst ds)
abbrev Sl.dct (kvs : List (D × D)) : Sl := .cl (.dct kvs)
def SlOk (K : PySem.W.Frag) (B Hi H : Hp) : Option V → Sl → Prop
  | _, .emp => True
  | _, .mo _ => True
  | some v, .dat d => Rp K Hi v d
  | some v, .cl c => ∃ a o, v = V.ref a ∧ B a = none ∧ Hi a = none ∧ H a = some o ∧ ClOk K Hi a o c
  | none, _ => False
def Sl.own : Sl → Bool
  | .cl _ => true
  | _ => false
/-- the cells of the slots' many-celled things: apart from all else -/
structure MoS (K : PySem.W.Frag) (B Hi H : Hp) (σ : L2.St) (ρ : List Sl) (F : Nat → Hp) : Prop where
  at_ : ∀ (i : Nat) (m : Mc), ρ[i]? = some (.mo m) → ∃ v Hj, σ[i]? = some (some v) ∧ Ex Hj Hi ∧ m K Hj v (F i)
  cell : ∀ (i : Nat) (m : Mc), ρ[i]? = some (.mo m) → ∀ c u, F i c = some u → B c = none ∧ Hi c = none ∧ H c = some u
  cl : ∀ (i : Nat) (m : Mc) (j : Nat) (c : Cl) (a : Addr) (u : HO), ρ[i]? = some (.mo m) → ρ[j]? = some (.cl c) → F i a = some u → σ[j]? ≠ some (some (V.ref a))
  mo : ∀ (i : Nat) (m : Mc) (j : Nat) (m' : Mc) (a : Addr) (u : HO), ρ[i]? = some (.mo m) → ρ[j]? = some (.mo m') → i ≠ j → F i a = some u → F j a = none
structure MoF (K : PySem.W.Frag) (B Hi H : Hp) (σ : L2.St) (ρ : List Sl) : Prop where
  ex : ∃ F, MoS K B Hi H σ ρ F
structure StOk (K : PySem.W.Frag) (B Hi H : Hp) (σ : L2.St) (ρ : List Sl) : Prop where
  sub : Ex Hi H
  len : σ.length = ρ.length
  at_ : ∀ (i : Nat) (x : Option V) (s : Sl), σ[i]? = some x → ρ[i]? = some s → SlOk K B Hi H x s
  sep : ∀ (i j : Nat) (s t : Sl) (a : Addr), ρ[i]? = some s → ρ[j]? = some t → s.own = true → t.own = true → σ[i]? = some (some (V.ref a)) → σ[j]? = some (some (V.ref a)) → i = j
  mo : MoF K B Hi H σ ρ
section
variable {K : PySem.W.Frag} {B Hi H Hi' H' : Hp} {σ : L2.St} {ρ : List Sl}
theorem ClOk.up {a : Addr} {o : HO} {c : Cl} (h : ClOk K Hi a o c) (e : Ex Hi Hi') : ClOk K Hi' a o c := by
  cases c with
  | lst ds =>
    cases o with
    | lst vs => exact RpA.up (show RpA K Hi vs ds from h) e
    | _ => exact h.elim
  | dct kvs =>
    cases o with
    | ext φ =>
      obtain ⟨xs, us, ob, h1, h2, h3, h4, h5, h6⟩ := h
      exact ⟨xs, us, ob, h1, h2, h3, h4.up e, h5, h6.up e⟩
    | _ => exact h.elim
theorem SlOk.grow {x : Option V} {s : Sl} (g : Gr Hi H Hi' H') (h : SlOk K B Hi H x s) : SlOk K B Hi' H' x s := by
  cases s with
  | emp => cases x <;> trivial
  | mo m => cases x <;> trivial
  | dat d =>
    cases x with
    | none => exact h
    | some v => exact Rp.up (show Rp K Hi v d from h) g.i
  | cl c =>
    cases x with
    | none => exact h
    | some v =>
      obtain ⟨a, o, ev, b, n, e, r⟩ := h
      refine ⟨a, o, ev, b, ?_, g.o _ _ e, r.up g.i⟩
      cases q : Hi' a with
      | none => rfl
      | some u => rw [g.new a n ⟨u, q⟩] at e; cases e
/-- the heaps change, but not in those cells; one slot changes, to what is none of them -/
theorem MoF.to {i : Nat} {t : Sl} {x : Option V} (h0 : MoF K B Hi H σ ρ) (ei : Ex Hi Hi') (hc : ∀ (c : Addr) (u : HO), (∀ (j : Nat) (f : Cl), ρ[j]? = some (Sl.cl f) → σ[j]? ≠ some (some (V.ref c))) → Hi c = none → H c = some u → Hi' c = none ∧ H' c = some u)
    (hl : σ.length = ρ.length) (hi : i < ρ.length) (ht : ∀ m, t ≠ .mo m) (hx : ∀ (f : Cl) (a : Addr), t = Sl.cl f → x = some (V.ref a) → H a = none ∨ ∃ (j : Nat) (f' : Cl), ρ[j]? = some (Sl.cl f') ∧ σ[j]? = some (some (V.ref a))) : MoF K B Hi' H' (σ.set i x) (ρ.set i t) := by
  obtain ⟨F, h⟩ := h0.ex
  have old : ∀ (j : Nat) (m : Mc), (ρ.set i t)[j]? = some (.mo m) → i ≠ j ∧ ρ[j]? = some (.mo m) := fun j m e => by
    by_cases q : i = j
    · subst q
      rw [List.getElem?_set_self hi] at e
      exact absurd (Option.some.inj e) (ht m)
    · rw [List.getElem?_set_ne q] at e
      exact ⟨q, e⟩
  refine ⟨F, fun j m e => ?_, fun j m e c u z => ?_, fun j m k c a u e1 e2 z => ?_, fun j m k m' a u e1 e2 n z => h.mo j m k m' a u (old j m e1).2 (old k m' e2).2 n z⟩
  · obtain ⟨n, e⟩ := old j m e
    obtain ⟨v, Hj, a, b, c⟩ := h.at_ j m e
    exact ⟨v, Hj, by rw [List.getElem?_set_ne n]; exact a, b.trans ei, c⟩
  · obtain ⟨n, e⟩ := old j m e
    obtain ⟨a, b, d⟩ := h.cell j m e c u z
    obtain ⟨p, q⟩ := hc c u (fun k f ek => h.cl j m k f c u e ek z) b d
    exact ⟨a, p, q⟩
  · obtain ⟨n, e1⟩ := old j m e1
    by_cases q : i = k
    · subst q
      rw [List.getElem?_set_self hi] at e2
      rw [List.getElem?_set_self (by rw [hl]; exact hi)]
      intro w
      obtain ⟨_, _, d⟩ := h.cell j m e1 a u z
      rcases hx c a (Option.some.inj e2) (Option.some.inj w) with hn | ⟨k', f', ek, es⟩
      · rw [hn] at d; cases d
      · exact h.cl j m k' f' a u e1 ek z es
    · rw [List.getElem?_set_ne q] at e2 ⊢
      exact h.cl j m k c a u e1 e2 z
theorem MoF.set {i : Nat} {t : Sl} {x : Option V} (h : MoF K B Hi H σ ρ) (hl : σ.length = ρ.length) (ht : t.own = false) (hm : ∀ m, t ≠ .mo m) : MoF K B Hi H (σ.set i x) (ρ.set i t) := by
  by_cases hi : i < ρ.length
  · exact h.to (Ex.refl _) (fun c u _ a b => ⟨a, b⟩) hl hi hm (fun f a e _ => by subst e; cases ht)
  · rw [List.set_eq_of_length_le (by rw [hl]; omega), List.set_eq_of_length_le (by omega)]
    exact h
theorem MoF.grow (h : MoF K B Hi H σ ρ) (g : Gr Hi H Hi' H') : MoF K B Hi' H' σ ρ := by
  obtain ⟨F, h⟩ := h.ex
  refine ⟨F, fun j m e => ?_, fun j m e c u z => ?_, h.cl, h.mo⟩
  · obtain ⟨v, Hj, a, b, c⟩ := h.at_ j m e
    exact ⟨v, Hj, a, b.trans g.i, c⟩
  · obtain ⟨a, b, d⟩ := h.cell j m e c u z
    refine ⟨a, ?_, g.o _ _ d⟩
    cases q : Hi' c with
    | none => rfl
    | some u => rw [g.new c b ⟨u, q⟩] at d; cases d
theorem MoF.none (h : ∀ (i : Nat) (m : Mc), ρ[i]? ≠ some (.mo m)) : MoF K B Hi H σ ρ := ⟨fun _ _ => Option.none, fun i m e => absurd e (h i m), fun i m e => absurd e (h i m), fun i m _ _ _ _ e => absurd e (h i m), fun i m _ _ _ _ e => absurd e (h i m)⟩
theorem StOk.grow (S : StOk K B Hi H σ ρ) (g : Gr Hi H Hi' H') : StOk K B Hi' H' σ ρ :=
  ⟨g.sub, S.len, fun i x s a b => (S.at_ i x s a b).grow g, S.sep, S.mo.grow g⟩
theorem StOk.get {i : Nat} {s : Sl} (S : StOk K B Hi H σ ρ) (h : ρ[i]? = some s) : ∃ x, σ[i]? = some x ∧ SlOk K B Hi H x s := by
  obtain ⟨hi, _⟩ := List.getElem?_eq_some_iff.mp h
  have hs : i < σ.length := by rw [S.len]; exact hi
  have e : σ[i]? = some σ[i] := List.getElem?_eq_getElem hs
  exact ⟨_, e, S.at_ i _ _ e h⟩
theorem StOk.dat {i : Nat} {d : D} (S : StOk K B Hi H σ ρ) (h : ρ[i]? = some (.dat d)) : ∃ v, σ[i]? = some (some v) ∧ Rp K Hi v d := by
  obtain ⟨x, e, q⟩ := S.get h
  cases x with
  | none => exact q.elim
  | some v => exact ⟨v, e, q⟩
theorem StOk.own {i : Nat} {c : Cl} (S : StOk K B Hi H σ ρ) (h : ρ[i]? = some (.cl c)) : ∃ a o, σ[i]? = some (some (V.ref a)) ∧ B a = none ∧ Hi a = none ∧ H a = some o ∧ ClOk K Hi a o c := by
  obtain ⟨x, e, q⟩ := S.get h
  cases x with
  | none => exact q.elim
  | some v =>
    obtain ⟨a, o, ev, z⟩ := q
    subst ev
    exact ⟨a, o, e, z⟩
/-- what a change of slot i leaves -/
theorem sep_set {i : Nat} {x : Option V} {t : Sl} (hS : ∀ (i j : Nat) (s t : Sl) (a : Addr), ρ[i]? = some s → ρ[j]? = some t → s.own = true → t.own = true → σ[i]? = some (some (V.ref a)) → σ[j]? = some (some (V.ref a)) → i = j)
    (hl : σ.length = ρ.length) (ht : t.own = true → ∀ a, x = some (V.ref a) → ∀ j s, ρ[j]? = some s → s.own = true → j ≠ i → σ[j]? ≠ some (some (V.ref a))) :
    ∀ (j k : Nat) (s u : Sl) (a : Addr), (ρ.set i t)[j]? = some s → (ρ.set i t)[k]? = some u → s.own = true → u.own = true → (σ.set i x)[j]? = some (some (V.ref a)) → (σ.set i x)[k]? = some (some (V.ref a)) → j = k := by
  intro j k s u a a1 a2 o1 o2 b1 b2
  by_cases hj : i = j
  · by_cases hk : i = k
    · exact hj.symm.trans hk
    · exfalso
      subst hj
      by_cases hlt : i < σ.length
      · rw [List.getElem?_set_self hlt] at b1
        rw [List.getElem?_set_self (by rw [← hl]; exact hlt)] at a1
        rw [List.getElem?_set_ne hk] at a2 b2
        cases a1
        exact ht o1 a (Option.some.inj b1) k u a2 o2 (fun e => hk e.symm) b2
      · rw [List.getElem?_eq_none (by simpa using hlt)] at b1; cases b1
  · by_cases hk : i = k
    · exfalso
      subst hk
      by_cases hlt : i < σ.length
      · rw [List.getElem?_set_self hlt] at b2
        rw [List.getElem?_set_self (by rw [← hl]; exact hlt)] at a2
        rw [List.getElem?_set_ne hj] at a1 b1
        cases a2
        exact ht o2 a (Option.some.inj b2) j s a1 o1 (fun e => hj e.symm) b1
      · rw [List.getElem?_eq_none (by simpa using hlt)] at b2; cases b2
    · rw [List.getElem?_set_ne hj] at a1 b1
      rw [List.getElem?_set_ne hk] at a2 b2
      exact hS j k s u a a1 a2 o1 o2 b1 b2
theorem at_set {i : Nat} {x : Option V} {t : Sl} (hl : σ.length = ρ.length) (hx : SlOk K B Hi H x t) (hS : ∀ (j : Nat) (y : Option V) (s : Sl), j ≠ i → σ[j]? = some y → ρ[j]? = some s → SlOk K B Hi H y s) :
    ∀ (j : Nat) (y : Option V) (s : Sl), (σ.set i x)[j]? = some y → (ρ.set i t)[j]? = some s → SlOk K B Hi H y s := by
  intro j y s a b
  by_cases h : i = j
  · subst h
    by_cases hlt : i < σ.length
    · rw [List.getElem?_set_self hlt] at a
      rw [List.getElem?_set_self (by rw [← hl]; exact hlt)] at b
      cases a; cases b; exact hx
    · rw [List.getElem?_eq_none (by simpa using hlt)] at a; cases a
  · rw [List.getElem?_set_ne h] at a b
    exact hS j y s (fun e => h e.symm) a b
/-- a slot takes a datum -/
theorem StOk.set {i : Nat} {v : V} {d : D} (S : StOk K B Hi H σ ρ) (r : Rp K Hi v d) : StOk K B Hi H (σ.set i (some v)) (ρ.set i (.dat d)) :=
  ⟨S.sub, by simp [S.len], at_set S.len r fun j y s _ => S.at_ j y s, sep_set S.sep S.len (fun h => nomatch h), S.mo.set S.len rfl (fun m h => nomatch h)⟩
/-- .. is forgotten -/
theorem StOk.wipe1 {i : Nat} (S : StOk K B Hi H σ ρ) : StOk K B Hi H (σ.set i none) (ρ.set i .emp) :=
  ⟨S.sub, by simp [S.len], at_set S.len trivial fun j y s _ => S.at_ j y s, sep_set S.sep S.len (fun h => nomatch h), S.mo.set S.len rfl (fun m h => nomatch h)⟩
theorem set_same {α : Type} : ∀ {l : List α} {i : Nat} {x : α}, l[i]? = some x → l.set i x = l
  | [], _, _, h => by simp at h
  | _ :: _, 0, _, h => by simp at h; subst h; rfl
  | a :: l, i + 1, x, h => by rw [List.set_cons_succ, set_same (l := l) (i := i) (by simpa using h)]
/-- a thing of one's own is changed -/
theorem StOk.wr {i : Nat} {a : Addr} {c c' : Cl} {o : HO} (S : StOk K B Hi H σ ρ) (hi : ρ[i]? = some (.cl c)) (ha : σ[i]? = some (some (V.ref a))) (r : ClOk K Hi a o c') :
    StOk K B Hi (upd H a o) σ (ρ.set i (.cl c')) := by
  obtain ⟨a', u, e1, b1, n1, x1, r1⟩ := S.own hi
  rw [ha] at e1; cases e1
  have key : StOk K B Hi (upd H a o) (σ.set i (some (V.ref a))) (ρ.set i (.cl c')) := by
    refine ⟨fun c u z => ?_, by simp [S.len], at_set S.len ⟨a, o, rfl, b1, n1, upd_same, r⟩ fun j x s hj p q => ?_, sep_set S.sep S.len fun _ c e j s hs ho hj hc => ?_,
      S.mo.to (Ex.refl _) (fun c u hc a1 a2 => ⟨a1, by rw [upd_ne fun e => hc i _ hi (by rw [e]; exact ha)]; exact a2⟩) S.len (List.getElem?_eq_some_iff.mp hi).1 (fun m e => nomatch e) fun f b _ e => .inr ⟨i, _, hi, by rw [ha, e]⟩⟩
    · rw [upd_ne (ne_of_none z n1)]; exact S.sub c u z
    · have z := S.at_ j x s p q
      cases s with
      | emp => cases x <;> trivial
      | mo m => cases x <;> trivial
      | dat d => cases x <;> exact z
      | cl f =>
        cases x with
        | none => exact z
        | some v =>
          obtain ⟨c, o2, ev, b2, n2, x2, r2⟩ := z
          subst ev
          have hc : c ≠ a := fun e => by subst e; exact hj (S.sep j i _ _ c q hi rfl rfl p ha)
          exact ⟨c, o2, rfl, b2, n2, by rw [upd_ne hc]; exact x2, r2⟩
    · cases e
      exact hj (S.sep j i _ _ a hs hi ho rfl hc ha)
  rw [set_same ha] at key
  exact key
/-- a slot takes a new thing of one's own -/
theorem StOk.own1 {i : Nat} {p : Addr} {c : Cl} {o : HO} (S : StOk K B Hi H σ ρ) (bh : Ex B H) (hp : H p = none) (r : ClOk K Hi p o c) :
    StOk K B Hi (upd H p o) (σ.set i (some (V.ref p))) (ρ.set i (.cl c)) := by
  have S1 := S.grow (Gr.out (H' := upd H p o) S.sub (Ex.new hp))
  refine ⟨S1.sub, by simp [S.len], at_set S.len ⟨p, o, rfl, bh.free hp, S.sub.free hp, upd_same, r⟩ fun j y s _ => S1.at_ j y s, sep_set S.sep S.len fun _ c e j s hs ho hj hc => ?_, ?_⟩
  rotate_left
  · by_cases hi : i < ρ.length
    · exact S.mo.to (Ex.refl _) (fun c u _ a1 a2 => ⟨a1, Ex.new hp _ _ a2⟩) S.len hi (fun m e => nomatch e) fun f b _ e => .inl (by cases e; exact hp)
    · rw [List.set_eq_of_length_le (by rw [S.len]; omega), List.set_eq_of_length_le (by omega)]
      exact S1.mo
  cases e
  cases s with
  | cl f =>
    obtain ⟨a', u, e1, b1, n1, x1, r1⟩ := S.own hs
    rw [hc] at e1; cases e1
    rw [hp] at x1; cases x1
  | _ => cases ho
/-- a thing of one's own becomes a datum -/
theorem StOk.frz {i : Nat} {c : Cl} {d : D} {Bi : Hp} (S : StOk K B Hi H σ ρ) (hi : ρ[i]? = some (.cl c)) (g : Gr Bi B Hi H)
    (hd : ∀ a o Hj, ClOk K Hi a o c → Ex Hi Hj → Hj a = some o → Rp K Hj (V.ref a) d) :
    ∃ Hi', Gr Bi B Hi' H ∧ Ex Hi Hi' ∧ StOk K B Hi' H σ (ρ.set i (.dat d)) ∧ ∃ a, σ[i]? = some (some (V.ref a)) ∧ Rp K Hi' (V.ref a) d := by
  obtain ⟨a, o, e1, b1, n1, x1, r1⟩ := S.own hi
  have ex : Ex Hi (upd Hi a o) := Ex.new n1
  have sub : Ex (upd Hi a o) H := fun c u z => by
    by_cases h : c = a
    · subst h; rw [upd_same] at z; cases z; exact x1
    · rw [upd_ne h] at z; exact g.sub c u z
  have rd : Rp K (upd Hi a o) (V.ref a) d := hd a o _ r1 ex upd_same
  have key : StOk K B (upd Hi a o) H (σ.set i (some (V.ref a))) (ρ.set i (.dat d)) := by
    refine ⟨sub, by simp [S.len], at_set S.len rd fun j x s hj p q => ?_, sep_set S.sep S.len (fun h => nomatch h),
      S.mo.to ex (fun c u hc a1 a2 => ⟨by rw [upd_ne fun e => hc i _ hi (by rw [e]; exact e1)]; exact a1, a2⟩) S.len (List.getElem?_eq_some_iff.mp hi).1 (fun m e => nomatch e) fun f b e _ => nomatch e⟩
    have z := S.at_ j x s p q
    cases s with
    | emp => cases x <;> trivial
    | mo m => cases x <;> trivial
    | dat d =>
      cases x with
      | none => exact z
      | some v => exact Rp.up (show Rp K Hi v d from z) ex
    | cl f =>
      cases x with
      | none => exact z
      | some v =>
        obtain ⟨c, o2, ev, b2, n2, x2, r2⟩ := z
        subst ev
        have hc : c ≠ a := fun e => by subst e; exact hj (S.sep j i _ _ c q hi rfl rfl p e1)
        exact ⟨c, o2, rfl, b2, by rw [upd_ne hc]; exact n2, x2, r2.up ex⟩
  rw [set_same e1] at key
  exact ⟨upd Hi a o, ⟨g.i.trans ex, g.o, sub, fun c h z => by
    by_cases hc : c = a
    · subst hc; exact b1
    · obtain ⟨u, z⟩ := z
      rw [upd_ne hc] at z
      exact g.new c h ⟨u, z⟩⟩, ex, key, a, e1, rd⟩
end
end G
namespace G
open PySem PySem.Spec L2
/-- e is not starred -/
def nst (e : Expr) : Bool := match e with
  | .Starred _ _ => false
  | _ => true
theorem se_of {e : Expr} {es : List Expr} {env : Env} (h : nst e = true) : starEach (e :: es) env = (false, eval e env) :: starEach es env := by
  cases e <;> first | rfl | cases h
/-! ### what is asked, with no reading between -/
section
variable {X : Cx}
def wE (X : Cx) (e : Expr) : TE := fun σ H Q => ∀ (pins : List (Addr × Obj)) (s : Shared), Inv X pins σ H s → wpAny (model X.prog X.w) X.A (eval e X.env) (EP X pins σ Q) X.xe s
def wT (X : Cx) (e : Expr) : TT := fun σ H Q => ∀ (pins : List (Addr × Obj)) (s : Shared), Inv X pins σ H s → wpAny (model X.prog X.w) X.A (isTrue e X.env (eval e X.env)) (TP X pins σ Q) X.xe s
def wW (X : Cx) (e : Expr) : TT := fun σ H Q => ∀ (whole : Sem Value) (pins : List (Addr × Obj)) (s : Shared), Inv X pins σ H s → wpAny (model X.prog X.w) X.A (isTrue e X.env whole) (TP X pins σ Q) X.xe s
def wA (X : Cx) (es : List Expr) : TA := fun σ H Q => ∀ (pos : Pos) (pins : List (Addr × Obj)) (s : Shared), Inv X pins σ H s → wpAny (model X.prog X.w) X.A (spliced (backTo pos (starEach es X.env))) (AP X pins σ Q) X.xe s
def wS (X : Cx) (st : Stmt) : TS := fun Dn σ H => ∀ (pins : List (Addr × Obj)) (s : Shared), Inv X pins σ H s → wpAny (model X.prog X.w) X.A (exec st X.env) (SP X pins Dn) X.xe s
def wSs (X : Cx) (st : List Stmt) : TS := fun Dn σ H => ∀ (pins : List (Addr × Obj)) (s : Shared), Inv X pins σ H s → wpAny (model X.prog X.w) X.A (execs st X.env) (SP X pins Dn) X.xe s
def wG (X : Cx) (tg : Expr) : TG := fun v σ H Q => ∀ (pins : List (Addr × Obj)) (s : Shared) (u : Value), Inv X pins σ H s → RelV v u →
  wpAny (model X.prog X.w) X.A (assign tg X.env u) (fun _ s' => ∃ σ' H', Inv X pins σ' H' s' ∧ Q σ' H') X.xe s
theorem pe_w {e : Expr} : PE X e (wE X e) := ⟨fun pins s _ _ _ I h => h pins s I⟩
theorem pt_w {e : Expr} : PT X e (wT X e) := ⟨fun pins s _ _ _ I h => h pins s I⟩
theorem pw_w {e : Expr} : PW X e (wW X e) := ⟨fun wh pins s _ _ _ I h => h wh pins s I⟩
theorem pa_w {es : List Expr} : PA X es (wA X es) := ⟨fun pos pins s _ _ _ I h => h pos pins s I⟩
theorem pss_w {st : List Stmt} : PSs X st (wSs X st) := ⟨fun pins s _ _ _ I h => h pins s I⟩
theorem pg_w {tg : Expr} : PG X tg (wG X tg) := ⟨fun pins s _ _ v u _ I r h => h pins s u I r⟩
variable {σ : L2.St} {H : Hp}
theorem wE.of {e : Expr} {t : TE} {Q : VK} (h : PE X e t) (q : t σ H Q) : wE X e σ H Q := fun pins s I => h.run pins s σ H Q I q
theorem wT.of {e : Expr} {t : TT} {Q : Bool → Hp → Prop} (h : PT X e t) (q : t σ H Q) : wT X e σ H Q := fun pins s I => h.run pins s σ H Q I q
theorem wW.of {e : Expr} {t : TT} {Q : Bool → Hp → Prop} (h : PW X e t) (q : t σ H Q) : wW X e σ H Q := fun wh pins s I => h.run wh pins s σ H Q I q
theorem wA.of {es : List Expr} {t : TA} {Q : List V → Hp → Prop} (h : PA X es t) (q : t σ H Q) : wA X es σ H Q := fun pos pins s I => h.run pos pins s σ H Q I q
theorem wS.of {st : Stmt} {t : TS} {Dn : Ends} (h : PS X st t) (q : t Dn σ H) : wS X st Dn σ H := fun pins s I => h.run pins s σ H Dn I q
theorem wSs.of {st : List Stmt} {t : TS} {Dn : Ends} (h : PSs X st t) (q : t Dn σ H) : wSs X st Dn σ H := fun pins s I => h.run pins s σ H Dn I q
theorem wSs.cons {st : Stmt} {rest : List Stmt} {t : TS} {Dn : Ends} (h : PS X st t) (q : t { Dn with nx := wSs X rest Dn } σ H) : wSs X (st :: rest) Dn σ H := wSs.of (pss_cons h pss_w) q
end
/-! ### the judgements -/
/-- what is raised (by the class's name) is wished -/
def Rs (X : Cx) (Ψ : Str → Prop) (Hi H : Hp) (σ : L2.St) (W : WX) : Prop := ∀ x Hi' H', Ψ x → Gr Hi H Hi' H' → W (.ref (He.ga X.K x)) none σ H'
theorem Rs.grow {X : Cx} {Ψ : Str → Prop} {Hi H Hi' H' : Hp} {σ : L2.St} {W : WX} (r : Rs X Ψ Hi H σ W) (g : Gr Hi H Hi' H') : Rs X Ψ Hi' H' σ W := fun x a b p q => r x a b p (g.trans q)
/-- e gives a datum of Φ, or raises one of Ψ -/
def QX (X : Cx) (Ψ : Str → Prop) (e : Expr) (ρ : List Sl) (Φ : D → Prop) : Prop := ∀ (B Hi H : Hp) (σ : L2.St) (W : WX), Takes X W → StOk X.K B Hi H σ ρ → Rs X Ψ Hi H σ W →
  ∀ Q : VK, (∀ v d Hi' H', Φ d → Gr Hi H Hi' H' → Rp X.K Hi' v d → Q v H') → wE X e σ H Q
def QA (X : Cx) (Ψ : Str → Prop) (es : List Expr) (ρ : List Sl) (Φ : List D → Prop) : Prop := ∀ (B Hi H : Hp) (σ : L2.St) (W : WX), Takes X W → StOk X.K B Hi H σ ρ → Rs X Ψ Hi H σ W →
  ∀ Q : List V → Hp → Prop, (∀ vs ds Hi' H', Φ ds → Gr Hi H Hi' H' → RpA X.K Hi' vs ds → Q vs H') → wA X es σ H Q
def QT (X : Cx) (Ψ : Str → Prop) (e : Expr) (ρ : List Sl) (Φ : Bool → Prop) : Prop := ∀ (B Hi H : Hp) (σ : L2.St) (W : WX), Takes X W → StOk X.K B Hi H σ ρ → Rs X Ψ Hi H σ W →
  ∀ Q : Bool → Hp → Prop, (∀ b Hi' H', Φ b → Gr Hi H Hi' H' → Q b H') → wT X e σ H Q
def QW (X : Cx) (Ψ : Str → Prop) (e : Expr) (ρ : List Sl) (Φ : Bool → Prop) : Prop := ∀ (B Hi H : Hp) (σ : L2.St) (W : WX), Takes X W → StOk X.K B Hi H σ ρ → Rs X Ψ Hi H σ W →
  ∀ Q : Bool → Hp → Prop, (∀ b Hi' H', Φ b → Gr Hi H Hi' H' → Q b H') → wW X e σ H Q
/-- e gives d -/
abbrev QE (X : Cx) (Ψ : Str → Prop) (e : Expr) (ρ : List Sl) (d : D) : Prop := QX X Ψ e ρ (fun z => z = d)
abbrev QAs (X : Cx) (Ψ : Str → Prop) (es : List Expr) (ρ : List Sl) (ds : List D) : Prop := QA X Ψ es ρ (fun z => z = ds)
section
variable {X : Cx} {Ψ : Str → Prop} {ρ : List Sl} {Φ Φ' : D → Prop} {Θ Θ' : Bool → Prop} {a b c e : Expr} {es : List Expr} {pos p p2 : Pos}
theorem QX.mono (h : QX X Ψ e ρ Φ) (k : ∀ d, Φ d → Φ' d) : QX X Ψ e ρ Φ' := fun B Hi H σ W tk S r Q q => h B Hi H σ W tk S r Q fun v d Hi' H' z => q v d Hi' H' (k d z)
theorem QA.mono {Φ Φ' : List D → Prop} (h : QA X Ψ es ρ Φ) (k : ∀ d, Φ d → Φ' d) : QA X Ψ es ρ Φ' := fun B Hi H σ W tk S r Q q => h B Hi H σ W tk S r Q fun v d Hi' H' z => q v d Hi' H' (k d z)
theorem QT.mono (h : QT X Ψ e ρ Θ) (k : ∀ d, Θ d → Θ' d) : QT X Ψ e ρ Θ' := fun B Hi H σ W tk S r Q q => h B Hi H σ W tk S r Q fun b Hi' H' z => q b Hi' H' (k b z)
theorem QW.mono (h : QW X Ψ e ρ Θ) (k : ∀ d, Θ d → Θ' d) : QW X Ψ e ρ Θ' := fun B Hi H σ W tk S r Q q => h B Hi H σ W tk S r Q fun b Hi' H' z => q b Hi' H' (k b z)
theorem QE.to {d : D} (h : QE X Ψ e ρ d) (k : Φ d) : QX X Ψ e ρ Φ := QX.mono h fun _ z => by subst z; exact k
theorem QE.is {d d' : D} (h : QE X Ψ e ρ d) (k : d = d') : QE X Ψ e ρ d' := k ▸ h
theorem QAs.to {ds : List D} {Φ : List D → Prop} (h : QAs X Ψ es ρ ds) (k : Φ ds) : QA X Ψ es ρ Φ := QA.mono h fun _ z => by subst z; exact k
/-! ### names, constants -/
theorem qx_var (i : Nat) {x : Str} {d : D} (h : ρ[i]? = some (.dat d)) (k : Φ d) (hN : X.N[i]? = some x := by rfl) (hv : Vis X.env.scope x := by first | exact Or.inl rfl | exact Or.inr (Or.inl rfl) | exact Or.inr (Or.inr rfl)) (hd : (x == ("__debug__" : Str)) = false := by decide)
    (hcd : (x == ("__classdict__" : Str)) = false := by decide) : QX X Ψ (.Name x pos) ρ Φ := fun B Hi H σ W tk S r Q q => by
  obtain ⟨v, e, rp⟩ := S.dat h
  exact wE.of (pe_var hN hv hd hcd) ⟨v, e, q v d Hi H k (Gr.refl S.sub) rp⟩
theorem qx_int {i : Int} {j : Nat} (k : Φ (.int i)) : QX X Ψ (.Constant (.int i) j pos) ρ Φ := fun B Hi H σ W tk S r Q q => wE.of pe_int (q _ _ Hi H k (Gr.refl S.sub) (.int i))
theorem qx_bl {i : Bool} {j : Nat} (k : Φ (.bl i)) : QX X Ψ (.Constant (.bool i) j pos) ρ Φ := fun B Hi H σ W tk S r Q q => wE.of pe_bl (q _ _ Hi H k (Gr.refl S.sub) (.bl i))
theorem qx_non {j : Nat} (k : Φ .non) : QX X Ψ (.Constant .none j pos) ρ Φ := fun B Hi H σ W tk S r Q q => wE.of pe_non (q _ _ Hi H k (Gr.refl S.sub) .non)
theorem qx_str {i : Str} {j : Nat} (k : Φ (.str i)) : QX X Ψ (.Constant (.str i) j pos) ρ Φ := fun B Hi H σ W tk S r Q q => wE.of pe_str (q _ _ Hi H k (Gr.refl S.sub) (.str i))
theorem qi {i : Int} {j : Nat} : QE X Ψ (.Constant (.int i) j pos) ρ (.int i) := qx_int rfl
theorem qb {i : Bool} {j : Nat} : QE X Ψ (.Constant (.bool i) j pos) ρ (.bl i) := qx_bl rfl
theorem qn {j : Nat} : QE X Ψ (.Constant .none j pos) ρ .non := qx_non rfl
theorem qs {i : Str} {j : Nat} : QE X Ψ (.Constant (.str i) j pos) ρ (.str i) := qx_str rfl
/-- a module's constant that stands written -/
theorem qx_glob {x : Str} {v : V} {u : Value} {d : D} (hm : X.mg x = some u) (r : RelV v u) (hd : ∀ H, Rp X.K H v d) (k : Φ d) (hg : Gl X x := by rfl) (hdb : (x == ("__debug__" : Str)) = false := by decide) : QX X Ψ (.Name x pos) ρ Φ :=
  fun B Hi H σ W tk S _ Q q => wE.of (pe_glob hg hm r hdb) (q v d Hi H k (Gr.refl S.sub) (hd Hi))
/-! ### two places -/
def OpD (X : Cx) (r : R2) (R : D → D → (D → Prop) → Prop) : Prop := ∀ (Hi H : Hp) (x y : D) (v u : V) (Φ : D → Prop), Ex Hi H → R x y Φ → Rp X.K Hi v x → Rp X.K Hi u y →
  ∀ Q : VK, (∀ z d Hi' H', Φ d → Gr Hi H Hi' H' → Rp X.K Hi' z d → Q z H') → r v u H Q
theorem bin_go {r : R2} {R : D → D → (D → Prop) → Prop} (hd : OpD X r R) (h : QX X Ψ a ρ fun x => QX X Ψ b ρ fun y => R x y Φ) {B Hi H : Hp} {σ : L2.St} {W : WX} (tk : Takes X W) (S : StOk X.K B Hi H σ ρ) (rs : Rs X Ψ Hi H σ W)
    {Q : VK} (q : ∀ v d Hi' H', Φ d → Gr Hi H Hi' H' → Rp X.K Hi' v d → Q v H') : tOp r (wE X a) (wE X b) σ H Q :=
  h B Hi H σ W tk S rs _ fun v x Hi1 H1 h1 g1 r1 => h1 B Hi1 H1 σ W tk (S.grow g1) (rs.grow g1) _ fun u y Hi2 H2 h2 g2 r2 =>
    hd Hi2 H2 x y v u Φ g2.sub h2 (r1.up g2.i) r2 Q fun z d Hi3 H3 hz g3 r3 => q z d Hi3 H3 hz ((g1.trans g2).trans g3) r3
theorem qx_op {op : Operator} {r : R2} {R : D → D → (D → Prop) → Prop} (ho : OpR X (binaryOp op) r) (hd : OpD X r R) (h : QX X Ψ a ρ fun x => QX X Ψ b ρ fun y => R x y Φ) : QX X Ψ (.BinOp a op b pos) ρ Φ :=
  fun _ _ _ _ _ tk S rs _ q => wE.of (pe_op ho pe_w pe_w) (bin_go hd h tk S rs q)
theorem qx_cmp {op : CmpOp} {r : R2} {R : D → D → (D → Prop) → Prop} (ho : OpR X (compareOp op) r) (hd : OpD X r R) (hm : behindInMarks op b = false) (h : QX X Ψ a ρ fun x => QX X Ψ b ρ fun y => R x y Φ) : QX X Ψ (.Compare a [op] [b] pos) ρ Φ :=
  fun _ _ _ _ _ tk S rs _ q => wE.of (pe_cmpR ho pe_w pe_w hm) (bin_go hd h tk S rs q)
theorem qx_ix {r : R2} {R : D → D → (D → Prop) → Prop} (ho : IxR X r) (hd : OpD X r R) (hp : PlainIx b) (h : QX X Ψ a ρ fun x => QX X Ψ b ρ fun y => R x y Φ) : QX X Ψ (.Subscript a b pos) ρ Φ :=
  fun _ _ _ _ _ tk S rs _ q => wE.of (pe_ix ho pe_w pe_w hp) (bin_go hd h tk S rs q)
/-- a comparison as a test -/
theorem qt_cmp {op : CmpOp} {r : R2} {R : D → D → (D → Prop) → Prop} (ho : OpR X (compareOp op) r) (hd : OpD X r R) (hm : behindInMarks op b = false) (h : QX X Ψ a ρ fun x => QX X Ψ b ρ fun y => R x y fun d => ∃ k, d = .bl k ∧ Θ k) : QT X Ψ (.Compare a [op] [b] pos) ρ Θ :=
  fun _ _ _ _ _ tk S rs Q q => wT.of (pt_cmpR ho pe_w pe_w hm) (bin_go (Q := fun x H' => ∃ k, x = .bl k ∧ Q k H') hd h tk S rs fun v d Hi' H' hz g rp => by
    obtain ⟨k, e, hk⟩ := hz
    subst e
    cases rp
    exact ⟨k, rfl, q k Hi' H' hk g⟩)
theorem od_I0 {g : Int → Int → V} {gd : Int → Int → D} (hg : ∀ H i j, Rp X.K H (g i j) (gd i j)) : OpD X (rI0 g) (fun x y Φ => ∃ i j, x = .int i ∧ y = .int j ∧ Φ (gd i j)) := fun Hi H x y v u Φ s h r1 r2 Q q => by
  obtain ⟨i, j, e1, e2, k⟩ := h
  subst e1 e2
  cases r1; cases r2
  exact ⟨i, j, rfl, rfl, q _ _ Hi H k (Gr.refl s) (hg Hi i j)⟩
theorem od_I {C : Int → Int → Prop} {g : Int → Int → V} {gd : Int → Int → D} (hg : ∀ H i j, Rp X.K H (g i j) (gd i j)) : OpD X (rI C g) (fun x y Φ => ∃ i j, x = .int i ∧ y = .int j ∧ C i j ∧ Φ (gd i j)) := fun Hi H x y v u Φ s h r1 r2 Q q => by
  obtain ⟨i, j, e1, e2, c, k⟩ := h
  subst e1 e2
  cases r1; cases r2
  exact ⟨i, j, rfl, rfl, c, q _ _ Hi H k (Gr.refl s) (hg Hi i j)⟩
/-- == of data -/
theorem od_eqD {n : Nat} (hn : n ≤ 64) : OpD X (rEqD X.K) (fun x y Φ => D.shp n x = true ∧ D.shp n y = true ∧ Φ (.bl (deq x y))) := fun Hi H x y v u Φ s h r1 r2 Q q => by
  obtain ⟨s1, s2, k⟩ := h
  exact ⟨x.py, y.py, Rp.dp x v n s1 (r1.up s), Rp.dp y u n s2 (r2.up s), D.shp_shaped s1 hn, D.shp_shaped s2 hn, q _ _ Hi H k (Gr.refl s) (.bl _)⟩
theorem od_neD {n : Nat} (hn : n ≤ 64) : OpD X (rNeD X.K) (fun x y Φ => D.shp n x = true ∧ D.shp n y = true ∧ Φ (.bl (!deq x y))) := fun Hi H x y v u Φ s h r1 r2 Q q => by
  obtain ⟨s1, s2, k⟩ := h
  exact ⟨x.py, y.py, Rp.dp x v n s1 (r1.up s), Rp.dp y u n s2 (r2.up s), D.shp_shaped s1 hn, D.shp_shaped s2 hn, q _ _ Hi H k (Gr.refl s) (.bl _)⟩
theorem od_ixT : OpD X (rIxT X.K) (fun x y Φ => ∃ ds i d, x = .tup ds ∧ y = .int i ∧ atI ds i = some d ∧ Φ d) := fun Hi H x y v u Φ s h r1 r2 Q q => by
  obtain ⟨ds, i, d, e1, e2, hi, k⟩ := h
  subst e1 e2
  cases r2
  cases r1 with
  | tup hs ha =>
    have hl := ha.length
    unfold atI at hi
    cases e : ixN ds.length i with
    | none => rw [e] at hi; cases hi
    | some j =>
      rw [e] at hi
      obtain ⟨v', h1, h2⟩ := ha.get (show ds[j]? = some d from hi)
      exact ⟨_, _, i, v', rfl, rfl, s.t hs, by unfold atI; rw [hl, e]; exact h1, q _ _ Hi H k (Gr.refl s) h2⟩
theorem od_ixL : OpD X (rIxL X.K) (fun x y Φ => ∃ ds i d, x = .lst ds ∧ y = .int i ∧ atI ds i = some d ∧ Φ d) := fun Hi H x y v u Φ s h r1 r2 Q q => by
  obtain ⟨ds, i, d, e1, e2, hi, k⟩ := h
  subst e1 e2
  cases r2
  cases r1 with
  | lst hs ha =>
    have hl := ha.length
    unfold atI at hi
    cases e : ixN ds.length i with
    | none => rw [e] at hi; cases hi
    | some j =>
      rw [e] at hi
      obtain ⟨v', h1, h2⟩ := ha.get (show ds[j]? = some d from hi)
      exact ⟨_, _, i, v', rfl, rfl, s.l (SqL.of hs), by unfold atI; rw [hl, e]; exact h1, q _ _ Hi H k (Gr.refl s) h2⟩
/-- xs + ys -/
theorem od_cat : OpD X rCat
    (fun x y Φ => ∃ ds es, x = .lst ds ∧ y = .lst es ∧ ds.length + es.length ≤ sizeLine ∧ Φ (.lst (ds ++ es))) := fun Hi H x y v u Φ s h r1 r2 Q q => by
  obtain ⟨ds, es, e1, e2, hz, k⟩ := h
  subst e1 e2
  cases r1 with
  | lst hs ha =>
    cases r2 with
    | lst hs' ha' =>
      refine ⟨_, _, _, _, rfl, rfl, s _ _ hs, s _ _ hs', by rw [ha.length, ha'.length]; exact hz, fun p hp => q _ _ (upd Hi p _) _ k (Gr.mk1 s hp) ?_⟩
      exact .lst upd_same ((ha.app ha').up (Ex.new (s.free hp)))
variable {i j : Int} {ds es' : List D} {d d' : D} {x' y' : D}
theorem qx_sub (h : QX X Ψ a ρ fun x => ∃ i, x = .int i ∧ QX X Ψ b ρ fun y => ∃ j, y = .int j ∧ Φ (.int (i - j))) : QX X Ψ (.BinOp a .Sub b pos) ρ Φ :=
  qx_op op_sub (od_I0 fun _ _ _ => .int _) (h.mono fun _ ⟨i, e, k⟩ => k.mono fun _ ⟨j, e', k'⟩ => ⟨i, j, e, e', k'⟩)
theorem qe_sub (ha : QE X Ψ a ρ (.int i)) (hb : QE X Ψ b ρ (.int j)) : QE X Ψ (.BinOp a .Sub b pos) ρ (.int (i - j)) := qx_sub (ha.to ⟨i, rfl, hb.to ⟨j, rfl, rfl⟩⟩)
/-! ints compared -/
/-! ### one place -/
theorem qx_neg (h : QX X Ψ a ρ fun x => ∃ i, x = .int i ∧ Φ (.int (-i))) : QX X Ψ (.UnaryOp .USub a pos) ρ Φ := fun B Hi H σ W tk S rs Q q => wE.of (pe_un un_neg pe_w) (h B Hi H σ W tk S rs _ fun v d Hi1 H1 hd g r => by
  obtain ⟨i, e, k⟩ := hd
  subst e
  cases r
  exact ⟨i, rfl, q _ _ Hi1 H1 k g (.int _)⟩)
/-! ### argument lists, displays -/
theorem qa_nil {Φ : List D → Prop} (k : Φ []) : QA X Ψ [] ρ Φ := fun B Hi H σ W tk S rs Q q => wA.of pa_nil (q [] [] Hi H k (Gr.refl S.sub) .nil)
theorem qa_cons {Φ : List D → Prop} (h : QX X Ψ e ρ fun d => QA X Ψ es ρ fun ds => Φ (d :: ds)) (hs : starEach (e :: es) X.env = (false, eval e X.env) :: starEach es X.env := by exact se_of rfl) : QA X Ψ (e :: es) ρ Φ :=
  fun B Hi H σ W tk S rs Q q => wA.of (pa_cons pe_w pa_w hs) (h B Hi H σ W tk S rs _ fun v d Hi1 H1 hd g1 r1 =>
    hd B Hi1 H1 σ W tk (S.grow g1) (rs.grow g1) _ fun vs ds Hi2 H2 h2 g2 r2 => q _ _ Hi2 H2 h2 (g1.trans g2) (.cons (r1.up g2.i) r2))
theorem qas_nil : QAs X Ψ [] ρ [] := qa_nil rfl
theorem qas_cons (h : QE X Ψ e ρ d) (hr : QAs X Ψ es ρ ds) (hs : starEach (e :: es) X.env = (false, eval e X.env) :: starEach es X.env := by exact se_of rfl) : QAs X Ψ (e :: es) ρ (d :: ds) := qa_cons (h.to (hr.to rfl)) hs
theorem small {n : Nat} (h : n ≤ 100000) : n ≤ sizeLine := Nat.le_trans h (by decide)
theorem qx_tup {n : Nat} (h : QA X Ψ es ρ fun ds => ds.length ≤ sizeLine ∧ Φ (.tup ds)) : QX X Ψ (.Tuple es n pos) ρ Φ := fun B Hi H σ W tk S rs Q q => wE.of (pe_tup pa_w) (h B Hi H σ W tk S rs _ fun vs ds Hi1 H1 hd g r => by
  refine ⟨by rw [r.length]; exact hd.1, fun p hp => q _ _ (upd Hi1 p _) _ hd.2 (g.trans (Gr.mk1 g.sub hp)) ?_⟩
  exact .tup (SqT.of upd_same) (r.up (Ex.new (g.sub.free hp))))
theorem qx_lst (h : QA X Ψ es ρ fun ds => ds.length ≤ sizeLine ∧ Φ (.lst ds)) : QX X Ψ (.List es pos) ρ Φ := fun B Hi H σ W tk S rs Q q => wE.of (pe_lst pa_w) (h B Hi H σ W tk S rs _ fun vs ds Hi1 H1 hd g r => by
  refine ⟨by rw [r.length]; exact hd.1, fun p hp => q _ _ (upd Hi1 p _) _ hd.2 (g.trans (Gr.mk1 g.sub hp)) ?_⟩
  exact .lst upd_same (r.up (Ex.new (g.sub.free hp))))
theorem qe_tup {n : Nat} (h : QAs X Ψ es ρ ds) (hz : ds.length ≤ 100000 := by exact Nat.le_of_ble_eq_true rfl) : QE X Ψ (.Tuple es n pos) ρ (.tup ds) := qx_tup (h.to ⟨small hz, rfl⟩)
theorem qe_lst (h : QAs X Ψ es ρ ds) (hz : ds.length ≤ 100000 := by exact Nat.le_of_ble_eq_true rfl) : QE X Ψ (.List es pos) ρ (.lst ds) := qx_lst (h.to ⟨small hz, rfl⟩)
/-! ### tests -/
theorem qt_val (h : QX X Ψ e ρ fun d => ∃ k, d = .bl k ∧ Θ k) (he : ∀ whole, isTrue e X.env whole = (do let v ← whole; standAt e.pos; holding [v] (truthy v)) := by intro _; rfl) : QT X Ψ e ρ Θ :=
  fun B Hi H σ W tk S rs Q q => wT.of (pt_val pe_w he) (h B Hi H σ W tk S rs _ fun v d Hi1 H1 hd g r => by
    obtain ⟨k, e, z⟩ := hd
    subst e
    cases r
    exact ⟨k, rfl, q k Hi1 H1 z g⟩)
theorem qt_not (h : QT X Ψ a ρ fun k => Θ (!k)) : QT X Ψ (.UnaryOp .Not a pos) ρ Θ := fun B Hi H σ W tk S rs Q q => wT.of (pt_not pt_w) (h B Hi H σ W tk S rs _ fun k Hi1 H1 z g => q _ Hi1 H1 z g)
theorem QW.t (h : QW X Ψ e ρ Θ) : QT X Ψ e ρ Θ := fun B Hi H σ W tk S rs Q q pins s I => h B Hi H σ W tk S rs Q q _ pins s I
theorem qw_and1 (h : QT X Ψ a ρ Θ) : QW X Ψ (.BoolOp .And [a] pos) ρ Θ := fun B Hi H σ W tk S rs Q q => wW.of (pw_and1 pt_w) (h B Hi H σ W tk S rs Q q)
theorem qw_or1 (h : QT X Ψ a ρ Θ) : QW X Ψ (.BoolOp .Or [a] pos) ρ Θ := fun B Hi H σ W tk S rs Q q => wW.of (pw_or1 pt_w) (h B Hi H σ W tk S rs Q q)
theorem qw_and {rest : List Expr} (h : QT X Ψ a ρ fun k => if k = true then QW X Ψ (.BoolOp .And (b :: rest) pos) ρ Θ else Θ false) : QW X Ψ (.BoolOp .And (a :: b :: rest) pos) ρ Θ :=
  fun B Hi H σ W tk S rs Q q => wW.of (pw_and pt_w pw_w) (h B Hi H σ W tk S rs _ fun k Hi1 H1 z g => by
    cases k with
    | true => exact z B Hi1 H1 σ W tk (S.grow g) (rs.grow g) Q fun b Hi2 H2 zb g2 => q b Hi2 H2 zb (g.trans g2)
    | false => exact q false Hi1 H1 z g)
theorem qw_or {rest : List Expr} (h : QT X Ψ a ρ fun k => if k = true then Θ true else QW X Ψ (.BoolOp .Or (b :: rest) pos) ρ Θ) : QW X Ψ (.BoolOp .Or (a :: b :: rest) pos) ρ Θ :=
  fun B Hi H σ W tk S rs Q q => wW.of (pw_or pt_w pw_w) (h B Hi H σ W tk S rs _ fun k Hi1 H1 z g => by
    cases k with
    | false => exact z B Hi1 H1 σ W tk (S.grow g) (rs.grow g) Q fun b Hi2 H2 zb g2 => q b Hi2 H2 zb (g.trans g2)
    | true => exact q true Hi1 H1 z g)
/-- tests that answer: QB e k -/
abbrev QB (X : Cx) (Ψ : Str → Prop) (e : Expr) (ρ : List Sl) (k : Bool) : Prop := QT X Ψ e ρ (fun z => z = k)
variable {k k' : Bool}
theorem QB.to (h : QB X Ψ e ρ k) (z : Θ k) : QT X Ψ e ρ Θ := QT.mono h fun _ e => by subst e; exact z
theorem QB.is (h : QB X Ψ e ρ k) (z : k = k') : QB X Ψ e ρ k' := z ▸ h
/-- .. as values -/
theorem qx_not (h : QX X Ψ a ρ fun x => ∃ k, x = .bl k ∧ Φ (.bl (!k))) : QX X Ψ (.UnaryOp .Not a pos) ρ Φ := fun B Hi H σ W tk S rs Q q => wE.of (pe_not pe_w) (h B Hi H σ W tk S rs _ fun v d Hi1 H1 hd g r => by
  obtain ⟨k, e, z⟩ := hd
  subst e
  cases r
  exact ⟨k, rfl, q _ _ Hi1 H1 z g (.bl _)⟩)
theorem qx_one {op : BoolOp} (h : QX X Ψ a ρ Φ) : QX X Ψ (.BoolOp op [a] pos) ρ Φ := fun B Hi H σ W tk S rs Q q => wE.of (pe_one pe_w) (h B Hi H σ W tk S rs Q q)
theorem qx_and {rest : List Expr} (h : QX X Ψ a ρ fun x => ∃ k, x = .bl k ∧ if k = true then QX X Ψ (.BoolOp .And (b :: rest) pos) ρ Φ else Φ (.bl false)) : QX X Ψ (.BoolOp .And (a :: b :: rest) pos) ρ Φ :=
  fun B Hi H σ W tk S rs Q q => wE.of (pe_and pe_w pe_w) (h B Hi H σ W tk S rs _ fun v d Hi1 H1 hd g r => by
    obtain ⟨k, e, z⟩ := hd
    subst e
    cases r
    refine ⟨k, rfl, ?_⟩
    cases k with
    | true => exact z B Hi1 H1 σ W tk (S.grow g) (rs.grow g) Q fun v d Hi2 H2 zd g2 r2 => q v d Hi2 H2 zd (g.trans g2) r2
    | false => exact q _ _ Hi1 H1 z g (.bl _))
theorem qx_or {rest : List Expr} (h : QX X Ψ a ρ fun x => ∃ k, x = .bl k ∧ if k = true then Φ (.bl true) else QX X Ψ (.BoolOp .Or (b :: rest) pos) ρ Φ) : QX X Ψ (.BoolOp .Or (a :: b :: rest) pos) ρ Φ :=
  fun B Hi H σ W tk S rs Q q => wE.of (pe_or pe_w pe_w) (h B Hi H σ W tk S rs _ fun v d Hi1 H1 hd g r => by
    obtain ⟨k, e, z⟩ := hd
    subst e
    cases r
    refine ⟨k, rfl, ?_⟩
    cases k with
    | false => exact z B Hi1 H1 σ W tk (S.grow g) (rs.grow g) Q fun v d Hi2 H2 zd g2 r2 => q v d Hi2 H2 zd (g.trans g2) r2
    | true => exact q _ _ Hi1 H1 z g (.bl _))
/-- a if t else b -/
theorem qx_if (h : QT X Ψ c ρ fun k => if k = true then QX X Ψ a ρ Φ else QX X Ψ b ρ Φ) : QX X Ψ (.IfExp c a b pos) ρ Φ := fun B Hi H σ W tk S rs Q q => wE.of (pe_ifExp pt_w pe_w pe_w) (h B Hi H σ W tk S rs _ fun k Hi1 H1 z g => by
  cases k with
  | true => exact z B Hi1 H1 σ W tk (S.grow g) (rs.grow g) Q fun v d Hi2 H2 zd g2 r2 => q v d Hi2 H2 zd (g.trans g2) r2
  | false => exact z B Hi1 H1 σ W tk (S.grow g) (rs.grow g) Q fun v d Hi2 H2 zd g2 r2 => q v d Hi2 H2 zd (g.trans g2) r2)
end
end G
namespace G
open PySem PySem.Spec L2
/-! ### blocks -/
/-- what is wanted behind a block, of data -/
structure Po where
  nx : List Sl → Prop := fun _ => False
  rt : D → Prop := fun _ => False
  bk : List Sl → Prop := fun _ => False
  ct : List Sl → Prop := fun _ => False
  /-- returned, and own things are as told -/
  ro : D → List Sl → Prop := fun _ _ => False
structure Nd (X : Cx) (Bi B : Hp) (R : Po) (Dn : Ends) : Prop where
  nx : ∀ ρ' Hi' H' σ', R.nx ρ' → Gr Bi B Hi' H' → StOk X.K B Hi' H' σ' ρ' → Dn.nx σ' H'
  rt : ∀ v d Hi' H', R.rt d → Gr Bi B Hi' H' → Rp X.K Hi' v d → Dn.rt v H'
  bk : ∀ ρ' Hi' H' σ', R.bk ρ' → Gr Bi B Hi' H' → StOk X.K B Hi' H' σ' ρ' → Dn.bk σ' H'
  ct : ∀ ρ' Hi' H' σ', R.ct ρ' → Gr Bi B Hi' H' → StOk X.K B Hi' H' σ' ρ' → Dn.ct σ' H'
  ro : ∀ v d ρ' Hi' H' σ', R.ro d ρ' → Gr Bi B Hi' H' → StOk X.K B Hi' H' σ' ρ' → Rp X.K Hi' v d → Dn.rt v H'
def Rb (X : Cx) (Ψ : Str → Prop) (Bi B : Hp) (W : WX) : Prop := ∀ x σ' Hi' H', Ψ x → Gr Bi B Hi' H' → W (.ref (He.ga X.K x)) none σ' H'
theorem Rb.rs {X : Cx} {Ψ : Str → Prop} {Bi B Hi H : Hp} {W : WX} (r : Rb X Ψ Bi B W) (g : Gr Bi B Hi H) (σ : L2.St) : Rs X Ψ Hi H σ W := fun x a b p q => r x σ a b p (g.trans q)
def QS (X : Cx) (Ψ : Str → Prop) (st : List Stmt) (ρ : List Sl) (R : Po) : Prop := ∀ (Bi B Hi H : Hp) (σ : L2.St) (Dn : Ends) (W : WX), Takes X W → Gr Bi B Hi H → StOk X.K B Hi H σ ρ → Rb X Ψ Bi B W → Nd X Bi B R Dn → wSs X st Dn σ H
section
variable {X : Cx} {Ψ : Str → Prop} {ρ : List Sl} {R : Po} {Φ : D → Prop} {a b c e : Expr} {es : List Expr} {pos p p2 : Pos} {rest body blk els : List Stmt}
theorem QS.mono {R' : Po} (h : QS X Ψ body ρ R) (k1 : ∀ x, R.nx x → R'.nx x) (k2 : ∀ x, R.rt x → R'.rt x) (k3 : ∀ x, R.bk x → R'.bk x) (k4 : ∀ x, R.ct x → R'.ct x) (k5 : ∀ d x, R.ro d x → R'.ro d x := by exact fun _ _ z => z) : QS X Ψ body ρ R' := fun Bi B Hi H σ Dn W tk g S rb N =>
  h Bi B Hi H σ Dn W tk g S rb ⟨fun ρ' a b c z => N.nx ρ' a b c (k1 _ z), fun v d a b z => N.rt v d a b (k2 _ z), fun ρ' a b c z => N.bk ρ' a b c (k3 _ z), fun ρ' a b c z => N.ct ρ' a b c (k4 _ z), fun v d ρ' a b c z => N.ro v d ρ' a b c (k5 _ _ z)⟩
theorem qs_nil (k : R.nx ρ) : QS X Ψ [] ρ R := fun Bi B Hi H σ Dn W tk g S rb N => wSs.of pss_nil (N.nx ρ Hi H σ k g S)
/-- x = e -/
theorem qs_set (i : Nat) {x : Str} (h : QX X Ψ e ρ fun d => QS X Ψ rest (ρ.set i (.dat d)) R) (hN : X.N.Nodup) (hi : X.N[i]? = some x := by rfl) (hx : Loc X.env.scope x := by first | exact Or.inl rfl | exact Or.inr rfl)
    (hs : swapsWith e (some (.Name x p)) pos.line X.env = pure false := by rfl) (hf : X.fn x = true ∨ X.env.scope.names.lookup x = some .local := by first | exact .inl rfl | exact .inr rfl) : QS X Ψ (.Assign [.Name x p] e pos :: rest) ρ R :=
  fun Bi B Hi H σ Dn W tk g S rb N => wSs.cons (ps_set hN hi hx pe_w hs hf) (h B Hi H σ W tk S (rb.rs g σ) _ fun v d Hi1 H1 z g1 r1 => z Bi B Hi1 H1 (σ.set i (some v)) Dn W tk (g.trans g1) ((S.grow g1).set r1) rb N)
theorem qs_expr (h : QX X Ψ e ρ fun _ => QS X Ψ rest ρ R) (hs : swapsWith e none pos.line X.env = pure false := by rfl) : QS X Ψ (.Expr e pos :: rest) ρ R :=
  fun Bi B Hi H σ Dn W tk g S rb N => wSs.cons (ps_expr pe_w hs) (h B Hi H σ W tk S (rb.rs g σ) _ fun v d Hi1 H1 z g1 r1 => z Bi B Hi1 H1 σ Dn W tk (g.trans g1) (S.grow g1) rb N)
theorem qs_ret (h : QX X Ψ e ρ R.rt) : QS X Ψ (.Return (some e) pos :: rest) ρ R :=
  fun Bi B Hi H σ Dn W tk g S rb N => wSs.cons (ps_ret pe_w) (h B Hi H σ W tk S (rb.rs g σ) _ fun v d Hi1 H1 z g1 r1 => N.rt v d Hi1 H1 z (g.trans g1) r1)
/-- from here on a list of one's own is read alone -/
theorem qs_frz (i : Nat) {c : Cl} {d : D} (hi : ρ[i]? = some (.cl c)) (hd : ∀ K Hi a o Hj, ClOk K Hi a o c → Ex Hi Hj → Hj a = some o → Rp K Hj (.ref a) d) (h : QS X Ψ body (ρ.set i (.dat d)) R) : QS X Ψ body ρ R :=
  fun Bi B Hi H σ Dn W tk g S rb N => by
    obtain ⟨Hi', g', _, S', a, e, r⟩ := S.frz hi g (fun a o Hj => hd _ _ a o Hj)
    exact h Bi B Hi' H σ Dn W tk g' S' rb N
theorem frz_lst {ds : List D} : ∀ (K : PySem.W.Frag) (Hi : Hp) (a : Addr) (o : HO) (Hj : Hp), ClOk K Hi a o (.lst ds) → Ex Hi Hj → Hj a = some o → Rp K Hj (.ref a) (.lst ds) := fun K Hi a o Hj h e z => by
  cases o with
  | lst vs => exact .lst z ((show RpA K Hi vs ds from h).up e)
  | _ => exact h.elim
theorem qs_if (h : QT X Ψ c ρ fun k => if k = true then QS X Ψ blk ρ { R with nx := fun ρ' => QS X Ψ rest ρ' R } else QS X Ψ els ρ { R with nx := fun ρ' => QS X Ψ rest ρ' R }) : QS X Ψ (.If c blk els pos :: rest) ρ R :=
  fun Bi B Hi H σ Dn W tk g S rb N => wSs.cons (ps_if pt_w pss_w pss_w) (h B Hi H σ W tk S (rb.rs g σ) _ fun k Hi1 H1 z g1 => by
    have N' : Nd X Bi B { R with nx := fun ρ' => QS X Ψ rest ρ' R } { Dn with nx := wSs X rest Dn } := ⟨fun ρ' Hi' H' σ' q g' S' => q Bi B Hi' H' σ' Dn W tk g' S' rb N, N.rt, N.bk, N.ct, N.ro⟩
    cases k with
    | true => exact z Bi B Hi1 H1 σ _ W tk (g.trans g1) (S.grow g1) rb N'
    | false => exact z Bi B Hi1 H1 σ _ W tk (g.trans g1) (S.grow g1) rb N')
/-- a, b = x, y -/
theorem qs_par (i j : Nat) {x y : Str} {px py pt : Pos} {kt k2 : Nat} {pt2 : Pos} (h : QX X Ψ a ρ fun d => QX X Ψ b ρ fun d' => QS X Ψ rest ((ρ.set i (.dat d)).set j (.dat d')) R) (hN : X.N.Nodup) (hij : i ≠ j := by decide) (hi : X.N[i]? = some x := by rfl) (hj : X.N[j]? = some y := by rfl)
    (hx : X.env.scope.names.lookup x = some .local := by rfl) (hy : X.env.scope.names.lookup y = some .local := by rfl) (hc : X.calm = true := by rfl)
    (hw : swappedStores [.Tuple [.Name x px, .Name y py] kt pt] (.Tuple [a, b] k2 pt2) X.env = pure (some [x, y]) := by rfl)
    (hs : swapsWithSole [.Tuple [.Name x px, .Name y py] kt pt] (.Tuple [a, b] k2 pt2) pos.line X.env = pure false := by rfl) (he : starEach [a, b] X.env = (false, eval a X.env) :: starEach [b] X.env := by exact se_of rfl) (he2 : starEach [b] X.env = (false, eval b X.env) :: starEach [] X.env := by exact se_of rfl) :
    QS X Ψ (.Assign [.Tuple [.Name x px, .Name y py] kt pt] (.Tuple [a, b] k2 pt2) pos :: rest) ρ R :=
  fun Bi B Hi H σ Dn W tk g S rb N => wSs.cons (ps_par (i := i) (j := j) hc hN hi hj hij hx hy (pa_cons pe_w (pa_cons pe_w pa_nil he2) he) hw hs) (h B Hi H σ W tk S (rb.rs g σ) _ fun v d Hi1 H1 z g1 r1 =>
    z B Hi1 H1 σ W tk (S.grow g1) ((rb.rs g σ).grow g1) _ fun u d' Hi2 H2 z2 g2 r2 => ⟨v, u, rfl, z2 Bi B Hi2 H2 _ Dn W tk ((g.trans g1).trans g2) ((((S.grow g1).grow g2).set (r1.up g2.i)).set r2) rb N⟩)
/-! ### targets -/
/-- tg takes d: the slots from ρ to ρ' -/
def QG (X : Cx) (tg : Expr) (d : D) (ρ ρ' : List Sl) : Prop := ∀ (B Hi H : Hp) (σ : L2.St) (v : V), StOk X.K B Hi H σ ρ → Rp X.K Hi v d → ∀ Q : L2.St → Hp → Prop, (∀ σ', StOk X.K B Hi H σ' ρ' → Q σ' H) → wG X tg v σ H Q
def QGs (X : Cx) (tgs : List Expr) (ds : List D) (ρ ρ' : List Sl) : Prop := ∃ t, PGs X tgs t ∧ ∀ (B Hi H : Hp) (σ : L2.St) (vs : List V), StOk X.K B Hi H σ ρ → RpA X.K Hi vs ds → ∀ Q : L2.St → Hp → Prop, (∀ σ', StOk X.K B Hi H σ' ρ' → Q σ' H) → t vs σ H Q
theorem wG.of {tg : Expr} {g : TG} {v : V} {σ : L2.St} {H : Hp} {Q : L2.St → Hp → Prop} (h : PG X tg g) (q : g v σ H Q) : wG X tg v σ H Q := fun pins s u I r => h.run pins s σ H v u Q I r q
theorem qg_name (i : Nat) {x : Str} {d : D} (hN : X.N.Nodup) (hi : X.N[i]? = some x := by rfl) (hx : Loc X.env.scope x := by first | exact Or.inl rfl | exact Or.inr rfl) (hf : X.fn x = true ∨ X.env.scope.names.lookup x = some .local := by first | exact .inl rfl | exact .inr rfl) :
    QG X (.Name x pos) d ρ (ρ.set i (.dat d)) := fun B Hi H σ v S r Q q => wG.of (pg_name (i := i) hN hi hx hf) (q _ (S.set r))
theorem qgs_nil : QGs X [] [] ρ ρ := ⟨gNil, pgs_nil, fun B Hi H σ vs S r Q q => by cases r; exact ⟨rfl, q _ S⟩⟩
theorem qgs_cons {tg : Expr} {tgs : List Expr} {d : D} {ds : List D} {ρ1 ρ2 : List Sl} (h : QG X tg d ρ ρ1) (hr : QGs X tgs ds ρ1 ρ2) (hs : (assignEach (tg :: tgs) X.env).map (·.2) = assign tg X.env :: (assignEach tgs X.env).map (·.2) := by rfl) : QGs X (tg :: tgs) (d :: ds) ρ ρ2 := by
  obtain ⟨t, ht, hq⟩ := hr
  refine ⟨gCons (wG X tg) t, pgs_cons pg_w ht hs, fun B Hi H σ vs S r Q q => ?_⟩
  cases r with
  | cons r1 r2 => exact ⟨_, _, rfl, h B Hi H σ _ S r1 _ fun σ1 S1 => hq B Hi H σ1 _ S1 r2 Q q⟩
theorem qg_tup {tgs : List Expr} {n : Nat} {ds : List D} {ρ' : List Sl} (h : QGs X tgs ds ρ ρ') (hl : (assignEach tgs X.env).length = ds.length := by rfl) (hst : (assignEach tgs X.env).findIdx? (·.1) = none := by rfl) (hc : X.calm = true := by rfl) :
    QG X (.Tuple tgs n pos) (.tup ds) ρ ρ' := fun B Hi H σ v S r Q q => by
  obtain ⟨t, ht, hq⟩ := h
  cases r with
  | tup hs ha => exact wG.of (pg_tup (n := ds.length) hc ht hl hst) ⟨_, _, rfl, S.sub.t hs, ha.length, hq B Hi H σ _ S ha Q q⟩
/-- target = e -/
theorem qs_asg {tg : Expr} (h : QX X Ψ e ρ fun d => ∃ ρ', QG X tg d ρ ρ' ∧ QS X Ψ rest ρ' R) (hs : swapsWithSole [tg] e pos.line X.env = pure false := by rfl) (hw : swappedStores [tg] e X.env = pure none := by rfl)
    (h1 : (assignEach [tg] X.env).map (·.2) = [assign tg X.env] := by rfl) : QS X Ψ (.Assign [tg] e pos :: rest) ρ R :=
  fun Bi B Hi H σ Dn W tk g S rb N => wSs.cons (ps_asg pe_w pg_w hs hw h1) (h B Hi H σ W tk S (rb.rs g σ) _ fun v d Hi1 H1 z g1 r1 => by
    obtain ⟨ρ', hg, hq⟩ := z
    exact hg B Hi1 H1 σ v (S.grow g1) r1 _ fun σ' S' => hq Bi B Hi1 H1 σ' Dn W tk (g.trans g1) S' rb N)
/-! ### while -/
theorem qs_while {I : Nat → List Sl → Prop} (m0 : Nat) (h0 : I m0 ρ) (hp : PassesOwn (model X.prog X.w) X.A X.env X.xe)
    (hs : ∀ m ρ1, I m ρ1 → QT X Ψ c ρ1 fun k => if k = true then QS X Ψ body ρ1 { nx := fun ρ' => ∃ m', m' < m ∧ I m' ρ', rt := R.rt, ro := R.ro, bk := fun ρ' => QS X Ψ rest ρ' R, ct := fun ρ' => ∃ m', m' < m ∧ I m' ρ' } else QS X Ψ rest ρ1 R) :
    QS X Ψ (.While c body [] pos :: rest) ρ R :=
  fun Bi B Hi H σ Dn W tk g S rb N => wSs.cons (ps_while hp pt_w pss_w) (by
    refine ⟨fun m σ1 H1 => ∃ ρ1 Hi1, I m ρ1 ∧ Gr Bi B Hi1 H1 ∧ StOk X.K B Hi1 H1 σ1 ρ1, ⟨m0, ρ, Hi, h0, g, S⟩, fun m σ1 H1 hw => ?_⟩
    obtain ⟨ρ1, Hi1, hi, g1, S1⟩ := hw
    refine hs m ρ1 hi B Hi1 H1 σ1 W tk S1 (rb.rs g1 σ1) _ fun k Hi2 H2 z g2 => ?_
    cases k with
    | true =>
      refine ⟨fun σ' H' => ∃ m', m' < m ∧ ∃ ρ' Hi', I m' ρ' ∧ Gr Bi B Hi' H' ∧ StOk X.K B Hi' H' σ' ρ', fun σ' H' q => q, ?_⟩
      refine z Bi B Hi2 H2 σ1 _ W tk (g1.trans g2) (S1.grow g2) rb ⟨fun ρ' Hi' H' σ' q g' S' => ?_, N.rt, fun ρ' Hi' H' σ' q g' S' => q Bi B Hi' H' σ' Dn W tk g' S' rb N, fun ρ' Hi' H' σ' q g' S' => ?_, N.ro⟩
      · obtain ⟨m', hm, hi'⟩ := q
        exact ⟨m', hm, ρ', Hi', hi', g', S'⟩
      · obtain ⟨m', hm, hi'⟩ := q
        exact ⟨m', hm, ρ', Hi', hi', g', S'⟩
    | false => exact z Bi B Hi2 H2 σ1 Dn W tk (g1.trans g2) (S1.grow g2) rb N)
/-! ### for -/
/-- a for's turn, from the datum -/
abbrev turnPo (X : Cx) (Ψ : Str → Prop) (rest : List Stmt) (R : Po) (I : List Sl → Prop) : Po := { nx := I, rt := R.rt, ro := R.ro, bk := fun ρ' => QS X Ψ rest ρ' R, ct := I }
end
end G
namespace G
open PySem PySem.Spec L2
section
variable {X : Cx} {Ψ : Str → Prop} {ρ : List Sl} {R : Po} {Φ : D → Prop} {a b c e : Expr} {es : List Expr} {pos p p2 : Pos} {rest body blk els : List Stmt}
theorem Gr.past {Bi B Hi H Hi' H' : Hp} (g : Gr Bi B Hi H) (q : Gr Hi B Hi' H') : Gr Bi B Hi' H' := ⟨g.i.trans q.i, q.o, q.sub, fun c z1 z2 => by
  cases z3 : Hi c with
  | none => exact q.new c z3 z2
  | some u => exact g.new c z1 ⟨u, z3⟩⟩
/-- what holds between the turns -/
abbrev Mid (X : Cx) (Bi B Hi1 : Hp) (I : List Sl → Prop) : L2.St → Hp → Prop := fun σ2 H2 => ∃ ρ2 Hi2, I ρ2 ∧ Gr Bi B Hi2 H2 ∧ Ex Hi1 Hi2 ∧ StOk X.K B Hi2 H2 σ2 ρ2
theorem turn_go {Bi B Hi1 Hi2 H2 : Hp} {σ3 : L2.St} {ρ3 : List Sl} {Dn : Ends} {W : WX} {I : List Sl → Prop} (tk : Takes X W) (g2 : Gr Bi B Hi2 H2) (e2 : Ex Hi1 Hi2) (S3 : StOk X.K B Hi2 H2 σ3 ρ3) (rb : Rb X Ψ Bi B W) (N : Nd X Bi B R Dn)
    (hb : QS X Ψ body ρ3 (turnPo X Ψ rest R I)) : wSs X body { Dn with nx := Mid X Bi B Hi1 I, ct := Mid X Bi B Hi1 I, bk := wSs X rest Dn } σ3 H2 :=
  hb Hi2 B Hi2 H2 σ3 _ W tk ⟨Ex.refl _, g2.o, g2.sub, fun c q ⟨u, z⟩ => by rw [q] at z; cases z⟩ S3 (fun x σ' Hi' H' p q => rb x σ' Hi' H' p (g2.past q))
    ⟨fun ρ' Hi' H' σ' q g' S' => ⟨ρ', Hi', q, g2.past g', e2.trans g'.i, S'⟩, fun v d Hi' H' q g' r' => N.rt v d Hi' H' q (g2.past g') r', fun ρ' Hi' H' σ' q g' S' => q Bi B Hi' H' σ' Dn W tk (g2.past g') S' rb N, fun ρ' Hi' H' σ' q g' S' => ⟨ρ', Hi', q, g2.past g', e2.trans g'.i, S'⟩, fun v d ρ' Hi' H' σ' q g' S' r' => N.ro v d ρ' Hi' H' σ' q (g2.past g') S' r'⟩
/-! ### raise -/
structure ExcF (K : PySem.W.Frag) (mg : Str → Option Value) (x : Str) : Prop where
  g : mg x = some (.ref (He.ga K x))
  ex : PySem.W.excIn K (He.ga K x) He.veBase "ValueError.__new__" = true
  kp : PySem.W.keepIn K (.ref (He.ga K x)) = true
  sb : PySem.W.subIn K (.ref (He.ga K x)) (.type "BaseException") = some true
  ty : PySem.W.typeIn K (.ref (He.ga K x)) = some (.type "type")
theorem qs_raise {x m : Str} {j : Nat} {q1 q2 q3 : Pos} (T : ExcF X.K X.mg x) (k : Ψ x) (hg : Gl X x := by rfl) (hdb : (x == ("__debug__" : Str)) = false := by decide) (hc : X.calm = true := by rfl) :
    QS X Ψ (.Raise (some (.Call (.Name x q1) [.Constant (.str m) j q2] [] q3)) none pos :: rest) ρ R :=
  fun Bi B Hi H σ Dn W tk g S rb N => wSs.cons (ps_raise hc tk (pmk_own PySem.F.excBase_ValueError T.ex T.g T.kp (raises_own T.sb T.ty) hg hdb)) (rb x σ Hi H k g)
/-! ### defs -/
/-- what a def promises, of data: S ds Φ Ψ: all that ds give is in Φ, all that is raised in Ψ -/
abbrev SpD := List D → (D → Prop) → (Str → Prop) → Prop
def spD (K : PySem.W.Frag) (n : Nat) (S : SpD) : Sp := fun vs H Q E => vs.length = n ∧ ∃ (Hi : Hp) (ds : List D) (Φ : D → Prop) (Ψ : Str → Prop), Ex Hi H ∧ RpA K Hi vs ds ∧ S ds Φ Ψ ∧
  (∀ v d Hi' H', Φ d → Gr Hi H Hi' H' → Rp K Hi' v d → Q v H') ∧ ∀ x Hi' H', Ψ x → Gr Hi H Hi' H' → E (.ref (He.ga K x)) none H'
/-- the def x, of n parameters, at level k -/
def FnS (P : Program) (w : World) (K : PySem.W.Frag) (mg : Str → Option Value) (base : Heap) (x : Str) (k n : Nat) (S : SpD) : Prop :=
  (∀ ds Φ Ψ, S ds Φ Ψ → ds.length = n) ∧ ∃ (f : Addr) (fd : FuncData) (ps : List Str), mg x = some (.ref f) ∧ PySem.W.keepIn K (.ref f) = true ∧ Binds K fd ps [] ∧ FnOk P w K mg base (L2.CX P w) k f fd ps (spD K n S)
theorem qx_call {x : Str} {k n : Nat} {S : SpD} (F : FnS X.prog X.w X.K X.mg X.base x k n S) (hr : Room k X.A) (h : QA X Ψ (e :: es) ρ fun ds => S ds Φ Ψ) (hg : Gl X x := by rfl) (hdb : (x == ("__debug__" : Str)) = false := by decide)
    (he : starEach (e :: es) X.env = (false, eval e X.env) :: starEach es X.env := by exact se_of rfl) (hpl : (backTo pos (starEach es X.env)).any (·.1) = false := by rfl) : QX X Ψ (.Call (.Name x p) (e :: es) [] pos) ρ Φ :=
  fun B Hi H σ W tk St rs Q q => by
    obtain ⟨hn, f, fd, ps, g1, kp, bd, ok⟩ := F
    refine wE.of (pe_callS (E := L2.WE W) ok hr hg g1 kp bd (fun σ => passAt tk σ) pa_w hdb he hpl) (h B Hi H σ W tk St rs _ fun vs ds Hi1 H1 z g2 r => ?_)
    exact ⟨by rw [r.length]; exact hn _ _ _ z, Hi1, ds, Φ, Ψ, g2.sub, r, z, fun v d Hi' H' hz g3 r3 => q v d Hi' H' hz (g2.trans g3) r3, fun x Hi' H' hx g3 => rs x Hi' H' hx (g2.trans g3)⟩
theorem start_ok {K : PySem.W.Frag} {Hi H : Hp} {N : List Str} {vs : List V} {ds : List D} (s : Ex Hi H) (r : RpA K Hi vs ds) : StOk K H Hi H (L2.start N vs) (ds.map Sl.dat ++ List.replicate (N.length - ds.length) .emp) := by
  refine ⟨s, by unfold L2.start; simp [r.length], fun i x t a b => ?_, fun i j s t a h1 _ o _ _ _ => ?_, MoF.none fun i m b => ?_⟩
  rotate_right
  · by_cases hi : i < ds.length
    · rw [List.getElem?_append_left (by simpa using hi), List.getElem?_map] at b
      cases e : ds[i]? with
      | none => rw [e] at b; cases b
      | some d => rw [e] at b; cases b
    · rw [List.getElem?_append_right (by simpa using hi), List.getElem?_replicate] at b
      split at b <;> cases b
  · unfold L2.start at a
    by_cases hi : i < ds.length
    · rw [List.getElem?_append_left (by simpa [r.length] using hi)] at a
      rw [List.getElem?_append_left (by simpa using hi)] at b
      rw [List.getElem?_map] at a b
      cases e : ds[i]? with
      | none => rw [e] at b; cases b
      | some d =>
        obtain ⟨v, h1, h2⟩ := r.get e
        rw [e] at b
        rw [h1] at a
        cases a; cases b
        exact h2
    · rw [List.getElem?_append_right (by simpa using hi)] at b
      rw [List.getElem?_replicate] at b
      split at b
      · cases b; cases x <;> trivial
      · cases b
  · rcases List.mem_append.mp (List.mem_of_getElem? h1) with h | h
    · obtain ⟨d, _, rfl⟩ := List.mem_map.mp h
      cases o
    · rw [List.eq_of_mem_replicate h] at o
      cases o
/-- THE RULE for a def -/
theorem fnS_of {P : Program} {w : World} {K : PySem.W.Frag} {mg : Str → Option Value} {base : Heap} {x : Str} {st : Stmt} {N ps : List Str} {k : Nat} {S : SpD} {f : Addr} {fd : FuncData}
    (F : FunD K x x (defArgs st) (defBody st) (defScope st) [] [] f fd) (hm : mg x = some (.ref f)) (Sc : FnScope N ps (defScope st)) (hn : ∀ ds Φ Ψ, S ds Φ Ψ → ds.length = ps.length)
    (hb : ∀ (kV doc pm : Value) (an : Option Addr) (cdv ct : Value) (us : List Value), us.length = ps.length → bindArgs (PySem.W.fnOf x x (defArgs st) (defBody st) (defScope st) .none kV doc pm an cdv ct) ⟨us, []⟩ = pure (ps.zip us))
    (body : ∀ (cdv : Value) (A : Around) (outer : List Env) (s : Shared) (H : Hp) (E : XK), Room k (A.deeper (PyProof.Rows.envOfC x (defScope st) s.heap.objs.size f cdv)) → ∀ ds Φ Ψ, S ds Φ Ψ →
      QS (cxOf (L2.CX P w) P w K mg base N x (defScope st) f cdv A outer s H E) Ψ (defBody st) (ds.map Sl.dat ++ List.replicate (N.length - ds.length) .emp) { nx := fun _ => Φ .non, rt := Φ }) :
    FnS P w K mg base x (k + 1) ps.length S := by
  refine ⟨hn, f, fd, ps, hm, F.kp, F.bindsN hb, F.ok Sc (fun vs H Q E h => h.1) fun cdv A outer s H vs Q E hr h => ⟨_, pss_w, ?_⟩⟩
  obtain ⟨_, Hi, ds, Φ, Ψ, sub, r, hS, hQ, hE⟩ := h
  exact body cdv A outer s H E hr ds Φ Ψ hS Hi H Hi H _ _ (fun cls d _ H' => E cls d H') (takes_of rfl rfl rfl rfl) (Gr.refl sub) (start_ok sub r) (fun y _ Hi' H' p q => hE y Hi' H' p q)
    ⟨fun ρ' Hi' H' σ' z g _ => hQ .non .non Hi' H' z g .non, fun v d Hi' H' z g r' => hQ v d Hi' H' z g r', fun _ _ _ _ z => z.elim, fun _ _ _ _ z => z.elim, fun _ _ _ _ _ _ z => z.elim⟩
end
end G
namespace G
open PySem PySem.Spec L2
section
variable {X : Cx} {Ψ : Str → Prop} {ρ : List Sl} {R : Po} {Φ : D → Prop} {a b c e : Expr} {es : List Expr} {pos p p2 : Pos} {rest body blk els : List Stmt}
/-! ### what is walked -/
/-- J walks the data ds from the heap Hi1 on -/
structure Walks (K : PySem.W.Frag) (J : It) (Hi1 : Hp) (ds : List D) : Prop where
  go : ∀ i H, Ex Hi1 H → i < ds.length → J.go i H
  stop : ∀ H, Ex Hi1 H → J.stop ds.length H
  yld : ∀ i H x H' Hi, Ex Hi1 Hi → Ex Hi H → J.yld i H x H' → i < ds.length → ∃ d Hi', ds[i]? = some d ∧ Gr Hi H Hi' H' ∧ Rp K Hi' x d
def QI (X : Cx) (Ψ : Str → Prop) (tg iter : Expr) (ρ : List Sl) (Φ : List D → Prop) : Prop := ∃ wi, PI X tg iter wi ∧ ∀ (B Hi H : Hp) (σ : L2.St) (W : WX), Takes X W → StOk X.K B Hi H σ ρ → Rs X Ψ Hi H σ W →
  ∀ Rr : It → Hp → Prop, (∀ ds Hi1 H1 J, Φ ds → Gr Hi H Hi1 H1 → Walks X.K J Hi1 ds → Rr J H1) → wi σ H Rr
abbrev QIs (X : Cx) (Ψ : Str → Prop) (tg iter : Expr) (ρ : List Sl) (ds : List D) : Prop := QI X Ψ tg iter ρ (fun z => z = ds)
theorem QI.mono {tg iter : Expr} {Φ Φ' : List D → Prop} (h : QI X Ψ tg iter ρ Φ) (k : ∀ d, Φ d → Φ' d) : QI X Ψ tg iter ρ Φ' := by
  obtain ⟨wi, hp, h⟩ := h
  exact ⟨wi, hp, fun B Hi H σ W tk S rs Rr q => h B Hi H σ W tk S rs Rr fun ds Hi1 H1 J z => q ds Hi1 H1 J (k _ z)⟩
theorem QIs.to {tg iter : Expr} {ds : List D} {Φ : List D → Prop} (h : QIs X Ψ tg iter ρ ds) (k : Φ ds) : QI X Ψ tg iter ρ Φ := h.mono fun _ e => by subst e; exact k
/-- lo, lo + 1, ..: n of them -/
def rangeD (lo : Int) (n : Nat) : List D := (List.range n).map fun (i : Nat) => D.int (lo + i)
theorem rangeD_get {lo : Int} {n i : Nat} (h : i < n) : (rangeD lo n)[i]? = some (.int (lo + i)) := by unfold rangeD; simp [h]
theorem rangeD_length {lo : Int} {n : Nat} : (rangeD lo n).length = n := by unfold rangeD; simp
theorem walks_range {K : PySem.W.Frag} {Hi : Hp} {lo : Int} {n : Nat} : Walks K (Itr lo n) Hi (rangeD lo n) :=
  ⟨fun i H _ hi => by rw [rangeD_length] at hi; exact hi, fun H _ => by rw [rangeD_length]; exact Nat.le_refl n, fun i H x H' Hi' e1 e2 y hi => by
    obtain ⟨rfl, rfl⟩ := y
    rw [rangeD_length] at hi
    exact ⟨_, Hi', rangeD_get hi, Gr.refl e2, .int _⟩⟩
theorem qi_range2 {tg e2 : Expr} {Φ : List D → Prop} (hm : X.mg "range" = none) (h : QA X Ψ [e, e2] ρ fun ds => ∃ lo hi : Int, ds = [.int lo, .int hi] ∧ lo ≤ 100000 ∧ -100000 ≤ lo ∧ hi ≤ 100000 ∧ -100000 ≤ hi ∧ Φ (rangeD lo (hi - lo).toNat)) (hg : Gl X "range" := by rfl)
    (hst : starEach [e, e2] X.env = [(false, eval e X.env), (false, eval e2 X.env)] := by rfl) (hst2 : starEach [e2] X.env = [(false, eval e2 X.env)] := by rfl) :
    QI X Ψ tg (.Call (.Name "range" p) [e, e2] [] p2) ρ Φ := ⟨_, pi_range2 hg hm pa_w hst hst2, fun B Hi H σ W tk S rs Rr q => h B Hi H σ W tk S rs _ fun vs ds Hi1 H1 z g r => by
  obtain ⟨lo, hi, e, h1, h2, h3, h4, k⟩ := z
  subst e
  cases r with
  | cons r rr =>
    cases rr with
    | cons r' rr =>
      cases rr
      cases r
      cases r'
      exact ⟨lo, hi, rfl, ⟨by omega, by omega, by omega, by omega⟩, q _ Hi1 H1 _ k g walks_range⟩⟩
theorem pair_new {K : PySem.W.Frag} {Hi H : Hp} {T : Addr} {x y : V} {d d' : D} (s : Ex Hi H) (hT : H T = none) (r1 : Rp K Hi x d) (r2 : Rp K Hi y d') : Gr Hi H (upd Hi T (.tup [x, y])) (upd H T (.tup [x, y])) ∧ Rp K (upd Hi T (.tup [x, y])) (.ref T) (.tup [d, d']) :=
  ⟨Gr.mk1 s hT, .tup (SqT.of upd_same) (.cons (r1.up (Ex.new (s.free hT))) (.cons (r2.up (Ex.new (s.free hT))) .nil))⟩
/-- zip of two lists: as many turns as the shorter one -/
def zipD (ds es : List D) : List D := (ds.zip es).map fun q => .tup [q.1, q.2]
def enumD (ds : List D) : List D := ds.zipIdx.map fun q => .tup [.int q.2, q.1]
/-! ### for -/
/-! ### comprehensions -/
/-- in whatever block of this comprehension -/
abbrev BlkX (X : Cx) (scope : Scope) (s : Shared) (H : Hp) (C : Addr) (cl : List (Str × Addr)) (fp : List Addr) : Cx := X.blk s H scope (compEnvC scope cl C X.env) fp
def bE (X : Cx) (scope : Scope) (e : Expr) : TE := fun σ H Q => ∀ s H0 C cl fp, wE (BlkX X scope s H0 C cl fp) e σ H Q
def bT (X : Cx) (scope : Scope) (e : Expr) : TT := fun σ H Q => ∀ s H0 C cl fp, wT (BlkX X scope s H0 C cl fp) e σ H Q
def bG (X : Cx) (scope : Scope) (e : Expr) : TG := fun v σ H Q => ∀ s H0 C cl fp, wG (BlkX X scope s H0 C cl fp) e v σ H Q
theorem pe_b {scope : Scope} (s : Shared) (H : Hp) (C : Addr) (cl : List (Str × Addr)) (fp : List Addr) : PE (BlkX X scope s H C cl fp) e (bE X scope e) := ⟨fun pins t _ _ _ I h => h s H C cl fp pins t I⟩
theorem pt_b {scope : Scope} (s : Shared) (H : Hp) (C : Addr) (cl : List (Str × Addr)) (fp : List Addr) : PT (BlkX X scope s H C cl fp) e (bT X scope e) := ⟨fun pins t _ _ _ I h => h s H C cl fp pins t I⟩
theorem pg_b {scope : Scope} (s : Shared) (H : Hp) (C : Addr) (cl : List (Str × Addr)) (fp : List Addr) : PG (BlkX X scope s H C cl fp) e (bG X scope e) := ⟨fun pins t _ _ v u _ I r h => h s H C cl fp pins t u I r⟩
def wipeS (ρ : List Sl) : List Nat → List Sl
  | [] => ρ
  | v :: vs => (wipeS ρ vs).set v .emp
theorem StOk.wipe {K : PySem.W.Frag} {B Hi H : Hp} {σ : L2.St} (S : StOk K B Hi H σ ρ) : ∀ vs, StOk K B Hi H (L2.wipe σ vs) (wipeS ρ vs)
  | [] => S
  | v :: vs => (S.wipe vs).wipe1
theorem wipe_get {σ : L2.St} {i : Nat} : ∀ vs : List Nat, (L2.wipe σ vs)[i]? = if i ∈ vs then (σ[i]?).map (fun _ => none) else σ[i]?
  | [] => by simp [L2.wipe]
  | v :: vs => by
    have ih := wipe_get (σ := σ) (i := i) vs
    show ((L2.wipe σ vs).set v none)[i]? = _
    by_cases h : v = i
    · subst h
      rw [if_pos List.mem_cons_self]
      by_cases hl : v < σ.length
      · rw [List.getElem?_set_self (by rw [L2.wipe_length]; exact hl), List.getElem?_eq_getElem hl]; rfl
      · rw [List.getElem?_eq_none (by rw [List.length_set, L2.wipe_length]; omega), List.getElem?_eq_none (by omega)]; rfl
    · rw [List.getElem?_set_ne h, ih]
      have : (i ∈ v :: vs) ↔ i ∈ vs := by simp [Ne.symm h]
      by_cases hm : i ∈ vs
      · rw [if_pos hm, if_pos (this.mpr hm)]
      · rw [if_neg hm, if_neg (fun z => hm (this.mp z))]
/-- tg takes d within a block, and changes the block's own names alone -/
def QGb (X : Cx) (scope : Scope) (vs : List Nat) (tg : Expr) (d : D) (ρ ρ' : List Sl) : Prop := ∀ (B Hi H : Hp) (σ : L2.St) (v : V), StOk X.K B Hi H σ ρ → Rp X.K Hi v d → ∀ Q : L2.St → Hp → Prop, (∀ σ', StOk X.K B Hi H σ' ρ' → (L2.wipe σ' vs = L2.wipe σ vs) → Q σ' H) → bG X scope tg v σ H Q
theorem wipe_set {σ : L2.St} {j : Nat} {x : Option V} {vs : List Nat} (h : j ∈ vs) : L2.wipe (σ.set j x) vs = L2.wipe σ vs := by
  apply List.ext_getElem?
  intro i
  rw [wipe_get, wipe_get]
  by_cases hm : i ∈ vs
  · rw [if_pos hm, if_pos hm]
    by_cases hj : j = i
    · subst hj
      by_cases hl : j < σ.length
      · rw [List.getElem?_set_self hl, List.getElem?_eq_getElem hl]; rfl
      · rw [List.getElem?_eq_none (by simpa using hl), List.getElem?_eq_none (by simpa using hl)]
    · rw [List.getElem?_set_ne hj]
  · rw [if_neg hm, if_neg hm, List.getElem?_set_ne (fun e => hm (by rw [← e]; exact h))]
theorem wipe_wipe {σ : L2.St} {vs : List Nat} : L2.wipe (L2.wipe σ vs) vs = L2.wipe σ vs := by
  apply List.ext_getElem?
  intro i
  rw [wipe_get, wipe_get]
  by_cases hm : i ∈ vs
  · rw [if_pos hm, if_pos hm]
    cases σ[i]? <;> rfl
  · rw [if_neg hm, if_neg hm]
theorem qgb_name (i : Nat) {scope : Scope} {x : Str} {d : D} {vs : List Nat} (hN : X.N.Nodup) (hv : i ∈ vs := by decide) (hi : X.N[i]? = some x := by rfl)
    (hx : ∀ s H C cl fp, Loc (BlkX X scope s H C cl fp).env.scope x := by first | exact fun _ _ _ _ _ => Or.inl rfl | exact fun _ _ _ _ _ => Or.inr rfl)
    (hf : ∀ s H C cl fp, (BlkX X scope s H C cl fp).fn x = true ∨ (BlkX X scope s H C cl fp).env.scope.names.lookup x = some .local := by first | exact fun _ _ _ _ _ => Or.inr rfl | exact fun _ _ _ _ _ => Or.inl rfl) :
    QGb X scope vs (.Name x pos) d ρ (ρ.set i (.dat d)) := fun B Hi H σ v S r Q q s H0 C cl fp => wG.of (X := BlkX X scope s H0 C cl fp) (pg_name (i := i) hN hi (hx s H0 C cl fp) (hf s H0 C cl fp)) (q _ (S.set r) (wipe_set hv))
/-- what a comprehension gives: I of the turn and the list so far. Θ: what the test may answer -/
structure LcQ (X : Cx) (scope : Scope) (vs : List Nat) (tg elt : Expr) (ifs : List Expr) (ρ : List Sl) (ds : List D) (I : Nat → List D → Prop) (Φ : D → Prop) : Prop where
  len : ds.length ≤ 100000
  start : I 0 []
  turn : ∀ i d acc, ds[i]? = some d → I i acc → ∃ ρ', QGb X scope vs tg d (wipeS ρ vs) ρ' ∧ ∃ Θ : Bool → Prop, (match ifs with
      | [] => Θ true
      | c :: _ => ∀ s H C cl fp, QT (BlkX X scope s H C cl fp) (fun _ => False) c ρ' Θ) ∧
    (Θ true → ∀ s H C cl fp, QX (BlkX X scope s H C cl fp) (fun _ => False) elt ρ' fun y => I (i + 1) (acc ++ [y])) ∧ (Θ false → I (i + 1) acc)
  fin : ∀ acc, I ds.length acc → acc.length ≤ ds.length → Φ (.lst acc)
def ttOf (X : Cx) (scope : Scope) : List Expr → TT
  | [] => tYes
  | c :: _ => bT X scope c
theorem lc_go {scope : Scope} {vs : List Nat} {tg elt : Expr} {ifs : List Expr} {ds : List D} {I : Nat → List D → Prop} {B Hi1 H1 : Hp} {σ : L2.St} {Q : VK} {J : It} (L : LcQ X scope vs tg elt ifs ρ ds I Φ) (S : StOk X.K B Hi1 H1 σ ρ) (wk : Walks X.K J Hi1 ds)
    (q : ∀ v d Hi' H', Φ d → Gr Hi1 H1 Hi' H' → Rp X.K Hi' v d → Q v H') : ∀ Da, H1 Da = none → ∃ W : Nat → Nat → Hp → Prop, (∃ m, W 0 m (upd H1 Da (.lst []))) ∧ ∀ i m H, W i m H →
      (J.stop i H ∧ Q (.ref Da) H) ∨ (J.go i H ∧ ∃ Nx : Hp → Prop, (∀ H', Nx H' → ∃ m', m' < m ∧ W (i + 1) m' H') ∧ ∀ x H', J.yld i H x H' → bG X scope tg x (L2.wipe σ vs) H' fun σ2 H2 => L2.wipe σ2 vs = L2.wipe σ vs ∧ ttOf X scope ifs σ2 H2 fun b H3 =>
        if b = true then bE X scope elt σ2 H3 fun y H4 => ∃ acc, H4 Da = some (.lst acc) ∧ acc.length < sizeLine ∧ Nx (upd H4 Da (.lst (acc ++ [y]))) else Nx H3) := by
  intro Da hD
  refine ⟨fun i m H => m = ds.length - i ∧ i ≤ ds.length ∧ ∃ Hi2 accV acc, I i acc ∧ acc.length ≤ i ∧ Gr Hi1 H1 Hi2 H ∧ Hi2 Da = none ∧ H Da = some (.lst accV) ∧ RpA X.K Hi2 accV acc,
    ⟨ds.length, by simp, Nat.zero_le _, Hi1, [], [], L.start, Nat.le_refl _, Gr.out S.sub (Ex.new hD), S.sub.free hD, upd_same, .nil⟩, ?_⟩
  rintro i m H ⟨rfl, hi, Hi2, accV, acc, hI, hle, g2, n2, x2, r2⟩
  have hlen := L.len
  by_cases hlt : i < ds.length
  · refine .inr ⟨wk.go i H (g2.i.trans g2.sub) hlt, _, fun H' p => ⟨ds.length - (i + 1), by omega, rfl, hlt, p⟩, fun x H' y => ?_⟩
    obtain ⟨d, Hi3, hd, g3, r3⟩ := wk.yld i H x H' Hi2 g2.i g2.sub y hlt
    obtain ⟨ρ', hg, Θ, ht, hy, hn⟩ := L.turn i d acc hd hI
    have g23 := g2.trans g3
    have keepD : ∀ {Hj Hk : Hp}, Gr Hi2 H Hj Hk → Hj Da = none := fun {Hj Hk} g => by
      cases z : Hj Da with
      | none => rfl
      | some u => rw [g.new Da n2 ⟨u, z⟩] at x2; cases x2
    refine hg B Hi3 H' _ x ((S.wipe vs).grow g23) r3 _ fun σ2 S2 hw => ⟨by rw [hw, wipe_wipe], ?_⟩
    have elt_go : ∀ {Hj Hk : Hp}, Gr Hi2 H Hj Hk → StOk X.K B Hj Hk σ2 ρ' → Θ true → bE X scope elt σ2 Hk fun y H4 => ∃ acc', H4 Da = some (.lst acc') ∧ acc'.length < sizeLine ∧ ∃ Hi2 accV acc, I (i + 1) acc ∧ acc.length ≤ i + 1 ∧ Gr Hi1 H1 Hi2 (upd H4 Da (.lst (acc' ++ [y]))) ∧ Hi2 Da = none ∧ (upd H4 Da (.lst (acc' ++ [y]))) Da = some (.lst accV) ∧ RpA X.K Hi2 accV acc := fun {Hj Hk} gj Sj hΘ s H0 C cl fp => by
      refine hy hΘ s H0 C cl fp B Hj Hk σ2 (fun _ _ _ _ => False) takes0 Sj (fun _ _ _ z => z.elim) _ fun y dy Hi4 H4 hz g4 r4 => ?_
      have g24 := gj.trans g4
      have hD4 := keepD g24
      refine ⟨accV, g24.o _ _ x2, ?_, Hi4, accV ++ [y], acc ++ [dy], hz, by simp; omega, ⟨g2.i.trans g24.i, fun c u z => ?_, fun c u z => ?_, fun c z1 z2 => (g2.trans g24).new c z1 z2⟩, hD4, upd_same, (r2.up g24.i).app (.cons r4 .nil)⟩
      · rw [r2.length]
        exact Nat.lt_of_lt_of_le (Nat.lt_of_le_of_lt hle (Nat.lt_of_lt_of_le hlt hlen)) (by decide)
      · rw [upd_ne (ne_of_none z hD)]; exact (g2.trans g24).o c u z
      · rw [upd_ne (ne_of_none z hD4)]; exact g4.sub c u z
    have no_go : ∀ {Hj Hk : Hp}, Gr Hi2 H Hj Hk → Θ false → ∃ Hi2 accV acc, I (i + 1) acc ∧ acc.length ≤ i + 1 ∧ Gr Hi1 H1 Hi2 Hk ∧ Hi2 Da = none ∧ Hk Da = some (.lst accV) ∧ RpA X.K Hi2 accV acc := fun {Hj Hk} gj hΘ =>
      ⟨Hj, accV, acc, hn hΘ, by omega, g2.trans gj, keepD gj, gj.o _ _ x2, r2.up gj.i⟩
    cases ifs with
    | nil => exact elt_go g3 S2 ht
    | cons c r =>
      intro s H0 C cl fp
      refine ht s H0 C cl fp B Hi3 H' σ2 (fun _ _ _ _ => False) takes0 S2 (fun _ _ _ z => z.elim) _ fun b Hi4 H4 hb g4 => ?_
      cases b with
      | true => exact elt_go (g3.trans g4) (S2.grow g4) hb
      | false => exact no_go (g3.trans g4) hb
  · have e : i = ds.length := by omega
    subst e
    refine .inl ⟨wk.stop H (g2.i.trans g2.sub), q _ (.lst acc) (upd Hi2 Da (.lst accV)) H (L.fin acc hI hle) ⟨g2.i.trans (Ex.new n2), g2.o, fun c u z => ?_, fun c z1 z2 => ?_⟩ (.lst upd_same (r2.up (Ex.new n2)))⟩
    · by_cases h : c = Da
      · subst h; rw [upd_same] at z; cases z; exact x2
      · rw [upd_ne h] at z; exact g2.sub c u z
    · by_cases h : c = Da
      · subst h; exact hD
      · obtain ⟨u, z⟩ := z2
        rw [upd_ne h] at z
        exact g2.new c z1 ⟨u, z⟩
theorem pts_of {scope : Scope} {ifs : List Expr} (hl : ifs.length ≤ 1) (s : Shared) (H : Hp) (C : Addr) (cl : List (Str × Addr)) (fp : List Addr) : PTs (BlkX X scope s H C cl fp) ifs (ttOf X scope ifs) := by
  cases ifs with
  | nil => exact pts_nil
  | cons c r =>
    cases r with
    | nil => exact pts_one (pt_b s H C cl fp)
    | cons _ _ => simp at hl
end
end G
namespace G
open PySem PySem.Spec L2
section
variable {X : Cx} {Ψ : Str → Prop} {ρ : List Sl} {R : Po} {Φ : D → Prop} {Θ : Bool → Prop} {a b c e : Expr} {es : List Expr} {pos p p2 : Pos} {rest body blk els : List Stmt} {d d' : D} {ds : List D} {i j : Int}
/-! ### built-in functions -/
def CallD (X : Cx) (r : List V → Hp → VK → Prop) (Q : List D → (D → Prop) → Prop) : Prop := ∀ (Hi H : Hp) (vs : List V) (ds : List D) (Φ : D → Prop), Ex Hi H → Q ds Φ → RpA X.K Hi vs ds →
  ∀ K : VK, (∀ z d Hi' H', Φ d → Gr Hi H Hi' H' → Rp X.K Hi' z d → K z H') → r vs H K
theorem callB_go {r : List V → Hp → VK → Prop} {Qd : List D → (D → Prop) → Prop} (hd : CallD X r Qd) (h : QA X Ψ es ρ fun ds => Qd ds Φ) {B Hi H : Hp} {σ : L2.St} {W : WX} (tk : Takes X W) (S : StOk X.K B Hi H σ ρ) (rs : Rs X Ψ Hi H σ W)
    {Q : VK} (q : ∀ v d Hi' H', Φ d → Gr Hi H Hi' H' → Rp X.K Hi' v d → Q v H') : tCB r (wA X es) σ H Q :=
  h B Hi H σ W tk S rs _ fun vs ds Hi1 H1 z g r1 => hd Hi1 H1 vs ds Φ g.sub z r1 Q fun v d Hi2 H2 hz g2 r2 => q v d Hi2 H2 hz (g.trans g2) r2
theorem qx_callB {id : String} {x : Str} {r : List V → Hp → VK → Prop} {Qd : List D → (D → Prop) → Prop} (hc : CallR X (.builtin id) r) (hd : CallD X r Qd) (hm : X.mg x = none) (hv : bootBuiltins x = some (.builtin id)) (h : QA X Ψ (e :: es) ρ fun ds => Qd ds Φ)
    (hg : Gl X x := by rfl) (hn : x ≠ "__name__" := by decide) (hdb : (x == ("__debug__" : Str)) = false := by decide) (he : starEach (e :: es) X.env = (false, eval e X.env) :: starEach es X.env := by exact se_of rfl) (hpl : (backTo pos (starEach es X.env)).any (·.1) = false := by rfl) :
    QX X Ψ (.Call (.Name x p) (e :: es) [] pos) ρ Φ := fun B Hi H σ W tk S rs Q q => wE.of (pe_callB hc hg hm hv pa_w hn hdb he hpl) (callB_go hd h tk S rs q)
theorem qx_callTy {T : String} {x : Str} {r : List V → Hp → VK → Prop} {Qd : List D → (D → Prop) → Prop} (hc : CallR X (.type T) r) (hd : CallD X r Qd) (hm : X.mg x = none) (hv : bootBuiltins x = some (.type T)) (h : QA X Ψ (e :: es) ρ fun ds => Qd ds Φ)
    (hg : Gl X x := by rfl) (hn : x ≠ "__name__" := by decide) (hdb : (x == ("__debug__" : Str)) = false := by decide) (he : starEach (e :: es) X.env = (false, eval e X.env) :: starEach es X.env := by exact se_of rfl) (hpl : (backTo pos (starEach es X.env)).any (·.1) = false := by rfl) :
    QX X Ψ (.Call (.Name x p) (e :: es) [] pos) ρ Φ := fun B Hi H σ W tk S rs Q q => wE.of (pe_callTy hc hg hm hv pa_w hn hdb he hpl) (callB_go hd h tk S rs q)
theorem cd_abs : CallD X (fun xs H Q => ∃ i, xs = [.int i] ∧ Q (.int (if i < 0 then -i else i)) H) (fun ds Φ => ∃ i, ds = [.int i] ∧ Φ (.int (if i < 0 then -i else i))) := fun Hi H vs ds Φ s h r Q q => by
  obtain ⟨i, e, k⟩ := h
  subst e
  cases r with
  | cons r rr => cases rr; cases r; exact ⟨i, rfl, q _ _ Hi H k (Gr.refl s) (.int _)⟩
theorem cd_max2 : CallD X (fun xs H Q => ∃ i j, xs = [.int i, .int j] ∧ Q (.int (if j > i then j else i)) H) (fun ds Φ => ∃ i j, ds = [.int i, .int j] ∧ Φ (.int (if j > i then j else i))) := fun Hi H vs ds Φ s h r Q q => by
  obtain ⟨i, j, e, k⟩ := h
  subst e
  cases r with
  | cons r rr => cases rr with
    | cons r' rr => cases rr; cases r; cases r'; exact ⟨i, j, rfl, q _ _ Hi H k (Gr.refl s) (.int _)⟩
theorem cd_len : CallD X (fun xs H Q => ∃ p ys, xs = [.ref p] ∧ (SqL X.K H p ys ∨ SqT X.K H p ys) ∧ Q (.int ys.length) H) (fun ds Φ => ∃ xs, (ds = [.lst xs] ∨ ds = [.tup xs]) ∧ Φ (.int xs.length)) := fun Hi H vs ds Φ s h r Q q => by
  obtain ⟨xs, e, k⟩ := h
  rcases e with e | e
  · subst e
    cases r with
    | cons r rr =>
      cases rr
      cases r with
      | lst hs ha => exact ⟨_, _, rfl, .inl (SqL.of (s _ _ hs)), by rw [ha.length]; exact q _ _ Hi H k (Gr.refl s) (.int _)⟩
  · subst e
    cases r with
    | cons r rr =>
      cases rr
      cases r with
      | tup hs ha => exact ⟨_, _, rfl, .inr (s.t hs), by rw [ha.length]; exact q _ _ Hi H k (Gr.refl s) (.int _)⟩
theorem RpA.bls {K : PySem.W.Frag} {H : Hp} : ∀ {bs : List Bool} {vs : List V}, RpA K H vs (bs.map D.bl) → vs = bs.map V.bl
  | [], _, h => by cases h; rfl
  | b :: bs, _, h => by
    cases h with
    | cons h1 h2 => cases h1; rw [RpA.bls h2]; rfl
theorem RpA.ints {K : PySem.W.Frag} {H : Hp} : ∀ {bs : List Int} {vs : List V}, RpA K H vs (bs.map D.int) → vs = bs.map V.int
  | [], _, h => by cases h; rfl
  | b :: bs, _, h => by
    cases h with
    | cons h1 h2 => cases h1; rw [RpA.ints h2]; rfl
theorem cd_all : CallD X (rAll X.K) (fun ds Φ => ∃ bs : List Bool, ds = [.lst (bs.map D.bl)] ∧ Φ (.bl (bs.all id))) := fun Hi H vs ds Φ s h r Q q => by
  obtain ⟨bs, e, k⟩ := h
  subst e
  cases r with
  | cons r rr =>
    cases rr
    cases r with
    | lst hs ha => rw [ha.bls] at hs; exact ⟨_, bs, rfl, SqL.of (s _ _ hs), q _ _ Hi H k (Gr.refl s) (.bl _)⟩
theorem cd_tuple : CallD X (fun xs H Q => ∃ p ys, xs = [.ref p] ∧ ((SqL X.K H p ys ∧ ∀ l, H l = none → Q (.ref l) (upd H l (.tup ys))) ∨ (SqT X.K H p ys ∧ Q (.ref p) H))) (fun ds Φ => ∃ xs, (ds = [.lst xs] ∨ ds = [.tup xs]) ∧ Φ (.tup xs)) := fun Hi H vs ds Φ s h r Q q => by
  obtain ⟨xs, e, k⟩ := h
  rcases e with e | e
  · subst e
    cases r with
    | cons r rr =>
      cases rr
      cases r with
      | lst hs ha => exact ⟨_, _, rfl, .inl ⟨SqL.of (s _ _ hs), fun l hl => q _ _ (upd Hi l _) _ k (Gr.mk1 s hl) (.tup (SqT.of upd_same) (ha.up (Ex.new (s.free hl))))⟩⟩
  · subst e
    cases r with
    | cons r rr =>
      cases rr
      cases r with
      | tup hs ha => exact ⟨_, _, rfl, .inr ⟨s.t hs, q _ _ Hi H k (Gr.refl s) (.tup hs ha)⟩⟩
/-! ### isinstance -/
def D.tyN : D → String
  | .non => "NoneType" | .bl _ => "bool" | .int _ => "int" | .str _ => "str" | .lst _ => "list" | .tup _ => "tuple" | .dct _ _ => "dict" | .exc _ => "ValueError" | .opq _ => "list" | .obj _ _ _ => "ValueError"
/-- what isinstance looks at: of my own dicts too -/
def TyG (K : PySem.W.Frag) (H : Hp) (v : V) (t : Value) : Prop := TyX K H v t ∨ ∃ (a : Addr) (xs : List Ent) (ob : Obj), v = .ref a ∧ H a = some (.ext (dctO a xs ob)) ∧ t = .type "dict"
theorem kit_G {pins : List (Addr × Obj)} {σ : L2.St} {H : Hp} {s : Shared} {x : V} {u t : Value} (I : Inv X pins σ H s) (rx : RelV x u) (ty : TyG X.K H x t) : ∃ T : Heap → Prop, PySem.W.KitX X.K u t T ∧ T s.heap ∧ u ≠ .builtin "__main__.__loader__#opaque" := by
  rcases ty with ty | ⟨a, xs, ob, rfl, ha, rfl⟩
  · exact kit_of I rx ty
  · obtain rfl : u = Value.ref a := rx
    obtain ⟨⟨e, ds⟩, _⟩ := I.hok a _ ha
    exact ⟨_, PySem.W.kitx_dict, ⟨ob, e, ds.ex.1⟩, fun z => nomatch z⟩
def rIsG (K : PySem.W.Frag) : List V → Hp → VK → Prop := fun xs H Q => ∃ (x c : V) (t u : Value) (k : Bool), xs = [x, c] ∧ ClsV c u ∧ TyG K H x t ∧ PySem.W.kitOne K t u = some k ∧ Q (.bl k) H
theorem call_isG : CallR X (.builtin "isinstance") (rIsG X.K) := fun pins s σ H vs us Q I r h => by
  obtain ⟨x, c, t, u, k, rfl, hc, ty, e, q⟩ := h
  obtain ⟨w1, w2, rfl, r1, r2⟩ := vals2 r
  obtain rfl := hc.eq r2
  obtain ⟨T, Z, p, n⟩ := kit_G I r1 ty
  exact PySem.W.kia_one Z I.kIn p e n fun tk => ⟨.bl k, H, I.tok tk, rfl, q⟩
def rIsGT (K : PySem.W.Frag) : List V → Hp → VK → Prop := fun xs H Q => ∃ (x : V) (T : Addr) (cs : List V) (t : Value) (ts : List Value) (k : Bool), xs = [x, .ref T] ∧ H T = some (.tup cs) ∧ Paired ClsV cs ts ∧ TyG K H x t ∧ PySem.W.kitAny K t ts = some k ∧ Q (.bl k) H
theorem call_isGT : CallR X (.builtin "isinstance") (rIsGT X.K) := fun pins s σ H vs us Q I r h => by
  obtain ⟨x, T, cs, t, ts, k, rfl, hT, hc, ty, e, q⟩ := h
  obtain ⟨w1, w2, rfl, r1, r2⟩ := vals2 r
  obtain rfl : w2 = Value.ref T := r2
  obtain ⟨T', Z, p, n⟩ := kit_G I r1 ty
  obtain ⟨_, its, rv, ⟨oc, od, dt, sl⟩, e1, e2, m, e3⟩ := (show ObjOk X.prog X.w H s.heap T (.tup cs) from I.hok T _ hT)
  obtain rfl := ClsV.all hc rv
  simp only at e2 e3
  subst e2 e3
  exact PySem.W.kia_tup Z I.kIn p e1 e n fun tk => ⟨.bl k, H, I.tok tk, rfl, q⟩
theorem Rp.ty {K : PySem.W.Frag} {Hi H : Hp} {v : V} (s : Ex Hi H) (h : Rp K Hi v d) (ho : (∀ n, d ≠ .opq n) ∧ ∀ n ks vs, d ≠ .obj n ks vs) : TyG K H v (.type d.tyN) := by
  cases h with
  | dct h1 => exact .inr ⟨_, _, _, rfl, s _ _ h1, rfl⟩
  | non => exact .inl <| .base .non
  | bl b => exact .inl <| .base (.bl b)
  | int i => exact .inl <| .base (.int i)
  | str x => exact .inl <| .base (.str x)
  | lst hs ha => exact .inl <| .base (.lst (s _ _ hs))
  | tup hs ha =>
    rcases s.t hs with (h | ⟨o, h⟩) | ⟨o, its, n, h1, h2, h3, _⟩
    · exact .inl <| .base (.tup h)
    · exact .inl <| .fTuple h
    · exact .inl <| .kTuple h1 h2
  | town h1 h2 => exact absurd rfl (ho.1 0)
  | scr h1 h2 => exact absurd rfl (ho.1 1)
  | exc h1 h2 => exact absurd rfl (ho.1 _)
  | sdc h1 => exact absurd rfl (ho.2 _ _ _)
  | alb h1 => exact absurd rfl (ho.2 _ _ _)
/-! ### lists: repeated, cut; in -/
theorem od_rep : OpD X rRep (fun x y Φ => ∃ ds k, x = .lst ds ∧ y = .int k ∧ 0 ≤ k ∧ k ≤ 1000 ∧ ds.length * k.toNat ≤ sizeLine ∧ Φ (.lst (List.replicate k.toNat ds).flatten)) := fun Hi H x y v u Φ s h r1 r2 Q q => by
  obtain ⟨ds, k, e1, e2, h0, h1, hz, kk⟩ := h
  subst e1 e2
  cases r2
  cases r1 with
  | @lst a xs _ hs ha =>
    have rep : ∀ n : Nat, RpA X.K Hi (List.replicate n xs).flatten (List.replicate n ds).flatten := fun n => by
      induction n with
      | zero => exact .nil
      | succ n ih => rw [List.replicate_succ, List.replicate_succ, List.flatten_cons, List.flatten_cons]; exact ha.app ih
    refine ⟨_, k, xs, rfl, rfl, s _ _ hs, by omega, by omega, by rw [ha.length]; exact hz, fun p hp => q _ _ (upd Hi p _) _ kk (Gr.mk1 s hp) ?_⟩
    exact .lst upd_same ((rep k.toNat).up (Ex.new (s.free hp)))
/-- places of a cut -/
def cutD (xs : List D) (lo hi : Option Int) : List D := (xs.drop (HT.sIx xs.length 0 lo)).take (HT.sIx xs.length xs.length hi - HT.sIx xs.length 0 lo)
def memD (d : D) (ds : List D) : Bool := ds.any fun z => deq z d
theorem pyA_any (d : D) : ∀ ds : List D, ((D.pyA ds).any fun z => PyData.eqv z d.py) = memD d ds
  | [] => rfl
  | x :: xs => by
    have ih := pyA_any d xs
    show (PyData.eqv x.py d.py || (D.pyA xs).any fun z => PyData.eqv z d.py) = (deq x d || memD d xs)
    rw [ih]; rfl
theorem od_inD {n : Nat} (hn : n < 64) : OpD X (rInD X.K) (fun x y Φ => ∃ ds, y = .lst ds ∧ D.shp n x = true ∧ D.shpA n ds = true ∧ Φ (.bl (memD x ds))) := fun Hi H x y v u Φ s h r1 r2 Q q => by
  obtain ⟨ds, e, s1, s2, k⟩ := h
  subst e
  have s3 : D.shp (n + 1) (.lst ds) = true := by rw [shp_lst]; exact s2
  refine ⟨x.py, D.pyA ds, Rp.dp x v n s1 (r1.up s), Rp.dp (.lst ds) u (n + 1) s3 (r2.up s), D.shp_shaped s1 (by omega), D.shp_shaped s3 (by omega), ?_⟩
  rw [pyA_any]
  exact q _ _ Hi H k (Gr.refl s) (.bl _)
end
end G
namespace G
open PySem PySem.Spec L2
/-- what lets a while, a for stand in a def -/
theorem pass_cx {P : Program} {w : World} {K : PySem.W.Frag} {mg : Str → Option Value} {base : Heap} {N : List Str} {qual : Str} {scope : Scope} {f : Addr} {cd : Value} {A : Around} {outer : List Env} {s : Shared} {H : Hp} {E : XK} :
    PassesOwn (model P w) (cxOf (L2.CX P w) P w K mg base N qual scope f cd A outer s H E).A (cxOf (L2.CX P w) P w K mg base N qual scope f cd A outer s H E).env (cxOf (L2.CX P w) P w K mg base N qual scope f cd A outer s H E).xe :=
  passes_of (X := cxOf (L2.CX P w) P w K mg base N qual scope f cd A outer s H E) (K := fun e s'' => L2.CX P w outer H s E e s'') (E₁ := fun e' s'' => L2.CX P w outer H s E e' s'') rfl
/-- the built-in names that the text leaves alone -/
structure Zs (mg : Str → Option Value) : Prop where
  abs : mg "abs" = none
  len : mg "len" = none
  all : mg "all" = none
  any : mg "any" = none
  max : mg "max" = none
  isinstance : mg "isinstance" = none
  int : mg "int" = none
  bool : mg "bool" = none
  tuple : mg "tuple" = none
  list : mg "list" = none
  str : mg "str" = none
  range : mg "range" = none
  zip : mg "zip" = none
  enumerate : mg "enumerate" = none
  sorted : mg "sorted" = none
  sum : mg "sum" = none
  min : mg "min" = none
/-! ### bounds: |i| < 2 ^ n -/
def Bn (n : Nat) (i : Int) : Prop := i.natAbs < 2 ^ n
theorem Bn.mono {n m : Nat} {i : Int} (h : Bn n i) (e : n ≤ m) : Bn m i := Nat.lt_of_lt_of_le h (Nat.pow_le_pow_right (by decide) e)
theorem Bn.mul {n m : Nat} {i j : Int} (h : Bn n i) (k : Bn m j) : Bn (n + m) (i * j) := wide_lt h k
theorem two_add (n m : Nat) : 2 ^ n + 2 ^ m ≤ 2 ^ (max n m + 1) := by
  have h1 : 2 ^ n ≤ 2 ^ (max n m) := Nat.pow_le_pow_right (by decide) (Nat.le_max_left _ _)
  have h2 : 2 ^ m ≤ 2 ^ (max n m) := Nat.pow_le_pow_right (by decide) (Nat.le_max_right _ _)
  rw [Nat.pow_succ]; omega
theorem Bn.add {n m : Nat} {i j : Int} (h : Bn n i) (k : Bn m j) : Bn (max n m + 1) (i + j) := by
  have := two_add n m
  unfold Bn at *
  omega
theorem Bn.sub {n m : Nat} {i j : Int} (h : Bn n i) (k : Bn m j) : Bn (max n m + 1) (i - j) := by
  have := two_add n m
  unfold Bn at *
  omega
theorem Bn.neg {n : Nat} {i : Int} (h : Bn n i) : Bn n (-i) := by unfold Bn at *; omega
theorem Bn.abs {n : Nat} {i : Int} (h : Bn n i) : Bn n (if i < 0 then -i else i) := by split <;> first | exact h.neg | exact h
theorem Bn.cm {n m : Nat} {i j : Int} (h : Bn n i) (k : Bn m j) (e : n + m ≤ 900000) : CMulW i j := wide_mul (a := n + 1) (b := m + 1) (h.mono (by omega)) (k.mono (by omega)) (by omega) (by omega) (by omega)
theorem Bn.cd {n : Nat} {i j : Int} (h : Bn n j) (hj : 0 < j) (e : n ≤ 8900) : CDivW i j := wide_div (b := n + 1) hj (h.mono (by omega)) (by omega) (by omega)
/-- // by any divisor but 0 -/
def CDivZ (_ j : Int) : Prop := j ≠ 0 ∧ j.natAbs.log2 < 9000
theorem op_fdivZ {X : L2.Cx} : OpR X (binaryOp .FloorDiv) (rI CDivZ fun i j => .int (i.fdiv j)) := opI fun i j _ _ _ _ _ hc q => PyProof.Rows.floordiv_int hc.1 q (.inl (PyProof.noPylong_of_log2 hc.2))
theorem Bn.cz {n : Nat} {i j : Int} (h : Bn n j) (hj : j ≠ 0) (e : n ≤ 8900) : CDivZ i j := ⟨hj, Nat.lt_of_lt_of_le (PySem.Flt.log2_lt_of (n := j.natAbs) (k := n + 1) (by omega) (h.mono (by omega))) (by omega)⟩
theorem Room.u65 {k : Nat} {A : Around} (r : Room k A) : A.units + 65 < cLine := by have := r.un; omega
/-! kinds -/
def D.isI : D → Bool
  | .int _ => true
  | _ => false
def D.isIB : D → Bool
  | .int _ => true
  | .bl _ => true
  | _ => false
def D.isB : D → Bool
  | .bl _ => true
  | _ => false
def D.isT : D → Bool
  | .tup _ => true
  | _ => false
def D.isL : D → Bool
  | .lst _ => true
  | .opq _ => true
  | _ => false
def D.isS : D → Bool
  | .str _ => true
  | _ => false
theorem kit_int (d : D) : kitB d.tyN "int" = some d.isIB := by cases d <;> (simp only [D.tyN, D.isIB]; decide +kernel)
theorem kit_bool (d : D) : kitB d.tyN "bool" = some d.isB := by cases d <;> (simp only [D.tyN, D.isB]; decide +kernel)
theorem kit_tuple (d : D) : kitB d.tyN "tuple" = some d.isT := by cases d <;> (simp only [D.tyN, D.isT]; decide +kernel)
theorem kit_list (d : D) : kitB d.tyN "list" = some d.isL := by cases d <;> (simp only [D.tyN, D.isL]; decide +kernel)
theorem kit_str (d : D) : kitB d.tyN "str" = some d.isS := by cases d <;> (simp only [D.tyN, D.isS]; decide +kernel)
/-! all, any of what is mapped -/
section
variable {X : L2.Cx} {Ψ : Str → Prop} {ρ : List Sl} {e : Expr} {pos p : Pos} {ds : List D} {t : D → Bool}
end
/-! comprehensions over typed lists -/
section
variable {X : L2.Cx} {ρ : List Sl} {Φ : D → Prop} {scope : Scope} {vs : List Nat} {tg elt c : Expr} {α : Type}
end
/-! ### is, is not: None, True, False -/
section
variable {X : L2.Cx} {Ψ : Str → Prop} {ρ : List Sl} {Θ : Bool → Prop} {a : Expr} {pos p : Pos} {j : Nat} {d : D}
def D.isN : D → Bool
  | .non => true
  | _ => false
theorem Rp.isN {K : PySem.W.Frag} {H : Hp} {v : V} (h : Rp K H v d) : decide (v = V.non) = d.isN := by
  cases h with
  | non => rfl
  | _ => exact decide_eq_false (fun e => nomatch e)
theorem od_isN : OpD X (fun x y H Q => y = .non ∧ Q (.bl (decide (x = .non))) H) (fun x y Φ => y = .non ∧ Φ (.bl x.isN)) := fun Hi H x y v u Φ s h r1 r2 Q q => by
  obtain ⟨e, k⟩ := h
  subst e
  cases r2
  rw [r1.isN]
  exact ⟨rfl, q _ _ Hi H k (Gr.refl s) (.bl _)⟩
end
end G
namespace G
open PySem PySem.Spec L2
def Pt.d (p : Pt) : D := .tup [.int p.x, .int p.y, .int p.w]
def Sh.d (s : Sh) : D := .tup [.int s.t, .int s.b]
/-- a point within bounds -/
structure Ok (n : Nat) (p : Pt) : Prop where
  x : Bn n p.x
  y : Bn n p.y
  w : Bn n p.w
  pos : 0 < p.w
structure SOk (n : Nat) (s : Sh) : Prop where
  t : Bn n s.t
  b : Bn n s.b
  pos : 0 < s.b
theorem Bn.g3 {n : Nat} {z a b w : Int} (h : Bn n z) : Bn n (z / g3 a b w) := Nat.lt_of_le_of_lt (Int.natAbs_ediv_le_natAbs z _) h
theorem low_ok {n m l : Nat} {a b w : Int} (h1 : Bn n a) (h2 : Bn m b) (h3 : Bn l w) (hw : w ≠ 0) : Ok (max n (max m l)) (low a b w) :=
  ⟨(h1.g3 : Bn n _).mono (Nat.le_max_left _ _), (h2.g3 : Bn m _).mono (Nat.le_trans (Nat.le_max_left _ _) (Nat.le_max_right _ _)), (h3.g3 : Bn l _).mono (Nat.le_trans (Nat.le_max_right _ _) (Nat.le_max_right _ _)), low_w_pos hw⟩
theorem Ok.mono {n m : Nat} {p : Pt} (h : Ok n p) (e : n ≤ m) : Ok m p := ⟨h.x.mono e, h.y.mono e, h.w.mono e, h.pos⟩
theorem Ok.nz {n : Nat} {p : Pt} (h : Ok n p) : p.w ≠ 0 := by have := h.pos; omega
theorem Ok.pp {n m : Nat} {p q : Pt} (h : Ok n p) (k : Ok m q) : p.w * q.w ≠ 0 := mulnz h.nz k.nz
theorem plus_ok {n m : Nat} {p q : Pt} (h : Ok n p) (k : Ok m q) : Ok (n + m + 1) (plus p q) := (low_ok ((h.x.mul k.w).add (k.x.mul h.w)) ((h.y.mul k.w).add (k.y.mul h.w)) (h.w.mul k.w) (h.pp k)).mono (by omega)
theorem minus_ok {n m : Nat} {p q : Pt} (h : Ok n p) (k : Ok m q) : Ok (n + m + 1) (minus p q) := (low_ok ((h.x.mul k.w).sub (k.x.mul h.w)) ((h.y.mul k.w).sub (k.y.mul h.w)) (h.w.mul k.w) (h.pp k)).mono (by omega)
theorem times_ok {n m : Nat} {p q : Pt} (h : Ok n p) (k : Ok m q) : Ok (n + m + 1) (times p q) := (low_ok ((h.x.mul k.x).sub (h.y.mul k.y)) ((h.x.mul k.y).add (h.y.mul k.x)) (h.w.mul k.w) (h.pp k)).mono (by omega)
theorem flipped_ok {n : Nat} {p : Pt} (h : Ok n p) : Ok n (flipped p) := ⟨h.x, h.y.neg, h.w, h.pos⟩
theorem shr_ok {n m : Nat} {a w : Int} (h1 : Bn n a) (h3 : Bn m w) (hw : w ≠ 0) : SOk (max n m) (shr a w) := ⟨(h1.g3 : Bn n _).mono (Nat.le_max_left _ _), (h3.g3 : Bn m _).mono (Nat.le_max_right _ _), low_w_pos hw⟩
theorem SOk.mono {n m : Nat} {s : Sh} (h : SOk n s) (e : n ≤ m) : SOk m s := ⟨h.t.mono e, h.b.mono e, h.pos⟩
theorem size_ok {n : Nat} {p : Pt} (h : Ok n p) : SOk (2 * n + 1) (size p) := (shr_ok ((h.x.mul h.x).add (h.y.mul h.y)) (h.w.mul h.w) (h.pp h)).mono (by omega)
theorem bn_gcd {n : Nat} {a b : Int} (h : Bn n b) (hb : b ≠ 0) : Bn n (Int.gcd a b : Int) := by
  unfold Bn at *
  have := Int.gcd_le_natAbs_right a hb
  omega
theorem bn_g3 {n : Nat} {a b w : Int} (h : Bn n w) (hw : w ≠ 0) : Bn n (g3 a b w) := by
  have := bn_gcd (a := (Int.gcd a b : Int)) h hw
  unfold g3; split
  · exact this
  · exact this.neg
/-! ### == of points and shares -/
theorem deq_int (i j : Int) : deq (.int i) (.int j) = decide (i = j) := by
  show PyData.eqv (.int i) (.int j) = _
  unfold PyData.eqv
  by_cases h : i = j
  · subst h; simp
  · rw [decide_eq_false h]; simpa using h
theorem deq_tup (a b : List D) : deq (.tup a) (.tup b) = PyData.eqvAll (D.pyA a) (D.pyA b) := by
  show PyData.eqv (.tuple _) (.tuple _) = _
  unfold PyData.eqv; rfl
theorem deq_lst (a b : List D) : deq (.lst a) (.lst b) = PyData.eqvAll (D.pyA a) (D.pyA b) := by
  show PyData.eqv (.list _) (.list _) = _
  unfold PyData.eqv; rfl
theorem eqvA_cons (a b : D) (as bs : List D) : PyData.eqvAll (D.pyA (a :: as)) (D.pyA (b :: bs)) = (deq a b && PyData.eqvAll (D.pyA as) (D.pyA bs)) := by
  show PyData.eqvAll (_ :: _) (_ :: _) = _
  rw [PyData.eqvAll]; rfl
theorem eqvA_nil : PyData.eqvAll (D.pyA []) (D.pyA []) = true := by
  show PyData.eqvAll [] [] = true
  rw [PyData.eqvAll]
theorem deq_pt (p q : Pt) : deq p.d q.d = decide (p = q) := by
  unfold Pt.d
  rw [deq_tup, eqvA_cons, eqvA_cons, eqvA_cons, eqvA_nil, deq_int, deq_int, deq_int]
  cases p; cases q
  simp [Bool.and_true]
theorem deq_sh (p q : Sh) : deq p.d q.d = decide (p = q) := by
  unfold Sh.d
  rw [deq_tup, eqvA_cons, eqvA_cons, eqvA_nil, deq_int, deq_int]
  cases p; cases q
  simp [Bool.and_true]
theorem shp_pt (n : Nat) (p : Pt) : D.shp (n + 1) p.d = true := by unfold Pt.d; rw [shp_tup]; rfl
theorem shp_sh (n : Nat) (p : Sh) : D.shp (n + 1) p.d = true := by unfold Sh.d; rw [shp_tup]; rfl
end G
namespace G
open PySem PySem.Spec L2
/-! ### things of any kind -/
mutual
/-- all numbers within bounds -/
def Db (n : Nat) : D → Prop
  | .int i => Bn n i
  | .lst xs => DbA n xs
  | .tup xs => DbA n xs
  | _ => True
def DbA (n : Nat) : List D → Prop
  | [] => True
  | d :: ds => Db n d ∧ DbA n ds
end
theorem DbA.mem {n : Nat} : ∀ {ds : List D} {d : D}, DbA n ds → d ∈ ds → Db n d
  | x :: xs, d, h, hm => by
    rcases List.mem_cons.mp hm with rfl | hm
    · exact h.1
    · exact DbA.mem h.2 hm
theorem shp_mem {n : Nat} : ∀ {ds : List D} {d : D}, D.shpA n ds = true → d ∈ ds → D.shp n d = true
  | x :: xs, d, h, hm => by
    rw [shpA_cons, Bool.and_eq_true] at h
    rcases List.mem_cons.mp hm with rfl | hm
    · exact h.1
    · exact shp_mem h.2 hm
theorem shp_tupA {n : Nat} {ds : List D} (h : D.shp n (.tup ds) = true) : D.shpA n ds = true := by
  obtain ⟨m, rfl, h'⟩ := shp_inv (.inr h)
  have up : ∀ (ds : List D) (m : Nat), D.shpA m ds = true → D.shpA (m + 1) ds = true := by
    intro ds
    suffices H : (∀ (d : D) (m : Nat), D.shp m d = true → D.shp (m + 1) d = true) from fun m h => shpA_all fun d hd => H d m (shp_mem h hd)
    intro d
    induction d using D.rec (motive_2 := fun ds => ∀ m, D.shpA m ds = true → D.shpA (m + 1) ds = true) with
    | non => intro m h; rfl
    | bl b => intro m h; rfl
    | int i => intro m h; rfl
    | str x => intro m h; exact h
    | opq n => intro m h; exact h
    | dct ks vs _ _ => intro m h; exact h
    | exc x => intro m h; exact h
    | obj n ks vs _ => intro m h; exact h
    | lst xs ih =>
      intro m h
      obtain ⟨m', rfl, h'⟩ := shp_inv (.inl h)
      rw [shp_lst]; exact ih m' h'
    | tup xs ih =>
      intro m h
      obtain ⟨m', rfl, h'⟩ := shp_inv (.inr h)
      rw [shp_tup]; exact ih m' h'
    | nil => rfl
    | cons d ds h1 h2 =>
      rename_i mm hh
      rw [shpA_cons, Bool.and_eq_true] at hh ⊢
      exact ⟨h1 _ hh.1, h2 _ hh.2⟩
  exact up ds m h'
def isWh (d : D) (lo hi : Int) : Bool := match d with
  | .int i => decide (lo ≤ i) && decide (i ≤ hi)
  | _ => false
def isPt (d : D) : Bool := match d with
  | .tup [.int x, .int y, .int w] => decide (0 < w) && decide ((Int.gcd (Int.gcd x y) w : Int) = 1)
  | _ => false
theorem isPt_d (p : Pt) : isPt p.d = decide (Norm p) := by
  show (decide (0 < p.w) && decide ((Int.gcd (Int.gcd p.x p.y) p.w : Int) = 1)) = _
  unfold Norm
  rw [← Bool.decide_and]
  congr 1
  apply propext
  constructor
  · rintro ⟨a, b⟩; exact ⟨a, by omega⟩
  · rintro ⟨a, b⟩; exact ⟨a, by omega⟩
theorem isPt_yes {p : Pt} (h : Norm p) : isPt p.d = true := by rw [isPt_d]; exact decide_eq_true h
theorem isPt_inv {d : D} (h : isPt d = true) : ∃ p : Pt, d = p.d ∧ Norm p := by
  unfold isPt at h
  split at h
  · rename_i x y w
    exact ⟨⟨x, y, w⟩, rfl, by
      rw [Bool.and_eq_true, decide_eq_true_eq, decide_eq_true_eq] at h
      exact ⟨h.1, by have := h.2; show Int.gcd (Int.gcd x y) w = 1; omega⟩⟩
  · cases h
theorem Norm.ok {n : Nat} {p : Pt} (h : Norm p) (b : Db n p.d) : Ok n p := ⟨b.1, b.2.1, b.2.2.1, h.1⟩
theorem Ok.db {n : Nat} {p : Pt} (h : Ok n p) : Db n p.d := ⟨h.x, h.y, h.w, trivial⟩
/-! ### motions -/
structure Mo where
  t : Pt
  s : Pt
  f : Int
deriving DecidableEq
def Mo.d (m : Mo) : D := .tup [m.t.d, m.s.d, .int m.f]
def still : Mo := ⟨⟨1, 0, 1⟩, ⟨0, 0, 1⟩, 0⟩
/-- a motion, within bounds -/
structure MOk (n : Nat) (m : Mo) : Prop where
  t : Ok n m.t
  s : Ok n m.s
  tn : Norm m.t
  sn : Norm m.s
  one : size m.t = ⟨1, 1⟩
  f : m.f = 0 ∨ m.f = 1
def isMo (d : D) : Bool := match d with
  | .tup [a, b, c] => isPt a && (isPt b && (isWh c 0 1 && match a with
    | .tup [.int x, .int y, .int w] => decide (size ⟨x, y, w⟩ = ⟨1, 1⟩)
    | _ => false))
  | _ => false
theorem isMo_yes {n : Nat} {m : Mo} (h : MOk n m) : isMo m.d = true := by
  show (isPt m.t.d && (isPt m.s.d && (isWh (.int m.f) 0 1 && decide (size m.t = ⟨1, 1⟩)))) = true
  rw [isPt_yes h.tn, isPt_yes h.sn, decide_eq_true h.one]
  rcases h.f with e | e <;> rw [e] <;> rfl
theorem MOk.db {n : Nat} {m : Mo} (h : MOk n m) : Db n m.d := ⟨h.t.db, h.s.db, by
  show Bn n m.f
  have : 2 ^ n ≥ 2 := by
    have h1 := h.t.w
    have h2 := h.t.pos
    have h3 : Bn n m.t.w := h1
    unfold Bn at h3
    by_cases hn : n = 0
    · subst hn; omega
    · have : 2 ^ 1 ≤ 2 ^ n := Nat.pow_le_pow_right (by decide) (by omega)
      omega
  unfold Bn
  rcases h.f with e | e <;> rw [e] <;> omega, trivial⟩
theorem MOk.mono {n k : Nat} {m : Mo} (h : MOk n m) (e : n ≤ k) : MOk k m := ⟨h.t.mono e, h.s.mono e, h.tn, h.sn, h.one, h.f⟩
theorem shp_mo (n : Nat) (m : Mo) : D.shp (n + 2) m.d = true := by
  unfold Mo.d; rw [shp_tup, shpA_cons, shpA_cons, shpA_cons, shp_pt, shp_pt]; rfl
theorem deq_mo (m k : Mo) : deq m.d k.d = decide (m = k) := by
  unfold Mo.d
  rw [deq_tup, eqvA_cons, eqvA_cons, eqvA_cons, eqvA_nil, deq_pt, deq_pt, deq_int]
  cases m; cases k
  simp [Bool.and_true]
theorem still_ok : MOk 64 still := ⟨⟨by unfold Bn; decide, by unfold Bn; decide, by unfold Bn; decide, by decide⟩, ⟨by unfold Bn; decide, by unfold Bn; decide, by unfold Bn; decide, by decide⟩, ⟨by decide, by decide⟩, ⟨by decide, by decide⟩, by decide, .inl rfl⟩
/-- its turn has length 1 -/
theorem MOk.unit {n : Nat} {m : Mo} (h : MOk n m) : m.t.re * m.t.re + m.t.im * m.t.im = 1 := by
  have e := size_val h.t.nz
  rw [h.one] at e
  rw [← e]
  show ((1 : Int) : Rat) / ((1 : Int) : Rat) = 1
  grind
theorem size_one {p : Pt} (h : p.w ≠ 0) (e : p.re * p.re + p.im * p.im = 1) : size p = ⟨1, 1⟩ := sh_inj (size_norm h) ⟨by decide, by decide⟩ (by rw [size_val h, e]; show 1 = ((1 : Int) : Rat) / ((1 : Int) : Rat); grind)
/-! what a motion does -/
def ledBy (m : Mo) (p : Pt) : Pt := plus (times m.t (if m.f = 1 then flipped p else p)) m.s
def joined (m k : Mo) : Mo := ⟨times k.t (if k.f = 1 then flipped m.t else m.t), ledBy k m.s, (m.f + k.f) % 2⟩
def backOf (m : Mo) : Mo := if m.f = 1 then ⟨m.t, minus ⟨0, 0, 1⟩ (times m.t (flipped m.s)), 1⟩ else ⟨flipped m.t, minus ⟨0, 0, 1⟩ (times (flipped m.t) m.s), 0⟩
def gap (p q : Pt) : Sh := size (minus p q)
def fl (f : Int) (p : Pt) : Pt := if f = 1 then flipped p else p
theorem fl_ok {n : Nat} {p : Pt} {f : Int} (h : Ok n p) : Ok n (if f = 1 then flipped p else p) := by split; exact flipped_ok h; exact h
theorem fl_re {f : Int} {p : Pt} : (if f = 1 then flipped p else p).re = p.re := by split <;> rfl
theorem fl_im {f : Int} {p : Pt} : (if f = 1 then flipped p else p).im = if f = 1 then -p.im else p.im := by split; exact flipped_im; rfl
theorem ledBy_ok {n k : Nat} {m : Mo} {p : Pt} (h : MOk n m) (hp : Ok k p) : Ok (2 * n + k + 2) (ledBy m p) := (plus_ok (times_ok h.t (fl_ok hp)) h.s).mono (by omega)
theorem ledBy_norm {n k : Nat} {m : Mo} {p : Pt} (h : MOk n m) (hp : Ok k p) : Norm (ledBy m p) := plus_norm (times_ok h.t (fl_ok hp)).nz h.s.nz
theorem ledBy_re {n k : Nat} {m : Mo} {p : Pt} (h : MOk n m) (hp : Ok k p) : (ledBy m p).re = m.t.re * p.re - m.t.im * (if m.f = 1 then -p.im else p.im) + m.s.re := by
  unfold ledBy
  rw [plus_re (times_ok h.t (fl_ok hp)).nz h.s.nz, times_re h.t.nz (fl_ok hp).nz, fl_re, fl_im]
theorem ledBy_im {n k : Nat} {m : Mo} {p : Pt} (h : MOk n m) (hp : Ok k p) : (ledBy m p).im = m.t.re * (if m.f = 1 then -p.im else p.im) + m.t.im * p.re + m.s.im := by
  unfold ledBy
  rw [plus_im (times_ok h.t (fl_ok hp)).nz h.s.nz, times_im h.t.nz (fl_ok hp).nz, fl_re, fl_im]
theorem joined_ok {n k : Nat} {m l : Mo} (h : MOk n m) (hl : MOk k l) : MOk (2 * k + n + 2) (joined m l) :=
  ⟨(times_ok hl.t (fl_ok h.t)).mono (by omega), (ledBy_ok hl h.s).mono (by omega), times_norm hl.t.nz (fl_ok h.t).nz, ledBy_norm hl h.s, size_one (times_ok hl.t (fl_ok h.t)).nz (by
    show (times l.t _).re * (times l.t _).re + (times l.t _).im * (times l.t _).im = 1
    rw [times_re hl.t.nz (fl_ok h.t).nz, times_im hl.t.nz (fl_ok h.t).nz, fl_re, fl_im]
    have h1 := h.unit; have h2 := hl.unit
    split <;> grind), by show (m.f + l.f) % 2 = 0 ∨ (m.f + l.f) % 2 = 1; omega⟩
theorem zero_ok {n : Nat} (h : 0 < n) : Ok n ⟨0, 0, 1⟩ := ⟨by unfold Bn; exact Nat.pow_pos (by decide), by unfold Bn; exact Nat.pow_pos (by decide), by unfold Bn; exact Nat.one_lt_pow (by omega) (by decide), by decide⟩
theorem backOf_ok {n : Nat} {m : Mo} (h : MOk n m) : MOk (2 * n + 3) (backOf m) := by
  have z : Ok 1 ⟨0, 0, 1⟩ := zero_ok (by decide)
  unfold backOf
  split
  · exact ⟨h.t.mono (by omega), (minus_ok z (times_ok h.t (flipped_ok h.s))).mono (by omega), h.tn, minus_norm z.nz (times_ok h.t (flipped_ok h.s)).nz, h.one, .inr rfl⟩
  · refine ⟨(flipped_ok h.t).mono (by omega), (minus_ok z (times_ok (flipped_ok h.t) h.s)).mono (by omega), flipped_norm h.tn, minus_norm z.nz (times_ok (flipped_ok h.t) h.s).nz, size_one (flipped_ok h.t).nz ?_, .inl rfl⟩
    show (flipped m.t).re * (flipped m.t).re + (flipped m.t).im * (flipped m.t).im = 1
    rw [flipped_re, flipped_im]
    have h1 := h.unit
    grind
theorem gap_ok {n m : Nat} {p q : Pt} (h : Ok n p) (k : Ok m q) : SOk (2 * n + 2 * m + 3) (gap p q) := (size_ok (minus_ok h k)).mono (by omega)
theorem gap_norm {n m : Nat} {p q : Pt} (h : Ok n p) (k : Ok m q) : (gap p q).Norm := size_norm (minus_ok h k).nz
theorem gap_val {n m : Nat} {p q : Pt} (h : Ok n p) (k : Ok m q) : (gap p q).val = (p.re - q.re) * (p.re - q.re) + (p.im - q.im) * (p.im - q.im) := by
  unfold gap; rw [size_val (minus_ok h k).nz, minus_re h.nz k.nz, minus_im h.nz k.nz]
/-- equal motions -/
theorem mo_inj {n k : Nat} {m l : Mo} (h : MOk n m) (hl : MOk k l) (h1 : m.t.re = l.t.re) (h2 : m.t.im = l.t.im) (h3 : m.s.re = l.s.re) (h4 : m.s.im = l.s.im) (h5 : m.f = l.f) : m = l := by
  have e1 := val_inj h.tn hl.tn h1 h2
  have e2 := val_inj h.sn hl.sn h3 h4
  cases m; cases l
  simp only at e1 e2 h5
  rw [e1, e2, h5]
end G
namespace G
theorem plus_norm' {n m : Nat} {p q : Pt} (h : Ok n p) (k : Ok m q) : Norm (plus p q) := plus_norm h.nz k.nz
theorem minus_norm' {n m : Nat} {p q : Pt} (h : Ok n p) (k : Ok m q) : Norm (minus p q) := minus_norm h.nz k.nz
theorem times_norm' {n m : Nat} {p q : Pt} (h : Ok n p) (k : Ok m q) : Norm (times p q) := times_norm h.nz k.nz
theorem shpA_pt1 (n : Nat) (p : Pt) : D.shpA (n + 1) [p.d] = true := by rw [shpA_cons, shp_pt]; rfl
theorem shpA_pt2 (n : Nat) (p q : Pt) : D.shpA (n + 1) [p.d, q.d] = true := by rw [shpA_cons, shpA_cons, shp_pt, shp_pt]; rfl
theorem pts1 {p : Pt} (h : Norm p) : [p.d].all isPt = true := by rw [List.all_cons, isPt_yes h]; rfl
theorem pts2 {p q : Pt} (h : Norm p) (k : Norm q) : [p.d, q.d].all isPt = true := by rw [List.all_cons, List.all_cons, isPt_yes h, isPt_yes k]; rfl
end G
namespace G
open PySem PySem.Spec L2
/-! ### the town: what the draws come from -/
theorem upd_swap {H : Hp} {a b : Addr} {o u : HO} (h : a ≠ b) : upd (upd H a o) b u = upd (upd H b u) a o := by
  funext c
  unfold upd
  by_cases h1 : c = b
  · by_cases h2 : c = a
    · exact absurd (h2.symm.trans h1) h
    · rw [if_pos h1, if_neg h2, if_pos h1]
  · rw [if_neg h1]
    by_cases h2 : c = a
    · rw [if_pos h2, if_pos h2]
    · rw [if_neg h2, if_neg h2, if_neg h1]
section
variable {X : L2.Cx} {pins : List (Addr × Obj)} {σ : L2.St} {H : Hp} {s : Shared} {t r : Addr}
theorem vals2 {its : List Value} {r : Addr} {k : Int} (h : Vals [.ref r, .int k] its) : ∃ tk, its = [.ref r, .int k tk] := by
  cases h with
  | cons h1 h2 => cases h2 with
    | cons h2 h3 => cases h3; cases h1; obtain ⟨tk, rfl⟩ := h2; exact ⟨tk, rfl⟩
theorem town_in (I : Inv X pins σ H s) (ht : H t = some (.ext (townO t r))) (hr : H r = some (.ext (rowO r))) :
    t ≠ r ∧ ∃ (k : Int) (ns : List Int), ns ≠ [] ∧ ns.length ≤ sizeLine ∧ Inv X pins σ (upd (upd H t (.lst [.ref r, .int k])) r (.lst (ns.map V.int))) s := by
  obtain ⟨⟨k, tk, n, e1⟩, _, _⟩ := I.hok t _ ht
  obtain ⟨⟨ns, its, n2, hne, hlen, hv, e2⟩, _, _⟩ := I.hok r _ hr
  have htr : t ≠ r := fun e => by
    subst e
    rw [e1] at e2
    injection e2 with e2
    injection e2 with _ _ e2 _
    injection e2 with e2 _
    have e3 : its = [Value.ref t, Value.int k tk] := by simpa using congrArg Array.toList e2.symm
    subst e3
    cases ns with
    | nil => exact hne rfl
    | cons i ns => cases hv with | cons h1 _ => obtain ⟨_, h⟩ := h1; cases h
  refine ⟨htr, k, ns, hne, hlen, ?_⟩
  have I1 : Inv X pins σ (upd H t (.lst [.ref r, .int k])) s := I.write (h' := s.heap) (t' := s.toks) (by rw [ht]; trivial) (.inl rfl) (fun _ _ _ e => e) ⟨_, e1⟩
    ⟨by show 2 ≤ sizeLine; decide, [.ref r, .int k tk], n, .cons rfl (.cons ⟨tk, rfl⟩ .nil), e1⟩
  exact I1.write (h' := s.heap) (t' := s.toks) (by rw [upd_ne (Ne.symm htr), hr]; trivial) (.inl rfl) (fun _ _ _ e => e) ⟨_, e2⟩ ⟨by simpa using hlen, its, n2, hv, e2⟩
theorem town_out {k : Int} {ns : List Int} (I : Inv X pins σ H s) (htr : t ≠ r) (ht : H t = some (.lst [.ref r, .int k])) (hr : H r = some (.lst (ns.map V.int))) (hne : ns ≠ []) :
    Inv X pins σ (upd (upd H t (.ext (townO t r))) r (.ext (rowO r))) s := by
  obtain ⟨z1, its1, n1, hv1, e1⟩ := I.hok t _ ht
  obtain ⟨z2, its, n2, hv, e2⟩ := I.hok r _ hr
  obtain ⟨tk, rfl⟩ := vals2 hv1
  have I1 : Inv X pins σ (upd H t (.ext (townO t r))) s := I.write (h' := s.heap) (t' := s.toks) (by rw [ht]; trivial) (.inl rfl) (fun _ _ _ e => e) ⟨_, e1⟩
    ⟨⟨k, tk, n1, e1⟩, ⟨_, e1⟩, fun h1 h2 ⟨k, tk, n, e⟩ st => ⟨k, tk, n, st _ e⟩⟩
  exact I1.write (h' := s.heap) (t' := s.toks) (by rw [upd_ne (Ne.symm htr), hr]; trivial) (.inl rfl) (fun _ _ _ e => e) ⟨_, e2⟩
    ⟨⟨ns, its, n2, hne, by simpa using z2, hv, e2⟩, ⟨_, e2⟩, fun h1 h2 ⟨ns, its, n, a, b, c, e⟩ st => ⟨ns, its, n, a, b, c, st _ e⟩⟩
end
/-- what a draw ends in -/
abbrev DrawEnd (t r : Addr) (c : Int) (H : Hp) : Ends := { nx := fun _ _ => False, rt := fun v H'' => ∃ (i k' : Int) (ns' : List Int), v = .int i ∧ 0 ≤ i ∧ i < c ∧ ns' ≠ [] ∧ H'' = upd (upd H t (.lst [.ref r, .int k'])) r (.lst (ns'.map V.int)) }
/-- a draw's body -/
theorem qs_draw {X : L2.Cx} {Ψ : Str → Prop} {body : List Stmt} {R : Po} {c : Int} (hk : ∀ i : Int, 0 ≤ i → i < c → R.rt (.int i))
    (h : ∀ (H : Hp) (t r : Addr) (k : Int) (ns : List Int) (x2 x3 x4 x5 : Option V), t ≠ r → ns ≠ [] → H t = some (.lst [.ref r, .int k]) → H r = some (.lst (ns.map V.int)) → wSs X body (DrawEnd t r c H) [some (.ref t), some (.int c), x2, x3, x4, x5] H) :
    QS X Ψ body [.dat (.opq 0), .dat (.int c), .emp, .emp, .emp, .emp] R := fun Bi B Hi H σ Dn W tk g S rb N pins s I => by
  obtain ⟨v0, e0, r0⟩ := S.dat (i := 0) rfl
  obtain ⟨v1, e1, r1⟩ := S.dat (i := 1) rfl
  cases r1
  obtain ⟨t, r, rfl, ht, hr⟩ := r0.town_inv
  · skip
    have ht' := S.sub _ _ ht
    have hr' := S.sub _ _ hr
    obtain ⟨htr, k, ns, hne, hlen, I2⟩ := town_in I ht' hr'
    have hl : σ.length = 6 := S.len
    match σ, hl, e0, e1, I2 with
    | [y0, y1, x2, x3, x4, x5], _, e0, e1, I2 =>
      cases e0; cases e1
      refine thn (h _ t r k ns x2 x3 x4 x5 htr hne (by rw [upd_ne htr, upd_same]) upd_same pins s I2) fun f s' q => ?_
      cases f with
      | ret u =>
        obtain ⟨v, σ', H', I', rv, i, k', ns', rfl, h0, h1, hne', rfl⟩ := q
        have J := town_out I' htr (k := k') (ns := ns') (by rw [upd_ne htr, upd_same]) upd_same hne'
        have e : upd (upd (upd (upd (upd (upd H t (.lst [.ref r, .int k])) r (.lst (ns.map V.int))) t (.lst [.ref r, .int k'])) r (.lst (ns'.map V.int))) t (.ext (townO t r))) r (.ext (rowO r)) = H := by
          funext b
          unfold upd
          by_cases hb : b = r
          · rw [if_pos hb, hb]; exact hr'.symm
          · rw [if_neg hb]
            by_cases hb2 : b = t
            · rw [if_pos hb2, hb2]; exact ht'.symm
            · simp [hb, hb2]
        rw [e] at J
        exact ⟨.int i, σ', H, J, rv, N.rt _ (.int i) Hi H (hk i h0 h1) g (.int i)⟩
      | next => obtain ⟨_, _, _, q⟩ := q; exact q.elim
      | brk => obtain ⟨_, _, _, q⟩ := q; exact q.elim
      | cont => obtain ⟨_, _, _, q⟩ := q; exact q.elim
/-- what the town's making ends in -/
abbrev TownEnd (H : Hp) : Ends := { nx := fun _ _ => False, rt := fun v H'' => ∃ (Hx : Hp) (t r : Addr) (k : Int) (ns : List Int), Ex H Hx ∧ Hx r = none ∧ Hx t = none ∧ t ≠ r ∧ ns ≠ [] ∧ v = .ref t ∧ H'' = upd (upd Hx r (.lst (ns.map V.int))) t (.lst [.ref r, .int k]) }
theorem qs_town {X : L2.Cx} {Ψ : Str → Prop} {body : List Stmt} {R : Po} (hk : R.rt (.opq 0))
    (h : ∀ (H : Hp) (a : Addr) (ns : List Int), SqL X.K H a (ns.map V.int) → ns.length ≤ 63 → wSs X body (TownEnd H) [some (.ref a)] H) : QS X Ψ body [.dat (.opq 1)] R := fun Bi B Hi H σ Dn W tk g S rb N pins s I => by
  obtain ⟨v0, e0, r0⟩ := S.dat (i := 0) rfl
  obtain ⟨a, ns, rfl, hs, hn⟩ := r0.scr_inv
  · skip
    have hl : σ.length = 1 := S.len
    match σ, hl, e0, I with
    | [y0], _, e0, I =>
      cases e0
      refine thn (h H a ns (S.sub.l hs) hn pins s I) fun f s' q => ?_
      cases f with
      | ret u =>
        obtain ⟨v, σ', H', I', rv, Hx, t, r, k, ns', ex, hr, ht, htr, hne', rfl, rfl⟩ := q
        have J := town_out I' htr (k := k) (ns := ns') upd_same (by rw [upd_ne (Ne.symm htr), upd_same]) hne'
        have e : upd (upd (upd (upd Hx r (.lst (ns'.map V.int))) t (.lst [.ref r, .int k])) t (.ext (townO t r))) r (.ext (rowO r)) = upd (upd Hx r (.ext (rowO r))) t (.ext (townO t r)) := by
          rw [upd_upd, upd_swap htr, upd_upd]
        rw [e] at J
        have g1 : Gr Bi B Hi Hx := g.trans (Gr.out S.sub ex)
        have g2 := g1.trans (Gr.mk1 (o := .ext (rowO r)) g1.sub hr)
        have ht2 : upd Hx r (.ext (rowO r)) t = none := by rw [upd_ne htr]; exact ht
        have g3 := g2.trans (Gr.mk1 (o := .ext (townO t r)) g2.sub ht2)
        exact ⟨_, σ', _, J, rv, N.rt _ (.opq 0) _ _ hk g3 (.town upd_same (by rw [upd_ne (Ne.symm htr), upd_same]))⟩
      | next => obtain ⟨_, _, _, q⟩ := q; exact q.elim
      | brk => obtain ⟨_, _, _, q⟩ := q; exact q.elim
      | cont => obtain ⟨_, _, _, q⟩ := q; exact q.elim
/-- the cell that is looked at -/
theorem row_at {ns : List Int} (h : ns ≠ []) (k : Int) : ∃ cell : Int, atI (ns.map V.int) (k % (ns.length : Int)) = some (.int cell) ∧ ∃ j : Nat, ixN (ns.map V.int).length (k % (ns.length : Int)) = some j := by
  have hl : 0 < ns.length := List.length_pos_iff.mpr h
  have h1 : 0 ≤ k % (ns.length : Int) := Int.emod_nonneg _ (by omega)
  have h2 : k % (ns.length : Int) < (ns.length : Int) := Int.emod_lt_of_pos _ (by omega)
  have e : ixN (ns.map V.int).length (k % (ns.length : Int)) = some (k % (ns.length : Int)).toNat := by
    unfold ixN
    rw [List.length_map, if_pos h1, if_pos h2]
  refine ⟨ns[(k % (ns.length : Int)).toNat]'(by omega), ?_, _, e⟩
  unfold atI
  rw [e]
  show (ns.map V.int)[(k % (ns.length : Int)).toNat]? = _
  rw [List.getElem?_map, List.getElem?_eq_getElem (by omega)]
  rfl
end G
namespace G
open PySem PySem.Spec L2
end G
namespace G
open PySem PySem.Spec L2
/-! ### is True, is False -/
def D.isV (d : D) (k : Bool) : Bool := match d with
  | .bl b => b == k
  | _ => false
theorem Rp.isV {K : PySem.W.Frag} {H : Hp} {v : V} {d : D} (h : Rp K H v d) (k : Bool) : decide (v = V.bl k) = d.isV k := by
  cases h with
  | bl b => cases b <;> cases k <;> rfl
  | _ => exact decide_eq_false (fun e => nomatch e)
section
variable {X : L2.Cx} {Ψ : Str → Prop} {ρ : List Sl} {a : Expr} {pos p : Pos} {j : Nat} {d : D} {k : Bool}
end
end G
namespace G
/-! ### motions: plain laws -/
theorem still_re : (Pt.mk 1 0 1).re = 1 := by unfold Pt.re; grind
theorem still_im : (Pt.mk 1 0 1).im = 0 := by unfold Pt.im; grind
theorem zero_re : (Pt.mk 0 0 1).re = 0 := by unfold Pt.re; grind
theorem zero_im : (Pt.mk 0 0 1).im = 0 := by unfold Pt.im; grind
section
variable {n k j : Nat} {m l r : Mo} {p q : Pt}
theorem jt_re (h : MOk n m) (hl : MOk k l) : (joined m l).t.re = l.t.re * m.t.re - l.t.im * (if l.f = 1 then -m.t.im else m.t.im) := by
  show (times l.t (if l.f = 1 then flipped m.t else m.t)).re = _
  rw [times_re hl.t.nz (fl_ok h.t).nz, fl_re, fl_im]
theorem jt_im (h : MOk n m) (hl : MOk k l) : (joined m l).t.im = l.t.re * (if l.f = 1 then -m.t.im else m.t.im) + l.t.im * m.t.re := by
  show (times l.t (if l.f = 1 then flipped m.t else m.t)).im = _
  rw [times_im hl.t.nz (fl_ok h.t).nz, fl_re, fl_im]
theorem js_re (h : MOk n m) (hl : MOk k l) : (joined m l).s.re = l.t.re * m.s.re - l.t.im * (if l.f = 1 then -m.s.im else m.s.im) + l.s.re := ledBy_re hl h.s
theorem js_im (h : MOk n m) (hl : MOk k l) : (joined m l).s.im = l.t.re * (if l.f = 1 then -m.s.im else m.s.im) + l.t.im * m.s.re + l.s.im := ledBy_im hl h.s
theorem j_f : (joined m l).f = (m.f + l.f) % 2 := rfl
theorem b_f (h : MOk n m) : (backOf m).f = m.f := by unfold backOf; rcases h.f with e | e <;> simp [e]
theorem bt_re : (backOf m).t.re = m.t.re := by unfold backOf; split <;> first | rfl | exact flipped_re
theorem bt_im : (backOf m).t.im = if m.f = 1 then m.t.im else -m.t.im := by unfold backOf; split <;> first | rfl | exact flipped_im
theorem bs_re (h : MOk n m) : (backOf m).s.re = if m.f = 1 then -(m.t.re * m.s.re + m.t.im * m.s.im) else -(m.t.re * m.s.re + m.t.im * m.s.im) := by
  have z : Ok 1 ⟨0, 0, 1⟩ := zero_ok (by decide)
  unfold backOf
  split
  · rw [minus_re z.nz (times_ok h.t (flipped_ok h.s)).nz, times_re h.t.nz (flipped_ok h.s).nz, flipped_re, flipped_im, zero_re]; grind
  · rw [minus_re z.nz (times_ok (flipped_ok h.t) h.s).nz, times_re (flipped_ok h.t).nz h.s.nz, flipped_re, flipped_im, zero_re]; grind
theorem bs_im (h : MOk n m) : (backOf m).s.im = if m.f = 1 then m.t.re * m.s.im - m.t.im * m.s.re else m.t.im * m.s.re - m.t.re * m.s.im := by
  have z : Ok 1 ⟨0, 0, 1⟩ := zero_ok (by decide)
  unfold backOf
  split
  · rw [minus_im z.nz (times_ok h.t (flipped_ok h.s)).nz, times_im h.t.nz (flipped_ok h.s).nz, flipped_re, flipped_im, zero_im]; grind
  · rw [minus_im z.nz (times_ok (flipped_ok h.t) h.s).nz, times_im (flipped_ok h.t).nz h.s.nz, flipped_re, flipped_im, zero_im]; grind
theorem join_back (h : MOk n m) : joined m (backOf m) = still := by
  have hb := backOf_ok h
  have u := h.unit
  refine mo_inj (joined_ok h hb) still_ok ?_ ?_ ?_ ?_ ?_
  · rw [jt_re h hb, bt_re, bt_im, b_f h]; show _ = (Pt.mk 1 0 1).re; rw [still_re]; split <;> grind
  · rw [jt_im h hb, bt_re, bt_im, b_f h]; show _ = (Pt.mk 1 0 1).im; rw [still_im]; split <;> grind
  · rw [js_re h hb, bt_re, bt_im, bs_re h, b_f h]; show _ = (Pt.mk 0 0 1).re; rw [zero_re]; split <;> grind
  · rw [js_im h hb, bt_re, bt_im, bs_im h, b_f h]; show _ = (Pt.mk 0 0 1).im; rw [zero_im]; split <;> grind
  · rw [j_f, b_f h]; show _ = (0 : Int); rcases h.f with e | e <;> rw [e] <;> rfl
theorem back_join (h : MOk n m) : joined (backOf m) m = still := by
  have hb := backOf_ok h
  have u := h.unit
  refine mo_inj (joined_ok hb h) still_ok ?_ ?_ ?_ ?_ ?_
  · rw [jt_re hb h, bt_re, bt_im]; show _ = (Pt.mk 1 0 1).re; rw [still_re]; split <;> grind
  · rw [jt_im hb h, bt_re, bt_im]; show _ = (Pt.mk 1 0 1).im; rw [still_im]; split <;> grind
  · rw [js_re hb h, bs_re h, bs_im h]; show _ = (Pt.mk 0 0 1).re; rw [zero_re]; split <;> grind
  · rw [js_im hb h, bs_re h, bs_im h]; show _ = (Pt.mk 0 0 1).im; rw [zero_im]; split <;> grind
  · rw [j_f, b_f h]; show _ = (0 : Int); rcases h.f with e | e <;> rw [e] <;> rfl
theorem join_still (h : MOk n m) : joined m still = m := by
  refine mo_inj (joined_ok h still_ok) h ?_ ?_ ?_ ?_ ?_
  · rw [jt_re h still_ok]; show (Pt.mk 1 0 1).re * _ - (Pt.mk 1 0 1).im * _ = _; rw [still_re, still_im]; grind
  · rw [jt_im h still_ok, if_neg (by decide)]; show (Pt.mk 1 0 1).re * _ + (Pt.mk 1 0 1).im * _ = _; rw [still_re, still_im]; grind
  · rw [js_re h still_ok]; show (Pt.mk 1 0 1).re * _ - (Pt.mk 1 0 1).im * _ + (Pt.mk 0 0 1).re = _; rw [still_re, still_im, zero_re]; grind
  · rw [js_im h still_ok, if_neg (by decide)]; show (Pt.mk 1 0 1).re * _ + (Pt.mk 1 0 1).im * _ + (Pt.mk 0 0 1).im = _; rw [still_re, still_im, zero_im]; grind
  · rw [j_f]; show (m.f + 0) % 2 = _; rcases h.f with e | e <;> rw [e] <;> rfl
theorem still_join (h : MOk n m) : joined still m = m := by
  refine mo_inj (joined_ok still_ok h) h ?_ ?_ ?_ ?_ ?_
  · rw [jt_re still_ok h]; show _ * (Pt.mk 1 0 1).re - _ * (if _ then -(Pt.mk 1 0 1).im else (Pt.mk 1 0 1).im) = _; rw [still_re, still_im]; split <;> grind
  · rw [jt_im still_ok h]; show _ * (if _ then -(Pt.mk 1 0 1).im else (Pt.mk 1 0 1).im) + _ * (Pt.mk 1 0 1).re = _; rw [still_re, still_im]; split <;> grind
  · rw [js_re still_ok h]; show _ * (Pt.mk 0 0 1).re - _ * (if _ then -(Pt.mk 0 0 1).im else (Pt.mk 0 0 1).im) + _ = _; rw [zero_re, zero_im]; split <;> grind
  · rw [js_im still_ok h]; show _ * (if _ then -(Pt.mk 0 0 1).im else (Pt.mk 0 0 1).im) + _ * (Pt.mk 0 0 1).re + _ = _; rw [zero_re, zero_im]; split <;> grind
  · rw [j_f]; show (0 + m.f) % 2 = _; rcases h.f with e | e <;> rw [e] <;> rfl
theorem join_assoc (h : MOk n m) (hl : MOk k l) (hr : MOk j r) : joined (joined m l) r = joined m (joined l r) := by
  have h1 := joined_ok h hl
  have h2 := joined_ok hl hr
  refine mo_inj (joined_ok h1 hr) (joined_ok h h2) ?_ ?_ ?_ ?_ ?_
  · rw [jt_re h1 hr, jt_re h h2, jt_re h hl, jt_im h hl, jt_re hl hr, jt_im hl hr, j_f]
    rcases hl.f with e | e <;> rcases hr.f with e2 | e2 <;> simp [e, e2] <;> grind
  · rw [jt_im h1 hr, jt_im h h2, jt_re h hl, jt_im h hl, jt_re hl hr, jt_im hl hr, j_f]
    rcases hl.f with e | e <;> rcases hr.f with e2 | e2 <;> simp [e, e2] <;> grind
  · rw [js_re h1 hr, js_re h h2, js_re h hl, js_im h hl, jt_re hl hr, jt_im hl hr, js_re hl hr, j_f]
    rcases hl.f with e | e <;> rcases hr.f with e2 | e2 <;> simp [e, e2] <;> grind
  · rw [js_im h1 hr, js_im h h2, js_re h hl, js_im h hl, jt_re hl hr, jt_im hl hr, js_im hl hr, j_f]
    rcases hl.f with e | e <;> rcases hr.f with e2 | e2 <;> simp [e, e2] <;> grind
  · show ((m.f + l.f) % 2 + r.f) % 2 = (m.f + (l.f + r.f) % 2) % 2; omega
theorem led_gap (h : MOk n m) (hp : Ok j p) (hq : Ok k q) : gap (ledBy m p) (ledBy m q) = gap p q := by
  have h1 := ledBy_ok h hp
  have h2 := ledBy_ok h hq
  have u := h.unit
  refine sh_inj (gap_norm h1 h2) (gap_norm hp hq) ?_
  rw [gap_val h1 h2, gap_val hp hq, ledBy_re h hp, ledBy_re h hq, ledBy_im h hp, ledBy_im h hq]
  split <;> grind
theorem gap_swap (hp : Ok j p) (hq : Ok k q) : gap p q = gap q p := sh_inj (gap_norm hp hq) (gap_norm hq hp) (by rw [gap_val hp hq, gap_val hq hp]; grind)
end
end G
namespace G
open PySem PySem.Spec L2 in
theorem MOk.shp {n : Nat} {m : Mo} (_ : MOk n m) : D.shp 8 m.d = true := shp_mo 6 m
end G
namespace G
open PySem PySem.Spec L2
/-! ### the end -/
/-- .. for the law itself -/
theorem fnOk_of {P : Program} {w : World} {K : PySem.W.Frag} {mg : Str → Option Value} {base : Heap} {x : Str} {st : Stmt} {N ps : List Str} {k : Nat} {S : SpD} {f : Addr} {fd : FuncData}
    (F : FunD K x x (defArgs st) (defBody st) (defScope st) [] [] f fd) (hm : mg x = some (.ref f)) (Sc : FnScope N ps (defScope st)) (hn : ∀ ds Φ Ψ, S ds Φ Ψ → ds.length = ps.length)
    (hb : ∀ (kV doc pm : Value) (an : Option Addr) (cdv ct : Value) (us : List Value), us.length = ps.length → bindArgs (PySem.W.fnOf x x (defArgs st) (defBody st) (defScope st) .none kV doc pm an cdv ct) ⟨us, []⟩ = pure (ps.zip us))
    (body : ∀ (cdv : Value) (A : Around) (outer : List Env) (s : Shared) (H : Hp) (E : XK), Room k (A.deeper (PyProof.Rows.envOfC x (defScope st) s.heap.objs.size f cdv)) → ∀ ds Φ Ψ, S ds Φ Ψ →
      QS (cxOf (L2.CX P w) P w K mg base N x (defScope st) f cdv A outer s H E) Ψ (defBody st) (ds.map Sl.dat ++ List.replicate (N.length - ds.length) .emp) { nx := fun _ => Φ .non, rt := Φ }) :
    FnOk P w K mg base (L2.CX P w) (k + 1) f fd ps (spD K ps.length S) := by
  refine F.ok Sc (fun vs H Q E h => h.1) fun cdv A outer s H vs Q E hr h => ⟨_, pss_w, ?_⟩
  obtain ⟨_, Hi, ds, Φ, Ψ, sub, r, hS, hQ, hE⟩ := h
  exact body cdv A outer s H E hr ds Φ Ψ hS Hi H Hi H _ _ (fun cls d _ H' => E cls d H') (takes_of rfl rfl rfl rfl) (Gr.refl sub) (start_ok sub r) (fun y _ Hi' H' p q => hE y Hi' H' p q)
    ⟨fun ρ' Hi' H' σ' z g _ => hQ .non .non Hi' H' z g .non, fun v d Hi' H' z g r' => hQ v d Hi' H' z g r', fun _ _ _ _ z => z.elim, fun _ _ _ _ z => z.elim, fun _ _ _ _ _ _ z => z.elim⟩
/-- what the law promises: True, for each script -/
def spEnd (K : PySem.W.Frag) : Sp := fun vs H Q _ => ∃ (a : Addr) (ns : List Int), vs = [.ref a] ∧ SqL K H a (ns.map V.int) ∧ ns.length ≤ 63 ∧ ∀ H', Q (.bl true) H'
theorem fin_law {P : Program} {w : World} {K : PySem.W.Frag} {mg : Str → Option Value} {base : Heap} {k : Nat} {f : Addr} {fd : FuncData} {ps : List Str} {S : SpD}
    (F : FnOk P w K mg base (L2.CX P w) k f fd ps (spD K 1 S)) (hl : ps.length = 1) (hS : S [.opq 1] (fun z => z = .bl true) (fun _ => False)) : FnOk P w K mg base CX0 k f fd ps (spEnd K) := by
  refine ⟨fun vs H Q E h => ?_, fun A outer s H args us vs Q E hr he hb hv h => ?_⟩
  · obtain ⟨a, ns, rfl, _⟩ := h
    rw [hl]; rfl
  · obtain ⟨a, ns, rfl, hs, hn, hq⟩ := h
    refine codeAny_mono (F.run A outer s H args us [.ref a] Q (fun _ _ _ => False) hr he hb hv ⟨rfl, H, [.opq 1], _, _, Ex.refl _, .cons (.scr hs hn) .nil, hS, fun v d Hi' H' z _ r => ?_, fun x Hi' H' z _ => z.elim⟩) fun r s' q => ?_
    · subst z
      cases r
      exact hq H'
    · cases r with
      | ok fl => cases fl <;> exact q
      | error e =>
        obtain ⟨_, _, _, _, _, _, _, _, _, _, _, _, z⟩ := q
        exact z.elim
/-! constants of the text -/
mutual
def cB (K : PySem.W.Frag) : D → Value → Bool
  | .int i, .int j _ => decide (i = j)
  | .tup ds, .ref a => (match K.lookup a with
    | some ⟨.type c, _, .seq its _, _⟩ => decide (c = "tuple") && (decide (its.size ≤ sizeLine) && cBA K ds its.toList)
    | _ => false)
  | _, _ => false
def cBA (K : PySem.W.Frag) : List D → List Value → Bool
  | [], [] => true
  | d :: ds, u :: us => cB K d u && cBA K ds us
  | _, _ => false
end
mutual
theorem cB_ok {K : PySem.W.Frag} : ∀ (d : D) (u : Value), cB K d u = true → ∃ v, RelV v u ∧ ∀ H, Rp K H v d
  | .int i, u, h => by
    cases u with
    | int j t =>
      have e : i = j := of_decide_eq_true h
      exact ⟨.int i, ⟨t, by rw [e]⟩, fun H => .int i⟩
    | _ => cases h
  | .tup ds, u, h => by
    cases u with
    | ref a =>
      have h1 : (match K.lookup a with
        | some ⟨.type c, _, .seq its _, _⟩ => decide (c = "tuple") && (decide (its.size ≤ sizeLine) && cBA K ds its.toList)
        | _ => false) = true := h
      cases q : K.lookup a with
      | none => rw [q] at h1; cases h1
      | some o =>
        obtain ⟨oc, od, dt, osl⟩ := o
        rw [q] at h1
        cases oc with
        | type c =>
          cases dt with
          | seq its n =>
            have h2 : (decide (c = "tuple") && (decide (its.size ≤ sizeLine) && cBA K ds its.toList)) = true := h1
            rw [Bool.and_eq_true, Bool.and_eq_true] at h2
            obtain ⟨e1, e2, e3⟩ := h2
            obtain ⟨vs, hv, hr⟩ := cBA_ok ds its.toList e3
            exact ⟨.ref a, rfl, fun H => .tup (.inr ⟨_, its, n, q, congrArg Value.type (of_decide_eq_true e1), rfl, of_decide_eq_true e2, hv⟩) (hr H)⟩
          | _ => cases h1
        | _ => cases dt <;> cases h1
    | _ => cases h
  | .non, u, h => by cases u <;> cases h
  | .bl _, u, h => by cases u <;> cases h
  | .str _, u, h => by cases u <;> cases h
  | .lst _, u, h => by cases u <;> cases h
  | .opq _, u, h => by cases u <;> cases h
theorem cBA_ok {K : PySem.W.Frag} : ∀ (ds : List D) (us : List Value), cBA K ds us = true → ∃ vs, Vals vs us ∧ ∀ H, RpA K H vs ds
  | [], [], _ => ⟨[], .nil, fun _ => .nil⟩
  | [], _ :: _, h => by cases h
  | _ :: _, [], h => by cases h
  | d :: ds, u :: us, h => by
    have h' : (cB K d u && cBA K ds us) = true := h
    rw [Bool.and_eq_true] at h'
    obtain ⟨v, r, z⟩ := cB_ok d u h'.1
    obtain ⟨vs, rs, zs⟩ := cBA_ok ds us h'.2
    exact ⟨v :: vs, .cons r rs, fun H => .cons (z H) (zs H)⟩
end
/-- what K must say of the own exceptions -/
def clsV (K : PySem.W.Frag) (y : Str) : Value := if y = "ValueError" then .type "ValueError" else .ref (He.ga K y)
def subX (z y : Str) : Bool := decide (z = y) || decide (y = "OverError") || decide (y = "ValueError")
def excCB (K : PySem.W.Frag) (a : Addr) : Bool :=
  decide (PySem.W.findIn K (.ref a) "__getattribute__" = some (some (.builtin "BaseException.__getattribute__"))) && (decide (PySem.W.findIn K (.ref a) "__getattr__" = some none) && (decide (PySem.W.subIn K (.ref a) (.type "BaseException") = some true) && (PySem.W.hasDictIn K a &&
    (decide (PySem.W.findIn K (.ref a) "__class__" = some (some (.builtin "object.__class__"))) && (decide (PySem.W.specialIn K (.builtin "object.__class__") "__get__" = some (some (.builtin "getset_descriptor.__get__"))) && (decide (PySem.W.takesIn K (.builtin "object.__class__") = some true) && decide (PySem.W.mroIn K a (.type "object") = some true)))))))
def exQ (K : PySem.W.Frag) : Bool := excN.all fun z => excCB K (He.ga K z) && (decide (PySem.W.exmOne K (.ref (He.ga K z)) (.ref (He.ga K "OverError")) = some true) &&
  (excN ++ (["OverError", "ValueError"] : List Str)).all fun y => decide (PySem.W.kitOne K (.ref (He.ga K z)) (clsV K y) = some (subX z y)))
/-- the module's constants; the own exceptions -/
def csB1 (K : PySem.W.Frag) (q : Str × D) : Bool := match q.2 with
  | .exc _ => exQ K
  | d => cB K d (.ref (He.ga K q.1))
def csB (cs : List (Str × D)) (K : PySem.W.Frag) : Bool := cs.all (csB1 K)
abbrev AlG : Type := Bool × He.AlD
def obsG (cs : List (Str × D)) (fa : List He.Fa) (fn : List He.DefD) (K : PySem.W.Frag) : AlG := (csB cs K, He.obsD fa fn K)
def SaysG (cs : List (Str × D)) (fa : List He.Fa) (fn : List He.DefD) (K : PySem.W.Frag) : Prop := csB cs K = true ∧ He.SaysD fa fn K
section
variable {cs : List (Str × D)} {fa : List He.Fa} {fn : List He.DefD} {K : PySem.W.Frag} {h : Heap} {mg : Str → Option Value}
theorem exq_of (c : csB cs K = true) (i : Nat) {x : Str} {z : Str} (hi : cs[i]? = some (x, .exc z)) : exQ K = true := List.all_eq_true.mp c (x, .exc z) (List.mem_of_getElem? hi)
theorem exc_of (X : K.In h) (Gn : h.Ns mainGlobals mg) {x : Str} (c1 : (He.Fa.glo x).ok K = true) (c2 : (He.Fa.exc x).ok K = true) : ExcF K mg x := by
  obtain ⟨a, b, c, d⟩ := He.exc_ok c2
  exact ⟨He.glo_ok X Gn c1, a, b, c, d⟩
end
end G
namespace G
open PySem PySem.Spec L2
/-! ### is not True, is not False -/
section
variable {X : L2.Cx} {Ψ : Str → Prop} {ρ : List Sl} {Φ : D → Prop} {Θ : Bool → Prop} {R : Po} {a b e : Expr} {pos p p2 p3 : Pos} {j : Nat} {d d' : D} {k : Bool} {ds es : List D} {rest : List Stmt}
/-! ### tuples -/
theorem od_catT : OpD X (rCatA X.K) (fun x y Φ => ∃ ds es, x = .tup ds ∧ y = .tup es ∧ ds.length + es.length ≤ sizeLine ∧ Φ (.tup (ds ++ es))) := fun Hi H x y v u Φ s h r1 r2 Q q => by
  obtain ⟨ds, es, e1, e2, hz, k⟩ := h
  subst e1 e2
  cases r1 with
  | @tup a xs _ hs ha =>
    cases r2 with
    | @tup b ys _ hs' ha' =>
      refine ⟨a, b, xs, ys, rfl, rfl, s.t hs, s.t hs', by rw [ha.length, ha'.length]; exact hz, fun e => ?_, fun e1 e2 => ?_, fun e1 e2 p hp => q _ _ (upd Hi p _) _ k (Gr.mk1 s hp) ?_⟩
      · subst e
        cases ha
        exact q _ _ Hi H k (Gr.refl s) (.tup hs' ha')
      · subst e2
        cases ha'
        rw [List.append_nil] at k
        exact q _ _ Hi H k (Gr.refl s) (.tup hs ha)
      · exact .tup (SqT.of upd_same) ((ha.app ha').up (Ex.new (s.free hp)))
theorem RpA.flat {K : PySem.W.Frag} {H : Hp} : ∀ {ns : List Int} {vs : List V}, RpA K H vs (ns.map D.int) → vs = ns.map V.int := RpA.ints
theorem inV_ints (i : Int) (ns : List Int) : inV (.int i) (ns.map V.int) = decide (i ∈ ns) := by
  unfold inV
  rw [List.any_map]
  induction ns with
  | nil => rfl
  | cons n ns ih =>
    rw [List.any_cons, ih]
    show (eqV (.int n) (.int i) || _) = _
    have e : eqV (.int n) (.int i) = decide (i = n) := by
      show (n == i) = _
      by_cases h : n = i
      · subst h; simp
      · rw [decide_eq_false (fun e => h e.symm)]; simpa using h
    rw [e]
    by_cases h : i = n <;> simp [h]
theorem od_inT : OpD X (rIn X.K false) (fun x y Φ => ∃ (i : Int) (ns : List Int), x = .int i ∧ y = .tup (ns.map D.int) ∧ Φ (.bl (decide (i ∈ ns)))) := fun Hi H x y v u Φ s h r1 r2 Q q => by
  obtain ⟨i, ns, e1, e2, k⟩ := h
  subst e1 e2
  cases r1
  cases r2 with
  | tup hs ha =>
    have e := ha.ints
    subst e
    refine ⟨_, _, rfl, .inr (s.t hs), rfl, ?_, ?_⟩
    · rw [List.all_map]; exact List.all_eq_true.mpr fun _ _ => rfl
    · rw [inV_ints]; exact q _ _ Hi H k (Gr.refl s) (.bl _)
variable {i : Int} {ns : List Int}
/-- a, b, c = a list -/
theorem qg_lst {tgs : List Expr} {n : Nat} {ρ' : List Sl} (h : QGs X tgs ds ρ ρ') (hl : (assignEach tgs X.env).length = ds.length := by rfl) (hst : (assignEach tgs X.env).findIdx? (·.1) = none := by rfl) (hc : X.calm = true := by rfl) :
    QG X (.Tuple tgs n pos) (.lst ds) ρ ρ' := fun B Hi H σ v S r Q q => by
  obtain ⟨t, ht, hq⟩ := h
  cases r with
  | lst hs ha => exact wG.of (pg_unl (n := ds.length) hc ht hl hst) ⟨_, _, rfl, SqL.of (S.sub _ _ hs), ha.length, hq B Hi H σ _ S ha Q q⟩
/-! ### lists of one's own -/
theorem Gr.wr {Bi B Hi H : Hp} (g : Gr Bi B Hi H) {a : Addr} {o : HO} (hb : B a = none) (hi : Hi a = none) : Gr Bi B Hi (upd H a o) :=
  ⟨g.i, fun c u z => by rw [upd_ne (ne_of_none z hb)]; exact g.o c u z, fun c u z => by rw [upd_ne (ne_of_none z hi)]; exact g.sub c u z, g.new⟩
theorem Ex.wr {Hi H : Hp} (g : Ex Hi H) {a : Addr} {o : HO} (hi : Hi a = none) : Ex Hi (upd H a o) := fun c u z => by rw [upd_ne (ne_of_none z hi)]; exact g c u z
/-- x = [], a list that is changed -/
theorem qs_new (i : Nat) {x : Str} {lp : Pos} (h : QS X Ψ rest (ρ.set i (.lst [])) R) (hN : X.N.Nodup) (hi : X.N[i]? = some x := by rfl) (hx : Loc X.env.scope x := by first | exact Or.inl rfl | exact Or.inr rfl)
    (hs : swapsWith (.List [] lp) (some (.Name x p)) pos.line X.env = pure false := by rfl) (hf : X.fn x = true ∨ X.env.scope.names.lookup x = some .local := by first | exact .inl rfl | exact .inr rfl) : QS X Ψ (.Assign [.Name x p] (.List [] lp) pos :: rest) ρ R :=
  fun Bi B Hi H σ Dn W tk g S rb N => wSs.cons (ps_set hN hi hx (pe_lst pa_nil) hs hf) ⟨by show 0 ≤ sizeLine; decide, fun p hp =>
    h Bi B Hi (upd H p (.lst [])) (σ.set i (some (.ref p))) Dn W tk (g.trans (Gr.out g.sub (Ex.new hp))) (S.own1 g.o hp (show RpA X.K Hi [] [] from .nil)) rb N⟩
/-! ### what is of one's own is looked at -/
def D.flat : D → Bool
  | .non => true
  | .bl _ => true
  | .int _ => true
  | .str _ => true
  | _ => false
theorem Rp.flat {K : PySem.W.Frag} {H H' : Hp} {v : V} {d : D} (h : Rp K H v d) (f : d.flat = true) : Rp K H' v d := by
  cases h <;> first | (constructor; done) | cases f
theorem StOk.frz0 {K : PySem.W.Frag} {B Hi H : Hp} {σ : L2.St} {i : Nat} {c : Cl} {d : D} (S : StOk K B Hi H σ ρ) (hi : ρ[i]? = some (.cl c))
    (hd : ∀ a o Hj, ClOk K Hi a o c → Ex Hi Hj → Hj a = some o → Rp K Hj (V.ref a) d) : ∃ Hi', Ex Hi Hi' ∧ StOk K B Hi' H σ (ρ.set i (.dat d)) := by
  obtain ⟨a, o, e1, b1, n1, x1, r1⟩ := S.own hi
  have ex : Ex Hi (upd Hi a o) := Ex.new n1
  have sub : Ex (upd Hi a o) H := fun c u z => by
    by_cases h : c = a
    · subst h; rw [upd_same] at z; cases z; exact x1
    · rw [upd_ne h] at z; exact S.sub c u z
  have rd : Rp K (upd Hi a o) (V.ref a) d := hd a o _ r1 ex upd_same
  have key : StOk K B (upd Hi a o) H (σ.set i (some (V.ref a))) (ρ.set i (.dat d)) := by
    refine ⟨sub, by simp [S.len], at_set S.len rd fun j x s hj p q => ?_, sep_set S.sep S.len (fun h => nomatch h),
      S.mo.to ex (fun c u hc a1 a2 => ⟨by rw [upd_ne fun e => hc i _ hi (by rw [e]; exact e1)]; exact a1, a2⟩) S.len (List.getElem?_eq_some_iff.mp hi).1 (fun m e => nomatch e) fun f b e _ => nomatch e⟩
    have z := S.at_ j x s p q
    cases s with
    | emp => cases x <;> trivial
    | mo m => cases x <;> trivial
    | dat d =>
      cases x with
      | none => exact z
      | some v => exact Rp.up (show Rp K Hi v d from z) ex
    | cl f =>
      cases x with
      | none => exact z
      | some v =>
        obtain ⟨c, o2, ev, b2, n2, x2, r2⟩ := z
        subst ev
        have hc : c ≠ a := fun e => by subst e; exact hj (S.sep j i _ _ c q hi rfl rfl p e1)
        exact ⟨c, o2, rfl, b2, by rw [upd_ne hc]; exact n2, x2, r2.up ex⟩
  rw [set_same e1] at key
  exact ⟨upd Hi a o, ex, key⟩
abbrev Frz (c : Cl) (d : D) : Prop := ∀ (K : PySem.W.Frag) (Hi : Hp) (a : Addr) (o : HO) (Hj : Hp), ClOk K Hi a o c → Ex Hi Hj → Hj a = some o → Rp K Hj (.ref a) d
theorem qx_peek (i : Nat) {c : Cl} (hi : ρ[i]? = some (.cl c)) (hd : Frz c d) (h : QX X Ψ e (ρ.set i (.dat d)) fun z => z.flat = true ∧ Φ z) : QX X Ψ e ρ Φ := fun B Hi H σ W tk S rs Q q => by
  obtain ⟨Hi', ex, S'⟩ := S.frz0 hi (fun a o Hj => hd _ _ a o Hj)
  exact h B Hi' H σ W tk S' (fun x Hi2 H2 p g => rs x Hi H2 p (Gr.out S.sub g.o)) Q fun v d Hi2 H2 hz g r => q v d Hi H2 hz.2 (Gr.out S.sub g.o) (r.flat hz.1)
theorem qt_peek (i : Nat) {c : Cl} (hi : ρ[i]? = some (.cl c)) (hd : Frz c d) (h : QT X Ψ e (ρ.set i (.dat d)) Θ) : QT X Ψ e ρ Θ := fun B Hi H σ W tk S rs Q q => by
  obtain ⟨Hi', ex, S'⟩ := S.frz0 hi (fun a o Hj => hd _ _ a o Hj)
  exact h B Hi' H σ W tk S' (fun x Hi2 H2 p g => rs x Hi H2 p (Gr.out S.sub g.o)) Q fun b Hi2 H2 hz g => q b Hi H2 hz (Gr.out S.sub g.o)
end
end G
namespace G
open PySem PySem.Spec L2
/-! ### what stands written: numbers, texts, tuples and lists of such -/
def litS (f : Expr → Option D) (g : List Expr → Option (List D)) (e : Expr) : Option D := match e with
  | .Constant (.int i) _ _ => some (.int i)
  | .Constant (.bool b) _ _ => some (.bl b)
  | .Constant (.str x) _ _ => some (.str x)
  | .Constant .none _ _ => some .non
  | .BinOp a .Sub b _ => (match f a, f b with
    | some (.int i), some (.int j) => some (.int (i - j))
    | _, _ => none)
  | .Tuple es _ _ => if es.length ≤ 1000 then (match g es with
    | some ds => some (.tup ds)
    | none => none) else none
  | .List es _ => if es.length ≤ 1000 then (match g es with
    | some ds => some (.lst ds)
    | none => none) else none
  | _ => none
mutual
def litD : Nat → Expr → Option D
  | 0, _ => none
  | n + 1, e => litS (litD n) (litA n) e
def litA : Nat → List Expr → Option (List D)
  | _, [] => some []
  | 0, _ :: _ => none
  | n + 1, e :: es => match litD n e, litA n es with
    | some d, some ds => some (d :: ds)
    | _, _ => none
end
theorem litA_len : ∀ (n : Nat) (es : List Expr) (ds : List D), litA n es = some ds → ds.length = es.length
  | 0, [], ds, h => by
    rw [litA] at h
    cases h; rfl
  | _ + 1, [], ds, h => by
    rw [litA] at h
    cases h; rfl
  | 0, _ :: _, ds, h => by rw [litA] at h; cases h
  | n + 1, e :: es, ds, h => by
    rw [litA] at h
    split at h
    · rename_i d ds' h1 h2
      cases h
      simp [litA_len n es ds' h2]
    · cases h
section
variable {X : L2.Cx} {Ψ : Str → Prop} {ρ : List Sl}
theorem lit_nst {n : Nat} {e : Expr} {d : D} (h : litD n e = some d) : nst e = true := by
  cases n with
  | zero => rw [litD] at h; cases h
  | succ n => rw [litD] at h; cases e <;> first | rfl | cases h
mutual
theorem qe_litN : ∀ (n : Nat) (e : Expr) (d : D), litD n e = some d → QE X Ψ e ρ d
  | 0, e, d, h => by rw [litD] at h; cases h
  | n + 1, e, d, h => by
    rw [litD] at h
    unfold litS at h
    split at h
    · cases h; exact qi
    · cases h; exact qb
    · cases h; exact qs
    · cases h; exact qn
    · rename_i a b _
      split at h
      · rename_i i j h1 h2
        cases h
        exact qe_sub (qe_litN n a _ h1) (qe_litN n b _ h2)
      · cases h
    · rename_i es _ _
      split at h
      · rename_i hl
        split at h
        · rename_i ds h1
          cases h
          exact qe_tup (qe_litA n es ds h1) (by rw [litA_len n es ds h1]; omega)
        · cases h
      · cases h
    · rename_i es _
      split at h
      · rename_i hl
        split at h
        · rename_i ds h1
          cases h
          exact qe_lst (qe_litA n es ds h1) (by rw [litA_len n es ds h1]; omega)
        · cases h
      · cases h
    · cases h
theorem qe_litA : ∀ (n : Nat) (es : List Expr) (ds : List D), litA n es = some ds → QAs X Ψ es ρ ds
  | 0, [], ds, h => by rw [litA] at h; cases h; exact qas_nil
  | _ + 1, [], ds, h => by rw [litA] at h; cases h; exact qas_nil
  | 0, _ :: _, ds, h => by rw [litA] at h; cases h
  | n + 1, e :: es, ds, h => by
    rw [litA] at h
    split at h
    · rename_i d ds' h1 h2
      cases h
      exact qas_cons (qe_litN n e d h1) (qe_litA n es ds' h2) (se_of (lit_nst h1))
    · cases h
end
theorem QE.as {e : Expr} {d : D} (d' : D) (h : QE X Ψ e ρ d) (k : d = d') : QE X Ψ e ρ d' := k ▸ h
end
end G
namespace G
open PySem PySem.Spec L2
/-! ### C: dicts whose keys are tuples of whole numbers, nested -/
mutual
theorem ky_inj : ∀ (d e : D) (n m : Nat), D.kyB d n = true → D.kyB e m = true → d.ky = e.ky → d = e
  | .int i, .int j, _, _, _, _, h => by
    have h' : NestedKey.num i = NestedKey.num j := h
    cases h'; rfl
  | .tup ds, .tup es, n, m, h1, h2, h => by
    have a : (decide (0 < n) && D.kysB ds (n - 1)) = true := h1
    have b : (decide (0 < m) && D.kysB es (m - 1)) = true := h2
    have h' : NestedKey.tup (D.kys ds) = NestedKey.tup (D.kys es) := h
    rw [Bool.and_eq_true] at a b
    injection h' with h'
    rw [kys_inj ds es _ _ a.2 b.2 h']
  | .int i, .tup es, _, _, _, _, h => by cases (show NestedKey.num i = NestedKey.tup (D.kys es) from h)
  | .tup ds, .int i, _, _, _, _, h => by cases (show NestedKey.tup (D.kys ds) = NestedKey.num i from h)
  | .non, _, _, _, h, _, _ | .bl _, _, _, _, h, _, _ | .str _, _, _, _, h, _, _ | .lst _, _, _, _, h, _, _ | .dct _ _, _, _, _, h, _, _ | .exc _, _, _, _, h, _, _ | .opq _, _, _, _, h, _, _ | .obj _ _ _, _, _, _, h, _, _ => Bool.noConfusion h
  | .int _, .non, _, _, _, h, _ | .int _, .bl _, _, _, _, h, _ | .int _, .str _, _, _, _, h, _ | .int _, .lst _, _, _, _, h, _ | .int _, .dct _ _, _, _, _, h, _ | .int _, .exc _, _, _, _, h, _ | .int _, .opq _, _, _, _, h, _ | .int _, .obj _ _ _, _, _, _, h, _ => Bool.noConfusion h
  | .tup _, .non, _, _, _, h, _ | .tup _, .bl _, _, _, _, h, _ | .tup _, .str _, _, _, _, h, _ | .tup _, .lst _, _, _, _, h, _ | .tup _, .dct _ _, _, _, _, h, _ | .tup _, .exc _, _, _, _, h, _ | .tup _, .opq _, _, _, _, h, _ | .tup _, .obj _ _ _, _, _, _, h, _ => Bool.noConfusion h
theorem kys_inj : ∀ (ds es : List D) (n m : Nat), D.kysB ds n = true → D.kysB es m = true → D.kys ds = D.kys es → ds = es
  | [], [], _, _, _, _, _ => rfl
  | [], e :: es, _, _, _, _, h => by cases (show [] = e.ky :: D.kys es from h)
  | d :: ds, [], _, _, _, _, h => by cases (show d.ky :: D.kys ds = [] from h)
  | d :: ds, e :: es, n, m, h1, h2, h => by
    have a : (D.kyB d n && D.kysB ds n) = true := h1
    have b : (D.kyB e m && D.kysB es m) = true := h2
    have h' : d.ky :: D.kys ds = e.ky :: D.kys es := h
    rw [Bool.and_eq_true] at a b
    injection h' with h3 h4
    rw [ky_inj d e _ _ a.1 b.1 h3, kys_inj ds es _ _ a.2 b.2 h4]
end
mutual
theorem ky_hash (w w' : World) : ∀ (d : D) (n : Nat), D.kyB d n = true → d.ky.hash w = d.ky.hash w'
  | .int i, _, _ => rfl
  | .tup ds, n, h => by
    have a : (decide (0 < n) && D.kysB ds (n - 1)) = true := h
    rw [Bool.and_eq_true] at a
    show (NestedKey.tup (D.kys ds)).hash w = (NestedKey.tup (D.kys ds)).hash w'
    rw [NestedKey.hash, NestedKey.hash, kys_hash w w' ds _ a.2]
  | .non, _, h | .bl _, _, h | .str _, _, h | .lst _, _, h | .dct _ _, _, h | .exc _, _, h | .opq _, _, h | .obj _ _ _, _, h => Bool.noConfusion h
theorem kys_hash (w w' : World) : ∀ (ds : List D) (n : Nat), D.kysB ds n = true → NestedKey.hashes w (D.kys ds) = NestedKey.hashes w' (D.kys ds)
  | [], _, _ => rfl
  | d :: ds, n, h => by
    have a : (D.kyB d n && D.kysB ds n) = true := h
    rw [Bool.and_eq_true] at a
    show NestedKey.hashes w (d.ky :: D.kys ds) = NestedKey.hashes w' (d.ky :: D.kys ds)
    rw [NestedKey.hashes, NestedKey.hashes, ky_hash w w' d _ a.1, kys_hash w w' ds _ a.2]
end
mutual
theorem ky_depth : ∀ (d : D) (n : Nat), D.kyB d n = true → d.ky.depth ≤ n
  | .int i, _, _ => Nat.zero_le _
  | .tup ds, n, h => by
    have a : (decide (0 < n) && D.kysB ds (n - 1)) = true := h
    rw [Bool.and_eq_true, decide_eq_true_eq] at a
    show (NestedKey.tup (D.kys ds)).depth ≤ n
    rw [NestedKey.depth]
    have := kys_depth ds _ a.2
    omega
  | .non, _, h | .bl _, _, h | .str _, _, h | .lst _, _, h | .dct _ _, _, h | .exc _, _, h | .opq _, _, h | .obj _ _ _, _, h => Bool.noConfusion h
theorem kys_depth : ∀ (ds : List D) (n : Nat), D.kysB ds n = true → NestedKey.depthAll (D.kys ds) ≤ n
  | [], _, _ => Nat.zero_le _
  | d :: ds, n, h => by
    have a : (D.kyB d n && D.kysB ds n) = true := h
    rw [Bool.and_eq_true] at a
    show NestedKey.depthAll (d.ky :: D.kys ds) ≤ n
    rw [NestedKey.depthAll]
    have := ky_depth d _ a.1
    have := kys_depth ds _ a.2
    omega
end
theorem key_tup {d : D} (h : d.key = true) : ∃ ds, d = .tup ds ∧ D.kyB d 8 = true := by
  cases d with
  | tup ds =>
    refine ⟨ds, rfl, ?_⟩
    show (decide (0 < 8) && D.kysB ds (8 - 1)) = true
    rw [show D.kysB ds (8 - 1) = true from h]; rfl
  | _ => cases h
theorem key_inj {d e : D} (h : d.key = true) (k : e.key = true) (q : d.ky = e.ky) : d = e := by
  obtain ⟨_, _, h1⟩ := key_tup h
  obtain ⟨_, _, h2⟩ := key_tup k
  exact ky_inj d e _ _ h1 h2 q
theorem key_iff {d e : D} (h : d.key = true) (k : e.key = true) : d.ky = e.ky ↔ d = e := ⟨key_inj h k, fun z => by rw [z]⟩
section
variable {X : L2.Cx} {pins : List (Addr × Obj)} {σ : L2.St} {H : Hp} {s : Shared}
mutual
theorem nk_of (I : Inv X pins σ H s) : ∀ (d : D) (n : Nat) (v : V) (u : Value), D.kyB d n = true → Rp X.K H v d → RelV v u → NestedIs s.heap d.ky u
  | .int i, _, _, _, _, r, q => by
    cases r
    obtain ⟨t, rfl⟩ := q
    exact .int i t
  | .tup ds, n, v, u, k, r, q => by
    have a : (decide (0 < n) && D.kysB ds (n - 1)) = true := k
    rw [Bool.and_eq_true] at a
    cases r with
    | @tup c xs _ hs ha =>
      obtain rfl : u = Value.ref c := q
      obtain ⟨its, rv, ⟨o, h1, h2, m, h3⟩, _⟩ := I.tuple hs
      exact .tup h1 h2 h3 (by simpa using nks_of I ds _ _ _ a.2 ha rv)
  | .non, _, _, _, h, _, _ | .bl _, _, _, _, h, _, _ | .str _, _, _, _, h, _, _ | .lst _, _, _, _, h, _, _ | .dct _ _, _, _, _, h, _, _ | .exc _, _, _, _, h, _, _ | .opq _, _, _, _, h, _, _ | .obj _ _ _, _, _, _, h, _, _ => Bool.noConfusion h
theorem nks_of (I : Inv X pins σ H s) : ∀ (ds : List D) (n : Nat) (vs : List V) (us : List Value), D.kysB ds n = true → RpA X.K H vs ds → Vals vs us → NestedAll s.heap (D.kys ds) us
  | [], _, _, _, _, r, q => by
    cases r
    cases q
    exact .nil
  | d :: ds, n, vs, us, h, r, q => by
    have a : (D.kyB d n && D.kysB ds n) = true := h
    rw [Bool.and_eq_true] at a
    cases r with
    | cons r1 r2 =>
      cases q with
      | cons q1 q2 => exact .cons (nk_of I d _ _ _ a.1 r1 q1) (nks_of I ds _ _ _ a.2 r2 q2)
end
theorem key_is {d : D} {a : Addr} (I : Inv X pins σ H s) (h : d.key = true) (r : Rp X.K H (.ref a) d) : (nestedKind X.prog X.w).is s.heap d.ky a := by
  obtain ⟨_, _, k⟩ := key_tup h
  exact ⟨nk_of I d _ _ _ k r rfl, ky_depth d _ k⟩
theorem key_ref {K : PySem.W.Frag} {H : Hp} {d : D} {v : V} (h : d.key = true) (r : Rp K H v d) : ∃ a, v = .ref a := by
  obtain ⟨ds, rfl, _⟩ := key_tup h
  cases r with
  | tup hs ha => exact ⟨_, rfl⟩
/-! ### what the object is, for the library's rules -/
abbrev hx (xs : List Ent) : List (NestedKey × Addr × Value) := xs.map fun x => (x.1.ky, x.2.1, x.2.2)
theorem rpA_at {K : PySem.W.Frag} {H : Hp} : ∀ {xs : List Ent}, RpA K H (xs.map fun x => V.ref x.2.1) (xs.map (·.1)) → ∀ x ∈ xs, Rp K H (.ref x.2.1) x.1
  | [], _, x, hx => by cases hx
  | y :: ys, r, x, hx => by
    cases r with
    | cons r1 r2 =>
      rcases List.mem_cons.mp hx with rfl | hx
      · exact r1
      · exact rpA_at r2 x hx
theorem dict_of {a : Addr} {xs : List Ent} {o : Obj} (I : Inv X pins σ H s) (ha : H a = some (.ext (dctO a xs o))) (hk : (xs.map (·.1)).all D.key = true) (r : RpA X.K H (xs.map fun x => V.ref x.2.1) (xs.map (·.1))) :
    s.heap.get? a = some o ∧ s.heap.DictOfH (nestedKind X.prog X.w) a (hx xs) ∧ DctS a xs o := by
  obtain ⟨⟨e, ds⟩, _⟩ := I.hok a _ ha
  obtain ⟨es, ep, ed, he⟩ := ds.dat
  refine ⟨e, ⟨o, es, ep, e, ds.ex, ed, ?_, fun y hy => ?_, ?_⟩, ds⟩
  · rw [he X.w, List.map_map]; rfl
  · obtain ⟨x, hm, rfl⟩ := List.mem_map.mp hy
    exact key_is I (List.all_eq_true.mp hk _ (List.mem_map.mpr ⟨x, hm, rfl⟩)) (rpA_at r x hm)
  · rw [List.map_map]; exact ds.nd
/-! as data -/
noncomputable def dGet (ks vs : List D) (k : D) : Option D := ((ks.zip vs).find? fun p => decide (p.1 = k)).map (·.2)
noncomputable def dPut (kvs : List (D × D)) (k v : D) : List (D × D) := if k ∈ kvs.map (·.1) then kvs.map (fun p => if p.1 = k then (p.1, v) else p) else kvs ++ [(k, v)]
abbrev dctD (kvs : List (D × D)) : D := .dct (kvs.map (·.1)) (kvs.map (·.2))
theorem at_none {xs : List Ent} {k : D} (hk : (xs.map (·.1)).all D.key = true) (h : k.key = true) : atKey (hx xs) k.ky = none ↔ k ∉ xs.map (·.1) := by
  unfold atKey
  rw [Option.map_eq_none_iff, List.find?_eq_none]
  constructor
  · intro z m
    obtain ⟨x, hx', rfl⟩ := List.mem_map.mp m
    exact z (x.1.ky, x.2.1, x.2.2) (List.mem_map.mpr ⟨x, hx', rfl⟩) (by simp)
  · intro z y hy e
    obtain ⟨x, hx', rfl⟩ := List.mem_map.mp hy
    have e1 : x.1.ky = k.ky := by simpa using e
    have e2 := key_inj (List.all_eq_true.mp hk _ (List.mem_map.mpr ⟨x, hx', rfl⟩)) h e1
    exact z (List.mem_map.mpr ⟨x, hx', e2⟩)
theorem at_isSome {xs : List Ent} {k : D} (hk : (xs.map (·.1)).all D.key = true) (h : k.key = true) : (atKey (hx xs) k.ky).isSome = decide (k ∈ xs.map (·.1)) := by
  have z := at_none (xs := xs) hk h
  cases q : atKey (hx xs) k.ky with
  | none =>
    rw [decide_eq_false (z.mp q)]; rfl
  | some p =>
    have : k ∈ xs.map (·.1) := by
      by_cases m : k ∈ xs.map (·.1)
      · exact m
      · rw [z.mpr m] at q; cases q
    rw [decide_eq_true this]; rfl
theorem at_get {K : PySem.W.Frag} {H : Hp} {k : D} (h : k.key = true) : ∀ {xs : List Ent} {vs : List D} {us : List V}, (xs.map (·.1)).all D.key = true → Vals us (xs.map fun x => x.2.2) → RpA K H us vs →
    (∀ d, dGet (xs.map (·.1)) vs k = some d → ∃ (a : Addr) (u : Value) (v : V), atKey (hx xs) k.ky = some (a, u) ∧ RelV v u ∧ Rp K H v d) ∧ (dGet (xs.map (·.1)) vs k = none → atKey (hx xs) k.ky = none)
  | [], vs, us, _, r, q => by
    refine ⟨fun d z => ?_, fun _ => rfl⟩
    simp [dGet] at z
  | x :: xs, vs, us, hk, r, q => by
    cases r with
    | cons r1 r2 =>
      cases q with
      | cons q1 q2 =>
        rw [List.map_cons, List.all_cons, Bool.and_eq_true] at hk
        have ih := at_get (K := K) (H := H) h hk.2 r2 q2
        have key : x.1.ky = k.ky ↔ x.1 = k := key_iff hk.1 h
        unfold dGet atKey at ih ⊢
        by_cases e : x.1 = k
        · have e2 := key.mpr e
          refine ⟨fun d z => ?_, fun z => ?_⟩
          · rw [List.map_cons, List.zip_cons_cons, List.find?_cons_of_pos (by simpa using e)] at z
            cases z
            refine ⟨x.2.1, x.2.2, _, ?_, r1, q1⟩
            show ((((x.1.ky, x.2.1, x.2.2) :: hx xs).find? _).map _) = _
            rw [List.find?_cons_of_pos (by simpa using e2)]; rfl
          · rw [List.map_cons, List.zip_cons_cons, List.find?_cons_of_pos (by simpa using e)] at z
            cases z
        · have e2 : ¬ x.1.ky = k.ky := fun z => e (key.mp z)
          rw [List.map_cons, List.zip_cons_cons, List.find?_cons_of_neg (by simpa using e)]
          show (∀ d, _ → ∃ (a : Addr) (u : Value) (v : V), ((((x.1.ky, x.2.1, x.2.2) :: hx xs).find? _).map _) = _ ∧ _) ∧ (_ → ((((x.1.ky, x.2.1, x.2.2) :: hx xs).find? _).map _) = _)
          rw [List.find?_cons_of_neg (by simpa using e2)]
          exact ih
/-! ### a store -/
noncomputable def ePut (xs : List Ent) (k : D) (a : Addr) (u : Value) : List Ent := if k ∈ xs.map (·.1) then xs.map (fun x => if x.1 = k then (x.1, x.2.1, u) else x) else xs ++ [(k, a, u)]
theorem stored_hx {xs : List Ent} {k : D} {a : Addr} {u : Value} (hk : (xs.map (·.1)).all D.key = true) (h : k.key = true) : storedH (hx xs) k.ky a u = hx (ePut xs k a u) := by
  unfold storedH ePut
  rw [at_isSome hk h]
  by_cases m : k ∈ xs.map (·.1)
  · rw [if_pos (decide_eq_true m), if_pos m, hx, hx, List.map_map, List.map_map]
    refine List.map_congr_left fun x hx' => ?_
    have key : x.1.ky = k.ky ↔ x.1 = k := key_iff (List.all_eq_true.mp hk _ (List.mem_map.mpr ⟨x, hx', rfl⟩)) h
    show putAt k.ky u (x.1.ky, x.2.1, x.2.2) = _
    unfold putAt
    by_cases e : x.1 = k
    · rw [if_pos (show x.1.ky = k.ky from key.mpr e)]
      show _ = ((if x.1 = k then (x.1, x.2.1, u) else x).1.ky, (if x.1 = k then (x.1, x.2.1, u) else x).2.1, (if x.1 = k then (x.1, x.2.1, u) else x).2.2)
      rw [if_pos e]
    · rw [if_neg (fun z => e (key.mp z))]
      show _ = ((if x.1 = k then (x.1, x.2.1, u) else x).1.ky, (if x.1 = k then (x.1, x.2.1, u) else x).2.1, (if x.1 = k then (x.1, x.2.1, u) else x).2.2)
      rw [if_neg e]
  · rw [if_neg (by rw [decide_eq_false m]; decide), if_neg m, hx, hx, List.map_append]; rfl
theorem put_keys {kvs : List (D × D)} {k v : D} : (dPut kvs k v).map (·.1) = if k ∈ kvs.map (·.1) then kvs.map (·.1) else kvs.map (·.1) ++ [k] := by
  unfold dPut
  split
  · rw [List.map_map]
    refine List.map_congr_left fun p _ => ?_
    show (if p.1 = k then (p.1, v) else p).1 = p.1
    split <;> rfl
  · rw [List.map_append]; rfl
theorem ePut_keys {xs : List Ent} {k : D} {a : Addr} {u : Value} : (ePut xs k a u).map (·.1) = if k ∈ xs.map (·.1) then xs.map (·.1) else xs.map (·.1) ++ [k] := by
  unfold ePut
  split
  · rw [List.map_map]
    refine List.map_congr_left fun p _ => ?_
    show (if p.1 = k then (p.1, p.2.1, u) else p).1 = p.1
    split <;> rfl
  · rw [List.map_append]; rfl
/-- what ClOk says of an own dict -/
structure DOk (K : PySem.W.Frag) (Hi : Hp) (xs : List Ent) (us : List V) (kvs : List (D × D)) : Prop where
  ks : kvs.map (·.1) = xs.map (·.1)
  key : (kvs.map (·.1)).all D.key = true
  rk : RpA K Hi (xs.map fun x => V.ref x.2.1) (kvs.map (·.1))
  vl : Vals us (xs.map fun x => x.2.2)
  rv : RpA K Hi us (kvs.map (·.2))
theorem RpA.snoc {K : PySem.W.Frag} {Hi : Hp} {vs : List V} {ds : List D} {v : V} {d : D} (h : RpA K Hi vs ds) (r : Rp K Hi v d) : RpA K Hi (vs ++ [v]) (ds ++ [d]) := h.app (.cons r .nil)
theorem DOk.put {K : PySem.W.Frag} {Hi : Hp} {k v : D} {a : Addr} {vv : V} {u : Value} (hk : k.key = true) (ra : Rp K Hi (.ref a) k) (rv : Rp K Hi vv v) (ru : RelV vv u) :
    ∀ {xs : List Ent} {us : List V} {kvs : List (D × D)}, DOk K Hi xs us kvs → ∃ us', DOk K Hi (ePut xs k a u) us' (dPut kvs k v) := by
  have old : ∀ {xs : List Ent} {us : List V} {kvs : List (D × D)}, DOk K Hi xs us kvs → ∃ us', Vals us' ((xs.map fun x => if x.1 = k then (x.1, x.2.1, u) else x).map fun x : Ent => x.2.2) ∧ RpA K Hi us' ((kvs.map fun p => if p.1 = k then (p.1, v) else p).map (·.2)) := by
    intro xs
    induction xs with
    | nil =>
      intro us kvs h
      have e := h.ks
      cases kvs with
      | nil => exact ⟨[], .nil, .nil⟩
      | cons _ _ => cases e
    | cons x xs ih =>
      intro us kvs h
      have e := h.ks
      cases kvs with
      | nil => cases e
      | cons p kvs =>
        obtain ⟨h1, h2, h3, h4, h5⟩ := h
        injection e with e1 e2
        rw [List.map_cons, List.all_cons, Bool.and_eq_true] at h2
        cases h3 with
        | cons a1 a2 =>
          cases h5 with
          | @cons v1 _ _ _ c1 c2 =>
            cases h4 with
            | cons b1 b2 =>
              obtain ⟨us', q1, q2⟩ := ih ⟨e2, h2.2, a2, b2, c2⟩
              by_cases e : p.1 = k
              · refine ⟨vv :: us', ?_, ?_⟩
                · rw [List.map_cons, List.map_cons, if_pos (show x.1 = k from e1.symm.trans e)]
                  exact .cons ru q1
                · rw [List.map_cons, List.map_cons, if_pos e]
                  exact .cons rv q2
              · refine ⟨v1 :: us', ?_, ?_⟩
                · rw [List.map_cons, List.map_cons, if_neg (fun z : x.1 = k => e ((show p.1 = x.1 from e1).trans z))]
                  exact .cons b1 q1
                · rw [List.map_cons, List.map_cons, if_neg e]
                  exact .cons c1 q2
  intro xs us kvs h
  by_cases m : k ∈ kvs.map (·.1)
  · have m2 : k ∈ xs.map (·.1) := h.ks ▸ m
    obtain ⟨us', q1, q2⟩ := old h
    refine ⟨us', ?_, ?_, ?_, ?_, ?_⟩
    · rw [put_keys, ePut_keys, if_pos m, if_pos m2, h.ks]
    · rw [put_keys, if_pos m]; exact h.key
    · rw [put_keys, if_pos m]
      have e : (ePut xs k a u).map (fun x => V.ref x.2.1) = xs.map fun x => V.ref x.2.1 := by
        unfold ePut
        rw [if_pos m2, List.map_map]
        refine List.map_congr_left fun p _ => ?_
        show V.ref (if p.1 = k then (p.1, p.2.1, u) else p).2.1 = _
        split <;> rfl
      rw [e]; exact h.rk
    · unfold ePut; rw [if_pos m2]; exact q1
    · unfold dPut; rw [if_pos m]; exact q2
  · have m2 : k ∉ xs.map (·.1) := h.ks ▸ m
    refine ⟨us ++ [vv], ?_, ?_, ?_, ?_, ?_⟩
    · rw [put_keys, ePut_keys, if_neg m, if_neg m2, h.ks]
    · rw [put_keys, if_neg m, List.all_append, h.key]; simp [hk]
    · rw [put_keys, if_neg m]
      unfold ePut
      rw [if_neg m2, List.map_append]
      exact h.rk.snoc ra
    · unfold ePut
      rw [if_neg m2, List.map_append]
      exact h.vl.append (.cons ru .nil)
    · unfold dPut
      rw [if_neg m, List.map_append]
      exact h.rv.snoc rv
theorem ePut_length {xs : List Ent} {k : D} {a : Addr} {u : Value} : (ePut xs k a u).length ≤ xs.length + 1 := by
  unfold ePut
  split <;> simp
/-- the object behind a store -/
theorem obj_of {P : Program} {w : World} {h' : Heap} {H' : Hp} {a : Addr} {xs : List Ent} (dd : h'.DictOfH (nestedKind P w) a (hx xs)) (hk : (xs.map (·.1)).all D.key = true) (hsm : (a == sysModules) = false) (hz : xs.length ≤ sizeLine) :
    ∃ o, h'.get? a = some o ∧ ObjOk P w H' h' a (.ext (dctO a xs o)) := by
  obtain ⟨o, es, ep, e, ex, ed, he, his, nd⟩ := dd
  have nd' : (xs.map fun x => x.1.ky).Nodup := by
    rw [List.map_map] at nd
    exact nd
  refine ⟨o, e, ⟨e, hsm, hz, nd', ex, es, ep, ed, fun w' => ?_⟩, ⟨o, e⟩, fun h1 h2 z k => ⟨k _ z.1, z.2⟩⟩
  rw [he, List.map_map]
  refine List.map_congr_left fun x hx' => ?_
  obtain ⟨_, _, k⟩ := key_tup (List.all_eq_true.mp hk _ (List.mem_map.mpr ⟨x, hx', rfl⟩))
  show (⟨x.1.ky.hash w, .ref x.2.1, x.2.2⟩ : DictEntry) = ⟨x.1.ky.hash w', .ref x.2.1, x.2.2⟩
  rw [ky_hash w w' x.1 _ k]
/-! ### operations -/
theorem room8 {A : Around} (hu : A.units + 65 < cLine) : (nestedKind X.prog X.w).room A.in1 := by show A.units + 1 + 8 < cLine; omega
def rInC (K : PySem.W.Frag) : R2 := fun x y H Q => ∃ d ks vs, Rp K H x d ∧ Rp K H y (.dct ks vs) ∧ d.key = true ∧ Q (.bl (decide (d ∈ ks))) H
theorem op_inC (hu : X.A.units + 65 < cLine) : OpR X (compareOp .In) (rInC X.K) := by
  intro pins s σ H x y v u Q I rx ry h
  obtain ⟨d, ks, vs, r1, r2, hk, q⟩ := h
  obtain ⟨a, rfl⟩ := key_ref hk r1
  cases r2 with
  | @dct b xs o _ _ us hb e k rk vl rv =>
    subst e
    obtain rfl : v = Value.ref a := rx
    obtain rfl : u = Value.ref b := ry
    obtain ⟨_, dd, ds⟩ := dict_of I hb k rk
    refine wpAny_in_heap (knd := nestedKind X.prog X.w) (room8 hu) (key_is I hk r1) ds.sm dd ?_
    rw [at_isSome k hk]
    exact ⟨.bl _, H, I.tok _, rfl, q⟩
theorem od_inC : OpD X (rInC X.K) (fun x y Φ => ∃ ks vs, y = .dct ks vs ∧ x.key = true ∧ Φ (.bl (decide (x ∈ ks)))) := fun Hi H x y v u Φ s h r1 r2 Q q => by
  obtain ⟨ks, vs, rfl, hk, h⟩ := h
  exact ⟨x, ks, vs, r1.up s, r2.up s, hk, q _ _ Hi H h (Gr.refl s) (.bl _)⟩
/-- d[k], k there -/
def rIxC (K : PySem.W.Frag) (x y : V) (H : Hp) (Q : VK) : Prop := ∃ (d : D) (b : Addr) (xs : List Ent) (o : Obj) (v : V) (a : Addr) (u : Value), Rp K H y d ∧ d.key = true ∧ x = .ref b ∧ H b = some (.ext (dctO b xs o)) ∧ (xs.map (·.1)).all D.key = true ∧
  RpA K H (xs.map fun x => V.ref x.2.1) (xs.map (·.1)) ∧ atKey (hx xs) d.ky = some (a, u) ∧ RelV v u ∧ Q v H
theorem ix_C (hu : X.A.units + 65 < cLine) : IxR X (rIxC X.K) := by
  intro value slice pins s σ H x y v u Q I rx ry h hs
  obtain ⟨d, b, xs, o, z, a2, u2, r1, hk, rfl, hb, k, rk, h1, h2, q⟩ := h
  obtain ⟨a, rfl⟩ := key_ref hk r1
  obtain rfl : v = Value.ref b := rx
  obtain rfl : u = Value.ref a := ry
  obtain ⟨_, dd, ds⟩ := dict_of I hb k rk
  exact PyProof.Rows.tail_any dd.typeIs slot_dict_getitem.lookup (wpAny_getItem_heap (knd := nestedKind X.prog X.w) (room8 hu) (key_is I hk r1) dd h1 ⟨z, H, I.tok _, h2, q⟩) hs
theorem od_ixC : OpD X (rIxC X.K) (fun x y Φ => ∃ ks vs e, x = .dct ks vs ∧ y.key = true ∧ dGet ks vs y = some e ∧ Φ e) := fun Hi H x y v u Φ s h r1 r2 Q q => by
  obtain ⟨ks, vs, e, rfl, hk, hg, h⟩ := h
  cases r1 with
  | @dct b xs o _ _ us hb e0 k rk vl rv =>
    subst e0
    obtain ⟨a2, u2, v2, h1, h2, h3⟩ := (at_get hk k vl rv).1 e hg
    exact ⟨y, b, xs, o, v2, a2, u2, r2.up s, hk, rfl, s _ _ hb, k, rk.up s, h1, h2, q _ _ Hi H h (Gr.refl s) h3⟩
/-- the entries as they stand -/
theorem raw_of {a : Addr} {xs : List Ent} {o : Obj} (I : Inv X pins σ H s) (ha : H a = some (.ext (dctO a xs o))) :
    ∃ es ep, s.heap.DictRaw a es ep ∧ o.data = .dict es ep ∧ es.size = xs.length ∧ DctS a xs o ∧ ∀ (i : Nat) (x : Ent), xs[i]? = some x → ∃ hi : i < es.size, es[i].key = .ref x.2.1 ∧ es[i].val = x.2.2 := by
  obtain ⟨⟨e, ds⟩, _⟩ := I.hok a _ ha
  obtain ⟨es, ep, ed, he⟩ := ds.dat
  have hl : es.size = xs.length := by
    rw [← Array.length_toList, he X.w, List.length_map]
  refine ⟨es, ep, ⟨o, e, ds.ex, ed⟩, ed, hl, ds, fun i x hi => ?_⟩
  obtain ⟨h1, h2⟩ := List.getElem?_eq_some_iff.mp hi
  have h3 : i < es.size := by omega
  refine ⟨h3, ?_⟩
  have e1 : es.toList[i]? = (xs.map fun x => (⟨x.1.ky.hash X.w, .ref x.2.1, x.2.2⟩ : DictEntry))[i]? := by rw [he X.w]
  rw [List.getElem?_map, hi, Array.getElem?_toList, Array.getElem?_eq_getElem h3] at e1
  injection e1 with e1
  rw [e1]
  exact ⟨rfl, rfl⟩
/-- len(d) -/
def rLenC : List V → Hp → VK → Prop := fun vs H Q => ∃ (b : Addr) (xs : List Ent) (o : Obj), vs = [.ref b] ∧ H b = some (.ext (dctO b xs o)) ∧ Q (.int xs.length) H
theorem call_lenC : CallR X (.builtin "len") rLenC := fun pins s σ H vs us Q I r h => by
  obtain ⟨b, xs, o, rfl, hb, q⟩ := h
  obtain ⟨u, rfl, ru⟩ := vals1 r
  obtain rfl : u = Value.ref b := ru
  obtain ⟨es, ep, hr, _, hl, ds, _⟩ := raw_of I hb
  have hz : xs.length < 2 ^ 62 := Nat.lt_of_le_of_lt ds.len (by decide)
  exact PyProof.Rows.call_len_slot (n := (xs.length : Nat)) hr.typeIs PySem.F.slot_dict_len (fun Q' hq => call_len_raw ds.sm hr (by rw [hl]; exact hq)) (by omega) (by omega) ⟨.int _, H, I.tok _, ⟨_, rfl⟩, q⟩
theorem cd_lenC : CallD X rLenC (fun ds Φ => ∃ ks vs, ds = [.dct ks vs] ∧ Φ (.int ks.length)) := fun Hi H vs ds Φ s h r Q q => by
  obtain ⟨ks, ws, rfl, k⟩ := h
  cases r with
  | cons r rr =>
    cases rr
    cases r with
    | @dct b xs o _ _ us h1 h2 h3 h4 h5 h6 =>
      have e : ks.length = xs.length := by rw [h2, List.length_map]
      exact ⟨b, xs, o, rfl, s _ _ h1, by rw [← e]; exact q _ _ Hi H k (Gr.refl s) (.int _)⟩
theorem keys_vals {xs : List Ent} {acc : List Value} (hl : acc.length = xs.length) (h : ∀ (i : Nat) (x : Ent) (v : Value), xs[i]? = some x → acc[i]? = some v → v = .ref x.2.1) : Vals (xs.map fun x => V.ref x.2.1) acc := by
  induction xs generalizing acc with
  | nil =>
    cases acc with
    | nil => exact .nil
    | cons _ _ => cases hl
  | cons x xs ih =>
    cases acc with
    | nil => cases hl
    | cons v acc =>
      exact .cons (h 0 x v rfl rfl) (ih (by simpa using hl) fun i y u h1 h2 => h (i + 1) y u (by simpa using h1) (by simpa using h2))
theorem items_keys {xs : List Ent} {es : Array DictEntry} {acc : Array Value} (hl : es.size = xs.length) (hv : ∀ (i : Nat) (x : Ent), xs[i]? = some x → ∃ hi : i < es.size, es[i].key = .ref x.2.1 ∧ es[i].val = x.2.2)
    (h : ItemsOf (fun i v => ∃ hi : i < es.size, v = es[i].key) acc es.size) : Vals (xs.map fun x => V.ref x.2.1) acc.toList := by
  refine keys_vals (by rw [Array.length_toList, h.1, hl]) fun i x v h1 h2 => ?_
  obtain ⟨_, e⟩ := h.2 i v (by rw [← Array.getElem?_toList]; exact h2)
  obtain ⟨_, e2, _⟩ := hv i x h1
  rw [e, e2]
/-! ### d.get(k), d.get(k, x) -/
theorem dct_ty {b : Addr} {xs : List Ent} {o : Obj} (I : Inv X pins σ H s) (hb : H b = some (.ext (dctO b xs o))) : s.TypeIs (.ref b) "dict" ∧ ∀ a, Value.ref b = .ref a → ∃ ob, s.heap.get? a = some ob ∧ ob.dict = none := by
  obtain ⟨⟨e, ds⟩, _⟩ := I.hok b _ hb
  exact ⟨⟨o, e, ds.ex.1⟩, fun a z => by cases z; exact ⟨o, e, ds.ex.2.1⟩⟩
/-- where k stands -/
def AtC (K : PySem.W.Frag) (H : Hp) (b : Addr) (y : V) (r : Option V) : Prop := ∃ (d : D) (xs : List Ent) (o : Obj), Rp K H y d ∧ d.key = true ∧ H b = some (.ext (dctO b xs o)) ∧ (xs.map (·.1)).all D.key = true ∧
  RpA K H (xs.map fun x => V.ref x.2.1) (xs.map (·.1)) ∧ ((∃ v a u, r = some v ∧ atKey (hx xs) d.ky = some (a, u) ∧ RelV v u) ∨ (r = none ∧ atKey (hx xs) d.ky = none))
section
variable {a b c e f : Expr} {es : List Expr} {pos apos cpos p p2 : Pos} {te ta tb : TE} {A : Around} {E : Value → Shared → Prop}
theorem get2_C (hu : X.A.units + 65 < cLine) {b : Addr} {y z : V} {u w : Value} {r : Option V} {Q : Value → Shared → Prop} (I : Inv X pins σ H s) (g : AtC X.K H b y r) (ry : RelV y u) (rz : RelV z w) (q : ∀ w s', Inv X pins σ H s' → RelV (r.getD z) w → Q w s') :
    wpAny (model X.prog X.w) X.A (call (.builtin "dict.get") [.ref b, u, w]) Q E s := by
  obtain ⟨d, xs, o, ry', hk, hb, kk, rk, h⟩ := g
  obtain ⟨c, rfl⟩ := key_ref hk ry'
  obtain rfl : u = Value.ref c := ry
  obtain ⟨_, dd, ds⟩ := dict_of I hb kk rk
  refine call_meetsIn PySem.F.slot_dict_get dd.typeIs PySem.F.entry_dict_get (PySem.F.args_dict_get_3 _ _ _) (meetsH_dict_get_default (nestedKind X.prog X.w) b c ds.sm w) ⟨room8 hu, _, _, key_is I hk ry', dd, q _ _ (I.tok _) ?_⟩
  rcases h with ⟨v, a, u, rfl, e, rv⟩ | ⟨rfl, e⟩
  · rw [e]; exact rv
  · rw [e]; exact rz
/-- d.get(k, x) -/
def tGetC (K : PySem.W.Frag) (td ty tx : TE) : TE := fun σ H Q => td σ H fun x H1 => ∃ b xs o, x = .ref b ∧ H1 b = some (.ext (dctO b xs o)) ∧ ty σ H1 fun y H2 => tx σ H2 fun z H3 => ∃ r, AtC K H3 b y r ∧ Q (r.getD z) H3
theorem pe_getC (hu : X.A.units + 65 < cLine) (ho : PE X a te) (he : PE X e ta) (hf : PE X f tb) (m : M2 X a "get" apos e f cpos) : PE X (.Call (.Attribute a "get" apos) [e, f] [] cpos) (tGetC X.K te ta tb) := by
  refine ⟨fun pins s σ H Q I h => wpAny_Call_method m.base m.few m.line PySem.F.plainAttrs_dict PySem.F.slot_dict_get PySem.F.type_dict_get (thn (ho.run pins s σ H _ I h) fun u s1 ⟨x, H1, I1, rx, b, xs, o, ex, hb, q1⟩ => ?_)⟩
  subst ex
  obtain rfl : u = Value.ref b := rx
  obtain ⟨t1, t2⟩ := dct_ty I1 hb
  refine ⟨t1, t2, ?_⟩
  rw [m.trees]
  refine Calls.callWith_builtin rfl (Calls.evalArgs_plain (Calls.spliced_cons (thn (he.run pins s1 σ H1 _ I1 q1) fun w2 s2 ⟨y, H2, I2, ry, q2⟩ => Calls.spliced_cons (thn (hf.run pins s2 σ H2 _ I2 q2) fun w3 s3 ⟨z, H3, I3, rz, r, g, q3⟩ => Calls.spliced_nil ?_))))
  exact get2_C hu I3 g ry rz fun w' s4 I4 rw' => ⟨_, H3, I4, rw', q3⟩
/-! ### stores -/
/-- what stands behind a store: some object, the entry put -/
theorem put_obj {K : PySem.W.Frag} {A : Around} {b c : Addr} {xs : List Ent} {d : D} {r : Value} {o : Obj} {h' : Heap} {t' : Nat} (I : Inv X pins σ H s) (hb : H b = some (.ext (dctO b xs o))) (kk : (xs.map (·.1)).all D.key = true) (hk : d.key = true) (hz : xs.length < sizeLine)
    (dd : h'.DictOfH (nestedKind X.prog X.w) b (storedH (hx xs) d.ky c r)) (sb : Heap.SameBut b s.heap h') :
    ∃ o', Inv X pins σ (upd H b (.ext (dctO b (ePut xs d c r) o'))) { s with heap := h', toks := t' } := by
  obtain ⟨⟨_, ds⟩, _⟩ := I.hok b _ hb
  rw [stored_hx kk hk] at dd
  have kk' : ((ePut xs d c r).map (·.1)).all D.key = true := by
    rw [ePut_keys]
    split
    · exact kk
    · rw [List.all_append, kk]; simp [hk]
  obtain ⟨o', e, ok⟩ := obj_of (P := X.prog) (w := X.w) (H' := H) dd kk' ds.sm (by have := ePut_length (xs := xs) (k := d) (a := c) (u := r); omega)
  exact ⟨o', d_write I (by rw [hb]; exact True.intro) sb ⟨o', e⟩ ok⟩
def sPutC (K : PySem.W.Frag) (td ty tv : TE) : TS := fun Dn σ H => tv σ H fun v H1 => td σ H1 fun x H2 => ty σ H2 fun y H3 => ∃ (b c : Addr) (xs : List Ent) (o : Obj) (d : D), x = .ref b ∧ H3 b = some (.ext (dctO b xs o)) ∧ (xs.map (·.1)).all D.key = true ∧
  RpA K H3 (xs.map fun x => V.ref x.2.1) (xs.map (·.1)) ∧ y = .ref c ∧ Rp K H3 y d ∧ d.key = true ∧ xs.length < sizeLine ∧ ∀ o' u, RelV v u → Dn.nx σ (upd H3 b (.ext (dctO b (ePut xs d c u) o')))
theorem ps_putC {i : Expr} {pos' : Pos} (hu : X.A.units + 65 < cLine) (ho : PE X a te) (hi : PE X i ta) (hv : PE X e tb) (hs : swapsWith e (some (.Subscript a i pos')) pos.line X.env = pure false) : PS X (.Assign [.Subscript a i pos'] e pos) (sPutC X.K te ta tb) := by
  refine ⟨fun pins s σ H Dn I h => wpAny_Assign_Subscript (thn (hv.run pins s σ H _ I h) fun w1 s1 ⟨v, H1, I1, rv, q1⟩ => thn (ho.run pins s1 σ H1 _ I1 q1) fun w2 s2 ⟨x, H2, I2, rx, q2⟩ => thn (hi.run pins s2 σ H2 _ I2 q2) fun w3 s3 ⟨y, H3, I3, ry, q3⟩ => ?_) hs⟩
  obtain ⟨b, c, xs, o, d, rfl, hb, kk, rk, rfl, rd, hk, hz, q⟩ := q3
  obtain rfl : w2 = Value.ref b := rx
  obtain rfl : w3 = Value.ref c := ry
  obtain ⟨_, dd, ds⟩ := dict_of I3 hb kk rk
  refine wpAny_setItem_heap (hsz := by rw [List.length_map]; exact ds.len) (room8 hu) (key_is I3 hk rd) dd fun h' dd' sb => ?_
  obtain ⟨o', I4⟩ := put_obj (K := X.K) (A := X.A) (t' := s3.toks + (nestedKind X.prog X.w).draws d.ky) I3 hb kk hk hz dd' sb
  exact ⟨σ, _, I4, q o' w1 rv⟩
/-- {} -/
def tNewC : TE := fun _ H Q => ∀ p o, H p = none → Q (.ref p) (upd H p (.ext (dctO p [] o)))
theorem empty_obj {P : Program} {w : World} {H : Hp} (h : Heap) (hb : sysModules < h.objs.size) : ObjOk P w H (h.push { cls := .type "dict", data := .dict #[] }) h.objs.size (.ext (dctO h.objs.size [] { cls := .type "dict", data := .dict #[] })) :=
  ⟨⟨Heap.get?_push_size _ rfl, beq_eq_false_iff_ne.mpr (Ne.symm (Nat.ne_of_lt hb)), Nat.zero_le _, List.nodup_nil, ⟨rfl, rfl, rfl⟩, #[], 0, rfl, fun _ => rfl⟩, ⟨_, Heap.get?_push_size _ rfl⟩, fun h1 h2 z k => ⟨k _ z.1, z.2⟩⟩
theorem pe_newC : PE X (.Dict [] [] pos) tNewC := ⟨fun pins s σ H Q I h =>
  wpAny_Dict_empty ⟨.ref s.heap.objs.size, _, I.laid (t' := s.toks) (fun _ _ z => Heap.get?_push_of_some _ z) (Nat.le_refl _) (empty_obj s.heap I.big), rfl, h _ _ (I.hok.fresh (Nat.le_refl _))⟩⟩
/-! ### walks -/
def Itc (b : Addr) (xs : List Ent) (o : Obj) : It :=
  ⟨fun i H => H b = some (.ext (dctO b xs o)) ∧ i < xs.length, fun i H x H' => H' = H ∧ ∃ z, xs[i]? = some z ∧ x = .ref z.2.1, fun i H => H b = some (.ext (dctO b xs o)) ∧ xs.length ≤ i⟩
theorem turn_C {P : Program} {w : World} {K : PySem.W.Frag} {tg : Expr} {b : Addr} {xs : List Ent} {o : Obj} {es : Array DictEntry} {ep : Nat} (it : Addr) (hod : o.data = .dict es ep) : Turn P w K tg (Itc b xs o) [it] it (fun i h => h.IsKeyIter it b i xs.length ep) where
  mem := List.mem_singleton.mpr rfl
  obj := fun i h st c hc => by
    obtain rfl : c = it := List.mem_singleton.mp hc
    obtain ⟨ob, e1, _, e2⟩ := st
    exact ⟨ob, e1, fun v z => by rw [e2] at z; cases z⟩
  keep := fun i h h' ⟨ob, e1, e2⟩ k => ⟨ob, k it (List.mem_singleton.mpr rfl) ob e1, e2⟩
  item := by
    intro X hP hw hK hc i pins s σ H E I fpo st hgo
    subst hP hw hK
    obtain ⟨hb, hi⟩ := hgo
    obtain ⟨g0, g1, g2, g3, g4, g5⟩ := fpo it (List.mem_singleton.mpr rfl)
    obtain ⟨es', ep', hr, ed, hl, ds, hv⟩ := raw_of I hb
    obtain ⟨rfl, rfl⟩ := dict_ep hod ed
    have hx1 : xs[i]? = some xs[i] := List.getElem?_eq_getElem hi
    obtain ⟨hi2, ek, _⟩ := hv i _ hx1
    rw [← hl] at st
    refine wpAny_pyNext_keys_item_raw st hr hi2 fun h' st' sb => ?_
    have I1 : Inv X pins σ H { s with heap := h' } := I.turned (t' := s.toks) (fun c ob hc' z => (sb.2 c hc').trans z) g0 g1 g3 g4 g5
    obtain ⟨ob, e1, e2, e3⟩ := id st'
    refine ⟨_, rfl, go_of (s := { s with heap := h' }) e1 e2 e3 (by decide) ⟨.ref xs[i].2.1, H, I1, by rw [ek]; rfl, ⟨rfl, _, hx1, rfl⟩, ?_, fun c hc' => (fpo c hc').1⟩⟩
    show h'.IsKeyIter it b (i + 1) xs.length _
    rw [← hl]
    exact st'
  done := by
    intro X hP hw hK hc i pins s σ H E I fpo st hstop
    subst hP hw hK
    obtain ⟨hb, hi⟩ := hstop
    obtain ⟨g0, g1, g2, g3, g4, g5⟩ := fpo it (List.mem_singleton.mpr rfl)
    obtain ⟨es', ep', hr, ed, hl, ds, hv⟩ := raw_of I hb
    obtain ⟨rfl, rfl⟩ := dict_ep hod ed
    rw [← hl] at st
    exact wpAny_pyNext_keys_end_raw (I.ok.hd hc) st hr (by rw [hl]; exact hi) fun h' eb => ⟨rfl, I.turned (t' := s.toks) (fun c ob hc' z => eb c ob hc' z) g0 g1 g3 g4 g5⟩
  self := fun A i s Q E st h => wpAny_pyIter_keyiter st h
end
end
end G
namespace G
open PySem PySem.Spec L2
/-! ### {k: v for x in ..}, the keys tuples of whole numbers -/
section
variable {X : L2.Cx}
/-- what a turn leaves to be shown once key and value are there: Da the new dict -/
abbrev StoreC (K : PySem.W.Frag) (Da : Addr) (Nx : Hp → Prop) (y z : V) (H : Hp) : Prop := ∃ (c : Addr) (xs : List Ent) (o : Obj) (d : D), y = .ref c ∧ Rp K H y d ∧ d.key = true ∧ H Da = some (.ext (dctO Da xs o)) ∧ (xs.map (·.1)).all D.key = true ∧
  RpA K H (xs.map fun x => V.ref x.2.1) (xs.map (·.1)) ∧ xs.length < sizeLine ∧ ∀ o' u, RelV z u → Nx (upd H Da (.ext (dctO Da (ePut xs d c u) o')))
abbrev TurnC (K : PySem.W.Frag) (Da : Addr) (g : TG) (tt : TT) (tk tv : TE) (vs : List Nat) (σ : L2.St) (Nx : Hp → Prop) (x : V) (H : Hp) : Prop := g x (L2.wipe σ vs) H fun σ2 H2 => L2.wipe σ2 vs = L2.wipe σ vs ∧ tt σ2 H2 fun b H3 =>
  if b = true then tk σ2 H3 fun y H4 => tv σ2 H4 fun z H5 => StoreC K Da Nx y z H5 else Nx H3
def tDcC (K : PySem.W.Frag) (wi : TI) (g : TG) (tt : TT) (tk tv : TE) (vs : List Nat) : TE := fun σ H Q => wi σ H fun J H1 => ∀ Da o0, H1 Da = none → ∃ W : Nat → Nat → Hp → Prop, (∃ m, W 0 m (upd H1 Da (.ext (dctO Da [] o0)))) ∧ ∀ i m H2, W i m H2 →
  (J.stop i H2 ∧ Q (.ref Da) H2) ∨ (J.go i H2 ∧ ∃ Nx : Hp → Prop, (∀ H3, Nx H3 → ∃ m', m' < m ∧ W (i + 1) m' H3) ∧ ∀ x H3, J.yld i H2 x H3 → TurnC K Da g tt tk tv vs σ Nx x H3)
theorem set_C {pins : List (Addr × Obj)} {σ : L2.St} {H : Hp} {s : Shared} {E : Value → Shared → Prop} {Da : Addr} {Nx : Hp → Prop} {y z : V} {u r : Value} {Q : Unit → Shared → Prop} (hu : X.A.units + 65 < cLine) (I : Inv X pins σ H s) (h : StoreC X.K Da Nx y z H) (ry : RelV y u) (rz : RelV z r)
    (q : ∀ s' H', Inv X pins σ H' s' → Nx H' → Q () s') : wpAny (model X.prog X.w) X.A (dictSet Da u r) Q E s := by
  obtain ⟨c, xs, o, d, rfl, rd, hk, hD, kk, rk, hz, nx⟩ := h
  obtain rfl : u = Value.ref c := ry
  obtain ⟨_, dd, ds⟩ := dict_of I hD kk rk
  refine wpAny_dictSet_heap (knd := nestedKind X.prog X.w) (hsz := by rw [List.length_map]; exact ds.len) (by show X.A.units + 8 < cLine; omega) (key_is I hk rd) dd fun h' dd' sb => ?_
  obtain ⟨o', I2⟩ := put_obj (K := X.K) (A := X.A) (t' := s.toks + (nestedKind X.prog X.w).draws d.ky) I hD kk hk hz dd' sb
  exact q _ _ I2 (nx o' r rz)
theorem dcC_core {pins : List (Addr × Obj)} {s : Shared} {σ : L2.St} {H : Hp} {Q : VK} {ek ev tg iter : Expr} {ifs : List Expr} {scope : Scope} {own : List (Str × Nat)} {pos pos' : Pos} {wi : TI} {g : TG} {tt : TT} {tk tv : TE} {use : Option (Value → Sem Unit)} {Qf : Value → Shared → Prop}
    (hu : X.A.units + 65 < cLine) (calm : X.calm = true) (nd : X.N.Nodup) (I : Inv X pins σ H s) (pi : PI X tg iter wi) (ok : BlkOk X.N X.env.scope scope own)
    (jg : ∀ (t : Shared) (G : Hp) (C : Addr) (cl : List (Str × Addr)) (fp : List Addr), PG (X.blk t G scope (compEnvC scope cl C X.env) fp) tg g) (jt : ∀ (t : Shared) (G : Hp) (C : Addr) (cl : List (Str × Addr)) (fp : List Addr), PTs (X.blk t G scope (compEnvC scope cl C X.env) fp) ifs tt)
    (jk : ∀ (t : Shared) (G : Hp) (C : Addr) (cl : List (Str × Addr)) (fp : List Addr), PE (X.blk t G scope (compEnvC scope cl C X.env) fp) ek tk) (jv : ∀ (t : Shared) (G : Hp) (C : Addr) (cl : List (Str × Addr)) (fp : List Addr), PE (X.blk t G scope (compEnvC scope cl C X.env) fp) ev tv)
    (fold : ∀ x, foldedSetIterable iter X.env x = pure x) (h : tDcC X.K wi g tt tk tv (own.map (·.2)) σ H Q)
    (after : ∀ Da C s' m H', Inv X pins σ H' s' → Q (.ref Da) H' → s'.heap.Ns C m → FpOk X pins H' C → compPost (model X.prog X.w) X.A X.xe use Qf (.ref Da) C (.ok .next) s') :
    wpAny (model X.prog X.w) X.A (comprehension (.DictComp ek ev [⟨tg, iter, ifs, 0⟩] scope pos) scope X.env pos' newDict false (eval iter X.env) use) Qf X.xe s := by
  have frees : ∀ y ∈ scope.names, y.2 = .free → ∃ c, X.env.cells.lookup y.1 = some c := fun y hy e => (ok.free y hy e).elim (fun k => I.ok.has _ (.inl k)) fun k => I.ok.has _ (.inr k)
  refine wpAny_comprehension_free (use := use) rfl fold (closure_ok frees) ok.kind (fun y hy e => by rw [ok.uniq y hy, e]) (thn (pi.run pins s σ H _ I h) fun xv s1 q1 => thn q1 fun itv s2 q2 => ?_)
  obtain ⟨it, fp, tn, J, H2, rfl, I2, T, st2, f2, q⟩ := q2
  refine wpAny_newObj_type (newEnv_comp ?_)
  generalize eD : s2.heap.objs.size = Da
  have nD : H2 Da = none := I2.hok.fresh (Nat.le_of_eq eD)
  obtain ⟨W, ⟨m0, w0⟩, turn⟩ := q Da { cls := .type "dict", data := .dict #[] } nD
  generalize e3 : ({ s2 with heap := s2.heap.push { cls := .type "dict", data := .dict #[] } } : Shared) = s3
  have k3 : s3.heap = s2.heap.push { cls := .type "dict", data := .dict #[] } := by rw [← e3]
  have I3 : Inv X pins σ (upd H2 Da (.ext (dctO Da [] { cls := .type "dict", data := .dict #[] }))) s3 := by
    rw [← e3]
    refine I2.laid (t' := s2.toks) (fun c ob z => Heap.get?_push_of_some _ z) (Nat.le_of_eq eD) ?_
    rw [← eD]
    exact empty_obj s2.heap I2.big
  have old : ∀ c ∈ fp, c < s2.heap.objs.size := fun c hc => (T.obj _ _ st2 c hc).elim fun ob z => Heap.lt_size z.1
  generalize eH3 : upd H2 Da (.ext (dctO Da [] { cls := .type "dict", data := .dict #[] })) = H3 at I3 w0
  have f3 : ∀ c ∈ fp, FpOk X pins H3 c ∧ c < s3.heap.objs.size := fun c hc => by
    have lt := old c hc
    refine ⟨⟨?_, (f2 c hc).2⟩, by rw [k3, Heap.size_push]; exact Nat.lt_succ_of_lt lt⟩
    rw [← eH3, upd_ne (by rw [← eD]; exact Nat.ne_of_lt lt)]
    exact (f2 c hc).1
  have st3 : tn 0 s3.heap := T.keep _ _ _ st2 fun c _ ob z => by rw [k3]; exact Heap.get?_push_of_some _ z
  have I4 := block_start I3 ok nd f3
  have pg := jg s3 H3 s3.heap.objs.size (cellsFrom (s3.heap.objs.size + 1) scope.names (cloFrom X.env.cells scope.names [])) fp
  have pt := jt s3 H3 s3.heap.objs.size (cellsFrom (s3.heap.objs.size + 1) scope.names (cloFrom X.env.cells scope.names [])) fp
  have pk := jk s3 H3 s3.heap.objs.size (cellsFrom (s3.heap.objs.size + 1) scope.names (cloFrom X.env.cells scope.names [])) fp
  have pv := jv s3 H3 s3.heap.objs.size (cellsFrom (s3.heap.objs.size + 1) scope.names (cloFrom X.env.cells scope.names [])) fp
  show codeAny _ _ (.compStart _ 0 (.ref it) (.ref Da) (compEnvC scope (cellsFrom (s3.heap.objs.size + 1) scope.names (cloFrom X.env.cells scope.names [])) s3.heap.objs.size X.env)) (compPost (model X.prog X.w) X.A X.xe use Qf (.ref Da) s3.heap.objs.size) { s3 with heap := pushCells (s3.heap.push { cls := .type "dict", data := .dict #[] }) scope.names }
  generalize eE : compEnvC scope (cellsFrom (s3.heap.objs.size + 1) scope.names (cloFrom X.env.cells scope.names [])) s3.heap.objs.size X.env = ce at I4 pg pt pk pv ⊢
  have cL : ce.locals = s3.heap.objs.size := by rw [← eE]; rfl
  generalize e4 : ({ s3 with heap := pushCells (s3.heap.push { cls := .type "dict", data := .dict #[] }) scope.names } : Shared) = s4 at I4 ⊢
  have st4 : tn 0 s4.heap := T.keep _ _ _ st3 fun c _ ob z => by rw [← e4]; exact pushCells_keeps _ _ _ _ (Heap.get?_push_of_some _ z)
  have fpk : ∀ {σ' : L2.St} {H' : Hp} {s' : Shared}, Inv (X.blk s3 H3 scope ce fp) [] σ' H' s' → (∀ c ∈ fp, H' c = none) → ∀ c ∈ fp, FpOk (X.blk s3 H3 scope ce fp) [] H' c := fun {σ' H' s'} J' n c hc =>
    ⟨n c hc, (J'.ok.exf c hc).1, J'.ok.exfs c hc, .inl hc, fun x d e => (J'.ok.exf c hc).2 x d e, fun p hp => absurd (show p ∈ ([] : List (Addr × Obj)) ++ [] from hp) (by simp)⟩
  have whole : codeAny (model X.prog X.w) X.A (.compLoop (.DictComp ek ev [⟨tg, iter, ifs, 0⟩] scope pos) 0 (.ref it) (.ref Da) ce) (compPost (model X.prog X.w) X.A X.xe use Qf (.ref Da) s3.heap.objs.size) s4 := by
    refine compLoop_anyD (fun n s' => ∃ i H', Inv (X.blk s3 H3 scope ce fp) [] (L2.wipe σ (own.map (·.2))) H' s' ∧ tn i s'.heap ∧ (∀ c ∈ fp, H' c = none) ∧ W i n H') (fun n s5 ⟨i, H5, I5, st5, n5, w5⟩ => ?_) m0 ⟨0, H3, I4, st4, fun c hc => (f3 c hc).1.1, w0⟩
    rcases turn i n H5 w5 with ⟨stop, qq⟩ | ⟨go, Nx, hNx, step⟩
    · refine thnF (T.done (X.blk s3 H3 scope ce fp) rfl rfl rfl calm i [] s5 _ H5 (fun _ _ => False) I5 (fpk I5 n5) st5 stop) fun r s6 ⟨hr, I6⟩ => ?_
      subst hr
      have I7 : Inv X pins σ H5 s6 := I3.call' (ch := fp) I6.os I6.base I6.hok I6.bare fun c hc => ⟨(f3 c hc).1.2.2.2.1, (f3 c hc).1.2.1, (f3 c hc).1.2.2.2.2.1, (f3 c hc).1.2.2.2.2.2⟩
      have nC : H5 s3.heap.objs.size = none := cL ▸ (show H5 ce.locals = none from I6.free)
      obtain ⟨m, hn, _⟩ := I6.loc
      have hn2 : s6.heap.Ns ce.locals m := hn
      rw [cL] at hn2
      exact after Da s3.heap.objs.size s6 m H5 I7 qq hn2 (I3.fpOk (Nat.le_refl _) nC)
    · refine thnF (T.item (X.blk s3 H3 scope ce fp) rfl rfl rfl calm i [] s5 _ H5 (fun _ _ => False) I5 (fpk I5 n5) st5 go) fun r s6 ⟨u, hr, q6⟩ => ?_
      subst hr
      refine thnF q6 fun _ s7 ⟨x, H7, I7, r7, y7, st7, n7⟩ => ?_
      refine thnF (pg.run _ s7 _ H7 x u _ (I7.pinned (fpk I7 n7) (T.obj _ _ st7)) r7 (step x H7 y7)) fun _ s8 ⟨σ8, H8, I8, hw8, q8⟩ => thnF (pt.run _ s8 σ8 H8 _ I8 q8) fun b s9 ⟨H9, I9, q9⟩ => ?_
      have fin : ∀ {s' : Shared} {H' : Hp}, Inv (X.blk s3 H3 scope ce fp) ([] ++ pinsAt fp s7.heap) σ8 H' s' → Nx H' → ∃ m, m < n ∧ ∃ i H', Inv (X.blk s3 H3 scope ce fp) [] (L2.wipe σ (own.map (·.2))) H' s' ∧ tn i s'.heap ∧ (∀ c ∈ fp, H' c = none) ∧ W i m H' := fun {s' H'} J' nx => by
        obtain ⟨m', lt, w'⟩ := hNx H' nx
        have pin : ∀ c ∈ fp, ∀ ob, s7.heap.get? c = some ob → s'.heap.get? c = some ob ∧ H' c = none := fun c hc ob z => (J'.pin (c, ob) (List.mem_append_right _ (List.mem_append_right _ (mem_pinsAt hc z)))).imp id fun z => z.1
        refine ⟨m', lt, i + 1, H', (J'.unpinned (pins := [])).weak (by rw [← hw8, wipe_length]) (fun j v e => ?_), T.keep _ _ _ st7 fun c hc ob z => (pin c hc ob z).1, fun c hc => (T.obj _ _ st7 c hc).elim fun ob z => (pin c hc ob z.1).2, w'⟩
        rw [← hw8] at e
        exact (wipe_some e).1
      cases b with
      | false =>
        simp only [Bool.false_eq_true, if_false] at q9 ⊢
        exact fin I9 q9
      | true =>
        simp only [if_true] at q9 ⊢
        refine thnF (pk.run _ s9 σ8 H9 _ I9 q9) fun z s10 ⟨yk, H10, I10, r10, q10⟩ => thnF (pv.run _ s10 σ8 H10 _ I10 q10) fun z2 s11 ⟨yv, H11, I11, r11, q11⟩ => ?_
        exact set_C (X := X.blk s3 H3 scope ce fp) hu I11 q11 r10 r11 fun s12 H12 I12 nx => fin I12 nx
  exact codeAny_compStart_dict whole (T.self X.A 0 _ _ _ st4 whole)
theorem pe_dcC {ek ev tg iter : Expr} {ifs : List Expr} {scope : Scope} {own : List (Str × Nat)} {pos : Pos} {wi : TI} {g : TG} {tt : TT} {tk tv : TE} (hu : X.A.units + 65 < cLine) (calm : X.calm = true) (nd : X.N.Nodup) (pi : PI X tg iter wi) (ok : BlkOk X.N X.env.scope scope own)
    (jg : ∀ (t : Shared) (G : Hp) (C : Addr) (cl : List (Str × Addr)) (fp : List Addr), PG (X.blk t G scope (compEnvC scope cl C X.env) fp) tg g) (jt : ∀ (t : Shared) (G : Hp) (C : Addr) (cl : List (Str × Addr)) (fp : List Addr), PTs (X.blk t G scope (compEnvC scope cl C X.env) fp) ifs tt)
    (jk : ∀ (t : Shared) (G : Hp) (C : Addr) (cl : List (Str × Addr)) (fp : List Addr), PE (X.blk t G scope (compEnvC scope cl C X.env) fp) ek tk) (jv : ∀ (t : Shared) (G : Hp) (C : Addr) (cl : List (Str × Addr)) (fp : List Addr), PE (X.blk t G scope (compEnvC scope cl C X.env) fp) ev tv)
    (fold : ∀ x, foldedSetIterable iter X.env x = pure x) : PE X (.DictComp ek ev [⟨tg, iter, ifs, 0⟩] scope pos) (tDcC X.K wi g tt tk tv (own.map (·.2))) := by
  refine ⟨fun pins s σ H Q I h => ?_⟩
  rw [arm_eval_DictComp]
  exact dcC_core hu calm nd I pi ok jg jt jk jv fold h fun Da C s' m H' J q hn ⟨k0, k1, k2, k3, k4, k5⟩ => ⟨m, hn, fun h'' sb => ⟨.ref Da, H', J.turned (t' := s'.toks) (fun c ob hc z => (sb.2 c hc).trans z) k0 k1 k3 k4 k5, rfl, q⟩⟩
end
/-! ### the same, of data -/
/-- f x: what a turn of the datum x puts (key and value), or nothing -/
def dcL (f : D → (Option (D × D) → Prop) → Prop) : List D → List (D × D) → (List (D × D) → Prop) → Prop
  | [], acc, k => k acc
  | x :: xs, acc, k => f x fun o => match o with
    | some p => p.1.key = true ∧ dcL f xs (dPut acc p.1 p.2) k
    | none => dcL f xs acc k
structure DcQ (X : Cx) (scope : Scope) (vs : List Nat) (tg ek ev : Expr) (ifs : List Expr) (ρ : List Sl) (ds : List D) (I : Nat → List (D × D) → Prop) (Φ : D → Prop) : Prop where
  len : ds.length ≤ 100000
  start : I 0 []
  turn : ∀ i d acc, ds[i]? = some d → I i acc → ∃ ρ', QGb X scope vs tg d (wipeS ρ vs) ρ' ∧ ∃ Θ : Bool → Prop, (match ifs with
      | [] => Θ true
      | c :: _ => ∀ s H C cl fp, QT (BlkX X scope s H C cl fp) (fun _ => False) c ρ' Θ) ∧
    (Θ true → ∀ s H C cl fp, QX (BlkX X scope s H C cl fp) (fun _ => False) ek ρ' fun y => ∀ s H C cl fp, QX (BlkX X scope s H C cl fp) (fun _ => False) ev ρ' fun z => y.key = true ∧ I (i + 1) (dPut acc y z)) ∧ (Θ false → I (i + 1) acc)
  fin : ∀ acc, I ds.length acc → Φ (dctD acc)
section
variable {X : Cx} {Ψ : Str → Prop} {ρ : List Sl} {R : Po} {Φ : D → Prop} {e : Expr} {pos p : Pos} {rest : List Stmt}
theorem dPut_length {kvs : List (D × D)} {k v : D} : (dPut kvs k v).length ≤ kvs.length + 1 := by
  unfold dPut
  split <;> simp
theorem dc_go {scope : Scope} {vs : List Nat} {tg ek ev : Expr} {ifs : List Expr} {ds : List D} {I : Nat → List (D × D) → Prop} {B Hi1 H1 : Hp} {σ : L2.St} {Q : VK} {J : It} (L : DcQ X scope vs tg ek ev ifs ρ ds I Φ) (S : StOk X.K B Hi1 H1 σ ρ) (wk : Walks X.K J Hi1 ds)
    (q : ∀ v d Hi' H', Φ d → Gr Hi1 H1 Hi' H' → Rp X.K Hi' v d → Q v H') : ∀ Da o0, H1 Da = none → ∃ W : Nat → Nat → Hp → Prop, (∃ m, W 0 m (upd H1 Da (.ext (dctO Da [] o0)))) ∧ ∀ i m H2, W i m H2 →
      (J.stop i H2 ∧ Q (.ref Da) H2) ∨ (J.go i H2 ∧ ∃ Nx : Hp → Prop, (∀ H3, Nx H3 → ∃ m', m' < m ∧ W (i + 1) m' H3) ∧ ∀ x H3, J.yld i H2 x H3 → TurnC X.K Da (bG X scope tg) (ttOf X scope ifs) (bE X scope ek) (bE X scope ev) vs σ Nx x H3) := by
  intro Da o0 hD
  refine ⟨fun i m H => m = ds.length - i ∧ i ≤ ds.length ∧ ∃ Hi2 xs us o acc, I i acc ∧ acc.length ≤ i ∧ Gr Hi1 H1 Hi2 H ∧ Hi2 Da = none ∧ H Da = some (.ext (dctO Da xs o)) ∧ DOk X.K Hi2 xs us acc,
    ⟨ds.length, by simp, Nat.zero_le _, Hi1, [], [], o0, [], L.start, Nat.le_refl _, Gr.out S.sub (Ex.new hD), S.sub.free hD, upd_same, ⟨rfl, rfl, .nil, .nil, .nil⟩⟩, ?_⟩
  rintro i m H ⟨rfl, hi, Hi2, xs, us, o, acc, hI, hle, g2, n2, x2, dk⟩
  have hlen := L.len
  by_cases hlt : i < ds.length
  · refine .inr ⟨wk.go i H (g2.i.trans g2.sub) hlt, _, fun H' p => ⟨ds.length - (i + 1), by omega, rfl, hlt, p⟩, fun x H' y => ?_⟩
    obtain ⟨d, Hi3, hd, g3, r3⟩ := wk.yld i H x H' Hi2 g2.i g2.sub y hlt
    obtain ⟨ρ', hg, Θ, ht, hy, hn⟩ := L.turn i d acc hd hI
    have g23 := g2.trans g3
    have keepD : ∀ {Hj Hk : Hp}, Gr Hi2 H Hj Hk → Hj Da = none := fun {Hj Hk} g => by
      cases z : Hj Da with
      | none => rfl
      | some u => rw [g.new Da n2 ⟨u, z⟩] at x2; cases x2
    refine hg B Hi3 H' _ x ((S.wipe vs).grow g23) r3 _ fun σ2 S2 hw => ⟨by rw [hw, wipe_wipe], ?_⟩
    have put_go : ∀ {Hj Hk : Hp}, Gr Hi2 H Hj Hk → StOk X.K B Hj Hk σ2 ρ' → Θ true → bE X scope ek σ2 Hk fun y H4 => bE X scope ev σ2 H4 fun z H5 => StoreC X.K Da (fun H6 => ∃ Hi2 xs us o acc, I (i + 1) acc ∧ acc.length ≤ i + 1 ∧ Gr Hi1 H1 Hi2 H6 ∧ Hi2 Da = none ∧ H6 Da = some (.ext (dctO Da xs o)) ∧ DOk X.K Hi2 xs us acc) y z H5 := fun {Hj Hk} gj Sj hΘ s H0 C cl fp => by
      refine hy hΘ s H0 C cl fp B Hj Hk σ2 (fun _ _ _ _ => False) takes0 Sj (fun _ _ _ z => z.elim) _ fun y dy Hi4 H4 hz4 g4 r4 => fun s H0 C cl fp => ?_
      refine hz4 s H0 C cl fp B Hi4 H4 σ2 (fun _ _ _ _ => False) takes0 (Sj.grow g4) (fun _ _ _ z => z.elim) _ fun z dz Hi5 H5 ⟨hk, hz⟩ g5 r5 => ?_
      obtain ⟨c, rfl⟩ := key_ref hk r4
      have g25 := (gj.trans g4).trans g5
      have hD5 := keepD g25
      have r4' := r4.up g5.i
      have rk : RpA X.K Hi5 (xs.map fun x => V.ref x.2.1) (xs.map (·.1)) := dk.ks ▸ dk.rk.up g25.i
      have hl : xs.length = acc.length := by have := congrArg List.length dk.ks; simpa using this.symm
      refine ⟨c, xs, o, dy, rfl, r4'.up g5.sub, hk, g25.o _ _ x2, dk.ks ▸ dk.key, rk.up g5.sub, Nat.lt_of_le_of_lt (show xs.length ≤ 100000 by omega) (by decide), fun o' u ru => ?_⟩
      obtain ⟨us', dk'⟩ := (show DOk X.K Hi5 xs us acc from ⟨dk.ks, dk.key, dk.rk.up g25.i, dk.vl, dk.rv.up g25.i⟩).put hk r4' r5 ru
      refine ⟨Hi5, _, us', o', dPut acc dy dz, hz, Nat.le_trans dPut_length (by omega), ⟨g2.i.trans g25.i, fun c u z => ?_, fun c u z => ?_, fun c z1 z2 => (g2.trans g25).new c z1 z2⟩, hD5, upd_same, dk'⟩
      · rw [upd_ne (ne_of_none z hD)]; exact (g2.trans g25).o c u z
      · rw [upd_ne (ne_of_none z hD5)]; exact g5.sub c u z
    have no_go : ∀ {Hj Hk : Hp}, Gr Hi2 H Hj Hk → Θ false → ∃ Hi2 xs us o acc, I (i + 1) acc ∧ acc.length ≤ i + 1 ∧ Gr Hi1 H1 Hi2 Hk ∧ Hi2 Da = none ∧ Hk Da = some (.ext (dctO Da xs o)) ∧ DOk X.K Hi2 xs us acc := fun {Hj Hk} gj hΘ =>
      ⟨Hj, xs, us, o, acc, hn hΘ, by omega, g2.trans gj, keepD gj, gj.o _ _ x2, ⟨dk.ks, dk.key, dk.rk.up gj.i, dk.vl, dk.rv.up gj.i⟩⟩
    cases ifs with
    | nil => exact put_go g3 S2 ht
    | cons c r =>
      intro s H0 C cl fp
      refine ht s H0 C cl fp B Hi3 H' σ2 (fun _ _ _ _ => False) takes0 S2 (fun _ _ _ z => z.elim) _ fun b Hi4 H4 hb g4 => ?_
      cases b with
      | true => exact put_go (g3.trans g4) (S2.grow g4) hb
      | false => exact no_go (g3.trans g4) hb
  · have e : i = ds.length := by omega
    subst e
    have hx2 : (upd Hi2 Da (.ext (dctO Da xs o))) Da = some (.ext (dctO Da xs o)) := upd_same
    refine .inl ⟨wk.stop H (g2.i.trans g2.sub), q _ (dctD acc) (upd Hi2 Da (.ext (dctO Da xs o))) H (L.fin acc hI) ⟨g2.i.trans (Ex.new n2), g2.o, fun c u z => ?_, fun c z1 z2 => ?_⟩ (.dct hx2 dk.ks dk.key (dk.rk.up (Ex.new n2)) dk.vl (dk.rv.up (Ex.new n2)))⟩
    · by_cases h : c = Da
      · subst h; rw [upd_same] at z; cases z; exact x2
      · rw [upd_ne h] at z; exact g2.sub c u z
    · by_cases h : c = Da
      · subst h; exact hD
      · obtain ⟨u, z⟩ := z2
        rw [upd_ne h] at z
        exact g2.new c z1 ⟨u, z⟩
end
end G
namespace G
open PySem PySem.Spec L2
/-! ### S: what a piece of the program asks, with no program in sight. M: what is wanted of the value, of what is raised -/
abbrev M := (D → Prop) → (Str → Prop) → Prop
abbrev MB := (Bool → Prop) → (Str → Prop) → Prop
abbrev MA := (List D → Prop) → (Str → Prop) → Prop
def ret (d : D) : M := fun Φ _ => Φ d
def bin (op : D → D → (D → Prop) → Prop) (a b : M) : M := fun Φ Ψ => a (fun x => b (fun y => op x y Φ) Ψ) Ψ
def una (op : D → (D → Prop) → Prop) (a : M) : M := fun Φ Ψ => a (fun x => op x Φ) Ψ
def cmpV (op : D → D → (Bool → Prop) → Prop) (a b : M) : M := fun Φ Ψ => a (fun x => b (fun y => op x y (fun k => Φ (.bl k))) Ψ) Ψ
def cmpT (op : D → D → (Bool → Prop) → Prop) (a b : M) : MB := fun Θ Ψ => a (fun x => b (fun y => op x y Θ) Ψ) Ψ
def bv (x : D) (Θ : Bool → Prop) : Prop := match x with
  | .bl k => Θ k
  | _ => False
def tv (a : M) : MB := fun Θ Ψ => a (fun x => bv x Θ) Ψ
def notT (a : MB) : MB := fun Θ Ψ => a (fun k => Θ (!k)) Ψ
def andT (a b : MB) : MB := fun Θ Ψ => a (fun k => if k = true then b Θ Ψ else Θ false) Ψ
def orT (a b : MB) : MB := fun Θ Ψ => a (fun k => if k = true then Θ true else b Θ Ψ) Ψ
def notV (a : M) : M := fun Φ Ψ => a (fun x => bv x fun k => Φ (.bl (!k))) Ψ
def andV (a b : M) : M := fun Φ Ψ => a (fun x => bv x fun k => if k = true then b Φ Ψ else Φ (.bl false)) Ψ
def orV (a b : M) : M := fun Φ Ψ => a (fun x => bv x fun k => if k = true then Φ (.bl true) else b Φ Ψ) Ψ
def ifE (c : MB) (a b : M) : M := fun Φ Ψ => c (fun k => if k = true then a Φ Ψ else b Φ Ψ) Ψ
def nilA : MA := fun K _ => K []
def consA (a : M) (r : MA) : MA := fun K Ψ => a (fun x => r (fun xs => K (x :: xs)) Ψ) Ψ
def tupE (a : MA) : M := fun Φ Ψ => a (fun ds => Φ (.tup ds)) Ψ
def lstE (a : MA) : M := fun Φ Ψ => a (fun ds => Φ (.lst ds)) Ψ
def c1 (f : D → M) (a : M) : M := fun Φ Ψ => a (fun x => f x Φ Ψ) Ψ
def c2 (f : D → D → M) (a b : M) : M := fun Φ Ψ => a (fun x => b (fun y => f x y Φ Ψ) Ψ) Ψ
def c3 (f : D → D → D → M) (a b c : M) : M := fun Φ Ψ => a (fun x => b (fun y => c (fun z => f x y z Φ Ψ) Ψ) Ψ) Ψ
def c4 (f : D → D → D → D → M) (a b c d : M) : M := fun Φ Ψ => a (fun x => b (fun y => c (fun z => d (fun u => f x y z u Φ Ψ) Ψ) Ψ) Ψ) Ψ
def un2 (p : D) (k : D → D → Prop) : Prop := match p with
  | .tup [a, b] => k a b
  | .lst [a, b] => k a b
  | _ => False
def un3 (p : D) (k : D → D → D → Prop) : Prop := match p with
  | .tup [a, b, c] => k a b c
  | .lst [a, b, c] => k a b c
  | _ => False
def seqD (d : D) (k : List D → Prop) : Prop := match d with
  | .lst ds => k ds
  | .tup ds => k ds
  | _ => False
def lcL (f : D → (Option D → Prop) → Prop) : List D → List D → (List D → Prop) → Prop
  | [], acc, k => k acc
  | x :: xs, acc, k => f x fun o => match o with
    | some y => lcL f xs (acc ++ [y]) k
    | none => lcL f xs acc k
def lcE (it : MA) (f : D → (Option D → Prop) → Prop) : M := fun Φ Ψ => it (fun ds => ds.length ≤ 100000 ∧ lcL f ds [] fun ys => Φ (.lst ys)) Ψ
abbrev bot : Str → Prop := fun _ => False
def forL {S : Type} (f : D → S → (S → Prop) → (S → Prop) → Prop) (k : S → Prop) : List D → S → Prop
  | [], s => k s
  | x :: xs, s => f x s (fun s' => forL f k xs s') k
def whileM {S : Type} (s0 : S) (f : S → (S → Prop) → (S → Prop) → Prop) (k : S → Prop) : Prop := ∃ I : Nat → S → Prop, (∃ m, I m s0) ∧ ∀ m s, I m s → f s (fun s' => ∃ m', m' < m ∧ I m' s') k
def join {κ : Type} (rest : κ) (body : κ → Prop) : Prop := body rest
/-! ### the operators -/
def addD (x y : D) (Φ : D → Prop) : Prop := match x, y with
  | .int i, .int j => Φ (.int (i + j))
  | .lst a, .lst b => a.length + b.length ≤ 100000 ∧ Φ (.lst (a ++ b))
  | .tup a, .tup b => a.length + b.length ≤ 100000 ∧ Φ (.tup (a ++ b))
  | .str a, .str b => a.length + b.length ≤ 100000 ∧ Φ (.str (a ++ b))
  | _, _ => False
def subD (x y : D) (Φ : D → Prop) : Prop := match x, y with
  | .int i, .int j => Φ (.int (i - j))
  | _, _ => False
def mulD (x y : D) (Φ : D → Prop) : Prop := match x, y with
  | .int i, .int j => CMulW i j ∧ Φ (.int (i * j))
  | .lst a, .int k => (0 ≤ k ∧ k ≤ 1000 ∧ a.length * k.toNat ≤ 100000) ∧ Φ (.lst (List.replicate k.toNat a).flatten)
  | _, _ => False
def fdivD (x y : D) (Φ : D → Prop) : Prop := match x, y with
  | .int i, .int j => CDivZ i j ∧ Φ (.int (i.fdiv j))
  | _, _ => False
def modD (x y : D) (Φ : D → Prop) : Prop := match x, y with
  | .int i, .int j => 0 < j ∧ Φ (.int (i % j))
  | _, _ => False
def negD (x : D) (Φ : D → Prop) : Prop := match x with
  | .int i => Φ (.int (-i))
  | _ => False
def ixD (x y : D) (Φ : D → Prop) : Prop := match x, y with
  | .lst ds, .int i => (match atI ds i with
    | some d => Φ d
    | none => False)
  | .tup ds, .int i => (match atI ds i with
    | some d => Φ d
    | none => False)
  | .dct ks vs, y => y.key = true ∧ ∃ e, dGet ks vs y = some e ∧ Φ e
  | _, _ => False
def eqB (x y : D) (Θ : Bool → Prop) : Prop := (D.shp 40 x = true ∧ D.shp 40 y = true) ∧ Θ (deq x y)
def neB (x y : D) (Θ : Bool → Prop) : Prop := (D.shp 40 x = true ∧ D.shp 40 y = true) ∧ Θ (!deq x y)
def ltB (x y : D) (Θ : Bool → Prop) : Prop := match x, y with
  | .int i, .int j => Θ (decide (i < j))
  | _, _ => False
def leB (x y : D) (Θ : Bool → Prop) : Prop := match x, y with
  | .int i, .int j => Θ (decide (i ≤ j))
  | _, _ => False
def gtB (x y : D) (Θ : Bool → Prop) : Prop := match x, y with
  | .int i, .int j => Θ (decide (j < i))
  | _, _ => False
def geB (x y : D) (Θ : Bool → Prop) : Prop := match x, y with
  | .int i, .int j => Θ (decide (j ≤ i))
  | _, _ => False
def inB (x y : D) (Θ : Bool → Prop) : Prop := match y with
  | .lst ds => (D.shp 40 x = true ∧ D.shpA 40 ds = true) ∧ Θ (memD x ds)
  | .tup ds => (match x with
    | .int i => ∃ ns : List Int, ds = ns.map D.int ∧ Θ (decide (i ∈ ns))
    | _ => (D.shp 40 x = true ∧ D.shpA 40 ds = true) ∧ Θ (memD x ds))
  | .dct ks _ => x.key = true ∧ Θ (decide (x ∈ ks))
  | _ => False
def isNB (x _y : D) (Θ : Bool → Prop) : Prop := Θ x.isN
def notNB (x _y : D) (Θ : Bool → Prop) : Prop := Θ (!x.isN)
def isVB (x y : D) (Θ : Bool → Prop) : Prop := match y with
  | .bl k => Θ (x.isV k)
  | _ => False
def isntVB (x y : D) (Θ : Bool → Prop) : Prop := match y with
  | .bl k => Θ (!x.isV k)
  | _ => False
/-! ### the judgements -/
structure SX (X : Cx) (e : Expr) (ρ : List Sl) (m : M) : Prop where
  run : ∀ {Φ Ψ}, m Φ Ψ → QX X Ψ e ρ Φ
structure ST (X : Cx) (e : Expr) (ρ : List Sl) (m : MB) : Prop where
  run : ∀ {Θ Ψ}, m Θ Ψ → QT X Ψ e ρ Θ
structure SW (X : Cx) (e : Expr) (ρ : List Sl) (m : MB) : Prop where
  run : ∀ {Θ Ψ}, m Θ Ψ → QW X Ψ e ρ Θ
structure SA (X : Cx) (es : List Expr) (ρ : List Sl) (m : MA) : Prop where
  run : ∀ {K Ψ}, m K Ψ → QA X Ψ es ρ fun ds => ds.length = es.length ∧ K ds
structure SI (X : Cx) (tg iter : Expr) (ρ : List Sl) (m : MA) : Prop where
  run : ∀ {K Ψ}, m K Ψ → QI X Ψ tg iter ρ K
section
variable {X : Cx} {ρ : List Sl} {a b c e : Expr} {es : List Expr} {pos p p2 : Pos} {ma mb mc m : M} {ta tb tc : MB}
/-! ### names, constants -/
theorem sx_v (i : Nat) {x : Str} {d : D} (h : ρ[i]? = some (.dat d) := by rfl) (hN : X.N[i]? = some x := by rfl) (hv : Vis X.env.scope x := by first | exact Or.inl rfl | exact Or.inr (Or.inl rfl) | exact Or.inr (Or.inr rfl)) (hd : (x == ("__debug__" : Str)) = false := by decide)
    (hcd : (x == ("__classdict__" : Str)) = false := by decide) : SX X (.Name x pos) ρ (ret d) := ⟨fun h' => qx_var i h h' hN hv hd hcd⟩
theorem sx_i {i : Int} {j : Nat} : SX X (.Constant (.int i) j pos) ρ (ret (.int i)) := ⟨fun h => qx_int h⟩
theorem sx_b {i : Bool} {j : Nat} : SX X (.Constant (.bool i) j pos) ρ (ret (.bl i)) := ⟨fun h => qx_bl h⟩
theorem sx_n {j : Nat} : SX X (.Constant .none j pos) ρ (ret .non) := ⟨fun h => qx_non h⟩
theorem sx_s {i : Str} {j : Nat} : SX X (.Constant (.str i) j pos) ρ (ret (.str i)) := ⟨fun h => qx_str h⟩
theorem sx_lit {e : Expr} (d : D) (h : litD 60 e = some d := by kernel_rfl) : SX X e ρ (ret d) := ⟨fun k => (qe_litN 60 e d h).to k⟩
/-! ### operators -/
theorem OpR.or {f : Value → Value → Sem Value} {r1 r2 : R2} (h1 : OpR X f r1) (h2 : OpR X f r2) : OpR X f (fun x y H Q => r1 x y H Q ∨ r2 x y H Q) := fun pins s σ H x y v u Q I a b h => h.elim (h1 pins s σ H x y v u Q I a b) (h2 pins s σ H x y v u Q I a b)
theorem OpD.or {r1 r2 : R2} {R1 R2' : D → D → (D → Prop) → Prop} (h1 : OpD X r1 R1) (h2 : OpD X r2 R2') : OpD X (fun x y H Q => r1 x y H Q ∨ r2 x y H Q) (fun x y Φ => R1 x y Φ ∨ R2' x y Φ) := fun Hi H x y v u Φ s h a b Q q =>
  h.elim (fun h => .inl (h1 Hi H x y v u Φ s h a b Q q)) (fun h => .inr (h2 Hi H x y v u Φ s h a b Q q))
theorem sx_bin {op : Operator} {opd : D → D → (D → Prop) → Prop} {r : R2} {R : D → D → (D → Prop) → Prop} (ho : OpR X (binaryOp op) r) (hd : OpD X r R) (hr : ∀ x y Φ, opd x y Φ → R x y Φ) (ha : SX X a ρ ma) (hb : SX X b ρ mb) : SX X (.BinOp a op b pos) ρ (bin opd ma mb) :=
  ⟨fun h => qx_op ho hd ((ha.run h).mono fun x h => (hb.run h).mono fun y h => hr x y _ h)⟩
theorem od_addS : OpD X (fun x y H Q => ∃ i j, x = .str i ∧ y = .str j ∧ i.length + j.length ≤ sizeLine ∧ Q (.str (i ++ j)) H) (fun x y Φ => ∃ i j, x = .str i ∧ y = .str j ∧ i.length + j.length ≤ sizeLine ∧ Φ (.str (i ++ j))) := fun Hi H x y v u Φ s h r1 r2 Q q => by
  obtain ⟨i, j, e1, e2, hz, k⟩ := h
  subst e1 e2
  cases r1; cases r2
  exact ⟨i, j, rfl, rfl, hz, q _ _ Hi H k (Gr.refl s) (.str _)⟩
theorem sx_add (ha : SX X a ρ ma) (hb : SX X b ρ mb) : SX X (.BinOp a .Add b pos) ρ (bin addD ma mb) :=
  sx_bin ((op_add.or op_cat).or (op_catA.or op_add_str)) ((od_I0 fun _ _ _ => .int _).or od_cat |>.or (od_catT.or od_addS)) (fun x y Φ h => by
    cases x <;> cases y <;> first
      | exact .inl (.inl ⟨_, _, rfl, rfl, h⟩)
      | exact .inl (.inr ⟨_, _, rfl, rfl, small h.1, h.2⟩)
      | exact .inr (.inl ⟨_, _, rfl, rfl, small h.1, h.2⟩)
      | exact .inr (.inr ⟨_, _, rfl, rfl, small h.1, h.2⟩)
      | exact False.elim h) ha hb
theorem sx_sub (ha : SX X a ρ ma) (hb : SX X b ρ mb) : SX X (.BinOp a .Sub b pos) ρ (bin subD ma mb) :=
  sx_bin op_sub (od_I0 fun _ _ _ => .int _) (fun x y Φ h => by cases x <;> cases y <;> first | exact ⟨_, _, rfl, rfl, h⟩ | exact False.elim h) ha hb
theorem sx_mul (ha : SX X a ρ ma) (hb : SX X b ρ mb) : SX X (.BinOp a .Mult b pos) ρ (bin mulD ma mb) :=
  sx_bin (op_mulW.or op_rep) ((od_I fun _ _ _ => .int _).or od_rep) (fun x y Φ h => by
    cases x <;> cases y <;> first
      | exact .inl ⟨_, _, rfl, rfl, h.1, h.2⟩
      | exact .inr ⟨_, _, rfl, rfl, h.1.1, h.1.2.1, small h.1.2.2, h.2⟩
      | exact False.elim h) ha hb
theorem sx_fdiv (ha : SX X a ρ ma) (hb : SX X b ρ mb) : SX X (.BinOp a .FloorDiv b pos) ρ (bin fdivD ma mb) :=
  sx_bin op_fdivZ (od_I fun _ _ _ => .int _) (fun x y Φ h => by cases x <;> cases y <;> first | exact ⟨_, _, rfl, rfl, h.1, h.2⟩ | exact False.elim h) ha hb
theorem sx_mod (ha : SX X a ρ ma) (hb : SX X b ρ mb) : SX X (.BinOp a .Mod b pos) ρ (bin modD ma mb) :=
  sx_bin op_mod (od_I fun _ _ _ => .int _) (fun x y Φ h => by cases x <;> cases y <;> first | exact ⟨_, _, rfl, rfl, h.1, h.2⟩ | exact False.elim h) ha hb
theorem sx_neg (ha : SX X a ρ ma) : SX X (.UnaryOp .USub a pos) ρ (una negD ma) := ⟨fun h => qx_neg ((ha.run h).mono fun x h => by cases x <;> first | exact ⟨_, rfl, h⟩ | exact False.elim h)⟩
theorem IxR.or {r1 r2 : R2} (h1 : IxR X r1) (h2 : IxR X r2) : IxR X (fun x y H Q => r1 x y H Q ∨ r2 x y H Q) := fun e1 e2 pins s σ H x y v u Q I a b h z => h.elim (fun h => h1 e1 e2 pins s σ H x y v u Q I a b h z) (fun h => h2 e1 e2 pins s σ H x y v u Q I a b h z)
theorem r_ixL {y : D} {ds : List D} {Φ : D → Prop} (h : ixD (.lst ds) y Φ) : ∃ i d, y = .int i ∧ atI ds i = some d ∧ Φ d := by
  cases y with
  | int i =>
    unfold ixD at h
    dsimp only at h
    split at h
    · exact ⟨_, _, rfl, by assumption, h⟩
    · exact h.elim
  | _ => exact False.elim h
theorem r_ixT {y : D} {ds : List D} {Φ : D → Prop} (h : ixD (.tup ds) y Φ) : ∃ i d, y = .int i ∧ atI ds i = some d ∧ Φ d := by
  cases y with
  | int i =>
    unfold ixD at h
    dsimp only at h
    split at h
    · exact ⟨_, _, rfl, by assumption, h⟩
    · exact h.elim
  | _ => exact False.elim h
theorem r_ixC {y : D} {ks vs : List D} {Φ : D → Prop} (h : ixD (.dct ks vs) y Φ) : y.key = true ∧ ∃ e, dGet ks vs y = some e ∧ Φ e := by
  cases y <;> exact h
theorem sx_ix (hu : X.A.units + 65 < cLine) (ha : SX X a ρ ma) (hb : SX X b ρ mb) (hp : PlainIx b := by exact fun _ _ => rfl) : SX X (.Subscript a b pos) ρ (bin ixD ma mb) :=
  ⟨fun h => qx_ix ((ix_tup.or ix_list).or (ix_C hu)) ((od_ixT.or od_ixL).or od_ixC) hp ((ha.run h).mono fun x h => (hb.run h).mono fun y h => by
    cases x with
    | lst ds => obtain ⟨i, d, rfl, e, k⟩ := r_ixL h; exact .inl (.inr ⟨_, _, _, rfl, rfl, e, k⟩)
    | tup ds => obtain ⟨i, d, rfl, e, k⟩ := r_ixT h; exact .inl (.inl ⟨_, _, _, rfl, rfl, e, k⟩)
    | dct ks vs => obtain ⟨hk, e, h1, h2⟩ := r_ixC h; exact .inr ⟨_, _, _, rfl, hk, h1, h2⟩
    | _ => cases y <;> exact False.elim h)⟩
/-! comparisons -/
theorem sx_cmp {op : CmpOp} {opd : D → D → (Bool → Prop) → Prop} {r : R2} {R : D → D → (D → Prop) → Prop} (ho : OpR X (compareOp op) r) (hd : OpD X r R) (hr : ∀ x y Θ, opd x y Θ → R x y fun d => ∃ k, d = .bl k ∧ Θ k) (hm : behindInMarks op b = false) (ha : SX X a ρ ma) (hb : SX X b ρ mb) :
    SX X (.Compare a [op] [b] pos) ρ (cmpV opd ma mb) :=
  ⟨fun {Φ Ψ} h => QX.mono (qx_cmp ho hd hm ((ha.run h).mono fun x h => (hb.run h).mono fun y h => hr x y (fun k => Φ (.bl k)) h)) fun d ⟨k, e, z⟩ => by subst e; exact z⟩
theorem st_cmp {op : CmpOp} {opd : D → D → (Bool → Prop) → Prop} {r : R2} {R : D → D → (D → Prop) → Prop} (ho : OpR X (compareOp op) r) (hd : OpD X r R) (hr : ∀ x y Θ, opd x y Θ → R x y fun d => ∃ k, d = .bl k ∧ Θ k) (hm : behindInMarks op b = false) (ha : SX X a ρ ma) (hb : SX X b ρ mb) :
    ST X (.Compare a [op] [b] pos) ρ (cmpT opd ma mb) :=
  ⟨fun {Φ Ψ} h => qt_cmp ho hd hm ((ha.run h).mono fun x h => (hb.run h).mono fun y h => hr x y _ h)⟩
theorem r_lt {x y : D} {Θ : Bool → Prop} (h : ltB x y Θ) : ∃ i j, x = .int i ∧ y = .int j ∧ ∃ k, D.bl (decide (i < j)) = .bl k ∧ Θ k := by cases x <;> cases y <;> first | exact ⟨_, _, rfl, rfl, _, rfl, h⟩ | exact False.elim h
theorem r_le {x y : D} {Θ : Bool → Prop} (h : leB x y Θ) : ∃ i j, x = .int i ∧ y = .int j ∧ ∃ k, D.bl (decide (i ≤ j)) = .bl k ∧ Θ k := by cases x <;> cases y <;> first | exact ⟨_, _, rfl, rfl, _, rfl, h⟩ | exact False.elim h
theorem r_gt {x y : D} {Θ : Bool → Prop} (h : gtB x y Θ) : ∃ i j, x = .int i ∧ y = .int j ∧ ∃ k, D.bl (decide (j < i)) = .bl k ∧ Θ k := by cases x <;> cases y <;> first | exact ⟨_, _, rfl, rfl, _, rfl, h⟩ | exact False.elim h
theorem r_eq {x y : D} {Θ : Bool → Prop} (h : eqB x y Θ) : D.shp 40 x = true ∧ D.shp 40 y = true ∧ ∃ k, D.bl (deq x y) = .bl k ∧ Θ k := ⟨h.1.1, h.1.2, _, rfl, h.2⟩
theorem r_ne {x y : D} {Θ : Bool → Prop} (h : neB x y Θ) : D.shp 40 x = true ∧ D.shp 40 y = true ∧ ∃ k, D.bl (!deq x y) = .bl k ∧ Θ k := ⟨h.1.1, h.1.2, _, rfl, h.2⟩
theorem sx_lt (ha : SX X a ρ ma) (hb : SX X b ρ mb) : SX X (.Compare a [.Lt] [b] pos) ρ (cmpV ltB ma mb) := sx_cmp op_lt (od_I0 fun _ _ _ => .bl _) (fun _ _ _ => r_lt) (nomark _) ha hb
theorem st_lt (ha : SX X a ρ ma) (hb : SX X b ρ mb) : ST X (.Compare a [.Lt] [b] pos) ρ (cmpT ltB ma mb) := st_cmp op_lt (od_I0 fun _ _ _ => .bl _) (fun _ _ _ => r_lt) (nomark _) ha hb
theorem sx_gt (ha : SX X a ρ ma) (hb : SX X b ρ mb) : SX X (.Compare a [.Gt] [b] pos) ρ (cmpV gtB ma mb) := sx_cmp op_gt (od_I0 fun _ _ _ => .bl _) (fun _ _ _ => r_gt) (nomark _) ha hb
theorem st_gt (ha : SX X a ρ ma) (hb : SX X b ρ mb) : ST X (.Compare a [.Gt] [b] pos) ρ (cmpT gtB ma mb) := st_cmp op_gt (od_I0 fun _ _ _ => .bl _) (fun _ _ _ => r_gt) (nomark _) ha hb
theorem sx_eq (hu : X.A.units + 64 < cLine) (ha : SX X a ρ ma) (hb : SX X b ρ mb) : SX X (.Compare a [.Eq] [b] pos) ρ (cmpV eqB ma mb) := sx_cmp (op_eqD hu) (od_eqD (n := 40) (by decide)) (fun _ _ _ => r_eq) (nomark _) ha hb
theorem st_eq (hu : X.A.units + 64 < cLine) (ha : SX X a ρ ma) (hb : SX X b ρ mb) : ST X (.Compare a [.Eq] [b] pos) ρ (cmpT eqB ma mb) := st_cmp (op_eqD hu) (od_eqD (n := 40) (by decide)) (fun _ _ _ => r_eq) (nomark _) ha hb
theorem st_ne (hu : X.A.units + 64 < cLine) (ha : SX X a ρ ma) (hb : SX X b ρ mb) : ST X (.Compare a [.NotEq] [b] pos) ρ (cmpT neB ma mb) := st_cmp (op_neD hu) (od_neD (n := 40) (by decide)) (fun _ _ _ => r_ne) (nomark _) ha hb
def rInDT (K : PySem.W.Frag) : R2 := fun x y H Q => ∃ d ds, Dp K H x d ∧ Dp K H y (.tuple ds) ∧ PySem.SeqAt.shaped d = true ∧ PySem.SeqAt.shaped (.tuple ds) = true ∧ Q (.bl (ds.any fun z => PyData.eqv z d)) H
theorem op_inDT (hu : X.A.units + 65 < cLine) : OpR X (compareOp .In) (rInDT X.K) := by
  intro pins s σ H x y v u Q I rx ry h
  obtain ⟨d, ds, hd, he, sd, se, q⟩ := h
  obtain ⟨as, r1⟩ := Dp.reads I d x v hd rx
  obtain ⟨bs, r2⟩ := Dp.reads I (.tuple ds) y u he ry
  exact PySem.SeqAt.in_tuple_reads r2 r1 (PySem.SeqAt.canLay_of_shaped se) (PySem.SeqAt.canLay_of_shaped sd) (PyProof.Rows.room_in_shaped sd hu) ⟨.bl _, H, I, rfl, q⟩
theorem od_inDT {n : Nat} (hn : n < 64) : OpD X (rInDT X.K) (fun x y Φ => ∃ ds, y = .tup ds ∧ D.shp n x = true ∧ D.shpA n ds = true ∧ Φ (.bl (memD x ds))) := fun Hi H x y v u Φ s h r1 r2 Q q => by
  obtain ⟨ds, e, s1, s2, k⟩ := h
  subst e
  have s3 : D.shp (n + 1) (.tup ds) = true := by rw [shp_tup]; exact s2
  refine ⟨x.py, D.pyA ds, Rp.dp x v n s1 (r1.up s), Rp.dp (.tup ds) u (n + 1) s3 (r2.up s), D.shp_shaped s1 (by omega), D.shp_shaped s3 (by omega), ?_⟩
  rw [pyA_any]
  exact q _ _ Hi H k (Gr.refl s) (.bl _)
theorem r_in {x y : D} {Θ : Bool → Prop} (h : inB x y Θ) : (((∃ ds, y = .lst ds ∧ D.shp 40 x = true ∧ D.shpA 40 ds = true ∧ ∃ k, D.bl (memD x ds) = .bl k ∧ Θ k) ∨ ∃ (i : Int) (ns : List Int), x = .int i ∧ y = .tup (ns.map D.int) ∧ ∃ k, D.bl (decide (i ∈ ns)) = .bl k ∧ Θ k) ∨
    ∃ ds, y = .tup ds ∧ D.shp 40 x = true ∧ D.shpA 40 ds = true ∧ ∃ k, D.bl (memD x ds) = .bl k ∧ Θ k) ∨ ∃ ks vs, y = .dct ks vs ∧ x.key = true ∧ ∃ k, D.bl (decide (x ∈ ks)) = .bl k ∧ Θ k := by
  cases y <;> first | exact .inr ⟨_, _, rfl, h.1, _, rfl, h.2⟩ | exact .inl (.inl (.inl ⟨_, rfl, h.1.1, h.1.2, _, rfl, h.2⟩)) | (cases x <;> first | (obtain ⟨ns, rfl, h⟩ := h; exact .inl (.inl (.inr ⟨_, ns, rfl, rfl, _, rfl, h⟩))) | exact .inl (.inr ⟨_, rfl, h.1.1, h.1.2, _, rfl, h.2⟩) | exact False.elim h) | exact False.elim h
theorem sx_in (hu : X.A.units + 65 < cLine) (ha : SX X a ρ ma) (hb : SX X b ρ mb) (hm : behindInMarks .In b = false := by rfl) : SX X (.Compare a [.In] [b] pos) ρ (cmpV inB ma mb) := sx_cmp ((((op_inD hu).or op_in_seq).or (op_inDT hu)).or (op_inC hu)) ((((od_inD (n := 40) (by decide)).or od_inT).or (od_inDT (n := 40) (by decide))).or od_inC) (fun _ _ _ => r_in) hm ha hb
variable {j : Nat} {k : Bool}
theorem st_isN (ha : SX X a ρ ma) : ST X (.Compare a [.Is] [.Constant .none j p] pos) ρ (cmpT isNB ma (ret .non)) := ⟨fun {Φ Ψ} h => qt_cmp op_isN od_isN (nomark _) ((ha.run h).mono fun x h => qx_non ⟨rfl, _, rfl, h⟩)⟩
/-! ### tests -/
theorem bv_of {x : D} {Θ : Bool → Prop} (h : bv x Θ) : ∃ k, x = .bl k ∧ Θ k := by cases x <;> first | exact ⟨_, rfl, h⟩ | exact False.elim h
theorem st_v (ha : SX X a ρ ma) (he : ∀ whole, isTrue a X.env whole = (do let v ← whole; standAt a.pos; holding [v] (truthy v)) := by intro _; rfl) : ST X a ρ (tv ma) := ⟨fun h => qt_val ((ha.run h).mono fun _ h => bv_of h) he⟩
theorem st_not (ha : ST X a ρ ta) : ST X (.UnaryOp .Not a pos) ρ (notT ta) := ⟨fun h => qt_not (ha.run h)⟩
theorem sw_t (h : SW X e ρ ta) : ST X e ρ ta := ⟨fun k => (h.run k).t⟩
theorem sw_and1 (ha : ST X a ρ ta) : SW X (.BoolOp .And [a] pos) ρ ta := ⟨fun h => qw_and1 (ha.run h)⟩
theorem sw_or1 (ha : ST X a ρ ta) : SW X (.BoolOp .Or [a] pos) ρ ta := ⟨fun h => qw_or1 (ha.run h)⟩
theorem sw_and {rest : List Expr} (ha : ST X a ρ ta) (hb : SW X (.BoolOp .And (b :: rest) pos) ρ tb) : SW X (.BoolOp .And (a :: b :: rest) pos) ρ (andT ta tb) := ⟨fun h => qw_and ((ha.run h).mono fun k h => by
  cases k with
  | true => exact hb.run h
  | false => exact h)⟩
theorem sw_or {rest : List Expr} (ha : ST X a ρ ta) (hb : SW X (.BoolOp .Or (b :: rest) pos) ρ tb) : SW X (.BoolOp .Or (a :: b :: rest) pos) ρ (orT ta tb) := ⟨fun h => qw_or ((ha.run h).mono fun k h => by
  cases k with
  | true => exact h
  | false => exact hb.run h)⟩
/-! .. as values -/
theorem sx_not (ha : SX X a ρ ma) : SX X (.UnaryOp .Not a pos) ρ (notV ma) := ⟨fun h => qx_not ((ha.run h).mono fun _ h => bv_of h)⟩
theorem sx_and1 (ha : SX X a ρ ma) : SX X (.BoolOp .And [a] pos) ρ ma := ⟨fun h => qx_one (ha.run h)⟩
theorem sx_or1 (ha : SX X a ρ ma) : SX X (.BoolOp .Or [a] pos) ρ ma := ⟨fun h => qx_one (ha.run h)⟩
theorem sx_and {rest : List Expr} (ha : SX X a ρ ma) (hb : SX X (.BoolOp .And (b :: rest) pos) ρ mb) : SX X (.BoolOp .And (a :: b :: rest) pos) ρ (andV ma mb) := ⟨fun h => qx_and ((ha.run h).mono fun x h => by
  obtain ⟨k, e, h⟩ := bv_of h
  refine ⟨k, e, ?_⟩
  cases k with
  | true => exact hb.run h
  | false => exact h)⟩
theorem sx_or {rest : List Expr} (ha : SX X a ρ ma) (hb : SX X (.BoolOp .Or (b :: rest) pos) ρ mb) : SX X (.BoolOp .Or (a :: b :: rest) pos) ρ (orV ma mb) := ⟨fun h => qx_or ((ha.run h).mono fun x h => by
  obtain ⟨k, e, h⟩ := bv_of h
  refine ⟨k, e, ?_⟩
  cases k with
  | true => exact h
  | false => exact hb.run h)⟩
theorem sx_if (hc : ST X c ρ tc) (ha : SX X a ρ ma) (hb : SX X b ρ mb) : SX X (.IfExp c a b pos) ρ (ifE tc ma mb) := ⟨fun h => qx_if ((hc.run h).mono fun k h => by
  cases k with
  | true => exact ha.run h
  | false => exact hb.run h)⟩
/-! ### displays, arguments -/
variable {as_ : MA}
theorem sa_nil : SA X [] ρ nilA := ⟨fun h => qa_nil ⟨rfl, h⟩⟩
theorem sa_cons (ha : SX X a ρ ma) (hb : SA X es ρ as_) (hs : starEach (a :: es) X.env = (false, eval a X.env) :: starEach es X.env := by exact se_of rfl) : SA X (a :: es) ρ (consA ma as_) := ⟨fun h => qa_cons ((ha.run h).mono fun x h => (hb.run h).mono fun xs h => ⟨by rw [List.length_cons, List.length_cons, h.1], h.2⟩) hs⟩
theorem sx_tup {n : Nat} (h : SA X es ρ as_) (hz : es.length ≤ 100000 := by exact Nat.le_of_ble_eq_true rfl) : SX X (.Tuple es n pos) ρ (tupE as_) := ⟨fun k => qx_tup ((h.run k).mono fun ds k => ⟨by rw [k.1]; exact small hz, k.2⟩)⟩
theorem sx_lst (h : SA X es ρ as_) (hz : es.length ≤ 100000 := by exact Nat.le_of_ble_eq_true rfl) : SX X (.List es pos) ρ (lstE as_) := ⟨fun k => qx_lst ((h.run k).mono fun ds k => ⟨by rw [k.1]; exact small hz, k.2⟩)⟩
/-! ### calls of the text's own defs -/
def sp1 (f : D → M) : SpD := fun ds Φ Ψ => ∃ x, ds = [x] ∧ f x Φ Ψ
def sp2 (f : D → D → M) : SpD := fun ds Φ Ψ => ∃ x y, ds = [x, y] ∧ f x y Φ Ψ
def sp3 (f : D → D → D → M) : SpD := fun ds Φ Ψ => ∃ x y z, ds = [x, y, z] ∧ f x y z Φ Ψ
def sp4 (f : D → D → D → D → M) : SpD := fun ds Φ Ψ => ∃ x y z u, ds = [x, y, z, u] ∧ f x y z u Φ Ψ
section
variable {x : Str} {k : Nat} {md me : M} {d : Expr}
theorem sx_c1 {f : D → M} (F : FnS X.prog X.w X.K X.mg X.base x k 1 (sp1 f)) (hr : Room k X.A) (ha : SX X a ρ ma) (hg : Gl X x := by rfl) (hdb : (x == ("__debug__" : Str)) = false := by decide)
    (he : starEach [a] X.env = (false, eval a X.env) :: starEach [] X.env := by exact se_of rfl) (hpl : (backTo pos (starEach [] X.env)).any (·.1) = false := by rfl) : SX X (.Call (.Name x p) [a] [] pos) ρ (c1 f ma) :=
  ⟨fun h => qx_call F hr (qa_cons ((ha.run h).mono fun u h => qa_nil ⟨u, rfl, h⟩) he) hg hdb he hpl⟩
theorem sx_c2 {f : D → D → M} (F : FnS X.prog X.w X.K X.mg X.base x k 2 (sp2 f)) (hr : Room k X.A) (ha : SX X a ρ ma) (hb : SX X b ρ mb) (hg : Gl X x := by rfl) (hdb : (x == ("__debug__" : Str)) = false := by decide)
    (he : starEach [a, b] X.env = (false, eval a X.env) :: starEach [b] X.env := by exact se_of rfl) (he2 : starEach [b] X.env = (false, eval b X.env) :: starEach [] X.env := by exact se_of rfl) (hpl : (backTo pos (starEach [b] X.env)).any (·.1) = false := by rfl) : SX X (.Call (.Name x p) [a, b] [] pos) ρ (c2 f ma mb) :=
  ⟨fun h => qx_call F hr (qa_cons ((ha.run h).mono fun u h => qa_cons ((hb.run h).mono fun v h => qa_nil ⟨u, v, rfl, h⟩) he2) he) hg hdb he hpl⟩
theorem sx_c3 {f : D → D → D → M} (F : FnS X.prog X.w X.K X.mg X.base x k 3 (sp3 f)) (hr : Room k X.A) (ha : SX X a ρ ma) (hb : SX X b ρ mb) (hc : SX X c ρ mc) (hg : Gl X x := by rfl) (hdb : (x == ("__debug__" : Str)) = false := by decide)
    (he : starEach [a, b, c] X.env = (false, eval a X.env) :: starEach [b, c] X.env := by exact se_of rfl) (he2 : starEach [b, c] X.env = (false, eval b X.env) :: starEach [c] X.env := by exact se_of rfl) (he3 : starEach [c] X.env = (false, eval c X.env) :: starEach [] X.env := by exact se_of rfl) (hpl : (backTo pos (starEach [b, c] X.env)).any (·.1) = false := by rfl) : SX X (.Call (.Name x p) [a, b, c] [] pos) ρ (c3 f ma mb mc) :=
  ⟨fun h => qx_call F hr (qa_cons ((ha.run h).mono fun u h => qa_cons ((hb.run h).mono fun v h => qa_cons ((hc.run h).mono fun w h => qa_nil ⟨u, v, w, rfl, h⟩) he3) he2) he) hg hdb he hpl⟩
theorem sx_c4 {f : D → D → D → D → M} (F : FnS X.prog X.w X.K X.mg X.base x k 4 (sp4 f)) (hr : Room k X.A) (ha : SX X a ρ ma) (hb : SX X b ρ mb) (hc : SX X c ρ mc) (hd : SX X d ρ md) (hg : Gl X x := by rfl) (hdb : (x == ("__debug__" : Str)) = false := by decide)
    (he : starEach [a, b, c, d] X.env = (false, eval a X.env) :: starEach [b, c, d] X.env := by exact se_of rfl) (he2 : starEach [b, c, d] X.env = (false, eval b X.env) :: starEach [c, d] X.env := by exact se_of rfl) (he3 : starEach [c, d] X.env = (false, eval c X.env) :: starEach [d] X.env := by exact se_of rfl) (he4 : starEach [d] X.env = (false, eval d X.env) :: starEach [] X.env := by exact se_of rfl) (hpl : (backTo pos (starEach [b, c, d] X.env)).any (·.1) = false := by rfl) : SX X (.Call (.Name x p) [a, b, c, d] [] pos) ρ (c4 f ma mb mc md) :=
  ⟨fun h => qx_call F hr (qa_cons ((ha.run h).mono fun u h => qa_cons ((hb.run h).mono fun v h => qa_cons ((hc.run h).mono fun w h => qa_cons ((hd.run h).mono fun z h => qa_nil ⟨u, v, w, z, rfl, h⟩) he4) he3) he2) he) hg hdb he hpl⟩
end
end
end G
namespace G
open PySem PySem.Spec L2
/-! ### built-in functions -/
def D.nopq : D → Bool
  | .opq _ => false
  | .exc _ => false
  | .obj _ _ _ => false
  | _ => true
def lnD (x : D) (Φ : D → Prop) : Prop := match x with
  | .lst ds => Φ (.int ds.length)
  | .tup ds => Φ (.int ds.length)
  | .str z => z.length ≤ 100000 ∧ Φ (.int z.length)
  | .dct ks _ => Φ (.int ks.length)
  | _ => False
def absD (x : D) (Φ : D → Prop) : Prop := match x with
  | .int i => Φ (.int (if i < 0 then -i else i))
  | _ => False
def maxD (x y : D) (Φ : D → Prop) : Prop := match x, y with
  | .int i, .int j => Φ (.int (if j > i then j else i))
  | _, _ => False
def allD (x : D) (Φ : D → Prop) : Prop := ∃ bs : List Bool, x = .lst (bs.map D.bl) ∧ Φ (.bl (bs.all id))
def anyD (x : D) (Φ : D → Prop) : Prop := ∃ bs : List Bool, x = .lst (bs.map D.bl) ∧ Φ (.bl (bs.any id))
def isiD (t : D → Bool) (x : D) (Φ : D → Prop) : Prop := x.nopq = true ∧ Φ (.bl (t x))
def tupleD (x : D) (Φ : D → Prop) : Prop := seqD x fun ds => Φ (.tup ds)
abbrev MO := (Option Int → Prop) → (Str → Prop) → Prop
def noneO : MO := fun K _ => K none
def someO (m : M) : MO := fun K Ψ => m (fun x => match x with
  | .int i => K (some i)
  | _ => False) Ψ
def slD (x : D) (lo hi : Option Int) (Φ : D → Prop) : Prop := match x with
  | .lst ds => Φ (.lst (cutD ds lo hi))
  | .tup ds => Φ (.tup (cutD ds lo hi))
  | .str z => z.length ≤ 100000 ∧ Φ (.str (Txt.slice z lo hi))
  | _ => False
def slE (a : M) (lo hi : MO) : M := fun Φ Ψ => a (fun x => lo (fun l => hi (fun h => slD x l h Φ) Ψ) Ψ) Ψ
section
variable {X : Cx} {ρ : List Sl} {a b c e : Expr} {es : List Expr} {pos p p2 : Pos} {ma mb mc m : M} {ta tb tc : MB}
theorem CallR.or {f : Value} {r1 r2 : List V → Hp → VK → Prop} (h1 : CallR X f r1) (h2 : CallR X f r2) : CallR X f (fun xs H Q => r1 xs H Q ∨ r2 xs H Q) := fun pins s σ H xs us Q I r h => h.elim (h1 pins s σ H xs us Q I r) (h2 pins s σ H xs us Q I r)
theorem CallD.or {r1 r2 : List V → Hp → VK → Prop} {Q1 Q2 : List D → (D → Prop) → Prop} (h1 : CallD X r1 Q1) (h2 : CallD X r2 Q2) : CallD X (fun xs H Q => r1 xs H Q ∨ r2 xs H Q) (fun ds Φ => Q1 ds Φ ∨ Q2 ds Φ) := fun Hi H vs ds Φ s h r Q q => h.elim (fun h => .inl (h1 Hi H vs ds Φ s h r Q q)) (fun h => .inr (h2 Hi H vs ds Φ s h r Q q))
theorem cd_lenS : CallD X (fun xs H Q => ∃ z, xs = [.str z] ∧ z.length ≤ sizeLine ∧ Q (.int z.length) H) (fun ds Φ => ∃ z, ds = [.str z] ∧ z.length ≤ sizeLine ∧ Φ (.int z.length)) := fun Hi H vs ds Φ s h r Q q => by
  obtain ⟨z, e, hz, k⟩ := h
  subst e
  cases r with
  | cons r rr => cases rr; cases r; exact ⟨z, rfl, hz, q _ _ Hi H k (Gr.refl s) (.int _)⟩
theorem sx_len (hm : X.mg "len" = none) (ha : SX X e ρ ma) (hg : Gl X "len" := by rfl) (he : starEach [e] X.env = (false, eval e X.env) :: starEach [] X.env := by exact se_of rfl) (hpl : (backTo pos (starEach [] X.env)).any (·.1) = false := by rfl) :
    SX X (.Call (.Name "len" p) [e] [] pos) ρ (una lnD ma) := ⟨fun h => qx_callB (CallR.or (CallR.or call_len_seq call_len_str) call_lenC) ((cd_len.or cd_lenS).or cd_lenC) hm PySem.boot_len (qa_cons ((ha.run h).mono fun x h => qa_nil (by
      cases x <;> first | exact .inr ⟨_, _, rfl, h⟩ | exact .inl (.inl ⟨_, .inl rfl, h⟩) | exact .inl (.inl ⟨_, .inr rfl, h⟩) | exact .inl (.inr ⟨_, rfl, small h.1, h.2⟩) | exact False.elim h)) he) hg (by decide) (by decide) he hpl⟩
theorem sx_abs (hm : X.mg "abs" = none) (ha : SX X e ρ ma) (hg : Gl X "abs" := by rfl) (he : starEach [e] X.env = (false, eval e X.env) :: starEach [] X.env := by exact se_of rfl) (hpl : (backTo pos (starEach [] X.env)).any (·.1) = false := by rfl) :
    SX X (.Call (.Name "abs" p) [e] [] pos) ρ (una absD ma) := ⟨fun h => qx_callB call_abs cd_abs hm (by decide +kernel) (qa_cons ((ha.run h).mono fun x h => qa_nil (by
      cases x <;> first | exact ⟨_, rfl, h⟩ | exact False.elim h)) he) hg (by decide) (by decide) he hpl⟩
theorem sx_max2 (hm : X.mg "max" = none) (ha : SX X a ρ ma) (hb : SX X b ρ mb) (hg : Gl X "max" := by rfl) (he : starEach [a, b] X.env = (false, eval a X.env) :: starEach [b] X.env := by exact se_of rfl) (he2 : starEach [b] X.env = (false, eval b X.env) :: starEach [] X.env := by exact se_of rfl) (hpl : (backTo pos (starEach [b] X.env)).any (·.1) = false := by rfl) (hc : X.calm = true := by rfl) :
    SX X (.Call (.Name "max" p) [a, b] [] pos) ρ (bin maxD ma mb) := ⟨fun h => qx_callB (call_max2 hc) cd_max2 hm (by decide +kernel) (qa_cons ((ha.run h).mono fun x h => qa_cons ((hb.run h).mono fun y h => qa_nil (by
      cases x <;> cases y <;> first | exact ⟨_, _, rfl, h⟩ | exact False.elim h)) he2) he) hg (by decide) (by decide) he hpl⟩
theorem sx_all (hm : X.mg "all" = none) (ha : SX X e ρ ma) (hg : Gl X "all" := by rfl) (he : starEach [e] X.env = (false, eval e X.env) :: starEach [] X.env := by exact se_of rfl) (hpl : (backTo pos (starEach [] X.env)).any (·.1) = false := by rfl) (hc : X.calm = true := by rfl) :
    SX X (.Call (.Name "all" p) [e] [] pos) ρ (una allD ma) := ⟨fun h => qx_callB (cr_all hc) cd_all hm (by decide +kernel) (qa_cons ((ha.run h).mono fun x h => qa_nil (by
      obtain ⟨bs, rfl, h⟩ := h; exact ⟨bs, rfl, h⟩)) he) hg (by decide) (by decide) he hpl⟩
theorem sx_tuple (hm : X.mg "tuple" = none) (ha : SX X e ρ ma) (hg : Gl X "tuple" := by rfl) (he : starEach [e] X.env = (false, eval e X.env) :: starEach [] X.env := by exact se_of rfl) (hpl : (backTo pos (starEach [] X.env)).any (·.1) = false := by rfl) :
    SX X (.Call (.Name "tuple" p) [e] [] pos) ρ (una tupleD ma) := ⟨fun h => qx_callTy call_tuple_of cd_tuple hm (by decide +kernel) (qa_cons ((ha.run h).mono fun x h => qa_nil (by
      cases x <;> first | exact ⟨_, .inl rfl, h⟩ | exact ⟨_, .inr rfl, h⟩ | exact False.elim h)) he) hg (by decide) (by decide) he hpl⟩
theorem nopq_of {d : D} (h : d.nopq = true) : (∀ n, d ≠ .opq n) ∧ ∀ n ks vs, d ≠ .obj n ks vs := ⟨fun n e => (by subst e; cases h), fun n ks vs e => by subst e; cases h⟩
/-- isinstance(x, T) -/
theorem sx_isi {T : Str} {Tn : String} {t : D → Bool} (hm : X.mg "isinstance" = none) (hm2 : X.mg T = none) (hv : bootBuiltins T = some (.type Tn)) (hk : ∀ d : D, kitB d.tyN Tn = some (t d)) (ha : SX X e ρ ma)
    (hg : Gl X "isinstance" := by rfl) (hg2 : Gl X T := by rfl) (hn : T ≠ "__name__" := by decide) (hdb : (T == ("__debug__" : Str)) = false := by decide)
    (he : starEach [e, .Name T p2] X.env = (false, eval e X.env) :: starEach [.Name T p2] X.env := by exact se_of rfl) (he2 : starEach [.Name T p2] X.env = (false, eval (.Name T p2) X.env) :: starEach [] X.env := by rfl) (hpl : (backTo pos (starEach [.Name T p2] X.env)).any (·.1) = false := by rfl) :
    SX X (.Call (.Name "isinstance" p) [e, .Name T p2] [] pos) ρ (una (isiD t) ma) := ⟨fun k B Hi H σ W tk S rs Q q => wE.of (pe_callB call_isG hg hm (by decide +kernel) (pa_cons pe_w (pa_cons (pe_bltn (v := .ty Tn) hg2 hm2 hv rfl hn hdb) pa_nil he2) he) (by decide) (by decide) he hpl)
      ((ha.run k) B Hi H σ W tk S rs _ fun v d2 Hi1 H1 z g r => ⟨v, .ty Tn, .type d2.tyN, .type Tn, t d2, rfl, .ty Tn, r.ty g.sub (nopq_of z.1), kit_ty (hk d2), q _ _ Hi1 H1 z.2 g (.bl _)⟩)⟩
/-- isinstance(x, (S, T)) -/
theorem sx_isi2 {S T : Str} {Sn Tn : String} {q1 q2 q3 : Pos} {kk : Nat} {t1 t2 : D → Bool} (hm : X.mg "isinstance" = none) (hm1 : X.mg S = none) (hm2 : X.mg T = none) (hv1 : bootBuiltins S = some (.type Sn)) (hv2 : bootBuiltins T = some (.type Tn)) (hk1 : ∀ d : D, kitB d.tyN Sn = some (t1 d)) (hk2 : ∀ d : D, kitB d.tyN Tn = some (t2 d)) (ha : SX X e ρ ma)
    (hg : Gl X "isinstance" := by rfl) (hg1 : Gl X S := by rfl) (hg2 : Gl X T := by rfl) (hn1 : S ≠ "__name__" := by decide) (hdb1 : (S == ("__debug__" : Str)) = false := by decide) (hn : T ≠ "__name__" := by decide) (hdb : (T == ("__debug__" : Str)) = false := by decide)
    (he : starEach [e, .Tuple [.Name S q1, .Name T q2] kk q3] X.env = (false, eval e X.env) :: starEach [.Tuple [.Name S q1, .Name T q2] kk q3] X.env := by exact se_of rfl) (he2 : starEach [.Tuple [.Name S q1, .Name T q2] kk q3] X.env = (false, eval (.Tuple [.Name S q1, .Name T q2] kk q3) X.env) :: starEach [] X.env := by rfl)
    (he3 : starEach [.Name S q1, .Name T q2] X.env = (false, eval (.Name S q1) X.env) :: starEach [.Name T q2] X.env := by rfl) (he4 : starEach [.Name T q2] X.env = (false, eval (.Name T q2) X.env) :: starEach [] X.env := by rfl)
    (hpl : (backTo pos (starEach [.Tuple [.Name S q1, .Name T q2] kk q3] X.env)).any (·.1) = false := by rfl) :
    SX X (.Call (.Name "isinstance" p) [e, .Tuple [.Name S q1, .Name T q2] kk q3] [] pos) ρ (una (isiD fun d => t1 d || t2 d) ma) := ⟨fun k B Hi H σ W tk St rs Q q => wE.of (pe_callB call_isGT hg hm (by decide +kernel)
      (pa_cons pe_w (pa_cons (pe_tup (pa_cons (pe_bltn (v := .ty Sn) hg1 hm1 hv1 rfl hn1 hdb1) (pa_cons (pe_bltn (v := .ty Tn) hg2 hm2 hv2 rfl hn hdb) pa_nil he4) he3)) pa_nil he2) he) (by decide) (by decide) he hpl)
      ((ha.run k) B Hi H σ W tk St rs _ fun v d2 Hi1 H1 z g r => by
        refine ⟨by show 2 ≤ sizeLine; decide, fun t ht => ?_⟩
        have g2 : Gr Hi H Hi1 (upd H1 t (.tup [.ty Sn, .ty Tn])) := g.trans (Gr.out g.sub (Ex.new ht))
        refine ⟨v, t, _, .type d2.tyN, [.type Sn, .type Tn], t1 d2 || t2 d2, rfl, upd_same, .cons (.ty Sn) (.cons (.ty Tn) .nil), r.ty g2.sub (nopq_of z.1), kitAny_cons (kit_ty (hk1 d2)) (fun z => kitAny_cons (kit_ty (hk2 d2)) (fun z2 => by rw [z, z2]; exact kitAny_nil) fun z2 => by rw [z2, Bool.or_true]) fun z => by rw [z, Bool.true_or], q _ _ Hi1 _ z.2 g2 (.bl _)⟩)⟩
/-! ### slices -/
structure SO (X : Cx) (e : Option Expr) (ρ : List Sl) (m : MO) : Prop where
  ex : ∃ t, PO X e t ∧ ∀ {K Ψ}, m K Ψ → ∀ (B Hi H : Hp) (σ : L2.St) (W : WX), Takes X W → StOk X.K B Hi H σ ρ → Rs X Ψ Hi H σ W → ∀ Q : Option Int → Hp → Prop, (∀ o Hi' H', K o → Gr Hi H Hi' H' → Q o H') → t σ H Q
theorem so_none : SO X none ρ noneO := ⟨tNoPart, po_none, fun k B Hi H σ W tk S rs Q q => q none Hi H k (Gr.refl S.sub)⟩
theorem so_some (h : SX X e ρ m) : SO X (some e) ρ (someO m) := ⟨_, po_some pe_w, fun k B Hi H σ W tk S rs Q q => (h.run k) B Hi H σ W tk S rs _ fun v d Hi1 H1 z g r => by
  cases d with
  | int i => cases r; exact ⟨i, rfl, q (some i) Hi1 H1 z g⟩
  | _ => exact False.elim z⟩
theorem cut_rp {K : PySem.W.Frag} {H : Hp} {xs : List V} {ds : List D} (ha : RpA K H xs ds) (lo hi : Option Int) : RpA K H (cutV xs lo hi) (cutD ds lo hi) := by
  unfold cutD cutV
  rw [ha.length]
  exact (ha.drop _).take _
theorem cutD_all {ds : List D} {lo hi : Option Int} (h : HT.sIx ds.length 0 lo = 0 ∧ HT.sIx ds.length ds.length hi = ds.length) : cutD ds lo hi = ds := by
  unfold cutD
  rw [h.1, h.2]; simp
theorem sx_sl {lo hi : Option Expr} {ml mh : MO} (ha : SX X e ρ ma) (h1 : SO X lo ρ ml) (h2 : SO X hi ρ mh) : SX X (.Subscript e (.Slice lo hi none p2) pos) ρ (slE ma ml mh) := by
  obtain ⟨t1, q1, h1⟩ := h1.ex
  obtain ⟨t2, q2, h2⟩ := h2.ex
  refine ⟨fun k B Hi H σ W tk S rs Q q => wE.of (pe_slice (SlR.or sl_list (SlR.or sl_tupA C8.sl_txt)) pe_w q1 q2) ((ha.run k) B Hi H σ W tk S rs _ fun v d Hi1 H1 z g r => ?_)⟩
  refine h1 z B Hi1 H1 σ W tk (S.grow g) (rs.grow g) _ fun o1 Hi2 H2 z g2 => h2 z B Hi2 H2 σ W tk ((S.grow g).grow g2) ((rs.grow g).grow g2) _ fun o2 Hi3 H3 z g3 => ?_
  have g23 := g2.trans g3
  have gg := g.trans g23
  cases r with
  | @lst a xs ds hs ha => exact .inl ⟨_, xs, rfl, SqL.of (g3.sub _ _ (g23.i _ _ hs)), fun l hl => q _ _ (upd Hi3 l _) _ z (gg.trans (Gr.mk1 g3.sub hl)) (.lst upd_same (RpA.up (cut_rp (ha.up g23.i) _ _) (Ex.new (g3.sub.free hl))))⟩
  | @tup a xs ds hs ha =>
    refine .inr (.inl ⟨_, xs, rfl, g3.sub.t (g23.i.t hs), fun e => ?_, fun e l hl => q _ _ (upd Hi3 l _) _ z (gg.trans (Gr.mk1 g3.sub hl)) (.tup (SqT.of upd_same) (RpA.up (cut_rp (ha.up g23.i) _ _) (Ex.new (g3.sub.free hl))))⟩)
    rw [ha.length] at e
    have z : Q _ _ := q (.ref a) (.tup (cutD ds o1 o2)) Hi3 H3 z gg (by rw [cutD_all e]; exact .tup (g23.i.t hs) (ha.up g23.i))
    exact z
  | str x => exact .inr (.inr ⟨x, rfl, small z.1, q _ _ Hi3 H3 z.2 gg (.str _)⟩)
  | _ => exact False.elim z
/-! ### what is walked -/
def walkD (d : D) (k : List D → Prop) : Prop := match d with
  | .lst ds => k ds
  | .tup ds => k ds
  | .dct ks _ => k ks
  | _ => False
def itE (m : M) : MA := fun K Ψ => m (fun d => walkD d K) Ψ
def rng1 (m : M) : MA := fun K Ψ => m (fun x => match x with
  | .int n => (n ≤ 100000 ∧ -100000 ≤ n) ∧ K (rangeD 0 n.toNat)
  | _ => False) Ψ
def rng2 (a b : M) : MA := fun K Ψ => a (fun x => b (fun y => match x, y with
  | .int lo, .int hi => (lo ≤ 100000 ∧ -100000 ≤ lo ∧ hi ≤ 100000 ∧ -100000 ≤ hi) ∧ K (rangeD lo (hi - lo).toNat)
  | _, _ => False) Ψ) Ψ
variable {tg iter : Expr}
theorem pi_any {l : Expr} : PI X tg l (fun σ H R => wE X l σ H fun x H1 => ∃ a, x = .ref a ∧ (((∃ xs, SqL X.K H1 a xs) ∧ R (Itl X.K a) H1) ∨ ((∃ xs, SqT X.K H1 a xs) ∧ R (Itt X.K a) H1) ∨ ∃ xs o, H1 a = some (.ext (dctO a xs o)) ∧ R (Itc a xs o) H1)) := by
  refine ⟨fun pins s σ H R I h => ?_⟩
  refine thn (h pins s I) fun v s1 ⟨x, H1, I1, r1, q1⟩ => ?_
  obtain ⟨a, e, q1⟩ := q1
  subst e
  cases r1
  rcases q1 with ⟨⟨xs, hq⟩, q⟩ | ⟨⟨xs, hq⟩, q⟩ | ⟨xs, o, hb, q⟩
  · obtain ⟨its, rv, p, hz⟩ := I1.list hq
    refine wpAny_pyIter_list p.isList ?_
    refine ⟨s1.heap.objs.size, [s1.heap.objs.size], _, _, H1, rfl, I1.kept (t' := s1.toks) fun b o e => Heap.get?_push_of_some _ e, turn_list a _, ⟨_, Heap.get?_push_size _ rfl, rfl, rfl⟩, fun b hb => ?_, q⟩
    have e : b = s1.heap.objs.size := by simpa using hb
    subst e
    exact I1.fpOk (Nat.le_refl _) (I1.hok.fresh (Nat.le_refl _))
  · obtain ⟨its, rv, p, hz⟩ := I1.tuple hq
    refine wpAny_pyIter_tuple (show s1.heap.IsTuple a its.toArray from p) ?_
    refine ⟨s1.heap.objs.size, [s1.heap.objs.size], _, _, H1, rfl, I1.kept (t' := s1.toks) fun b o e => Heap.get?_push_of_some _ e, turn_tuple a _, ⟨_, Heap.get?_push_size _ rfl, rfl, rfl⟩, fun b hb => ?_, q⟩
    have e : b = s1.heap.objs.size := by simpa using hb
    subst e
    exact I1.fpOk (Nat.le_refl _) (I1.hok.fresh (Nat.le_refl _))
  · obtain ⟨es, ep, hr, ed, hl, ds, hv⟩ := raw_of I1 hb
    refine wpAny_pyIter_dict_raw ds.sm hr ?_
    refine ⟨s1.heap.objs.size, [s1.heap.objs.size], _, _, H1, rfl, I1.kept (t' := s1.toks) fun c ob z => Heap.get?_push_of_some _ z, turn_C _ ed, ⟨_, Heap.get?_push_size _ rfl, rfl, by rw [hl]; rfl⟩, fun c hc => ?_, q⟩
    obtain rfl : c = s1.heap.objs.size := List.mem_singleton.mp hc
    exact I1.fpOk (Nat.le_refl _) (I1.hok.fresh (Nat.le_refl _))
theorem si_v (ha : SX X iter ρ m) : SI X tg iter ρ (itE m) := ⟨fun k => ⟨_, pi_any, fun B Hi H σ W tk S rs Rr q => (ha.run k) B Hi H σ W tk S rs _ fun v d Hi1 H1 z g r => by
  cases r with
  | @lst a xs ds hs ha =>
    refine ⟨_, rfl, .inl ⟨⟨xs, SqL.of (g.sub _ _ hs)⟩, q ds Hi1 H1 _ z g ⟨fun i H x hi => ?_, fun H x => ⟨xs, SqL.of (x _ _ hs), by rw [ha.length]; exact Nat.le_refl _⟩, fun i H x H' Hi e1 e2 y hi => ?_⟩⟩⟩
    · obtain ⟨v, h1, _⟩ := ha.get (List.getElem?_eq_getElem hi)
      exact ⟨xs, v, SqL.of (x _ _ hs), h1⟩
    · obtain ⟨rfl, hy⟩ := y
      obtain ⟨d, h1, h2⟩ := ha.getV (hy xs (SqL.of (e2 _ _ (e1 _ _ hs))))
      exact ⟨d, Hi, h1, Gr.refl e2, h2.up e1⟩
  | @tup a xs ds hs ha =>
    refine ⟨_, rfl, .inr (.inl ⟨⟨xs, g.sub.t hs⟩, q ds Hi1 H1 _ z g ⟨fun i H x hi => ?_, fun H x => ⟨xs, x.t hs, by rw [ha.length]; exact Nat.le_refl _⟩, fun i H x H' Hi e1 e2 y hi => ?_⟩⟩)⟩
    · obtain ⟨v, h1, _⟩ := ha.get (List.getElem?_eq_getElem hi)
      exact ⟨xs, v, x.t hs, h1⟩
    · obtain ⟨rfl, hy⟩ := y
      obtain ⟨d, h1, h2⟩ := ha.getV (hy xs (e2.t (e1.t hs)))
      exact ⟨d, Hi, h1, Gr.refl e2, h2.up e1⟩
  | @dct b xs o ks vs us hb he hk rk vl rv =>
    subst he
    have hl : (xs.map (·.1)).length = xs.length := List.length_map ..
    refine ⟨_, rfl, .inr (.inr ⟨xs, o, g.sub _ _ hb, q (xs.map fun w : Ent => w.1) Hi1 H1 _ z g ⟨fun i H x hi => ?_, fun H x => ⟨x _ _ hb, by rw [hl]; exact Nat.le_refl _⟩, fun i H x H' Hi e1 e2 y hi => ?_⟩⟩)⟩
    · exact ⟨x _ _ hb, by rw [← hl]; exact hi⟩
    · obtain ⟨rfl, w, hw, rfl⟩ := y
      exact ⟨w.1, Hi, by rw [List.getElem?_map, hw]; rfl, Gr.refl e2, (rpA_at rk w (List.mem_of_getElem? hw)).up e1⟩
  | _ => exact False.elim z⟩⟩
theorem si_range2 (hm : X.mg "range" = none) (ha : SX X a ρ ma) (hb : SX X b ρ mb) (hg : Gl X "range" := by rfl) (hst : starEach [a, b] X.env = [(false, eval a X.env), (false, eval b X.env)] := by rfl) (hst2 : starEach [b] X.env = [(false, eval b X.env)] := by exact se_of rfl) : SI X tg (.Call (.Name "range" p) [a, b] [] p2) ρ (rng2 ma mb) :=
  ⟨fun k => qi_range2 hm (qa_cons ((ha.run k).mono fun x h => qa_cons ((hb.run h).mono fun y h => qa_nil (by cases x <;> cases y <;> first | exact ⟨_, _, rfl, h.1.1, h.1.2.1, h.1.2.2.1, h.1.2.2.2, h.2⟩ | exact False.elim h)) hst2) (by rw [hst, hst2])) hg hst hst2⟩
/-! ### comprehensions -/
variable {scope : Scope} {own : List (Str × Nat)} {elt : Expr} {ifs : List Expr} {mi : MA} {f : D → (Option D → Prop) → Prop}
theorem lcq_S {vs : List Nat} {Φ : D → Prop} {ds : List D} (hl : ds.length ≤ 100000) (h : lcL f ds [] fun ys => Φ (.lst ys))
    (hb : ∀ d k, f d k → ∃ ρ', QGb X scope vs tg d (wipeS ρ vs) ρ' ∧ ∃ Θ : Bool → Prop, (match ifs with
      | [] => Θ true
      | c :: _ => ∀ s H C cl fp, QT (BlkX X scope s H C cl fp) bot c ρ' Θ) ∧
      (Θ true → ∀ s H C cl fp, QX (BlkX X scope s H C cl fp) bot elt ρ' fun y => k (some y)) ∧ (Θ false → k none)) : LcQ X scope vs tg elt ifs ρ ds (fun i acc => lcL f (ds.drop i) acc fun ys => Φ (.lst ys)) Φ := by
  refine ⟨hl, h, fun i d acc hd hI => ?_, fun acc hI _ => ?_⟩
  · obtain ⟨hi, e⟩ := List.getElem?_eq_some_iff.mp hd
    rw [List.drop_eq_getElem_cons hi, e] at hI
    obtain ⟨ρ', hg, Θ, h1, h2, h3⟩ := hb d _ hI
    exact ⟨ρ', hg, Θ, h1, h2, h3⟩
  · rw [List.drop_length] at hI
    exact hI
theorem qx_lcE {Ψ : Str → Prop} {Φ : D → Prop} (hN : X.N.Nodup) (ok : BlkOk X.N X.env.scope scope own) (h : QI X Ψ tg iter ρ fun ds => ∃ I, LcQ X scope (own.map (·.2)) tg elt ifs ρ ds I Φ) (hl : ifs.length ≤ 1)
    (hc : X.calm = true) (hs : ∀ x, foldedSetIterable iter X.env x = pure x) : QX X Ψ (.ListComp elt [⟨tg, iter, ifs, 0⟩] scope pos) ρ Φ := by
  obtain ⟨wi, hi, h⟩ := h
  exact fun B Hi H σ W tk S rs Q q => wE.of (pe_lc hc hN hi ok (fun s H C cl fp => pg_b s H C cl fp) (fun s H C cl fp => pts_of hl s H C cl fp) (fun s H C cl fp => pe_b s H C cl fp) hs)
    (h B Hi H σ W tk S rs _ fun ds Hi1 H1 J z g wk => z.elim fun I z => lc_go z (S.grow g) wk fun v d Hi' H' hz g' r => q v d Hi' H' hz (g.trans g') r)
theorem qs_setLcE {Ψ : Str → Prop} {R : Po} {rest : List Stmt} (i : Nat) {y : Str} {py lp : Pos} (hN : X.N.Nodup) (ok : BlkOk X.N X.env.scope scope own)
    (h : QI X Ψ tg iter ρ fun ds => ∃ I, LcQ X scope (own.map (·.2)) tg elt ifs ρ ds I fun d => QS X Ψ rest (ρ.set i (.dat d)) R) (hl : ifs.length ≤ 1) (hy : X.N[i]? = some y) (hyl : X.env.scope.names.lookup y = some .local)
    (hsw : swapsWith (.ListComp elt [⟨tg, iter, ifs, 0⟩] scope lp) (some (.Name y py)) pos.line X.env = pure true) (hc : X.calm = true) (hs : ∀ x, foldedSetIterable iter X.env x = pure x) :
    QS X Ψ (.Assign [.Name y py] (.ListComp elt [⟨tg, iter, ifs, 0⟩] scope lp) pos :: rest) ρ R := by
  obtain ⟨wi, hi, h⟩ := h
  exact fun Bi B Hi H σ Dn W tk g S rb N => wSs.cons (ps_setLc (i := i) hc hN hy hyl hsw hi ok (fun s H C cl fp => pg_b s H C cl fp) (fun s H C cl fp => pts_of hl s H C cl fp) (fun s H C cl fp => pe_b s H C cl fp) hs)
    (h B Hi H σ W tk S (rb.rs g σ) _ fun ds Hi1 H1 J z g1 wk => z.elim fun I z => lc_go z (S.grow g1) wk fun v d Hi2 H2 hz g2 r => hz Bi B Hi2 H2 (σ.set i (some v)) Dn W tk ((g.trans g1).trans g2) (((S.grow g1).grow g2).set r) rb N)
theorem sx_lc0 (hN : X.N.Nodup) (ok : BlkOk X.N X.env.scope scope own) (hi : SI X tg iter ρ mi)
    (hb : ∀ d k, f d k → ∃ ρ', QGb X scope (own.map (·.2)) tg d (wipeS ρ (own.map (·.2))) ρ' ∧ ∀ s H C cl fp, QX (BlkX X scope s H C cl fp) bot elt ρ' fun y => k (some y)) (hc : X.calm = true := by rfl) (hs : ∀ x, foldedSetIterable iter X.env x = pure x := by intro _; rfl) :
    SX X (.ListComp elt [⟨tg, iter, [], 0⟩] scope pos) ρ (lcE mi f) := ⟨fun h => qx_lcE (ifs := []) hN ok ((hi.run h).mono fun ds h => ⟨_, lcq_S (ifs := []) h.1 h.2 fun d k h => by
      obtain ⟨ρ', hg, h⟩ := hb d k h
      exact ⟨ρ', hg, fun b => b = true, rfl, fun _ => h, fun e => Bool.noConfusion e⟩⟩) (by decide) hc hs⟩
theorem sx_lc1 (hN : X.N.Nodup) (ok : BlkOk X.N X.env.scope scope own) (hi : SI X tg iter ρ mi)
    (hb : ∀ d k, f d k → ∃ ρ', QGb X scope (own.map (·.2)) tg d (wipeS ρ (own.map (·.2))) ρ' ∧ ∃ (mt : MB) (Θ : Bool → Prop), mt Θ bot ∧ (∀ s H C cl fp, ST (BlkX X scope s H C cl fp) c ρ' mt) ∧ (Θ true → ∀ s H C cl fp, QX (BlkX X scope s H C cl fp) bot elt ρ' fun y => k (some y)) ∧ (Θ false → k none)) (hc : X.calm = true := by rfl) (hs : ∀ x, foldedSetIterable iter X.env x = pure x := by intro _; rfl) :
    SX X (.ListComp elt [⟨tg, iter, [c], 0⟩] scope pos) ρ (lcE mi f) := ⟨fun h => qx_lcE (ifs := [c]) hN ok ((hi.run h).mono fun ds h => ⟨_, lcq_S (ifs := [c]) h.1 h.2 fun d k h => by
      obtain ⟨ρ', hg, mt, Θ, h0, h1, h2, h3⟩ := hb d k h
      exact ⟨ρ', hg, Θ, fun s H C cl fp => (h1 s H C cl fp).run h0, h2, h3⟩⟩) (Nat.le_refl 1) hc hs⟩
theorem un2_of {p : D} {k : D → D → Prop} (h : un2 p k) : ∃ a b, (p = .tup [a, b] ∨ p = .lst [a, b]) ∧ k a b := by
  unfold un2 at h
  split at h
  · exact ⟨_, _, .inl rfl, h⟩
  · exact ⟨_, _, .inr rfl, h⟩
  · exact h.elim
theorem un3_of {p : D} {k : D → D → D → Prop} (h : un3 p k) : ∃ a b c, (p = .tup [a, b, c] ∨ p = .lst [a, b, c]) ∧ k a b c := by
  unfold un3 at h
  split at h
  · exact ⟨_, _, _, .inl rfl, h⟩
  · exact ⟨_, _, _, .inr rfl, h⟩
  · exact h.elim
end
end G
namespace G
open PySem PySem.Spec L2
section
variable {X : Cx} {Ψ : Str → Prop} {ρ : List Sl} {R : Po} {a b c e : Expr} {es : List Expr} {pos p p2 : Pos} {rest body blk els : List Stmt} {ma mb mc m : M} {tc : MB} {k : D → Prop}
/-! ### statements -/
structure SQ (X : Cx) (Ψ : Str → Prop) (st : List Stmt) (ρ : List Sl) (R : Po) : Prop where
  run : QS X Ψ st ρ R
theorem SQ.mono {R' : Po} (h : SQ X Ψ body ρ R) (k1 : ∀ x, R.nx x → R'.nx x) (k2 : ∀ x, R.rt x → R'.rt x) (k3 : ∀ x, R.bk x → R'.bk x) (k4 : ∀ x, R.ct x → R'.ct x) (k5 : ∀ d x, R.ro d x → R'.ro d x := by exact fun _ _ z => z) : SQ X Ψ body ρ R' := ⟨h.run.mono k1 k2 k3 k4 k5⟩
theorem s_nil (k : R.nx ρ) : SQ X Ψ [] ρ R := ⟨qs_nil k⟩
theorem s_raise {x m : Str} {j : Nat} {q1 q2 q3 : Pos} (T : ExcF X.K X.mg x) (k : Ψ x) (hg : Gl X x := by rfl) (hdb : (x == ("__debug__" : Str)) = false := by decide) (hc : X.calm = true := by rfl) :
    SQ X Ψ (.Raise (some (.Call (.Name x q1) [.Constant (.str m) j q2] [] q3)) none pos :: rest) ρ R := ⟨qs_raise T k hg hdb hc⟩
theorem s_set (i : Nat) {x : Str} (he : SX X e ρ m) (h : m k Ψ) (hr : ∀ d, k d → SQ X Ψ rest (ρ.set i (.dat d)) R) (hN : X.N.Nodup) (hi : X.N[i]? = some x := by rfl) (hx : Loc X.env.scope x := by first | exact Or.inl rfl | exact Or.inr rfl)
    (hs : swapsWith e (some (.Name x p)) pos.line X.env = pure false := by rfl) (hf : X.fn x = true ∨ X.env.scope.names.lookup x = some .local := by first | exact .inl rfl | exact .inr rfl) : SQ X Ψ (.Assign [.Name x p] e pos :: rest) ρ R :=
  ⟨qs_set i ((he.run h).mono fun d h => (hr d h).run) hN hi hx hs hf⟩
theorem s_expr (he : SX X e ρ m) (h : m k Ψ) (hr : ∀ d, k d → SQ X Ψ rest ρ R) (hs : swapsWith e none pos.line X.env = pure false := by rfl) : SQ X Ψ (.Expr e pos :: rest) ρ R := ⟨qs_expr ((he.run h).mono fun d h => (hr d h).run) hs⟩
theorem s_ret (he : SX X e ρ m) (h : m R.rt Ψ) : SQ X Ψ (.Return (some e) pos :: rest) ρ R := ⟨qs_ret (he.run h)⟩
theorem s_par (i j : Nat) {x y : Str} {px py pt : Pos} {kt k2 : Nat} {pt2 : Pos} {P : D → D → Prop} (ha : SX X a ρ ma) (hb : SX X b ρ mb) (h : ma (fun u => mb (fun v => P u v) Ψ) Ψ) (hr : ∀ u v, P u v → SQ X Ψ rest ((ρ.set i (.dat u)).set j (.dat v)) R)
    (hN : X.N.Nodup) (hij : i ≠ j := by decide) (hi : X.N[i]? = some x := by rfl) (hj : X.N[j]? = some y := by rfl)
    (hx : X.env.scope.names.lookup x = some .local := by rfl) (hy : X.env.scope.names.lookup y = some .local := by rfl) (hc : X.calm = true := by rfl)
    (hw : swappedStores [.Tuple [.Name x px, .Name y py] kt pt] (.Tuple [a, b] k2 pt2) X.env = pure (some [x, y]) := by rfl)
    (hs : swapsWithSole [.Tuple [.Name x px, .Name y py] kt pt] (.Tuple [a, b] k2 pt2) pos.line X.env = pure false := by rfl) (he : starEach [a, b] X.env = (false, eval a X.env) :: starEach [b] X.env := by exact se_of rfl) (he2 : starEach [b] X.env = (false, eval b X.env) :: starEach [] X.env := by exact se_of rfl) :
    SQ X Ψ (.Assign [.Tuple [.Name x px, .Name y py] kt pt] (.Tuple [a, b] k2 pt2) pos :: rest) ρ R :=
  ⟨qs_par i j ((ha.run h).mono fun u h => (hb.run h).mono fun v h => (hr u v h).run) hN hij hi hj hx hy hc hw hs he he2⟩
/-! targets in tuples -/
theorem qg_un {tgs : List Expr} {n : Nat} {pt : Pos} {ds : List D} {ρ' : List Sl} {d : D} (hd : d = .tup ds ∨ d = .lst ds) (h : QGs X tgs ds ρ ρ') (hl : (assignEach tgs X.env).length = ds.length := by rfl) (hst : (assignEach tgs X.env).findIdx? (·.1) = none := by rfl) (hc : X.calm = true := by rfl) :
    QG X (.Tuple tgs n pt) d ρ ρ' := by
  rcases hd with rfl | rfl
  · exact qg_tup h hl hst hc
  · exact qg_lst h hl hst hc
theorem s_un2 {t1 t2 : Expr} {n : Nat} {pt : Pos} {P : D → D → Prop} (he : SX X e ρ m) (h : m (fun d => un2 d P) Ψ) (hr : ∀ u v, P u v → ∃ ρ', QGs X [t1, t2] [u, v] ρ ρ' ∧ SQ X Ψ rest ρ' R) (hs : swapsWithSole [.Tuple [t1, t2] n pt] e pos.line X.env = pure false := by rfl) (hw : swappedStores [.Tuple [t1, t2] n pt] e X.env = pure none := by rfl)
    (h1 : (assignEach [.Tuple [t1, t2] n pt] X.env).map (·.2) = [assign (.Tuple [t1, t2] n pt) X.env] := by rfl) (hl : (assignEach [t1, t2] X.env).length = 2 := by rfl) (hst : (assignEach [t1, t2] X.env).findIdx? (·.1) = none := by rfl) (hc : X.calm = true := by rfl) : SQ X Ψ (.Assign [.Tuple [t1, t2] n pt] e pos :: rest) ρ R :=
  ⟨qs_asg ((he.run h).mono fun d h => by
    obtain ⟨u, v, hd, h⟩ := un2_of h
    obtain ⟨ρ', hg, hq⟩ := hr u v h
    exact ⟨ρ', qg_un hd hg hl hst hc, hq.run⟩) hs hw h1⟩
theorem s_un3 {t1 t2 t3 : Expr} {n : Nat} {pt : Pos} {P : D → D → D → Prop} (he : SX X e ρ m) (h : m (fun d => un3 d P) Ψ) (hr : ∀ u v w, P u v w → ∃ ρ', QGs X [t1, t2, t3] [u, v, w] ρ ρ' ∧ SQ X Ψ rest ρ' R) (hs : swapsWithSole [.Tuple [t1, t2, t3] n pt] e pos.line X.env = pure false := by rfl) (hw : swappedStores [.Tuple [t1, t2, t3] n pt] e X.env = pure none := by rfl)
    (h1 : (assignEach [.Tuple [t1, t2, t3] n pt] X.env).map (·.2) = [assign (.Tuple [t1, t2, t3] n pt) X.env] := by rfl) (hl : (assignEach [t1, t2, t3] X.env).length = 3 := by rfl) (hst : (assignEach [t1, t2, t3] X.env).findIdx? (·.1) = none := by rfl) (hc : X.calm = true := by rfl) : SQ X Ψ (.Assign [.Tuple [t1, t2, t3] n pt] e pos :: rest) ρ R :=
  ⟨qs_asg ((he.run h).mono fun d h => by
    obtain ⟨u, v, w, hd, h⟩ := un3_of h
    obtain ⟨ρ', hg, hq⟩ := hr u v w h
    exact ⟨ρ', qg_un hd hg hl hst hc, hq.run⟩) hs hw h1⟩
/-! if -/
theorem s_if {P Q : Prop} (hc : ST X c ρ tc) (h : tc (fun k => if k = true then P else Q) Ψ) (h1 : P → SQ X Ψ blk ρ { R with nx := fun ρ' => SQ X Ψ rest ρ' R }) (h2 : Q → SQ X Ψ els ρ { R with nx := fun ρ' => SQ X Ψ rest ρ' R }) : SQ X Ψ (.If c blk els pos :: rest) ρ R :=
  ⟨qs_if ((hc.run h).mono fun k h => by
    cases k with
    | true => exact (h1 h).run.mono (fun _ z => z.run) (fun _ z => z) (fun _ z => z) fun _ z => z
    | false => exact (h2 h).run.mono (fun _ z => z.run) (fun _ z => z) (fun _ z => z) fun _ z => z)⟩
/-- .. and both ways go on: the rest is shown once -/
theorem s_ifJ {κ J : Type} {kr : κ} {P Q : κ → Prop} (h : join kr fun k => tc (fun b => if b = true then P k else Q k) Ψ) (hc : ST X c ρ tc) (st : J → List Sl) (go : J → κ → Prop) (hrest : ∀ j, go j kr → SQ X Ψ rest (st j) R)
    (h1 : P kr → SQ X Ψ blk ρ { R with nx := fun ρ' => ∃ j, ρ' = st j ∧ go j kr }) (h2 : Q kr → SQ X Ψ els ρ { R with nx := fun ρ' => ∃ j, ρ' = st j ∧ go j kr }) : SQ X Ψ (.If c blk els pos :: rest) ρ R :=
  s_if (P := P kr) (Q := Q kr) hc h (fun h => (h1 h).mono (fun _ ⟨j, e, z⟩ => e ▸ hrest j z) (fun _ z => z) (fun _ z => z) fun _ z => z) (fun h => (h2 h).mono (fun _ ⟨j, e, z⟩ => e ▸ hrest j z) (fun _ z => z) (fun _ z => z) fun _ z => z)
/-! for, while -/
variable {tg iter : Expr} {mi : MA}
theorem s_for {S J : Type} {s0 : S} {f : D → S → (S → Prop) → (S → Prop) → Prop} {k : S → Prop} (h : mi (fun ds => forL f k ds s0) Ψ) (hi : SI X tg iter ρ mi) (st : S → J → List Sl) (j0 : J) (h0 : ρ = st s0 j0)
    (hb : ∀ x s j nx, f x s nx k → ∃ ρ2, QG X tg x (st s j) ρ2 ∧ SQ X Ψ body ρ2 { nx := fun ρ' => ∃ s' j', ρ' = st s' j' ∧ nx s', rt := R.rt, ro := R.ro, bk := fun ρ' => ∃ s' j', ρ' = st s' j' ∧ k s', ct := fun ρ' => ∃ s' j', ρ' = st s' j' ∧ nx s' })
    (hr : ∀ s j, k s → SQ X Ψ rest (st s j) R) (hp : PassesOwn (model X.prog X.w) X.A X.env X.xe)
    (hf : ∀ x, foldedSetIterable iter X.env x = pure x := by intro _; rfl) (hc : X.calm = true := by rfl) : SQ X Ψ (.For tg iter body [] pos :: rest) ρ R := by
  obtain ⟨wi, hpi, h⟩ := hi.run h
  refine ⟨fun Bi B Hi H σ Dn W tk g S rb N => wSs.cons (ps_for hp hc hpi pg_w pss_w hf) (h B Hi H σ W tk S (rb.rs g σ) _ fun ds Hi1 H1 J z g1 wk => ?_)⟩
  refine ⟨fun i m σ H => m = ds.length - i ∧ i ≤ ds.length ∧ Mid X Bi B Hi1 (fun ρ1 => ∃ s j, ρ1 = st s j ∧ forL f k (ds.drop i) s) σ H, ⟨ds.length, by simp, Nat.zero_le _, ρ, Hi1, ⟨s0, j0, h0, by simpa using z⟩, g.trans g1, Ex.refl _, S.grow g1⟩, ?_⟩
  rintro i m σ2 H2 ⟨rfl, hi, ρ2, Hi2, ⟨s, j, rfl, hi2⟩, g2, e2, S2⟩
  by_cases hlt : i < ds.length
  · refine .inr ⟨wk.go i H2 (e2.trans g2.sub) hlt, Mid X Bi B Hi1 (fun ρ1 => ∃ s j, ρ1 = st s j ∧ forL f k (ds.drop (i + 1)) s), fun σ' H' p' => ⟨ds.length - (i + 1), by omega, rfl, hlt, p'⟩, fun x H' y => ?_⟩
    obtain ⟨d, Hi3, hd3, g3, r3⟩ := wk.yld i H2 x H' Hi2 e2 g2.sub y hlt
    obtain ⟨_, e⟩ := List.getElem?_eq_some_iff.mp hd3
    rw [List.drop_eq_getElem_cons hlt, e] at hi2
    obtain ⟨ρ3, hg, hb⟩ := hb d s j _ hi2
    refine hg B Hi3 H' σ2 x (S2.grow g3) r3 _ fun σ3 S3 => turn_go tk (g2.trans g3) (e2.trans g3.i) S3 rb N (hb.run.mono (fun ρ' ⟨s', j', e, z⟩ => ⟨s', j', e, z⟩) (fun _ z => z) (fun ρ' ⟨s', j', e, z⟩ => e ▸ (hr s' j' z).run) fun ρ' ⟨s', j', e, z⟩ => ⟨s', j', e, z⟩)
  · have e : i = ds.length := by omega
    subst e
    rw [List.drop_length] at hi2
    exact .inl ⟨wk.stop H2 (e2.trans g2.sub), (hr s j hi2).run Bi B Hi2 H2 σ2 Dn W tk g2 S2 rb N⟩
theorem s_while {S J : Type} {s0 : S} {mt : S → MB} {P : S → (S → Prop) → (S → Prop) → Prop} {k : S → Prop} (h : whileM s0 (fun s nx br => mt s (fun b => if b = true then P s nx br else br s) Ψ) k) (st : S → J → List Sl) (j0 : J) (h0 : ρ = st s0 j0) (hc : ∀ s j, ST X c (st s j) (mt s))
    (hb : ∀ s j nx, P s nx k → SQ X Ψ body (st s j) { nx := fun ρ' => ∃ s' j', ρ' = st s' j' ∧ nx s', rt := R.rt, ro := R.ro, bk := fun ρ' => ∃ s' j', ρ' = st s' j' ∧ k s', ct := fun ρ' => ∃ s' j', ρ' = st s' j' ∧ nx s' })
    (hr : ∀ s j, k s → SQ X Ψ rest (st s j) R) (hp : PassesOwn (model X.prog X.w) X.A X.env X.xe) : SQ X Ψ (.While c body [] pos :: rest) ρ R := by
  obtain ⟨I, ⟨m0, hm⟩, hI⟩ := h
  refine ⟨qs_while (I := fun m ρ1 => ∃ s j, ρ1 = st s j ∧ I m s) m0 ⟨s0, j0, h0, hm⟩ hp fun m ρ1 ⟨s, j, e, hi⟩ => ?_⟩
  subst e
  refine ((hc s j).run (hI m s hi)).mono fun b h => ?_
  cases b with
  | true => exact (hb s j _ h).run.mono (fun ρ' ⟨s', j', e, m', hm, z⟩ => ⟨m', hm, s', j', e, z⟩) (fun _ z => z) (fun ρ' ⟨s', j', e, z⟩ => e ▸ (hr s' j' z).run) fun ρ' ⟨s', j', e, m', hm, z⟩ => ⟨m', hm, s', j', e, z⟩
  | false => exact (hr s j h).run
/-! x = [..] -/
variable {scope : Scope} {own : List (Str × Nat)} {elt : Expr} {f : D → (Option D → Prop) → Prop}
theorem LcQ.mono {vs : List Nat} {ifs : List Expr} {ds : List D} {I : Nat → List D → Prop} {Φ Φ' : D → Prop} (L : LcQ X scope vs tg elt ifs ρ ds I Φ) (h : ∀ d, Φ d → Φ' d) : LcQ X scope vs tg elt ifs ρ ds I Φ' := ⟨L.len, L.start, L.turn, fun acc hi hl => h _ (L.fin acc hi hl)⟩
theorem s_lc0 (i : Nat) {y : Str} {py lp : Pos} (h : lcE mi f k Ψ) (hN : X.N.Nodup) (ok : BlkOk X.N X.env.scope scope own) (hi : SI X tg iter ρ mi)
    (hb : ∀ d k, f d k → ∃ ρ', QGb X scope (own.map (·.2)) tg d (wipeS ρ (own.map (·.2))) ρ' ∧ ∀ s H C cl fp, QX (BlkX X scope s H C cl fp) bot elt ρ' fun y => k (some y)) (hr : ∀ d, k d → SQ X Ψ rest (ρ.set i (.dat d)) R)
    (hy : X.N[i]? = some y := by rfl) (hyl : X.env.scope.names.lookup y = some .local := by rfl)
    (hsw : swapsWith (.ListComp elt [⟨tg, iter, [], 0⟩] scope lp) (some (.Name y py)) pos.line X.env = pure true := by exact sw_true rfl rfl rfl (by decide +kernel)) (hc : X.calm = true := by rfl) (hs : ∀ x, foldedSetIterable iter X.env x = pure x := by intro _; rfl) :
    SQ X Ψ (.Assign [.Name y py] (.ListComp elt [⟨tg, iter, [], 0⟩] scope lp) pos :: rest) ρ R := ⟨qs_setLcE (ifs := []) i hN ok ((hi.run h).mono fun ds h => ⟨_, (lcq_S (ifs := []) (Φ := k) h.1 h.2 fun d k h => by
      obtain ⟨ρ', hg, h⟩ := hb d k h
      exact ⟨ρ', hg, fun b => b = true, rfl, fun _ => h, fun e => Bool.noConfusion e⟩).mono fun d h => (hr d h).run⟩) (by decide) hy hyl hsw hc hs⟩
/-! x += e -/
def addI (x y : D) (Φ : D → Prop) : Prop := ∃ a b, x = .int a ∧ y = .int b ∧ Φ (.int (a + b))
def augD (op : D → D → (D → Prop) → Prop) (x : D) (m : M) : M := fun Φ Ψ => m (fun y => op x y Φ) Ψ
theorem s_augI {op : Operator} {g : Int → Int → Int} (hp : PIp X op (ipI g)) (i : Nat) {x : Str} {d : D} {pos' : Pos} (hi0 : ρ[i]? = some (.dat d)) (he : SX X e ρ m) (h : m (fun y => ∃ a b, d = .int a ∧ y = .int b ∧ k (.int (g a b))) Ψ) (hr : ∀ d, k d → SQ X Ψ rest (ρ.set i (.dat d)) R) (hN : X.N.Nodup) (hi : X.N[i]? = some x := by rfl) (hx : Loc X.env.scope x := by first | exact Or.inl rfl | exact Or.inr rfl)
    (hf : X.fn x = true ∨ X.env.scope.names.lookup x = some .local := by first | exact .inl rfl | exact .inr rfl) : SQ X Ψ (.AugAssign (.Name x pos') op e pos :: rest) ρ R :=
  ⟨fun Bi B Hi H σ Dn W tk g' S rb N => by
    obtain ⟨v, e1, rp⟩ := S.dat hi0
    refine wSs.cons (ps_aug hN hi hx pe_w hp hf) ⟨v, e1, (he.run h) B Hi H σ W tk S (rb.rs g' σ) _ fun u y Hi1 H1 z g1 r1 => ?_⟩
    obtain ⟨a, b, ea, eb, z⟩ := z
    subst ea eb
    cases rp; cases r1
    exact ⟨a, b, rfl, rfl, (hr _ z).run Bi B Hi1 H1 (σ.set i (some (.int (g a b)))) Dn W tk (g'.trans g1) ((S.grow g1).set (.int _)) rb N⟩⟩
theorem s_augAdd (i : Nat) {x : Str} {d : D} {pos' : Pos} (hi0 : ρ[i]? = some (.dat d)) (he : SX X e ρ m) (h : augD addI d m k Ψ) (hr : ∀ d, k d → SQ X Ψ rest (ρ.set i (.dat d)) R) (hN : X.N.Nodup) (hi : X.N[i]? = some x := by rfl) (hx : Loc X.env.scope x := by first | exact Or.inl rfl | exact Or.inr rfl)
    (hf : X.fn x = true ∨ X.env.scope.names.lookup x = some .local := by first | exact .inl rfl | exact .inr rfl) : SQ X Ψ (.AugAssign (.Name x pos') .Add e pos :: rest) ρ R := by
  refine s_augI ip_add i hi0 ⟨fun {Φ Ψ} h => (he.run h)⟩ (m := fun Φ Ψ => m Φ Ψ) (k := k) ?_ hr hN hi hx hf
  exact h
/-! lists of one's own -/
theorem s_new (i : Nat) {x : Str} {lp : Pos} (hr : SQ X Ψ rest (ρ.set i (.lst [])) R) (hN : X.N.Nodup) (hi : X.N[i]? = some x := by rfl) (hx : Loc X.env.scope x := by first | exact Or.inl rfl | exact Or.inr rfl)
    (hs : swapsWith (.List [] lp) (some (.Name x p)) pos.line X.env = pure false := by rfl) (hf : X.fn x = true ∨ X.env.scope.names.lookup x = some .local := by first | exact .inl rfl | exact .inr rfl) : SQ X Ψ (.Assign [.Name x p] (.List [] lp) pos :: rest) ρ R := ⟨qs_new i hr.run hN hi hx hs hf⟩
theorem s_frz (i : Nat) {ds : List D} (hi : ρ[i]? = some (.lst ds)) (hr : SQ X Ψ rest (ρ.set i (.dat (.lst ds))) R) : SQ X Ψ rest ρ R := ⟨qs_frz i hi frz_lst hr.run⟩
def flatM (m : M) : M := fun Φ Ψ => m (fun z => z.flat = true ∧ Φ z) Ψ
theorem st_peek (i : Nat) {ds : List D} {mt : MB} (hi : ρ[i]? = some (.lst ds)) (he : ST X e (ρ.set i (.dat (.lst ds))) mt) : ST X e ρ mt := ⟨fun h => qt_peek i hi frz_lst (he.run h)⟩
theorem s_append (i : Nat) {x : Str} {ap cp : Pos} {ds : List D} {k : D → Prop} (hi : ρ[i]? = some (.lst ds)) (he : SX X e ρ m) (h : m (fun d => ds.length ≤ 100000 ∧ k d) Ψ) (hr : ∀ d, k d → SQ X Ψ rest (ρ.set i (.lst (ds ++ [d]))) R) (hN : X.N[i]? = some x := by rfl) (hv : Vis X.env.scope x := by first | exact Or.inl rfl | exact Or.inr (Or.inl rfl) | exact Or.inr (Or.inr rfl))
    (hs : swapsWith (.Call (.Attribute (.Name x p) "append" ap) [e] [] cp) none pos.line X.env = pure false := by rfl)
    (hbase : attributeBase (.Name x p) "append" X.env (eval (.Name x p) X.env) = eval (.Name x p) X.env := by rfl)
    (hfew : ((backTo cp (starEach [e] X.env)).all (fun x => !x.1) && (backToKw cp (keywordEach [] X.env)).all (fun x => x.1.isSome)
      && decide (([e] : List Expr).length + ([] : List Keyword).length + (if ([] : List Keyword).isEmpty then 0 else 1) < 30)) = true := by rfl)
    (hline : (ap.endLine == cp.line) = true := by rfl) (hst : starEach [e] X.env = (false, eval e X.env) :: starEach [] X.env := by exact se_of rfl) (hpl : (backTo cp (starEach [] X.env)).any (·.1) = false := by rfl)
    (hd : (x == ("__debug__" : Str)) = false := by decide) (hcd : (x == ("__classdict__" : Str)) = false := by decide) :
    SQ X Ψ (.Expr (.Call (.Attribute (.Name x p) "append" ap) [e] [] cp) pos :: rest) ρ R := ⟨fun Bi B Hi H σ Dn W tk g S rb N => by
    obtain ⟨a, o, e1, b1, n1, x1, r1⟩ := S.own hi
    refine wSs.cons (ps_expr (pe_bm F.plainAttrs_list F.slot_list_append F.type_list_append mt_append (pe_var hN hv hd hcd) (pa_cons pe_w pa_nil hst) hbase hfew hline hst hpl) hs) ⟨_, e1, ?_, (he.run h) B Hi H σ W tk S (rb.rs g σ) _ fun v d Hi1 H1 z g1 rv => ?_⟩
    · cases o with
      | lst vs => exact .inl ⟨rfl, vs, SqL.of x1⟩
      | _ => exact r1.elim
    · have S1 := S.grow g1
      obtain ⟨a', o', e2, b2, n2, x2, r2⟩ := S1.own hi
      rw [e1] at e2
      cases e2
      cases o' with
      | lst vs =>
        have r2 : RpA X.K Hi1 vs ds := r2
        refine ⟨a, vs, v, rfl, rfl, x2, ?_, (hr d z.2).run Bi B Hi1 (upd H1 a (.lst (vs ++ [v]))) σ Dn W tk ((g.trans g1).wr b2 n2) (S1.wr hi e1 (show RpA X.K Hi1 (vs ++ [v]) (ds ++ [d]) from r2.app (.cons rv .nil))) rb N⟩
        rw [r2.length]
        exact Nat.lt_of_le_of_lt z.1 (by decide)
      | _ => exact r2.elim⟩
def insL (ds : List D) (i : Nat) (d : D) : List D := ds.take i ++ [d] ++ ds.drop i
theorem s_insert (i : Nat) {x : Str} {ap cp : Pos} {ds : List D} {P : Nat → D → Prop} (hi : ρ[i]? = some (.lst ds)) (ha : SX X a ρ ma) (he : SX X e ρ m) (h : ma (fun j => m (fun d => ds.length ≤ 100000 ∧ ∃ n : Nat, j = .int n ∧ n ≤ ds.length ∧ P n d) Ψ) Ψ) (hr : ∀ n d, P n d → SQ X Ψ rest (ρ.set i (.lst (insL ds n d))) R) (hN : X.N[i]? = some x := by rfl) (hv : Vis X.env.scope x := by first | exact Or.inl rfl | exact Or.inr (Or.inl rfl) | exact Or.inr (Or.inr rfl))
    (hs : swapsWith (.Call (.Attribute (.Name x p) "insert" ap) [a, e] [] cp) none pos.line X.env = pure false := by rfl)
    (hbase : attributeBase (.Name x p) "insert" X.env (eval (.Name x p) X.env) = eval (.Name x p) X.env := by rfl)
    (hfew : ((backTo cp (starEach [a, e] X.env)).all (fun x => !x.1) && (backToKw cp (keywordEach [] X.env)).all (fun x => x.1.isSome)
      && decide (([a, e] : List Expr).length + ([] : List Keyword).length + (if ([] : List Keyword).isEmpty then 0 else 1) < 30)) = true := by rfl)
    (hline : (ap.endLine == cp.line) = true := by rfl) (hst : starEach [a, e] X.env = (false, eval a X.env) :: starEach [e] X.env := by exact se_of rfl) (hst2 : starEach [e] X.env = (false, eval e X.env) :: starEach [] X.env := by exact se_of rfl) (hpl : (backTo cp (starEach [e] X.env)).any (·.1) = false := by rfl)
    (hd : (x == ("__debug__" : Str)) = false := by decide) (hcd : (x == ("__classdict__" : Str)) = false := by decide) :
    SQ X Ψ (.Expr (.Call (.Attribute (.Name x p) "insert" ap) [a, e] [] cp) pos :: rest) ρ R := ⟨fun Bi B Hi H σ Dn W tk g S rb N => by
    obtain ⟨c, o, e1, b1, n1, x1, r1⟩ := S.own hi
    refine wSs.cons (ps_expr (pe_bm F.plainAttrs_list F.slot_list_insert F.type_list_insert mt_insert (pe_var hN hv hd hcd) (pa_cons pe_w (pa_cons pe_w pa_nil hst2) hst) hbase hfew hline hst hpl) hs) ⟨_, e1, ?_, (ha.run h) B Hi H σ W tk S (rb.rs g σ) _ fun vj dj Hi0 H0 z g0 rj => (he.run z) B Hi0 H0 σ W tk (S.grow g0) ((rb.rs g σ).grow g0) _ fun v d Hi1 H1 z g1' rv => ?_⟩
    · cases o with
      | lst vs => exact .inl ⟨rfl, vs, SqL.of x1⟩
      | _ => exact r1.elim
    · have g1 := g0.trans g1'
      have S1 := S.grow g1
      obtain ⟨a', o', e2, b2, n2, x2, r2⟩ := S1.own hi
      rw [e1] at e2
      cases e2
      cases o' with
      | lst vs =>
        have r2 : RpA X.K Hi1 vs ds := r2
        obtain ⟨hz, n, rfl, hn, z⟩ := z
        cases rj
        refine ⟨c, vs, n, v, rfl, rfl, x2, ?_, by omega, by omega, (hr n d z).run Bi B Hi1 (upd H1 c (.lst (vs.take (n : Int).toNat ++ [v] ++ vs.drop (n : Int).toNat))) σ Dn W tk ((g.trans g1).wr b2 n2) (S1.wr hi e1 (show RpA X.K Hi1 _ (insL ds n d) from ?_)) rb N⟩
        · rw [r2.length]
          exact Nat.lt_of_le_of_lt hz (by decide)
        · exact ((r2.take n).app (.cons rv .nil)).app (r2.drop n)
      | _ => exact r2.elim⟩
end
end G
namespace G
open PySem PySem.Spec L2
theorem itT {P Q : Prop} {b : Bool} (h : if true = true then P else Q) : P := by simpa using h
theorem itF {P Q : Prop} (h : if false = true then P else Q) : Q := by simpa using h
def isDat (s : Sl) (k : D → Prop) : Prop := match s with
  | .dat d => k d
  | _ => False
section
variable {X : Cx} {Ψ : Str → Prop} {ρ : List Sl} {R : Po} {a b c e : Expr} {es : List Expr} {pos p p2 : Pos} {rest body blk els : List Stmt} {ma mb mc m : M} {tc : MB} {k : D → Prop}
/-! a op b op c -/
def chnV (o1 o2 : D → D → (Bool → Prop) → Prop) (a b c : M) : M := fun Φ Ψ => a (fun x => b (fun y => o1 x y fun k => if k = true then c (fun z => o2 y z fun k => Φ (.bl k)) Ψ else Φ (.bl false)) Ψ) Ψ
def chnT (o1 o2 : D → D → (Bool → Prop) → Prop) (a b c : M) : MB := fun Θ Ψ => a (fun x => b (fun y => o1 x y fun k => if k = true then c (fun z => o2 y z Θ) Ψ else Θ false) Ψ) Ψ
structure Wt (X : Cx) (op : CmpOp) (opd : D → D → (Bool → Prop) → Prop) : Prop where
  ex : ∃ (r : R2) (R : D → D → (D → Prop) → Prop), OpR X (compareOp op) r ∧ OpD X r R ∧ ∀ x y Θ, opd x y Θ → R x y fun d => ∃ k, d = .bl k ∧ Θ k
theorem w_le : Wt X .LtE leB := ⟨_, _, op_le, od_I0 fun _ _ _ => .bl _, fun _ _ _ => r_le⟩
theorem sx_chn {op1 op2 : CmpOp} {o1 o2 : D → D → (Bool → Prop) → Prop} (h1 : Wt X op1 o1) (h2 : Wt X op2 o2) (ha : SX X a ρ ma) (hb : SX X b ρ mb) (hc : SX X c ρ mc) (hm : lastMarks [op1, op2] [b, c] = false := by rfl) : SX X (.Compare a [op1, op2] [b, c] pos) ρ (chnV o1 o2 ma mb mc) := by
  obtain ⟨r1, R1, p1, q1, w1⟩ := h1.ex
  obtain ⟨r2, R2', p2, q2, w2⟩ := h2.ex
  refine ⟨fun {Φ Ψ} h B Hi H σ W tk S rs Q q => wE.of (pe_chain p1 p2 pe_w pe_w pe_w hm) ((ha.run h) B Hi H σ W tk S rs _ fun v1 d1 Hi1 H1 z g1 rp1 => (hb.run z) B Hi1 H1 σ W tk (S.grow g1) (rs.grow g1) _ fun v2 d2 Hi2 H2 z g2 rp2 => ?_)⟩
  refine q1 Hi2 H2 d1 d2 v1 v2 _ g2.sub (w1 d1 d2 _ z) (rp1.up g2.i) rp2 _ fun v3 d3 Hi3 H3 z g3 rp3 => ?_
  obtain ⟨k, rfl, z⟩ := z
  cases rp3
  refine ⟨k, rfl, ?_⟩
  cases k with
  | false => exact q _ _ Hi3 H3 (itF z) ((g1.trans g2).trans g3) (.bl _)
  | true =>
    have z := itT (b := true) z
    refine if_pos rfl ▸ ?_
    refine (hc.run z) B Hi3 H3 σ W tk (((S.grow g1).grow g2).grow g3) (((rs.grow g1).grow g2).grow g3) _ fun v4 d4 Hi4 H4 z g4 rp4 => ?_
    refine q2 Hi4 H4 d2 d4 v2 v4 _ g4.sub (w2 d2 d4 _ z) ((rp2.up g3.i).up g4.i) rp4 _ fun v5 d5 Hi5 H5 z g5 rp5 => ?_
    obtain ⟨k, rfl, z⟩ := z
    exact q _ _ Hi5 H5 z ((((g1.trans g2).trans g3).trans g4).trans g5) rp5
theorem st_chn {op1 op2 : CmpOp} {o1 o2 : D → D → (Bool → Prop) → Prop} (h1 : Wt X op1 o1) (h2 : Wt X op2 o2) (ha : SX X a ρ ma) (hb : SX X b ρ mb) (hc : SX X c ρ mc) (hm : lastMarks [op1, op2] [b, c] = false := by rfl) : ST X (.Compare a [op1, op2] [b, c] pos) ρ (chnT o1 o2 ma mb mc) := by
  obtain ⟨r1, R1, p1, q1, w1⟩ := h1.ex
  obtain ⟨r2, R2', p2, q2, w2⟩ := h2.ex
  refine ⟨fun {Φ Ψ} h B Hi H σ W tk S rs Q q => wT.of (pt_chain p1 p2 pe_w pe_w pe_w hm) ((ha.run h) B Hi H σ W tk S rs _ fun v1 d1 Hi1 H1 z g1 rp1 => (hb.run z) B Hi1 H1 σ W tk (S.grow g1) (rs.grow g1) _ fun v2 d2 Hi2 H2 z g2 rp2 => ?_)⟩
  refine q1 Hi2 H2 d1 d2 v1 v2 _ g2.sub (w1 d1 d2 _ z) (rp1.up g2.i) rp2 _ fun v3 d3 Hi3 H3 z g3 rp3 => ?_
  obtain ⟨k, rfl, z⟩ := z
  cases rp3
  refine ⟨k, rfl, ?_⟩
  cases k with
  | false => exact ⟨false, rfl, q _ Hi3 H3 (itF z) ((g1.trans g2).trans g3)⟩
  | true =>
    have z := itT (b := true) z
    refine if_pos rfl ▸ ?_
    refine (hc.run z) B Hi3 H3 σ W tk (((S.grow g1).grow g2).grow g3) (((rs.grow g1).grow g2).grow g3) _ fun v4 d4 Hi4 H4 z g4 rp4 => ?_
    refine q2 Hi4 H4 d2 d4 v2 v4 _ g4.sub (w2 d2 d4 _ z) ((rp2.up g3.i).up g4.i) rp4 _ fun v5 d5 Hi5 H5 z g5 rp5 => ?_
    obtain ⟨k, rfl, z⟩ := z
    cases rp5
    exact ⟨k, rfl, q _ Hi5 H5 z ((((g1.trans g2).trans g3).trans g4).trans g5)⟩
/-! (a, b) within a block -/
/-! zip -/
def zip2 (x y : D) (K : List D → Prop) : Prop := match x, y with
  | .lst xs, .lst ys => K (zipD xs ys)
  | .tup xs, .tup ys => K (zipD xs ys)
  | _, _ => False
def zipM (a b : M) : MA := fun K Ψ => a (fun x => b (fun y => zip2 x y K) Ψ) Ψ
theorem si_zip {elts : List Expr} {kk : Nat} {tpos : Pos} {e2 : Expr} (hm : X.mg "zip" = none) (ha : SX X e ρ ma) (hb : SX X e2 ρ mb) (hg : Gl X "zip" := by rfl)
    (hs : starEach [e, e2] X.env = (false, eval e X.env) :: starEach [e2] X.env := by exact se_of rfl) (hs2 : starEach [e2] X.env = (false, eval e2 X.env) :: starEach [] X.env := by exact se_of rfl) (hpl : (backTo p2 (starEach [e2] X.env)).any (·.1) = false := by rfl) : SI X (.Tuple elts kk tpos) (.Call (.Name "zip" p) [e, e2] [] p2) ρ (zipM ma mb) :=
  ⟨fun k => ⟨_, RZ.pi_zipA hg hm pa_w hs hpl, fun B Hi H σ W tk S rs Rr q => by
    refine (qa_cons (Φ := fun ds => ∃ x y, ds = [x, y] ∧ zip2 x y _) ((ha.run k).mono fun x h => qa_cons ((hb.run h).mono fun y h => qa_nil ⟨x, y, rfl, h⟩) hs2) hs) B Hi H σ W tk S rs _ fun vs ds Hi1 H1 z g r => ?_
    obtain ⟨x, y, rfl, k⟩ := z
    cases r with
    | cons r rr =>
      cases rr with
      | cons r' rr =>
        cases rr
        have hz : ∀ xs ys : List D, (zipD xs ys).length = min xs.length ys.length := fun xs ys => by unfold zipD; simp
        cases r with
        | @lst a1 us xs hs1 ha1 =>
          cases r' with
          | @lst a2 ws ys hs2 ha2 =>
            refine ⟨_, _, us, ws, rfl, .inl ⟨SqL.of (g.sub _ _ hs1), SqL.of (g.sub _ _ hs2), q _ Hi1 H1 _ k g ⟨fun i H x hi => ?_, fun H x => ?_, fun i H v H' Hj e1 e2 y hi => ?_⟩⟩⟩
            · rw [hz] at hi
              obtain ⟨v1, h1, _⟩ := ha1.get (List.getElem?_eq_getElem (show i < xs.length by omega))
              obtain ⟨v2, h2, _⟩ := ha2.get (List.getElem?_eq_getElem (show i < ys.length by omega))
              exact ⟨us, ws, v1, v2, SqL.of (x _ _ hs1), SqL.of (x _ _ hs2), h1, h2⟩
            · refine ⟨us, ws, SqL.of (x _ _ hs1), SqL.of (x _ _ hs2), ?_⟩
              rw [hz, ha1.length, ha2.length]
              omega
            · obtain ⟨T, x1, y1, rfl, hT, rfl, hx, hy⟩ := y
              obtain ⟨d1, h1, r1⟩ := ha1.getV (hx us (SqL.of (e2 _ _ (e1 _ _ hs1))))
              obtain ⟨d2, h2, r2⟩ := ha2.getV (hy ws (SqL.of (e2 _ _ (e1 _ _ hs2))))
              obtain ⟨g2, r3⟩ := pair_new e2 hT (r1.up e1) (r2.up e1)
              refine ⟨_, _, ?_, g2, r3⟩
              unfold zipD
              rw [List.getElem?_map, List.getElem?_zip_eq_some (z := (d1, d2)) |>.mpr ⟨h1, h2⟩]
              rfl
          | _ => exact False.elim k
        | @tup a1 us xs hs1 ha1 =>
          cases r' with
          | @tup a2 ws ys hs2 ha2 =>
            refine ⟨_, _, us, ws, rfl, .inr ⟨g.sub.t hs1, g.sub.t hs2, q _ Hi1 H1 _ k g ⟨fun i H x hi => ?_, fun H x => ?_, fun i H v H' Hj e1 e2 y hi => ?_⟩⟩⟩
            · rw [hz] at hi
              obtain ⟨v1, h1, _⟩ := ha1.get (List.getElem?_eq_getElem (show i < xs.length by omega))
              obtain ⟨v2, h2, _⟩ := ha2.get (List.getElem?_eq_getElem (show i < ys.length by omega))
              exact ⟨us, ws, v1, v2, x.t hs1, x.t hs2, h1, h2⟩
            · refine ⟨us, ws, x.t hs1, x.t hs2, ?_⟩
              rw [hz, ha1.length, ha2.length]
              omega
            · obtain ⟨T, x1, y1, rfl, hT, rfl, hx, hy⟩ := y
              obtain ⟨d1, h1, r1⟩ := ha1.getV (hx us (e2.t (e1.t hs1)))
              obtain ⟨d2, h2, r2⟩ := ha2.getV (hy ws (e2.t (e1.t hs2)))
              obtain ⟨g2, r3⟩ := pair_new e2 hT (r1.up e1) (r2.up e1)
              refine ⟨_, _, ?_, g2, r3⟩
              unfold zipD
              rw [List.getElem?_map, List.getElem?_zip_eq_some (z := (d1, d2)) |>.mpr ⟨h1, h2⟩]
              rfl
          | _ => exact False.elim k
        | _ => exact False.elim k⟩⟩
end
/-! ### the draws, as told -/
def p_law_town (x : D) (Φ : D → Prop) (Ψ : Str → Prop) : Prop := x = .opq 1 ∧ Φ (.opq 0)
def p_law_draw (t c : D) (Φ : D → Prop) (Ψ : Str → Prop) : Prop := ∃ k : Int, t = .opq 0 ∧ c = .int k ∧ 0 < k ∧ k < 1073741824 ∧ ∀ i : Int, 0 ≤ i → i < k → Φ (.int i)
end G
namespace G
open PySem PySem.Spec L2
theorem itU {P Q : Prop} (h : if true = true then P else Q) : P := by simpa using h
theorem itG {P Q : Prop} (h : if false = true then P else Q) : Q := by simpa using h
/-! ### comprehensions with two fors -/
section
variable {X : Cx} {Ψ : Str → Prop} {ρ : List Sl} {R : Po} {a b c e : Expr} {es : List Expr} {pos p p2 : Pos} {rest body blk els : List Stmt} {ma mb mc m : M} {tc : MB} {k : D → Prop}
variable {scope : Scope} {own : List (Str × Nat)} {vs1 : List Nat} {tg elt iter tg1 iter1 : Expr} {ifs ifs1 : List Expr} {mi : MA} {g : D → (List D → Prop) → Prop}
/-! ### constants of the module that are numbers, texts -/
theorem sx_gi {x : Str} {i : Int} (h : ∃ t, X.mg x = some (.int i t)) (hg : Gl X x := by rfl) (hdb : (x == ("__debug__" : Str)) = false := by decide) : SX X (.Name x pos) ρ (ret (.int i)) := by
  obtain ⟨t, h⟩ := h
  exact ⟨fun k => qx_glob (v := .int i) h ⟨t, rfl⟩ (fun H => .int i) k hg hdb⟩
end
end G
namespace G
open PySem PySem.Spec L2
/-! ### an exception that was caught and is kept -/
theorem xO_ok {P : Program} {w : World} {H : Hp} {h : Heap} {a : Addr} {cls : Value} {oe : Obj} {vs : Array Value} (e : h.get? a = some oe) (z : Zc cls none oe) (d : oe.data = .fields vs) : ObjOk P w H h a (XO cls a) :=
  ⟨⟨oe, vs, e, z, d⟩, ⟨oe, e⟩, fun _ _ ⟨o, v, q, r⟩ k => ⟨o, v, k o q, r⟩⟩
theorem track {X : Cx} {pins : List (Addr × Obj)} {σ : L2.St} {H : Hp} {s : Shared} {a : Addr} {oe : Obj} {o : HO} (I : Inv X ((a, oe) :: pins) σ H s) (h0 : X.s_0.heap.get? a = none) (hp : ∀ p ∈ X.pn ++ pins, p.1 ≠ a)
    (new : ObjOk X.prog X.w (upd H a o) s.heap a o) : Inv X pins σ (upd H a o) s := by
  obtain ⟨e, n, nl, nf, nc⟩ := I.pin (a, oe) (List.mem_append_right _ List.mem_cons_self)
  have cne : ∀ x c, X.env.cells.lookup x = some c → c ≠ a := fun x c hc z => by
    obtain ⟨v, o', ho, hd⟩ := I.cell x c hc
    subst z
    have e' : s.heap.get? c = some oe := e
    rw [e'] at ho
    cases ho
    exact nc v hd
  have b0 : ∀ b o, X.s_0.heap.get? b = some o → b ≠ a := fun b o q z => by rw [z, h0] at q; cases q
  refine ⟨I.ok, I.os, I.bare, ⟨I.base.keep, I.base.slot, fun b u q m hx => ?_, I.base.there, fun b xs q => ?_, fun b u xs q => ?_, fun b ps q => ?_⟩, I.loc, I.cell, ?_, fun x c hc => ?_, fun p hpp => ?_, fun b u q => ?_, I.len⟩
  · rw [upd_ne (b0 b u q)]; exact I.base.free b u q m hx
  · have z := I.base.tups b xs q
    rw [upd_ne (ne_of_none z n)]; exact z
  · have z := I.base.frzs b u xs q
    rw [upd_ne (ne_of_none z n)]; exact z
  · obtain ⟨m, z⟩ := I.base.tbls b ps q
    exact ⟨m, by rw [upd_ne (ne_of_none z n)]; exact z⟩
  · rw [upd_ne (Ne.symm nl)]; exact I.free
  · rw [upd_ne (cne x c hc)]; exact I.freeC x c hc
  · obtain ⟨e1, n1, r1⟩ := I.pin p (by rcases List.mem_append.mp hpp with h | h; exact List.mem_append_left _ h; exact List.mem_append_right _ (List.mem_cons_of_mem _ h))
    exact ⟨e1, by rw [upd_ne (hp p hpp)]; exact n1, r1⟩
  · by_cases hb : b = a
    · subst hb
      rw [upd_same] at q
      cases q
      exact new
    · rw [upd_ne hb] at q
      exact (I.hok b u q).stay (fun c v _ z => z) (fun c z => by rw [upd_ne (ne_of_none z n)]; exact z) fun c xs z => by rw [upd_ne (ne_of_none z n)]; exact z
/-- what 'except x as n: y = n' wishes: slot i is n's, j is y's -/
def wKeep (K : PySem.W.Frag) (c : Value) (i j : Nat) (D : Ends) : WX := fun cls d σ H => PySem.W.exmOne K cls c = some true ∧ d = none ∧ ∀ a, H a = none → D.nx (((σ.set i (some (.ref a))).set j (some (.ref a))).set i none) (upd H a (XO cls a))
section
variable {X : Cx} {x n y : Str} {c : Value} {i j : Nat} {body : List Stmt} {np pos pos' py pn2 pos2 : Pos} {tb : WX → TS}
theorem ps_try_keep (hs : X.stack = X.env :: X.outer) (hf : X.env.frame = some X.env.locals) (hex : X.ex = []) (hN : X.N.Nodup) (hi : X.N[i]? = some n) (hij : i ≠ j) (hln : X.env.kindOf n = some .local) (hc : Names X x c) (hj : X.N[j]? = some y) (hy : Loc X.env.scope y)
    (hsw : swapsWith (.Name n pn2) (some (.Name y py)) pos2.line X.env = pure false) (hfy : X.fn y = true ∨ X.env.scope.names.lookup y = some .local) (hdn : (n == ("__debug__" : Str)) = false) (hcn : (n == ("__classdict__" : Str)) = false)
    (hb : ∀ (W : WX) (pn : List (Addr × Obj)) (xe : Value → Shared → Prop), Takes (X.tr pn xe) W → PSs (X.tr pn xe) body (tb W)) :
    PS X (.Try body [.ExceptHandler (some (.Name x np)) (some n) [.Assign [.Name y py] (.Name n pn2) pos2] pos'] [] [] pos) (fun D σ H => tb (wKeep X.K c i j D) D σ H) := by
  refine ⟨fun pins s σ H D I h => ?_⟩
  have ok := I.ok
  have hfr : X.A.frames = some (X.env :: X.outer) := by rw [ok.frames, hs]
  refine wpAny_Try_except ?_
  refine wpAny_mono ((hb (wKeep X.K c i j D) (X.pn ++ pins) _ (fun u s' xx => ?_)).run [] s σ H D (I.toTry _) h) (fun f s1 hsp => ?_) (fun e s1 he => he)
  · obtain ⟨a, B, sI, pins', σ', H', cls, d, rfl, J', nb, up, sky, na, os, ag, hb1, rfl, hyes⟩ := xx
    have J : Inv X pins σ' H' sI := J'.ofTry ok
    have sky' : Sky B (X.env :: X.outer) a (Zc cls none) X.env.locals s'.heap := by rw [← hs]; exact sky
    show wpAny (model X.prog X.w) X.A (noteFrame (.ref a) X.env) _ _ _
    refine Sky.land Zc.steady hfr hf sky' fun h3 fl3 up3 => ?_
    have J3 : Inv X pins σ' H' { s' with heap := h3 } := J.landed nb fl3.1 (up.trans up3) os ag
    obtain ⟨oe3, vs3, he3, hz3, hd3⟩ := fl3.there
    have nfr : a ∉ frs (X.env :: X.outer) := fun hm => by
      obtain ⟨_, o', e', hnf⟩ := fl3.2.2.1.mem hm
      rw [he3] at e'; cases e'
      exact hnf _ hd3
    have nL : a ≠ X.env.locals := fun z => nfr (List.mem_filterMap.mpr ⟨X.env, List.mem_cons_self, by rw [hf, z]⟩)
    have nF : a ∉ X.fs := fun hm => by
      obtain ⟨e, he, q⟩ := List.mem_filterMap.mp hm
      exact nfr (List.mem_filterMap.mpr ⟨e, List.mem_cons_of_mem _ he, q⟩)
    have S3 := J3.suite he3 hd3 na nL nF
    have n0 : X.s_0.heap.get? a = none := by
      cases q : X.s_0.heap.get? a with
      | none => rfl
      | some o =>
        obtain ⟨o', z⟩ := J.base.there a o q (by rw [hex]; exact fun z => nomatch z)
        have z2 := nb a o' z (by show a ∉ frs X.stack; rw [hs]; exact nfr)
        rw [fl3.2.1] at z2; cases z2
    have pne : ∀ p ∈ X.pn ++ pins, p.1 ≠ a := fun p hp z => by
      obtain ⟨e1, _, l1, f1, _⟩ := J.pin p hp
      have z2 := nb p.1 p.2 e1 (by show p.1 ∉ frs X.stack; rw [hs, z]; exact nfr)
      rw [z, fl3.2.1] at z2; cases z2
    refine wpAny_handleBy_cons (codeAny_handlers_test ?_) (by intro q; cases q)
    have LT : PySem.W.Looks (model X.prog X.w) h3 (typeOf (.ref a)) cls := fun A Q E s k q => wpAny_typeOf_ref (k _ _ he3) (by rw [hz3.1]; exact q)
    have LM := PySem.W.exm_one (M := model X.prog X.w) (J3.kIn) LT hb1
    have test : ∀ {Q : Value → Shared → Prop} {E : Value → Shared → Prop}, Q c { s' with heap := h3 } → wpAny (model X.prog X.w) (X.A.mark (some (.ref a))) (eval (.Name x np) X.env) Q E { s' with heap := h3 } := fun {Q E} q => by
      obtain ⟨hg, hdbg, hm | ⟨hm, hv, hnn⟩⟩ := hc
      · exact ld_glob (X := X.suite a ((a, oe3) :: (X.pn ++ pins))) S3 hg hm q hdbg
      · exact ld_blt (X := X.suite a ((a, oe3) :: (X.pn ++ pins))) S3 hg hm hv q hnn hdbg
    refine test (LM.here ?_)
    refine codeAny_handlers_suite_as ?_
    refine HandSPX.lands_againZ fl3 fun h4 fl4 up4 => ?_
    have J4 : Inv X pins σ' H' { s' with heap := h4 } := J.landed nb fl4.1 ((up.trans up3).trans up4) os ag
    obtain ⟨oe4, vs4, he4, hz4, hd4⟩ := fl4.there
    have S4 := J4.suite he4 hd4 na nL nF
    refine store_ok (X := X.suite a ((a, oe4) :: (X.pn ++ pins))) (v := .ref a) S4 hN hi (.inl hln) rfl (fun s5 S5 => ?_) (.inr hln)
    have hvis : Vis X.env.scope n := .inl hln
    have hσ : (σ'.set i (some (V.ref a)))[i]? = some (some (V.ref a)) := by
      rw [List.getElem?_set_self]
      rw [J.len]; exact (List.getElem?_eq_some_iff.mp hi).1
    have st := pss_cons (ps_set (X := X.suite a ((a, oe4) :: (X.pn ++ pins))) (pos := pos2) hN hj hy (pe_var (pos := pn2) hi hvis hdn hcn) hsw hfy) pss_nil
    refine wpAny_mono (st.run [] s5 _ H' { nx := fun σ6 H6 => σ6 = (σ'.set i (some (.ref a))).set j (some (.ref a)) ∧ H6 = H', rt := fun _ _ => False } S5 ⟨_, hσ, rfl, rfl⟩) (fun f s6 hsp => ?_) (fun _ _ z => False.elim z)
    cases f with
    | next =>
      obtain ⟨_, H6, S6, rfl, e6⟩ := hsp
      have J6 : L2.Inv X ((a, oe4) :: pins) ((σ'.set i (some (V.ref a))).set j (some (V.ref a))) H6 s6 := ⟨ok, S6.os, S6.bare, S6.base, S6.loc, S6.cell, S6.free, S6.freeC, fun p hp => S6.pin p (by
        rcases List.mem_append.mp hp with h | h
        · exact List.mem_append_left _ (List.mem_cons_of_mem _ (List.mem_append_left _ h))
        · rcases List.mem_cons.mp h with h | h
          · rw [h]; exact List.mem_append_left _ List.mem_cons_self
          · exact List.mem_append_left _ (List.mem_cons_of_mem _ (List.mem_append_right _ h))), S6.hok, S6.len⟩
      refine gone_ok J6 hN hi hln fun s7 J7 => ?_
      obtain ⟨e7, _⟩ := J7.pin (a, oe4) (List.mem_append_right _ List.mem_cons_self)
      exact ⟨_, _, track J7 n0 pne (xO_ok e7 hz4 hd4), by rw [e6]; exact hyes a na⟩
    | brk => obtain ⟨_, _, _, z⟩ := hsp; exact z.elim
    | cont => obtain ⟨_, _, _, z⟩ := hsp; exact z.elim
    | ret u => obtain ⟨_, _, _, _, _, z⟩ := hsp; exact z.elim
  · cases f with
    | next =>
      obtain ⟨σ', H', J', q⟩ := hsp
      exact wpAny_execs_nil ⟨σ', H', J'.ofTry ok, q⟩
    | brk =>
      obtain ⟨σ', H', J', q⟩ := hsp
      exact ⟨σ', H', J'.ofTry ok, q⟩
    | cont =>
      obtain ⟨σ', H', J', q⟩ := hsp
      exact ⟨σ', H', J'.ofTry ok, q⟩
    | ret u =>
      obtain ⟨v, σ', H', J', r, q⟩ := hsp
      exact ⟨v, σ', H', J'.ofTry ok, r, q⟩
end
end G
namespace G
open PySem PySem.Spec L2
/-! ### what K must say of the own exceptions -/
structure ExcI (K : PySem.W.Frag) (mg : Str → Option Value) : Prop where
  c : ∀ z ∈ excN, ExcC K (He.ga K z)
  exm : ∀ z ∈ excN, PySem.W.exmOne K (.ref (He.ga K z)) (.ref (He.ga K "OverError")) = some true
  kit : ∀ z ∈ excN, ∀ y ∈ excN ++ (["OverError", "ValueError"] : List Str), PySem.W.kitOne K (.ref (He.ga K z)) (clsV K y) = some (subX z y)
  over : mg "OverError" = some (.ref (He.ga K "OverError"))
theorem excI_of {K : PySem.W.Frag} {mg : Str → Option Value} (h : exQ K = true) (ho : mg "OverError" = some (.ref (He.ga K "OverError"))) : ExcI K mg := by
  have k : ∀ z ∈ excN, ExcC K (He.ga K z) ∧ PySem.W.exmOne K (.ref (He.ga K z)) (.ref (He.ga K "OverError")) = some true ∧ ∀ y ∈ excN ++ (["OverError", "ValueError"] : List Str), PySem.W.kitOne K (.ref (He.ga K z)) (clsV K y) = some (subX z y) := fun z hz => by
    have e := List.all_eq_true.mp h z hz
    rw [Bool.and_eq_true, Bool.and_eq_true] at e
    obtain ⟨e1, e2, e3⟩ := e
    unfold excCB at e1
    simp only [Bool.and_eq_true, decide_eq_true_eq] at e1
    obtain ⟨a1, a2, a3, a4, a5, a6, a7, a8⟩ := e1
    exact ⟨⟨a1, a2, a3, a4, a5, a6, a7, a8⟩, of_decide_eq_true e2, fun y hy => of_decide_eq_true (List.all_eq_true.mp e3 y hy)⟩
  exact ⟨fun z hz => (k z hz).1, fun z hz => (k z hz).2.1, fun z hz => (k z hz).2.2, ho⟩
/-! ### a try's body: what it may raise is raised where the slots are as at its start -/
section
variable {X : Cx} {Ψ Ψt : Str → Prop} {ρ : List Sl} {R : Po} {a b c e : Expr} {es : List Expr} {pos p p2 : Pos} {rest body blk els : List Stmt} {ma mb mc m : M} {tc : MB} {k : D → Prop} {N : List Sl → Prop}
structure SB (X : Cx) (Ψ : Str → Prop) (body : List Stmt) (ρ : List Sl) (N : List Sl → Prop) : Prop where
  run : ∀ (B Hi H : Hp) (σ : L2.St) (Dn : Ends) (W : WX), Takes X W → StOk X.K B Hi H σ ρ → Rs X Ψ Hi H σ W → (∀ ρ' Hi' H' σ', N ρ' → Gr Hi H Hi' H' → StOk X.K B Hi' H' σ' ρ' → Dn.nx σ' H') → wSs X body Dn σ H
theorem sb_expr (he : SX X e ρ m) (h : m k Ψ) (hr : ∀ d, k d → N ρ) (hs : swapsWith e none pos.line X.env = pure false := by rfl) : SB X Ψ [.Expr e pos] ρ N :=
  ⟨fun B Hi H σ Dn W tk S rs q => wSs.cons (ps_expr pe_w hs) ((he.run h) B Hi H σ W tk S rs _ fun v d Hi1 H1 z g1 r1 => wSs.of pss_nil (q ρ Hi1 H1 σ (hr d z) g1 (S.grow g1)))⟩
/-- try: body / except OverError as n: y = n -/
theorem s_try (i j : Nat) {n y : Str} {np pos' py pn2 pos2 : Pos} (hb : ∀ pn xe, SB (X.tr pn xe) Ψt body ρ N) (EI : ExcI X.K X.mg)
    (hx : ∀ z, Ψt z → z ∈ excN ∧ SQ X Ψ rest (((ρ.set i (.dat (excD z))).set j (.dat (excD z))).set i .emp) R) (hn : ∀ ρ', N ρ' → SQ X Ψ rest ρ' R) (hN : X.N.Nodup)
    (hij : i ≠ j := by decide) (hi : X.N[i]? = some n := by rfl) (hj : X.N[j]? = some y := by rfl) (hln : X.env.kindOf n = some .local := by rfl) (hy : Loc X.env.scope y := by first | exact Or.inl rfl | exact Or.inr rfl)
    (hsw : swapsWith (.Name n pn2) (some (.Name y py)) pos2.line X.env = pure false := by rfl) (hfy : X.fn y = true ∨ X.env.scope.names.lookup y = some .local := by first | exact .inl rfl | exact .inr rfl)
    (hdn : (n == ("__debug__" : Str)) = false := by decide) (hcn : (n == ("__classdict__" : Str)) = false := by decide) (hg : Gl X "OverError" := by rfl)
    (hs : X.stack = X.env :: X.outer := by rfl) (hf : X.env.frame = some X.env.locals := by rfl) (hex : X.ex = [] := by rfl) :
    SQ X Ψ (.Try body [.ExceptHandler (some (.Name "OverError" np)) (some n) [.Assign [.Name y py] (.Name n pn2) pos2] pos'] [] [] pos :: rest) ρ R :=
  ⟨fun Bi B Hi H σ Dn W tk g S rb N' => wSs.cons (ps_try_keep hs hf hex hN hi hij hln ⟨hg, by decide, .inl EI.over⟩ hj hy hsw hfy hdn hcn
      (tb := fun W Dn σ H => ∀ pn xe, Takes (X.tr pn xe) W → wSs (X.tr pn xe) body Dn σ H) fun W pn xe tk => ⟨fun pins s σ H Dn I h => h pn xe tk pins s I⟩)
    fun pn xe tk2 => (hb pn xe).run B Hi H σ _ _ tk2 S
      (fun z Hi' H' hz g' => by
        obtain ⟨hm, hq⟩ := hx z hz
        refine ⟨EI.exm z hm, rfl, fun a ha => ?_⟩
        have gm := Gr.mk1 (o := XO (.ref (He.ga X.K z)) a) g'.sub ha
        have rp : Rp X.K (upd Hi' a (XO (.ref (He.ga X.K z)) a)) (.ref a) (excD z) := .exc hm upd_same
        exact hq.run Bi B _ _ _ Dn W tk ((g.trans g').trans gm) (((((S.grow g').grow gm).set rp).set rp).wipe1) rb N')
      fun ρ' Hi' H' σ' hz g' S' => (hn ρ' hz).run Bi B Hi' H' σ' Dn W tk (g.trans g') S' rb N'⟩
theorem s_tryJ {κ J : Type} {kr : κ} {bd : κ → Prop} (h : join kr bd) (st : J → List Sl) (go : J → κ → Prop) (ex : Str → J) (i j : Nat) {n y : Str} {np pos' py pn2 pos2 : Pos}
    (hb : ∀ pn xe, bd kr → SB (X.tr pn xe) (fun z => z ∈ excN ∧ go (ex z) kr) body ρ (fun ρ' => ∃ q, ρ' = st q ∧ go q kr)) (EI : ExcI X.K X.mg) (hrest : ∀ q, go q kr → SQ X Ψ rest (st q) R) (hN : X.N.Nodup)
    (hst : ∀ z, ((ρ.set i (.dat (excD z))).set j (.dat (excD z))).set i .emp = st (ex z) := by intro _; rfl)
    (hij : i ≠ j := by decide) (hi : X.N[i]? = some n := by rfl) (hj : X.N[j]? = some y := by rfl) (hln : X.env.kindOf n = some .local := by rfl) (hy : Loc X.env.scope y := by first | exact Or.inl rfl | exact Or.inr rfl)
    (hsw : swapsWith (.Name n pn2) (some (.Name y py)) pos2.line X.env = pure false := by rfl) (hfy : X.fn y = true ∨ X.env.scope.names.lookup y = some .local := by first | exact .inl rfl | exact .inr rfl)
    (hdn : (n == ("__debug__" : Str)) = false := by decide) (hcn : (n == ("__classdict__" : Str)) = false := by decide) (hg : Gl X "OverError" := by rfl)
    (hs : X.stack = X.env :: X.outer := by rfl) (hf : X.env.frame = some X.env.locals := by rfl) (hex : X.ex = [] := by rfl) :
    SQ X Ψ (.Try body [.ExceptHandler (some (.Name "OverError" np)) (some n) [.Assign [.Name y py] (.Name n pn2) pos2] pos'] [] [] pos :: rest) ρ R :=
  s_try i j (fun pn xe => hb pn xe h) EI (fun z hz => ⟨hz.1, by rw [hst z]; exact hrest _ hz.2⟩) (fun ρ' ⟨q, e, hq⟩ => by rw [e]; exact hrest q hq) hN hij hi hj hln hy hsw hfy hdn hcn hg hs hf hex
/-! ### isinstance of one that was caught -/
def rIsX (K : PySem.W.Frag) : List V → Hp → VK → Prop := fun xs H Q => ∃ (a Dc : Addr) (c : V) (cv : Value) (b : Bool), xs = [.ref a, c] ∧ H a = some (XO (.ref Dc) a) ∧ ExcC K Dc ∧ (∀ u, RelV c u → u = cv) ∧ PySem.W.kitOne K (.ref Dc) cv = some b ∧ Q (.bl b) H
theorem call_isX {X : Cx} : CallR X (.builtin "isinstance") (rIsX X.K) := by
  intro pins s σ H xs us Q I r h
  obtain ⟨a, Dc, c, cv, b, rfl, ha, C, hcv, e, q⟩ := h
  cases r with
  | cons rx rr =>
    cases rr with
    | cons rt rr =>
      cases rr
      cases rx
      have ec := hcv _ rt
      subst ec
      obtain ⟨⟨oe, vs, hget, hz, hv⟩, _, _⟩ := I.hok a _ ha
      have J : PySem.W.InstAt s.heap a oe Dc none := by
        obtain ⟨oc, od, oda, osl⟩ := oe
        obtain ⟨h1, h2⟩ := hz
        dsimp only at h1 h2 hv
        subst h1 h2 hv
        exact ⟨hget, rfl, rfl, trivial⟩
      exact PySem.W.kia_one (PySem.W.handS_kitx_exc C.hg C.hk C.hs C.hd C.ha C.hn C.ht C.hm) I.kIn J e (fun z => nomatch z) fun tk => ⟨.bl b, H, I.kept (t' := tk) fun _ _ z => z, rfl, q⟩
def isxD (y : Str) (x : D) (Φ : D → Prop) : Prop := ∃ z ∈ excN, x = excD z ∧ Φ (.bl (subX z y))
theorem sx_isx {T : Str} (EI : ExcI X.K X.mg) (hm : X.mg "isinstance" = none) (ht : X.mg T = some (.ref (He.ga X.K T))) (ha : SX X e ρ ma) (hT : T ∈ excN ++ (["OverError"] : List Str) := by decide)
    (hg : Gl X "isinstance" := by rfl) (hg2 : Gl X T := by rfl) (hdb : (T == ("__debug__" : Str)) = false := by decide)
    (he : starEach [e, .Name T p2] X.env = (false, eval e X.env) :: starEach [.Name T p2] X.env := by exact se_of rfl) (he2 : starEach [.Name T p2] X.env = (false, eval (.Name T p2) X.env) :: starEach [] X.env := by rfl) (hpl : (backTo pos (starEach [.Name T p2] X.env)).any (·.1) = false := by rfl) (hne : T ≠ "ValueError" := by decide) :
    SX X (.Call (.Name "isinstance" p) [e, .Name T p2] [] pos) ρ (una (isxD T) ma) := ⟨fun k B Hi H σ W tk S rs Q q => wE.of (pe_callB call_isX hg hm (by decide +kernel) (pa_cons pe_w (pa_cons (pe_glob (v := .ref (He.ga X.K T)) hg2 ht rfl hdb) pa_nil he2) he) (by decide) (by decide) he hpl)
      ((ha.run k) B Hi H σ W tk S rs _ fun v d2 Hi1 H1 z g r => by
        obtain ⟨z, hz, rfl, kk⟩ := z
        obtain ⟨a, rfl, hat⟩ := r.exc_inv hz
        have kt := EI.kit z hz T (by rcases List.mem_append.mp hT with h | h; exact List.mem_append_left _ h; exact List.mem_append_right _ (by rw [List.mem_singleton.mp h]; exact List.mem_cons_self))
        rw [show clsV X.K T = .ref (He.ga X.K T) from if_neg hne] at kt
        exact ⟨a, _, .ref (He.ga X.K T), .ref (He.ga X.K T), _, rfl, g.sub _ _ hat, EI.c z hz, fun u hu => hu, kt, q _ _ Hi1 H1 kk g (.bl _)⟩)⟩
theorem sx_isv (EI : ExcI X.K X.mg) (hm : X.mg "isinstance" = none) (ht : X.mg "ValueError" = none) (ha : SX X e ρ ma)
    (hg : Gl X "isinstance" := by rfl) (hg2 : Gl X "ValueError" := by rfl) 
    (he : starEach [e, .Name "ValueError" p2] X.env = (false, eval e X.env) :: starEach [.Name "ValueError" p2] X.env := by exact se_of rfl) (he2 : starEach [.Name "ValueError" p2] X.env = (false, eval (.Name "ValueError" p2) X.env) :: starEach [] X.env := by rfl) (hpl : (backTo pos (starEach [.Name "ValueError" p2] X.env)).any (·.1) = false := by rfl) :
    SX X (.Call (.Name "isinstance" p) [e, .Name "ValueError" p2] [] pos) ρ (una (isxD "ValueError") ma) := ⟨fun k B Hi H σ W tk S rs Q q => wE.of (pe_callB call_isX hg hm (by decide +kernel) (pa_cons pe_w (pa_cons (pe_bltn (v := .ty "ValueError") hg2 ht (by decide +kernel) rfl (by decide) (by decide)) pa_nil he2) he) (by decide) (by decide) he hpl)
      ((ha.run k) B Hi H σ W tk S rs _ fun v d2 Hi1 H1 z g r => by
        obtain ⟨z, hz, rfl, kk⟩ := z
        obtain ⟨a, rfl, hat⟩ := r.exc_inv hz
        have kt := EI.kit z hz "ValueError" (by decide)
        rw [show clsV X.K "ValueError" = .type "ValueError" from if_pos rfl] at kt
        exact ⟨a, _, .ty "ValueError", .type "ValueError", _, rfl, g.sub _ _ hat, EI.c z hz, fun u hu => hu, kt, q _ _ Hi1 H1 kk g (.bl _)⟩)⟩
/-! ### count, index in a list of bools -/
def rCntF (K : PySem.W.Frag) : V → List V → Hp → VK → Prop := fun x xs H Q => ∃ (a : Addr) (ys : List V) (y : V), x = .ref a ∧ xs = [y] ∧ SqL K H a ys ∧ flatV y = true ∧ ys.all flatV = true ∧ Q (.int (ys.countP (fun z => eqV z y) : Nat)) H
theorem cnt_eq {y : V} : ∀ {ys : List V} {us : List Value}, Vals ys us → ys.all flatV = true → us.countP (eqU y) = ys.countP (fun z => eqV z y)
  | [], _, h, _ => by cases h; rfl
  | z :: ys, _, h, f => by
    cases h with
    | cons r t =>
      rw [List.all_cons, Bool.and_eq_true] at f
      rw [List.countP_cons, List.countP_cons, cnt_eq t f.2, eqU_of r f.1]
theorem mt_countF {X : Cx} : MtR X "list.count" (rCntF X.K) := by
  intro pins s σ H x xs v us Q I rx rxs h
  obtain ⟨p, ys, y, rfl, rfl, hs, fy, fys, q⟩ := h
  cases rx
  obtain ⟨u, rfl, ru⟩ := rxs.one
  obtain ⟨its, rv, ⟨⟨cls, dd, data, sl⟩, n, ho, hc, hdn, hd⟩, hlen⟩ := I.list hs
  simp only at hc hd
  subst hc hd
  refine call_meets PySem.F.slot_list_count ⟨_, ho, rfl⟩ PySem.F.entry_list_count (PySem.F.args_list_count_2 _ _)
    (PySem.SeqAt.list_countAt p its.toArray n dd sl u (eqU y)) ⟨ho, fun z hz => mem_eqAt ru fy rv fys z (by simpa using hz), ?_⟩
  refine ⟨.int (ys.countP (fun z => eqV z y) : Nat), H, I.tok _, ⟨s.toks, ?_⟩, q⟩
  show Value.int ((its.toArray.toList.countP (eqU y) : Nat) : Int) s.toks = _
  rw [show its.toArray.toList.countP (eqU y) = _ from cnt_eq rv fys]
theorem bls_of {K : PySem.W.Frag} {Hi : Hp} : ∀ {bs : List Bool} {vs : List V}, RpA K Hi vs (bs.map D.bl) → vs = bs.map V.bl
  | [], _, h => by cases h; rfl
  | b :: bs, _, h => by
    cases h with
    | cons h1 h2 => cases h1; rw [bls_of h2]; rfl
theorem bls_flat {bs : List Bool} : (bs.map V.bl).all flatV = true := by
  rw [List.all_eq_true]; intro x hx; obtain ⟨b, _, rfl⟩ := List.mem_map.mp hx; rfl
theorem eqV_bl (a b : Bool) : eqV (.bl a) (.bl b) = decide (a = b) := by cases a <;> cases b <;> rfl
/-- a list's method of one argument -/
def mthL (f : List D → D → (D → Prop) → Prop) (a b : M) : M := fun Φ Ψ => a (fun x => match x with
  | .lst ds => b (fun y => f ds y Φ) Ψ
  | _ => False) Ψ
def cntD (ds : List D) (y : D) (Φ : D → Prop) : Prop := match y with
  | .bl b => ∃ bs : List Bool, ds = bs.map D.bl ∧ Φ (.int (bs.count b : Nat))
  | _ => False
def idxD (ds : List D) (y : D) (Φ : D → Prop) : Prop := match y with
  | .bl b => ∃ (bs : List Bool) (j : Nat), ds = bs.map D.bl ∧ bs[j]? = some b ∧ (∀ m : Nat, m < j → bs[m]? ≠ some b) ∧ Φ (.int (j : Nat))
  | _ => False
theorem cnt_bl {bs : List Bool} {b : Bool} : (bs.map V.bl).countP (fun z => eqV z (.bl b)) = bs.count b := by
  induction bs with
  | nil => rfl
  | cons a bs ih =>
    rw [List.map_cons, List.countP_cons, List.count_cons, ih, eqV_bl]
    cases a <;> cases b <;> rfl
theorem sx_count {apos : Pos} (ha : SX X a ρ ma) (hb : SX X b ρ mb) (hbase : attributeBase a "count" X.env (eval a X.env) = eval a X.env := by rfl)
    (hfew : ((backTo pos (starEach [b] X.env)).all (fun x => !x.1) && (backToKw pos (keywordEach [] X.env)).all (fun x => x.1.isSome) && decide ([b].length + ([] : List Keyword).length + (if ([] : List Keyword).isEmpty then 0 else 1) < 30)) = true := by rfl)
    (hline : (apos.endLine == pos.line) = true := by rfl) (hs : starEach [b] X.env = (false, eval b X.env) :: starEach [] X.env := by rfl) (hpl : (backTo pos (starEach [] X.env)).any (·.1) = false := by rfl) :
    SX X (.Call (.Attribute a "count" apos) [b] [] pos) ρ (mthL cntD ma mb) := ⟨fun k B Hi H σ W tk S rs Q q =>
  wE.of (pe_bm (T := "list") PySem.F.plainAttrs_list PySem.F.slot_list_count PySem.F.type_list_count mt_countF pe_w (pa_cons pe_w pa_nil hs) hbase hfew hline hs hpl)
    ((ha.run k) B Hi H σ W tk S rs _ fun v d Hi1 H1 z g r => by
      cases r with
      | @lst ad xs ds hl ha2 =>
        refine ⟨.inl ⟨rfl, xs, SqL.of (g.sub _ _ hl)⟩, (hb.run z) B Hi1 H1 σ W tk (S.grow g) (rs.grow g) _ fun u d2 Hi2 H2 z2 g2 r2 => ?_⟩
        cases r2 with
        | bl b2 =>
          obtain ⟨bs, rfl, kk⟩ := z2
          have e := bls_of ha2
          subst e
          exact ⟨ad, _, .bl b2, rfl, rfl, SqL.of (g2.o _ _ (g.sub _ _ hl)), rfl, bls_flat, by rw [cnt_bl]; exact q _ _ Hi2 H2 kk (g.trans g2) (.int _)⟩
        | _ => exact False.elim z2
      | _ => exact False.elim z)⟩
theorem sx_index {apos : Pos} (ha : SX X a ρ ma) (hb : SX X b ρ mb) (hbase : attributeBase a "index" X.env (eval a X.env) = eval a X.env := by rfl)
    (hfew : ((backTo pos (starEach [b] X.env)).all (fun x => !x.1) && (backToKw pos (keywordEach [] X.env)).all (fun x => x.1.isSome) && decide ([b].length + ([] : List Keyword).length + (if ([] : List Keyword).isEmpty then 0 else 1) < 30)) = true := by rfl)
    (hline : (apos.endLine == pos.line) = true := by rfl) (hs : starEach [b] X.env = (false, eval b X.env) :: starEach [] X.env := by rfl) (hpl : (backTo pos (starEach [] X.env)).any (·.1) = false := by rfl) :
    SX X (.Call (.Attribute a "index" apos) [b] [] pos) ρ (mthL idxD ma mb) := ⟨fun k B Hi H σ W tk S rs Q q =>
  wE.of (pe_bm (T := "list") PySem.F.plainAttrs_list PySem.F.slot_list_index PySem.F.type_list_index mt_index pe_w (pa_cons pe_w pa_nil hs) hbase hfew hline hs hpl)
    ((ha.run k) B Hi H σ W tk S rs _ fun v d Hi1 H1 z g r => by
      cases r with
      | @lst ad xs ds hl ha2 =>
        refine ⟨.inl ⟨rfl, xs, SqL.of (g.sub _ _ hl)⟩, (hb.run z) B Hi1 H1 σ W tk (S.grow g) (rs.grow g) _ fun u d2 Hi2 H2 z2 g2 r2 => ?_⟩
        cases r2 with
        | bl b2 =>
          obtain ⟨bs, j, rfl, hj, hno, kk⟩ := z2
          have e := bls_of ha2
          subst e
          exact ⟨ad, _, .bl b2, j, .bl b2, rfl, rfl, SqL.of (g2.o _ _ (g.sub _ _ hl)), rfl, bls_flat, by rw [List.getElem?_map, hj]; rfl, by rw [eqV_bl]; simp, fun m z' hm hz => by
            rw [List.getElem?_map] at hz
            cases e2 : bs[m]? with
            | none => rw [e2] at hz; cases hz
            | some b3 =>
              rw [e2] at hz; cases hz
              rw [eqV_bl]
              exact decide_eq_false fun z => hno m hm (by rw [e2, z]), q _ _ Hi2 H2 kk (g.trans g2) (.int _)⟩
        | _ => exact False.elim z2
      | _ => exact False.elim z)⟩
/-! ### index in a list of data -/
end
end G
namespace G
open PySem PySem.Spec L2
section
variable {X : Cx} {Ψ : Str → Prop} {ρ : List Sl} {R : Po} {e : Expr} {pos p : Pos} {rest : List Stmt} {m : M} {k : D → Prop}
/-! ### x *= e, ints -/
end
end G
namespace G
open PySem PySem.Spec L2
mutual
theorem reads_lt {h : Heap} : ∀ {v : Value} {d : PyData} {as : List Addr}, Reads h v d as → ∀ a ∈ as, a < h.objs.size
  | _, _, _, .none, _, m | _, _, _, .bool _, _, m | _, _, _, .int _ _, _, m | _, _, _, .str _ _, _, m => by cases m
  | _, _, _, .list e _ _ r, a, m => by
    rcases List.mem_cons.mp m with rfl | m
    · exact Heap.lt_size e
    · exact reads_lts r a m
  | _, _, _, .tuple _ _ _ r, a, m => reads_lts r a m
  | _, _, _, .dict e _ _ r q, a, m => by
    rcases List.mem_append.mp m with m | m
    · rcases List.mem_cons.mp m with rfl | m
      · exact Heap.lt_size e
      · exact reads_lts r a m
    · exact reads_lts q a m
theorem reads_lts {h : Heap} : ∀ {vs : List Value} {ds : List PyData} {as : List Addr}, ReadsAll h vs ds as → ∀ a ∈ as, a < h.objs.size
  | _, _, _, .nil, _, m => by cases m
  | _, _, _, .cons r q, a, m => by
    rcases List.mem_append.mp m with m | m
    · exact reads_lt r a m
    · exact reads_lts q a m
end
/-! ### sorted(x): x a list or a dict, of data that are alike -/
def srt (ds : List D) : List D := ds.mergeSort (PySem.W.dataLe false D.py)
def srtB (ds : List D) : Prop := (PySem.W.AllAlike (ds.map D.py) ∧ PySem.W.Sortable (ds.map D.py)) ∧ ds.length ≤ 100000
section
variable {X : L2.Cx}
def rSortG (K : PySem.W.Frag) : List V → Hp → VK → Prop := fun vs H Q => ∃ (R : V → D → Prop) (a : Addr) (xs : List V) (ds : List D), vs = [.ref a] ∧ (SqL K H a xs ∨ ∃ ys o, H a = some (.ext (dctO a ys o)) ∧ xs = ys.map fun y => V.ref y.2.1) ∧ Paired R xs ds ∧
  (∀ x d, R x d → d ∈ ds → Dp K H x d.py) ∧ srtB ds ∧ (∀ d ∈ ds, d.py.depth ≤ 40) ∧ ∀ zs l, Paired R zs (srt ds) → H l = none → Q (.ref l) (upd H l (.lst zs))
theorem each_of {R : V → D → Prop} : ∀ {xs : List V} {us : List Value} {ds : List D}, Vals xs us → Paired R xs ds → PySem.W.EachIs (fun u d => ∃ x, RelV x u ∧ R x d) us ds
  | _, _, _, .nil, .nil => .nil
  | _, _, _, .cons r t, .cons q p => .cons ⟨_, r, q⟩ (each_of t p)
theorem of_each {R : V → D → Prop} : ∀ {us : List Value} {ds : List D}, PySem.W.EachIs (fun u d => ∃ x, RelV x u ∧ R x d) us ds → ∃ xs, Vals xs us ∧ Paired R xs ds
  | _, _, .nil => ⟨[], .nil, .nil⟩
  | _, _, .cons ⟨x, r, q⟩ t => by
    obtain ⟨xs, h1, h2⟩ := of_each t
    exact ⟨x :: xs, .cons r h1, .cons q h2⟩
theorem each_reads {pins : List (Addr × Obj)} {σ : L2.St} {H : Hp} {s : Shared} {R : V → D → Prop} (I : Inv X pins σ H s) : ∀ {xs : List V} {us : List Value} {ds : List D}, (∀ x d, R x d → d ∈ ds → Dp X.K H x d.py) → Vals xs us → Paired R xs ds → PySem.W.EachIs (fun u d => ∃ as, Reads s.heap u d.py as) us ds
  | _, _, _, _, .nil, .nil => .nil
  | _, _, _, h, .cons r t, .cons q p => .cons (Dp.reads I _ _ _ (h _ _ q List.mem_cons_self) r) (each_reads I (fun x d z m => h x d z (List.mem_cons_of_mem _ m)) t p)
theorem call_sortedG (hu : X.A.units + 65 < cLine) (hc : X.calm = true) : CallR X (.builtin "sorted") (rSortG X.K) := fun pins s σ H vs us Q I r h => by
  obtain ⟨R, a, xs, ds, rfl, hsrc, pr, hdp, ⟨⟨al, so⟩, hl⟩, hdep, q⟩ := h
  obtain ⟨u, rfl, ru⟩ := vals1 r
  obtain rfl : u = Value.ref a := ru
  have hlz : ds.length ≤ sizeLine := Nat.le_trans hl (by decide)
  rcases hsrc with hs | ⟨ys, o, hb, rfl⟩
  · obtain ⟨its, rv, pl, hz⟩ := I.list hs
    refine PySem.W.sorted_data (enc := D.py) pl.isList (each_of rv pr) (each_reads I hdp rv pr) al so hlz (fun d hd => by have := hdep d hd; omega) fun out ho eo => ?_
    obtain ⟨zs, z1, z2⟩ := of_each eo
    obtain ⟨c, hc'⟩ := PyProof.Rows.sortedAll_at s.heap its out.toArray
    have hlen : zs.length ≤ sizeLine := by rw [z1.length, ho]; exact hlz
    exact ⟨.ref (s.heap.objs.size + 1), _, I.laid (t' := s.toks) (fun b ob e => PyProof.Rows.sortedAll_old e) (Nat.le_succ _) (show ObjOk X.prog X.w _ _ _ (.lst zs) from ⟨hlen, out, c, z1, hc'⟩), rfl, q zs _ z2 (I.hok.fresh (Nat.le_succ _))⟩
  · obtain ⟨es, ep, hr, _, hel, dsx, hv⟩ := raw_of I hb
    refine Calls.call_function_entry PyProof.Rows.kind_sorted PyProof.Rows.plain_sorted PyProof.Rows.entry_sorted (PyProof.Rows.args_sorted1 _) ?_
    unfold Builtin.«sorted»
    refine wpAny_bind (m := checkCount "sorted" 1 1 _) (wpAny_pure ?_)
    refine wpAny_bind (PySem.W.kdu_collect (A := X.A.in1) (KdlSrc.rawDict (prog := X.prog) (w := X.w) dsx.sm) (I.ok.hd hc) hr (by rw [hel]; exact dsx.len) fun h' tk acc keep hacc => ?_)
    have rv : Vals (ys.map fun y => V.ref y.2.1) acc.toList := items_keys hel hv hacc
    have I1 : Inv X pins σ H { s with heap := h', toks := tk } := I.kept keep
    have hal : acc.toList.length = ds.length := rv.length.symm.trans (Paired.length pr)
    refine wpAny_bind (wpAny_newList ?_ (by rw [hal]; exact hlz))
    have hoL : (h'.push (PyProof.Rows.seqObj "list" acc.toList.toArray 0)).get? h'.objs.size = some (PyProof.Rows.seqObj "list" acc.toList.toArray 0) := Heap.get?_push_size _ rfl
    show wpAny _ _ _ _ _ { s with heap := h'.push (PyProof.Rows.seqObj "list" acc.toList.toArray 0), toks := tk }
    have er0 := each_reads I1 hdp rv pr
    have er : PySem.W.EachIs (fun v d => ∃ as, Reads (h'.push (PyProof.Rows.seqObj "list" acc.toList.toArray 0)) v (D.py d) as ∧ h'.objs.size ∉ as) acc.toList ds := er0.mono fun v d ⟨as, rd⟩ => ⟨as, PyProof.Rows.Reads.keeps (fun b ob e => Heap.get?_push_of_some _ e) rd, fun m => Nat.lt_irrefl _ (reads_lt rd _ m)⟩
    refine wpAny_bind (wpAny_holding (PySem.W.list_sort_data (enc := D.py) (s := { s with heap := h'.push (PyProof.Rows.seqObj "list" acc.toList.toArray 0), toks := tk }) hoL (each_of rv pr) er al so hlz (fun d hd => by
      have := hdep d hd
      show X.A.units + 1 + 1 + _ < cLine
      omega) fun out ho eo => ?_))
    obtain ⟨zs, z1, z2⟩ := of_each eo
    obtain ⟨c, hc'⟩ := PyProof.Rows.sortedHeap_at (vs := acc.toList) (out := out.toArray) hoL
    have hlen : zs.length ≤ sizeLine := by rw [z1.length, ho]; exact hlz
    refine wpAny_pure ⟨_, rfl, .ref h'.objs.size, _, I1.laid (t' := tk) (fun b ob e => ?_) (Nat.le_refl _) (show ObjOk X.prog X.w _ _ _ (.lst zs) from ⟨hlen, out, c, z1, hc'⟩), rfl, q zs _ z2 (I1.hok.fresh (Nat.le_refl _))⟩
    have hb : b < h'.objs.size := Heap.lt_size e
    rw [PyProof.Rows.sortedHeap_old (Nat.ne_of_lt hb) (by rw [PyProof.Rows.size_push']; exact Nat.lt_succ_of_lt hb)]
    exact Heap.get?_push_of_some _ e
end
end G
namespace G
open PySem PySem.Spec L2
/-! ### dicts: comprehensions, get, those of one's own -/
def dcE (it : MA) (f : D → (Option (D × D) → Prop) → Prop) : M := fun Φ Ψ => it (fun ds => ds.length ≤ 100000 ∧ dcL f ds [] fun kvs => Φ (dctD kvs)) Ψ
def onDct (x : D) (k : List D → List D → Prop) : Prop := match x with
  | .dct ks vs => k ks vs
  | _ => False
def getE2 (a b c : M) : M := fun Φ Ψ => a (fun x => onDct x fun ks vs => b (fun y => c (fun z => y.key = true ∧ Φ ((dGet ks vs y).getD z)) Ψ) Ψ) Ψ
section
variable {X : Cx} {Ψ : Str → Prop} {ρ : List Sl} {R : Po} {a b c e : Expr} {es : List Expr} {pos apos p p2 : Pos} {rest body blk els : List Stmt} {ma mb mc m : M} {tc : MB} {k : D → Prop} {tg iter : Expr} {mi : MA} {scope : Scope} {own : List (Str × Nat)} {ek ev : Expr} {ifs : List Expr} {f : D → (Option (D × D) → Prop) → Prop}
theorem dcq_S {vs : List Nat} {Φ : D → Prop} {ds : List D} (hl : ds.length ≤ 100000) (h : dcL f ds [] fun kvs => Φ (dctD kvs))
    (hb : ∀ d k, f d k → ∃ ρ', QGb X scope vs tg d (wipeS ρ vs) ρ' ∧ ∃ Θ : Bool → Prop, (match ifs with
      | [] => Θ true
      | c :: _ => ∀ s H C cl fp, QT (BlkX X scope s H C cl fp) bot c ρ' Θ) ∧
      (Θ true → ∀ s H C cl fp, QX (BlkX X scope s H C cl fp) bot ek ρ' fun y => ∀ s H C cl fp, QX (BlkX X scope s H C cl fp) bot ev ρ' fun z => k (some (y, z))) ∧ (Θ false → k none)) : DcQ X scope vs tg ek ev ifs ρ ds (fun i acc => dcL f (ds.drop i) acc fun kvs => Φ (dctD kvs)) Φ := by
  refine ⟨hl, h, fun i d acc hd hI => ?_, fun acc hI => ?_⟩
  · obtain ⟨hi, e⟩ := List.getElem?_eq_some_iff.mp hd
    rw [List.drop_eq_getElem_cons hi, e] at hI
    obtain ⟨ρ', hg, Θ, h1, h2, h3⟩ := hb d _ hI
    exact ⟨ρ', hg, Θ, h1, h2, h3⟩
  · rw [List.drop_length] at hI
    exact hI
theorem qx_dcE {Φ : D → Prop} (hu : X.A.units + 65 < cLine) (hN : X.N.Nodup) (ok : BlkOk X.N X.env.scope scope own) (h : QI X Ψ tg iter ρ fun ds => ∃ I, DcQ X scope (own.map (·.2)) tg ek ev ifs ρ ds I Φ) (hl : ifs.length ≤ 1)
    (hc : X.calm = true) (hs : ∀ x, foldedSetIterable iter X.env x = pure x) : QX X Ψ (.DictComp ek ev [⟨tg, iter, ifs, 0⟩] scope pos) ρ Φ := by
  obtain ⟨wi, hi, h⟩ := h
  exact fun B Hi H σ W tk S rs Q q => wE.of (pe_dcC hu hc hN hi ok (fun s H C cl fp => pg_b s H C cl fp) (fun s H C cl fp => pts_of hl s H C cl fp) (fun s H C cl fp => pe_b s H C cl fp) (fun s H C cl fp => pe_b s H C cl fp) hs)
    (h B Hi H σ W tk S rs _ fun ds Hi1 H1 J z g wk => z.elim fun I z => dc_go z (S.grow g) wk fun v d Hi' H' hz g' r => q v d Hi' H' hz (g.trans g') r)
theorem sx_dc0 (hu : X.A.units + 65 < cLine) (hN : X.N.Nodup) (ok : BlkOk X.N X.env.scope scope own) (hi : SI X tg iter ρ mi)
    (hb : ∀ d k, f d k → ∃ ρ', QGb X scope (own.map (·.2)) tg d (wipeS ρ (own.map (·.2))) ρ' ∧ ∀ s H C cl fp, QX (BlkX X scope s H C cl fp) bot ek ρ' fun y => ∀ s H C cl fp, QX (BlkX X scope s H C cl fp) bot ev ρ' fun z => k (some (y, z))) (hc : X.calm = true := by rfl) (hs : ∀ x, foldedSetIterable iter X.env x = pure x := by intro _; rfl) :
    SX X (.DictComp ek ev [⟨tg, iter, [], 0⟩] scope pos) ρ (dcE mi f) := ⟨fun h => qx_dcE (ifs := []) hu hN ok ((hi.run h).mono fun ds h => ⟨_, dcq_S (ifs := []) h.1 h.2 fun d k h => by
      obtain ⟨ρ', hg, h⟩ := hb d k h
      exact ⟨ρ', hg, fun b => b = true, rfl, fun _ => h, fun e => Bool.noConfusion e⟩⟩) (by decide) hc hs⟩
/-! d.get -/
theorem at_of_dct {K : PySem.W.Frag} {Hi H : Hp} {b : Addr} {xs : List Ent} {o : Obj} {vs : List D} {us : List V} {y : V} {d z : D} {w : V} (s : Ex Hi H) (ry : Rp K Hi y d) (hk : d.key = true) (hb : Hi b = some (.ext (dctO b xs o))) (kk : (xs.map (·.1)).all D.key = true) (rk : RpA K Hi (xs.map fun x => V.ref x.2.1) (xs.map (·.1)))
    (vl : Vals us (xs.map fun x => x.2.2)) (rv : RpA K Hi us vs) (rz : Rp K Hi w z) : ∃ r, AtC K H b y r ∧ Rp K Hi (r.getD w) ((dGet (xs.map (·.1)) vs d).getD z) := by
  have h := at_get (k := d) hk kk vl rv
  cases e : dGet (xs.map (·.1)) vs d with
  | none => exact ⟨none, ⟨d, xs, o, ry.up s, hk, s _ _ hb, kk, rk.up s, .inr ⟨rfl, h.2 e⟩⟩, rz⟩
  | some v =>
    obtain ⟨a, u, x, h1, h2, h3⟩ := h.1 v e
    exact ⟨some x, ⟨d, xs, o, ry.up s, hk, s _ _ hb, kk, rk.up s, .inl ⟨x, a, u, rfl, h1, h2⟩⟩, h3⟩
theorem sx_get2 (hu : X.A.units + 65 < cLine) (ha : SX X a ρ ma) (hb : SX X b ρ mb) (hc : SX X c ρ mc) (hm : M2 X a "get" apos b c pos := by exact ⟨rfl, rfl, rfl, rfl⟩) : SX X (.Call (.Attribute a "get" apos) [b, c] [] pos) ρ (getE2 ma mb mc) :=
  ⟨fun h B Hi H σ W tk S rs Q q => wE.of (pe_getC hu pe_w pe_w pe_w hm) ((ha.run h) B Hi H σ W tk S rs _ fun v d Hi1 H1 z g r => by
    cases r with
    | @dct ad xs o ks vs us hd he kk rk vl rv =>
      subst he
      refine ⟨ad, xs, o, rfl, g.sub _ _ hd, (hb.run z) B Hi1 H1 σ W tk (S.grow g) (rs.grow g) _ fun y dy Hi2 H2 z g2 ry => (hc.run z) B Hi2 H2 σ W tk ((S.grow g).grow g2) ((rs.grow g).grow g2) _ fun w dw Hi3 H3 z g3 rw' => ?_⟩
      have z2 : dy.key = true ∧ _ := z
      obtain ⟨r, h1, h2⟩ := at_of_dct (H := H3) g3.sub (ry.up g3.i) z2.1 (g3.i _ _ (g2.i _ _ hd)) kk ((rk.up g2.i).up g3.i) vl ((rv.up g2.i).up g3.i) rw'
      exact ⟨r, h1, q _ _ Hi3 H3 z2.2 ((g.trans g2).trans g3) h2⟩
    | _ => exact False.elim z)⟩
/-! {} -/
theorem s_newD (i : Nat) {x : Str} {lp : Pos} (hr : SQ X Ψ rest (ρ.set i (.dct [])) R) (hN : X.N.Nodup) (hi : X.N[i]? = some x := by rfl) (hx : Loc X.env.scope x := by first | exact Or.inl rfl | exact Or.inr rfl)
    (hs : swapsWith (.Dict [] [] lp) (some (.Name x p)) pos.line X.env = pure false := by rfl) (hf : X.fn x = true ∨ X.env.scope.names.lookup x = some .local := by first | exact .inl rfl | exact .inr rfl) : SQ X Ψ (.Assign [.Name x p] (.Dict [] [] lp) pos :: rest) ρ R :=
  ⟨fun Bi B Hi H σ Dn W tk g S rb N => wSs.cons (ps_set hN hi hx pe_newC hs hf) fun q o hq => hr.run Bi B Hi (upd H q (.ext (dctO q [] o))) (σ.set i (some (.ref q))) Dn W tk (g.trans (Gr.out g.sub (Ex.new hq))) (S.own1 g.o hq (show ClOk X.K Hi q _ (.dct []) from ⟨[], [], o, rfl, rfl, rfl, .nil, .nil, .nil⟩)) rb N⟩
theorem frz_dct {kvs : List (D × D)} : ∀ (K : PySem.W.Frag) (Hi : Hp) (a : Addr) (o : HO) (Hj : Hp), ClOk K Hi a o (.dct kvs) → Ex Hi Hj → Hj a = some o → Rp K Hj (.ref a) (dctD kvs) := fun K Hi a o Hj h e z => by
  cases o with
  | ext φ =>
    obtain ⟨xs, us, ob, rfl, h1, h2, h3, h4, h5⟩ := h
    exact .dct z h1 h2 (h3.up e) h4 (h5.up e)
  | _ => exact h.elim
theorem s_frzD (i : Nat) {kvs : List (D × D)} (hi : ρ[i]? = some (.dct kvs)) (hr : SQ X Ψ rest (ρ.set i (.dat (dctD kvs))) R) : SQ X Ψ rest ρ R := ⟨qs_frz i hi frz_dct hr.run⟩
theorem sx_peekD (i : Nat) {kvs : List (D × D)} (hi : ρ[i]? = some (.dct kvs)) (he : SX X e (ρ.set i (.dat (dctD kvs))) m) : SX X e ρ (flatM m) := ⟨fun h => qx_peek i hi frz_dct (he.run h)⟩
/-- d[k] = v, d of one's own -/
theorem s_putD (hu : X.A.units + 65 < cLine) (i : Nat) {x : Str} {kvs : List (D × D)} {pos' : Pos} {P : D → D → Prop} (hi : ρ[i]? = some (.dct kvs)) (he : SX X e ρ m) (hb : SX X b ρ mb) (h : m (fun v => mb (fun k => (kvs.length ≤ 100000 ∧ k.key = true) ∧ P k v) Ψ) Ψ)
    (hr : ∀ k v, P k v → SQ X Ψ rest (ρ.set i (.dct (dPut kvs k v))) R) (hN : X.N[i]? = some x := by rfl) (hv : Vis X.env.scope x := by first | exact Or.inl rfl | exact Or.inr (Or.inl rfl) | exact Or.inr (Or.inr rfl))
    (hs : swapsWith e (some (.Subscript (.Name x p) b pos')) pos.line X.env = pure false := by rfl) (hd : (x == ("__debug__" : Str)) = false := by decide) (hcd : (x == ("__classdict__" : Str)) = false := by decide) :
    SQ X Ψ (.Assign [.Subscript (.Name x p) b pos'] e pos :: rest) ρ R := ⟨fun Bi B Hi H σ Dn W tk g S rb N => by
  refine wSs.cons (ps_putC hu (pe_var hN hv hd hcd) pe_w pe_w hs) ((he.run h) B Hi H σ W tk S (rb.rs g σ) _ fun v dv Hi1 H1 z g1 rv => ?_)
  obtain ⟨a0, o0, e0, _⟩ := S.own hi
  refine ⟨_, e0, (hb.run z) B Hi1 H1 σ W tk (S.grow g1) ((rb.rs g σ).grow g1) _ fun y dk Hi2 H2 z2 g2 ry => ?_⟩
  have S2 := (S.grow g1).grow g2
  obtain ⟨a, o, e2, b2, n2, x2, r2⟩ := S2.own hi
  rw [e0] at e2
  cases e2
  cases o with
  | ext φ =>
    obtain ⟨xs, us, ob, rfl, h1, h2, h3, h4, h5⟩ := r2
    obtain ⟨⟨hz, hk⟩, z2⟩ := z2
    obtain ⟨c, rfl⟩ := key_ref hk ry
    have hl : xs.length = kvs.length := by have := congrArg List.length h1; simpa using this.symm
    have h3' : RpA X.K Hi2 (xs.map fun x => V.ref x.2.1) (xs.map (·.1)) := h1 ▸ h3
    refine ⟨_, c, xs, ob, dk, rfl, x2, h1 ▸ h2, h3'.up S2.sub, rfl, ry.up S2.sub, hk, Nat.lt_of_le_of_lt (show xs.length ≤ 100000 by omega) (by decide), fun o' u ru => ?_⟩
    obtain ⟨us', d'⟩ := (show DOk X.K Hi2 xs us kvs from ⟨h1, h2, h3, h4, h5⟩).put hk ry (rv.up g2.i) ru
    exact (hr dk dv z2).run Bi B Hi2 _ σ Dn W tk ((g.trans (g1.trans g2)).wr b2 n2) (S2.wr hi e0 (show ClOk X.K Hi2 _ _ (.dct (dPut kvs dk dv)) from ⟨_, us', o', rfl, d'.ks, d'.key, d'.rk, d'.vl, d'.rv⟩)) rb N
  | _ => exact r2.elim⟩
/-! sorted(x) -/
mutual
theorem ky_shp : ∀ (d : D) (n : Nat), D.kyB d n = true → D.sh d n = true
  | .int _, _, _ => rfl
  | .tup ds, n, h => by
    have a : (decide (0 < n) && D.kysB ds (n - 1)) = true := h
    rw [Bool.and_eq_true] at a
    show (decide (0 < n) && D.shA ds (n - 1)) = true
    rw [a.1, kys_shp ds _ a.2]; rfl
  | .non, _, h | .bl _, _, h | .str _, _, h | .lst _, _, h | .dct _ _, _, h | .exc _, _, h | .opq _, _, h | .obj _ _ _, _, h => Bool.noConfusion h
theorem kys_shp : ∀ (ds : List D) (n : Nat), D.kysB ds n = true → D.shA ds n = true
  | [], _, _ => rfl
  | d :: ds, n, h => by
    have a : (D.kyB d n && D.kysB ds n) = true := h
    rw [Bool.and_eq_true] at a
    show (D.sh d n && D.shA ds n) = true
    rw [ky_shp d _ a.1, kys_shp ds _ a.2]; rfl
end
mutual
theorem sh_mono : ∀ (d : D) (n m : Nat), n ≤ m → D.sh d n = true → D.sh d m = true
  | .lst xs, n, m, h, z => by
    have a : (decide (0 < n) && D.shA xs (n - 1)) = true := z
    rw [Bool.and_eq_true, decide_eq_true_eq] at a
    show (decide (0 < m) && D.shA xs (m - 1)) = true
    rw [decide_eq_true (by omega : 0 < m), shA_mono xs (n - 1) (m - 1) (by omega) a.2]; rfl
  | .tup xs, n, m, h, z => by
    have a : (decide (0 < n) && D.shA xs (n - 1)) = true := z
    rw [Bool.and_eq_true, decide_eq_true_eq] at a
    show (decide (0 < m) && D.shA xs (m - 1)) = true
    rw [decide_eq_true (by omega : 0 < m), shA_mono xs (n - 1) (m - 1) (by omega) a.2]; rfl
  | .non, _, _, _, z | .bl _, _, _, _, z | .int _, _, _, _, z | .str _, _, _, _, z | .dct _ _, _, _, _, z | .exc _, _, _, _, z | .opq _, _, _, _, z | .obj _ _ _, _, _, _, z => z
theorem shA_mono : ∀ (ds : List D) (n m : Nat), n ≤ m → D.shA ds n = true → D.shA ds m = true
  | [], _, _, _, _ => rfl
  | d :: ds, n, m, h, z => by
    have a : (D.sh d n && D.shA ds n) = true := z
    rw [Bool.and_eq_true] at a
    show (D.sh d m && D.shA ds m) = true
    rw [sh_mono d n m h a.1, shA_mono ds n m h a.2]; rfl
end
def sortedD (x : D) (Φ : D → Prop) : Prop := match x with
  | .lst ds => (srtB ds ∧ D.shpA 39 ds = true) ∧ Φ (.lst (srt ds))
  | .dct ks _ => srtB ks ∧ Φ (.lst (srt ks))
  | _ => False
theorem pairs_of {K : PySem.W.Frag} {Hi : Hp} : ∀ {xs : List V} {ds : List D}, RpA K Hi xs ds → Paired (Rp K Hi) xs ds
  | _, _, .nil => .nil
  | _, _, .cons h t => .cons h (pairs_of t)
theorem of_pairs {K : PySem.W.Frag} {Hi : Hp} : ∀ {xs : List V} {ds : List D}, Paired (Rp K Hi) xs ds → RpA K Hi xs ds
  | _, _, .nil => .nil
  | _, _, .cons h t => .cons h (of_pairs t)
theorem shA_mem {n : Nat} {ds : List D} (h : D.shpA n ds = true) : ∀ d ∈ ds, D.shp n d = true := by
  induction ds with
  | nil => intro d m; cases m
  | cons e es ih =>
    rw [shpA_cons, Bool.and_eq_true] at h
    intro d m
    rcases List.mem_cons.mp m with rfl | m
    · exact h.1
    · exact ih h.2 d m
theorem key_shp {d : D} (h : d.key = true) : D.shp 39 d = true := by
  obtain ⟨_, _, k⟩ := key_tup h
  exact sh_mono d 8 39 (by decide) (ky_shp d 8 k)
theorem cd_sort : CallD X (rSortG X.K) (fun ds Φ => ∃ x, ds = [x] ∧ sortedD x Φ) := fun Hi H vs ds Φ s h r Q q => by
  obtain ⟨x, rfl, h⟩ := h
  cases r with
  | cons r rr =>
    cases rr
    cases r with
    | @lst a xs ds hs ha =>
      refine ⟨Rp X.K Hi, a, xs, ds, rfl, .inl (SqL.of (s _ _ hs)), pairs_of ha, fun x d rd hd => Rp.dp d x 39 (shA_mem h.1.2 d hd) (rd.up s), h.1.1, fun d hd => by have := (D.shp_ok d 39 (shA_mem h.1.2 d hd)).2; omega, fun zs l hz hl => ?_⟩
      exact q _ _ (upd Hi l _) _ h.2 (Gr.mk1 s hl) (.lst upd_same ((of_pairs hz).up (Ex.new (s.free hl))))
    | @dct b xs o ks vs us hb he kk rk vl rv =>
      subst he
      have kq : ∀ d ∈ xs.map (·.1), D.shp 39 d = true := fun d hd => key_shp (List.all_eq_true.mp kk d hd)
      refine ⟨Rp X.K Hi, b, _, xs.map (·.1), rfl, .inr ⟨xs, o, s _ _ hb, rfl⟩, pairs_of rk, fun x d rd hd => Rp.dp d x 39 (kq d hd) (rd.up s), h.1, fun d hd => by have := (D.shp_ok d 39 (kq d hd)).2; omega, fun zs l hz hl => ?_⟩
      exact q _ _ (upd Hi l _) _ h.2 (Gr.mk1 s hl) (.lst upd_same ((of_pairs hz).up (Ex.new (s.free hl))))
    | _ => exact False.elim h
theorem sx_sorted (hm : X.mg "sorted" = none) (hu : X.A.units + 65 < cLine) (ha : SX X e ρ m) (hg : Gl X "sorted" := by rfl) (he : starEach [e] X.env = (false, eval e X.env) :: starEach [] X.env := by exact se_of rfl) (hpl : (backTo pos (starEach [] X.env)).any (·.1) = false := by rfl) (hc : X.calm = true := by rfl) :
    SX X (.Call (.Name "sorted" p) [e] [] pos) ρ (una sortedD m) := ⟨fun h => qx_callB (call_sortedG hu hc) cd_sort hm (by decide +kernel) (qa_cons ((ha.run h).mono fun x h => qa_nil ⟨x, rfl, h⟩) he) hg (by decide) (by decide) he hpl⟩
/-! max(xs), sum(xs), whole numbers -/
end
end G
namespace G
open PySem PySem.Spec L2
/-! ### keywords, defaults -/
section
variable {K : PySem.W.Frag} {x : Str} {params : Arguments} {body : List Stmt} {scope : Scope} {kws : List (Str × V)} {f : Addr} {fd : FuncData} {ps : List Str}
end
section
variable {X : Cx} {CX : CXT} {k n : Nat} {f : Addr} {fd : FuncData} {ps ks : List Str} {sp : Sp} {E : St → XK} {x : Str} {p pos : Pos} {e : Expr} {es : List Expr} {kws : List Keyword} {t tk : TA} {g : List Value → List Value → List Value} {gV : List V → List V → List V}
end
section
variable {X : Cx} {Ψ : Str → Prop} {ρ : List Sl} {a b c e : Expr} {pos p kp : Pos} {ma mb mc m : M} {x kw : Str} {k : Nat}
/-! what isn't compiled: nobody may come by -/
theorem s_no {R : Po} {rest : List Stmt} (h : False) : SQ X Ψ rest ρ R := h.elim
end
end G
namespace G
open PySem PySem.Spec L2
/-! ### == of two dicts whose keys are tuples, whose values are whole numbers -/
section
variable {prog : Program} {w : World} {κ : Type} [DecidableEq κ] {kd : HeapKind prog w κ} {Ar : Around} {Er : Value → Shared → Prop} {sh : Shared}
end
section
variable {X : Cx} {pins : List (Addr × Obj)} {σ : L2.St} {H : Hp} {s : Shared}
/-- a dict of numbers -/
structure NumD (K : PySem.W.Frag) (H : Hp) (a : Addr) (xs : List Ent) (o : Obj) (ks : List D) (ns : List Int) : Prop where
  h : H a = some (.ext (dctO a xs o))
  k : ks = xs.map (·.1)
  key : ks.all D.key = true
  rk : RpA K H (xs.map fun x => V.ref x.2.1) ks
  vs : Vals (ns.map V.int) (xs.map fun x => x.2.2)
theorem NumD.of {a : Addr} {xs : List Ent} {o : Obj} {ks : List D} {ns : List Int} (d : NumD X.K H a xs o ks ns) (I : Inv X pins σ H s) : s.heap.DictOfH (nestedKind X.prog X.w) a (hx xs) ∧ (a == sysModules) = false := by
  have key : (xs.map (·.1)).all D.key = true := by rw [← d.k]; exact d.key
  obtain ⟨_, h1, h2⟩ := dict_of I d.h key (by rw [← d.k]; exact d.rk)
  exact ⟨h1, h2.sm⟩
/-! as data -/
variable {ρ : List Sl} {a b : Expr} {pos : Pos} {ma mb : M}
end
end G
namespace G
open PySem PySem.Spec L2
/-! ### enumerate(..) of a tuple -/
abbrev itOb (t0 : Addr) : Obj := { cls := .type "tuple_iterator", data := .fields #[.ref t0, .int 0 0] }
abbrev enOb (j : Addr) : Obj := { cls := .type "enumerate", data := .fields #[.none, .bool false, .ref j, rawInt 0, .none, .none] }
theorem meets_enT (t0 : Addr) (its : Array Value) : Meets (Builtin.«enumerate.__new__» ⟨[.type "enumerate", .ref t0], []⟩) (fun _ R z => z.heap.IsTuple t0 its ∧ R (.ok (.ret (.ref (z.heap.push (itOb t0)).objs.size))) { z with heap := (z.heap.push (itOb t0)).push (enOb z.heap.objs.size) }) :=
  .of_wp fun prog w Ar R z hz => by
    obtain ⟨h0, g0, d0, k0, o0⟩ := z
    obtain ⟨ht, hR⟩ := hz
    have sub0 := sub_enumerate
    have step : ∀ {A' : Around} {E' : Value → Shared → Prop} {Q' : Value → Shared → Prop}, Q' (.ref h0.objs.size) ⟨h0.push (itOb t0), g0, d0, k0, o0⟩ → wpAny (model prog w) A' (pyIter (.ref t0)) Q' E' ⟨h0, g0, d0, k0, o0⟩ := fun q => wpAny_pyIter_tuple ht q
    wp_walk using step
    refine wpAny_stack_any fun _ => wpAny_pure ?_
    split
    · rename_i c0 _ _ _ _ _
      cases (c0 == Value.type "enumerate") <;> (wp_walk using step; exact ⟨_, rfl, hR⟩)
    · wp_walk using step
      exact ⟨_, rfl, hR⟩
section
variable {prog : Program} {w : World} {Ar : Around} {Er : Value → Shared → Prop} {z : Shared}
theorem call_enT {t0 : Addr} {its : Array Value} {Q : Value → Shared → Prop} (ht : z.heap.IsTuple t0 its)
    (hQ : ∀ hp, IsEnum hp (z.heap.objs.size + 1) z.heap.objs.size 0 .none → hp.IsTupleIter z.heap.objs.size t0 0 → (∀ c u, z.heap.get? c = some u → hp.get? c = some u) → Q (.ref (z.heap.objs.size + 1)) { z with heap := hp }) :
    wpAny (model prog w) Ar (call (.type "enumerate") [.ref t0]) Q Er z := by
  refine callType_new F.called_enumerate (by decide) (F.typeCall_enumerate_1 _) (F.newCall_enumerate_1 _) (fun u => F.args_object_init_2 u _) F.entry_enumerate_new (meets_enT t0 its) ⟨ht, ?_⟩
  have sz : (z.heap.push (itOb t0)).objs.size = z.heap.objs.size + 1 := Heap.size_push ..
  have at1 : ((z.heap.push (itOb t0)).push (enOb z.heap.objs.size)).get? (z.heap.objs.size + 1) = some (enOb z.heap.objs.size) := by
    have q := Heap.get?_push_size (z.heap.push (itOb t0)) (o := enOb z.heap.objs.size) rfl
    rw [sz] at q
    exact q
  show _ ∧ _
  rw [sz]
  exact ⟨⟨_, at1, rfl⟩, hQ _ at1 ⟨_, Heap.get?_push_of_some _ (Heap.get?_push_size _ rfl), rfl, rfl⟩ fun c u e => Heap.get?_push_of_some _ (Heap.get?_push_of_some _ e)⟩
end
/-- the tuple at a, each item in a new pair -/
def IteT (K : PySem.W.Frag) (a : Addr) : It :=
  ⟨fun j H => ∃ (us : List V) (u : V), SqT K H a us ∧ us[j]? = some u, fun j H y H' => ∃ N u, y = .ref N ∧ H N = none ∧ H' = upd H N (.tup [.int (j : Nat), u]) ∧ ∀ us, SqT K H a us → us[j]? = some u, fun j H => ∃ us : List V, SqT K H a us ∧ us.length = j⟩
theorem turn_enT {P : Program} {w : World} {K : PySem.W.Frag} {elts : List Expr} {kk : Nat} {tp : Pos} (a e it : Addr) :
    Turn P w K (.Tuple elts kk tp) (IteT K a) [e, it] e (fun j h => (∃ old, IsEnum h e it ((j : Nat) : Int) old) ∧ h.IsTupleIter it a j ∧ e ≠ it ∧ e ≠ a ∧ a ≠ it) where
  mem := by simp
  obj := fun j h st c hc => by
    obtain ⟨⟨old, he⟩, ⟨u, hu, _, hd⟩, _⟩ := st
    rcases List.mem_cons.mp hc with rfl | hc
    · exact ⟨_, he, fun v q => nomatch q⟩
    · rw [List.mem_singleton.mp hc]
      exact ⟨u, hu, fun v q => by rw [hd] at q; cases q⟩
  keep := fun j h h' st k => by
    obtain ⟨⟨old, he⟩, hi, n3⟩ := st
    exact ⟨⟨old, k e (by simp) _ he⟩, hi.at fun u q => k it (by simp) u q, n3⟩
  item := by
    intro X hP hw hK hc j pins s σ H E I hf st hg
    subst hP hw hK
    obtain ⟨⟨old, he⟩, hit, n1, n2, n3⟩ := st
    obtain ⟨us, u, hq, hu⟩ := hg
    obtain ⟨vs, rv, p, _⟩ := I.tuple hq
    obtain ⟨y, hy, ry⟩ := rv.get hu
    have p : s.heap.IsTuple a vs.toArray := p
    have le : e < s.heap.objs.size := Heap.lt_size he
    have li : it < s.heap.objs.size := by obtain ⟨_, q, _⟩ := hit; exact Heap.lt_size q
    have hj : j < vs.toArray.size := by
      have := (List.getElem?_eq_some_iff.mp hy).1
      simpa using this
    refine wpAny_pyNext_enum_itemD (Draws.tuple (show X.A.in1.handled = none from I.ok.hd hc) it a n3 vs.toArray) he ⟨hit, p⟩ hj n1 (by simp [n1, n2]) fun y' h1 tk ey ho st1 hT _ hk => ?_
    have ey : vs[j]? = some y' := by simpa using ey
    have ey : y' = y := by rw [hy] at ey; cases ey; rfl
    subst ey
    refine ⟨_, rfl, wpAny_letOwnedTupleGo_enum (s := { s with heap := h1, toks := tk + 1 }) ho fun h2 he2 sb => ?_⟩
    have kept : ∀ c o, c ∉ [e, it] → s.heap.get? c = some o → h2.get? c = some o := fun c o hc q => by
      have c1 : c ≠ e := fun z => hc (by simp [z])
      have c2 : c ≠ it := fun z => hc (by simp [z])
      exact (sb.2 c c1).trans (hk c o c1 c2 q)
    have hT2 : h2.get? s.heap.objs.size = some { cls := .type "tuple", data := .seq #[.int j tk, y'] } := (sb.2 _ (Nat.ne_of_gt le)).trans hT
    have new : ObjOk X.prog X.w (upd H s.heap.objs.size (.tup [.int (j : Nat), u])) h2 s.heap.objs.size (.tup [.int (j : Nat), u]) :=
      ⟨(by decide : 2 ≤ sizeLine), [.int j tk, y'], .cons ⟨_, rfl⟩ (.cons ry .nil), ⟨_, hT2, rfl, _, rfl⟩⟩
    have I1 : Inv X pins σ (upd H s.heap.objs.size (.tup [.int (j : Nat), u])) { s with heap := h2, toks := tk + 1 } := I.turnedNew kept hf (Nat.le_refl _) new
    refine ⟨.ref s.heap.objs.size, _, I1, rfl, ⟨_, u, rfl, I.hok.fresh (Nat.le_refl _), rfl, fun ws hw => by rw [I.tuple_inj hw hq]; exact hu⟩, ⟨⟨y', ?_⟩, st1.1.at fun o q => (sb.2 it (Ne.symm n1)).trans q, n1, n2, n3⟩, fun c hc => ?_⟩
    · rw [show ((j + 1 : Nat) : Int) = (j : Int) + 1 by omega]
      exact he2
    · have lc : c < s.heap.objs.size := by
        rcases List.mem_cons.mp hc with rfl | hc
        · exact le
        · rw [List.mem_singleton.mp hc]; exact li
      rw [upd_ne (Nat.ne_of_lt lc)]
      exact (hf c hc).1
  done := by
    intro X hP hw hK hc j pins s σ H E I hf st hg
    subst hP hw hK
    obtain ⟨⟨old, he⟩, hit, n1, n2, n3⟩ := st
    obtain ⟨us, hq, hj⟩ := hg
    obtain ⟨vs, rv, p, _⟩ := I.tuple hq
    obtain ⟨f0, f1, f2, f3, f4, f5⟩ := hf it (by simp)
    have p : s.heap.IsTuple a vs.toArray := p
    have el : vs.toArray.size = j := by rw [← hj]; simpa using rv.length.symm
    refine wpAny_pyNext_enum_endD (Draws.tuple (show X.A.in1.handled = none from I.ok.hd hc) it a n3 vs.toArray) he ⟨by rw [el]; exact hit, p⟩ fun h' eb => ⟨rfl, I.turned (t' := s.toks) (fun c o hc q => eb c o hc q) f0 f1 f3 f4 f5⟩
  self := fun A j s Q E st h => by
    obtain ⟨⟨_, he⟩, _⟩ := st
    exact wpAny_pyIter_enum he h
def iEn2 (K : PySem.W.Frag) (ta : TA) : TI := fun σ H R => ta σ H fun vs H1 => ∃ a us, vs = [.ref a] ∧ ((SqL K H1 a us ∧ R (Ite K a) H1) ∨ (SqT K H1 a us ∧ R (IteT K a) H1))
theorem pi_en2 {X : Cx} {e : Expr} {ta : TA} {p pos tp : Pos} {elts : List Expr} {kk : Nat} (hg : Gl X "enumerate") (hm : X.mg "enumerate" = none) (ha : PA X [e] ta) (hs : starEach [e] X.env = [(false, eval e X.env)] := by rfl) :
    PI X (.Tuple elts kk tp) (.Call (.Name "enumerate" p) [e] [] pos) (iEn2 X.K ta) := by
  refine ⟨fun pins s σ H R I h => PyProof.Rows.Call_ (ld_blt I hg hm PyProof.Rows.boot_enumerate (PyProof.Rows.callWith_type1 (thn (ha.run pos pins s σ H _ I h) fun us s1 q0 => ?_) hs rfl))⟩
  obtain ⟨vs, H1, I1, r1, a, xs, ex, q1⟩ := q0
  subst ex
  cases r1 with
  | cons r rr =>
    cases rr
    cases r
    have big : ∀ c, c ∈ [s1.heap.objs.size + 1, s1.heap.objs.size] → s1.heap.objs.size ≤ c := fun c hc => by
      rcases List.mem_cons.mp hc with rfl | hc
      · omega
      · rw [List.mem_singleton.mp hc]; exact Nat.le_refl _
    rcases q1 with ⟨hq, q⟩ | ⟨hq, q⟩
    · obtain ⟨vs, rv, p', _⟩ := I1.list hq
      refine call_enumerate_list p'.isList fun h1 he hit _ hk => wpAny_pyIter_enum he ?_
      exact ⟨_, _, _, _, H1, rfl, I1.kept (t' := s1.toks) hk, turn_enum a (s1.heap.objs.size + 1) s1.heap.objs.size, ⟨⟨.none, he⟩, hit, Nat.succ_ne_self _⟩, fun c hc => I1.fpOk (big c hc) (I1.hok.fresh (big c hc)), q⟩
    · obtain ⟨vs, rv, p', _⟩ := I1.tuple hq
      have p' : s1.heap.IsTuple a vs.toArray := p'
      have la : a < s1.heap.objs.size := by obtain ⟨_, z, _⟩ := id p'; exact Heap.lt_size z
      refine call_enT p' fun h1 he hit hk => wpAny_pyIter_enum he ?_
      exact ⟨_, _, _, _, H1, rfl, I1.kept (t' := s1.toks) hk, turn_enT a (s1.heap.objs.size + 1) s1.heap.objs.size, ⟨⟨.none, he⟩, hit, Nat.succ_ne_self _, Nat.ne_of_gt (Nat.lt_succ_of_lt la), Nat.ne_of_lt la⟩, fun c hc => I1.fpOk (big c hc) (I1.hok.fresh (big c hc)), q⟩
section
variable {X : Cx} {Ψ : Str → Prop} {ρ : List Sl} {e : Expr} {p p2 tp : Pos} {m : M} {elts : List Expr} {kk : Nat}
theorem enumD_len {xs : List D} : (enumD xs).length = xs.length := by unfold enumD; simp
theorem enumD_at {xs : List D} {i : Nat} {d : D} (h : xs[i]? = some d) : (enumD xs)[i]? = some (.tup [.int (i : Nat), d]) := by
  unfold enumD
  rw [List.getElem?_map, List.getElem?_zipIdx, h]
  simp
theorem qi_en2 {Φ : List D → Prop} (hm : X.mg "enumerate" = none) (h : QA X Ψ [e] ρ fun ds => ∃ xs, (ds = [.lst xs] ∨ ds = [.tup xs]) ∧ Φ (enumD xs)) (hg : Gl X "enumerate") (hs : starEach [e] X.env = [(false, eval e X.env)]) :
    QI X Ψ (.Tuple elts kk tp) (.Call (.Name "enumerate" p) [e] [] p2) ρ Φ :=
  ⟨_, pi_en2 hg hm pa_w hs, fun B Hi H σ W tk S rs Rr q => h B Hi H σ W tk S rs _ fun vs ds Hi1 H1 z g r => by
    obtain ⟨xs, ed, k⟩ := z
    rcases ed with ed | ed <;> subst ed
    · cases r with
      | cons r rr =>
        cases rr
        cases r with
        | @lst a1 us _ ht1 hv1 =>
          refine ⟨_, us, rfl, .inl ⟨SqL.of (g.sub _ _ ht1), q _ Hi1 H1 _ k g ⟨fun i H x hi => ?_, fun H x => ⟨us, SqL.of (x _ _ ht1), by rw [enumD_len, hv1.length]; exact Nat.le_refl _⟩, fun i H v H' Hj e1 e2 y hi => ?_⟩⟩⟩
          · rw [enumD_len] at hi
            obtain ⟨v1, h1, _⟩ := hv1.get (List.getElem?_eq_getElem hi)
            exact ⟨us, v1, SqL.of (x _ _ ht1), h1⟩
          · obtain ⟨N, u, rfl, hT, rfl, hx⟩ := y
            obtain ⟨d1, h1, r1⟩ := hv1.getV (hx us (SqL.of (e2 _ _ (e1 _ _ ht1))))
            obtain ⟨g2, r3⟩ := pair_new e2 hT (.int (i : Nat)) (r1.up e1)
            exact ⟨_, _, enumD_at h1, g2, r3⟩
    · cases r with
      | cons r rr =>
        cases rr
        cases r with
        | @tup a1 us _ ht1 hv1 =>
          refine ⟨_, us, rfl, .inr ⟨g.sub.t ht1, q _ Hi1 H1 _ k g ⟨fun i H x hi => ?_, fun H x => ⟨us, x.t ht1, by rw [enumD_len, hv1.length]⟩, fun i H v H' Hj e1 e2 y hi => ?_⟩⟩⟩
          · rw [enumD_len] at hi
            obtain ⟨v1, h1, _⟩ := hv1.get (List.getElem?_eq_getElem hi)
            exact ⟨us, v1, x.t ht1, h1⟩
          · obtain ⟨N, u, rfl, hT, rfl, hx⟩ := y
            obtain ⟨d1, h1, r1⟩ := hv1.getV (hx us (e2.t (e1.t ht1)))
            obtain ⟨g2, r3⟩ := pair_new e2 hT (.int (i : Nat)) (r1.up e1)
            exact ⟨_, _, enumD_at h1, g2, r3⟩⟩
def enumE2 (a : M) : MA := fun K Ψ => a (fun x => seqD x fun xs => K (enumD xs)) Ψ
theorem si_enum2 (hm : X.mg "enumerate" = none) (ha : SX X e ρ m) (hg : Gl X "enumerate" := by rfl) (hs : starEach [e] X.env = [(false, eval e X.env)] := by exact se_of rfl) : SI X (.Tuple elts kk tp) (.Call (.Name "enumerate" p) [e] [] p2) ρ (enumE2 m) :=
  ⟨fun k => qi_en2 hm (qa_cons ((ha.run k).mono fun x h => qa_nil (by
    cases x <;> first
      | exact ⟨_, .inl rfl, h⟩
      | exact ⟨_, .inr rfl, h⟩
      | exact False.elim h)) hs) hg hs⟩
end
end G
namespace G
open PySem PySem.Spec L2
/-! ### min(x): x a list of data that are alike, no None -/
section
variable {X : L2.Cx}
end
section
variable {X : Cx} {Ψ : Str → Prop} {ρ : List Sl} {e : Expr} {pos p : Pos} {m : M}
end
end G
namespace G
open PySem PySem.Spec L2
/-! ### N: texts -/
section
variable {X : Cx} {Ψ : Str → Prop} {ρ : List Sl} {R : Po} {a b c e : Expr} {es : List Expr} {pos p p2 : Pos} {rest body blk els : List Stmt} {ma mb mc m : M} {tc : MB} {k : D → Prop}
end
end G
namespace G
open PySem PySem.Spec L2
/-! ### [e for x in ..] where e may raise: the exception leaves the comprehension -/
section
variable {M : Model} {A : Around} {E : Value → Shared → Prop} {s : Shared} {env : Env} {outer : List Env} {base : Heap} {e L C : Addr} {Z : Obj → Prop}
end
section
variable {X : L2.Cx}
end
end G
namespace G
open PySem PySem.Spec L2
section
variable {X : L2.Cx}
end
/-! ### the same, of data -/
section
variable {X : L2.Cx} {ρ : List Sl} {pos : Pos}
variable {scope : Scope} {own : List (Str × Nat)} {tg elt iter : Expr} {mi : MA} {f : D → M}
end
end G
namespace G
open PySem PySem.Spec L2
/-! ### the hook over addresses that are written out (no search: the search takes the kernel 6 GB) -/
def obsGA (as : List Addr) (cs : List (Str × D)) (fa : List He.Fa) (fn : List He.DefD) (g : Addr → Option Obj) : AlG := obsG cs fa fn (He.frG g as)
def hookA (as : List Addr) (cs : List (Str × D)) (fa : List He.Fa) (fn : List He.DefD) : PySem.W.Hook where
  α := AlG
  obs := fun s => obsGA as cs fa fn s.heap.get?
  val := fun _ => (true, He.valD fn)
  says := fun _ h => ∃ K : PySem.W.Frag, K.In h ∧ SaysG cs fa fn K
  of := fun _ _ e => ⟨_, He.frG_in, congrArg (fun z : AlG => z.1) e, congrArg (fun z : AlG => z.2) e⟩
  keeps := fun _ _ _ ⟨K, hK, c⟩ k => ⟨K, PySem.W.Frag.In.keeps hK k, c⟩
theorem obsGA_eq {as : List Addr} {cs : List (Str × D)} {fa : List He.Fa} {fn : List He.DefD} {g : Addr → Option Obj} {s : Shared} (h : ∀ a, g a = s.heap.get? a) : obsGA as cs fa fn g = (hookA as cs fa fn).obs s := by
  have e : g = s.heap.get? := funext h
  rw [e] <;> rfl
theorem run_two {σ α β γ : Type} {o : Option σ} {f : σ → α} {g : σ → β} {h : σ → γ} {a : α} {b : β} {c : γ} (h1 : o.map (fun s => (f s, g s)) = some (a, b)) (h2 : o.map (fun s => h s) = some c) : o.map (fun s => (f s, g s, h s)) = some (a, b, c) := by
  cases o with
  | none => cases h1
  | some s =>
    have e1 : (f s, g s) = (a, b) := Option.some.inj h1
    have e2 : h s = c := Option.some.inj h2
    have e3 : f s = a := congrArg (·.1) e1
    have e4 : g s = b := congrArg (·.2) e1
    rw [Option.map_some, e3, e4, e2]
end G
/-! A1: the album as a datum: fields, text-keyed dicts, methods -/
namespace L2
open PySem PySem.Spec PyProof.Rows
/-- o.m(e, ..): what it raises is wished for at the slots as they stand -/
def tMethQ (C : Addr) (m : Str) (sp : Sp) (E : L2.St → XK) (ta : TE) (t : TA) : TE := fun σ H Q => ta σ H fun x H1 => ∃ a dx fs, x = .ref a ∧ H1 a = some (.ins C dx fs) ∧ fs.lookup m = none ∧ t σ H1 fun vs H2 => sp (x :: vs) H2 Q (E σ)
section
variable {X : Cx} {CX : CXT} {k : Nat} {f C : Addr} {fd : FuncData} {ps : List Str} {sp : Sp} {E : L2.St → XK} {m : Str} {pos apos : Pos} {e o : Expr} {es : List Expr} {ta : TE} {t : TA} {pl : Sem Bool}
theorem pe_methQ (he : PE X o ta) (c : Cls X.K C) (hm : Meth X.K C m f)
    (F : FnOk X.prog X.w X.K X.mg X.base CX k f fd ps sp) (hr : Room k X.A) (hb : Binds X.K fd ps []) (hx : ∀ σ, PassesAt CX X σ (E σ)) (ha : PA X (e :: es) t)
    (hst : starEach (e :: es) X.env = (false, eval e X.env) :: starEach es X.env) (hpl : (backTo pos (starEach es X.env)).any (·.1) = false)
    (ht : eval (.Call (.Attribute o m apos) (e :: es) [] pos) X.env = (do
      let ov ← eval o X.env
      standAt apos.atName
      let (f, first) ← holding [ov] (getMethod ov m pl)
      callWith pos f first (backTo pos (starEach (e :: es) X.env)) (backToKw pos (keywordEach [] X.env)))) :
    PE X (.Call (.Attribute o m apos) (e :: es) [] pos) (tMethQ C m sp E ta t) := by
  refine ⟨fun pins s σ H Q I h => ?_⟩
  refine PySem.W.methodCall_KW (pl := pl) (thn (he.run pins s σ H _ I h) fun u s1 ⟨x, H1, I1, rx, a, dx, fs, ex, ea, l, q⟩ => ?_) ht
  subst ex
  obtain rfl : u = Value.ref a := rx
  refine getmeth_ok I1 ea c hm l ?_
  refine PySem.W.callWith_K (first := [.ref a]) (h₀ := X.base) I.ok.mod.kin hm.kp (thn (ha.run pos pins s1 σ H1 _ I1 q) fun us s2 ⟨vs, H2, I2, r, q2⟩ => ⟨I2.kIn, ?_⟩) hst hpl
  exact run_fnS (us := .ref a :: us) (vs := .ref a :: vs) F hr hb (hx σ) I2 (.cons rfl r) q2
theorem pe_methQ0 (he : PE X o ta) (c : Cls X.K C) (hm : Meth X.K C m f)
    (F : FnOk X.prog X.w X.K X.mg X.base CX k f fd ps sp) (hr : Room k X.A) (hb : Binds X.K fd ps []) (hx : ∀ σ, PassesAt CX X σ (E σ))
    (ht : eval (.Call (.Attribute o m apos) [] [] pos) X.env = (do
      let ov ← eval o X.env
      standAt apos.atName
      let (f, first) ← holding [ov] (getMethod ov m pl)
      callWith pos f first (backTo pos (starEach [] X.env)) (backToKw pos (keywordEach [] X.env)))) :
    PE X (.Call (.Attribute o m apos) [] [] pos) (tMethQ C m sp E ta tNil) := by
  refine ⟨fun pins s σ H Q I h => ?_⟩
  refine PySem.W.methodCall_KW (pl := pl) (thn (he.run pins s σ H _ I h) fun u s1 ⟨x, H1, I1, rx, a, dx, fs, ex, ea, l, q⟩ => ?_) ht
  subst ex
  obtain rfl : u = Value.ref a := rx
  refine getmeth_ok I1 ea c hm l ?_
  exact PySem.W.callWith_K0 (first := [.ref a]) I1.kIn hm.kp (run_fnS (us := [.ref a]) (vs := [.ref a]) F hr hb (hx σ) I1 (.cons rfl .nil) q)
end
end L2
namespace G
open PySem PySem.Spec L2
abbrev albC (K : PySem.W.Frag) : Addr := He.ga K "Album"
/-- a datum that is an album -/
def D.isA : D → Bool
  | .obj (_ + 1) [] _ => true
  | _ => false
/-- what the class is -/
structure AlbK (K : PySem.W.Frag) : Prop where
  cls : Cls K (albC K)
  nst : NoAttr K (albC K) "stock"
  nmk : NoAttr K (albC K) "marks"
  nps : NoAttr K (albC K) "past"
/-- the method m, of n parameters (self among them), at level k -/
def MthS (P : Program) (w : World) (K : PySem.W.Frag) (mg : Str → Option Value) (base : Heap) (m : Str) (k n : Nat) (S : SpD) : Prop :=
  (∀ ds Φ Ψ, S ds Φ Ψ → ds.length = n) ∧ AlbK K ∧ ∃ (f : Addr) (fd : FuncData) (ps : List Str), Meth K (albC K) m f ∧ Binds K fd ps [] ∧ FnOk P w K mg base (L2.CX P w) k f fd ps (spD K n S)
/-- its attributes are its fields alone -/
def noF (m : Str) : Bool := (["stock", "marks", "past"] : List Str).all fun y => !(m == y)
theorem noF_of {m : Str} {s k p : V} (h : noF m = true) : ([("stock", s), ("marks", k), ("past", p)] : List (Str × V)).lookup m = none := by
  have h2 : (!(m == ("stock" : Str)) && (!(m == ("marks" : Str)) && (!(m == ("past" : Str)) && true))) = true := h
  rw [Bool.and_eq_true, Bool.and_eq_true, Bool.and_eq_true] at h2
  obtain ⟨h1, h2, h3, _⟩ := h2
  rw [List.lookup_cons, show (m == ("stock" : Str)) = false by simpa using h1]
  simp only
  rw [List.lookup_cons, show (m == ("marks" : Str)) = false by simpa using h2]
  simp only
  rw [List.lookup_cons, show (m == ("past" : Str)) = false by simpa using h3]
  rfl
theorem Rp.alb_inv {K : PySem.W.Frag} {H : Hp} {v : V} {d : D} (h : Rp K H v d) (hd : d.isA = true) : ∃ a dx s m p xs n ds, v = .ref a ∧ d = .obj n [] ds ∧ H a = some (.ins (albC K) dx [("stock", .ref s), ("marks", .ref m), ("past", .ref p)]) ∧ H dx = some (.own a) ∧ H p = some (.lst xs) ∧ n = (if xs.isEmpty = true then 1 else 2) ∧ RpA K H [.ref s, .ref m] ds := by
  cases h with
  | alb h1 h2 h3 h4 h5 => exact ⟨_, _, _, _, _, _, _, _, rfl, rfl, h1, h2, h3, h4, h5⟩
  | _ => cases hd
section
variable {X : Cx} {Ψ : Str → Prop} {ρ : List Sl} {Φ : D → Prop} {a b c e o : Expr} {es : List Expr} {pos p p2 apos cpos : Pos} {ma mb mc m : M} {mn : Str}
theorem qx_meth {pl : Sem Bool} {k n : Nat} {S : SpD} (F : MthS X.prog X.w X.K X.mg X.base mn k n S) (hr : Room k X.A) (h : QX X Ψ o ρ fun d => d.isA = true ∧ QA X Ψ (e :: es) ρ fun ds => S (d :: ds) Φ Ψ)
    (hst : starEach (e :: es) X.env = (false, eval e X.env) :: starEach es X.env) (hpl : (backTo pos (starEach es X.env)).any (·.1) = false) (hf : noF mn = true)
    (ht : eval (.Call (.Attribute o mn apos) (e :: es) [] pos) X.env = (do
      let ov ← eval o X.env
      standAt apos.atName
      let (f, first) ← holding [ov] (getMethod ov mn pl)
      callWith pos f first (backTo pos (starEach (e :: es) X.env)) (backToKw pos (keywordEach [] X.env)))) : QX X Ψ (.Call (.Attribute o mn apos) (e :: es) [] pos) ρ Φ :=
  fun B Hi H σ W tk St rs Q q => by
    obtain ⟨hn, ak, f, fd, ps, mt, bd, ok⟩ := F
    refine wE.of (pe_methQ (E := L2.WE W) pe_w ak.cls mt ok hr bd (fun σ => passAt tk σ) pa_w hst hpl ht) (h B Hi H σ W tk St rs _ fun v d Hi1 H1 z g1 r1 => ?_)
    obtain ⟨hd, z⟩ := z
    obtain ⟨a, dx, s, m, p, xs, n2, ds2, rfl, _, h1, _⟩ := r1.alb_inv hd
    refine ⟨a, dx, _, rfl, g1.sub _ _ h1, noF_of hf, z B Hi1 H1 σ W tk (St.grow g1) (rs.grow g1) _ fun vs ds Hi2 H2 z2 g2 r2 => ?_⟩
    have g := g1.trans g2
    have r : RpA X.K Hi2 (.ref a :: vs) (d :: ds) := .cons (r1.up g2.i) r2
    exact ⟨by rw [r.length]; exact hn _ _ _ z2, Hi2, d :: ds, Φ, Ψ, g2.sub, r, z2, fun v d Hi' H' hz g3 r3 => q v d Hi' H' hz (g.trans g3) r3, fun x Hi' H' hx g3 => rs x Hi' H' hx (g.trans g3)⟩
theorem qx_meth0 {pl : Sem Bool} {k n : Nat} {S : SpD} (F : MthS X.prog X.w X.K X.mg X.base mn k n S) (hr : Room k X.A) (h : QX X Ψ o ρ fun d => d.isA = true ∧ S [d] Φ Ψ) (hf : noF mn = true)
    (ht : eval (.Call (.Attribute o mn apos) [] [] pos) X.env = (do
      let ov ← eval o X.env
      standAt apos.atName
      let (f, first) ← holding [ov] (getMethod ov mn pl)
      callWith pos f first (backTo pos (starEach [] X.env)) (backToKw pos (keywordEach [] X.env)))) : QX X Ψ (.Call (.Attribute o mn apos) [] [] pos) ρ Φ :=
  fun B Hi H σ W tk St rs Q q => by
    obtain ⟨hn, ak, f, fd, ps, mt, bd, ok⟩ := F
    refine wE.of (pe_methQ0 (E := L2.WE W) pe_w ak.cls mt ok hr bd (fun σ => passAt tk σ) ht) (h B Hi H σ W tk St rs _ fun v d Hi1 H1 z g r1 => ?_)
    obtain ⟨hd, z2⟩ := z
    obtain ⟨a, dx, s, m, p, xs, n2, ds2, rfl, _, h1, _⟩ := r1.alb_inv hd
    refine ⟨a, dx, _, rfl, g.sub _ _ h1, noF_of hf, ?_⟩
    have r : RpA X.K Hi1 [.ref a] [d] := .cons r1 .nil
    exact ⟨by rw [r.length]; exact hn _ _ _ z2, Hi1, [d], Φ, Ψ, g.sub, r, z2, fun v d Hi' H' hz g3 r3 => q v d Hi' H' hz (g.trans g3) r3, fun x Hi' H' hx g3 => rs x Hi' H' hx (g.trans g3)⟩
def mt0 (f : D → M) (a : M) : M := fun Φ Ψ => a (fun x => x.isA = true ∧ f x Φ Ψ) Ψ
def mt1 (f : D → D → M) (a b : M) : M := fun Φ Ψ => a (fun x => x.isA = true ∧ b (fun y => f x y Φ Ψ) Ψ) Ψ
def mt2 (f : D → D → D → M) (a b c : M) : M := fun Φ Ψ => a (fun x => x.isA = true ∧ b (fun y => c (fun z => f x y z Φ Ψ) Ψ) Ψ) Ψ
theorem sx_m0 {pl : Sem Bool} {k : Nat} {f : D → M} (F : MthS X.prog X.w X.K X.mg X.base mn k 1 (sp1 f)) (hr : Room k X.A) (ha : SX X o ρ ma) (hf : noF mn = true := by decide)
    (ht : eval (.Call (.Attribute o mn apos) [] [] pos) X.env = (do
      let ov ← eval o X.env
      standAt apos.atName
      let (f, first) ← holding [ov] (getMethod ov mn pl)
      callWith pos f first (backTo pos (starEach [] X.env)) (backToKw pos (keywordEach [] X.env))) := by rfl) : SX X (.Call (.Attribute o mn apos) [] [] pos) ρ (mt0 f ma) :=
  ⟨fun h => qx_meth0 F hr ((ha.run h).mono fun u h => ⟨h.1, u, rfl, h.2⟩) hf ht⟩
theorem sx_m1 {pl : Sem Bool} {k : Nat} {f : D → D → M} (F : MthS X.prog X.w X.K X.mg X.base mn k 2 (sp2 f)) (hr : Room k X.A) (ha : SX X o ρ ma) (hb : SX X b ρ mb) (hf : noF mn = true := by decide)
    (he : starEach [b] X.env = (false, eval b X.env) :: starEach [] X.env := by exact se_of rfl) (hpl : (backTo pos (starEach [] X.env)).any (·.1) = false := by rfl)
    (ht : eval (.Call (.Attribute o mn apos) [b] [] pos) X.env = (do
      let ov ← eval o X.env
      standAt apos.atName
      let (f, first) ← holding [ov] (getMethod ov mn pl)
      callWith pos f first (backTo pos (starEach [b] X.env)) (backToKw pos (keywordEach [] X.env))) := by rfl) : SX X (.Call (.Attribute o mn apos) [b] [] pos) ρ (mt1 f ma mb) :=
  ⟨fun h => qx_meth F hr ((ha.run h).mono fun u h => ⟨h.1, qa_cons ((hb.run h.2).mono fun v h => qa_nil ⟨u, v, rfl, h⟩) he⟩) he hpl hf ht⟩
theorem sx_m2 {pl : Sem Bool} {k : Nat} {f : D → D → D → M} (F : MthS X.prog X.w X.K X.mg X.base mn k 3 (sp3 f)) (hr : Room k X.A) (ha : SX X o ρ ma) (hb : SX X b ρ mb) (hc : SX X c ρ mc) (hf : noF mn = true := by decide)
    (he : starEach [b, c] X.env = (false, eval b X.env) :: starEach [c] X.env := by exact se_of rfl) (he2 : starEach [c] X.env = (false, eval c X.env) :: starEach [] X.env := by exact se_of rfl) (hpl : (backTo pos (starEach [c] X.env)).any (·.1) = false := by rfl)
    (ht : eval (.Call (.Attribute o mn apos) [b, c] [] pos) X.env = (do
      let ov ← eval o X.env
      standAt apos.atName
      let (f, first) ← holding [ov] (getMethod ov mn pl)
      callWith pos f first (backTo pos (starEach [b, c] X.env)) (backToKw pos (keywordEach [] X.env))) := by rfl) : SX X (.Call (.Attribute o mn apos) [b, c] [] pos) ρ (mt2 f ma mb mc) :=
  ⟨fun h => qx_meth F hr ((ha.run h).mono fun u h => ⟨h.1, qa_cons ((hb.run h.2).mono fun v h => qa_cons ((hc.run h).mono fun z h => qa_nil ⟨u, v, z, rfl, h⟩) he2) he⟩) he hpl hf ht⟩
/-! ### fields -/
def fldS (x : D) (Φ : D → Prop) : Prop := match x with
  | .obj (_ + 1) [] [s, _] => Φ s
  | _ => False
def fldM (x : D) (Φ : D → Prop) : Prop := match x with
  | .obj (_ + 1) [] [_, s] => Φ s
  | _ => False
theorem fldS_inv {x : D} (h : fldS x Φ) : ∃ n s m, x = .obj (n + 1) [] [s, m] ∧ Φ s := by
  unfold fldS at h
  split at h
  · exact ⟨_, _, _, rfl, h⟩
  · exact h.elim
theorem fldM_inv {x : D} (h : fldM x Φ) : ∃ n s m, x = .obj (n + 1) [] [s, m] ∧ Φ m := by
  unfold fldM at h
  split at h
  · exact ⟨_, _, _, rfl, h⟩
  · exact h.elim
theorem sx_fldS (ak : AlbK X.K) (ha : SX X a ρ ma) (hb : attributeBase a "stock" X.env (eval a X.env) = eval a X.env := by rfl) : SX X (.Attribute a "stock" pos) ρ (una fldS ma) :=
  ⟨fun k B Hi H σ W tk S rs Q q => wE.of (pe_fld pe_w hb) ((ha.run k) B Hi H σ W tk S rs _ fun v d Hi1 H1 z g r => by
    obtain ⟨n, s, m, rfl, z⟩ := fldS_inv z
    obtain ⟨a, dx, sa, mm, pp, xs, n2, ds2, rfl, e, h1, _, _, _, h5⟩ := r.alb_inv rfl
    cases e
    cases h5 with
    | cons h5 _ => exact ⟨a, _, dx, _, _, rfl, g.sub _ _ h1, ak.cls, ak.nst, rfl, q _ _ Hi1 H1 z g h5⟩)⟩
theorem sx_fldM (ak : AlbK X.K) (ha : SX X a ρ ma) (hb : attributeBase a "marks" X.env (eval a X.env) = eval a X.env := by rfl) : SX X (.Attribute a "marks" pos) ρ (una fldM ma) :=
  ⟨fun k B Hi H σ W tk S rs Q q => wE.of (pe_fld pe_w hb) ((ha.run k) B Hi H σ W tk S rs _ fun v d Hi1 H1 z g r => by
    obtain ⟨n, s, m, rfl, z⟩ := fldM_inv z
    obtain ⟨a, dx, sa, mm, pp, xs, n2, ds2, rfl, e, h1, _, _, _, h5⟩ := r.alb_inv rfl
    cases e
    cases h5 with
    | cons _ h5 => cases h5 with
      | cons h5 _ => exact ⟨a, _, dx, _, _, rfl, g.sub _ _ h1, ak.cls, ak.nmk, rfl, q _ _ Hi1 H1 z g h5⟩)⟩
/-! ### dicts of texts -/
theorem sdc_inv {K : PySem.W.Frag} {H : Hp} {v : V} {ks : List Str} {ds : List D} (h : Rp K H v (.obj 0 ks ds)) : ∃ a ob kvs, v = .ref a ∧ H a = some (.frz ob (.dK kvs)) ∧ kvs.map (·.1) = ks.map Sum.inr ∧ RpA K H (kvs.map (·.2)) ds := by
  cases h with
  | sdc h1 h2 h3 => exact ⟨_, _, _, rfl, h1, h2, h3⟩
  | @alb _ _ _ _ _ xs _ _ h1 h2 h3 h4 h5 => split at h4 <;> cases h4
/-- what stands at a text -/
def tGet (ks : List Str) (ds : List D) (s : Str) : Option D := (ks.zip ds).lookup s
theorem tGet_rp {K : PySem.W.Frag} {H : Hp} : ∀ {kvs : List (L2.Key × V)} {ks : List Str} {ds : List D} {s : Str}, kvs.map (·.1) = ks.map Sum.inr → RpA K H (kvs.map (·.2)) ds → (match tGet ks ds s with
  | some d => ∃ v, valV kvs (Sum.inr s) = some v ∧ Rp K H v d
  | none => valV kvs (Sum.inr s) = none)
  | [], [], ds, s, _, h => by cases h; rfl
  | [], k :: ks, ds, s, e, h => by cases e
  | q :: kvs, [], ds, s, e, h => by cases e
  | q :: kvs, k :: ks, ds, s, e, h => by
    rw [List.map_cons, List.map_cons, List.cons.injEq] at e
    rw [List.map_cons] at h
    cases h with
    | @cons _ _ d ds h1 h2 =>
      have ih := tGet_rp (s := s) e.2 h2
      unfold tGet at ih ⊢
      rw [List.zip_cons_cons, List.lookup_cons]
      by_cases hs : s = k
      · subst hs
        rw [beq_self_eq_true]
        exact ⟨q.2, valV_pos e.1, h1⟩
      · rw [show (s == k) = false from beq_eq_false_iff_ne.mpr hs]
        simp only
        rw [valV_neg (show ¬ q.1 = Sum.inr s from fun z => hs (Sum.inr.inj (z.symm.trans e.1)))]
        exact ih
theorem tGet_mem {ks : List Str} {ds : List D} {s : Str} (hl : ks.length = ds.length) : (tGet ks ds s).isSome = decide (s ∈ ks) := by
  unfold tGet
  induction ks generalizing ds with
  | nil => rfl
  | cons k ks ih =>
    cases ds with
    | nil => cases hl
    | cons d ds =>
      rw [List.zip_cons_cons, List.lookup_cons]
      by_cases hs : s = k
      · subst hs; simp
      · rw [show (s == k) = false from beq_eq_false_iff_ne.mpr hs]
        simp only
        rw [ih (by simpa using hl)]
        simp [hs]
def ixTD (x y : D) (Φ : D → Prop) : Prop := match x, y with
  | .obj 0 ks ds, .str s => ∃ d, tGet ks ds s = some d ∧ Φ d
  | _, _ => False
theorem sx_ixT (hu : X.A.units + 64 < cLine) (ha : SX X a ρ ma) (hb : SX X b ρ mb) (hs : NoSl b := by exact fun _ _ => rfl) : SX X (.Subscript a b pos) ρ (bin ixTD ma mb) :=
  ⟨fun k B Hi H σ W tk S rs Q q => wE.of (pe_dget (by omega) pe_w pe_w hs) ((ha.run k) B Hi H σ W tk S rs _ fun v d Hi1 H1 z g r => (hb.run z) B Hi1 H1 σ W tk (S.grow g) (rs.grow g) _ fun u d2 Hi2 H2 z2 g2 r2 => by
    cases d with
    | obj n ks ds =>
      cases n with
      | succ n => exact False.elim z2
      | zero =>
        cases d2 with
        | str s =>
          obtain ⟨e, e1, z2⟩ := z2
          obtain ⟨a, ob, kvs, rfl, h1, h2, h3⟩ := sdc_inv (r.up g2.i)
          have z3 := tGet_rp (s := s) h2 h3
          rw [e1] at z3
          obtain ⟨v, hv, rv⟩ := z3
          cases r2
          exact ⟨a, v, rfl, .inl ⟨kvs, Sum.inr s, .inr ⟨ob, g2.sub _ _ h1⟩, rfl, hv.symm⟩, q v e Hi2 H2 z2 (g.trans g2) rv⟩
        | _ => exact False.elim z2
    | _ => exact False.elim z2)⟩
def ninTB (x y : D) (Θ : Bool → Prop) : Prop := match x, y with
  | .str s, .obj 0 ks _ => Θ (!decide (s ∈ ks))
  | _, _ => False
theorem sdc_get {K : PySem.W.Frag} {H : Hp} {v : V} {ks : List Str} {ds : List D} {s : Str} (h : Rp K H v (.obj 0 ks ds)) : ∃ a o, v = .ref a ∧ (∀ H', Ex H H' → DGet H' a (.str s) o) ∧ o.isSome = decide (s ∈ ks) := by
  obtain ⟨a, ob, kvs, rfl, h1, h2, h3⟩ := sdc_inv h
  refine ⟨a, valV kvs (Sum.inr s), rfl, fun H' e => .inl ⟨kvs, Sum.inr s, .inr ⟨ob, e _ _ h1⟩, rfl, rfl⟩, ?_⟩
  have hl : ks.length = ds.length := by
    have e := congrArg List.length h2
    rw [List.length_map, List.length_map] at e
    rw [← h3.length, List.length_map]; exact e.symm
  have z := tGet_rp (s := s) h2 h3
  rw [← tGet_mem hl]
  cases q : tGet ks ds s with
  | none => rw [q] at z; rw [show valV kvs (Sum.inr s) = none from z]; rfl
  | some d => rw [q] at z; obtain ⟨v, e, _⟩ := z; rw [e]; rfl
theorem ninTB_inv {x y : D} {Θ : Bool → Prop} (h : ninTB x y Θ) : ∃ s ks ds, x = .str s ∧ y = .obj 0 ks ds ∧ Θ (!decide (s ∈ ks)) := by
  unfold ninTB at h
  split at h
  · exact ⟨_, _, _, rfl, rfl, h⟩
  · exact h.elim
def rNinT : R2 := fun x y H Q => ∃ a s o, x = .str s ∧ y = .ref a ∧ DGet H a x o ∧ Q (.bl (!o.isSome)) H
theorem op_ninT (hu : X.A.units + 1 < cLine) : OpR X (compareOp .NotIn) rNinT := fun pins s σ H x y u w Q I rx ry h => by
  obtain ⟨a, t, o, rfl, rfl, g, q⟩ := h
  obtain rfl : w = Value.ref a := ry
  exact d_notIn hu I g rx fun s3 I3 => ⟨.bl (!o.isSome), H, I3, rfl, q⟩
theorem od_ninTx : OpD X rNinT (fun x y Φ => ∃ s ks ds, x = .str s ∧ y = .obj 0 ks ds ∧ Φ (.bl (!decide (s ∈ ks)))) := fun Hi H x y v u Φ s h r1 r2 Q q => by
  obtain ⟨t, ks, ds, rfl, rfl, z⟩ := h
  cases r1
  obtain ⟨a, o, rfl, g, e⟩ := sdc_get (s := t) r2
  exact ⟨a, t, o, rfl, rfl, g H s, q _ _ Hi H (by rw [e]; exact z) (Gr.refl s) (.bl _)⟩
theorem st_ninT (hu : X.A.units + 65 < cLine) (ha : SX X a ρ ma) (hb : SX X b ρ mb) (hm : behindInMarks .NotIn b = false := by rfl) : ST X (.Compare a [.NotIn] [b] pos) ρ (cmpT ninTB ma mb) := st_cmp (op_ninT (by omega)) od_ninTx (fun x y Θ h => by
  obtain ⟨s, ks, ds, e1, e2, z⟩ := ninTB_inv h
  exact ⟨s, ks, ds, e1, e2, _, rfl, z⟩) hm ha hb
end
end G
/-! A2: the album as a datum: walked, sorted, len, past == [] -/
namespace G
open PySem PySem.Spec L2 PyProof.Rows
section
variable {X : Cx} {Ψ : Str → Prop} {ρ : List Sl} {Φ : D → Prop} {a b c e o : Expr} {es : List Expr} {pos p p2 apos cpos : Pos} {ma mb mc m : M} {tg iter : Expr}
/-! ### walked -/
def walkTD (d : D) (k : List D → Prop) : Prop := match d with
  | .obj 0 ks _ => k (ks.map D.str)
  | _ => False
def itTx (m : M) : MA := fun K Ψ => m (fun d => walkTD d K) Ψ
theorem walkTD_inv {d : D} {k : List D → Prop} (h : walkTD d k) : ∃ ks ds, d = .obj 0 ks ds ∧ k (ks.map D.str) := by
  unfold walkTD at h
  split at h
  · exact ⟨_, _, rfl, h⟩
  · exact h.elim
theorem si_T (ha : SX X iter ρ m) : SI X tg iter ρ (itTx m) := ⟨fun k => ⟨_, pi_keys pe_w, fun B Hi H σ W tk S rs Rr q => (ha.run k) B Hi H σ W tk S rs _ fun v d Hi1 H1 z g r => by
  obtain ⟨ks, ds, rfl, z⟩ := walkTD_inv z
  obtain ⟨a, ob, kvs, rfl, h1, h2, h3⟩ := sdc_inv r
  have hl : (ks.map D.str).length = kvs.length := by
    have e := congrArg List.length h2
    rw [List.length_map, List.length_map] at e
    rw [List.length_map]; exact e.symm
  refine ⟨a, ob, rfl, .inl ⟨kvs, g.sub _ _ h1, q _ Hi1 H1 _ z g ⟨fun i H x hi => ⟨x _ _ h1, by rw [← hl]; exact hi⟩, fun H x => ⟨x _ _ h1, by rw [hl]; exact Nat.le_refl _⟩, fun i H x H' Hi e1 e2 y hi => ?_⟩⟩⟩
  obtain ⟨rfl, kk, v, e3, rfl⟩ := y
  have e4 : (kvs.map (·.1))[i]? = some kk := by rw [List.getElem?_map, e3]; rfl
  rw [h2, List.getElem?_map] at e4
  cases e5 : ks[i]? with
  | none => rw [e5] at e4; cases e4
  | some s =>
    rw [e5] at e4
    cases e4
    exact ⟨.str s, Hi, by rw [List.getElem?_map, e5]; rfl, Gr.refl e2, .str s⟩⟩⟩
/-! ### sorted -/
def sortTD (x : D) (Φ : D → Prop) : Prop := ∃ ks : List Str, ((∃ ds, x = .obj 0 ks ds) ∨ x = .lst (ks.map D.str)) ∧ ks.length < 64 ∧ ∀ ys : List Str, ys.Perm ks → sortedS ys = true → Φ (.lst (ys.map D.str))
def rSortTx (K : PySem.W.Frag) : List V → Hp → VK → Prop := fun xs H Q => ∃ (a : Addr) (ks : List Str), xs = [.ref a] ∧ ((∃ kvs : List (L2.Key × V), Rd H a (.dK kvs) ∧ kvs.map (·.1) = ks.map Sum.inr) ∨ SqL K H a (ks.map V.str)) ∧ ks.length < 64 ∧
  ∀ (ys : List Str) (p : Addr), ys.Perm ks → sortedS ys = true → H p = none → Q (.ref p) (upd H p (.lst (ys.map V.str)))
theorem call_sortTx (hc : X.calm = true) : CallR X (.builtin "sorted") (rSortTx X.K) := fun pins s σ H xs us Q I r h => by
  obtain ⟨a, ks, ex, ⟨kvs, h1, h2⟩ | h1, h64, q⟩ := h
  · exact call_sortedD hc pins s σ H xs us Q I r ⟨a, kvs, ks, ex, h1, h2, h64, q⟩
  · exact cr_sortedS pins s σ H xs us Q I r ⟨a, ks, ex, h1, h64, q⟩
theorem rpA_str {K : PySem.W.Frag} {H : Hp} : ∀ {ks : List Str}, RpA K H (ks.map V.str) (ks.map D.str)
  | [] => .nil
  | k :: ks => .cons (.str k) rpA_str
theorem rpA_str_inv {K : PySem.W.Frag} {H : Hp} : ∀ {ks : List Str} {xs : List V}, RpA K H xs (ks.map D.str) → xs = ks.map V.str
  | [], _, h => by cases h; rfl
  | k :: ks, _, h => by
    rw [List.map_cons] at h
    cases h with
    | cons h1 h2 => cases h1; rw [rpA_str_inv h2]; rfl
theorem cd_sortTx : CallD X (rSortTx X.K) (fun ds Φ => ∃ x, ds = [x] ∧ sortTD x Φ) := fun Hi H vs ds Φ s h r Q q => by
  obtain ⟨x, rfl, ks, hx, h64, z⟩ := h
  cases r with
  | cons r rr =>
    cases rr
    rcases hx with ⟨ds, rfl⟩ | rfl
    · obtain ⟨a, ob, kvs, rfl, h1, h2, h3⟩ := sdc_inv r
      exact ⟨a, ks, rfl, .inl ⟨kvs, .inr ⟨ob, s _ _ h1⟩, h2⟩, h64, fun ys p hp hs hn => q _ _ (upd Hi p _) _ (z ys hp hs) (Gr.mk1 s hn) (.lst upd_same rpA_str)⟩
    · cases r with
      | @lst a xs _ hs ha =>
        refine ⟨a, ks, rfl, .inr ?_, h64, fun ys p hp hs hn => q _ _ (upd Hi p _) _ (z ys hp hs) (Gr.mk1 s hn) (.lst upd_same rpA_str)⟩
        rw [← rpA_str_inv ha]
        exact SqL.of (s _ _ hs)
theorem sx_sortT (hm : X.mg "sorted" = none) (ha : SX X e ρ m) (hg : Gl X "sorted" := by rfl) (he : starEach [e] X.env = (false, eval e X.env) :: starEach [] X.env := by exact se_of rfl) (hpl : (backTo pos (starEach [] X.env)).any (·.1) = false := by rfl) (hc : X.calm = true := by rfl) :
    SX X (.Call (.Name "sorted" p) [e] [] pos) ρ (una sortTD m) := ⟨fun h => qx_callB (call_sortTx hc) cd_sortTx hm (by decide +kernel) (qa_cons ((ha.run h).mono fun x h => qa_nil ⟨x, rfl, h⟩) he) hg (by decide) (by decide) he hpl⟩
/-! ### len -/
def lnTD (x : D) (Φ : D → Prop) : Prop := match x with
  | .obj 0 ks _ => Φ (.int ks.length)
  | _ => False
theorem call_lenT : CallR X (.builtin "len") (fun xs H Q => ∃ (a : Addr) (kvs : List (L2.Key × V)), xs = [V.ref a] ∧ Rd H a (.dK kvs) ∧ Q (.int kvs.length) H) := by
  intro pins s σ H xs us Q I r h
  obtain ⟨a, kvs, rfl, hd, q⟩ := h
  obtain ⟨u, rfl, rx⟩ := vals1 r
  cases rx
  exact d_len I hd fun t s' I' => ⟨.int kvs.length, H, I', ⟨t, rfl⟩, q⟩
theorem cd_lenT : CallD X (fun xs H Q => ∃ (a : Addr) (kvs : List (L2.Key × V)), xs = [V.ref a] ∧ Rd H a (.dK kvs) ∧ Q (.int kvs.length) H) (fun ds Φ => ∃ x, ds = [x] ∧ lnTD x Φ) := fun Hi H vs ds Φ s h r Q q => by
  obtain ⟨x, rfl, z⟩ := h
  cases r with
  | cons r rr =>
    cases rr
    unfold lnTD at z
    split at z
    · obtain ⟨a, ob, kvs, rfl, h1, h2, h3⟩ := sdc_inv r
      have e := congrArg List.length h2
      rw [List.length_map, List.length_map] at e
      refine ⟨a, kvs, rfl, .inr ⟨ob, s _ _ h1⟩, ?_⟩
      rw [e]
      exact q _ _ Hi H z (Gr.refl s) (.int _)
    · exact z.elim
theorem sx_lenT (hm : X.mg "len" = none) (ha : SX X e ρ m) (hg : Gl X "len" := by rfl) (he : starEach [e] X.env = (false, eval e X.env) :: starEach [] X.env := by exact se_of rfl) (hpl : (backTo pos (starEach [] X.env)).any (·.1) = false := by rfl) :
    SX X (.Call (.Name "len" p) [e] [] pos) ρ (una lnTD m) := ⟨fun h => qx_callB call_lenT cd_lenT hm (by decide +kernel) (qa_cons ((ha.run h).mono fun x h => qa_nil ⟨x, rfl, h⟩) he) hg (by decide) (by decide) he hpl⟩
/-! ### len of an album: its own __len__ -/
def rLenO (K : PySem.W.Frag) (sp : Sp) : List V → Hp → VK → Prop := fun xs H Q => ∃ (a dx : Addr) (fs : List (Str × V)), xs = [V.ref a] ∧ H a = some (.ins (albC K) dx fs) ∧ sp [.ref a] H (fun v H' => ∃ n : Nat, v = .int n ∧ n ≤ 100000 ∧ Q v H') (fun _ _ _ => False)
theorem call_lenO {k : Nat} {f : Addr} {fd : FuncData} {ps : List Str} {sp : Sp} (hm : Meth X.K (albC X.K) "__len__" f) (F : FnOk X.prog X.w X.K X.mg X.base (L2.CX X.prog X.w) k f fd ps sp) (hr : Room (k + 1) X.A) (hb : Binds X.K fd ps []) : CallR X (.builtin "len") (rLenO X.K sp) := by
  intro pins s σ H xs us Q I r h
  obtain ⟨a, dx, fs, rfl, ha, q⟩ := h
  obtain ⟨u, rfl, rx⟩ := vals1 r
  cases rx
  have hl : ([.ref a] : List Value).length = ps.length := F.len _ _ _ _ q
  have b := hb s [.ref a] I.kIn (by rw [List.append_nil]; exact hl)
  rw [List.append_nil] at b
  have call : wpAny (model X.prog X.w) X.A.in1 (call (.ref f) [.ref a]) (EP X pins σ fun v H' => ∃ n : Nat, v = .int n ∧ n ≤ 100000 ∧ Q v H') X.xe s := by
    refine wpAny_call (codeAny_mono (F.run X.A.in1 X.stack s H ⟨[.ref a], []⟩ [.ref a] [.ref a] _ _ hr.in1 I.env0.in1 b (.cons rfl .nil) q) fun r s' hq => ?_)
    cases r with
    | error e =>
      obtain ⟨_, _, _, _, _, _, _, _, _, _, _, _, z⟩ := hq
      exact z.elim
    | ok fl =>
      cases fl with
      | ret u => exact I.after hq
      | next => exact False.elim hq
      | brk => exact False.elim hq
      | cont => exact False.elim hq
  obtain ⟨mA, O, _⟩ := ins_get I.hok ha
  obtain ⟨od, J, _⟩ := O.look
  have sp1 : PySem.W.Looks (model X.prog X.w) s.heap (specialOf (.ref a) "__len__") (some (.ref f)) := J.type.andThen (PySem.W.looks_findIn I.kIn hm.at_)
  have sp2 : PySem.W.Looks (model X.prog X.w) s.heap (bindSpecial (.ref f) (.ref a)) (.ref f, [.ref a]) := PySem.W.bind_fn I.kIn _ (beq_iff_eq.mp hm.fn)
  refine Calls.call_function_entry kind_len plain_len entry_len (args_len1 _) ?_
  unfold Builtin.«len»
  refine wpAny_bind (m := oneArg "len" _) (wpAny_pure ?_)
  refine wpAny_bind (m := callSpecial? (.ref a) (PySem.Str.ofString "__len__")) ?_
  simp only [callSpecial?]
  refine wpAny_bind (sp1.here ?_)
  refine wpAny_holding (wpAny_bind (sp2.here ?_))
  refine wpAny_bind (wpAny_mono call (fun v s' hq => wpAny_pure ?_) fun _ _ z => z)
  obtain ⟨v', H', I', rv, n, rfl, hn, q'⟩ := hq
  obtain ⟨t, rfl⟩ := rv
  refine wpAny_bind (wpAny_holding (wpAny_pure ?_))
  refine wpAny_bind (wpAny_letGo ?_)
  show wpAny _ _ (if ((n : Nat) : Int) < 0 then _ else _) _ _ _
  rw [if_neg (by omega)]
  show wpAny _ _ (if ((n : Nat) : Int) ≥ 2 ^ 63 then _ else _) _ _ _
  rw [if_neg (by omega)]
  exact wpAny_bind (wpAny_mkInt (wpAny_pure ⟨_, rfl, V.int n, H', I'.tok _, ⟨_, rfl⟩, q'⟩))
def lnAlb (f : D → M) (x : D) (Φ : D → Prop) : Prop := x.isA = true ∧ f x (fun d => ∃ n : Nat, d = .int n ∧ n ≤ 100000 ∧ Φ d) bot
theorem sx_lenA {k : Nat} {f : D → M} (F : MthS X.prog X.w X.K X.mg X.base "__len__" k 1 (sp1 f)) (hr : Room (k + 1) X.A) (hm : X.mg "len" = none) (ha : SX X e ρ m) (hg : Gl X "len" := by rfl) (he : starEach [e] X.env = (false, eval e X.env) :: starEach [] X.env := by exact se_of rfl) (hpl : (backTo pos (starEach [] X.env)).any (·.1) = false := by rfl) :
    SX X (.Call (.Name "len" p) [e] [] pos) ρ (una (lnAlb f) m) := by
  obtain ⟨hn, ak, fa, fd, ps, mt, bd, ok⟩ := F
  refine ⟨fun h => qx_callB (call_lenO mt ok hr bd) (Qd := fun ds Φ => ∃ x, ds = [x] ∧ lnAlb f x Φ) ?_ hm (by decide +kernel) (qa_cons ((ha.run h).mono fun x h => qa_nil ⟨x, rfl, h⟩) he) hg (by decide) (by decide) he hpl⟩
  intro Hi H vs ds Φ s h r Q q
  obtain ⟨x, rfl, hx, z⟩ := h
  cases r with
  | cons r rr =>
    cases rr
    obtain ⟨a, dx, sa, mm, pp, xs, n2, ds2, rfl, _, h1, _⟩ := r.alb_inv hx
    refine ⟨a, dx, _, rfl, s _ _ h1, rfl, Hi, [x], _, bot, s, .cons r .nil, ⟨x, rfl, z⟩, fun v d Hi' H' hz g r' => ?_, fun x Hi' H' hx => hx.elim⟩
    obtain ⟨n, rfl, hn, hz⟩ := hz
    cases r'
    exact ⟨n, rfl, hn, q _ _ Hi' H' hz g (.int _)⟩
/-! ### past == [] -/
theorem list_eq_no {prog : Program} {w : World} (l b : Addr) (items items2 : Array Value) (n n2 : Nat) (dd dd2 : Option Addr) (sl sl2 : Array (Option Value)) (hsz : items.size ≠ items2.size) :
    MeetsIn prog w (Builtin.«list.__eq__» ⟨[.ref l, .ref b], []⟩)
      (fun A R s => s.heap.get? l = some { cls := .type "list", dict := dd, data := .seq items n, slots := sl } ∧ s.heap.get? b = some { cls := .type "list", dict := dd2, data := .seq items2 n2, slots := sl2 } ∧
        R (.ok (.ret (.bool false))) s) := by
  intro A R s h
  obtain ⟨hp, g, d, tk, os⟩ := s; obtain ⟨hl, hb, h⟩ := h
  have f3 := AutoSeq1.sub_list_list
  have hne : (items.size != items2.size) = true := by simp [hsz]
  wp_walk using AutoSeq1.wpAny_loadPart' hl, AutoSeq1.wpAny_loadPart' hb
  all_goals first | exact h | skip
theorem rc_no {prog : Program} {w : World} {A : Around} {s : Shared} {l b : Addr} {items items2 : Array Value} (hl : s.heap.IsList l items) (hb : s.heap.IsList b items2) (hsz : items.size ≠ items2.size) (hu : A.units < cLine)
    (E Q : Value → Shared → Prop) (h : Q (.bool false) s) : wpAny (model prog w) A (richCompare .Eq (.ref l) (.ref b)) Q E s := by
  obtain ⟨⟨cls, dd, data, sl⟩, ho, hc, n, hd⟩ := id hl
  obtain ⟨⟨cls2, dd2, data2, sl2⟩, ho2, hc2, n2, hd2⟩ := id hb
  simp only at hc hd hc2 hd2
  subst hc hd hc2 hd2
  have ta : s.TypeIs (.ref l) "list" := ⟨_, ho, rfl⟩
  have tb : s.TypeIs (.ref b) "list" := ⟨_, ho2, rfl⟩
  exact wpAny_richCompare_same_room (op := .Eq) ta tb PySem.F.slot_list_eq (call_meetsIn PySem.F.slot_list_eq ta PySem.F.entry_list_eq (PySem.F.args_list_eq_2 _ _) (list_eq_no l b items items2 n n2 dd dd2 sl sl2 hsz)
    ⟨ho, ho2, show Value.bool false ≠ Value.notImplemented ∧ Q (.bool false) s from ⟨(fun x => nomatch x), h⟩⟩) hu
def rEqE (K : PySem.W.Frag) : R2 := fun x y H Q => ∃ a b xs, x = .ref a ∧ y = .ref b ∧ SqL K H a xs ∧ SqL K H b [] ∧ Q (.bl xs.isEmpty) H
theorem op_eqE (hu : X.A.units + 1 < cLine) : OpR X (compareOp .Eq) (rEqE X.K) := by
  intro pins s σ H x y v u Q I rx ry h
  obtain ⟨a, b, xs, rfl, rfl, h1, h2, q⟩ := h
  obtain rfl : v = Value.ref a := rx
  obtain rfl : u = Value.ref b := ry
  obtain ⟨its, rv, p1, z1⟩ := I.list h1
  obtain ⟨its2, rv2, p2, z2⟩ := I.list h2
  cases rv2
  have hl := rv.length
  show wpAny _ _ (richCompare .Eq _ _) _ _ _
  cases xs with
  | nil =>
    cases rv
    refine PySem.SeqAt.rcP_lists (e := fun _ => true) p1.isList p2.isList rfl (by omega) (fun j h1 _ => absurd h1 (Nat.not_lt_zero _)) _ _ ⟨.bl true, H, I, rfl, q⟩
  | cons x xs =>
    refine rc_no p1.isList p2.isList ?_ (by omega) _ _ ⟨.bl false, H, I, rfl, q⟩
    rw [List.size_toArray, ← hl]
    simp
def pastT (m : M) : MB := fun Θ Ψ => m (fun x => match x with
  | .obj 1 [] _ => Θ true
  | .obj 2 [] _ => Θ false
  | _ => False) Ψ
theorem st_pastE (hu : X.A.units + 65 < cLine) (ak : AlbK X.K) (ha : SX X a ρ m) (hb : attributeBase a "past" X.env (eval a X.env) = eval a X.env := by rfl) : ST X (.Compare (.Attribute a "past" p) [.Eq] [.List [] p2] pos) ρ (pastT m) :=
  ⟨fun k B Hi H σ W tk S rs Q q => wT.of (pt_cmpR (op_eqE (by omega)) (pe_fld pe_w hb) (pe_lst pa_nil) (nobehind _ (by decide) (by decide))) ((ha.run k) B Hi H σ W tk S rs _ fun v d Hi1 H1 z g r => by
    have hd : d.isA = true := by
      simp only at z
      split at z
      · rfl
      · rfl
      · exact z.elim
    obtain ⟨a, dx, sa, mm, pp, xs, n2, ds2, rfl, rfl, h1, h2, h3, h4, h5⟩ := r.alb_inv hd
    refine ⟨a, _, dx, _, _, rfl, g.sub _ _ h1, ak.cls, ak.nps, rfl, Nat.zero_le _, fun t ht => ⟨pp, t, xs, rfl, rfl, SqL.of (Ex.new ht _ _ (g.sub _ _ h3)), SqL.of upd_same, _, rfl, ?_⟩⟩
    refine q _ Hi1 _ ?_ (g.trans (Gr.out g.sub (Ex.new ht)))
    cases xs with
    | nil => subst h4; exact z
    | cons x xs => subst h4; exact z)⟩
end
end G
/-! A3: the album as a thing of one's own, of many cells -/
namespace L2
open PySem PySem.Spec PyProof.Rows
/-- o.f = .. as a target -/
def gFld (K : PySem.W.Frag) (to : TE) (f : Str) : TG := fun y σ H Q => to σ H fun x H1 => ∃ a C dx fs, x = .ref a ∧ H1 a = some (.ins C dx fs) ∧ Cls K C ∧ NoAttr K C f ∧ fs.length < 1000 ∧ Q σ (upd H1 a (.ins C dx (putF f y fs)))
theorem pg_fld {X : Cx} {o : Expr} {to : TE} {f : Str} {pos : Pos} (ho : PE X o to)
    (ha : ∀ v, assign (.Attribute o f pos) X.env v = (do
      let ov ← holding [v] (eval o X.env)
      standAt pos.atName
      holding [v, ov] (setAttr ov f v)
      release [v, ov] []) := by intro _; rfl) : PG X (.Attribute o f pos) (gFld X.K to f) := by
  refine ⟨fun pins s σ H v u Q I r h => ?_⟩
  rw [ha]
  refine wpAny_bind (wpAny_holding (thn (ho.run pins s σ H _ I h) fun ov s1 ⟨x, H1, I1, r1, a, C, dx, fs, ex, ea, c, n, l, q⟩ => ?_))
  subst ex
  obtain rfl : ov = Value.ref a := r1
  exact wpAny_bind (wpAny_standAt (wpAny_bind (wpAny_holding (setattr_ok I1 ea c n l r fun s3 I3 => wpAny_release ⟨σ, _, I3, q⟩))))
end L2
namespace G
open PySem PySem.Spec L2 PyProof.Rows
theorem wE.lock {X : Cx} {e : Expr} {σ : L2.St} {H : Hp} {Q : VK} {d : Addr} {u : HO} (h : H d = some u) (mu : Mut (some u)) (k : ∀ od, wE X e σ (upd H d (.frz od u)) fun v H' => H' d = some (.frz od u) ∧ Q v (upd H' d u)) : wE X e σ H Q := fun pins s I => by
  obtain ⟨od, I1⟩ := I.lock h mu
  exact thn (k od pins s I1) fun v s1 ⟨x, H1, I2, r, e2, q⟩ => ⟨x, _, I2.unlock e2 (I.nofrz h mu), r, q⟩
theorem wT.lock {X : Cx} {e : Expr} {σ : L2.St} {H : Hp} {Q : Bool → Hp → Prop} {d : Addr} {u : HO} (h : H d = some u) (mu : Mut (some u)) (k : ∀ od, wT X e σ (upd H d (.frz od u)) fun v H' => H' d = some (.frz od u) ∧ Q v (upd H' d u)) : wT X e σ H Q := fun pins s I => by
  obtain ⟨od, I1⟩ := I.lock h mu
  exact thn (k od pins s I1) fun v s1 ⟨H1, I2, e2, q⟩ => ⟨_, I2.unlock e2 (I.nofrz h mu), q⟩
/-- texts and what stands there, in order -/
abbrev TD : Type := List (Str × D)
structure Alb where
  st : TD
  ma : TD
  past : List (TD × TD)
abbrev tdD (S : TD) : D := .obj 0 (S.map (·.1)) (S.map (·.2))
abbrev Alb.d (A : Alb) : D := .obj (if A.past.isEmpty = true then 1 else 2) [] [tdD A.st, tdD A.ma]
def TdAt (K : PySem.W.Frag) (Hj O : Hp) (s : Addr) (S : TD) : Prop := ∃ kvs : List (L2.Key × V), O s = some (.dK kvs) ∧ kvs.map (·.1) = S.map (fun q => Sum.inr q.1) ∧ RpA K Hj (kvs.map (·.2)) (S.map (·.2))
def PastAt (K : PySem.W.Frag) (Hj O : Hp) : List (Addr × Addr × Addr) → List (TD × TD) → Prop
  | [], [] => True
  | e :: es, q :: qs => O e.1 = some (.tup [.ref e.2.1, .ref e.2.2]) ∧ TdAt K Hj O e.2.1 q.1 ∧ TdAt K Hj O e.2.2 q.2 ∧ PastAt K Hj O es qs
  | _, _ => False
abbrev dsOf (es : List (Addr × Addr × Addr)) : List Addr := es.flatMap fun e => [e.2.1, e.2.2]
/-- the cells of an album; past: the newest first -/
structure AlbP (K : PySem.W.Frag) (Hj O : Hp) (a : Addr) (A : Alb) (dx s m p : Addr) (es : List (Addr × Addr × Addr)) : Prop where
  ins : O a = some (.ins (albC K) dx [("stock", .ref s), ("marks", .ref m), ("past", .ref p)])
  own : O dx = some (.own a)
  st : TdAt K Hj O s A.st
  ma : TdAt K Hj O m A.ma
  lst : O p = some (.lst (es.map fun e => V.ref e.1).reverse)
  past : PastAt K Hj O es A.past
  nd : (s :: m :: dsOf es).Nodup
def AlbC (K : PySem.W.Frag) (Hj O : Hp) (a : Addr) (A : Alb) : Prop := ∃ dx s m p es, AlbP K Hj O a A dx s m p es
/-- own; at the root ro, where that is told -/
def albX (ro : Option Addr) (A : Alb) : Mc := fun K Hj v O => ∃ a, v = .ref a ∧ (∀ b, ro = some b → a = b) ∧ AlbC K Hj O a A
abbrev Sl.alb (ro : Option Addr) (A : Alb) : Sl := .mo (albX ro A)
section
variable {K : PySem.W.Frag} {B Hi H Hi' H' Hj Hj' O O' : Hp} {σ : L2.St} {ρ : List Sl} {a : Addr} {A : Alb}
theorem TdAt.to {s : Addr} {S : TD} (h : TdAt K Hj O s S) (e : Ex Hj Hj') (o : O' s = O s) : TdAt K Hj' O' s S := by
  obtain ⟨kvs, h1, h2, h3⟩ := h
  exact ⟨kvs, o.trans h1, h2, h3.up e⟩
theorem PastAt.to : ∀ {es : List (Addr × Addr × Addr)} {qs : List (TD × TD)}, PastAt K Hj O es qs → Ex Hj Hj' → (∀ c, (∃ l, O c = some (.tup l)) → O' c = O c) → (∀ c ∈ dsOf es, O' c = O c) → PastAt K Hj' O' es qs
  | [], [], _, _, _, _ => trivial
  | [], _ :: _, h, _, _, _ => h.elim
  | _ :: _, [], h, _, _, _ => h.elim
  | e :: es, q :: qs, h, x, t, d => by
    obtain ⟨h1, h2, h3, h4⟩ := h
    have hd : ∀ c, c = e.2.1 ∨ c = e.2.2 ∨ c ∈ dsOf es → O' c = O c := fun c hc => d c (by
      rw [dsOf, List.flatMap_cons]
      rcases hc with rfl | rfl | hc
      · simp
      · simp
      · exact List.mem_append.mpr (.inr hc))
    exact ⟨(t _ ⟨_, h1⟩).trans h1, h2.to x (hd _ (.inl rfl)), h3.to x (hd _ (.inr (.inl rfl))), h4.to x t fun c hc => hd c (.inr (.inr hc))⟩
theorem PastAt.len : ∀ {es : List (Addr × Addr × Addr)} {qs : List (TD × TD)}, PastAt K Hj O es qs → es.length = qs.length
  | [], [], _ => rfl
  | [], _ :: _, h => h.elim
  | _ :: _, [], h => h.elim
  | _ :: _, _ :: _, h => congrArg Nat.succ (PastAt.len h.2.2.2)
theorem PastAt.dk : ∀ {es : List (Addr × Addr × Addr)} {qs : List (TD × TD)}, PastAt K Hj O es qs → ∀ c ∈ dsOf es, ∃ kvs, O c = some (.dK kvs)
  | [], [], _, _, hc => by cases hc
  | [], _ :: _, h, _, _ => h.elim
  | _ :: _, [], h, _, _ => h.elim
  | e :: es, q :: qs, h, c, hc => by
    obtain ⟨h1, ⟨k1, h2, _⟩, ⟨k2, h3, _⟩, h4⟩ := h
    rw [dsOf, List.flatMap_cons] at hc
    rcases List.mem_append.mp hc with hc | hc
    · simp at hc
      rcases hc with rfl | rfl
      · exact ⟨_, h2⟩
      · exact ⟨_, h3⟩
    · exact h4.dk c hc
theorem AlbC.up (h : AlbC K Hj O a A) (e : Ex Hj Hj') : AlbC K Hj' O a A := by
  obtain ⟨dx, s, m, p, es, h⟩ := h
  exact ⟨dx, s, m, p, es, h.ins, h.own, h.st.to e rfl, h.ma.to e rfl, h.lst, h.past.to e (fun _ _ => rfl) (fun _ _ => rfl), h.nd⟩
/-! ### own cells change -/
/-- from Hi, H with the own cells O to Hi', H' with O' -/
structure GrO (Hi H O Hi' H' O' : Hp) : Prop where
  i : Ex Hi Hi'
  o : ∀ c u, H c = some u → O c = none → H' c = some u
  sub : Ex Hi' H'
  osub : Ex O' H'
  dj : ∀ c u, O' c = some u → Hi' c = none
  new : ∀ c, Hi c = none → (∃ u, Hi' c = some u) → H c = none ∨ ∃ u, O c = some u
  onew : ∀ c u, O' c = some u → (∃ u', O c = some u') ∨ H c = none
theorem GrO.refl (s : Ex Hi H) (os : Ex O H) (dj : ∀ c u, O c = some u → Hi c = none) : GrO Hi H O Hi H O := ⟨Ex.refl _, fun _ _ h _ => h, s, os, dj, fun c h ⟨u, z⟩ => (by rw [h] at z; cases z), fun c u z => .inl ⟨u, z⟩⟩
/-- the cell c, own or new, takes o -/
theorem GrO.put (g : GrO Hi H O Hi' H' O') {c : Addr} {o : HO} (hc : (∃ u, O' c = some u) ∨ H' c = none) : GrO Hi H O Hi' (upd H' c o) (upd O' c o) := by
  have ni : Hi' c = none := by
    rcases hc with ⟨u, h⟩ | h
    · exact g.dj c u h
    · exact g.sub.free h
  have old : (∃ u', O c = some u') ∨ H c = none := by
    rcases hc with ⟨u, h⟩ | h
    · exact g.onew c u h
    · cases q : O c with
      | some u => exact .inl ⟨u, rfl⟩
      | none =>
        right
        cases q2 : H c with
        | none => rfl
        | some u => rw [g.o c u q2 q] at h; cases h
  refine ⟨g.i, fun d u h hn => ?_, g.sub.wr ni, fun d u h => ?_, fun d u h => ?_, g.new, fun d u h => ?_⟩
  · by_cases e : d = c
    · subst e
      rcases old with ⟨u', h'⟩ | h'
      · rw [hn] at h'; cases h'
      · rw [h] at h'; cases h'
    · rw [upd_ne e]; exact g.o d u h hn
  · by_cases e : d = c
    · subst e; rw [upd_same] at h ⊢; exact h
    · rw [upd_ne e] at h ⊢; exact g.osub d u h
  · by_cases e : d = c
    · subst e; exact ni
    · rw [upd_ne e] at h; exact g.dj d u h
  · by_cases e : d = c
    · subst e; exact old
    · rw [upd_ne e] at h; exact g.onew d u h
/-- data grow -/
theorem GrO.grow {Hi'' H'' : Hp} (g : GrO Hi H O Hi' H' O') (g2 : Gr Hi' H' Hi'' H'') : GrO Hi H O Hi'' H'' O' := by
  refine ⟨g.i.trans g2.i, fun c u h hn => g2.o _ _ (g.o c u h hn), g2.sub, g.osub.trans g2.o, fun c u h => ?_, fun c h1 z => ?_, g.onew⟩
  · cases q : Hi'' c with
    | none => rfl
    | some w => have := g2.new c (g.dj c u h) ⟨w, q⟩; rw [g.osub c u h] at this; cases this
  · cases q : Hi' c with
    | some w => exact g.new c h1 ⟨w, q⟩
    | none =>
      have hn := g2.new c q z
      cases q2 : O c with
      | some u => exact .inr ⟨u, rfl⟩
      | none =>
        left
        cases q3 : H c with
        | none => rfl
        | some u => rw [g.o c u q3 q2] at hn; cases hn
theorem StOk.mcall {i : Nat} {mm mm' : Mc} {F : Nat → Hp} {v : V} (S : StOk K B Hi H σ ρ) (ms : MoS K B Hi H σ ρ F) (hi : ρ[i]? = some (.mo mm)) (bh : Ex B H) (g : GrO Hi H (F i) Hi' H' O')
    (hv : σ[i]? = some (some v)) (hm : mm' K Hi' v O') : StOk K B Hi' H' σ (ρ.set i (.mo mm')) := by
  have il : i < ρ.length := (List.getElem?_eq_some_iff.mp hi).1
  have clF : ∀ (j : Nat) (f : Cl) (c : Addr), ρ[j]? = some (.cl f) → σ[j]? = some (some (V.ref c)) → F i c = none := fun j f c hj hc => by
    cases q : F i c with
    | none => rfl
    | some u => exact absurd hc (ms.cl i mm j f c u hi hj q)
  have keep : ∀ c u, Hi c = none → H c = some u → F i c = none → Hi' c = none ∧ H' c = some u := fun c u h1 h2 h3 => by
    refine ⟨?_, g.o c u h2 h3⟩
    cases q : Hi' c with
    | none => rfl
    | some w =>
      rcases g.new c h1 ⟨w, q⟩ with h | ⟨w', h⟩
      · rw [h2] at h; cases h
      · rw [h3] at h; cases h
  have key : StOk K B Hi' H' (σ.set i (some v)) (ρ.set i (.mo mm')) := by
    refine ⟨g.sub, by simp [S.len], at_set S.len trivial fun j x s hj p q => ?_, sep_set S.sep S.len (fun h => nomatch h), ⟨fun j => if j = i then O' else F j, fun j m e => ?_, fun j m e c u z => ?_, fun j m k f c u e1 e2 z => ?_, fun j m k m2 c u e1 e2 n z => ?_⟩⟩
    · have z := S.at_ j x s p q
      cases s with
      | emp => cases x <;> trivial
      | mo m => cases x <;> trivial
      | dat d =>
        cases x with
        | none => exact z
        | some v => exact Rp.up (show Rp K Hi v d from z) g.i
      | cl f =>
        cases x with
        | none => exact z
        | some v =>
          obtain ⟨c, o2, ev, b2, n2, x2, r2⟩ := z
          subst ev
          obtain ⟨k1, k2⟩ := keep c o2 n2 x2 (clF j f c q p)
          exact ⟨c, o2, rfl, b2, k1, k2, r2.up g.i⟩
    · by_cases q : i = j
      · subst q
        rw [List.getElem?_set_self il] at e
        cases e
        exact ⟨v, Hi', by rw [List.getElem?_set_self (by rw [S.len]; exact il)], Ex.refl _, by rw [if_pos rfl]; exact hm⟩
      · rw [List.getElem?_set_ne q] at e
        obtain ⟨v, Hj, a1, a2, a3⟩ := ms.at_ j m e
        exact ⟨v, Hj, by rw [List.getElem?_set_ne q]; exact a1, a2.trans g.i, by rw [if_neg fun z => q z.symm]; exact a3⟩
    · by_cases q : i = j
      · subst q
        rw [if_pos rfl] at z
        refine ⟨?_, g.dj c u z, g.osub c u z⟩
        rcases g.onew c u z with ⟨w, h⟩ | h
        · exact (ms.cell i mm hi c w h).1
        · exact bh.free h
      · rw [List.getElem?_set_ne q] at e
        rw [if_neg fun z => q z.symm] at z
        obtain ⟨b1, b2, b3⟩ := ms.cell j m e c u z
        obtain ⟨k1, k2⟩ := keep c u b2 b3 (ms.mo j m i mm c u e hi (fun z => q z.symm) z)
        exact ⟨b1, k1, k2⟩
    · by_cases q2 : i = k
      · subst q2
        rw [List.getElem?_set_self il] at e2; cases e2
      · rw [List.getElem?_set_ne q2] at e2 ⊢
        by_cases q : i = j
        · subst q
          rw [if_pos rfl] at z
          intro hs
          obtain ⟨c', o2, ev, b2, n2, x2, _⟩ := S.own e2
          rw [hs] at ev
          cases ev
          rcases g.onew c u z with ⟨w, h⟩ | h
          · rw [clF k f c e2 hs] at h; cases h
          · rw [x2] at h; cases h
        · rw [List.getElem?_set_ne q] at e1
          rw [if_neg fun z => q z.symm] at z
          exact ms.cl j m k f c u e1 e2 z
    · by_cases q : i = j
      · subst q
        rw [List.getElem?_set_ne n] at e2
        rw [if_pos rfl] at z
        rw [if_neg fun z => n z.symm]
        cases q3 : F k c with
        | none => rfl
        | some w =>
          obtain ⟨b1, b2, b3⟩ := ms.cell k m2 e2 c w q3
          rcases g.onew c u z with ⟨w', h⟩ | h
          · rw [ms.mo k m2 i mm c w e2 hi (fun z => n z.symm) q3] at h; cases h
          · rw [b3] at h; cases h
      · rw [List.getElem?_set_ne q] at e1
        rw [if_neg fun z => q z.symm] at z
        by_cases q2 : i = k
        · subst q2
          rw [if_pos rfl]
          obtain ⟨b1, b2, b3⟩ := ms.cell j m e1 c u z
          cases q3 : O' c with
          | none => rfl
          | some w =>
            rcases g.onew c w q3 with ⟨w', h⟩ | h
            · rw [ms.mo j m i mm c u e1 hi (fun z => q z.symm) z] at h; cases h
            · rw [b3] at h; cases h
        · rw [List.getElem?_set_ne q2] at e2
          rw [if_neg fun z => q2 z.symm]
          exact ms.mo j m k m2 c u e1 e2 n z
  rw [set_same hv] at key
  exact key
theorem GrO.gr {Bi : Hp} {i : Nat} {mm : Mc} {F : Nat → Hp} (ms : MoS K B Hi H σ ρ F) (hi : ρ[i]? = some (.mo mm)) (g0 : Gr Bi B Hi H) (g : GrO Hi H (F i) Hi' H' O') : Gr Bi B Hi' H' := by
  refine ⟨g0.i.trans g.i, fun c u h => ?_, g.sub, fun c h z => ?_⟩
  · refine g.o c u (g0.o c u h) ?_
    cases q : F i c with
    | none => rfl
    | some w => rw [(ms.cell i mm hi c w q).1] at h; cases h
  · cases q : Hi c with
    | some w => exact g0.new c h ⟨w, q⟩
    | none =>
      rcases g.new c q z with h | ⟨w, h⟩
      · exact g0.o.free h
      · exact (ms.cell i mm hi c w h).1
/-! ### looked at as data -/
theorem StOk.lay {i : Nat} {mm : Mc} {F : Nat → Hp} {v : V} {d : D} {Hi2 H2 : Hp} (S : StOk K B Hi H σ ρ) (ms : MoS K B Hi H σ ρ F) (hi : ρ[i]? = some (.mo mm)) (hv : σ[i]? = some (some v)) (sub : Ex Hi2 H2) (e1 : Ex Hi Hi2)
    (ho : ∀ c, F i c = none → H2 c = H c ∧ Hi2 c = Hi c) (r : Rp K Hi2 v d) : StOk K B Hi2 H2 σ (ρ.set i (.dat d)) := by
  have il : i < ρ.length := (List.getElem?_eq_some_iff.mp hi).1
  have key : StOk K B Hi2 H2 (σ.set i (some v)) (ρ.set i (.dat d)) := by
    refine ⟨sub, by simp [S.len], at_set S.len r fun j x s hj p q => ?_, sep_set S.sep S.len (fun h => nomatch h), ⟨F, fun j m e => ?_, fun j m e c u z => ?_, fun j m k f c u e1 e2 z => ?_, fun j m k m2 c u e1 e2 n z => ?_⟩⟩
    · have z := S.at_ j x s p q
      cases s with
      | emp => cases x <;> trivial
      | mo m => cases x <;> trivial
      | dat d =>
        cases x with
        | none => exact z
        | some v => exact Rp.up (show Rp K Hi v d from z) e1
      | cl f =>
        cases x with
        | none => exact z
        | some v =>
          obtain ⟨c, o2, ev, b2, n2, x2, r2⟩ := z
          subst ev
          have hc : F i c = none := by
            cases q2 : F i c with
            | none => rfl
            | some u => exact absurd p (ms.cl i mm j f c u hi q q2)
          obtain ⟨k1, k2⟩ := ho c hc
          exact ⟨c, o2, rfl, b2, k2.trans n2, k1.trans x2, r2.up e1⟩
    · by_cases q : i = j
      · subst q; rw [List.getElem?_set_self il] at e; cases e
      · rw [List.getElem?_set_ne q] at e
        obtain ⟨v, Hj, a1, a2, a3⟩ := ms.at_ j m e
        exact ⟨v, Hj, by rw [List.getElem?_set_ne q]; exact a1, a2.trans e1, a3⟩
    · by_cases q : i = j
      · subst q; rw [List.getElem?_set_self il] at e; cases e
      · rw [List.getElem?_set_ne q] at e
        obtain ⟨b1, b2, b3⟩ := ms.cell j m e c u z
        obtain ⟨k1, k2⟩ := ho c (ms.mo j m i mm c u e hi (fun z => q z.symm) z)
        exact ⟨b1, k2.trans b2, k1.trans b3⟩
    · by_cases q : i = j
      · subst q; rw [List.getElem?_set_self il] at e1; cases e1
      · rw [List.getElem?_set_ne q] at e1
        by_cases q2 : i = k
        · subst q2; rw [List.getElem?_set_self il] at e2; cases e2
        · rw [List.getElem?_set_ne q2] at e2 ⊢
          exact ms.cl j m k f c u e1 e2 z
    · by_cases q : i = j
      · subst q; rw [List.getElem?_set_self il] at e1; cases e1
      · rw [List.getElem?_set_ne q] at e1
        by_cases q2 : i = k
        · subst q2; rw [List.getElem?_set_self il] at e2; cases e2
        · rw [List.getElem?_set_ne q2] at e2
          exact ms.mo j m k m2 c u e1 e2 n z
  rw [set_same hv] at key
  exact key
end
end G
/-! A4: the album of one's own: looked at; its methods that change it -/
namespace G
open PySem PySem.Spec L2 PyProof.Rows
section
variable {K : PySem.W.Frag} {B Hi H : Hp} {σ : L2.St} {ρ : List Sl} {A : Alb} {ro : Option Addr}
theorem isEmpty_rev {α β : Type} (f : α → β) (l : List α) : (l.map f).reverse.isEmpty = l.isEmpty := by cases l <;> simp
/-- both dicts locked: the album is a datum -/
theorem alb_lay {i : Nat} {F : Nat → Hp} (S : StOk K B Hi H σ ρ) (ms : MoS K B Hi H σ ρ F) (hi : ρ[i]? = some (.alb ro A)) :
    ∃ (s m : Addr) (kS kM : List (L2.Key × V)), H s = some (.dK kS) ∧ s ≠ m ∧ H m = some (.dK kM) ∧ ∀ od1 od2, ∃ Hi2, Ex Hi Hi2 ∧ StOk K B Hi2 (upd (upd H s (.frz od1 (.dK kS))) m (.frz od2 (.dK kM))) σ (ρ.set i (.dat A.d)) ∧
      ∀ c xs, Hi2 c = some (.lst xs) → Hi c = some (.lst xs) ∨ (xs.length = A.past.length ∧ ∀ x ∈ xs, ∃ t, x = V.ref t) := by
  obtain ⟨v, Hj, hv, ej, a, rfl, hro, dx, s, m, p, es, h⟩ := ms.at_ i _ hi
  have cell := ms.cell i _ hi
  obtain ⟨kS, s1, s2, s3⟩ := h.st
  obtain ⟨kM, m1, m2, m3⟩ := h.ma
  have nd := h.nd
  rw [List.nodup_cons, List.nodup_cons] at nd
  have sm : s ≠ m := fun e => nd.1 (by rw [e]; exact List.mem_cons_self)
  obtain ⟨_, ni_s, h_s⟩ := cell s _ s1
  obtain ⟨_, ni_m, h_m⟩ := cell m _ m1
  obtain ⟨_, ni_a, h_a⟩ := cell a _ h.ins
  obtain ⟨_, ni_x, h_x⟩ := cell dx _ h.own
  obtain ⟨_, ni_p, h_p⟩ := cell p _ h.lst
  refine ⟨s, m, kS, kM, h_s, sm, h_m, fun od1 od2 => ?_⟩
  have as_ : a ≠ s := fun e => by rw [e, h_s] at h_a; cases h_a
  have am : a ≠ m := fun e => by rw [e, h_m] at h_a; cases h_a
  have xs_ : dx ≠ s := fun e => by rw [e, h_s] at h_x; cases h_x
  have xm : dx ≠ m := fun e => by rw [e, h_m] at h_x; cases h_x
  have ps_ : p ≠ s := fun e => by rw [e, h_s] at h_p; cases h_p
  have pm : p ≠ m := fun e => by rw [e, h_m] at h_p; cases h_p
  have ax : a ≠ dx := fun e => by rw [e, h_x] at h_a; cases h_a
  have ap : a ≠ p := fun e => by rw [e, h_p] at h_a; cases h_a
  have xp : dx ≠ p := fun e => by rw [e, h_p] at h_x; cases h_x
  let H2 : Hp := upd (upd H s (.frz od1 (.dK kS))) m (.frz od2 (.dK kM))
  let N : Addr → Prop := fun c => c = a ∨ c = dx ∨ c = s ∨ c = m ∨ c = p
  let Hi2 : Hp := fun c => if c = a ∨ c = dx ∨ c = s ∨ c = m ∨ c = p then H2 c else Hi c
  have yes : ∀ c, (c = a ∨ c = dx ∨ c = s ∨ c = m ∨ c = p) → Hi2 c = H2 c := fun c hc => if_pos hc
  have no : ∀ c, ¬ (c = a ∨ c = dx ∨ c = s ∨ c = m ∨ c = p) → Hi2 c = Hi c := fun c hc => if_neg hc
  have nin : ∀ c, (c = a ∨ c = dx ∨ c = s ∨ c = m ∨ c = p) → Hi c = none ∧ ∃ u, F i c = some u := fun c hc => by
    rcases hc with rfl | rfl | rfl | rfl | rfl
    · exact ⟨ni_a, _, h.ins⟩
    · exact ⟨ni_x, _, h.own⟩
    · exact ⟨ni_s, _, s1⟩
    · exact ⟨ni_m, _, m1⟩
    · exact ⟨ni_p, _, h.lst⟩
  have H2n : ∀ c, c ≠ s → c ≠ m → H2 c = H c := fun c h1 h2 => (upd_ne h2).trans (upd_ne h1)
  have e1 : Ex Hi Hi2 := fun c u z => by
    by_cases hc : c = a ∨ c = dx ∨ c = s ∨ c = m ∨ c = p
    · rw [(nin c hc).1] at z; cases z
    · rw [no c hc]; exact z
  have sub : Ex Hi2 H2 := fun c u z => by
    by_cases hc : c = a ∨ c = dx ∨ c = s ∨ c = m ∨ c = p
    · rw [yes c hc] at z; exact z
    · rw [no c hc] at z
      rw [H2n c (fun e => hc (.inr (.inr (.inl e)))) (fun e => hc (.inr (.inr (.inr (.inl e)))))]
      exact S.sub c u z
  have g_s : Hi2 s = some (.frz od1 (.dK kS)) := (yes s (.inr (.inr (.inl rfl)))).trans ((upd_ne sm).trans upd_same)
  have g_m : Hi2 m = some (.frz od2 (.dK kM)) := (yes m (.inr (.inr (.inr (.inl rfl))))).trans upd_same
  have g_a : Hi2 a = _ := ((yes a (.inl rfl)).trans (H2n a as_ am)).trans h_a
  have g_x : Hi2 dx = _ := ((yes dx (.inr (.inl rfl))).trans (H2n dx xs_ xm)).trans h_x
  have g_p : Hi2 p = _ := ((yes p (.inr (.inr (.inr (.inr rfl))))).trans (H2n p ps_ pm)).trans h_p
  have hl : es.length = A.past.length := h.past.len
  have r : Rp K Hi2 (.ref a) A.d := by
    refine .alb g_a g_x g_p ?_ (.cons (.sdc g_s (by rw [s2]; simp) (s3.up (ej.trans e1))) (.cons (.sdc g_m (by rw [m2]; simp) (m3.up (ej.trans e1))) .nil))
    rw [isEmpty_rev]
    cases q : A.past with
    | nil =>
      rw [q] at hl
      rw [List.eq_nil_of_length_eq_zero hl]
      rfl
    | cons x y =>
      rw [q] at hl
      cases es with
      | nil => cases hl
      | cons e es => rfl
  refine ⟨Hi2, e1, S.lay ms hi hv sub e1 (fun c hc => ?_) r, fun c xs hc => ?_⟩
  · have hn : ¬ (c = a ∨ c = dx ∨ c = s ∨ c = m ∨ c = p) := fun z => by
      obtain ⟨_, u, hu⟩ := nin c z
      rw [hc] at hu; cases hu
    exact ⟨H2n c (fun e => hn (.inr (.inr (.inl e)))) (fun e => hn (.inr (.inr (.inr (.inl e))))), no c hn⟩
  · by_cases hn : c = a ∨ c = dx ∨ c = s ∨ c = m ∨ c = p
    · right
      rcases hn with rfl | rfl | rfl | rfl | rfl
      · rw [g_a] at hc; cases hc
      · rw [g_x] at hc; cases hc
      · rw [g_s] at hc; cases hc
      · rw [g_m] at hc; cases hc
      · rw [g_p] at hc
        cases hc
        refine ⟨by rw [List.length_reverse, List.length_map, hl], fun x hx => ?_⟩
        rw [List.mem_reverse, List.mem_map] at hx
        obtain ⟨e, _, rfl⟩ := hx
        exact ⟨_, rfl⟩
    · rw [no c hn] at hc
      exact .inl hc
theorem lay_back {s m : Addr} {kS kM : List (L2.Key × V)} {u1 u2 : HO} {H' : Hp} (S : Ex Hi H) (h_s : H s = some (.dK kS)) (sm : s ≠ m) (h_m : H m = some (.dK kM)) (g : Ex (upd (upd H s u1) m u2) H') :
    H' m = some u2 ∧ upd H' m (.dK kM) s = some u1 ∧ Gr Hi H Hi (upd (upd H' m (.dK kM)) s (.dK kS)) := by
  have e2 : H' m = some u2 := g m _ upd_same
  have e1 : H' s = some u1 := g s _ ((upd_ne sm).trans upd_same)
  refine ⟨e2, (upd_ne sm).trans e1, Gr.out S fun c u z => ?_⟩
  by_cases q : c = s
  · subst q; rw [upd_same, ← h_s]; exact z
  · rw [upd_ne q]
    by_cases q2 : c = m
    · subst q2; rw [upd_same, ← h_m]; exact z
    · rw [upd_ne q2]; exact g c u (by rw [upd_ne q2, upd_ne q]; exact z)
end
section
variable {X : Cx} {Ψ : Str → Prop} {ρ : List Sl} {R : Po} {Φ : D → Prop} {Θ : Bool → Prop} {a b c e o : Expr} {es : List Expr} {pos p p2 apos cpos : Pos} {ma mb mc m : M} {mt : MB} {rest : List Stmt} {A : Alb} {ro : Option Addr}
theorem takes_no : Takes X (fun _ _ _ _ => False) := fun u s' ⟨_, _, _, _, _, _, _, _, _, _, _, _, _, _, _, _, z⟩ => z.elim
theorem qx_peekA (i : Nat) (hi : ρ[i]? = some (.alb ro A)) (h : QX X bot e (ρ.set i (.dat A.d)) fun z => z.flat = true ∧ Φ z) : QX X Ψ e ρ Φ := fun B Hi H σ W tk S rs Q q => by
  obtain ⟨F, ms⟩ := S.mo.ex
  obtain ⟨s, m, kS, kM, h_s, sm, h_m, k⟩ := alb_lay S ms hi
  refine wE.lock h_s trivial fun od1 => wE.lock (d := m) (u := .dK kM) (by rw [upd_ne sm.symm]; exact h_m) trivial fun od2 => ?_
  obtain ⟨Hi2, e1, S2, _⟩ := k od1 od2
  refine h B Hi2 _ σ _ takes_no S2 (fun _ _ _ z => z.elim) _ fun v d Hi' H' hz g r => ?_
  obtain ⟨a1, a2, a3⟩ := lay_back S.sub h_s sm h_m g.o
  exact ⟨a1, a2, q v d Hi _ hz.2 a3 (r.flat hz.1)⟩
theorem qt_peekA (i : Nat) (hi : ρ[i]? = some (.alb ro A)) (h : QT X bot e (ρ.set i (.dat A.d)) Θ) : QT X Ψ e ρ Θ := fun B Hi H σ W tk S rs Q q => by
  obtain ⟨F, ms⟩ := S.mo.ex
  obtain ⟨s, m, kS, kM, h_s, sm, h_m, k⟩ := alb_lay S ms hi
  refine wT.lock h_s trivial fun od1 => wT.lock (d := m) (u := .dK kM) (by rw [upd_ne sm.symm]; exact h_m) trivial fun od2 => ?_
  obtain ⟨Hi2, e1, S2, _⟩ := k od1 od2
  refine h B Hi2 _ σ _ takes_no S2 (fun _ _ _ z => z.elim) _ fun b Hi' H' hz g => ?_
  obtain ⟨a1, a2, a3⟩ := lay_back S.sub h_s sm h_m g.o
  exact ⟨a1, a2, q b Hi _ hz a3⟩
/-- a list of texts comes out -/
theorem qx_peekS (i : Nat) (hi : ρ[i]? = some (.alb ro A)) (hp : A.past ≠ []) (h : QX X bot e (ρ.set i (.dat A.d)) fun z => (∃ ks : List Str, z = .lst (ks.map D.str)) ∧ Φ z) : QX X Ψ e ρ Φ := fun B Hi H σ W tk S rs Q q => by
  obtain ⟨F, ms⟩ := S.mo.ex
  obtain ⟨s, m, kS, kM, h_s, sm, h_m, k⟩ := alb_lay S ms hi
  refine wE.lock h_s trivial fun od1 => wE.lock (d := m) (u := .dK kM) (by rw [upd_ne sm.symm]; exact h_m) trivial fun od2 => ?_
  obtain ⟨Hi2, e1, S2, kl⟩ := k od1 od2
  refine h B Hi2 _ σ _ takes_no S2 (fun _ _ _ z => z.elim) _ fun v d Hi' H' hz g r => ?_
  obtain ⟨a1, a2, a3⟩ := lay_back S.sub h_s sm h_m g.o
  refine ⟨a1, a2, ?_⟩
  obtain ⟨⟨ks, rfl⟩, hz⟩ := hz
  cases r with
  | @lst c xs _ hs ha =>
    obtain rfl := rpA_str_inv ha
    cases q1 : Hi c with
    | some u =>
      have e2 := g.i c u (e1 c u q1)
      rw [hs] at e2
      cases e2
      exact q _ _ Hi _ hz a3 (.lst q1 rpA_str)
    | none =>
      cases q2 : Hi2 c with
      | some u =>
        have e2 := g.i c u q2
        rw [hs] at e2
        cases e2
        rcases kl c _ q2 with z | ⟨z1, z2⟩
        · rw [q1] at z; cases z
        · exfalso
          cases ks with
          | nil => exact hp (List.eq_nil_of_length_eq_zero z1.symm)
          | cons x y =>
            obtain ⟨t, z⟩ := z2 (.str x) (by simp)
            cases z
      | none =>
        have hn := g.new c q2 ⟨_, hs⟩
        have cs : c ≠ s := fun z => by rw [z, upd_ne sm, upd_same] at hn; cases hn
        have cm : c ≠ m := fun z => by rw [z, upd_same] at hn; cases hn
        have hn2 : H c = none := by rw [upd_ne cm, upd_ne cs] at hn; exact hn
        refine q _ _ (upd Hi c (.lst (ks.map V.str))) _ hz ⟨Ex.new q1, a3.o, fun d u z => ?_, fun d z1 ⟨u, z2⟩ => ?_⟩ (.lst upd_same rpA_str)
        · by_cases w : d = c
          · subst w
            rw [upd_same] at z
            cases z
            rw [upd_ne cs, upd_ne cm]
            exact g.sub _ _ hs
          · rw [upd_ne w] at z; exact a3.sub d u z
        · by_cases w : d = c
          · subst w; exact hn2
          · rw [upd_ne w, z1] at z2; cases z2
def botX (m : M) : M := fun Φ _ => m Φ bot
def botT (m : MB) : MB := fun Θ _ => m Θ bot
theorem sx_peekA (i : Nat) (hi : ρ[i]? = some (.alb ro A)) (he : SX X e (ρ.set i (.dat A.d)) m) : SX X e ρ (flatM (botX m)) := ⟨fun h => qx_peekA i hi (he.run h)⟩
theorem st_peekA (i : Nat) (hi : ρ[i]? = some (.alb ro A)) (he : ST X e (ρ.set i (.dat A.d)) mt) : ST X e ρ (botT mt) := ⟨fun h => qt_peekA i hi (he.run h)⟩
/-! ### methods that change it -/
abbrev SpO := Alb → List D → (Alb → D → Prop) → Prop
def spO (K : PySem.W.Frag) (n : Nat) (S : SpO) : Sp := fun vs H Q _ => ∃ (a : Addr) (us : List V) (Hi Hj O : Hp) (ds : List D) (A : Alb) (Φ : Alb → D → Prop), vs = .ref a :: us ∧ us.length = n ∧ Ex Hi H ∧ Ex O H ∧ (∀ c u, O c = some u → Hi c = none) ∧ Ex Hj Hi ∧ AlbC K Hj O a A ∧ RpA K Hi us ds ∧ S A ds Φ ∧
  ∀ v d A' Hi' H' O', Φ A' d → GrO Hi H O Hi' H' O' → AlbC K Hi' O' a A' → Rp K Hi' v d → Q v H'
def MthO (P : Program) (w : World) (K : PySem.W.Frag) (mg : Str → Option Value) (base : Heap) (m : Str) (k n : Nat) (S : SpO) : Prop :=
  (∀ A ds Φ, S A ds Φ → ds.length = n) ∧ AlbK K ∧ ∃ (f : Addr) (fd : FuncData) (ps : List Str), Meth K (albC K) m f ∧ Binds K fd ps [] ∧ FnOk P w K mg base (L2.CX P w) k f fd ps (spO K n S)
/-- own again behind a call -/
theorem albX_of {K : PySem.W.Frag} {Hj O : Hp} {a : Addr} {A : Alb} (h : AlbC K Hj O a A) (hr : ∀ b, ro = some b → a = b) : albX ro A K Hj (.ref a) O := ⟨a, rfl, hr, h⟩
/-- x.m() of one's own album -/
theorem qs_own0 {pl : Sem Bool} {x mn : Str} {k : Nat} {S : SpO} (i : Nat) (F : MthO X.prog X.w X.K X.mg X.base mn k 0 S) (hr : Room k X.A) (hi : ρ[i]? = some (.alb ro A)) {Φo : Alb → D → Prop} (h : S A [] Φo) (hq : ∀ A' d, Φo A' d → QS X Ψ rest (ρ.set i (.alb ro A')) R)
    (hs : swapsWith (.Call (.Attribute (.Name x p) mn apos) [] [] cpos) none pos.line X.env = pure false) (hf : noF mn = true)
    (ht : eval (.Call (.Attribute (.Name x p) mn apos) [] [] cpos) X.env = (do
      let ov ← eval (.Name x p) X.env
      standAt apos.atName
      let (f, first) ← holding [ov] (getMethod ov mn pl)
      callWith cpos f first (backTo cpos (starEach [] X.env)) (backToKw cpos (keywordEach [] X.env))))
    (hN : X.N[i]? = some x) (hv : Vis X.env.scope x) (hd : (x == ("__debug__" : Str)) = false := by decide) (hcd : (x == ("__classdict__" : Str)) = false := by decide) :
    QS X Ψ (.Expr (.Call (.Attribute (.Name x p) mn apos) [] [] cpos) pos :: rest) ρ R :=
  fun Bi B Hi H σ Dn W tk g S0 rb N => by
    obtain ⟨hn, ak, f, fd, ps, mth, bd, ok⟩ := F
    obtain ⟨F, ms⟩ := S0.mo.ex
    obtain ⟨v, Hj, hv2, ej, a, rfl, hro, al⟩ := ms.at_ i _ hi
    have al2 := al
    obtain ⟨dx, sa, m, pp, es, alp⟩ := al2
    have cell := ms.cell i _ hi
    refine wSs.cons (ps_expr (pe_methQ0 (E := L2.WE W) (pe_var hN hv hd hcd) ak.cls mth ok hr bd (fun σ => passAt tk σ) ht) hs) ⟨_, hv2, a, dx, _, rfl, (cell a _ alp.ins).2.2, noF_of hf, ?_⟩
    refine ⟨a, [], Hi, Hj, F i, [], A, _, rfl, rfl, S0.sub, fun c u z => (cell c u z).2.2, fun c u z => (cell c u z).2.1, ej, al, .nil, h, fun v d A' Hi' H' O' hz go al' _ => ?_⟩
    exact hq A' d hz Bi B Hi' H' σ Dn W tk (go.gr ms hi g) (S0.mcall ms hi g.o go hv2 (albX_of al' hro)) rb N
theorem qs_own {pl : Sem Bool} {x mn : Str} {k n : Nat} {S : SpO} (i : Nat) (F : MthO X.prog X.w X.K X.mg X.base mn k n S) (hr : Room k X.A) (hi : ρ[i]? = some (.alb ro A)) {Φo : Alb → D → Prop} (h : QA X Ψ (e :: es) ρ fun ds => S A ds Φo) (hq : ∀ A' d, Φo A' d → QS X Ψ rest (ρ.set i (.alb ro A')) R)
    (hs : swapsWith (.Call (.Attribute (.Name x p) mn apos) (e :: es) [] cpos) none pos.line X.env = pure false) (hf : noF mn = true)
    (hst : starEach (e :: es) X.env = (false, eval e X.env) :: starEach es X.env) (hpl : (backTo cpos (starEach es X.env)).any (·.1) = false)
    (ht : eval (.Call (.Attribute (.Name x p) mn apos) (e :: es) [] cpos) X.env = (do
      let ov ← eval (.Name x p) X.env
      standAt apos.atName
      let (f, first) ← holding [ov] (getMethod ov mn pl)
      callWith cpos f first (backTo cpos (starEach (e :: es) X.env)) (backToKw cpos (keywordEach [] X.env))))
    (hN : X.N[i]? = some x) (hv : Vis X.env.scope x) (hd : (x == ("__debug__" : Str)) = false := by decide) (hcd : (x == ("__classdict__" : Str)) = false := by decide) :
    QS X Ψ (.Expr (.Call (.Attribute (.Name x p) mn apos) (e :: es) [] cpos) pos :: rest) ρ R :=
  fun Bi B Hi H σ Dn W tk g S0 rb N => by
    obtain ⟨hn, ak, f, fd, ps, mth, bd, ok⟩ := F
    obtain ⟨F0, ms0⟩ := S0.mo.ex
    obtain ⟨v0, Hj0, hv0, ej0, a0, rfl, hro0, dx0, sa0, m0, pp0, es0, alp0⟩ := ms0.at_ i _ hi
    refine wSs.cons (ps_expr (pe_methQ (E := L2.WE W) (pe_var hN hv hd hcd) ak.cls mth ok hr bd (fun σ => passAt tk σ) pa_w hst hpl ht) hs) ⟨_, hv0, a0, dx0, _, rfl, (ms0.cell i _ hi a0 _ alp0.ins).2.2, noF_of hf, ?_⟩
    refine h B Hi H σ W tk S0 (rb.rs g σ) _ fun vs ds Hi1 H1 z g1 r1 => ?_
    have S1 := S0.grow g1
    obtain ⟨F, ms⟩ := S1.mo.ex
    obtain ⟨v, Hj, hv2, ej, a, rfl, hro, al⟩ := ms.at_ i _ hi
    have ea : a0 = a := by rw [hv0] at hv2; cases hv2; rfl
    subst ea
    have cell := ms.cell i _ hi
    refine ⟨a0, vs, Hi1, Hj, F i, ds, A, _, rfl, by rw [r1.length]; exact hn _ _ _ z, S1.sub, fun c u z => (cell c u z).2.2, fun c u z => (cell c u z).2.1, ej, al, r1, z, fun v d A' Hi' H' O' hz go al' _ => ?_⟩
    have g2 := g.trans g1
    exact hq A' d hz Bi B Hi' H' σ Dn W tk (go.gr ms hi g2) (S1.mcall ms hi g2.o go hv2 (albX_of al' hro)) rb N
end
end G
/-! A5: the bodies of the methods that change the album; the album is made -/
namespace G
open PySem PySem.Spec L2 PyProof.Rows
section
variable {K : PySem.W.Frag} {B Hi H Hi' H' Hj Hj' O O' : Hp} {σ : L2.St} {ρ : List Sl} {A : Alb} {ro : Option Addr} {a dx s m p : Addr} {es : List (Addr × Addr × Addr)}
theorem MoS.grow {F : Nat → Hp} (h : MoS K B Hi H σ ρ F) (g : Gr Hi H Hi' H') : MoS K B Hi' H' σ ρ F := by
  refine ⟨fun j m e => ?_, fun j m e c u z => ?_, h.cl, h.mo⟩
  · obtain ⟨v, Hj, a, b, c⟩ := h.at_ j m e
    exact ⟨v, Hj, a, b.trans g.i, c⟩
  · obtain ⟨a, b, d⟩ := h.cell j m e c u z
    refine ⟨a, ?_, g.o _ _ d⟩
    cases q : Hi' c with
    | none => rfl
    | some u => rw [g.new c b ⟨u, q⟩] at d; cases d
/-- a slot takes a new thing of many cells -/
theorem StOk.newM {i : Nat} {mm : Mc} {v : V} {H2 : Hp} (S : StOk K B Hi H σ ρ) (bh : Ex B H) (e : Ex H H2) (hO : ∀ c u, O c = some u → H c = none ∧ H2 c = some u) (hm : mm K Hi v O) : StOk K B Hi H2 (σ.set i (some v)) (ρ.set i (.mo mm)) := by
  have S1 := S.grow (Gr.out S.sub e)
  refine ⟨S1.sub, by simp [S.len], at_set S.len trivial fun j x s hj p q => S1.at_ j x s p q, sep_set S.sep S.len (fun h => nomatch h), ?_⟩
  by_cases il : i < ρ.length
  · obtain ⟨F, ms0⟩ := S.mo.ex
    have ms := ms0.grow (Gr.out S.sub e)
    refine ⟨fun j => if j = i then O else F j, fun j m e => ?_, fun j m e c u z => ?_, fun j m k f c u e1 e2 z => ?_, fun j m k m2 c u e1 e2 n z => ?_⟩
    · by_cases q : i = j
      · subst q
        rw [List.getElem?_set_self il] at e
        cases e
        exact ⟨v, Hi, by rw [List.getElem?_set_self (by rw [S.len]; exact il)], Ex.refl _, by rw [if_pos rfl]; exact hm⟩
      · rw [List.getElem?_set_ne q] at e
        obtain ⟨v, Hj, a1, a2, a3⟩ := ms.at_ j m e
        exact ⟨v, Hj, by rw [List.getElem?_set_ne q]; exact a1, a2, by rw [if_neg fun z => q z.symm]; exact a3⟩
    · by_cases q : i = j
      · subst q
        rw [if_pos rfl] at z
        obtain ⟨h1, h2⟩ := hO c u z
        exact ⟨bh.free h1, S.sub.free h1, h2⟩
      · rw [List.getElem?_set_ne q] at e
        rw [if_neg fun z => q z.symm] at z
        exact ms.cell j m e c u z
    · by_cases q2 : i = k
      · subst q2; rw [List.getElem?_set_self il] at e2; cases e2
      · rw [List.getElem?_set_ne q2] at e2 ⊢
        by_cases q : i = j
        · subst q
          rw [if_pos rfl] at z
          intro hs
          obtain ⟨c', o2, ev, b2, n2, x2, _⟩ := S.own e2
          rw [hs] at ev
          cases ev
          rw [(hO c u z).1] at x2; cases x2
        · rw [List.getElem?_set_ne q] at e1
          rw [if_neg fun z => q z.symm] at z
          exact ms.cl j m k f c u e1 e2 z
    · by_cases q : i = j
      · subst q
        rw [List.getElem?_set_ne n] at e2
        rw [if_pos rfl] at z
        rw [if_neg fun z => n z.symm]
        cases q3 : F k c with
        | none => rfl
        | some w => have := (ms0.cell k m2 e2 c w q3).2.2; rw [(hO c u z).1] at this; cases this
      · rw [List.getElem?_set_ne q] at e1
        rw [if_neg fun z => q z.symm] at z
        by_cases q2 : i = k
        · subst q2
          rw [if_pos rfl]
          cases q3 : O c with
          | none => rfl
          | some w => have := (ms0.cell j m e1 c u z).2.2; rw [(hO c w q3).1] at this; cases this
        · rw [List.getElem?_set_ne q2] at e2
          rw [if_neg fun z => q2 z.symm]
          exact ms.mo j m k m2 c u e1 e2 n z
  · rw [List.set_eq_of_length_le (by rw [S.len]; omega), List.set_eq_of_length_le (by omega)]
    exact S1.mo
/-! ### dicts of texts are changed -/
def tPut (S : TD) (n : Str) (d : D) : TD := if (S.any fun q => decide (q.1 = n)) = true then S.map (fun q => if q.1 = n then (q.1, d) else q) else S ++ [(n, d)]
theorem inr_any {kvs : List (L2.Key × V)} {S : TD} {n : Str} (h : kvs.map (·.1) = S.map (fun q => Sum.inr q.1)) : (kvs.any fun kv => decide (kv.1 = Sum.inr n)) = (S.any fun q => decide (q.1 = n)) := by
  have e1 : (kvs.any fun kv => decide (kv.1 = Sum.inr n)) = ((kvs.map (·.1)).any fun k => decide (k = Sum.inr n)) := by rw [List.any_map]; rfl
  rw [e1, h, List.any_map]
  congr 1
  funext q
  simp
theorem td_map {v : V} {d : D} {n : Str} (r : Rp K Hj v d) : ∀ {kvs : List (L2.Key × V)} {S : TD}, kvs.map (·.1) = S.map (fun q => (Sum.inr q.1 : L2.Key)) → RpA K Hj (kvs.map (·.2)) (S.map (·.2)) →
    (kvs.map fun kv => if kv.1 = Sum.inr n then (kv.1, v) else kv).map (·.1) = (S.map fun q => if q.1 = n then (q.1, d) else q).map (fun q => (Sum.inr q.1 : L2.Key)) ∧ RpA K Hj ((kvs.map fun kv => if kv.1 = Sum.inr n then (kv.1, v) else kv).map (·.2)) ((S.map fun q => if q.1 = n then (q.1, d) else q).map (·.2))
  | [], [], _, _ => ⟨rfl, .nil⟩
  | [], _ :: _, e, _ => by cases e
  | _ :: _, [], e, _ => by cases e
  | q :: kvs, t :: S, e, h => by
    rw [List.map_cons, List.map_cons, List.cons.injEq] at e
    rw [List.map_cons, List.map_cons] at h
    cases h with
    | cons h1 h2 =>
      obtain ⟨i1, i2⟩ := td_map (n := n) r e.2 h2
      by_cases c : t.1 = n
      · have c2 : q.1 = Sum.inr n := by rw [e.1, c]
        simp only [List.map_cons, if_pos c, if_pos c2]
        exact ⟨by rw [i1, e.1], .cons r i2⟩
      · have c2 : ¬ q.1 = Sum.inr n := fun z => c (Sum.inr.inj (e.1.symm.trans z))
        simp only [List.map_cons, if_neg c, if_neg c2]
        exact ⟨by rw [i1, e.1], .cons h1 i2⟩
theorem TdAt.put {kvs : List (L2.Key × V)} {S : TD} {n : Str} {v : V} {d : D} (h1 : kvs.map (·.1) = S.map (fun q => Sum.inr q.1)) (h2 : RpA K Hj (kvs.map (·.2)) (S.map (·.2))) (r : Rp K Hj v d) (ho : O s = some (.dK (putK kvs (Sum.inr n) v))) : TdAt K Hj O s (tPut S n d) := by
  refine ⟨_, ho, ?_⟩
  unfold putK tPut
  rw [inr_any h1]
  by_cases c : (S.any fun q => decide (q.1 = n)) = true
  · rw [if_pos c, if_pos c]
    exact td_map r h1 h2
  · rw [if_neg c, if_neg c]
    refine ⟨by rw [List.map_append, List.map_append, h1]; rfl, ?_⟩
    rw [List.map_append, List.map_append]
    exact h2.app (.cons r .nil)
theorem td_len {kvs : List (L2.Key × V)} {S : TD} (h : kvs.map (·.1) = S.map (fun q => (Sum.inr q.1 : L2.Key))) : kvs.length = S.length := by
  have e := congrArg List.length h
  rw [List.length_map, List.length_map] at e
  exact e
/-- the stock's dict changes -/
theorem AlbP.putS {kS : List (L2.Key × V)} {S' : TD} {u : HO} (h : AlbP K Hj O a A dx s m p es) (e : Ex Hj Hj') (hs : O s = some (.dK kS)) (t : TdAt K Hj' (upd O s u) s S') : AlbP K Hj' (upd O s u) a { A with st := S' } dx s m p es := by
  have nd := h.nd
  rw [List.nodup_cons, List.nodup_cons] at nd
  have ne : ∀ c o, O c = some o → (∀ k, o ≠ .dK k) → c ≠ s := fun c o h1 h2 z => by rw [z, hs] at h1; cases h1; exact h2 _ rfl
  refine ⟨?_, ?_, t, h.ma.to e (upd_ne fun z => nd.1 (by rw [z]; exact List.mem_cons_self)), ?_, h.past.to e (fun c ⟨l, hc⟩ => upd_ne (ne c _ hc fun k z => nomatch z)) (fun c hc => upd_ne fun z => nd.1 (by rw [← z]; exact List.mem_cons_of_mem _ hc)), h.nd⟩
  · rw [upd_ne (ne _ _ h.ins fun k z => nomatch z)]; exact h.ins
  · rw [upd_ne (ne _ _ h.own fun k z => nomatch z)]; exact h.own
  · rw [upd_ne (ne _ _ h.lst fun k z => nomatch z)]; exact h.lst
theorem AlbP.putM {kM : List (L2.Key × V)} {S' : TD} {u : HO} (h : AlbP K Hj O a A dx s m p es) (e : Ex Hj Hj') (hs : O m = some (.dK kM)) (t : TdAt K Hj' (upd O m u) m S') : AlbP K Hj' (upd O m u) a { A with ma := S' } dx s m p es := by
  have nd := h.nd
  rw [List.nodup_cons, List.nodup_cons] at nd
  have ne : ∀ c o, O c = some o → (∀ k, o ≠ .dK k) → c ≠ m := fun c o h1 h2 z => by rw [z, hs] at h1; cases h1; exact h2 _ rfl
  refine ⟨?_, ?_, h.st.to e (upd_ne fun z => nd.1 (by rw [z]; exact List.mem_cons_self)), t, ?_, h.past.to e (fun c ⟨l, hc⟩ => upd_ne (ne c _ hc fun k z => nomatch z)) (fun c hc => upd_ne fun z => nd.2.1 (by rw [← z]; exact hc)), h.nd⟩
  · rw [upd_ne (ne _ _ h.ins fun k z => nomatch z)]; exact h.ins
  · rw [upd_ne (ne _ _ h.own fun k z => nomatch z)]; exact h.own
  · rw [upd_ne (ne _ _ h.lst fun k z => nomatch z)]; exact h.lst
end
section
variable {X : Cx} {Ψ : Str → Prop} {ρ : List Sl} {R : Po} {Φ : D → Prop} {Θ : Bool → Prop} {a b c e o idx value : Expr} {es : List Expr} {pos p p1 p2 p3 apos cpos : Pos} {ma mb mc m : M} {mt : MB} {rest : List Stmt} {A : Alb} {ro : Option Addr} {x : Str}
/-- self.stock[n] = d -/
theorem qs_fputS (i : Nat) (hu : X.A.units + 65 < cLine) (ak : AlbK X.K) (hi : ρ[i]? = some (.alb ro A)) (h : QX X Ψ value ρ fun d => QX X Ψ idx ρ fun k => ∃ n : Str, k = .str n ∧ A.st.length ≤ 100000 ∧ QS X Ψ rest (ρ.set i (.alb ro { A with st := tPut A.st n d })) R)
    (hs : swapsWith value (some (.Subscript (.Attribute (.Name x p1) "stock" p2) idx p3)) pos.line X.env = pure false)
    (hb : attributeBase (.Name x p1) "stock" X.env (eval (.Name x p1) X.env) = eval (.Name x p1) X.env)
    (hN : X.N[i]? = some x) (hv : Vis X.env.scope x) (hd : (x == ("__debug__" : Str)) = false := by decide) (hcd : (x == ("__classdict__" : Str)) = false := by decide) :
    QS X Ψ (.Assign [.Subscript (.Attribute (.Name x p1) "stock" p2) idx p3] value pos :: rest) ρ R :=
  fun Bi B Hi H σ Dn W tk g S0 rb N => wSs.cons (ps_dput (by omega) (pe_fld (pe_var hN hv hd hcd) hb) pe_w pe_w hs) (h B Hi H σ W tk S0 (rb.rs g σ) _ fun v d Hi1 H1 z g1 r1 => by
    have S1 := S0.grow g1
    obtain ⟨F, ms⟩ := S1.mo.ex
    obtain ⟨v0, Hj, hv2, ej, a, rfl, hro, dx, s, m, pp, es, al⟩ := ms.at_ i _ hi
    refine ⟨_, hv2, a, _, dx, _, _, rfl, (ms.cell i _ hi a _ al.ins).2.2, ak.cls, ak.nst, rfl, z B Hi1 H1 σ W tk S1 ((rb.rs g σ).grow g1) _ fun y k Hi2 H2 z2 g2 r2 => ?_⟩
    obtain ⟨n, rfl, hl, z2⟩ := z2
    cases r2
    have S2 := S1.grow g2
    have ms2 := ms.grow g2
    obtain ⟨kS, s1, s2, s3⟩ := al.st
    have cell := ms2.cell i _ hi
    have es_ : Ex Hj Hi2 := ej.trans g2.i
    refine ⟨s, _, rfl, DPut.k (k := Sum.inr n) (cell s _ s1).2.2 (by rw [td_len s2]; exact Nat.lt_of_le_of_lt hl (by decide)), ?_⟩
    have g0 := (g.trans g1).trans g2
    have go := (GrO.refl S2.sub (fun c u z => (cell c u z).2.2) fun c u z => (cell c u z).2.1).put (c := s) (o := .dK (putK kS (Sum.inr n) v)) (.inl ⟨_, s1⟩)
    exact z2 Bi B Hi2 _ σ Dn W tk (go.gr ms2 hi g0) (S2.mcall ms2 hi g0.o go hv2 ⟨a, rfl, hro, dx, s, m, pp, es, al.putS es_ s1 (TdAt.put s2 (s3.up es_) (r1.up g2.i) upd_same)⟩) rb N)
/-- self.marks[n] = d -/
theorem qs_fputM (i : Nat) (hu : X.A.units + 65 < cLine) (ak : AlbK X.K) (hi : ρ[i]? = some (.alb ro A)) (h : QX X Ψ value ρ fun d => QX X Ψ idx ρ fun k => ∃ n : Str, k = .str n ∧ A.ma.length ≤ 100000 ∧ QS X Ψ rest (ρ.set i (.alb ro { A with ma := tPut A.ma n d })) R)
    (hs : swapsWith value (some (.Subscript (.Attribute (.Name x p1) "marks" p2) idx p3)) pos.line X.env = pure false)
    (hb : attributeBase (.Name x p1) "marks" X.env (eval (.Name x p1) X.env) = eval (.Name x p1) X.env)
    (hN : X.N[i]? = some x) (hv : Vis X.env.scope x) (hd : (x == ("__debug__" : Str)) = false := by decide) (hcd : (x == ("__classdict__" : Str)) = false := by decide) :
    QS X Ψ (.Assign [.Subscript (.Attribute (.Name x p1) "marks" p2) idx p3] value pos :: rest) ρ R :=
  fun Bi B Hi H σ Dn W tk g S0 rb N => wSs.cons (ps_dput (by omega) (pe_fld (pe_var hN hv hd hcd) hb) pe_w pe_w hs) (h B Hi H σ W tk S0 (rb.rs g σ) _ fun v d Hi1 H1 z g1 r1 => by
    have S1 := S0.grow g1
    obtain ⟨F, ms⟩ := S1.mo.ex
    obtain ⟨v0, Hj, hv2, ej, a, rfl, hro, dx, s, m, pp, es, al⟩ := ms.at_ i _ hi
    refine ⟨_, hv2, a, _, dx, _, _, rfl, (ms.cell i _ hi a _ al.ins).2.2, ak.cls, ak.nmk, rfl, z B Hi1 H1 σ W tk S1 ((rb.rs g σ).grow g1) _ fun y k Hi2 H2 z2 g2 r2 => ?_⟩
    obtain ⟨n, rfl, hl, z2⟩ := z2
    cases r2
    have S2 := S1.grow g2
    have ms2 := ms.grow g2
    obtain ⟨kS, s1, s2, s3⟩ := al.ma
    have cell := ms2.cell i _ hi
    have es_ : Ex Hj Hi2 := ej.trans g2.i
    refine ⟨m, _, rfl, DPut.k (k := Sum.inr n) (cell m _ s1).2.2 (by rw [td_len s2]; exact Nat.lt_of_le_of_lt hl (by decide)), ?_⟩
    have g0 := (g.trans g1).trans g2
    have go := (GrO.refl S2.sub (fun c u z => (cell c u z).2.2) fun c u z => (cell c u z).2.1).put (c := m) (o := .dK (putK kS (Sum.inr n) v)) (.inl ⟨_, s1⟩)
    exact z2 Bi B Hi2 _ σ Dn W tk (go.gr ms2 hi g0) (S2.mcall ms2 hi g0.o go hv2 ⟨a, rfl, hro, dx, s, m, pp, es, al.putM es_ s1 (TdAt.put s2 (s3.up es_) (r1.up g2.i) upd_same)⟩) rb N)
/-- self.past.append((dict(self.stock), dict(self.marks))) -/
theorem qs_begin (i : Nat) {q1 q2 q3 q4 q5 q6 q7 q8 q9 q10 q11 q12 : Pos} {kk : Nat} (ak : AlbK X.K) (hm : X.mg "dict" = none) (hi : ρ[i]? = some (.alb ro A)) (hl : A.past.length ≤ 100000) (h : QS X Ψ rest (ρ.set i (.alb ro { A with past := (A.st, A.ma) :: A.past })) R)
    (hs : swapsWith (.Call (.Attribute (.Attribute (.Name x q1) "past" q2) "append" q3) [.Tuple [.Call (.Name "dict" q4) [.Attribute (.Name x q5) "stock" q6] [] q7, .Call (.Name "dict" q8) [.Attribute (.Name x q9) "marks" q10] [] q11] kk q12] [] cpos) none pos.line X.env = pure false := by rfl)
    (hb1 : attributeBase (.Name x q1) "past" X.env (eval (.Name x q1) X.env) = eval (.Name x q1) X.env := by rfl)
    (hb2 : attributeBase (.Name x q5) "stock" X.env (eval (.Name x q5) X.env) = eval (.Name x q5) X.env := by rfl)
    (hb3 : attributeBase (.Name x q9) "marks" X.env (eval (.Name x q9) X.env) = eval (.Name x q9) X.env := by rfl)
    (hb4 : attributeBase (.Attribute (.Name x q1) "past" q2) "append" X.env (eval (.Attribute (.Name x q1) "past" q2) X.env) = eval (.Attribute (.Name x q1) "past" q2) X.env := by rfl)
    (hg : Gl X "dict" := by rfl) (hline : (q3.endLine == cpos.line) = true := by rfl)
    (hfew : ((backTo cpos (starEach [.Tuple [.Call (.Name "dict" q4) [.Attribute (.Name x q5) "stock" q6] [] q7, .Call (.Name "dict" q8) [.Attribute (.Name x q9) "marks" q10] [] q11] kk q12] X.env)).all (fun x => !x.1) && (backToKw cpos (keywordEach [] X.env)).all (fun x => x.1.isSome)
      && decide (([.Tuple [.Call (.Name "dict" q4) [.Attribute (.Name x q5) "stock" q6] [] q7, .Call (.Name "dict" q8) [.Attribute (.Name x q9) "marks" q10] [] q11] kk q12] : List Expr).length + ([] : List Keyword).length + (if ([] : List Keyword).isEmpty then 0 else 1) < 30)) = true := by rfl)
    (hN : X.N[i]? = some x := by rfl) (hv : Vis X.env.scope x := by first | exact Or.inl rfl | exact Or.inr (Or.inl rfl) | exact Or.inr (Or.inr rfl)) (hd : (x == ("__debug__" : Str)) = false := by decide) (hcd : (x == ("__classdict__" : Str)) = false := by decide) :
    QS X Ψ (.Expr (.Call (.Attribute (.Attribute (.Name x q1) "past" q2) "append" q3) [.Tuple [.Call (.Name "dict" q4) [.Attribute (.Name x q5) "stock" q6] [] q7, .Call (.Name "dict" q8) [.Attribute (.Name x q9) "marks" q10] [] q11] kk q12] [] cpos) pos :: rest) ρ R :=
  fun Bi B Hi H σ Dn W tk g S rb N => by
    obtain ⟨Fm, ms⟩ := S.mo.ex
    obtain ⟨v0, Hj, hv2, ej, a, rfl, hro, dx, s, m, pp, es, al⟩ := ms.at_ i _ hi
    have cell := ms.cell i _ hi
    obtain ⟨kS, s1, s2, s3⟩ := al.st
    obtain ⟨kM, m1, m2, m3⟩ := al.ma
    have ha := (cell a _ al.ins).2.2
    have h_s := (cell s _ s1).2.2
    have h_m := (cell m _ m1).2.2
    have h_p := (cell pp _ al.lst).2.2
    refine wSs.cons (ps_expr (pe_bm PySem.F.plainAttrs_list PySem.F.slot_list_append PySem.F.type_list_append mt_append (pe_fld (pe_var hN hv hd hcd) hb1)
      (pa_cons (pe_tup (pa_cons (pe_callTy call_dictD hg hm (by decide +kernel) (pa_cons (pe_fld (pe_var hN hv hd hcd) hb2) pa_nil (se_of rfl)) (by decide) (by decide) (se_of rfl) rfl) (pa_cons (pe_callTy call_dictD hg hm (by decide +kernel) (pa_cons (pe_fld (pe_var hN hv hd hcd) hb3) pa_nil (se_of rfl)) (by decide) (by decide) (se_of rfl) rfl) pa_nil (se_of rfl)) (se_of rfl))) pa_nil (se_of rfl)) hb4 hfew hline (se_of rfl) rfl) hs) ?_
    refine ⟨_, hv2, a, _, dx, _, _, rfl, ha, ak.cls, ak.nps, rfl, .inl ⟨rfl, _, SqL.of h_p⟩, ?_⟩
    refine ⟨_, hv2, a, _, dx, _, _, rfl, ha, ak.cls, ak.nst, rfl, s, kS, rfl, .inl h_s, fun d1 n1 => ?_⟩
    have ha1 : upd H d1 (.dK kS) a = _ := (upd_ne (ne_of_none ha n1)).trans ha
    have hm1 : upd H d1 (.dK kS) m = _ := (upd_ne (ne_of_none h_m n1)).trans h_m
    refine ⟨_, hv2, a, _, dx, _, _, rfl, ha1, ak.cls, ak.nmk, rfl, m, kM, rfl, .inl hm1, fun d2 n2 => ?_⟩
    refine ⟨by show 2 ≤ sizeLine; decide, fun t n3 => ?_⟩
    have n2' : d2 ≠ d1 := fun z => by rw [z, upd_same] at n2; cases n2
    have n2h : H d2 = none := by rw [upd_ne n2'] at n2; exact n2
    have t2 : t ≠ d2 := fun z => by rw [z, upd_same] at n3; cases n3
    have t1 : t ≠ d1 := fun z => by rw [z, upd_ne n2'.symm, upd_same] at n3; cases n3
    have n3h : H t = none := by rw [upd_ne t2, upd_ne t1] at n3; exact n3
    have fr : ∀ c o, Fm i c = some o → c ≠ d1 ∧ c ≠ d2 ∧ c ≠ t := fun c o z => by
      have w := (cell c o z).2.2
      exact ⟨ne_of_none w n1, ne_of_none w n2h, ne_of_none w n3h⟩
    obtain ⟨p1, p2, p3⟩ := fr pp _ al.lst
    have hp4 : upd (upd (upd H d1 (.dK kS)) d2 (.dK kM)) t (.tup [.ref d1, .ref d2]) pp = some (.lst (es.map fun e => V.ref e.1).reverse) := by rw [upd_ne p3, upd_ne p2, upd_ne p1]; exact h_p
    have hlen := al.past.len
    refine ⟨pp, _, _, rfl, rfl, hp4, by rw [List.length_reverse, List.length_map, hlen]; exact Nat.lt_of_le_of_lt hl (by decide), ?_⟩
    have go := ((((GrO.refl S.sub (fun c u z => (cell c u z).2.2) fun c u z => (cell c u z).2.1).put (c := d1) (o := .dK kS) (.inr n1)).put (c := d2) (o := .dK kM) (.inr n2)).put (c := t) (o := .tup [.ref d1, .ref d2]) (.inr n3)).put (c := pp) (o := .lst ((es.map fun e => V.ref e.1).reverse ++ [.ref t]))
      (.inl ⟨.lst (es.map fun e => V.ref e.1).reverse, by rw [upd_ne p3, upd_ne p2, upd_ne p1]; exact al.lst⟩)
    refine h Bi B Hi _ σ Dn W tk (go.gr ms hi g) (S.mcall ms hi g.o go hv2 ⟨a, rfl, hro, dx, s, m, pp, (t, d1, d2) :: es, ?_⟩) rb N
    have key : ∀ c o, Fm i c = some o → c ≠ pp → upd (upd (upd (upd (Fm i) d1 (.dK kS)) d2 (.dK kM)) t (.tup [.ref d1, .ref d2])) pp (.lst ((es.map fun e => V.ref e.1).reverse ++ [.ref t])) c = Fm i c := fun c o z hc => by
      obtain ⟨c1, c2, c3⟩ := fr c o z
      rw [upd_ne hc, upd_ne c3, upd_ne c2, upd_ne c1]
    have npp : ∀ c o, Fm i c = some o → (∀ l, o ≠ .lst l) → c ≠ pp := fun c o z hz e => by rw [e, al.lst] at z; cases z; exact hz _ rfl
    have kd : ∀ c ∈ dsOf es, ∃ kvs, Fm i c = some (.dK kvs) := al.past.dk
    have nd := al.nd
    refine ⟨(key a _ al.ins (npp _ _ al.ins fun l z => nomatch z)).trans al.ins, (key dx _ al.own (npp _ _ al.own fun l z => nomatch z)).trans al.own, al.st.to ej (key s _ s1 (npp _ _ s1 fun l z => nomatch z)), al.ma.to ej (key m _ m1 (npp _ _ m1 fun l z => nomatch z)), ?_, ⟨?_, ⟨kS, ?_, s2, s3.up ej⟩, ⟨kM, ?_, m2, m3.up ej⟩, al.past.to ej (fun c ⟨l, hc⟩ => key c _ hc (npp _ _ hc fun l z => nomatch z)) (fun c hc => by obtain ⟨k, hk⟩ := kd c hc; exact key c _ hk (npp _ _ hk fun l z => nomatch z))⟩, ?_⟩
    · rw [upd_same, List.map_cons, List.reverse_cons]
    · rw [upd_ne p3.symm, upd_same]
    · rw [upd_ne p1.symm, upd_ne t1.symm, upd_ne n2'.symm, upd_same]
    · rw [upd_ne p2.symm, upd_ne t2.symm, upd_same]
    · show (s :: m :: d1 :: d2 :: dsOf es).Nodup
      rw [List.nodup_cons, List.nodup_cons] at nd
      have f1 : ∀ c, (∃ k, Fm i c = some (HO.dK k)) → c ≠ d1 ∧ c ≠ d2 := fun c ⟨k, hk⟩ => ⟨(fr c _ hk).1, (fr c _ hk).2.1⟩
      obtain ⟨a1, a2⟩ := f1 s ⟨_, s1⟩
      obtain ⟨b1, b2⟩ := f1 m ⟨_, m1⟩
      rw [List.nodup_cons, List.nodup_cons, List.nodup_cons, List.nodup_cons]
      refine ⟨fun z => ?_, fun z => ?_, fun z => ?_, fun z => ?_, nd.2.2⟩
      · rcases List.mem_cons.mp z with z | z
        · exact nd.1 (by rw [z]; exact List.mem_cons_self)
        · rcases List.mem_cons.mp z with z | z
          · exact a1 z
          · rcases List.mem_cons.mp z with z | z
            · exact a2 z
            · exact nd.1 (List.mem_cons_of_mem _ z)
      · rcases List.mem_cons.mp z with z | z
        · exact b1 z
        · rcases List.mem_cons.mp z with z | z
          · exact b2 z
          · exact nd.2.1 z
      · rcases List.mem_cons.mp z with z | z
        · exact n2' z.symm
        · exact (f1 d1 (kd d1 z)).1 rfl
      · exact (f1 d2 (kd d2 z)).2 rfl
end
end G
/-! A6: undo; the album is made; the rule for a method that changes it -/
namespace G
open PySem PySem.Spec L2 PyProof.Rows
theorem putF_s {y s m p : V} : putF "stock" y ([("stock", s), ("marks", m), ("past", p)] : List (Str × V)) = ([("stock", y), ("marks", m), ("past", p)] : List (Str × V)) := rfl
theorem putF_m {y s m p : V} : putF "marks" y ([("stock", s), ("marks", m), ("past", p)] : List (Str × V)) = ([("stock", s), ("marks", y), ("past", p)] : List (Str × V)) := rfl
section
variable {X : Cx} {Ψ : Str → Prop} {ρ : List Sl} {R : Po} {Φ : D → Prop} {Θ : Bool → Prop} {a b c e o idx value : Expr} {es : List Expr} {pos p p1 p2 p3 apos cpos : Pos} {ma mb mc m : M} {mt : MB} {rest : List Stmt} {A : Alb} {ro : Option Addr} {x : Str}
/-- self.stock, self.marks = self.past.pop() -/
theorem qs_undo (i : Nat) {q1 q2 q3 q4 q5 q6 q7 q8 q9 : Pos} {kk : Nat} {T : TD × TD} {ps : List (TD × TD)} (ak : AlbK X.K) (hi : ρ[i]? = some (.alb ro A)) (hp : A.past = T :: ps) (h : QS X Ψ rest (ρ.set i (.alb ro ⟨T.1, T.2, ps⟩)) R)
    (hb1 : attributeBase (.Name x q6) "past" X.env (eval (.Name x q6) X.env) = eval (.Name x q6) X.env := by rfl)
    (hb4 : attributeBase (.Attribute (.Name x q6) "past" q7) "pop" X.env (eval (.Attribute (.Name x q6) "past" q7) X.env) = eval (.Attribute (.Name x q6) "past" q7) X.env := by rfl)
    (hline : (q8.endLine == q9.line) = true := by rfl)
    (hs : swapsWithSole [.Tuple [.Attribute (.Name x q1) "stock" q2, .Attribute (.Name x q3) "marks" q4] kk q5] (.Call (.Attribute (.Attribute (.Name x q6) "past" q7) "pop" q8) [] [] q9) pos.line X.env = pure false := by rfl)
    (hw : swappedStores [.Tuple [.Attribute (.Name x q1) "stock" q2, .Attribute (.Name x q3) "marks" q4] kk q5] (.Call (.Attribute (.Attribute (.Name x q6) "past" q7) "pop" q8) [] [] q9) X.env = pure none := by rfl)
    (h1 : (assignEach [.Tuple [.Attribute (.Name x q1) "stock" q2, .Attribute (.Name x q3) "marks" q4] kk q5] X.env).map (·.2) = [assign (.Tuple [.Attribute (.Name x q1) "stock" q2, .Attribute (.Name x q3) "marks" q4] kk q5) X.env] := by rfl)
    (hc : X.calm = true := by rfl) (hn2 : (assignEach [.Attribute (.Name x q1) "stock" q2, .Attribute (.Name x q3) "marks" q4] X.env).length = 2 := by rfl) (hst2 : (assignEach [.Attribute (.Name x q1) "stock" q2, .Attribute (.Name x q3) "marks" q4] X.env).findIdx? (·.1) = none := by rfl)
    (hs1 : (assignEach [.Attribute (.Name x q1) "stock" q2, .Attribute (.Name x q3) "marks" q4] X.env).map (·.2) = assign (.Attribute (.Name x q1) "stock" q2) X.env :: (assignEach [.Attribute (.Name x q3) "marks" q4] X.env).map (·.2) := by rfl)
    (hs2 : (assignEach [.Attribute (.Name x q3) "marks" q4] X.env).map (·.2) = assign (.Attribute (.Name x q3) "marks" q4) X.env :: (assignEach [] X.env).map (·.2) := by rfl)
    (hN : X.N[i]? = some x := by rfl) (hv : Vis X.env.scope x := by first | exact Or.inl rfl | exact Or.inr (Or.inl rfl) | exact Or.inr (Or.inr rfl)) (hd : (x == ("__debug__" : Str)) = false := by decide) (hcd : (x == ("__classdict__" : Str)) = false := by decide) :
    QS X Ψ (.Assign [.Tuple [.Attribute (.Name x q1) "stock" q2, .Attribute (.Name x q3) "marks" q4] kk q5] (.Call (.Attribute (.Attribute (.Name x q6) "past" q7) "pop" q8) [] [] q9) pos :: rest) ρ R :=
  fun Bi B Hi H σ Dn W tk g S rb N => by
    obtain ⟨Fm, ms⟩ := S.mo.ex
    obtain ⟨v0, Hj, hv2, ej, a, rfl, hro, dx, s, m, pp, es, al⟩ := ms.at_ i _ hi
    have cell := ms.cell i _ hi
    have ha := (cell a _ al.ins).2.2
    have h_p := (cell pp _ al.lst).2.2
    have pa := al.past
    rw [hp] at pa
    cases es with
    | nil => exact pa.elim
    | cons e es =>
      obtain ⟨t1, t2, t3, t4⟩ := pa
      have h_t := (cell _ _ t1).2.2
      have e1 : ((e :: es).map fun e => V.ref e.1).reverse = (es.map fun e => V.ref e.1).reverse ++ [V.ref e.1] := by rw [List.map_cons, List.reverse_cons]
      rw [e1] at h_p
      have pa_ : a ≠ pp := fun z => by rw [z, h_p] at ha; cases ha
      have pt : e.1 ≠ pp := fun z => by rw [z, h_p] at h_t; cases h_t
      have ta : e.1 ≠ a := fun z => by rw [z, ha] at h_t; cases h_t
      refine wSs.cons (ps_asg (pe_bm0 PySem.F.plainAttrs_list PySem.F.slot_list_pop PySem.F.type_list_pop mt_pop (pe_fld (pe_var hN hv hd hcd) hb1) hb4 hline) (pg_tup (n := 2) hc (pgs_cons (pg_fld (pe_var hN hv hd hcd)) (pgs_cons (pg_fld (pe_var hN hv hd hcd)) pgs_nil hs2) hs1) hn2 hst2) hs hw h1) ?_
      refine ⟨_, hv2, a, _, dx, _, _, rfl, ha, ak.cls, ak.nps, rfl, .inl ⟨rfl, _, SqL.of h_p⟩, pp, _, .ref e.1, rfl, rfl, h_p, by simp, ?_⟩
      rw [List.dropLast_concat]
      refine ⟨e.1, [.ref e.2.1, .ref e.2.2], rfl, SqT.of (by rw [upd_ne pt]; exact h_t), rfl, ?_⟩
      refine ⟨_, _, rfl, ⟨_, hv2, a, _, dx, _, rfl, by rw [upd_ne pa_]; exact ha, ak.cls, ak.nst, by show 3 < 1000; decide, ?_⟩⟩
      rw [putF_s]
      refine ⟨_, _, rfl, ⟨_, hv2, a, _, dx, _, rfl, upd_same, ak.cls, ak.nmk, by show 3 < 1000; decide, ?_⟩⟩
      rw [putF_m]
      refine ⟨rfl, ?_⟩
      have go := (((GrO.refl S.sub (fun c u z => (cell c u z).2.2) fun c u z => (cell c u z).2.1).put (c := pp) (o := .lst (es.map fun e => V.ref e.1).reverse) (.inl ⟨_, al.lst⟩)).put (c := a) (o := .ins (albC X.K) dx [("stock", .ref e.2.1), ("marks", .ref m), ("past", .ref pp)]) (.inl ⟨_, by rw [upd_ne pa_]; exact al.ins⟩)).put
        (c := a) (o := .ins (albC X.K) dx [("stock", .ref e.2.1), ("marks", .ref e.2.2), ("past", .ref pp)]) (.inl ⟨_, upd_same⟩)
      refine h Bi B Hi _ σ Dn W tk (go.gr ms hi g) (S.mcall ms hi g.o go hv2 ⟨a, rfl, hro, dx, e.2.1, e.2.2, pp, es, ?_⟩) rb N
      have key : ∀ c o, Fm i c = some o → c ≠ pp → c ≠ a → upd (upd (upd (Fm i) pp (.lst (es.map fun e => V.ref e.1).reverse)) a (.ins (albC X.K) dx [("stock", .ref e.2.1), ("marks", .ref m), ("past", .ref pp)])) a (.ins (albC X.K) dx [("stock", .ref e.2.1), ("marks", .ref e.2.2), ("past", .ref pp)]) c = Fm i c := fun c o z h1 h2 => by
        rw [upd_ne h2, upd_ne h2, upd_ne h1]
      have nea : ∀ c o, Fm i c = some o → (∀ C d f, o ≠ .ins C d f) → c ≠ a := fun c o z hz e => by rw [e, al.ins] at z; cases z; exact hz _ _ _ rfl
      have nep : ∀ c o, Fm i c = some o → (∀ l, o ≠ .lst l) → c ≠ pp := fun c o z hz e => by rw [e, al.lst] at z; cases z; exact hz _ rfl
      have dk : ∀ c, (∃ k, Fm i c = some (HO.dK k)) → upd (upd (upd (Fm i) pp (.lst (es.map fun e => V.ref e.1).reverse)) a (.ins (albC X.K) dx [("stock", .ref e.2.1), ("marks", .ref m), ("past", .ref pp)])) a (.ins (albC X.K) dx [("stock", .ref e.2.1), ("marks", .ref e.2.2), ("past", .ref pp)]) c = Fm i c := fun c ⟨k, hk⟩ => key c _ hk (nep c _ hk fun l z => nomatch z) (nea c _ hk fun _ _ _ z => nomatch z)
      have nd := al.nd
      rw [List.nodup_cons, List.nodup_cons] at nd
      obtain ⟨k1, w1, _⟩ := id t2
      obtain ⟨k2, w2, _⟩ := id t3
      refine ⟨upd_same, (key dx _ al.own (nep _ _ al.own fun l z => nomatch z) (nea _ _ al.own fun _ _ _ z => nomatch z)).trans al.own, t2.to ej (dk _ ⟨_, w1⟩), t3.to ej (dk _ ⟨_, w2⟩), by rw [upd_ne pa_.symm, upd_ne pa_.symm, upd_same], t4.to ej (fun c ⟨l, hc⟩ => key c _ hc (nep _ _ hc fun l z => nomatch z) (nea _ _ hc fun _ _ _ z => nomatch z)) (fun c hc => dk c (t4.dk c hc)), ?_⟩
      exact nd.2.2
/-- the value, and own things are as told -/
theorem qs_retA (h : QX X Ψ e ρ fun d => R.ro d ρ) : QS X Ψ (.Return (some e) pos :: rest) ρ R :=
  fun Bi B Hi H σ Dn W tk g S rb N => wSs.cons (ps_ret pe_w) (h B Hi H σ W tk S (rb.rs g σ) _ fun v d Hi1 H1 z g1 r1 => N.ro v d ρ Hi1 H1 σ z (g.trans g1) (S.grow g1) r1)
end
/-! ### the rule for a method that changes it -/
def withoutO (H O : Hp) : Hp := fun c => match O c with
  | none => H c
  | some _ => none
theorem without_ex {H O : Hp} : Ex (withoutO H O) H := fun c u z => by
  unfold withoutO at z
  cases q : O c with
  | none => rw [q] at z; exact z
  | some w => rw [q] at z; cases z
theorem without_own {H O : Hp} {c : Addr} {u : HO} (h : O c = some u) : withoutO H O c = none := by
  unfold withoutO
  rw [h]
theorem without_no {H O : Hp} {c : Addr} (h : O c = none) : withoutO H O c = H c := by
  unfold withoutO
  rw [h]
theorem start_okO {K : PySem.W.Frag} {Hi H O Hj : Hp} {N : List Str} {a : Addr} {A : Alb} {us : List V} {ds : List D} (s : Ex Hi H) (os : Ex O H) (dj : ∀ c u, O c = some u → Hi c = none) (ej : Ex Hj Hi) (al : AlbC K Hj O a A) (r : RpA K Hi us ds) :
    StOk K (withoutO H O) Hi H (L2.start N (.ref a :: us)) (.alb (some a) A :: (ds.map Sl.dat ++ List.replicate (N.length - (ds.length + 1)) .emp)) := by
  have S0 : StOk K H Hi H (L2.start N (.ref a :: us)) ((.lst [] :: ds).map Sl.dat ++ List.replicate (N.length - (ds.length + 1)) .emp) → True := fun _ => trivial
  have old : ∀ (i : Nat) (t : Sl), (Sl.alb (some a) A :: (ds.map Sl.dat ++ List.replicate (N.length - (ds.length + 1)) Sl.emp))[i]? = some t → (i = 0 ∧ t = .alb (some a) A) ∨ (∃ j d, i = j + 1 ∧ ds[j]? = some d ∧ t = .dat d) ∨ t = .emp := fun i t h => by
    cases i with
    | zero => exact .inl ⟨rfl, (Option.some.inj h).symm⟩
    | succ j =>
      right
      rw [List.getElem?_cons_succ] at h
      by_cases hj : j < ds.length
      · rw [List.getElem?_append_left (by simpa using hj), List.getElem?_map] at h
        cases e : ds[j]? with
        | none => rw [e] at h; cases h
        | some d => rw [e] at h; exact .inl ⟨j, d, rfl, e, (Option.some.inj h).symm⟩
      · rw [List.getElem?_append_right (by simpa using hj), List.getElem?_replicate] at h
        split at h
        · exact .inr (Option.some.inj h).symm
        · cases h
  have st : L2.start N (.ref a :: us) = some (.ref a) :: (us.map some ++ List.replicate (N.length - (us.length + 1)) none) := by
    unfold L2.start
    simp
  have at0 : (L2.start N (.ref a :: us))[0]? = some (some (.ref a)) := by rw [st]; rfl
  refine ⟨s, by rw [st]; simp [r.length], fun i x t h1 h2 => ?_, fun i j t1 t2 b h1 _ o _ _ _ => ?_, ⟨fun _ => O, fun i m e => ?_, fun i m e c u z => ?_, fun i m j f c u e1 e2 z => ?_, fun i m j m2 c u e1 e2 n z => ?_⟩⟩
  · rcases old i t h2 with ⟨rfl, rfl⟩ | ⟨j, d, rfl, e, rfl⟩ | rfl
    · cases x <;> trivial
    · obtain ⟨v, v1, v2⟩ := r.get e
      rw [st, List.getElem?_cons_succ] at h1
      have hj : j < us.length := (List.getElem?_eq_some_iff.mp v1).1
      rw [List.getElem?_append_left (by simpa using hj), List.getElem?_map, v1] at h1
      cases h1
      exact v2
    · cases x <;> trivial
  · rcases old i t1 h1 with ⟨rfl, rfl⟩ | ⟨j, d, rfl, e, rfl⟩ | rfl <;> cases o
  · rcases old i _ e with ⟨rfl, h⟩ | ⟨j, d, rfl, _, h⟩ | h
    · cases h
      exact ⟨.ref a, Hj, at0, ej, a, rfl, fun b hb => Option.some.inj hb, al⟩
    · cases h
    · cases h
  · exact ⟨without_own z, dj c u z, os c u z⟩
  · rcases old j _ e2 with ⟨_, h⟩ | ⟨j, d, _, _, h⟩ | h <;> cases h
  · rcases old i _ e1 with ⟨rfl, _⟩ | ⟨_, d, _, _, h⟩ | h
    · rcases old j _ e2 with ⟨rfl, _⟩ | ⟨_, d, _, _, h⟩ | h
      · exact absurd rfl n
      · cases h
      · cases h
    · cases h
    · cases h
theorem end_gro {K : PySem.W.Frag} {Hi H O Hi' H' : Hp} {σ' : L2.St} {ρ' : List Sl} {a : Addr} {A' : Alb} (s : Ex Hi H) (g : Gr Hi (withoutO H O) Hi' H') (S : StOk K (withoutO H O) Hi' H' σ' ρ') (h0 : ρ'[0]? = some (.alb (some a) A')) : ∃ O', GrO Hi H O Hi' H' O' ∧ AlbC K Hi' O' a A' := by
  obtain ⟨F, ms⟩ := S.mo.ex
  obtain ⟨v, Hj, hv, ej, a', rfl, hro, al⟩ := ms.at_ 0 _ h0
  have cell := ms.cell 0 _ h0
  obtain rfl := hro a rfl
  have no : ∀ c, withoutO H O c = none → H c = none ∨ ∃ u, O c = some u := fun c h => by
    cases q : O c with
    | some u => exact .inr ⟨u, rfl⟩
    | none => rw [without_no q] at h; exact .inl h
  refine ⟨F 0, ⟨g.i, fun c u h hn => g.o c u (by rw [without_no hn]; exact h), g.sub, fun c u z => (cell c u z).2.2, fun c u z => (cell c u z).2.1, fun c h z => no c (g.new c h z), fun c u z => ?_⟩, al.up ej⟩
  rcases no c (cell c u z).1 with h | h
  · exact .inr h
  · exact .inl h
theorem fnO_of {P : Program} {w : World} {K : PySem.W.Frag} {mg : Str → Option Value} {base : Heap} {x qual : Str} {st : Stmt} {N ps : List Str} {k n : Nat} {S : SpO} {f : Addr} {fd : FuncData}
    (F : FunD K x qual (defArgs st) (defBody st) (defScope st) [] [] f fd) (ak : AlbK K) (mt : Meth K (albC K) x f) (Sc : FnScope N ps (defScope st)) (hl : ps.length = n + 1) (hn : ∀ A ds Φ, S A ds Φ → ds.length = n)
    (hb : ∀ (kV doc pm : Value) (an : Option Addr) (cdv ct : Value) (us : List Value), us.length = ps.length → bindArgs (PySem.W.fnOf x qual (defArgs st) (defBody st) (defScope st) .none kV doc pm an cdv ct) ⟨us, []⟩ = pure (ps.zip us))
    (body : ∀ (cdv : Value) (A0 : Around) (outer : List Env) (s : Shared) (H : Hp) (E : XK), Room k (A0.deeper (PyProof.Rows.envOfC qual (defScope st) s.heap.objs.size f cdv)) → ∀ a A ds (Φ : Alb → D → Prop), S A ds Φ →
      SQ (cxOf (L2.CX P w) P w K mg base N qual (defScope st) f cdv A0 outer s H E) bot (defBody st) (.alb (some a) A :: (ds.map Sl.dat ++ List.replicate (N.length - (ds.length + 1)) .emp))
        { nx := fun ρ' => ∃ A', ρ'[0]? = some (.alb (some a) A') ∧ Φ A' .non, ro := fun d ρ' => ∃ A', ρ'[0]? = some (.alb (some a) A') ∧ Φ A' d }) :
    MthO P w K mg base x (k + 1) n S := by
  refine ⟨hn, ak, f, fd, ps, mt, F.bindsN hb, F.ok Sc (fun vs H Q E h => ?_) fun cdv A0 outer s H vs Q E hr h => ⟨_, pss_w, ?_⟩⟩
  · obtain ⟨a, us, Hi, Hj, O, ds, A, Φ, rfl, hlen, _⟩ := h
    rw [hl, List.length_cons, hlen]
  · obtain ⟨a, us, Hi, Hj, O, ds, A, Φ, rfl, hlen, sub, os, dj, ej, al, r, hS, hQ⟩ := h
    refine (body cdv A0 outer s H E hr a A ds Φ hS).run Hi (withoutO H O) Hi H _ _ (fun cls d _ H' => E cls d H') (takes_of rfl rfl rfl rfl) ⟨Ex.refl _, without_ex, sub, fun c h ⟨u, z⟩ => by rw [h] at z; cases z⟩ (start_okO sub os dj ej al r) (fun y _ _ _ z _ => z.elim)
      ⟨fun ρ' Hi' H' σ' z g S' => ?_, fun v d _ _ z _ _ => z.elim, fun _ _ _ _ z => z.elim, fun _ _ _ _ z => z.elim, fun v d ρ' Hi' H' σ' z g S' rv => ?_⟩
    · obtain ⟨A', h0, hz⟩ := z
      obtain ⟨O', go, al'⟩ := end_gro sub g S' h0
      exact hQ .non .non A' Hi' H' O' hz go al' .non
    · obtain ⟨A', h0, hz⟩ := z
      obtain ⟨O', go, al'⟩ := end_gro sub g S' h0
      exact hQ v d A' Hi' H' O' hz go al' rv
end G
/-! A7: the album is made; statements at the law's level -/
namespace G
open PySem PySem.Spec L2 PyProof.Rows
/-- behind __init__ -/
structure InitH (K : PySem.W.Frag) (H : Hp) (x dx s m p : Addr) (H' : Hp) : Prop where
  ns : H s = none
  nm : H m = none
  np : H p = none
  sm : s ≠ m
  hs : H' s = some (.dK [])
  hm : H' m = some (.dK [])
  hp : H' p = some (.lst [])
  hx : H' x = some (.ins (albC K) dx [("stock", .ref s), ("marks", .ref m), ("past", .ref p)])
  old : ∀ c, c ≠ x → c ≠ s → c ≠ m → c ≠ p → H' c = H c
def spI (K : PySem.W.Frag) : Sp := fun vs H Q _ => ∃ x dx, vs = [.ref x] ∧ H x = some (.ins (albC K) dx []) ∧ ∀ s m p H', InitH K H x dx s m p H' → Q .non H'
def MkI (P : Program) (w : World) (K : PySem.W.Frag) (mg : Str → Option Value) (base : Heap) (k : Nat) : Prop :=
  mg "Album" = some (.ref (albC K)) ∧ ∃ (f : Addr) (fd : FuncData) (ps : List Str), Mk K (albC K) f ∧ Binds K fd ps [] ∧ FnOk P w K mg base (L2.CX P w) k f fd ps (spI K)
section
variable {X : Cx} {Ψ : Str → Prop} {ρ : List Sl} {R : Po} {Φ : D → Prop} {Θ : Bool → Prop} {a b c e o idx value : Expr} {es : List Expr} {pos p p1 p2 p3 apos cpos : Pos} {ma mb mc m : M} {mt : MB} {rest : List Stmt} {A : Alb} {ro : Option Addr} {x y : Str}
theorem init_body {q1 q2 q3 q4 q5 q6 q7 q8 q9 q10 q11 q12 : Pos} {σ : L2.St} {H : Hp} {Dn : Ends} {xa dx : Addr} (ak : AlbK X.K) (h0 : σ[0]? = some (some (.ref xa))) (hx : H xa = some (.ins (albC X.K) dx [])) (hq : ∀ s m p H', InitH X.K H xa dx s m p H' → Dn.nx σ H')
    (hs1 : swapsWith (.Dict [] [] q3) (some (.Attribute (.Name x q1) "stock" q2)) q4.line X.env = pure false := by rfl) (hs2 : swapsWith (.Dict [] [] q7) (some (.Attribute (.Name x q5) "marks" q6)) q8.line X.env = pure false := by rfl) (hs3 : swapsWith (.List [] q11) (some (.Attribute (.Name x q9) "past" q10)) q12.line X.env = pure false := by rfl)
    (hN : X.N[0]? = some x := by rfl) (hv : Vis X.env.scope x := by first | exact Or.inl rfl | exact Or.inr (Or.inl rfl) | exact Or.inr (Or.inr rfl)) (hd : (x == ("__debug__" : Str)) = false := by decide) (hcd : (x == ("__classdict__" : Str)) = false := by decide) :
    wSs X [.Assign [.Attribute (.Name x q1) "stock" q2] (.Dict [] [] q3) q4, .Assign [.Attribute (.Name x q5) "marks" q6] (.Dict [] [] q7) q8, .Assign [.Attribute (.Name x q9) "past" q10] (.List [] q11) q12] Dn σ H := by
  refine wSs.cons (ps_fld (pe_var hN hv hd hcd) pe_dnewK hs1) fun s n1 => ?_
  have e1 : xa ≠ s := ne_of_none hx n1
  refine ⟨_, h0, xa, _, dx, _, rfl, (upd_ne e1).trans hx, ak.cls, ak.nst, by show 0 < 1000; decide, ?_⟩
  refine wSs.cons (ps_fld (pe_var hN hv hd hcd) pe_dnewK hs2) fun m n2 => ?_
  have e2 : xa ≠ m := fun z => by rw [z, upd_same] at n2; cases n2
  have e3 : m ≠ s := fun z => by rw [upd_ne e2.symm, z, upd_same] at n2; cases n2
  have n2h : H m = none := by rw [upd_ne e2.symm, upd_ne e3] at n2; exact n2
  refine ⟨_, h0, xa, _, dx, _, rfl, (upd_ne e2).trans upd_same, ak.cls, ak.nmk, by show 1 < 1000; decide, ?_⟩
  refine wSs.cons (ps_fld (pe_var hN hv hd hcd) (pe_lst pa_nil) hs3) ⟨Nat.zero_le _, fun p n3 => ?_⟩
  have e4 : xa ≠ p := fun z => by rw [z, upd_same] at n3; cases n3
  have e5 : p ≠ m := fun z => by rw [upd_ne e4.symm, z, upd_same] at n3; cases n3
  have e6 : p ≠ s := fun z => by rw [upd_ne e4.symm, upd_ne e5, upd_ne e4.symm, z, upd_same] at n3; cases n3
  have n3h : H p = none := by rw [upd_ne e4.symm, upd_ne e5, upd_ne e4.symm, upd_ne e6] at n3; exact n3
  refine ⟨_, h0, xa, _, dx, _, rfl, (upd_ne e4).trans upd_same, ak.cls, ak.nps, by show 2 < 1000; decide, ?_⟩
  refine wSs.of pss_nil (hq s m p _ ⟨n1, n2h, n3h, e3.symm, ?_, ?_, ?_, upd_same, fun c c1 c2 c3 c4 => ?_⟩)
  · rw [upd_ne e1.symm, upd_ne e6.symm, upd_ne e1.symm, upd_ne e3.symm, upd_ne e1.symm, upd_same]
  · rw [upd_ne e2.symm, upd_ne e5.symm, upd_ne e2.symm, upd_same]
  · rw [upd_ne e4.symm, upd_same]
  · rw [upd_ne c1, upd_ne c4, upd_ne c1, upd_ne c3, upd_ne c1, upd_ne c2]
theorem fnI_of {P : Program} {w : World} {K : PySem.W.Frag} {mg : Str → Option Value} {base : Heap} {qual : Str} {st : Stmt} {N ps : List Str} {k : Nat} {f : Addr} {fd : FuncData}
    (F : FunD K "__init__" qual (defArgs st) (defBody st) (defScope st) [] [] f fd) (mk : Mk K (albC K) f) (hm : mg "Album" = some (.ref (albC K))) (Sc : FnScope N ps (defScope st)) (hl : ps.length = 1)
    (hb : ∀ (kV doc pm : Value) (an : Option Addr) (cdv ct : Value) (us : List Value), us.length = ps.length → bindArgs (PySem.W.fnOf "__init__" qual (defArgs st) (defBody st) (defScope st) .none kV doc pm an cdv ct) ⟨us, []⟩ = pure (ps.zip us))
    (body : ∀ (cdv : Value) (A0 : Around) (outer : List Env) (s : Shared) (H : Hp) (E : XK) (xa dx : Addr) (Dn : Ends), H xa = some (.ins (albC K) dx []) → (∀ s m p H', InitH K H xa dx s m p H' → Dn.nx (L2.start N [.ref xa]) H') →
      wSs (cxOf (L2.CX P w) P w K mg base N qual (defScope st) f cdv A0 outer s H E) (defBody st) Dn (L2.start N [.ref xa]) H) : MkI P w K mg base (k + 1) := by
  refine ⟨hm, f, fd, ps, mk, F.bindsN hb, F.ok Sc (fun vs H Q E h => ?_) fun cdv A0 outer s H vs Q E hr h => ⟨_, pss_w, ?_⟩⟩
  · obtain ⟨x, dx, rfl, _⟩ := h; rw [hl]; rfl
  · obtain ⟨x, dx, rfl, hx, hq⟩ := h
    exact body cdv A0 outer s H E x dx _ hx fun s m p H' h => hq s m p H' h
/-- x = Album() -/
theorem qs_newA (i : Nat) {k : Nat} (FI : MkI X.prog X.w X.K X.mg X.base k) (hr : Room (k + 1) X.A) (h : QS X Ψ rest (ρ.set i (.alb none ⟨[], [], []⟩)) R)
    (hN : X.N.Nodup) (hi : X.N[i]? = some x) (hx : Loc X.env.scope x) (hs : swapsWith (.Call (.Name "Album" p) [] [] p2) (some (.Name x p1)) pos.line X.env = pure false)
    (hf : X.fn x = true ∨ X.env.scope.names.lookup x = some .local) (hg : Gl X "Album") : QS X Ψ (.Assign [.Name x p1] (.Call (.Name "Album" p) [] [] p2) pos :: rest) ρ R :=
  fun Bi B Hi H σ Dn W tk g S rb N => by
    obtain ⟨hm, f, fd, ps, mk, bd, ok⟩ := FI
    refine wSs.cons (ps_set hN hi hx (pe_make0 (E := fun _ _ _ => False) mk ok hr hg hm bd .nil (fun pins σ H s e s' _ z => by obtain ⟨_, _, _, _, _, _, _, _, _, _, _, _, z⟩ := z; exact z.elim)) hs hf) fun xx dx n1 n2 ne => ⟨xx, dx, rfl, upd_same, fun s m pp H' ih => ⟨rfl, ?_⟩⟩
    have sx : s ≠ xx := fun z => by have := ih.ns; rw [z, upd_same] at this; cases this
    have mx : m ≠ xx := fun z => by have := ih.nm; rw [z, upd_same] at this; cases this
    have px : pp ≠ xx := fun z => by have := ih.np; rw [z, upd_same] at this; cases this
    have sd : s ≠ dx := fun z => by have := ih.ns; rw [upd_ne sx, z, upd_same] at this; cases this
    have md : m ≠ dx := fun z => by have := ih.nm; rw [upd_ne mx, z, upd_same] at this; cases this
    have pd : pp ≠ dx := fun z => by have := ih.np; rw [upd_ne px, z, upd_same] at this; cases this
    have hs0 : H s = none := by have := ih.ns; rw [upd_ne sx, upd_ne sd] at this; exact this
    have hm0 : H m = none := by have := ih.nm; rw [upd_ne mx, upd_ne md] at this; exact this
    have hp0 : H pp = none := by have := ih.np; rw [upd_ne px, upd_ne pd] at this; exact this
    have hd : H' dx = some (.own xx) := by rw [ih.old dx ne sd.symm md.symm pd.symm, upd_ne ne, upd_same]
    have ex : Ex H H' := fun c u z => by
      rw [ih.old c (ne_of_none z n1) (ne_of_none z hs0) (ne_of_none z hm0) (ne_of_none z hp0), upd_ne (ne_of_none z n1), upd_ne (ne_of_none z n2)]
      exact z
    let O : Hp := fun c => if c = xx ∨ c = dx ∨ c = s ∨ c = m ∨ c = pp then H' c else none
    have oy : ∀ c, (c = xx ∨ c = dx ∨ c = s ∨ c = m ∨ c = pp) → O c = H' c := fun c hc => if_pos hc
    have hO : ∀ c u, O c = some u → H c = none ∧ H' c = some u := fun c u z => by
      by_cases hc : c = xx ∨ c = dx ∨ c = s ∨ c = m ∨ c = pp
      · rw [oy c hc] at z
        refine ⟨?_, z⟩
        rcases hc with rfl | rfl | rfl | rfl | rfl <;> assumption
      · rw [show O c = none from if_neg hc] at z; cases z
    refine h Bi B Hi H' _ Dn W tk (g.trans (Gr.out g.sub ex)) (S.newM g.o ex hO (show albX none ⟨[], [], []⟩ X.K Hi (.ref xx) O from ⟨xx, rfl, (fun b hb => by cases hb), dx, s, m, pp, [], ?_⟩)) rb N
    exact ⟨(oy xx (.inl rfl)).trans ih.hx, (oy dx (.inr (.inl rfl))).trans hd, ⟨[], (oy s (.inr (.inr (.inl rfl)))).trans ih.hs, rfl, .nil⟩, ⟨[], (oy m (.inr (.inr (.inr (.inl rfl))))).trans ih.hm, rfl, .nil⟩, (oy pp (.inr (.inr (.inr (.inr rfl))))).trans ih.hp, trivial, by simp [ih.sm]⟩
/-- x, y = [..], e: a list of one's own, a datum -/
theorem qs_parO (i j : Nat) {px py pt lp : Pos} {kt k2 : Nat} {pt2 : Pos} (h : QA X Ψ es ρ fun ds => ds.length ≤ 100000 ∧ QX X Ψ b ρ fun d' => QS X Ψ rest ((ρ.set i (.lst ds)).set j (.dat d')) R) (hN : X.N.Nodup) (hij : i ≠ j) (hi : X.N[i]? = some x) (hj : X.N[j]? = some y)
    (hx : X.env.scope.names.lookup x = some .local) (hy : X.env.scope.names.lookup y = some .local) (hc : X.calm = true)
    (hw : swappedStores [.Tuple [.Name x px, .Name y py] kt pt] (.Tuple [.List es lp, b] k2 pt2) X.env = pure (some [x, y]))
    (hs : swapsWithSole [.Tuple [.Name x px, .Name y py] kt pt] (.Tuple [.List es lp, b] k2 pt2) pos.line X.env = pure false) (he : starEach [.List es lp, b] X.env = (false, eval (.List es lp) X.env) :: starEach [b] X.env) (he2 : starEach [b] X.env = (false, eval b X.env) :: starEach [] X.env) :
    QS X Ψ (.Assign [.Tuple [.Name x px, .Name y py] kt pt] (.Tuple [.List es lp, b] k2 pt2) pos :: rest) ρ R :=
  fun Bi B Hi H σ Dn W tk g S rb N => wSs.cons (ps_par (i := i) (j := j) hc hN hi hj hij hx hy (pa_cons (pe_lst pa_w) (pa_cons pe_w pa_nil he2) he) hw hs) (h B Hi H σ W tk S (rb.rs g σ) _ fun vs ds Hi1 H1 z g1 r1 => by
    obtain ⟨hl, z⟩ := z
    refine ⟨by rw [r1.length]; exact Nat.le_trans hl (by decide), fun q hq => ?_⟩
    have S1 := S.grow g1
    have g1' := g1.trans (Gr.out g1.sub (Ex.new (o := .lst vs) hq))
    have S1' := S.grow g1'
    refine z B Hi1 _ σ W tk S1' ((rb.rs g σ).grow g1') _ fun u d' Hi2 H2 z2 g2 r2 => ⟨_, _, rfl, ?_⟩
    have So := (S1.own1 (i := i) (c := .lst ds) (o := .lst vs) (g.trans g1).o hq (show RpA X.K Hi1 vs ds from r1)).grow g2
    exact z2 Bi B Hi2 H2 _ Dn W tk ((g.trans g1').trans g2) (So.set r2) rb N)
end
end G
/-! A8: rules for statements, as gs.py prints them -/
namespace G
open PySem PySem.Spec L2 PyProof.Rows
/-! ### data without lists -/
mutual
def D.gnd : D → Bool
  | .non => true
  | .bl _ => true
  | .int _ => true
  | .str _ => true
  | .tup ds => D.gndA ds
  | .lst _ => false | .dct _ _ => false | .exc _ => false | .opq _ => false | .obj _ _ _ => false
def D.gndA : List D → Bool
  | [] => true
  | d :: ds => D.gnd d && D.gndA ds
end
/-- a heap without a cell -/
def lessH (H : Hp) (q : Addr) : Hp := fun c => if c = q then none else H c
theorem lessH_ne {H : Hp} {q c : Addr} (h : c ≠ q) : lessH H q c = H c := if_neg h
theorem lessH_same {H : Hp} {q : Addr} : lessH H q q = none := if_pos rfl
theorem lessH_ex {H : Hp} {q : Addr} : Ex (lessH H q) H := fun c u z => by
  by_cases h : c = q
  · subst h; rw [lessH_same] at z; cases z
  · rw [lessH_ne h] at z; exact z
section
variable {K : PySem.W.Frag} {H : Hp} {q : Addr} {vs : List V}
mutual
theorem Rp.less (hq : H q = some (.lst vs)) : ∀ (d : D) (v : V), d.gnd = true → Rp K H v d → Rp K (lessH H q) v d
  | .non, _, _, h => by cases h; exact .non
  | .bl _, _, _, h => by cases h; exact .bl _
  | .int _, _, _, h => by cases h; exact .int _
  | .str _, _, _, h => by cases h; exact .str _
  | .tup ds, _, g, h => by
    cases h with
    | @tup a xs _ hs ha =>
      refine .tup ?_ (RpA.less hq ds xs g ha)
      rcases hs with (hs | ⟨o, hs⟩) | hs
      · exact .inl (.inl (by rw [lessH_ne fun e => by rw [e, hq] at hs; cases hs]; exact hs))
      · exact .inl (.inr ⟨o, by rw [lessH_ne fun e => by rw [e, hq] at hs; cases hs]; exact hs⟩)
      · exact .inr hs
  | .lst _, _, g, _ => Bool.noConfusion g
  | .dct _ _, _, g, _ => Bool.noConfusion g
  | .exc _, _, g, _ => Bool.noConfusion g
  | .opq _, _, g, _ => Bool.noConfusion g
  | .obj _ _ _, _, g, _ => Bool.noConfusion g
theorem RpA.less (hq : H q = some (.lst vs)) : ∀ (ds : List D) (xs : List V), D.gndA ds = true → RpA K H xs ds → RpA K (lessH H q) xs ds
  | [], _, _, h => by cases h; exact .nil
  | d :: ds, _, g, h => by
    have g' : (D.gnd d && D.gndA ds) = true := g
    rw [Bool.and_eq_true] at g'
    cases h with
    | cons h1 h2 => exact .cons (Rp.less hq d _ g'.1 h1) (RpA.less hq ds _ g'.2 h2)
end
def gndT (S : TD) : Bool := D.gndA (S.map (·.2))
def gndP (ps : List (TD × TD)) : Bool := ps.all fun q => gndT q.1 && gndT q.2
def Alb.gnd (A : Alb) : Bool := gndT A.st && (gndT A.ma && gndP A.past)
variable {O : Hp} {a s : Addr} {A : Alb} {S : TD}
theorem TdAt.less (hq : H q = some (.lst vs)) (g : gndT S = true) (h : TdAt K H O s S) : TdAt K (lessH H q) O s S := by
  obtain ⟨kvs, h1, h2, h3⟩ := h
  exact ⟨kvs, h1, h2, RpA.less hq _ _ g h3⟩
theorem PastAt.less (hq : H q = some (.lst vs)) : ∀ {es : List (Addr × Addr × Addr)} {ps : List (TD × TD)}, gndP ps = true → PastAt K H O es ps → PastAt K (lessH H q) O es ps
  | [], [], _, _ => trivial
  | [], _ :: _, _, h => h.elim
  | _ :: _, [], _, h => h.elim
  | e :: es, t :: ps, g, h => by
    obtain ⟨h1, h2, h3, h4⟩ := h
    have g' : (gndT t.1 && gndT t.2 && gndP ps) = true := g
    rw [Bool.and_eq_true, Bool.and_eq_true] at g'
    exact ⟨h1, h2.less hq g'.1.1, h3.less hq g'.1.2, h4.less hq g'.2⟩
theorem AlbC.less (hq : H q = some (.lst vs)) (g : A.gnd = true) (h : AlbC K H O a A) : AlbC K (lessH H q) O a A := by
  obtain ⟨dx, s, m, p, es, h⟩ := h
  have g' : (gndT A.st && (gndT A.ma && gndP A.past)) = true := g
  rw [Bool.and_eq_true, Bool.and_eq_true] at g'
  exact ⟨dx, s, m, p, es, h.ins, h.own, h.st.less hq g'.1, h.ma.less hq g'.2.1, h.lst, h.past.less hq g'.2.2, h.nd⟩
end
section
variable {X : Cx} {Ψ : Str → Prop} {ρ : List Sl} {R : Po} {Φ : D → Prop} {Θ : Bool → Prop} {a b c e o idx value : Expr} {es : List Expr} {pos p p1 p2 p3 apos cpos : Pos} {ma mb mc m : M} {mt : MB} {rest : List Stmt} {A : Alb} {ro : Option Addr} {x y : Str} {as_ : MA}
/-- an album's method is handed a list of one's own, that stays one's own -/
theorem qs_own2L {pl : Sem Bool} {mn : Str} {k : Nat} {S : SpO} {ds : List D} {yp : Pos} (i j : Nat) (F : MthO X.prog X.w X.K X.mg X.base mn k 2 S) (hr : Room k X.A) (hi : ρ[i]? = some (.alb ro A)) (hj : ρ[j]? = some (.lst ds))
    {Φo : Alb → D → Prop} (h : QX X Ψ e ρ fun d => S A [d, .lst ds] Φo) (hq : ∀ A' d, Φo A' d → A'.gnd = true ∧ QS X Ψ rest (ρ.set i (.alb ro A')) R)
    (hs : swapsWith (.Call (.Attribute (.Name x p) mn apos) [e, .Name y yp] [] cpos) none pos.line X.env = pure false) (hf : noF mn = true)
    (hst : starEach [e, .Name y yp] X.env = (false, eval e X.env) :: starEach [.Name y yp] X.env) (hst2 : starEach [.Name y yp] X.env = (false, eval (.Name y yp) X.env) :: starEach [] X.env) (hpl : (backTo cpos (starEach [.Name y yp] X.env)).any (·.1) = false)
    (ht : eval (.Call (.Attribute (.Name x p) mn apos) [e, .Name y yp] [] cpos) X.env = (do
      let ov ← eval (.Name x p) X.env
      standAt apos.atName
      let (f, first) ← holding [ov] (getMethod ov mn pl)
      callWith cpos f first (backTo cpos (starEach [e, .Name y yp] X.env)) (backToKw cpos (keywordEach [] X.env))))
    (hN : X.N[i]? = some x) (hv : Vis X.env.scope x) (hN2 : X.N[j]? = some y) (hv2 : Vis X.env.scope y) (hd : (x == ("__debug__" : Str)) = false) (hcd : (x == ("__classdict__" : Str)) = false) (hd2 : (y == ("__debug__" : Str)) = false) (hcd2 : (y == ("__classdict__" : Str)) = false) :
    QS X Ψ (.Expr (.Call (.Attribute (.Name x p) mn apos) [e, .Name y yp] [] cpos) pos :: rest) ρ R :=
  fun Bi B Hi H σ Dn W tk g S0 rb N => by
    obtain ⟨hn, ak, f, fd, ps, mth, bd, ok⟩ := F
    obtain ⟨F0, ms0⟩ := S0.mo.ex
    obtain ⟨v0, Hj0, hv0, ej0, a0, rfl, hro0, dx0, sa0, m0, pp0, es0, alp0⟩ := ms0.at_ i _ hi
    refine wSs.cons (ps_expr (pe_methQ (E := L2.WE W) (pe_var hN hv hd hcd) ak.cls mth ok hr bd (fun σ => passAt tk σ) (pa_cons pe_w (pa_cons (pe_var hN2 hv2 hd2 hcd2) pa_nil hst2) hst) hst hpl ht) hs) ⟨_, hv0, a0, dx0, _, rfl, (ms0.cell i _ hi a0 _ alp0.ins).2.2, noF_of hf, ?_⟩
    refine h B Hi H σ W tk S0 (rb.rs g σ) _ fun v d Hi1 H1 z g1 r1 => ?_
    have S1 := S0.grow g1
    have ms := ms0.grow g1
    obtain ⟨al, ob, el, bl, nl, xl, rl⟩ := S1.own hj
    cases ob with
    | lst vs =>
      have rl : RpA X.K Hi1 vs ds := rl
      refine ⟨_, el, ?_⟩
      obtain ⟨v3, Hj, hv3, ej, a, rfl, hro, alb⟩ := ms.at_ i _ hi
      have ea : a0 = a := by rw [hv0] at hv3; cases hv3; rfl
      subst ea
      have cell := ms.cell i _ hi
      have nal : F0 i al = none := by
        cases q : F0 i al with
        | none => rfl
        | some u => exact absurd el (ms.cl i _ j _ al u hi hj q)
      have e1 : Ex Hi1 (upd Hi1 al (.lst vs)) := Ex.new nl
      have sub1 : Ex (upd Hi1 al (.lst vs)) H1 := fun c u w => by
        by_cases hc : c = al
        · subst hc; rw [upd_same] at w; cases w; exact xl
        · rw [upd_ne hc] at w; exact S1.sub c u w
      refine ⟨a0, [v, .ref al], upd Hi1 al (.lst vs), Hj, F0 i, [d, .lst ds], A, _, rfl, rfl, sub1, fun c u w => (cell c u w).2.2, fun c u w => ?_, ej.trans e1, alb, .cons (r1.up e1) (.cons (.lst upd_same (rl.up e1)) .nil), z, fun v' d' A' Hi' H' O' hz go al' _ => ?_⟩
      · rw [upd_ne fun e => by rw [e, nal] at w; cases w]; exact (cell c u w).2.1
      · have g2 := g.trans g1
        have hq' : Hi' al = some (.lst vs) := go.i al _ upd_same
        have go2 : GrO Hi1 H1 (F0 i) (lessH Hi' al) H' O' := by
          refine ⟨fun c u w => ?_, go.o, lessH_ex.trans go.sub, go.osub, fun c u w => ?_, fun c w1 ⟨u, w2⟩ => ?_, go.onew⟩
          · rw [lessH_ne fun e => by rw [e, nl] at w; cases w]
            exact go.i c u (e1 c u w)
          · unfold lessH
            split
            · rfl
            · exact go.dj c u w
          · by_cases hc : c = al
            · subst hc; rw [lessH_same] at w2; cases w2
            · rw [lessH_ne hc] at w2
              exact go.new c (by rw [upd_ne hc]; exact w1) ⟨u, w2⟩
        exact (hq A' d' hz).2 Bi B _ H' σ Dn W tk (go2.gr ms hi g2) (S1.mcall ms hi g2.o go2 hv3 (albX_of (al'.less hq' (hq A' d' hz).1) hro)) rb N
    | _ => exact rl.elim
/-! own lists read: slices, sums -/
theorem sx_slO {ds : List D} {lo hi : Option Expr} {ml mh : MO} (i : Nat) (h0 : ρ[i]? = some (.lst ds)) (h1 : SO X lo ρ ml) (h2 : SO X hi ρ mh) (hN : X.N[i]? = some x := by rfl) (hv : Vis X.env.scope x := by first | exact Or.inl rfl | exact Or.inr (Or.inl rfl) | exact Or.inr (Or.inr rfl)) (hd : (x == ("__debug__" : Str)) = false := by decide) (hcd : (x == ("__classdict__" : Str)) = false := by decide) :
    SX X (.Subscript (.Name x p) (.Slice lo hi none p2) pos) ρ (slE (ret (.lst ds)) ml mh) := by
  obtain ⟨t1, q1, h1⟩ := h1.ex
  obtain ⟨t2, q2, h2⟩ := h2.ex
  refine ⟨fun {Φ Ψ} k B Hi H σ W tk S rs Q q => ?_⟩
  obtain ⟨al, ob, el, bl, nl, xl, rl⟩ := S.own h0
  cases ob with
  | lst vs =>
    have rl : RpA X.K Hi vs ds := rl
    refine wE.of (pe_slice sl_list (pe_var hN hv hd hcd) q1 q2) ⟨_, el, ?_⟩
    have k : ml (fun l => mh (fun h => slD (.lst ds) l h Φ) Ψ) Ψ := k
    refine h1 k B Hi H σ W tk S rs _ fun o1 Hi2 H2 z g2 => h2 z B Hi2 H2 σ W tk (S.grow g2) (rs.grow g2) _ fun o2 Hi3 H3 z g3 => ?_
    have gg := g2.trans g3
    exact ⟨_, vs, rfl, SqL.of (gg.o _ _ xl), fun l hl => q _ _ (upd Hi3 l _) _ z (gg.trans (Gr.mk1 g3.sub hl)) (.lst upd_same (RpA.up (cut_rp (rl.up gg.i) _ _) (Ex.new (g3.sub.free hl))))⟩
  | _ => exact rl.elim
theorem sx_addO {ds es : List D} (i j : Nat) (h0 : ρ[i]? = some (.lst ds)) (h1 : ρ[j]? = some (.lst es)) (hN : X.N[i]? = some x := by rfl) (hv : Vis X.env.scope x := by first | exact Or.inl rfl | exact Or.inr (Or.inl rfl) | exact Or.inr (Or.inr rfl)) (hN2 : X.N[j]? = some y := by rfl) (hv2 : Vis X.env.scope y := by first | exact Or.inl rfl | exact Or.inr (Or.inl rfl) | exact Or.inr (Or.inr rfl))
    (hd : (x == ("__debug__" : Str)) = false := by decide) (hcd : (x == ("__classdict__" : Str)) = false := by decide) (hd2 : (y == ("__debug__" : Str)) = false := by decide) (hcd2 : (y == ("__classdict__" : Str)) = false := by decide) :
    SX X (.BinOp (.Name x p) .Add (.Name y p2) pos) ρ (bin addD (ret (.lst ds)) (ret (.lst es))) := by
  refine ⟨fun k B Hi H σ W tk S rs Q q => ?_⟩
  obtain ⟨al, ob, el, bl, nl, xl, rl⟩ := S.own h0
  obtain ⟨am, ob2, em, bm, nm, xm, rm⟩ := S.own h1
  cases ob with
  | lst vs =>
    cases ob2 with
    | lst ws =>
      have rl : RpA X.K Hi vs ds := rl
      have rm : RpA X.K Hi ws es := rm
      have k : ds.length + es.length ≤ 100000 ∧ _ := k
      refine wE.of (pe_op op_cat (pe_var hN hv hd hcd) (pe_var hN2 hv2 hd2 hcd2)) ⟨_, el, _, em, _, _, _, _, rfl, rfl, xl, xm, by rw [rl.length, rm.length]; exact small k.1, fun l hl => q _ _ (upd Hi l _) _ k.2 (Gr.mk1 S.sub hl) (.lst upd_same ((rl.app rm).up (Ex.new (S.sub.free hl))))⟩
    | _ => exact rm.elim
  | _ => exact rl.elim
end
end G
/-! A9: the forms that gs.py prints -/
namespace G
open PySem PySem.Spec L2 PyProof.Rows
/-- THE RULE for a method that leaves the album -/
theorem fnM_of {P : Program} {w : World} {K : PySem.W.Frag} {mg : Str → Option Value} {base : Heap} {x qual : Str} {st : Stmt} {N ps : List Str} {k : Nat} {S : SpD} {f : Addr} {fd : FuncData}
    (F : FunD K x qual (defArgs st) (defBody st) (defScope st) [] [] f fd) (ak : AlbK K) (mt : Meth K (albC K) x f) (Sc : FnScope N ps (defScope st)) (hn : ∀ ds Φ Ψ, S ds Φ Ψ → ds.length = ps.length)
    (hb : ∀ (kV doc pm : Value) (an : Option Addr) (cdv ct : Value) (us : List Value), us.length = ps.length → bindArgs (PySem.W.fnOf x qual (defArgs st) (defBody st) (defScope st) .none kV doc pm an cdv ct) ⟨us, []⟩ = pure (ps.zip us))
    (body : ∀ (cdv : Value) (A : Around) (outer : List Env) (s : Shared) (H : Hp) (E : XK), Room k (A.deeper (PyProof.Rows.envOfC qual (defScope st) s.heap.objs.size f cdv)) → ∀ ds Φ Ψ, S ds Φ Ψ →
      QS (cxOf (L2.CX P w) P w K mg base N qual (defScope st) f cdv A outer s H E) Ψ (defBody st) (ds.map Sl.dat ++ List.replicate (N.length - ds.length) .emp) { nx := fun _ => Φ .non, rt := Φ }) :
    MthS P w K mg base x (k + 1) ps.length S := by
  refine ⟨hn, ak, f, fd, ps, mt, F.bindsN hb, F.ok Sc (fun vs H Q E h => h.1) fun cdv A outer s H vs Q E hr h => ⟨_, pss_w, ?_⟩⟩
  obtain ⟨_, Hi, ds, Φ, Ψ, sub, r, hS, hQ, hE⟩ := h
  exact body cdv A outer s H E hr ds Φ Ψ hS Hi H Hi H _ _ (fun cls d _ H' => E cls d H') (takes_of rfl rfl rfl rfl) (Gr.refl sub) (start_ok sub r) (fun y _ Hi' H' p q => hE y Hi' H' p q)
    ⟨fun ρ' Hi' H' σ' z g _ => hQ .non .non Hi' H' z g .non, fun v d Hi' H' z g r' => hQ v d Hi' H' z g r', fun _ _ _ _ z => z.elim, fun _ _ _ _ z => z.elim, fun _ _ _ _ _ _ z => z.elim⟩
/-- own specs: of no arguments, of one, of two -/
abbrev O0 := Alb → (Alb → D → Prop) → Prop
abbrev O2 := Alb → D → D → (Alb → D → Prop) → Prop
def so0 (f : O0) : SpO := fun A ds Φ => ds = [] ∧ f A Φ
def so2 (f : O2) : SpO := fun A ds Φ => ∃ x y, ds = [x, y] ∧ f A x y Φ
section
variable {X : Cx} {Ψ : Str → Prop} {ρ : List Sl} {R : Po} {Φ : D → Prop} {Θ : Bool → Prop} {a b c e o idx value : Expr} {es : List Expr} {pos p p1 p2 p3 apos cpos : Pos} {ma mb mc m : M} {mt : MB} {rest : List Stmt} {A : Alb} {ro : Option Addr} {x y mn : Str} {as_ : MA}
theorem s_own0 {pl : Sem Bool} {k : Nat} {f : O0} {P : Alb → Prop} (i : Nat) (F : MthO X.prog X.w X.K X.mg X.base mn k 0 (so0 f)) (hr : Room k X.A) (hi : ρ[i]? = some (.alb ro A)) (h : f A fun A' _ => P A') (hq : ∀ A', P A' → SQ X Ψ rest (ρ.set i (.alb ro A')) R)
    (hs : swapsWith (.Call (.Attribute (.Name x p) mn apos) [] [] cpos) none pos.line X.env = pure false := by rfl) (hf : noF mn = true := by decide)
    (ht : eval (.Call (.Attribute (.Name x p) mn apos) [] [] cpos) X.env = (do
      let ov ← eval (.Name x p) X.env
      standAt apos.atName
      let (f, first) ← holding [ov] (getMethod ov mn pl)
      callWith cpos f first (backTo cpos (starEach [] X.env)) (backToKw cpos (keywordEach [] X.env))) := by rfl)
    (hN : X.N[i]? = some x := by rfl) (hv : Vis X.env.scope x := by first | exact Or.inl rfl | exact Or.inr (Or.inl rfl) | exact Or.inr (Or.inr rfl)) (hd : (x == ("__debug__" : Str)) = false := by decide) (hcd : (x == ("__classdict__" : Str)) = false := by decide) :
    SQ X Ψ (.Expr (.Call (.Attribute (.Name x p) mn apos) [] [] cpos) pos :: rest) ρ R :=
  ⟨qs_own0 i F hr hi (Φo := fun A' _ => P A') ⟨rfl, h⟩ (fun A' _ z => (hq A' z).run) hs hf ht hN hv hd hcd⟩
theorem s_own2 {pl : Sem Bool} {k : Nat} {f : O2} {P : Alb → Prop} (i : Nat) (F : MthO X.prog X.w X.K X.mg X.base mn k 2 (so2 f)) (hr : Room k X.A) (hi : ρ[i]? = some (.alb ro A)) (ha : SX X a ρ ma) (hb : SX X b ρ mb) (h : ma (fun u => mb (fun v => f A u v fun A' _ => P A') Ψ) Ψ) (hq : ∀ A', P A' → SQ X Ψ rest (ρ.set i (.alb ro A')) R)
    (hs : swapsWith (.Call (.Attribute (.Name x p) mn apos) [a, b] [] cpos) none pos.line X.env = pure false := by rfl) (hf : noF mn = true := by decide)
    (hst : starEach [a, b] X.env = (false, eval a X.env) :: starEach [b] X.env := by exact se_of rfl) (hst2 : starEach [b] X.env = (false, eval b X.env) :: starEach [] X.env := by exact se_of rfl) (hpl : (backTo cpos (starEach [b] X.env)).any (·.1) = false := by rfl)
    (ht : eval (.Call (.Attribute (.Name x p) mn apos) [a, b] [] cpos) X.env = (do
      let ov ← eval (.Name x p) X.env
      standAt apos.atName
      let (f, first) ← holding [ov] (getMethod ov mn pl)
      callWith cpos f first (backTo cpos (starEach [a, b] X.env)) (backToKw cpos (keywordEach [] X.env))) := by rfl)
    (hN : X.N[i]? = some x := by rfl) (hv : Vis X.env.scope x := by first | exact Or.inl rfl | exact Or.inr (Or.inl rfl) | exact Or.inr (Or.inr rfl)) (hd : (x == ("__debug__" : Str)) = false := by decide) (hcd : (x == ("__classdict__" : Str)) = false := by decide) :
    SQ X Ψ (.Expr (.Call (.Attribute (.Name x p) mn apos) [a, b] [] cpos) pos :: rest) ρ R :=
  ⟨qs_own i F hr hi (Φo := fun A' _ => P A') (qa_cons ((ha.run h).mono fun u h => qa_cons ((hb.run h).mono fun v h => qa_nil ⟨u, v, rfl, h⟩) hst2) hst) (fun A' _ z => (hq A' z).run) hs hf hst hpl ht hN hv hd hcd⟩
theorem s_own2L {pl : Sem Bool} {k : Nat} {f : O2} {P : Alb → Prop} {ds : List D} {yp : Pos} (i j : Nat) (F : MthO X.prog X.w X.K X.mg X.base mn k 2 (so2 f)) (hr : Room k X.A) (hi : ρ[i]? = some (.alb ro A)) (hj : ρ[j]? = some (.lst ds)) (ha : SX X a ρ ma) (h : ma (fun u => f A u (.lst ds) fun A' _ => A'.gnd = true ∧ P A') Ψ) (hq : ∀ A', P A' → SQ X Ψ rest (ρ.set i (.alb ro A')) R)
    (hs : swapsWith (.Call (.Attribute (.Name x p) mn apos) [a, .Name y yp] [] cpos) none pos.line X.env = pure false := by rfl) (hf : noF mn = true := by decide)
    (hst : starEach [a, .Name y yp] X.env = (false, eval a X.env) :: starEach [.Name y yp] X.env := by exact se_of rfl) (hst2 : starEach [.Name y yp] X.env = (false, eval (.Name y yp) X.env) :: starEach [] X.env := by exact se_of rfl) (hpl : (backTo cpos (starEach [.Name y yp] X.env)).any (·.1) = false := by rfl)
    (ht : eval (.Call (.Attribute (.Name x p) mn apos) [a, .Name y yp] [] cpos) X.env = (do
      let ov ← eval (.Name x p) X.env
      standAt apos.atName
      let (f, first) ← holding [ov] (getMethod ov mn pl)
      callWith cpos f first (backTo cpos (starEach [a, .Name y yp] X.env)) (backToKw cpos (keywordEach [] X.env))) := by rfl)
    (hN : X.N[i]? = some x := by rfl) (hv : Vis X.env.scope x := by first | exact Or.inl rfl | exact Or.inr (Or.inl rfl) | exact Or.inr (Or.inr rfl)) (hN2 : X.N[j]? = some y := by rfl) (hv2 : Vis X.env.scope y := by first | exact Or.inl rfl | exact Or.inr (Or.inl rfl) | exact Or.inr (Or.inr rfl)) (hd : (x == ("__debug__" : Str)) = false := by decide) (hcd : (x == ("__classdict__" : Str)) = false := by decide) (hd2 : (y == ("__debug__" : Str)) = false := by decide) (hcd2 : (y == ("__classdict__" : Str)) = false := by decide) :
    SQ X Ψ (.Expr (.Call (.Attribute (.Name x p) mn apos) [a, .Name y yp] [] cpos) pos :: rest) ρ R :=
  ⟨qs_own2L i j F hr hi hj (Φo := fun A' _ => A'.gnd = true ∧ P A') ((ha.run h).mono fun u h => ⟨u, _, rfl, h⟩) (fun A' _ z => ⟨z.1, (hq A' z.2).run⟩) hs hf hst hst2 hpl ht hN hv hN2 hv2 hd hcd hd2 hcd2⟩
theorem s_newA (i : Nat) {k : Nat} (FI : MkI X.prog X.w X.K X.mg X.base k) (hr : Room (k + 1) X.A) (hq : SQ X Ψ rest (ρ.set i (.alb none ⟨[], [], []⟩)) R)
    (hN : X.N.Nodup) (hi : X.N[i]? = some x := by rfl) (hx : Loc X.env.scope x := by first | exact Or.inl rfl | exact Or.inr rfl) (hs : swapsWith (.Call (.Name "Album" p) [] [] p2) (some (.Name x p1)) pos.line X.env = pure false := by rfl)
    (hf : X.fn x = true ∨ X.env.scope.names.lookup x = some .local := by first | exact .inl rfl | exact .inr rfl) (hg : Gl X "Album" := by rfl) : SQ X Ψ (.Assign [.Name x p1] (.Call (.Name "Album" p) [] [] p2) pos :: rest) ρ R :=
  ⟨qs_newA i FI hr hq.run hN hi hx hs hf hg⟩
theorem s_parO (i j : Nat) {px py pt lp : Pos} {kt k2 : Nat} {pt2 : Pos} {P : List D → D → Prop} (ha : SA X es ρ as_) (hb : SX X b ρ mb) (h : as_ (fun ds => ds.length ≤ 100000 ∧ mb (fun d => P ds d) Ψ) Ψ) (hq : ∀ ds d, P ds d → SQ X Ψ rest ((ρ.set i (.lst ds)).set j (.dat d)) R) (hN : X.N.Nodup) (hij : i ≠ j := by decide) (hi : X.N[i]? = some x := by rfl) (hj : X.N[j]? = some y := by rfl)
    (hx : X.env.scope.names.lookup x = some .local := by rfl) (hy : X.env.scope.names.lookup y = some .local := by rfl) (hc : X.calm = true := by rfl)
    (hw : swappedStores [.Tuple [.Name x px, .Name y py] kt pt] (.Tuple [.List es lp, b] k2 pt2) X.env = pure (some [x, y]) := by rfl)
    (hs : swapsWithSole [.Tuple [.Name x px, .Name y py] kt pt] (.Tuple [.List es lp, b] k2 pt2) pos.line X.env = pure false := by rfl) (he : starEach [.List es lp, b] X.env = (false, eval (.List es lp) X.env) :: starEach [b] X.env := by exact se_of rfl) (he2 : starEach [b] X.env = (false, eval b X.env) :: starEach [] X.env := by exact se_of rfl) :
    SQ X Ψ (.Assign [.Tuple [.Name x px, .Name y py] kt pt] (.Tuple [.List es lp, b] k2 pt2) pos :: rest) ρ R :=
  ⟨qs_parO i j ((ha.run h).mono fun ds h => ⟨h.2.1, (hb.run h.2.2).mono fun d h => (hq ds d h).run⟩) hN hij hi hj hx hy hc hw hs he he2⟩
theorem s_fputS (i : Nat) (hu : X.A.units + 65 < cLine) (ak : AlbK X.K) {P : TD → Prop} (hi : ρ[i]? = some (.alb ro A)) (ha : SX X value ρ ma) (hb : SX X idx ρ mb) (h : ma (fun d => mb (fun k => ∃ n : Str, k = .str n ∧ A.st.length ≤ 100000 ∧ ∀ S, S = tPut A.st n d → P S) Ψ) Ψ) (hq : ∀ S, P S → SQ X Ψ rest (ρ.set i (.alb ro { A with st := S })) R)
    (hs : swapsWith value (some (.Subscript (.Attribute (.Name x p1) "stock" p2) idx p3)) pos.line X.env = pure false := by rfl)
    (hat : attributeBase (.Name x p1) "stock" X.env (eval (.Name x p1) X.env) = eval (.Name x p1) X.env := by rfl)
    (hN : X.N[i]? = some x := by rfl) (hv : Vis X.env.scope x := by first | exact Or.inl rfl | exact Or.inr (Or.inl rfl) | exact Or.inr (Or.inr rfl)) (hd : (x == ("__debug__" : Str)) = false := by decide) (hcd : (x == ("__classdict__" : Str)) = false := by decide) :
    SQ X Ψ (.Assign [.Subscript (.Attribute (.Name x p1) "stock" p2) idx p3] value pos :: rest) ρ R :=
  ⟨qs_fputS i hu ak hi ((ha.run h).mono fun d h => (hb.run h).mono fun k ⟨n, e, hl, z⟩ => ⟨n, e, hl, (hq _ (z _ rfl)).run⟩) hs hat hN hv hd hcd⟩
theorem s_fputM (i : Nat) (hu : X.A.units + 65 < cLine) (ak : AlbK X.K) {P : TD → Prop} (hi : ρ[i]? = some (.alb ro A)) (ha : SX X value ρ ma) (hb : SX X idx ρ mb) (h : ma (fun d => mb (fun k => ∃ n : Str, k = .str n ∧ A.ma.length ≤ 100000 ∧ ∀ S, S = tPut A.ma n d → P S) Ψ) Ψ) (hq : ∀ S, P S → SQ X Ψ rest (ρ.set i (.alb ro { A with ma := S })) R)
    (hs : swapsWith value (some (.Subscript (.Attribute (.Name x p1) "marks" p2) idx p3)) pos.line X.env = pure false := by rfl)
    (hat : attributeBase (.Name x p1) "marks" X.env (eval (.Name x p1) X.env) = eval (.Name x p1) X.env := by rfl)
    (hN : X.N[i]? = some x := by rfl) (hv : Vis X.env.scope x := by first | exact Or.inl rfl | exact Or.inr (Or.inl rfl) | exact Or.inr (Or.inr rfl)) (hd : (x == ("__debug__" : Str)) = false := by decide) (hcd : (x == ("__classdict__" : Str)) = false := by decide) :
    SQ X Ψ (.Assign [.Subscript (.Attribute (.Name x p1) "marks" p2) idx p3] value pos :: rest) ρ R :=
  ⟨qs_fputM i hu ak hi ((ha.run h).mono fun d h => (hb.run h).mono fun k ⟨n, e, hl, z⟩ => ⟨n, e, hl, (hq _ (z _ rfl)).run⟩) hs hat hN hv hd hcd⟩
/-- return e, a list of texts, of one's own album -/
theorem s_retS {k : D → Prop} (i : Nat) (hi : ρ[i]? = some (.alb ro A)) (he : SX X e (ρ.set i (.dat A.d)) m) (h : A.past ≠ [] ∧ m (fun z => (∃ ks : List Str, z = .lst (ks.map D.str)) ∧ k z) bot) (hq : ∀ z, k z → R.ro z ρ) : SQ X Ψ (.Return (some e) pos :: rest) ρ R := ⟨qs_retA (qx_peekS i hi h.1 ((he.run h.2).mono fun z h => ⟨h.1, hq z h.2⟩))⟩
end
end G
namespace G
open PySem PySem.Spec L2
structure o_Album_begin (self1 : Alb) (Φ : Alb → D → Prop) : Prop where run ::
  go : List.length (Alb.past self1) ≤ 100000 ∧ Φ ({ self1 with past := (Alb.st self1, Alb.ma self1) :: Alb.past self1 } : Alb) .non
structure p_common (one1 other2 : D) (Φ : D → Prop) (Ψ : Str → Prop) : Prop where run ::
  go : (una absD (ret one1)) (fun one3 => (una absD (ret other2)) (fun other4 => whileM (S := D × D) (one3, other4) (fun s5 nx9 br10 => (cmpT neB (ret s5.2) (ret (.int 0))) (fun b => if b = true then ((ret s5.2) (fun one11 => (bin modD (ret s5.1) (ret s5.2)) (fun other12 => nx9 (one11, other12)) Ψ) Ψ) else br10 s5) Ψ) (fun (s7 : D × D) => (ret s7.1) Φ Ψ)) Ψ) Ψ
structure p_is_number (thing1 : D) (Φ : D → Prop) (Ψ : Str → Prop) : Prop where run ::
  go : (andV (una (isiD D.isIB) (ret thing1)) (notV (una (isiD D.isB) (ret thing1)))) Φ Ψ
structure p_is_point (thing1 : D) (Φ : D → Prop) (Ψ : Str → Prop) : Prop where run ::
  go : (orT (notT (tv (una (isiD D.isT) (ret thing1)))) (orT (cmpT neB (una lnD (ret thing1)) (ret (.int 3))) (notT (tv (una allD (lcE (itE (ret thing1)) (fun one4 k2 => (c1 p_is_number (ret one4)) (fun y3 => k2 (some y3)) bot))))))) (fun b => if b = true then ((ret (.bl false)) Φ Ψ) else ((andV (cmpV gtB (bin ixD (ret thing1) (ret (.int 2))) (ret (.int 0))) (cmpV eqB (c2 p_common (c2 p_common (bin ixD (ret thing1) (ret (.int 0))) (bin ixD (ret thing1) (ret (.int 1)))) (bin ixD (ret thing1) (ret (.int 2)))) (ret (.int 1)))) Φ Ψ)) Ψ
structure p_is_heap (thing1 : D) (Φ : D → Prop) (Ψ : Str → Prop) : Prop where run ::
  go : (orT (notT (tv (una (isiD fun d => D.isL d || D.isT d) (ret thing1)))) (orT (notT (chnT leB leB (ret (.int 2)) (una lnD (ret thing1)) (ret (.int 14)))) (notT (tv (una allD (lcE (itE (ret thing1)) (fun one4 k2 => (c1 p_is_point (ret one4)) (fun y3 => k2 (some y3)) bot))))))) (fun b => if b = true then ((ret (.bl false)) Φ Ψ) else ((cmpV eqB (una lnD (dcE (itE (ret thing1)) (fun one8 k5 => (ret one8) (fun y6 => (ret (.bl true)) (fun z7 => k5 (some (y6, z7))) bot) bot))) (una lnD (ret thing1))) Φ Ψ)) Ψ
structure p_look_heaps (things1 : D) (Φ : D → Prop) (Ψ : Str → Prop) : Prop where run ::
  go : (notT (tv (una allD (lcE (itE (ret things1)) (fun one4 k2 => (c1 p_is_heap (ret one4)) (fun y3 => k2 (some y3)) bot))))) (fun b => if b = true then (Ψ "BadHeap") else (Φ .non)) Ψ
structure p_ahead (p1 q2 : D) (Φ : D → Prop) (Ψ : Str → Prop) : Prop where run ::
  go : (bin subD (bin mulD (bin ixD (ret p1) (ret (.int 0))) (bin ixD (ret q2) (ret (.int 2)))) (bin mulD (bin ixD (ret q2) (ret (.int 0))) (bin ixD (ret p1) (ret (.int 2))))) (fun across3 => (orV (cmpV ltB (ret across3) (ret (.int 0))) (andV (cmpV eqB (ret across3) (ret (.int 0))) (cmpV ltB (bin mulD (bin ixD (ret p1) (ret (.int 1))) (bin ixD (ret q2) (ret (.int 2)))) (bin mulD (bin ixD (ret q2) (ret (.int 1))) (bin ixD (ret p1) (ret (.int 2))))))) Φ Ψ) Ψ
structure p_in_order (points1 : D) (Φ : D → Prop) (Ψ : Str → Prop) : Prop where run ::
  go : (itE (ret points1)) (fun ds => forL (fun one8 (s2 : List D) nx6 br7 => (ret (.int 0)) (fun at9 => whileM (S := D) at9 (fun s10 nx17 br18 => (andT (cmpT ltB (ret s10) (una lnD (ret (.lst s2)))) (notT (tv (c2 p_ahead (ret one8) (bin ixD (ret (.lst s2)) (ret s10)))))) (fun b => if b = true then (augD addI s10 (ret (.int 1)) (fun at19 => nx17 at19) Ψ) else br18 s10) Ψ) (fun (s12 : D) => (ret s12) (fun j14 => (ret one8) (fun d15 => List.length (α := D) s2 ≤ 100000 ∧ ∃ n16 : Nat, j14 = .int n16 ∧ n16 ≤ List.length (α := D) s2 ∧ nx6 (insL s2 n16 d15)) Ψ) Ψ)) Ψ) (fun (s4 : List D) => (ret (.lst s4)) Φ Ψ) ds []) Ψ
structure p_heap (points1 : D) (Φ : D → Prop) (Ψ : Str → Prop) : Prop where run ::
  go : (c1 p_look_heaps (lstE (consA (ret points1) nilA))) (fun _ => (una tupleD (c1 p_in_order (ret points1))) Φ Ψ) Ψ
structure p_share (top1 below2 : D) (Φ : D → Prop) (Ψ : Str → Prop) : Prop where run ::
  go : (c2 p_common (ret top1) (ret below2)) (fun by3 => (ifE (cmpT gtB (ret below2) (ret (.int 0))) (ret by3) (una negD (ret by3))) (fun by4 => (tupE (consA (bin fdivD (ret top1) (ret by4)) (consA (bin fdivD (ret below2) (ret by4)) nilA))) Φ Ψ) Ψ) Ψ
structure p_size (p1 : D) (Φ : D → Prop) (Ψ : Str → Prop) : Prop where run ::
  go : (c2 p_share (bin addD (bin mulD (bin ixD (ret p1) (ret (.int 0))) (bin ixD (ret p1) (ret (.int 0)))) (bin mulD (bin ixD (ret p1) (ret (.int 1))) (bin ixD (ret p1) (ret (.int 1))))) (bin mulD (bin ixD (ret p1) (ret (.int 2))) (bin ixD (ret p1) (ret (.int 2))))) Φ Ψ
structure p_lowest (a1 b2 w3 : D) (Φ : D → Prop) (Ψ : Str → Prop) : Prop where run ::
  go : (c2 p_common (c2 p_common (ret a1) (ret b2)) (ret w3)) (fun by4 => (ifE (cmpT gtB (ret w3) (ret (.int 0))) (ret by4) (una negD (ret by4))) (fun by5 => (tupE (consA (bin fdivD (ret a1) (ret by5)) (consA (bin fdivD (ret b2) (ret by5)) (consA (bin fdivD (ret w3) (ret by5)) nilA)))) Φ Ψ) Ψ) Ψ
structure p_minus (p1 q2 : D) (Φ : D → Prop) (Ψ : Str → Prop) : Prop where run ::
  go : (c3 p_lowest (bin subD (bin mulD (bin ixD (ret p1) (ret (.int 0))) (bin ixD (ret q2) (ret (.int 2)))) (bin mulD (bin ixD (ret q2) (ret (.int 0))) (bin ixD (ret p1) (ret (.int 2))))) (bin subD (bin mulD (bin ixD (ret p1) (ret (.int 1))) (bin ixD (ret q2) (ret (.int 2)))) (bin mulD (bin ixD (ret q2) (ret (.int 1))) (bin ixD (ret p1) (ret (.int 2))))) (bin mulD (bin ixD (ret p1) (ret (.int 2))) (bin ixD (ret q2) (ret (.int 2))))) Φ Ψ
structure p_gap (p1 q2 : D) (Φ : D → Prop) (Ψ : Str → Prop) : Prop where run ::
  go : (c1 p_size (c2 p_minus (ret p1) (ret q2))) Φ Ψ
structure p_gaps_of (points1 : D) (Φ : D → Prop) (Ψ : Str → Prop) : Prop where run ::
  go : (enumE2 (ret points1)) (fun ds => forL (fun d8 (s2 : List (D × D)) nx6 br7 => un2 d8 fun k9 one10 => (itE (slE (ret points1) (someO (bin addD (ret k9) (ret (.int 1)))) noneO)) (fun ds => forL (fun other17 (s11 : List (D × D)) nx15 br16 => (c2 p_gap (ret one10) (ret other17)) (fun square18 => (flatM (bin addD (getE2 (ret (dctD s11)) (ret square18) (ret (.int 0))) (ret (.int 1)))) (fun v19 => (ret square18) (fun y20 => (List.length (α := D × D) s11 ≤ 100000 ∧ D.key y20 = true) ∧ nx15 (dPut s11 y20 v19)) Ψ) Ψ) Ψ) (fun (s13 : List (D × D)) => nx6 s13) ds s2) Ψ) (fun (s4 : List (D × D)) => (ret (dctD s4)) Φ Ψ) ds []) Ψ
structure p_widest_of (points1 : D) (Φ : D → Prop) (Ψ : Str → Prop) : Prop where run ::
  go : (ret (.non)) (fun best2 => (itE (c1 p_gaps_of (ret points1))) (fun ds => forL (fun square9 (s3 : D) nx7 br8 => join (fun (best11 : D) => nx7 best11) (fun k10 => (orT (cmpT isNB (ret s3) (ret (.non))) (cmpT gtB (bin mulD (bin ixD (ret square9) (ret (.int 0))) (bin ixD (ret s3) (ret (.int 1)))) (bin mulD (bin ixD (ret s3) (ret (.int 0))) (bin ixD (ret square9) (ret (.int 1)))))) (fun b => if b = true then ((ret square9) (fun best12 => k10 (best12)) Ψ) else (k10 (s3))) Ψ)) (fun (s5 : D) => (ret s5) Φ Ψ) ds best2) Ψ) Ψ
structure p_by (p1 q2 : D) (Φ : D → Prop) (Ψ : Str → Prop) : Prop where run ::
  go : (bin addD (bin mulD (bin ixD (ret q2) (ret (.int 0))) (bin ixD (ret q2) (ret (.int 0)))) (bin mulD (bin ixD (ret q2) (ret (.int 1))) (bin ixD (ret q2) (ret (.int 1))))) (fun square3 => (c3 p_lowest (bin mulD (bin addD (bin mulD (bin ixD (ret p1) (ret (.int 0))) (bin ixD (ret q2) (ret (.int 0)))) (bin mulD (bin ixD (ret p1) (ret (.int 1))) (bin ixD (ret q2) (ret (.int 1))))) (bin ixD (ret q2) (ret (.int 2)))) (bin mulD (bin subD (bin mulD (bin ixD (ret p1) (ret (.int 1))) (bin ixD (ret q2) (ret (.int 0)))) (bin mulD (bin ixD (ret p1) (ret (.int 0))) (bin ixD (ret q2) (ret (.int 1))))) (bin ixD (ret q2) (ret (.int 2)))) (bin mulD (bin ixD (ret p1) (ret (.int 2))) (ret square3))) Φ Ψ) Ψ
structure p_flipped (p1 : D) (Φ : D → Prop) (Ψ : Str → Prop) : Prop where run ::
  go : (tupE (consA (bin ixD (ret p1) (ret (.int 0))) (consA (una negD (bin ixD (ret p1) (ret (.int 1)))) (consA (bin ixD (ret p1) (ret (.int 2))) nilA)))) Φ Ψ
structure p_rows_of (points1 : D) (Φ : D → Prop) (Ψ : Str → Prop) : Prop where run ::
  go : (c1 p_widest_of (ret points1)) (fun far2 => (itE (ret points1)) (fun ds => forL (fun a9 (s3 : List D) nx7 br8 => (itE (ret points1)) (fun ds => forL (fun b16 (s10 : List D) nx14 br15 => join (fun (found18 : List D) => nx14 found18) (fun k17 => (andT (cmpT neB (ret a9) (ret b16)) (cmpT eqB (c2 p_gap (ret a9) (ret b16)) (ret far2))) (fun b => if b = true then (lcE (itE (ret points1)) (fun p23 k21 => (c2 p_by (c2 p_minus (ret p23) (ret a9)) (c2 p_minus (ret b16) (ret a9))) (fun y22 => k21 (some y22)) bot) (fun row20 => (una tupleD (c1 p_in_order (ret row20))) (fun d24 => List.length (α := D) s10 ≤ 100000 ∧ (una tupleD (c1 p_in_order (lcE (itE (ret row20)) (fun p27 k25 => (c1 p_flipped (ret p27)) (fun y26 => k25 (some y26)) bot)))) (fun d28 => List.length (α := D) (s10 ++ [d24]) ≤ 100000 ∧ k17 (((s10 ++ [d24]) ++ [d28]))) Ψ) Ψ) Ψ) else (k17 (s10))) Ψ)) (fun (s12 : List D) => nx7 s12) ds s3) Ψ) (fun (s5 : List D) => (ret (.lst s5)) Φ Ψ) ds []) Ψ) Ψ
structure p_comes_first (one1 other2 : D) (Φ : D → Prop) (Ψ : Str → Prop) : Prop where run ::
  go : (zipM (ret one1) (ret other2)) (fun ds => forL (fun d9 (s3 : Unit) nx7 br8 => un2 d9 fun p10 q11 => (cmpT neB (ret p10) (ret q11)) (fun b => if b = true then ((c2 p_ahead (ret p10) (ret q11)) Φ Ψ) else (nx7 ())) Ψ) (fun (s5 : Unit) => (ret (.bl false)) Φ Ψ) ds ()) Ψ
structure p_shape (points1 : D) (Φ : D → Prop) (Ψ : Str → Prop) : Prop where run ::
  go : (c1 p_look_heaps (lstE (consA (ret points1) nilA))) (fun _ => (c1 p_rows_of (ret points1)) (fun rows2 => (bin ixD (ret rows2) (ret (.int 0))) (fun best3 => (itE (ret rows2)) (fun ds => forL (fun row10 (s4 : D) nx8 br9 => join (fun (best12 : D) => nx8 best12) (fun k11 => (tv (c2 p_comes_first (ret row10) (ret s4))) (fun b => if b = true then ((ret row10) (fun best13 => k11 (best13)) Ψ) else (k11 (s4))) Ψ)) (fun (s6 : D) => (ret s6) Φ Ψ) ds best3) Ψ) Ψ) Ψ) Ψ
structure p_form (points1 : D) (Φ : D → Prop) (Ψ : Str → Prop) : Prop where run ::
  go : (c1 p_look_heaps (lstE (consA (ret points1) nilA))) (fun _ => (tupE (consA (c1 p_widest_of (ret points1)) (consA (c1 p_shape (ret points1)) nilA))) Φ Ψ) Ψ
structure p_Album_named (self1 mark2 : D) (Φ : D → Prop) (Ψ : Str → Prop) : Prop where run ::
  go : (una sortTD (lcE (itTx (una fldM (ret self1))) (fun one5 k3 => (cmpT eqB (bin ixTD (una fldM (ret self1)) (ret one5)) (ret mark2)) (fun b => if b = true then (ret one5) (fun y4 => k3 (some y4)) bot else k3 none) bot))) Φ Ψ
structure p_Album_put (self1 name2 points3 : D) (Φ : D → Prop) (Ψ : Str → Prop) : Prop where run ::
  go : (orT (notT (tv (una (isiD D.isS) (ret name2)))) (cmpT eqB (ret name2) (ret (.str "")))) (fun b => if b = true then (Ψ "BadName") else ((c1 p_look_heaps (lstE (consA (ret points3) nilA))) (fun _ => False) Ψ)) Ψ
structure o_Album_put (self1 : Alb) (name2 points3 : D) (Φ : Alb → D → Prop) : Prop where run ::
  go : (orT (notT (tv (una (isiD D.isS) (ret name2)))) (cmpT eqB (ret name2) (ret (.str "")))) (fun b => if b = true then (bot "BadName") else ((c1 p_look_heaps (lstE (consA (ret points3) nilA))) (fun _ => o_Album_begin self1 (fun A4 _ => (c1 p_heap (ret points3)) (fun d5 => (ret name2) (fun y6 => ∃ n7 : Str, y6 = .str n7 ∧ List.length (Alb.st A4) ≤ 100000 ∧ ∀ S8, S8 = tPut (Alb.st A4) n7 d5 → (c1 p_form (ret points3)) (fun d9 => (ret name2) (fun y10 => ∃ n11 : Str, y10 = .str n11 ∧ List.length (Alb.ma ({ A4 with st := S8 } : Alb)) ≤ 100000 ∧ ∀ S12, S12 = tPut (Alb.ma ({ A4 with st := S8 } : Alb)) n11 d9 → Alb.past ({ ({ A4 with st := S8 } : Alb) with ma := S12 } : Alb) ≠ [] ∧ (lcE (itE (mt1 p_Album_named (ret (Alb.d ({ ({ A4 with st := S8 } : Alb) with ma := S12 } : Alb))) (bin ixTD (una fldM (ret (Alb.d ({ ({ A4 with st := S8 } : Alb) with ma := S12 } : Alb)))) (ret name2)))) (fun one15 k13 => (cmpT neB (ret one15) (ret name2)) (fun b => if b = true then (ret one15) (fun y14 => k13 (some y14)) bot else k13 none) bot)) (fun z => (∃ ks : List Str, z = .lst (ks.map D.str)) ∧ Φ ({ ({ A4 with st := S8 } : Alb) with ma := S12 } : Alb) z) bot) bot) bot) bot) bot)) bot)) bot
structure p_Album_undo (self1 : D) (Φ : D → Prop) (Ψ : Str → Prop) : Prop where run ::
  go : (pastT (ret self1)) (fun b => if b = true then (Ψ "NoThing") else (False)) Ψ
structure o_Album_undo (self1 : Alb) (Φ : Alb → D → Prop) : Prop where run ::
  go : (botT (pastT (ret (Alb.d self1)))) (fun b => if b = true then (bot "NoThing") else (∃ (T2 : TD × TD) (ps3 : List (TD × TD)), Alb.past self1 = T2 :: ps3 ∧ Φ (⟨T2.1, T2.2, ps3⟩ : Alb) .non)) bot
structure p_law_pick (town_here1 some2 : D) (Φ : D → Prop) (Ψ : Str → Prop) : Prop where run ::
  go : (bin ixD (ret some2) (c2 p_law_draw (ret town_here1) (una lnD (ret some2)))) Φ Ψ
structure p_law_gcd (one1 two2 : D) (Φ : D → Prop) (Ψ : Str → Prop) : Prop where run ::
  go : (bin maxD (ret one1) (bin subD (ret (.int 0)) (ret one1))) (fun one3 => (bin maxD (ret two2) (bin subD (ret (.int 0)) (ret two2))) (fun two4 => whileM (S := D × D) (one3, two4) (fun s5 nx9 br10 => (cmpT neB (ret s5.2) (ret (.int 0))) (fun b => if b = true then ((ret s5.2) (fun one11 => (bin modD (ret s5.1) (ret s5.2)) (fun two12 => nx9 (one11, two12)) Ψ) Ψ) else br10 s5) Ψ) (fun (s7 : D × D) => (ret s7.1) Φ Ψ)) Ψ) Ψ
structure p_law_low (px1 py2 pw3 : D) (Φ : D → Prop) (Ψ : Str → Prop) : Prop where run ::
  go : (c2 p_law_gcd (c2 p_law_gcd (ret px1) (ret py2)) (ret pw3)) (fun div4 => (ifE (cmpT gtB (ret pw3) (ret (.int 0))) (ret div4) (bin subD (ret (.int 0)) (ret div4))) (fun div5 => (tupE (consA (bin fdivD (ret px1) (ret div5)) (consA (bin fdivD (ret py2) (ret div5)) (consA (bin fdivD (ret pw3) (ret div5)) nilA)))) Φ Ψ) Ψ) Ψ
structure p_law_turn (town_here1 : D) (Φ : D → Prop) (Ψ : Str → Prop) : Prop where run ::
  go : (c2 p_law_pick (ret town_here1) (ret (.lst [.tup [.int 1, .int 0, .int 1], .tup [.int 0, .int 1, .int 1], .tup [.int 3, .int 4, .int 5], .tup [.int 4, .int 3, .int 5], .tup [.int 5, .int 12, .int 13]]))) (fun d => un3 d fun a2 b3 w4 => (c3 p_law_low (bin mulD (ret a2) (c2 p_law_pick (ret town_here1) (ret (.lst [.int 1, .int (0 - 1)])))) (bin mulD (ret b3) (c2 p_law_pick (ret town_here1) (ret (.lst [.int 1, .int (0 - 1)])))) (ret w4)) Φ Ψ) Ψ
structure p_law_point (town_here1 broad2 : D) (Φ : D → Prop) (Ψ : Str → Prop) : Prop where run ::
  go : (bin subD (c2 p_law_draw (ret town_here1) (bin addD (bin mulD (ret (.int 2)) (ret broad2)) (ret (.int 1)))) (ret broad2)) (fun px3 => (bin subD (c2 p_law_draw (ret town_here1) (bin addD (bin mulD (ret (.int 2)) (ret broad2)) (ret (.int 1)))) (ret broad2)) (fun py4 => (c3 p_law_low (ret px3) (ret py4) (c2 p_law_pick (ret town_here1) (ret (.lst [.int 1, .int 1, .int 1, .int 2, .int 3])))) Φ Ψ) Ψ) Ψ
structure p_law_motion (town_here1 : D) (Φ : D → Prop) (Ψ : Str → Prop) : Prop where run ::
  go : (tupE (consA (c1 p_law_turn (ret town_here1)) (consA (c2 p_law_point (ret town_here1) (ret (.int 4))) (consA (c2 p_law_draw (ret town_here1) (ret (.int 2))) nilA)))) Φ Ψ
structure p_Album_names (self1 : D) (Φ : D → Prop) (Ψ : Str → Prop) : Prop where run ::
  go : (una sortTD (una fldS (ret self1))) Φ Ψ
structure p_Album_groups (self1 : D) (Φ : D → Prop) (Ψ : Str → Prop) : Prop where run ::
  go : (itE (una sortTD (una fldS (ret self1)))) (fun ds => forL (fun name8 (s2 : List D) nx6 br7 => (mt1 p_Album_named (ret self1) (bin ixTD (una fldM (ret self1)) (ret name8))) (fun row9 => join (fun (found11 : List D) => nx6 found11) (fun k10 => (cmpT eqB (bin ixD (ret row9) (ret (.int 0))) (ret name8)) (fun b => if b = true then ((ret row9) (fun d12 => List.length (α := D) s2 ≤ 100000 ∧ k10 ((s2 ++ [d12]))) Ψ) else (k10 (s2))) Ψ)) Ψ) (fun (s4 : List D) => (ret (.lst s4)) Φ Ψ) ds []) Ψ
structure p_Album_find (self1 points2 : D) (Φ : D → Prop) (Ψ : Str → Prop) : Prop where run ::
  go : (c1 p_look_heaps (lstE (consA (ret points2) nilA))) (fun _ => (mt1 p_Album_named (ret self1) (c1 p_form (ret points2))) Φ Ψ) Ψ
structure p_Album___len__ (self1 : D) (Φ : D → Prop) (Ψ : Str → Prop) : Prop where run ::
  go : (una lnTD (una fldS (ret self1))) Φ Ψ
structure p_Album_look_there (self1 name2 : D) (Φ : D → Prop) (Ψ : Str → Prop) : Prop where run ::
  go : (orT (notT (tv (una (isiD D.isS) (ret name2)))) (cmpT ninTB (ret name2) (una fldS (ret self1)))) (fun b => if b = true then (Ψ "BadName") else (Φ .non)) Ψ
structure p_Album_shown (self1 name2 : D) (Φ : D → Prop) (Ψ : Str → Prop) : Prop where run ::
  go : (mt1 p_Album_look_there (ret self1) (ret name2)) (fun _ => (bin ixTD (una fldS (ret self1)) (ret name2)) Φ Ψ) Ψ
structure p_Album_find_shape (self1 points2 : D) (Φ : D → Prop) (Ψ : Str → Prop) : Prop where run ::
  go : (c1 p_look_heaps (lstE (consA (ret points2) nilA))) (fun _ => (c1 p_shape (ret points2)) (fun row3 => (una sortTD (lcE (itTx (una fldM (ret self1))) (fun one6 k4 => (cmpT eqB (bin ixD (bin ixTD (una fldM (ret self1)) (ret one6)) (ret (.int 1))) (ret row3)) (fun b => if b = true then (ret one6) (fun y5 => k4 (some y5)) bot else k4 none) bot))) Φ Ψ) Ψ) Ψ
structure p_Album_drop (self1 name2 : D) (Φ : D → Prop) (Ψ : Str → Prop) : Prop where run ::
  go : (mt1 p_Album_look_there (ret self1) (ret name2)) (fun _ => False) Ψ
structure p_is_whole (thing1 low2 high3 : D) (Φ : D → Prop) (Ψ : Str → Prop) : Prop where run ::
  go : (andV (c1 p_is_number (ret thing1)) (chnV leB leB (ret low2) (ret thing1) (ret high3))) Φ Ψ
structure p_is_motion (thing1 : D) (Φ : D → Prop) (Ψ : Str → Prop) : Prop where run ::
  go : (orT (notT (tv (una (isiD D.isT) (ret thing1)))) (orT (cmpT neB (una lnD (ret thing1)) (ret (.int 3))) (orT (notT (tv (c1 p_is_point (bin ixD (ret thing1) (ret (.int 0)))))) (notT (tv (c1 p_is_point (bin ixD (ret thing1) (ret (.int 1))))))))) (fun b => if b = true then ((ret (.bl false)) Φ Ψ) else ((andV (cmpV eqB (c1 p_size (bin ixD (ret thing1) (ret (.int 0)))) (ret (.tup [.int 1, .int 1]))) (c3 p_is_whole (bin ixD (ret thing1) (ret (.int 2))) (ret (.int 0)) (ret (.int 1)))) Φ Ψ)) Ψ
structure p_look_motion (thing1 : D) (Φ : D → Prop) (Ψ : Str → Prop) : Prop where run ::
  go : (notT (tv (c1 p_is_motion (ret thing1)))) (fun b => if b = true then (Ψ "BadMotion") else (Φ .non)) Ψ
structure p_plus (p1 q2 : D) (Φ : D → Prop) (Ψ : Str → Prop) : Prop where run ::
  go : (c3 p_lowest (bin addD (bin mulD (bin ixD (ret p1) (ret (.int 0))) (bin ixD (ret q2) (ret (.int 2)))) (bin mulD (bin ixD (ret q2) (ret (.int 0))) (bin ixD (ret p1) (ret (.int 2))))) (bin addD (bin mulD (bin ixD (ret p1) (ret (.int 1))) (bin ixD (ret q2) (ret (.int 2)))) (bin mulD (bin ixD (ret q2) (ret (.int 1))) (bin ixD (ret p1) (ret (.int 2))))) (bin mulD (bin ixD (ret p1) (ret (.int 2))) (bin ixD (ret q2) (ret (.int 2))))) Φ Ψ
structure p_times (p1 q2 : D) (Φ : D → Prop) (Ψ : Str → Prop) : Prop where run ::
  go : (c3 p_lowest (bin subD (bin mulD (bin ixD (ret p1) (ret (.int 0))) (bin ixD (ret q2) (ret (.int 0)))) (bin mulD (bin ixD (ret p1) (ret (.int 1))) (bin ixD (ret q2) (ret (.int 1))))) (bin addD (bin mulD (bin ixD (ret p1) (ret (.int 0))) (bin ixD (ret q2) (ret (.int 1)))) (bin mulD (bin ixD (ret p1) (ret (.int 1))) (bin ixD (ret q2) (ret (.int 0))))) (bin mulD (bin ixD (ret p1) (ret (.int 2))) (bin ixD (ret q2) (ret (.int 2))))) Φ Ψ
structure p_led_by (motion1 p2 : D) (Φ : D → Prop) (Ψ : Str → Prop) : Prop where run ::
  go : (ret motion1) (fun d => un3 d fun turn3 shift4 flip5 => (c2 p_plus (c2 p_times (ret turn3) (ifE (cmpT eqB (ret flip5) (ret (.int 1))) (c1 p_flipped (ret p2)) (ret p2))) (ret shift4)) Φ Ψ) Ψ
structure p_Album_move (self1 name2 motion3 : D) (Φ : D → Prop) (Ψ : Str → Prop) : Prop where run ::
  go : (mt1 p_Album_look_there (ret self1) (ret name2)) (fun _ => (c1 p_look_motion (ret motion3)) (fun _ => False) Ψ) Ψ
structure p_both_leading (a1 b2 c3 d4 : D) (Φ : D → Prop) (Ψ : Str → Prop) : Prop where run ::
  go : (c2 p_by (c2 p_minus (ret d4) (ret c3)) (c2 p_minus (ret b2) (ret a1))) (fun first5 => (c2 p_by (c2 p_minus (ret d4) (ret c3)) (c1 p_flipped (c2 p_minus (ret b2) (ret a1)))) (fun second6 => (tupE (consA (tupE (consA (ret first5) (consA (c2 p_minus (ret c3) (c2 p_times (ret first5) (ret a1))) (consA (ret (.int 0)) nilA)))) (consA (tupE (consA (ret second6) (consA (c2 p_minus (ret c3) (c2 p_times (ret second6) (c1 p_flipped (ret a1)))) (consA (ret (.int 1)) nilA)))) nilA))) Φ Ψ) Ψ) Ψ
structure p_all_laying (one1 other2 : D) (Φ : D → Prop) (Ψ : Str → Prop) : Prop where run ::
  go : (cmpT neB (una lnD (ret one1)) (una lnD (ret other2))) (fun b => if b = true then ((ret (.lst [])) Φ Ψ) else ((slE (c1 p_in_order (ret one1)) noneO (someO (ret (.int 2)))) (fun d => un2 d fun a3 b4 => (dcE (itE (ret other2)) (fun p9 k6 => (ret p9) (fun y7 => (ret (.bl true)) (fun z8 => k6 (some (y7, z8))) bot) bot)) (fun goal5 => (itE (ret other2)) (fun ds => forL (fun c16 (s10 : List (D × D)) nx14 br15 => (itE (ret other2)) (fun ds => forL (fun d23 (s17 : List (D × D)) nx21 br22 => join (fun (found25 : List (D × D)) => nx21 found25) (fun k24 => (andT (cmpT neB (ret c16) (ret d23)) (cmpT eqB (c2 p_gap (ret a3) (ret b4)) (c2 p_gap (ret c16) (ret d23)))) (fun b => if b = true then ((itE (c4 p_both_leading (ret a3) (ret b4) (ret c16) (ret d23))) (fun ds => forL (fun motion33 (s27 : List (D × D)) nx31 br32 => join (fun (found38 : List (D × D)) => nx31 found38) (fun k37 => (tv (una allD (lcE (itE (ret one1)) (fun p36 k34 => (cmpV inB (c2 p_led_by (ret motion33) (ret p36)) (ret goal5)) (fun y35 => k34 (some y35)) bot)))) (fun b => if b = true then ((ret (.bl true)) (fun v39 => (ret motion33) (fun y40 => (List.length (α := D × D) s27 ≤ 100000 ∧ D.key y40 = true) ∧ k37 ((dPut s27 y40 v39))) Ψ) Ψ) else (k37 (s27))) Ψ)) (fun (s29 : List (D × D)) => k24 (s29)) ds s17) Ψ) else (k24 (s17))) Ψ)) (fun (s19 : List (D × D)) => nx14 s19) ds s10) Ψ) (fun (s12 : List (D × D)) => (una sortedD (ret (dctD s12))) Φ Ψ) ds []) Ψ) Ψ) Ψ)) Ψ
structure p_Album_way (self1 one2 other3 : D) (Φ : D → Prop) (Ψ : Str → Prop) : Prop where run ::
  go : (mt1 p_Album_look_there (ret self1) (ret one2)) (fun _ => (mt1 p_Album_look_there (ret self1) (ret other3)) (fun _ => (c2 p_all_laying (bin ixTD (una fldS (ret self1)) (ret one2)) (bin ixTD (una fldS (ret self1)) (ret other3))) (fun found4 => (cmpT eqB (ret found4) (ret (.lst []))) (fun b => if b = true then (Ψ "NoThing") else ((bin ixD (ret found4) (ret (.int 0))) Φ Ψ)) Ψ) Ψ) Ψ) Ψ
structure p_law_does (album1 sort_of2 one3 two4 : D) (Φ : D → Prop) (Ψ : Str → Prop) : Prop where run ::
  go : (cmpT eqB (ret sort_of2) (ret (.int 0))) (fun b => if b = true then ((mt2 p_Album_put (ret album1) (ret one3) (ret two4)) Φ Ψ) else ((cmpT eqB (ret sort_of2) (ret (.int 1))) (fun b => if b = true then ((mt1 p_Album_drop (ret album1) (ret one3)) Φ Ψ) else ((cmpT eqB (ret sort_of2) (ret (.int 2))) (fun b => if b = true then ((mt1 p_Album_shown (ret album1) (ret one3)) Φ Ψ) else ((cmpT eqB (ret sort_of2) (ret (.int 3))) (fun b => if b = true then ((mt2 p_Album_move (ret album1) (ret one3) (ret two4)) Φ Ψ) else ((cmpT eqB (ret sort_of2) (ret (.int 4))) (fun b => if b = true then ((mt2 p_Album_way (ret album1) (ret one3) (ret two4)) Φ Ψ) else ((ifE (cmpT eqB (ret sort_of2) (ret (.int 5))) (mt1 p_Album_find (ret album1) (ret two4)) (ifE (cmpT eqB (ret sort_of2) (ret (.int 6))) (mt1 p_Album_find_shape (ret album1) (ret two4)) (mt0 p_Album_undo (ret album1)))) Φ Ψ)) Ψ)) Ψ)) Ψ)) Ψ)) Ψ
structure p_law_refusal (caught1 : D) (Φ : D → Prop) (Ψ : Str → Prop) : Prop where run ::
  go : (lstE (consA (una (isxD "BadNumber") (ret caught1)) (consA (una (isxD "BadPoint") (ret caught1)) (consA (una (isxD "BadMotion") (ret caught1)) nilA)))) (fun sorts2 => (bin addD (ret sorts2) (lstE (consA (una (isxD "BadHeap") (ret caught1)) (consA (una (isxD "BadPairs") (ret caught1)) (consA (una (isxD "BadName") (ret caught1)) nilA))))) (fun sorts3 => (bin addD (ret sorts3) (lstE (consA (una (isxD "BadText") (ret caught1)) (consA (una (isxD "NoThing") (ret caught1)) nilA)))) (fun sorts4 => (orT (cmpT neB (mthL cntD (ret sorts4) (ret (.bl true))) (ret (.int 1))) (orT (notT (tv (una (isxD "OverError") (ret caught1)))) (notT (tv (una (isxD "ValueError") (ret caught1)))))) (fun b => if b = true then ((ret (.str "odd")) Φ Ψ) else ((bin ixD (ret (.lst [.str "number", .str "point", .str "motion", .str "heap", .str "pairs", .str "name", .str "text", .str "none"])) (mthL idxD (ret sorts4) (ret (.bl true)))) Φ Ψ)) Ψ) Ψ) Ψ) Ψ
structure p_law_asked (album1 sort_of2 one3 two4 : D) (Φ : D → Prop) (Ψ : Str → Prop) : Prop where run ::
  go : (ret (.non)) (fun caught5 => join (fun (caught8 : D) => (ifE (cmpT isNB (ret caught8) (ret (.non))) (ret (.str "told")) (c1 p_law_refusal (ret caught8))) Φ Ψ) (fun k6 => (c4 p_law_does (ret album1) (ret sort_of2) (ret one3) (ret two4)) (fun _ => k6 (caught5)) (fun z7 => z7 ∈ excN ∧ k6 ((excD z7))))) Ψ
structure p_mean_of (points1 : D) (Φ : D → Prop) (Ψ : Str → Prop) : Prop where run ::
  go : (ret (Pt.mk 0 0 1).d) (fun found2 => (itE (ret points1)) (fun ds => forL (fun one9 (s3 : D) nx7 br8 => (c2 p_plus (ret s3) (ret one9)) (fun found10 => nx7 found10) Ψ) (fun (s5 : D) => (c3 p_lowest (bin ixD (ret s5) (ret (.int 0))) (bin ixD (ret s5) (ret (.int 1))) (bin mulD (bin ixD (ret s5) (ret (.int 2))) (una lnD (ret points1)))) Φ Ψ) ds found2) Ψ) Ψ
structure p_all_placings (pattern1 points2 : D) (Φ : D → Prop) (Ψ : Str → Prop) : Prop where run ::
  go : (slE (c1 p_in_order (ret pattern1)) noneO (someO (ret (.int 2)))) (fun d => un2 d fun a3 b4 => (dcE (itE (ret points2)) (fun p9 k6 => (ret p9) (fun y7 => (ret (.bl true)) (fun z8 => k6 (some (y7, z8))) bot) bot)) (fun goal5 => (itE (ret points2)) (fun ds => forL (fun c16 (s10 : List (D × D)) nx14 br15 => (itE (ret points2)) (fun ds => forL (fun d23 (s17 : List (D × D)) nx21 br22 => join (fun (found25 : List (D × D)) => nx21 found25) (fun k24 => (andT (cmpT neB (ret c16) (ret d23)) (cmpT eqB (c2 p_gap (ret a3) (ret b4)) (c2 p_gap (ret c16) (ret d23)))) (fun b => if b = true then ((itE (c4 p_both_leading (ret a3) (ret b4) (ret c16) (ret d23))) (fun ds => forL (fun motion33 (s27 : List (D × D)) nx31 br32 => join (fun (found38 : List (D × D)) => nx31 found38) (fun k37 => (tv (una allD (lcE (itE (ret pattern1)) (fun p36 k34 => (cmpV inB (c2 p_led_by (ret motion33) (ret p36)) (ret goal5)) (fun y35 => k34 (some y35)) bot)))) (fun b => if b = true then ((ret (.bl true)) (fun v39 => (ret motion33) (fun y40 => (List.length (α := D × D) s27 ≤ 100000 ∧ D.key y40 = true) ∧ k37 ((dPut s27 y40 v39))) Ψ) Ψ) else (k37 (s27))) Ψ)) (fun (s29 : List (D × D)) => k24 (s29)) ds s17) Ψ) else (k24 (s17))) Ψ)) (fun (s19 : List (D × D)) => nx14 s19) ds s10) Ψ) (fun (s12 : List (D × D)) => (una sortedD (ret (dctD s12))) Φ Ψ) ds []) Ψ) Ψ) Ψ
structure p_plus_share (one1 other2 : D) (Φ : D → Prop) (Ψ : Str → Prop) : Prop where run ::
  go : (c2 p_share (bin addD (bin mulD (bin ixD (ret one1) (ret (.int 0))) (bin ixD (ret other2) (ret (.int 1)))) (bin mulD (bin ixD (ret other2) (ret (.int 0))) (bin ixD (ret one1) (ret (.int 1))))) (bin mulD (bin ixD (ret one1) (ret (.int 1))) (bin ixD (ret other2) (ret (.int 1))))) Φ Ψ
structure p_sum_of (squares1 : D) (Φ : D → Prop) (Ψ : Str → Prop) : Prop where run ::
  go : (ret (.tup [.int 0, .int 1])) (fun found2 => (itE (ret squares1)) (fun ds => forL (fun one9 (s3 : D) nx7 br8 => (c2 p_plus_share (ret s3) (ret one9)) (fun found10 => nx7 found10) Ψ) (fun (s5 : D) => (ret s5) Φ Ψ) ds found2) Ψ) Ψ
structure p_least_shift (one1 other2 : D) (Φ : D → Prop) (Ψ : Str → Prop) : Prop where run ::
  go : (c2 p_minus (c1 p_mean_of (ret other2)) (c1 p_mean_of (ret one1))) (fun shift3 => (tupE (consA (ret shift3) (consA (c1 p_sum_of (lcE (zipM (ret one1) (ret other2)) (fun d6 k4 => un2 d6 fun p7 q8 => (c2 p_gap (c2 p_plus (ret p7) (ret shift3)) (ret q8)) (fun y5 => k4 (some y5)) bot))) nilA))) Φ Ψ) Ψ
end G
namespace G
/-! ### roots: s less the root of A, told by what lies below and above -/
theorem rsq_nn (u : Rat) : 0 ≤ u * u := by
  rcases Rat.le_total (a := 0) (b := u) with h | h
  · exact Rat.mul_nonneg h h
  · have := Rat.mul_nonneg (show 0 ≤ -u by grind) (show 0 ≤ -u by grind)
    grind
/-- q is below s less the root of A -/
def blw (q s A : Rat) : Prop := 0 < s - q ∧ A < (s - q) * (s - q)
/-- .. above -/
def abv (q s A : Rat) : Prop := s - q < 0 ∨ (s - q) * (s - q) < A
section
variable {p q s r t A B C : Rat}
/-! squares are everywhere -/
/-! never both ways; of three in a row -/
end
end G
namespace G
/-! ### sums -/
def plusSh (a b : Sh) : Sh := shr (a.t * b.b + b.t * a.b) (a.b * b.b)
theorem SOk.nz {n : Nat} {a : Sh} (h : SOk n a) : a.b ≠ 0 := by have := h.pos; omega
theorem plusSh_ok {n m : Nat} {a b : Sh} (h : SOk n a) (k : SOk m b) : SOk (n + m + 1) (plusSh a b) := (shr_ok ((h.t.mul k.b).add (k.t.mul h.b)) (h.b.mul k.b) (mulnz h.nz k.nz)).mono (by omega)
theorem nought_ok {n : Nat} (h : 0 < n) : SOk n ⟨0, 1⟩ := ⟨by unfold Bn; exact Nat.pow_pos (by decide), by unfold Bn; exact Nat.one_lt_pow (by omega) (by decide), by show (0 : Int) < 1; decide⟩
def sumS (l : List Sh) : Sh := l.foldl plusSh ⟨0, 1⟩
def sumP (l : List Pt) : Pt := l.foldl plus ⟨0, 0, 1⟩
theorem fold_take {α β : Type} (f : β → α → β) (z : β) {l : List α} {i : Nat} {x : α} (h : l[i]? = some x) : (l.take (i + 1)).foldl f z = f ((l.take i).foldl f z) x := by
  rw [List.take_succ, h]; simp
theorem foldS_ok {n : Nat} : ∀ {l : List Sh} {k : Nat} {z : Sh}, SOk k z → (∀ a ∈ l, SOk n a) → SOk (k + l.length * (n + 1)) (l.foldl plusSh z)
  | [], k, z, hz, _ => by simpa using hz
  | a :: l, k, z, hz, h => by
    have := foldS_ok (l := l) (plusSh_ok hz (h a List.mem_cons_self)) fun b hb => h b (List.mem_cons_of_mem _ hb)
    rw [List.length_cons, Nat.succ_mul]
    exact SOk.mono this (by omega)
theorem sumS_ok {n : Nat} {l : List Sh} (h : ∀ a ∈ l, SOk n a) : SOk (1 + l.length * (n + 1)) (sumS l) := foldS_ok (nought_ok (by decide)) h
theorem foldP_ok {n : Nat} : ∀ {l : List Pt} {k : Nat} {z : Pt}, Ok k z → (∀ a ∈ l, Ok n a) → Ok (k + l.length * (n + 1)) (l.foldl plus z)
  | [], k, z, hz, _ => by simpa using hz
  | a :: l, k, z, hz, h => by
    have := foldP_ok (l := l) (plus_ok hz (h a List.mem_cons_self)) fun b hb => h b (List.mem_cons_of_mem _ hb)
    rw [List.length_cons, Nat.succ_mul]
    exact Ok.mono this (by omega)
theorem sumP_ok {n : Nat} {l : List Pt} (h : ∀ a ∈ l, Ok n a) : Ok (1 + l.length * (n + 1)) (sumP l) := foldP_ok (zero_ok (by decide)) h
def meanOf (l : List Pt) : Pt := low (sumP l).x (sumP l).y ((sumP l).w * l.length)
theorem len_nz {α : Type} {l : List α} (h : l ≠ []) : (l.length : Int) ≠ 0 := by
  have := List.length_pos_iff.mpr h
  omega
theorem bn_len {α : Type} {l : List α} (h : l.length ≤ 14) : Bn 4 (l.length : Int) := by unfold Bn; omega
theorem meanOf_ok {n : Nat} {l : List Pt} (h : ∀ a ∈ l, Ok n a) (hl : l ≠ []) (h14 : l.length ≤ 14) : Ok (5 + l.length * (n + 1)) (meanOf l) :=
  (low_ok (sumP_ok h).x (sumP_ok h).y ((sumP_ok h).w.mul (bn_len h14)) (mulnz (sumP_ok h).nz (len_nz hl))).mono (by omega)
end G
namespace G
open PySem PySem.Spec L2
def zd (q : Pt × Pt) : D := .tup [q.1.d, q.2.d]
theorem zip_zd : ∀ (l m : List Pt), zipD (l.map Pt.d) (m.map Pt.d) = (l.zip m).map zd
  | [], _ => rfl
  | _ :: _, [] => rfl
  | a :: l, b :: m => by
    show zd (a, b) :: zipD (l.map Pt.d) (m.map Pt.d) = zd (a, b) :: (l.zip m).map zd
    rw [zip_zd l m]
def behind (f : Pt → Pt) (l m : List Pt) : Sh := sumS ((l.zip m).map fun q => gap (f q.1) q.2)
def shiftTo (l m : List Pt) : Pt := minus (meanOf m) (meanOf l)
/-- a list of points, one to fourteen -/
def prB : D → Bool
  | .lst xs => decide (1 ≤ xs.length) && (decide (xs.length ≤ 14) && xs.all isPt)
  | _ => false
def lenD : D → Nat
  | .lst xs => xs.length
  | _ => 0
theorem prB_pts {l : List Pt} (h : ∀ p ∈ l, Norm p) (h0 : l ≠ []) (h1 : l.length ≤ 14) : prB (.lst (l.map Pt.d)) = true := by
  show (decide (1 ≤ (l.map Pt.d).length) && (decide ((l.map Pt.d).length ≤ 14) && (l.map Pt.d).all isPt)) = true
  have := List.length_pos_iff.mpr h0
  rw [List.length_map, decide_eq_true (show 1 ≤ l.length by omega), decide_eq_true h1, List.all_map]
  simp only [Bool.true_and]
  exact List.all_eq_true.mpr fun p hp => isPt_yes (h p hp)
theorem shp_pts {l : List Pt} : D.shp 8 (.lst (l.map Pt.d)) = true := by
  rw [shp_lst]; exact shpA_all fun d hd => by obtain ⟨p, _, rfl⟩ := List.mem_map.mp hd; exact shp_pt 6 p
theorem mem_zip_of {l m : List Pt} {q : Pt × Pt} (h : q ∈ l.zip m) : q.1 ∈ l ∧ q.2 ∈ m := ⟨(List.of_mem_zip h).1, (List.of_mem_zip h).2⟩
end G
namespace G
open PySem PySem.Spec L2
end G
namespace G
theorem prs {l m : List Pt} (nl : ∀ p ∈ l, Norm p) (nm : ∀ p ∈ m, Norm p) (e : l.length = m.length) (h0 : l ≠ []) (h1 : l.length ≤ 14) : prB (.lst (l.map Pt.d)) = true ∧ prB (.lst (m.map Pt.d)) = true ∧ lenD (.lst (l.map Pt.d)) = lenD (.lst (m.map Pt.d)) :=
  ⟨prB_pts nl h0 h1, prB_pts nm (fun h => h0 (List.length_eq_zero_iff.mp (by rw [e, h]; rfl))) (by omega), by show (l.map Pt.d).length = (m.map Pt.d).length; simp [e]⟩
end G
namespace G
/-! the sums as the laws make them -/
end G
namespace G
/-! ### least shifts -/
section
variable {n k j c : Nat} {l m : List Pt} {s p q : Pt} {mo : Mo}
theorem behind_ok {f : Pt → Pt} (hf : ∀ p ∈ l, Ok n (f p)) (om : ∀ p ∈ m, Ok k p) : ∀ a ∈ (l.zip m).map (fun q => gap (f q.1) q.2), SOk (2 * n + 2 * k + 3) a := fun a ha => by
  obtain ⟨q, hq, rfl⟩ := List.mem_map.mp ha
  exact gap_ok (hf _ (mem_zip_of hq).1) (om _ (mem_zip_of hq).2)
theorem behind_sok {f : Pt → Pt} (hf : ∀ p ∈ l, Ok n (f p)) (om : ∀ p ∈ m, Ok k p) (hl : l.length ≤ c) : SOk (1 + c * (2 * n + 2 * k + 3 + 1)) (behind f l m) :=
  (sumS_ok (behind_ok hf om)).mono (Nat.add_le_add_left (Nat.mul_le_mul_right _ (by rw [List.length_map, List.length_zip]; omega)) _)
end
end G
namespace G
section
variable {n k j i : Nat} {l m : List Pt} {s off : Pt} {mo : Mo}
end
end G
namespace G
open PySem PySem.Spec L2
end G
namespace G
/-! ### shares compared -/
def nsh (a : Sh) : Sh := ⟨-a.t, a.b⟩
def lessB (a b : Sh) : Bool := decide (a.t * b.b < b.t * a.b)
def sqS (a : Sh) : Sh := shr (a.t * a.t) (a.b * a.b)
def ftS (a b : Sh) : Sh := shr (4 * a.t * b.t) (a.b * b.b)
def four (a : Sh) : Sh := shr (4 * a.t) a.b
def rootB (n a b : Sh) : Bool :=
  if decide (0 ≤ n.t) = true then decide (0 < (plusSh (plusSh (four a) (nsh (four b))) (nsh (sqS n))).t) && lessB (ftS (sqS n) (four b)) (sqS (plusSh (plusSh (four a) (nsh (four b))) (nsh (sqS n))))
  else decide (0 < (plusSh (plusSh (four a) (nsh (four b))) (sqS n)).t) || lessB (sqS (plusSh (plusSh (four a) (nsh (four b))) (sqS n))) (ftS (sqS n) (four a))
section
variable {n m : Nat} {a b c : Sh}
theorem castpos {z : Int} : 0 < (z : Rat) ↔ 0 < z := by
  have : ((0 : Int) : Rat) < (z : Rat) ↔ (0 : Int) < z := Rat.intCast_lt_intCast
  simpa using this
theorem Sh.mulv (h : a.b ≠ 0) : a.val * (a.b : Rat) = (a.t : Rat) := by
  have := castne h
  unfold Sh.val; grind
theorem rpos_mul {x y : Rat} (hy : 0 < y) : 0 < x * y ↔ 0 < x := by
  constructor
  · intro h
    refine Rat.not_le.mp fun hle => ?_
    have := Rat.mul_nonneg (show 0 ≤ -x by grind) (show 0 ≤ y by grind)
    grind
  · intro h; exact Rat.mul_pos h hy
theorem lessB_iff (ha : 0 < a.b) (hb : 0 < b.b) : lessB a b = true ↔ a.val < b.val := by
  unfold lessB
  rw [decide_eq_true_eq]
  have h1 := castpos.mpr ha
  have h2 := castpos.mpr hb
  have e1 := Sh.mulv (a := a) (by omega)
  have e2 := Sh.mulv (a := b) (by omega)
  have e3 : (a.t * b.b < b.t * a.b) ↔ 0 < (b.val - a.val) * ((a.b : Rat) * (b.b : Rat)) := by
    have : (a.t * b.b < b.t * a.b) ↔ 0 < b.t * a.b - a.t * b.b := by omega
    rw [this, ← castpos]
    simp only [Rat.intCast_sub, Rat.intCast_mul]
    rw [← e1, ← e2]
    have : b.val * (b.b : Rat) * (a.b : Rat) - a.val * (a.b : Rat) * (b.b : Rat) = (b.val - a.val) * ((a.b : Rat) * (b.b : Rat)) := by grind
    rw [this]
  rw [e3, rpos_mul (Rat.mul_pos h1 h2)]
  constructor <;> intro h <;> grind
end
/-! ### pairs (s, t) -/
structure POk (p : Sh × Sh) : Prop where
  s : SOk 40 p.1
  t : SOk 40 p.2
  nn : 0 ≤ p.2.t
def isL (p q : Sh × Sh) : Bool := rootB (plusSh p.1 (nsh q.1)) p.2 q.2
section
variable {p q r : Sh × Sh}
/-! bounds -/
theorem div_le {a b : Int} (hb : 0 < b) : ((a / b : Int) : Rat) ≤ (a : Rat) / (b : Rat) := by
  have h1 : (a / b) * b ≤ a := Int.ediv_mul_le a (by omega)
  have h2 : ((a / b : Int) : Rat) * (b : Rat) ≤ (a : Rat) := by exact_mod_cast h1
  have h3 := castpos.mpr hb
  refine Rat.not_lt.mp fun hlt => ?_
  have := Rat.mul_pos (show 0 < ((a / b : Int) : Rat) - (a : Rat) / (b : Rat) by grind) h3
  have e : (a : Rat) / (b : Rat) * (b : Rat) = (a : Rat) := by have := castne (show b ≠ 0 by omega); grind
  grind
theorem lt_div {a b : Int} (hb : 0 < b) : (a : Rat) / (b : Rat) < ((a / b : Int) : Rat) + 1 := by
  have h1 : a < (a / b + 1) * b := Int.lt_ediv_add_one_mul_self a hb
  have h2 : (a : Rat) < (((a / b : Int) : Rat) + 1) * (b : Rat) := by exact_mod_cast h1
  have h3 := castpos.mpr hb
  refine Rat.not_le.mp fun hle => ?_
  have := Rat.mul_nonneg (show 0 ≤ (a : Rat) / (b : Rat) - (((a / b : Int) : Rat) + 1) by grind) (show 0 ≤ (b : Rat) by grind)
  have e : (a : Rat) / (b : Rat) * (b : Rat) = (a : Rat) := by have := castne (show b ≠ 0 by omega); grind
  grind
theorem bounds {lo : Int} (hp : POk p) (h0 : 0 ≤ lo) (h1 : lo * lo ≤ p.2.t * 1000000000000 / p.2.b) (h2 : p.2.t * 1000000000000 / p.2.b < (lo + 1) * (lo + 1)) :
    blw (((p.1.t * 1000000 / p.1.b - 2 * (lo + 1) - 1 : Int) : Rat) / 1000000) p.1.val (4 * p.2.val) ∧ abv (((p.1.t * 1000000 / p.1.b + 1 - 2 * lo + 1 : Int) : Rat) / 1000000) p.1.val (4 * p.2.val) := by
  have m1 := div_le (a := p.1.t * 1000000) hp.s.pos
  have m2 := lt_div (a := p.1.t * 1000000) hp.s.pos
  have b1 := div_le (a := p.2.t * 1000000000000) hp.t.pos
  have b2 := lt_div (a := p.2.t * 1000000000000) hp.t.pos
  have e1 : ((p.1.t * 1000000 : Int) : Rat) / (p.1.b : Rat) = p.1.val * 1000000 := by unfold Sh.val; simp only [Rat.intCast_mul]; grind
  have e2 : ((p.2.t * 1000000000000 : Int) : Rat) / (p.2.b : Rat) = p.2.val * 1000000000000 := by unfold Sh.val; simp only [Rat.intCast_mul]; grind
  rw [e1] at m1 m2
  rw [e2] at b1 b2
  generalize p.1.t * 1000000 / p.1.b = mill at *
  generalize p.2.t * 1000000000000 / p.2.b = big at *
  have c1 : (lo : Rat) * (lo : Rat) ≤ (big : Rat) := by exact_mod_cast h1
  have c2 : (big : Rat) + 1 ≤ ((lo : Rat) + 1) * ((lo : Rat) + 1) := by
    have : big + 1 ≤ (lo + 1) * (lo + 1) := by omega
    exact_mod_cast this
  have c0 : (0 : Rat) ≤ (lo : Rat) := by exact_mod_cast h0
  simp only [Rat.intCast_add, Rat.intCast_sub, Rat.intCast_mul]
  generalize (lo : Rat) = l at *
  generalize (mill : Rat) = m at *
  generalize (big : Rat) = g at *
  generalize p.1.val = s at *
  generalize p.2.val = t at *
  constructor
  · generalize hu : s - (m - (2 : Int) * (l + (1 : Int)) - (1 : Int)) / 1000000 = u
    unfold blw
    rw [hu]
    have hu2 : 2 * (l + 1) + 1 ≤ u * 1000000 := by rw [← hu]; grind
    refine ⟨by grind, ?_⟩
    have x := Rat.mul_nonneg (show 0 ≤ u * 1000000 - (2 * (l + 1) + 1) by grind) (show 0 ≤ u * 1000000 + (2 * (l + 1) + 1) by grind)
    grind
  · generalize hu : s - (m + (1 : Int) - (2 : Int) * l + (1 : Int)) / 1000000 = u
    unfold abv
    rw [hu]
    have hu2 : u * 1000000 < 2 * l - 1 := by rw [← hu]; grind
    by_cases hn : u < 0
    · exact .inl hn
    · right
      have x := Rat.mul_nonneg (show 0 ≤ (2 * l - 1) - u * 1000000 by grind) (show 0 ≤ (2 * l - 1) + u * 1000000 by grind)
      grind
end
end G
namespace G
open PySem PySem.Spec L2
/-! ### the plain functions, told: numbers -/
theorem ixP0 {p : Pt} {Φ : D → Prop} : ixD p.d (.int 0) Φ = Φ (.int p.x) := rfl
theorem ixP1 {p : Pt} {Φ : D → Prop} : ixD p.d (.int 1) Φ = Φ (.int p.y) := rfl
theorem ixP2 {p : Pt} {Φ : D → Prop} : ixD p.d (.int 2) Φ = Φ (.int p.w) := rfl
theorem ixS0 {p : Sh} {Φ : D → Prop} : ixD p.d (.int 0) Φ = Φ (.int p.t) := rfl
theorem ixS1 {p : Sh} {Φ : D → Prop} : ixD p.d (.int 1) Φ = Φ (.int p.b) := rfl
theorem ixM0 {p : Mo} {Φ : D → Prop} : ixD p.d (.int 0) Φ = Φ p.t.d := rfl
theorem ixM1 {p : Mo} {Φ : D → Prop} : ixD p.d (.int 1) Φ = Φ p.s.d := rfl
theorem ixM2 {p : Mo} {Φ : D → Prop} : ixD p.d (.int 2) Φ = Φ (.int p.f) := rfl
theorem un3M {m : Mo} {k : D → D → D → Prop} : un3 m.d k = k m.t.d m.s.d (.int m.f) := rfl
theorem un3P {p : Pt} {k : D → D → D → Prop} : un3 p.d k = k (.int p.x) (.int p.y) (.int p.w) := rfl
theorem un2S {p : Sh} {k : D → D → Prop} : un2 p.d k = k (.int p.t) (.int p.b) := rfl
theorem eqB_i {i j : Int} {Θ : Bool → Prop} : eqB (.int i) (.int j) Θ = Θ (decide (i = j)) := by
  unfold eqB; rw [deq_int]; exact propext ⟨fun h => h.2, fun h => ⟨⟨rfl, rfl⟩, h⟩⟩
theorem neB_i {i j : Int} {Θ : Bool → Prop} : neB (.int i) (.int j) Θ = Θ (!decide (i = j)) := by
  unfold neB; rw [deq_int]; exact propext ⟨fun h => h.2, fun h => ⟨⟨rfl, rfl⟩, h⟩⟩
theorem eqB_p {p q : Pt} {Θ : Bool → Prop} : eqB p.d q.d Θ = Θ (decide (p = q)) := by
  unfold eqB; rw [deq_pt]; exact propext ⟨fun h => h.2, fun h => ⟨⟨shp_pt _ _, shp_pt _ _⟩, h⟩⟩
theorem neB_p {p q : Pt} {Θ : Bool → Prop} : neB p.d q.d Θ = Θ (!decide (p = q)) := by
  unfold neB; rw [deq_pt]; exact propext ⟨fun h => h.2, fun h => ⟨⟨shp_pt _ _, shp_pt _ _⟩, h⟩⟩
theorem eqB_s {p q : Sh} {Θ : Bool → Prop} : eqB p.d q.d Θ = Θ (decide (p = q)) := by
  unfold eqB; rw [deq_sh]; exact propext ⟨fun h => h.2, fun h => ⟨⟨shp_sh _ _, shp_sh _ _⟩, h⟩⟩
theorem neB_s {p q : Sh} {Θ : Bool → Prop} : neB p.d q.d Θ = Θ (!decide (p = q)) := by
  unfold neB; rw [deq_sh]; exact propext ⟨fun h => h.2, fun h => ⟨⟨shp_sh _ _, shp_sh _ _⟩, h⟩⟩
theorem eqB_m {p q : Mo} {Θ : Bool → Prop} : eqB p.d q.d Θ = Θ (decide (p = q)) := by
  unfold eqB; rw [deq_mo]; exact propext ⟨fun h => h.2, fun h => ⟨⟨shp_mo _ _, shp_mo _ _⟩, h⟩⟩
theorem neB_m {p q : Mo} {Θ : Bool → Prop} : neB p.d q.d Θ = Θ (!decide (p = q)) := by
  unfold neB; rw [deq_mo]; exact propext ⟨fun h => h.2, fun h => ⟨⟨shp_mo _ _, shp_mo _ _⟩, h⟩⟩
theorem ite_dec {p : Prop} [Decidable p] {P Q : Prop} : (if decide p = true then P else Q) = if p then P else Q := by by_cases h : p <;> simp [h]
theorem ite_ndec {p : Prop} [Decidable p] {P Q : Prop} : (if (!decide p) = true then P else Q) = if p then Q else P := by by_cases h : p <;> simp [h]
theorem ite_tt {P Q : Prop} : (if true = true then P else Q) = P := if_pos rfl
theorem ite_ff {P Q : Prop} : (if false = true then P else Q) = Q := if_neg (by decide)
theorem ite_nt {P Q : Prop} : (if (!true) = true then P else Q) = Q := if_neg (by decide)
theorem ite_nf {P Q : Prop} : (if (!false) = true then P else Q) = P := if_pos rfl
section
variable {i j : Int} {Φ : D → Prop} {Θ : Bool → Prop} {ds es : List D} {a b c : D} {k : Bool} {K : List D → Prop}
theorem bv_b : bv (.bl k) Θ = Θ k := rfl
theorem seqD_l : seqD (.lst ds) K = K ds := rfl
theorem seqD_t : seqD (.tup ds) K = K ds := rfl
theorem walkD_l : walkD (.lst ds) K = K ds := rfl
theorem walkD_t : walkD (.tup ds) K = K ds := rfl
theorem walkD_c : walkD (.dct ds es) K = K ds := rfl
theorem addD_i : addD (.int i) (.int j) Φ = Φ (.int (i + j)) := rfl
theorem subD_i : subD (.int i) (.int j) Φ = Φ (.int (i - j)) := rfl
theorem mulD_i : mulD (.int i) (.int j) Φ = (CMulW i j ∧ Φ (.int (i * j))) := rfl
theorem fdivD_i : fdivD (.int i) (.int j) Φ = (CDivZ i j ∧ Φ (.int (i.fdiv j))) := rfl
theorem modD_i : modD (.int i) (.int j) Φ = (0 < j ∧ Φ (.int (i % j))) := rfl
theorem negD_i : negD (.int i) Φ = Φ (.int (-i)) := rfl
theorem absD_i : absD (.int i) Φ = Φ (.int (if i < 0 then -i else i)) := rfl
theorem maxD_i : maxD (.int i) (.int j) Φ = Φ (.int (if j > i then j else i)) := rfl
theorem lnD_l : lnD (.lst ds) Φ = Φ (.int ds.length) := rfl
theorem lnD_t : lnD (.tup ds) Φ = Φ (.int ds.length) := rfl
theorem ltB_i : ltB (.int i) (.int j) Θ = Θ (decide (i < j)) := rfl
theorem leB_i : leB (.int i) (.int j) Θ = Θ (decide (i ≤ j)) := rfl
theorem gtB_i : gtB (.int i) (.int j) Θ = Θ (decide (j < i)) := rfl
theorem geB_i : geB (.int i) (.int j) Θ = Θ (decide (j ≤ i)) := rfl
theorem isVB_b : isVB a (.bl k) Θ = Θ (a.isV k) := rfl
theorem isntVB_b : isntVB a (.bl k) Θ = Θ (!a.isV k) := rfl
theorem zip2_l : zip2 (.lst ds) (.lst es) K = K (zipD ds es) := rfl
theorem zip2_t : zip2 (.tup ds) (.tup es) K = K (zipD ds es) := rfl
theorem un2_t {k : D → D → Prop} : un2 (.tup [a, b]) k = k a b := rfl
theorem un2_l {k : D → D → Prop} : un2 (.lst [a, b]) k = k a b := rfl
theorem un3_t {k : D → D → D → Prop} : un3 (.tup [a, b, c]) k = k a b c := rfl
theorem un3_l {k : D → D → D → Prop} : un3 (.lst [a, b, c]) k = k a b c := rfl
theorem ixT30 : ixD (.tup [a, b, c]) (.int 0) Φ = Φ a := rfl
theorem ixT31 : ixD (.tup [a, b, c]) (.int 1) Φ = Φ b := rfl
theorem ixT32 : ixD (.tup [a, b, c]) (.int 2) Φ = Φ c := rfl
theorem ixT20 : ixD (.tup [a, b]) (.int 0) Φ = Φ a := rfl
theorem ixT21 : ixD (.tup [a, b]) (.int 1) Φ = Φ b := rfl
theorem isDat_d {k : D → Prop} : isDat (.dat a) k = k a := rfl
end
local macro_rules | `(tactic| walk_at "sx") => `(tactic| try simp only [bin, una, lcE, cmpV, cmpT, tv, bv_b, notT, andT, orT, notV, andV, orV, ifE, nilA, consA, tupE, lstE, c1, c2, c3, c4, itE, seqD_l, seqD_t, walkD_l, walkD_t, walkD_c, ret, addD_i, subD_i, mulD_i, negD_i, fdivD_i, modD_i, absD_i, maxD_i, lnD_l, lnD_t, ltB_i, leB_i, gtB_i, geB_i, rng1, rng2, zipM, zip2_l, zip2_t, chnV, chnT, un2_t, un2_l, un3_t, un3_l, join, isDat_d,
  ixP0, ixP1, ixP2, ixS0, ixS1, ixM0, ixM1, ixM2, un3M, un3P, un2S, eqB_i, neB_i, eqB_p, neB_p, eqB_s, neB_s, eqB_m, neB_m, ite_dec, ite_ndec, ite_tt, ite_ff, ite_nt, ite_nf, isNB, notNB, isVB_b, isntVB_b, ixT30, ixT31, ixT32, ixT20, ixT21, if_true, if_false])
local macro_rules | `(tactic| walk_at "sy") => `(tactic| try simp only [bin, una, lcE, cmpV, cmpT, tv, bv_b, nilA, consA, tupE, lstE, c1, c2, c3, c4, itE, seqD_l, seqD_t, walkD_l, walkD_t, walkD_c, ret, addD_i, subD_i, mulD_i, negD_i, fdivD_i, modD_i, absD_i, maxD_i, lnD_l, lnD_t, ltB_i, leB_i, gtB_i, geB_i, rng1, rng2, zipM, zip2_l, zip2_t, un2_t, un2_l, un3_t, un3_l, isDat_d,
  ixP0, ixP1, ixP2, ixS0, ixS1, ixM0, ixM1, ixM2, un3M, un3P, un2S, eqB_i, neB_i, eqB_p, neB_p, eqB_s, neB_s, eqB_m, neB_m, ite_dec, ite_ndec, ite_tt, ite_ff, ite_nt, ite_nf, isNB, notNB, isVB_b, isntVB_b, ixT30, ixT31, ixT32, ixT20, ixT21, if_true, if_false])
local macro_rules | `(tactic| walk_at "bn") => `(tactic| first
  | assumption
  | (apply Bn.mul <;> walk_at "bn")
  | (apply Bn.add <;> walk_at "bn")
  | (apply Bn.sub <;> walk_at "bn")
  | (apply Bn.neg <;> walk_at "bn")
  | (apply Bn.abs <;> walk_at "bn")
  | exact (show Bn 64 _ by unfold Bn; decide))
local macro_rules | `(tactic| walk_at "cm") => `(tactic| (apply Bn.cm; (focus walk_at "bn"); (focus walk_at "bn"); omega))
local macro_rules | `(tactic| walk_at "nz") => `(tactic| first
  | assumption
  | omega
  | (apply mulnz <;> walk_at "nz"))
local macro_rules | `(tactic| walk_at "mok") => `(tactic| first
  | assumption
  | (apply joined_ok <;> walk_at "mok")
  | (apply backOf_ok <;> walk_at "mok")
  | exact still_ok)
local macro_rules | `(tactic| walk_at "ok") => `(tactic| first
  | assumption
  | (apply plus_ok <;> walk_at "ok")
  | (apply minus_ok <;> walk_at "ok")
  | (apply times_ok <;> walk_at "ok")
  | (apply flipped_ok <;> walk_at "ok")
  | (apply ledBy_ok <;> first | walk_at "ok" | walk_at "mok")
  | solve_by_elim)
local macro_rules | `(tactic| walk_at "norm") => `(tactic| first
  | assumption
  | (apply flipped_norm <;> walk_at "norm")
  | (apply plus_norm' <;> walk_at "ok")
  | (apply minus_norm' <;> walk_at "ok")
  | (apply times_norm' <;> walk_at "ok")
  | (apply ledBy_norm <;> first | walk_at "ok" | walk_at "mok")
  | solve_by_elim)
local macro_rules | `(tactic| walk_at "shp") => `(tactic| first
  | rfl
  | assumption
  | exact shp_pt _ _
  | exact shp_sh _ _
  | exact shp_mo _ _
  | exact shpA_pt1 _ _
  | exact shpA_pt2 _ _ _
  | exact shp_pts
  | exact (show D.shp 8 _ = true from rfl)
  | solve_by_elim)
local macro_rules | `(tactic| walk_at "pts") => `(tactic| first
  | (apply pts1 <;> walk_at "norm")
  | (apply pts2 <;> walk_at "norm"))
local macro_rules | `(tactic| walk_at "ismo") => `(tactic| (apply isMo_yes <;> walk_at "mok"))
local macro_rules | `(tactic| walk_at "one") => `(tactic| assumption)
local macro_rules | `(tactic| walk_at "db") => `(tactic| first
  | assumption
  | (apply MOk.db <;> walk_at "mok")
  | (apply Ok.db <;> walk_at "ok")
  | solve_by_elim)
local macro_rules | `(tactic| walk_at "nopq") => `(tactic| first | assumption | solve_by_elim | (intro n h; cases h))
local macro_rules | `(tactic| walk_at "sz") => `(tactic| first | omega | assumption | (simp; done) | (simp_all <;> omega))
local macro_rules | `(tactic| walk_at "sok") => `(tactic| first
  | assumption
  | (apply plusSh_ok <;> walk_at "sok")
  | (apply gap_ok <;> walk_at "ok")
  | (apply size_ok <;> walk_at "ok")
  | exact nought_ok (n := 1) (by decide))
local macro_rules | `(tactic| walk_at "oks") => `(tactic| first
  | assumption
  | solve_by_elim)
local macro_rules | `(tactic| walk_at "ne") => `(tactic| first
  | assumption
  | (simp; done))
local macro_rules | `(tactic| walk_at "prs") => `(tactic| (apply prs <;> assumption))
local macro_rules | `(tactic| walk_at "norms") => `(tactic| first | assumption | solve_by_elim)
local macro_rules | `(tactic| walk_at "soks") => `(tactic| first | assumption | solve_by_elim)
local macro_rules | `(tactic| walk_at "bn") => `(tactic| first
  | assumption
  | (apply Bn.mul <;> walk_at "bn")
  | (apply Bn.add <;> walk_at "bn")
  | (apply Bn.sub <;> walk_at "bn")
  | (apply Bn.neg <;> walk_at "bn")
  | (apply Bn.abs <;> walk_at "bn")
  | exact (show Bn 64 _ by unfold Bn; decide)
  | exact (show Bn 64 _ by unfold Bn; omega))
local macro_rules | `(tactic| walk_at "pok") => `(tactic| first | assumption | solve_by_elim)
local macro_rules | `(tactic| walk_at "cd") => `(tactic| (apply Bn.cd; (focus walk_at "bn"); (first | assumption | omega); omega))
local macro_rules | `(tactic| walk_at "sz") => `(tactic| try simp only [c1, c2, c3, c4, ret, tupE, nilA, consA, lstE, itE, walkD_l, walkD_t, walkD_c, un2_t, un2_l, un3_t, un3_l, un3M, un3P, un2S])
section
variable {Φ : D → Prop} {Ψ : Str → Prop} {a b w : Int} {n m l n1 n2 n3 : Nat} {p q : Pt}
theorem common_w (k : Φ (.int (Int.gcd a b))) : p_common (.int a) (.int b) Φ Ψ := by
  refine ⟨?_⟩
  walk_at "sx"
  refine ⟨fun m s => ∃ x y : Int, 0 ≤ x ∧ 0 ≤ y ∧ y.toNat = m ∧ Int.gcd x y = Int.gcd a b ∧ s = (D.int x, D.int y), ⟨_, _, _, ?_, ?_, rfl, ?_, rfl⟩, ?_⟩
  · split <;> omega
  · split <;> omega
  · have e : ∀ x : Int, (if x < 0 then -x else x).natAbs = x.natAbs := fun x => by split <;> omega
    unfold Int.gcd; rw [e, e]
  rintro m _ ⟨x, y, hx, hy, hm, hg, rfl⟩
  walk_at "sx"
  by_cases h0 : y = 0
  · subst h0
    rw [if_pos rfl]
    have : x = (Int.gcd a b : Int) := by rw [← hg, Int.gcd_zero_right]; omega
    rw [this]; exact k
  · rw [if_neg h0]
    refine ⟨by omega, (x % y).toNat, ?_, y, x % y, hy, Int.emod_nonneg _ h0, rfl, ?_, rfl⟩
    · have := Int.emod_lt_of_pos x (show 0 < y by omega)
      omega
    · rw [← hg]
      obtain ⟨m, rfl⟩ := Int.eq_ofNat_of_zero_le hx
      obtain ⟨n, rfl⟩ := Int.eq_ofNat_of_zero_le hy
      show Nat.gcd n (m % n) = Nat.gcd m n
      rw [Nat.gcd_comm m n, Nat.gcd_rec n m, Nat.gcd_comm]
theorem law_gcd_w (k : Φ (.int (Int.gcd a b))) : p_law_gcd (.int a) (.int b) Φ Ψ := by
  refine ⟨?_⟩
  walk_at "sx"
  refine ⟨fun m s => ∃ x y : Int, 0 ≤ x ∧ 0 ≤ y ∧ y.toNat = m ∧ Int.gcd x y = Int.gcd a b ∧ s = (D.int x, D.int y), ⟨_, _, _, ?_, ?_, rfl, ?_, rfl⟩, ?_⟩
  · split <;> omega
  · split <;> omega
  · have e : ∀ x : Int, (if 0 - x > x then 0 - x else x).natAbs = x.natAbs := fun x => by split <;> omega
    unfold Int.gcd; rw [e, e]
  rintro m _ ⟨x, y, hx, hy, hm, hg, rfl⟩
  walk_at "sx"
  by_cases h0 : y = 0
  · subst h0
    rw [if_pos rfl]
    have : x = (Int.gcd a b : Int) := by rw [← hg, Int.gcd_zero_right]; omega
    rw [this]; exact k
  · rw [if_neg h0]
    refine ⟨by omega, (x % y).toNat, ?_, y, x % y, hy, Int.emod_nonneg _ h0, rfl, ?_, rfl⟩
    · have := Int.emod_lt_of_pos x (show 0 < y by omega)
      omega
    · rw [← hg]
      obtain ⟨m, rfl⟩ := Int.eq_ofNat_of_zero_le hx
      obtain ⟨n, rfl⟩ := Int.eq_ofNat_of_zero_le hy
      show Nat.gcd n (m % n) = Nat.gcd m n
      rw [Nat.gcd_comm m n, Nat.gcd_rec n m, Nat.gcd_comm]
theorem cz_g3 {i : Int} (h3 : Bn n3 w) (hw : w ≠ 0) (hn : n3 ≤ 8900) : CDivZ i (g3 a b w) := (bn_g3 h3 hw).cz (g3_ne hw) hn
theorem if_g3 {F : Int → Prop} (h : F (g3 a b w)) : if 0 < w then F (Int.gcd (Int.gcd a b) w) else F (-(Int.gcd (Int.gcd a b) w : Int)) := by
  unfold g3 at h; split <;> rename_i hw
  · rw [if_pos hw] at h; exact h
  · rw [if_neg hw] at h; exact h
theorem low_tup (h3 : Bn n3 w) (hw : w ≠ 0) (hn : n3 ≤ 8900) (k : Φ (low a b w).d) : CDivZ a (g3 a b w) ∧ (CDivZ b (g3 a b w) ∧ (CDivZ w (g3 a b w) ∧ Φ (.tup [.int (a.fdiv (g3 a b w)), .int (b.fdiv (g3 a b w)), .int (w.fdiv (g3 a b w))]))) := by
  rw [Int.fdiv_eq_ediv_of_dvd g3_dvd_a, Int.fdiv_eq_ediv_of_dvd g3_dvd_b, Int.fdiv_eq_ediv_of_dvd g3_dvd_w]
  exact ⟨cz_g3 h3 hw hn, cz_g3 h3 hw hn, cz_g3 h3 hw hn, k⟩
theorem lowest_w (h3 : Bn n3 w) (hw : w ≠ 0) (hn : n3 ≤ 8900) (k : Φ (low a b w).d) : p_lowest (.int a) (.int b) (.int w) Φ Ψ := by
  refine ⟨?_⟩
  walk_at "sx"
  refine common_w (common_w ?_)
  exact if_g3 (F := fun g => CDivZ a g ∧ (CDivZ b g ∧ (CDivZ w g ∧ Φ (.tup [.int (a.fdiv g), .int (b.fdiv g), .int (w.fdiv g)])))) (low_tup h3 hw hn k)
theorem law_low_w (h3 : Bn n3 w) (hw : w ≠ 0) (hn : n3 ≤ 8900) (k : Φ (low a b w).d) : p_law_low (.int a) (.int b) (.int w) Φ Ψ := by
  refine ⟨?_⟩
  walk_at "sx"
  refine law_gcd_w (law_gcd_w ?_)
  walk_at "sx"
  simp only [Int.zero_sub]
  exact if_g3 (F := fun g => CDivZ a g ∧ (CDivZ b g ∧ (CDivZ w g ∧ Φ (.tup [.int (a.fdiv g), .int (b.fdiv g), .int (w.fdiv g)])))) (low_tup h3 hw hn k)
theorem gcd0 : Int.gcd (Int.gcd a 0) w = Int.gcd a w := by simp [Int.gcd]
theorem share_w (h3 : Bn n3 w) (hw : w ≠ 0) (hn : n3 ≤ 8900) (k : Φ (shr a w).d) : p_share (.int a) (.int w) Φ Ψ := by
  refine ⟨?_⟩
  walk_at "sx"
  refine common_w ?_
  have h := if_g3 (a := a) (b := 0) (w := w) (F := fun g => CDivZ a g ∧ (CDivZ w g ∧ Φ (.tup [.int (a.fdiv g), .int (w.fdiv g)]))) (by
    rw [Int.fdiv_eq_ediv_of_dvd g3_dvd_a, Int.fdiv_eq_ediv_of_dvd g3_dvd_w]
    exact ⟨cz_g3 h3 hw hn, cz_g3 h3 hw hn, k⟩)
  rw [gcd0] at h
  exact h
end
end G
namespace G
open PySem PySem.Spec L2
local macro_rules | `(tactic| walk_at "sx") => `(tactic| try simp only [bin, una, lcE, cmpV, cmpT, tv, bv_b, notT, andT, orT, notV, andV, orV, ifE, nilA, consA, tupE, lstE, c1, c2, c3, c4, itE, seqD_l, seqD_t, walkD_l, walkD_t, walkD_c, ret, addD_i, subD_i, mulD_i, negD_i, fdivD_i, modD_i, absD_i, maxD_i, lnD_l, lnD_t, ltB_i, leB_i, gtB_i, geB_i, rng1, rng2, zipM, zip2_l, zip2_t, chnV, chnT, un2_t, un2_l, un3_t, un3_l, join, isDat_d,
  ixP0, ixP1, ixP2, ixS0, ixS1, ixM0, ixM1, ixM2, un3M, un3P, un2S, eqB_i, neB_i, eqB_p, neB_p, eqB_s, neB_s, eqB_m, neB_m, ite_dec, ite_ndec, ite_tt, ite_ff, ite_nt, ite_nf, isNB, notNB, isVB_b, isntVB_b, ixT30, ixT31, ixT32, ixT20, ixT21, if_true, if_false])
local macro_rules | `(tactic| walk_at "sy") => `(tactic| try simp only [bin, una, lcE, cmpV, cmpT, tv, bv_b, nilA, consA, tupE, lstE, c1, c2, c3, c4, itE, seqD_l, seqD_t, walkD_l, walkD_t, walkD_c, ret, addD_i, subD_i, mulD_i, negD_i, fdivD_i, modD_i, absD_i, maxD_i, lnD_l, lnD_t, ltB_i, leB_i, gtB_i, geB_i, rng1, rng2, zipM, zip2_l, zip2_t, un2_t, un2_l, un3_t, un3_l, isDat_d,
  ixP0, ixP1, ixP2, ixS0, ixS1, ixM0, ixM1, ixM2, un3M, un3P, un2S, eqB_i, neB_i, eqB_p, neB_p, eqB_s, neB_s, eqB_m, neB_m, ite_dec, ite_ndec, ite_tt, ite_ff, ite_nt, ite_nf, isNB, notNB, isVB_b, isntVB_b, ixT30, ixT31, ixT32, ixT20, ixT21, if_true, if_false])
local macro_rules | `(tactic| walk_at "bn") => `(tactic| first
  | assumption
  | (apply Bn.mul <;> walk_at "bn")
  | (apply Bn.add <;> walk_at "bn")
  | (apply Bn.sub <;> walk_at "bn")
  | (apply Bn.neg <;> walk_at "bn")
  | (apply Bn.abs <;> walk_at "bn")
  | exact (show Bn 64 _ by unfold Bn; decide))
local macro_rules | `(tactic| walk_at "cm") => `(tactic| (apply Bn.cm; (focus walk_at "bn"); (focus walk_at "bn"); omega))
local macro_rules | `(tactic| walk_at "nz") => `(tactic| first
  | assumption
  | omega
  | (apply mulnz <;> walk_at "nz"))
local macro_rules | `(tactic| walk_at "mok") => `(tactic| first
  | assumption
  | (apply joined_ok <;> walk_at "mok")
  | (apply backOf_ok <;> walk_at "mok")
  | exact still_ok)
local macro_rules | `(tactic| walk_at "ok") => `(tactic| first
  | assumption
  | (apply plus_ok <;> walk_at "ok")
  | (apply minus_ok <;> walk_at "ok")
  | (apply times_ok <;> walk_at "ok")
  | (apply flipped_ok <;> walk_at "ok")
  | (apply ledBy_ok <;> first | walk_at "ok" | walk_at "mok")
  | solve_by_elim)
local macro_rules | `(tactic| walk_at "norm") => `(tactic| first
  | assumption
  | (apply flipped_norm <;> walk_at "norm")
  | (apply plus_norm' <;> walk_at "ok")
  | (apply minus_norm' <;> walk_at "ok")
  | (apply times_norm' <;> walk_at "ok")
  | (apply ledBy_norm <;> first | walk_at "ok" | walk_at "mok")
  | solve_by_elim)
local macro_rules | `(tactic| walk_at "shp") => `(tactic| first
  | rfl
  | assumption
  | exact shp_pt _ _
  | exact shp_sh _ _
  | exact shp_mo _ _
  | exact shpA_pt1 _ _
  | exact shpA_pt2 _ _ _
  | exact shp_pts
  | exact (show D.shp 8 _ = true from rfl)
  | solve_by_elim)
local macro_rules | `(tactic| walk_at "pts") => `(tactic| first
  | (apply pts1 <;> walk_at "norm")
  | (apply pts2 <;> walk_at "norm"))
local macro_rules | `(tactic| walk_at "ismo") => `(tactic| (apply isMo_yes <;> walk_at "mok"))
local macro_rules | `(tactic| walk_at "one") => `(tactic| assumption)
local macro_rules | `(tactic| walk_at "db") => `(tactic| first
  | assumption
  | (apply MOk.db <;> walk_at "mok")
  | (apply Ok.db <;> walk_at "ok")
  | solve_by_elim)
local macro_rules | `(tactic| walk_at "nopq") => `(tactic| first | assumption | solve_by_elim | (intro n h; cases h))
local macro_rules | `(tactic| walk_at "sz") => `(tactic| first | omega | assumption | (simp; done) | (simp_all <;> omega))
local macro_rules | `(tactic| walk_at "sok") => `(tactic| first
  | assumption
  | (apply plusSh_ok <;> walk_at "sok")
  | (apply gap_ok <;> walk_at "ok")
  | (apply size_ok <;> walk_at "ok")
  | exact nought_ok (n := 1) (by decide))
local macro_rules | `(tactic| walk_at "oks") => `(tactic| first
  | assumption
  | solve_by_elim)
local macro_rules | `(tactic| walk_at "ne") => `(tactic| first
  | assumption
  | (simp; done))
local macro_rules | `(tactic| walk_at "prs") => `(tactic| (apply prs <;> assumption))
local macro_rules | `(tactic| walk_at "norms") => `(tactic| first | assumption | solve_by_elim)
local macro_rules | `(tactic| walk_at "soks") => `(tactic| first | assumption | solve_by_elim)
local macro_rules | `(tactic| walk_at "bn") => `(tactic| first
  | assumption
  | (apply Bn.mul <;> walk_at "bn")
  | (apply Bn.add <;> walk_at "bn")
  | (apply Bn.sub <;> walk_at "bn")
  | (apply Bn.neg <;> walk_at "bn")
  | (apply Bn.abs <;> walk_at "bn")
  | exact (show Bn 64 _ by unfold Bn; decide)
  | exact (show Bn 64 _ by unfold Bn; omega))
local macro_rules | `(tactic| walk_at "pok") => `(tactic| first | assumption | solve_by_elim)
local macro_rules | `(tactic| walk_at "cd") => `(tactic| (apply Bn.cd; (focus walk_at "bn"); (first | assumption | omega); omega))
local macro_rules | `(tactic| walk_at "sz") => `(tactic| try simp only [c1, c2, c3, c4, ret, tupE, nilA, consA, lstE, itE, walkD_l, walkD_t, walkD_c, un2_t, un2_l, un3_t, un3_l, un3M, un3P, un2S])
section
variable {Φ : D → Prop} {Ψ : Str → Prop} {n m l : Nat} {p q : Pt} {a b : Sh}
/-! ### points -/
theorem plus_w (hp : Ok n p) (hq : Ok m q) (hn : n + m ≤ 8000) (k : Φ (plus p q).d) : p_plus p.d q.d Φ Ψ := by
  have b1 := hp.x; have b2 := hp.y; have b3 := hp.w; have b4 := hq.x; have b5 := hq.y; have b6 := hq.w
  refine ⟨?_⟩
  walk_at "sx"
  exact ⟨by walk_at "cm", by walk_at "cm", by walk_at "cm", by walk_at "cm", by walk_at "cm", lowest_w (b3.mul b6) (hp.pp hq) (by omega) k⟩
theorem minus_w (hp : Ok n p) (hq : Ok m q) (hn : n + m ≤ 8000) (k : Φ (minus p q).d) : p_minus p.d q.d Φ Ψ := by
  have b1 := hp.x; have b2 := hp.y; have b3 := hp.w; have b4 := hq.x; have b5 := hq.y; have b6 := hq.w
  refine ⟨?_⟩
  walk_at "sx"
  exact ⟨by walk_at "cm", by walk_at "cm", by walk_at "cm", by walk_at "cm", by walk_at "cm", lowest_w (b3.mul b6) (hp.pp hq) (by omega) k⟩
theorem times_w (hp : Ok n p) (hq : Ok m q) (hn : n + m ≤ 8000) (k : Φ (times p q).d) : p_times p.d q.d Φ Ψ := by
  have b1 := hp.x; have b2 := hp.y; have b3 := hp.w; have b4 := hq.x; have b5 := hq.y; have b6 := hq.w
  refine ⟨?_⟩
  walk_at "sx"
  exact ⟨by walk_at "cm", by walk_at "cm", by walk_at "cm", by walk_at "cm", by walk_at "cm", lowest_w (b3.mul b6) (hp.pp hq) (by omega) k⟩
theorem flipped_w (k : Φ (flipped p).d) : p_flipped p.d Φ Ψ := by
  refine ⟨?_⟩
  walk_at "sx"
  exact k
theorem size_w (hp : Ok n p) (hn : n ≤ 4000) (k : Φ (size p).d) : p_size p.d Φ Ψ := by
  have b1 := hp.x; have b2 := hp.y; have b3 := hp.w
  refine ⟨?_⟩
  walk_at "sx"
  exact ⟨by walk_at "cm", by walk_at "cm", by walk_at "cm", share_w (b3.mul b3) (hp.pp hp) (by omega) k⟩
theorem gap_w (hp : Ok n p) (hq : Ok m q) (hn : n + m ≤ 3000) (k : Φ (gap p q).d) : p_gap p.d q.d Φ Ψ := by
  refine ⟨?_⟩
  walk_at "sx"
  exact minus_w hp hq (by omega) (size_w (minus_ok hp hq) (by omega) k)
/-! ### shares -/
theorem plus_share_w (ha : SOk n a) (hb : SOk m b) (hn : n + m ≤ 8800) (k : Φ (plusSh a b).d) : p_plus_share a.d b.d Φ Ψ := by
  have b1 := ha.t; have b2 := ha.b; have b3 := hb.t; have b4 := hb.b
  have z1 := ha.nz; have z2 := hb.nz
  refine ⟨?_⟩
  walk_at "sx"
  exact ⟨by walk_at "cm", by walk_at "cm", by walk_at "cm", share_w (b2.mul b4) (mulnz z1 z2) (by omega) k⟩
/-! ### things of any kind -/
theorem is_number_w {d : D} (h : d.nopq = true) (k : Φ (.bl d.isI)) : p_is_number d Φ Ψ := by
  refine ⟨?_⟩
  walk_at "sx"
  refine ⟨h, ?_⟩
  cases d <;> first | exact ⟨rfl, k⟩ | exact k
theorem is_whole_w {d : D} {lo hi : Int} (h : d.nopq = true) (k : Φ (.bl (isWh d lo hi))) : p_is_whole d (.int lo) (.int hi) Φ Ψ := by
  refine ⟨?_⟩
  simp only [andV, c1, ret]
  refine is_number_w h ?_
  cases d with
  | int i =>
    simp only [D.isI, bv, ↓reduceIte]
    walk_at "sx"
    unfold isWh at k
    by_cases h1 : lo ≤ i
    · rw [if_pos h1]; simpa [h1] using k
    · rw [if_neg h1]; simpa [h1] using k
  | _ => exact k
theorem nopq_shp {n : Nat} {d : D} (h : D.shp n d = true) : d.nopq = true := by cases d <;> first | rfl | exact Bool.noConfusion h
theorem isPt_tup {xs : List D} (h : xs.length ≠ 3) : isPt (.tup xs) = false := by
  unfold isPt
  split
  · rename_i q; injection q with q; subst q; exact absurd rfl h
  · rfl
theorem all_map {ds : List D} {t : D → Bool} (k : Φ (.bl (ds.all t))) : allD (.lst (ds.map fun d => .bl (t d))) Φ := ⟨ds.map t, by rw [List.map_map]; rfl, by rw [List.all_map]; exact k⟩
theorem any_map {ds : List D} {t : D → Bool} (k : Φ (.bl (ds.any t))) : anyD (.lst (ds.map fun d => .bl (t d))) Φ := ⟨ds.map t, by rw [List.map_map]; rfl, by rw [List.any_map]; exact k⟩
/-- a comprehension that maps -/
theorem lcL_map {f : D → (Option D → Prop) → Prop} (g : D → D) {ds acc : List D} {k : List D → Prop} (h : ∀ d ∈ ds, ∀ K, K (some (g d)) → f d K) (hk : k (acc ++ ds.map g)) : lcL f ds acc k := by
  induction ds generalizing acc with
  | nil => simpa [lcL] using hk
  | cons d ds ih => exact h d List.mem_cons_self _ (ih (fun d hd => h d (List.mem_cons_of_mem _ hd)) (by simpa using hk))
theorem is_point_w {n : Nat} {d : D} (h : D.shp n d = true) (hz : d.isT = true → ∀ xs, d = .tup xs → xs.length ≤ 100000) (k : Φ (.bl (isPt d))) : p_is_point d Φ Ψ := by
  refine ⟨?_⟩
  walk_at "sx"
  refine ⟨nopq_shp h, ?_⟩
  cases d with
  | tup xs =>
    have hx := shp_tupA h
    simp only [D.isT, Bool.not_true, Bool.false_eq_true, if_false]
    walk_at "sx"
    by_cases h3 : (xs.length : Int) = 3
    · rw [if_pos h3]
      match xs, h3, hx with
      | [a, b, c], _, hx =>
        simp only [lcL]
        refine ⟨by simp, is_number_w (nopq_shp (shp_mem hx (by simp))) (is_number_w (nopq_shp (shp_mem hx (by simp))) (is_number_w (nopq_shp (shp_mem hx (by simp))) ⟨[a.isI, b.isI, c.isI], rfl, ?_⟩))⟩
        walk_at "sx"
        by_cases hI : (a.isI = true ∧ b.isI = true) ∧ c.isI = true
        · obtain ⟨⟨h1, h2⟩, h3⟩ := hI
          cases a with
          | int x => cases b with
            | int y => cases c with
              | int w =>
                show (if (!true) = true then _ else if decide (0 < w) = true then p_common (.int x) (.int y) _ _ else _)
                rw [ite_nt, ite_dec]
                unfold isPt at k
                by_cases hw : 0 < w
                · rw [if_pos hw]
                  refine common_w ?_
                  show p_common _ (.int w) _ _
                  refine common_w ?_
                  rw [eqB_i]
                  simpa [hw] using k
                · rw [if_neg hw]
                  simpa [hw] using k
              | _ => cases h3
            | _ => cases h2
          | _ => cases h1
        · have e : ([a.isI, b.isI, c.isI].all id) = false := by
            simp only [List.all_cons, List.all_nil, id, Bool.and_true]
            cases h1 : a.isI <;> cases h2 : b.isI <;> cases h3 : c.isI <;> simp_all
          rw [e, ite_nf]
          have e2 : isPt (.tup [a, b, c]) = false := by
            unfold isPt
            split
            · rename_i q; injection q with q; injection q with q1 q; injection q with q2 q; injection q with q3 q; subst q1 q2 q3; exact absurd ⟨⟨rfl, rfl⟩, rfl⟩ hI
            · rfl
          rw [e2] at k
          exact k
    · rw [if_neg h3]
      rw [isPt_tup (by omega)] at k
      exact k
  | _ => exact k
end
end G
namespace G
open PySem PySem.Spec L2
local macro_rules | `(tactic| walk_at "sx") => `(tactic| try simp only [bin, una, lcE, cmpV, cmpT, tv, bv_b, notT, andT, orT, notV, andV, orV, ifE, nilA, consA, tupE, lstE, c1, c2, c3, c4, itE, seqD_l, seqD_t, walkD_l, walkD_t, walkD_c, ret, addD_i, subD_i, mulD_i, negD_i, fdivD_i, modD_i, absD_i, maxD_i, lnD_l, lnD_t, ltB_i, leB_i, gtB_i, geB_i, rng1, rng2, zipM, zip2_l, zip2_t, chnV, chnT, un2_t, un2_l, un3_t, un3_l, join, isDat_d,
  ixP0, ixP1, ixP2, ixS0, ixS1, ixM0, ixM1, ixM2, un3M, un3P, un2S, eqB_i, neB_i, eqB_p, neB_p, eqB_s, neB_s, eqB_m, neB_m, ite_dec, ite_ndec, ite_tt, ite_ff, ite_nt, ite_nf, isNB, notNB, isVB_b, isntVB_b, ixT30, ixT31, ixT32, ixT20, ixT21, if_true, if_false])
local macro_rules | `(tactic| walk_at "sy") => `(tactic| try simp only [bin, una, lcE, cmpV, cmpT, tv, bv_b, nilA, consA, tupE, lstE, c1, c2, c3, c4, itE, seqD_l, seqD_t, walkD_l, walkD_t, walkD_c, ret, addD_i, subD_i, mulD_i, negD_i, fdivD_i, modD_i, absD_i, maxD_i, lnD_l, lnD_t, ltB_i, leB_i, gtB_i, geB_i, rng1, rng2, zipM, zip2_l, zip2_t, un2_t, un2_l, un3_t, un3_l, isDat_d,
  ixP0, ixP1, ixP2, ixS0, ixS1, ixM0, ixM1, ixM2, un3M, un3P, un2S, eqB_i, neB_i, eqB_p, neB_p, eqB_s, neB_s, eqB_m, neB_m, ite_dec, ite_ndec, ite_tt, ite_ff, ite_nt, ite_nf, isNB, notNB, isVB_b, isntVB_b, ixT30, ixT31, ixT32, ixT20, ixT21, if_true, if_false])
local macro_rules | `(tactic| walk_at "bn") => `(tactic| first
  | assumption
  | (apply Bn.mul <;> walk_at "bn")
  | (apply Bn.add <;> walk_at "bn")
  | (apply Bn.sub <;> walk_at "bn")
  | (apply Bn.neg <;> walk_at "bn")
  | (apply Bn.abs <;> walk_at "bn")
  | exact (show Bn 64 _ by unfold Bn; decide))
local macro_rules | `(tactic| walk_at "cm") => `(tactic| (apply Bn.cm; (focus walk_at "bn"); (focus walk_at "bn"); omega))
local macro_rules | `(tactic| walk_at "nz") => `(tactic| first
  | assumption
  | omega
  | (apply mulnz <;> walk_at "nz"))
local macro_rules | `(tactic| walk_at "mok") => `(tactic| first
  | assumption
  | (apply joined_ok <;> walk_at "mok")
  | (apply backOf_ok <;> walk_at "mok")
  | exact still_ok)
local macro_rules | `(tactic| walk_at "ok") => `(tactic| first
  | assumption
  | (apply plus_ok <;> walk_at "ok")
  | (apply minus_ok <;> walk_at "ok")
  | (apply times_ok <;> walk_at "ok")
  | (apply flipped_ok <;> walk_at "ok")
  | (apply ledBy_ok <;> first | walk_at "ok" | walk_at "mok")
  | solve_by_elim)
local macro_rules | `(tactic| walk_at "norm") => `(tactic| first
  | assumption
  | (apply flipped_norm <;> walk_at "norm")
  | (apply plus_norm' <;> walk_at "ok")
  | (apply minus_norm' <;> walk_at "ok")
  | (apply times_norm' <;> walk_at "ok")
  | (apply ledBy_norm <;> first | walk_at "ok" | walk_at "mok")
  | solve_by_elim)
local macro_rules | `(tactic| walk_at "shp") => `(tactic| first
  | rfl
  | assumption
  | exact shp_pt _ _
  | exact shp_sh _ _
  | exact shp_mo _ _
  | exact shpA_pt1 _ _
  | exact shpA_pt2 _ _ _
  | exact shp_pts
  | exact (show D.shp 8 _ = true from rfl)
  | solve_by_elim)
local macro_rules | `(tactic| walk_at "pts") => `(tactic| first
  | (apply pts1 <;> walk_at "norm")
  | (apply pts2 <;> walk_at "norm"))
local macro_rules | `(tactic| walk_at "ismo") => `(tactic| (apply isMo_yes <;> walk_at "mok"))
local macro_rules | `(tactic| walk_at "one") => `(tactic| assumption)
local macro_rules | `(tactic| walk_at "db") => `(tactic| first
  | assumption
  | (apply MOk.db <;> walk_at "mok")
  | (apply Ok.db <;> walk_at "ok")
  | solve_by_elim)
local macro_rules | `(tactic| walk_at "nopq") => `(tactic| first | assumption | solve_by_elim | (intro n h; cases h))
local macro_rules | `(tactic| walk_at "sz") => `(tactic| first | omega | assumption | (simp; done) | (simp_all <;> omega))
local macro_rules | `(tactic| walk_at "sok") => `(tactic| first
  | assumption
  | (apply plusSh_ok <;> walk_at "sok")
  | (apply gap_ok <;> walk_at "ok")
  | (apply size_ok <;> walk_at "ok")
  | exact nought_ok (n := 1) (by decide))
local macro_rules | `(tactic| walk_at "oks") => `(tactic| first
  | assumption
  | solve_by_elim)
local macro_rules | `(tactic| walk_at "ne") => `(tactic| first
  | assumption
  | (simp; done))
local macro_rules | `(tactic| walk_at "prs") => `(tactic| (apply prs <;> assumption))
local macro_rules | `(tactic| walk_at "norms") => `(tactic| first | assumption | solve_by_elim)
local macro_rules | `(tactic| walk_at "soks") => `(tactic| first | assumption | solve_by_elim)
local macro_rules | `(tactic| walk_at "bn") => `(tactic| first
  | assumption
  | (apply Bn.mul <;> walk_at "bn")
  | (apply Bn.add <;> walk_at "bn")
  | (apply Bn.sub <;> walk_at "bn")
  | (apply Bn.neg <;> walk_at "bn")
  | (apply Bn.abs <;> walk_at "bn")
  | exact (show Bn 64 _ by unfold Bn; decide)
  | exact (show Bn 64 _ by unfold Bn; omega))
local macro_rules | `(tactic| walk_at "pok") => `(tactic| first | assumption | solve_by_elim)
local macro_rules | `(tactic| walk_at "cd") => `(tactic| (apply Bn.cd; (focus walk_at "bn"); (first | assumption | omega); omega))
local macro_rules | `(tactic| walk_at "sz") => `(tactic| try simp only [c1, c2, c3, c4, ret, tupE, nilA, consA, lstE, itE, walkD_l, walkD_t, walkD_c, un2_t, un2_l, un3_t, un3_l, un3M, un3P, un2S])
section
variable {Φ : D → Prop} {Ψ : Str → Prop} {n m l j k' : Nat} {p q : Pt} {a b : Sh}
/-! ### comprehensions, loops -/
theorem lcL_mapT {α : Type} {f : D → (Option D → Prop) → Prop} (enc g : α → D) {ps : List α} {acc : List D} {k : List D → Prop} (h : ∀ p ∈ ps, ∀ K, K (some (g p)) → f (enc p) K) (hk : k (acc ++ ps.map g)) : lcL f (ps.map enc) acc k := by
  induction ps generalizing acc with
  | nil => simpa [lcL] using hk
  | cons d ds ih => exact h d List.mem_cons_self _ (ih (fun d hd => h d (List.mem_cons_of_mem _ hd)) (by simpa using hk))
theorem lcL_filterT {α : Type} {f : D → (Option D → Prop) → Prop} (enc g : α → D) (t : α → Bool) {ps : List α} {acc : List D} {k : List D → Prop} (h : ∀ p ∈ ps, ∀ K, (if t p = true then K (some (g p)) else K none) → f (enc p) K) (hk : k (acc ++ (ps.filter t).map g)) : lcL f (ps.map enc) acc k := by
  induction ps generalizing acc with
  | nil => simpa [lcL] using hk
  | cons d ds ih =>
    refine h d List.mem_cons_self _ ?_
    by_cases ht : t d = true
    · rw [if_pos ht]
      exact ih (fun d hd => h d (List.mem_cons_of_mem _ hd)) (by simpa [ht] using hk)
    · rw [if_neg ht]
      exact ih (fun d hd => h d (List.mem_cons_of_mem _ hd)) (by simpa [ht] using hk)
theorem lcL_all {f : D → (Option D → Prop) → Prop} (P : D → Prop) {ds acc : List D} {k : List D → Prop} (h : ∀ d ∈ ds, ∀ K : Option D → Prop, (∀ y, P y → K (some y)) → f d K) (hk : ∀ ys, ys.length = ds.length → (∀ y ∈ ys, P y) → k (acc ++ ys)) : lcL f ds acc k := by
  induction ds generalizing acc with
  | nil => have := hk [] rfl (by simp); simpa [lcL] using this
  | cons d ds ih =>
    refine h d List.mem_cons_self _ fun y hy => ih (fun d hd => h d (List.mem_cons_of_mem _ hd)) fun ys e hys => ?_
    have := hk (y :: ys) (by simp [e]) (by intro z hz; rcases List.mem_cons.mp hz with rfl | hz; exact hy; exact hys z hz)
    simpa using this
theorem forL_run {S : Type} {f : D → S → (S → Prop) → (S → Prop) → Prop} {k : S → Prop} (I : Nat → S → Prop) {ds : List D} {s0 : S} (h0 : I 0 s0) (hs : ∀ i x s, ds[i]? = some x → I i s → ∀ nx : S → Prop, (∀ s', I (i + 1) s' → nx s') → f x s nx k) (hk : ∀ s, I ds.length s → k s) : forL f k ds s0 := by
  have key : ∀ (n i : Nat) (s : S), n = ds.length - i → i ≤ ds.length → I i s → forL f k (ds.drop i) s := by
    intro n
    induction n with
    | zero =>
      intro i s e hi h
      have : i = ds.length := by omega
      subst this
      rw [List.drop_length]
      exact hk s h
    | succ n ih =>
      intro i s e hi h
      have hlt : i < ds.length := by omega
      rw [List.drop_eq_getElem_cons hlt]
      exact hs i ds[i] s (List.getElem?_eq_getElem hlt) h _ fun s' h' => ih (i + 1) s' (by omega) hlt h'
  have := key _ 0 s0 rfl (Nat.zero_le _) h0
  simpa using this
/-- .. over data told -/
theorem forL_runT {α S : Type} {f : D → S → (S → Prop) → (S → Prop) → Prop} {k : S → Prop} (enc : α → D) (I : Nat → S → Prop) {ps : List α} {s0 : S} (h0 : I 0 s0) (hs : ∀ i x s, ps[i]? = some x → I i s → ∀ nx : S → Prop, (∀ s', I (i + 1) s' → nx s') → f (enc x) s nx k) (hk : ∀ s, I ps.length s → k s) : forL f k (ps.map enc) s0 :=
  forL_run I h0 (fun i x s hx hI nx hn => by
    rw [List.getElem?_map] at hx
    cases e : ps[i]? with
    | none => rw [e] at hx; cases hx
    | some p => rw [e] at hx; cases hx; exact hs i p s e hI nx hn) (by rw [List.length_map]; exact hk)
/-- a fold -/
theorem forL_fold {α β S : Type} {f : D → S → (S → Prop) → (S → Prop) → Prop} {k : S → Prop} (enc : α → D) (en : β → S) (g : β → α → β) {ps : List α} {b : β} (P : β → Prop) (hb : P b) (hg : ∀ b, P b → ∀ p ∈ ps, P (g b p)) (hs : ∀ p ∈ ps, ∀ b, P b → ∀ nx : S → Prop, nx (en (g b p)) → f (enc p) (en b) nx k) (hk : k (en (ps.foldl g b))) : forL f k (ps.map enc) (en b) := by
  induction ps generalizing b with
  | nil => exact hk
  | cons p ps ih =>
    exact hs p List.mem_cons_self b hb _ (ih (hg b hb p List.mem_cons_self) (fun b hb p hp => hg b hb p (List.mem_cons_of_mem _ hp)) (fun p hp => hs p (List.mem_cons_of_mem _ hp)) hk)
/-! ### points, motions -/
theorem pt_len {p : Pt} : p.d.isT = true → ∀ ys, p.d = .tup ys → ys.length ≤ 100000 := fun _ ys e => by unfold Pt.d at e; injection e with e; rw [← e]; simp
theorem isMo_tup {xs : List D} (h : xs.length ≠ 3) : isMo (.tup xs) = false := by
  unfold isMo
  split
  · rename_i q; injection q with q; subst q; exact absurd rfl h
  · rfl
def SmT (d : D) : Prop := d.isT = true → ∀ ys, d = .tup ys → ys.length ≤ 100000 ∧ ∀ y ∈ ys, y.isT = true → ∀ zs, y = .tup zs → zs.length ≤ 100000
theorem is_motion_w {d : D} (hs : D.shp 8 d = true) (hb : Db n d) (hn : n ≤ 3000) (hz : SmT d) (k : Φ (.bl (isMo d))) : p_is_motion d Φ Ψ := by
  refine ⟨?_⟩
  walk_at "sx"
  refine ⟨nopq_shp hs, ?_⟩
  cases d with
  | tup xs =>
    have hx := shp_tupA hs
    have hz' := (hz rfl xs rfl).2
    simp only [D.isT, Bool.not_true, Bool.false_eq_true, if_false]
    walk_at "sx"
    by_cases h3 : (xs.length : Int) = 3
    · rw [if_pos h3]
      match xs, h3, hx, hb, hz', k with
      | [a, b, c], _, hx, hb, hz', k =>
        have sa : D.shp 8 a = true := shp_mem hx (by simp)
        have sb : D.shp 8 b = true := shp_mem hx (by simp)
        have sc : D.shp 8 c = true := shp_mem hx (by simp)
        walk_at "sx"
        refine is_point_w sa (hz' a (by simp)) ?_
        walk_at "sx"
        by_cases ha : isPt a = true
        · rw [ha, ite_nt]
          refine is_point_w sb (hz' b (by simp)) ?_
          walk_at "sx"
          by_cases hb' : isPt b = true
          · rw [hb', ite_nt]
            obtain ⟨p, rfl, np⟩ := isPt_inv ha
            have hp : Ok n p := np.ok hb.1
            refine size_w hp (by omega) ?_
            have e : (decide (size p = ⟨1, 1⟩) && isWh c 0 1) = isMo (.tup [p.d, b, c]) := by
              show _ = (isPt p.d && (isPt b && (isWh c 0 1 && decide (size p = ⟨1, 1⟩))))
              rw [ha, hb', Bool.true_and, Bool.true_and, Bool.and_comm]
            rw [← e] at k
            show eqB (size p).d (Sh.mk 1 1).d _
            rw [eqB_s]
            walk_at "sx"
            by_cases h1 : size p = ⟨1, 1⟩
            · rw [if_pos h1]
              exact is_whole_w (nopq_shp sc) (by simpa [h1] using k)
            · rw [if_neg h1]
              simpa [h1] using k
          · have hb2 : isPt b = false := by simpa using hb'
            rw [hb2]; walk_at "sx"
            have e : isMo (.tup [a, b, c]) = false := by
              show (isPt a && (isPt b && _)) = false
              rw [hb2]; simp
            rw [e] at k
            exact k
        · have ha2 : isPt a = false := by simpa using ha
          rw [ha2]; walk_at "sx"
          have e : isMo (.tup [a, b, c]) = false := by
            show (isPt a && (isPt b && _)) = false
            rw [ha2]; simp
          rw [e] at k
          exact k
    · rw [if_neg h3]
      rw [isMo_tup (by omega)] at k
      exact k
  | _ => exact k
theorem look_motion_bad {d : D} (hs : D.shp 8 d = true) (hb : Db n d) (hn : n ≤ 3000) (hz : SmT d) (e : isMo d = false) (k : Ψ "BadMotion") : p_look_motion d Φ Ψ := by
  refine ⟨?_⟩
  walk_at "sx"
  refine is_motion_w hs hb hn hz ?_
  rw [e]
  walk_at "sx"
  exact k
theorem led_by_w {mo : Mo} (ht : Ok n mo.t) (hs : Ok n mo.s) (hp : Ok k' p) (hn : 2 * n + k' ≤ 7000) (k : Φ (ledBy mo p).d) : p_led_by mo.d p.d Φ Ψ := by
  refine ⟨?_⟩
  walk_at "sx"
  have e : ∀ K : D → Prop, K (if mo.f = 1 then flipped p else p).d → (if mo.f = 1 then p_flipped p.d K Ψ else K p.d) := fun K h => by
    by_cases hf : mo.f = 1
    · rw [if_pos hf] at h ⊢; exact flipped_w h
    · rw [if_neg hf] at h ⊢; exact h
  refine e _ (times_w ht (fl_ok hp) (by omega) (plus_w (times_ok ht (fl_ok hp)) hs (by omega) k))
end
end G
namespace G
open PySem PySem.Spec L2
local macro_rules | `(tactic| walk_at "sx") => `(tactic| try simp only [bin, una, lcE, cmpV, cmpT, tv, bv_b, notT, andT, orT, notV, andV, orV, ifE, nilA, consA, tupE, lstE, c1, c2, c3, c4, itE, seqD_l, seqD_t, walkD_l, walkD_t, walkD_c, ret, addD_i, subD_i, mulD_i, negD_i, fdivD_i, modD_i, absD_i, maxD_i, lnD_l, lnD_t, ltB_i, leB_i, gtB_i, geB_i, rng1, rng2, zipM, zip2_l, zip2_t, chnV, chnT, un2_t, un2_l, un3_t, un3_l, join, isDat_d,
  ixP0, ixP1, ixP2, ixS0, ixS1, ixM0, ixM1, ixM2, un3M, un3P, un2S, eqB_i, neB_i, eqB_p, neB_p, eqB_s, neB_s, eqB_m, neB_m, ite_dec, ite_ndec, ite_tt, ite_ff, ite_nt, ite_nf, isNB, notNB, isVB_b, isntVB_b, ixT30, ixT31, ixT32, ixT20, ixT21, if_true, if_false])
local macro_rules | `(tactic| walk_at "sy") => `(tactic| try simp only [bin, una, lcE, cmpV, cmpT, tv, bv_b, nilA, consA, tupE, lstE, c1, c2, c3, c4, itE, seqD_l, seqD_t, walkD_l, walkD_t, walkD_c, ret, addD_i, subD_i, mulD_i, negD_i, fdivD_i, modD_i, absD_i, maxD_i, lnD_l, lnD_t, ltB_i, leB_i, gtB_i, geB_i, rng1, rng2, zipM, zip2_l, zip2_t, un2_t, un2_l, un3_t, un3_l, isDat_d,
  ixP0, ixP1, ixP2, ixS0, ixS1, ixM0, ixM1, ixM2, un3M, un3P, un2S, eqB_i, neB_i, eqB_p, neB_p, eqB_s, neB_s, eqB_m, neB_m, ite_dec, ite_ndec, ite_tt, ite_ff, ite_nt, ite_nf, isNB, notNB, isVB_b, isntVB_b, ixT30, ixT31, ixT32, ixT20, ixT21, if_true, if_false])
local macro_rules | `(tactic| walk_at "bn") => `(tactic| first
  | assumption
  | (apply Bn.mul <;> walk_at "bn")
  | (apply Bn.add <;> walk_at "bn")
  | (apply Bn.sub <;> walk_at "bn")
  | (apply Bn.neg <;> walk_at "bn")
  | (apply Bn.abs <;> walk_at "bn")
  | exact (show Bn 64 _ by unfold Bn; decide))
local macro_rules | `(tactic| walk_at "cm") => `(tactic| (apply Bn.cm; (focus walk_at "bn"); (focus walk_at "bn"); omega))
local macro_rules | `(tactic| walk_at "nz") => `(tactic| first
  | assumption
  | omega
  | (apply mulnz <;> walk_at "nz"))
local macro_rules | `(tactic| walk_at "mok") => `(tactic| first
  | assumption
  | (apply joined_ok <;> walk_at "mok")
  | (apply backOf_ok <;> walk_at "mok")
  | exact still_ok)
local macro_rules | `(tactic| walk_at "ok") => `(tactic| first
  | assumption
  | (apply plus_ok <;> walk_at "ok")
  | (apply minus_ok <;> walk_at "ok")
  | (apply times_ok <;> walk_at "ok")
  | (apply flipped_ok <;> walk_at "ok")
  | (apply ledBy_ok <;> first | walk_at "ok" | walk_at "mok")
  | solve_by_elim)
local macro_rules | `(tactic| walk_at "norm") => `(tactic| first
  | assumption
  | (apply flipped_norm <;> walk_at "norm")
  | (apply plus_norm' <;> walk_at "ok")
  | (apply minus_norm' <;> walk_at "ok")
  | (apply times_norm' <;> walk_at "ok")
  | (apply ledBy_norm <;> first | walk_at "ok" | walk_at "mok")
  | solve_by_elim)
local macro_rules | `(tactic| walk_at "shp") => `(tactic| first
  | rfl
  | assumption
  | exact shp_pt _ _
  | exact shp_sh _ _
  | exact shp_mo _ _
  | exact shpA_pt1 _ _
  | exact shpA_pt2 _ _ _
  | exact shp_pts
  | exact (show D.shp 8 _ = true from rfl)
  | solve_by_elim)
local macro_rules | `(tactic| walk_at "pts") => `(tactic| first
  | (apply pts1 <;> walk_at "norm")
  | (apply pts2 <;> walk_at "norm"))
local macro_rules | `(tactic| walk_at "ismo") => `(tactic| (apply isMo_yes <;> walk_at "mok"))
local macro_rules | `(tactic| walk_at "one") => `(tactic| assumption)
local macro_rules | `(tactic| walk_at "db") => `(tactic| first
  | assumption
  | (apply MOk.db <;> walk_at "mok")
  | (apply Ok.db <;> walk_at "ok")
  | solve_by_elim)
local macro_rules | `(tactic| walk_at "nopq") => `(tactic| first | assumption | solve_by_elim | (intro n h; cases h))
local macro_rules | `(tactic| walk_at "sz") => `(tactic| first | omega | assumption | (simp; done) | (simp_all <;> omega))
local macro_rules | `(tactic| walk_at "sok") => `(tactic| first
  | assumption
  | (apply plusSh_ok <;> walk_at "sok")
  | (apply gap_ok <;> walk_at "ok")
  | (apply size_ok <;> walk_at "ok")
  | exact nought_ok (n := 1) (by decide))
local macro_rules | `(tactic| walk_at "oks") => `(tactic| first
  | assumption
  | solve_by_elim)
local macro_rules | `(tactic| walk_at "ne") => `(tactic| first
  | assumption
  | (simp; done))
local macro_rules | `(tactic| walk_at "prs") => `(tactic| (apply prs <;> assumption))
local macro_rules | `(tactic| walk_at "norms") => `(tactic| first | assumption | solve_by_elim)
local macro_rules | `(tactic| walk_at "soks") => `(tactic| first | assumption | solve_by_elim)
local macro_rules | `(tactic| walk_at "bn") => `(tactic| first
  | assumption
  | (apply Bn.mul <;> walk_at "bn")
  | (apply Bn.add <;> walk_at "bn")
  | (apply Bn.sub <;> walk_at "bn")
  | (apply Bn.neg <;> walk_at "bn")
  | (apply Bn.abs <;> walk_at "bn")
  | exact (show Bn 64 _ by unfold Bn; decide)
  | exact (show Bn 64 _ by unfold Bn; omega))
local macro_rules | `(tactic| walk_at "pok") => `(tactic| first | assumption | solve_by_elim)
local macro_rules | `(tactic| walk_at "cd") => `(tactic| (apply Bn.cd; (focus walk_at "bn"); (first | assumption | omega); omega))
local macro_rules | `(tactic| walk_at "sz") => `(tactic| try simp only [c1, c2, c3, c4, ret, tupE, nilA, consA, lstE, itE, walkD_l, walkD_t, walkD_c, un2_t, un2_l, un3_t, un3_l, un3M, un3P, un2S])
section
variable {Φ : D → Prop} {Ψ : Str → Prop} {n m l j k' : Nat} {p q : Pt} {a b : Sh}
/-! ### draws -/
theorem town_w (k : Φ (.opq 0)) : p_law_town (.opq 1) Φ Ψ := ⟨rfl, k⟩
theorem draw_w {c : Int} (h0 : 0 < c) (h1 : c < 1073741824) (k : ∀ i : Int, 0 ≤ i → i < c → Φ (.int i)) : p_law_draw (.opq 0) (.int c) Φ Ψ := ⟨c, rfl, rfl, h0, h1, k⟩
theorem atI_in {xs : List D} {i : Int} (h0 : 0 ≤ i) (h1 : i < xs.length) : atI xs i = some (xs[i.toNat]'(by omega)) := by
  unfold atI ixN
  rw [if_pos h0, if_pos h1]
  exact List.getElem?_eq_getElem _
theorem ixL_in {xs : List D} {i : Int} (h0 : 0 ≤ i) (h1 : i < xs.length) (k : Φ (xs[i.toNat]'(by omega))) : ixD (.lst xs) (.int i) Φ := by
  show (match atI xs i with
    | some d => Φ d
    | none => False)
  rw [atI_in h0 h1]; exact k
theorem pick_w {xs : List D} (hne : xs ≠ []) (hl : xs.length ≤ 100000) (k : ∀ d ∈ xs, Φ d) : p_law_pick (.opq 0) (.lst xs) Φ Ψ := by
  have hp : 0 < xs.length := List.length_pos_iff.mpr hne
  refine ⟨?_⟩
  walk_at "sx"
  exact draw_w (by omega) (by omega) fun i h0 h1 => ixL_in h0 h1 (k _ (List.getElem_mem _))
theorem law_point_w {c : Int} (h0 : 0 ≤ c) (h7 : c ≤ 7) (k : ∀ p : Pt, Ok 3 p → Norm p → Φ p.d) : p_law_point (.opq 0) (.int c) Φ Ψ := by
  refine ⟨?_⟩
  walk_at "sx"
  have cm : CMulW 2 c := Bn.cm (n := 4) (m := 4) (by unfold Bn; omega) (by unfold Bn; omega) (by omega)
  refine ⟨cm, draw_w (by omega) (by omega) fun i hi hi2 => ⟨cm, draw_w (by omega) (by omega) fun j hj hj2 => ?_⟩⟩
  refine pick_w (by simp) (by decide) fun d hd => ?_
  have fin : ∀ w : Int, 0 < w → w < 8 → p_law_low (.int (i - c)) (.int (j - c)) (.int w) Φ Ψ := fun w h1 h2 => by
    have bx : Bn 3 (i - c) := by unfold Bn; omega
    have by' : Bn 3 (j - c) := by unfold Bn; omega
    have bw : Bn 3 w := by unfold Bn; omega
    exact law_low_w bw (by omega) (by decide) (k _ ((low_ok bx by' bw (by omega)).mono (by decide)) (low_norm (by omega)))
  simp only [List.mem_cons, List.not_mem_nil, or_false] at hd
  rcases hd with rfl | rfl | rfl | rfl | rfl <;> exact fin _ (by decide) (by decide)
theorem law_turn_w (k : ∀ t : Pt, Ok 4 t → Norm t → size t = ⟨1, 1⟩ → Φ t.d) : p_law_turn (.opq 0) Φ Ψ := by
  refine ⟨?_⟩
  walk_at "sx"
  refine pick_w (by simp) (by decide) fun d hd => ?_
  have fin : ∀ x y w : Int, x.natAbs < 16 → y.natAbs < 16 → 0 < w → w < 16 → x * x + y * y = w * w → p_law_low (.int x) (.int y) (.int w) Φ Ψ := fun x y w hx hy h1 h2 e => by
    have bx : Bn 4 x := hx
    have by' : Bn 4 y := hy
    have bw : Bn 4 w := by unfold Bn; omega
    have hw : w ≠ 0 := by omega
    have ok := (low_ok bx by' bw hw).mono (show max 4 (max 4 4) ≤ 4 by decide)
    refine law_low_w bw hw (by decide) (k _ ok (low_norm hw) (size_one ok.nz ?_))
    rw [low_re hw, low_im hw]
    have c := castne hw
    have e' : (x : Rat) * x + (y : Rat) * y = (w : Rat) * w := by exact_mod_cast e
    grind
  have run : ∀ (x y w : Int), 0 ≤ x → x < 16 → 0 ≤ y → y < 16 → 0 < w → w < 16 → x * x + y * y = w * w → p_law_pick (.opq 0) (.lst [.int 1, .int (0 - 1)]) (fun s => mulD (.int x) s fun u => p_law_pick (.opq 0) (.lst [.int 1, .int (0 - 1)]) (fun t => mulD (.int y) t fun v => p_law_low u v (.int w) Φ Ψ) Ψ) Ψ := fun x y w h1 h2 h3 h4 h5 h6 e => by
    have bx : Bn 4 x := by unfold Bn; omega
    have by' : Bn 4 y := by unfold Bn; omega
    refine pick_w (by simp) (by decide) fun s hs => ?_
    have hs' : ∃ z : Int, s = .int z ∧ (z = 1 ∨ z = -1) := by
      simp only [List.mem_cons, List.not_mem_nil, or_false] at hs
      rcases hs with rfl | rfl
      · exact ⟨1, rfl, .inl rfl⟩
      · exact ⟨-1, rfl, .inr rfl⟩
    obtain ⟨z, rfl, hz⟩ := hs'
    have bz : Bn 4 z := by unfold Bn; omega
    refine ⟨bx.cm bz (by decide), pick_w (by simp) (by decide) fun t ht => ?_⟩
    have ht' : ∃ y : Int, t = .int y ∧ (y = 1 ∨ y = -1) := by
      simp only [List.mem_cons, List.not_mem_nil, or_false] at ht
      rcases ht with rfl | rfl
      · exact ⟨1, rfl, .inl rfl⟩
      · exact ⟨-1, rfl, .inr rfl⟩
    obtain ⟨y', rfl, hy'⟩ := ht'
    have by2 : Bn 4 y' := by unfold Bn; omega
    refine ⟨by'.cm by2 (by decide), fin _ _ _ ?_ ?_ h5 h6 ?_⟩
    · rcases hz with rfl | rfl <;> omega
    · rcases hy' with rfl | rfl <;> omega
    · rcases hz with rfl | rfl <;> rcases hy' with rfl | rfl <;> simp only [Int.mul_one, Int.mul_neg, Int.neg_mul, Int.neg_neg, e]
  simp only [List.mem_cons, List.not_mem_nil, or_false] at hd
  rcases hd with rfl | rfl | rfl | rfl | rfl <;> exact run _ _ _ (by decide) (by decide) (by decide) (by decide) (by decide) (by decide) (by decide)
theorem law_motion_w (k : ∀ mo : Mo, MOk 4 mo → Φ mo.d) : p_law_motion (.opq 0) Φ Ψ := by
  refine ⟨?_⟩
  walk_at "sx"
  refine law_turn_w fun t ot nt ht => law_point_w (by decide) (by decide) fun s os ns => draw_w (by decide) (by decide) fun f h0 h1 => ?_
  exact k ⟨t, s, f⟩ ⟨ot, os.mono (by decide), nt, ns, ht, by show f = 0 ∨ f = 1; omega⟩
/-! ### costs -/
theorem mean_of_w {l : List Pt} (hl : ∀ p ∈ l, Ok n p) (hne : l ≠ []) (h14 : l.length ≤ 14) (hn : n ≤ 500) (k : Φ (meanOf l).d) : p_mean_of (.lst (l.map Pt.d)) Φ Ψ := by
  refine ⟨?_⟩
  walk_at "sx"
  refine forL_runT Pt.d (fun i s => s = ((l.take i).foldl plus ⟨0, 0, 1⟩).d) rfl ?_ ?_
  · rintro i p s hp rfl nx hx
    have op := hl p (List.mem_of_getElem? hp)
    have h1 := foldP_ok (l := l.take i) (zero_ok (n := 1) (by decide)) fun a ha => hl a (List.mem_of_mem_take ha)
    have h2 : (l.take i).length * (n + 1) ≤ 14 * (n + 1) := Nat.mul_le_mul_right _ (by rw [List.length_take]; omega)
    refine plus_w (h1.mono (show _ ≤ 15 + 14 * n by omega)) op (by omega) (hx _ ?_)
    rw [fold_take plus _ hp]
  · rintro s rfl
    rw [List.take_length]
    have os := sumP_ok hl
    have oz : Ok (15 + 14 * n) (sumP l) := by
      have h2 : l.length * (n + 1) ≤ 14 * (n + 1) := Nat.mul_le_mul_right _ h14
      exact os.mono (by omega)
    have b1 := oz.x; have b2 := oz.y; have b3 := oz.w; have b4 := bn_len h14
    have z1 := oz.nz; have z2 := len_nz hne
    show ixD (sumP l).d (.int 0) _
    walk_at "sx"
    rw [List.length_map]
    exact ⟨by walk_at "cm", lowest_w (b3.mul b4) (mulnz z1 z2) (by omega) k⟩
theorem sum_of_w {l : List Sh} {c : Nat} (hl : ∀ a ∈ l, SOk n a) (hlc : l.length ≤ c) (hcn : c * (n + 1) ≤ 8400) (k : Φ (sumS l).d) : p_sum_of (.lst (l.map Sh.d)) Φ Ψ := by
  have hn : l.length * (n + 1) ≤ 8400 := Nat.le_trans (Nat.mul_le_mul_right _ hlc) hcn
  refine ⟨?_⟩
  walk_at "sx"
  refine forL_runT Sh.d (fun i s => s = ((l.take i).foldl plusSh ⟨0, 1⟩).d) rfl ?_ ?_
  · rintro i p s hp rfl nx hx
    have op := hl p (List.mem_of_getElem? hp)
    have of := foldS_ok (l := l.take i) (nought_ok (n := 1) (by decide)) fun a ha => hl a (List.mem_of_mem_take ha)
    have hi : i < l.length := (List.getElem?_eq_some_iff.mp hp).1
    have h2 : (l.take i).length * (n + 1) + (n + 1) ≤ l.length * (n + 1) := by
      rw [← Nat.succ_mul]
      exact Nat.mul_le_mul_right _ (by rw [List.length_take]; omega)
    refine plus_share_w of op (by omega) (hx _ ?_)
    rw [fold_take plusSh _ hp]
  · rintro s rfl
    rw [List.take_length]
    exact k
/-- lists that are partners -/
structure Prs (l m : List Pt) : Prop where
  nl : ∀ p ∈ l, Norm p
  nm : ∀ p ∈ m, Norm p
  e : l.length = m.length
  ne : l ≠ []
  le : l.length ≤ 14
theorem sums_w {l m : List Pt} {f : D → (Option D → Prop) → Prop} (g : Pt → Pt → Sh) {N c : Nat} (hf : ∀ p ∈ l, ∀ q ∈ m, ∀ K : Option D → Prop, K (some (g p q).d) → f (.tup [p.d, q.d]) K) (og : ∀ p ∈ l, ∀ q ∈ m, SOk N (g p q)) (hc : l.length ≤ c) (hc14 : c ≤ 14) (hN : c * (N + 1) ≤ 8400)
    (k : Φ (sumS ((l.zip m).map fun q => g q.1 q.2)).d) : (zipD (l.map Pt.d) (m.map Pt.d)).length ≤ 100000 ∧ lcL f (zipD (l.map Pt.d) (m.map Pt.d)) [] (fun ys => p_sum_of (.lst ys) Φ Ψ) := by
  rw [zip_zd]
  have hz : (l.zip m).length ≤ c := by rw [List.length_zip]; omega
  refine ⟨by rw [List.length_map]; omega, lcL_mapT zd (fun q => (g q.1 q.2).d) (fun q hq K hK => hf _ (mem_zip_of hq).1 _ (mem_zip_of hq).2 K hK) ?_⟩
  have e : [] ++ (l.zip m).map (fun q => (g q.1 q.2).d) = ((l.zip m).map fun q => g q.1 q.2).map Sh.d := by rw [List.map_map]; rfl
  rw [e]
  exact sum_of_w (fun a ha => by
    obtain ⟨q, hq, rfl⟩ := List.mem_map.mp ha
    exact og _ (mem_zip_of hq).1 _ (mem_zip_of hq).2) (by rw [List.length_map]; exact hz) hN k
theorem least_shift_w {l m : List Pt} {c : Nat} (hne : l ≠ []) (e : l.length = m.length) (ol : ∀ p ∈ l, Ok n p) (om : ∀ p ∈ m, Ok k' p) (hlc : l.length ≤ c) (hc : c ≤ 14) (hn : n ≤ 50) (hk : k' ≤ 50) (hb : c * (2 * (n + (5 + c * (k' + 1) + (5 + c * (n + 1)) + 1) + 1) + 2 * k' + 3 + 1) ≤ 8400)
    (k : Φ (.tup [(shiftTo l m).d, (behind (fun p => plus p (shiftTo l m)) l m).d])) : p_least_shift (.lst (l.map Pt.d)) (.lst (m.map Pt.d)) Φ Ψ := by
  have h14 : l.length ≤ 14 := by omega
  have h14m : m.length ≤ 14 := by omega
  have hnem : m ≠ [] := fun h => hne (List.length_eq_zero_iff.mp (by rw [e, h]; rfl))
  have ml := (meanOf_ok ol hne h14).mono (show _ ≤ 5 + c * (n + 1) from Nat.add_le_add_left (Nat.mul_le_mul_right _ hlc) _)
  have mm := (meanOf_ok om hnem h14m).mono (show _ ≤ 5 + c * (k' + 1) from Nat.add_le_add_left (Nat.mul_le_mul_right _ (by omega)) _)
  have c1 : c * (k' + 1) ≤ 14 * (k' + 1) := Nat.mul_le_mul_right _ hc
  have c2 : c * (n + 1) ≤ 14 * (n + 1) := Nat.mul_le_mul_right _ hc
  have osh : Ok (5 + c * (k' + 1) + (5 + c * (n + 1)) + 1) (shiftTo l m) := minus_ok mm ml
  refine ⟨?_⟩
  walk_at "sx"
  refine mean_of_w om hnem h14m (by omega) (mean_of_w ol hne h14 (by omega) (minus_w mm ml (by omega) ?_))
  generalize hs : 5 + c * (k' + 1) + (5 + c * (n + 1)) + 1 = S at osh hb
  exact sums_w (fun p q => gap (plus p (shiftTo l m)) q) (fun p hp q hq K hK => plus_w (ol p hp) osh (by omega) (gap_w (plus_ok (ol p hp) osh) (om q hq) (by omega) hK)) (fun p hp q hq => gap_ok (plus_ok (ol p hp) osh) (om q hq)) hlc hc hb k
end
end G
namespace G
open PySem PySem.Spec L2
local macro_rules | `(tactic| walk_at "sx") => `(tactic| try simp only [bin, una, lcE, cmpV, cmpT, tv, bv_b, notT, andT, orT, notV, andV, orV, ifE, nilA, consA, tupE, lstE, c1, c2, c3, c4, itE, seqD_l, seqD_t, walkD_l, walkD_t, walkD_c, ret, addD_i, subD_i, mulD_i, negD_i, fdivD_i, modD_i, absD_i, maxD_i, lnD_l, lnD_t, ltB_i, leB_i, gtB_i, geB_i, rng1, rng2, zipM, zip2_l, zip2_t, chnV, chnT, un2_t, un2_l, un3_t, un3_l, join, isDat_d,
  ixP0, ixP1, ixP2, ixS0, ixS1, ixM0, ixM1, ixM2, un3M, un3P, un2S, eqB_i, neB_i, eqB_p, neB_p, eqB_s, neB_s, eqB_m, neB_m, ite_dec, ite_ndec, ite_tt, ite_ff, ite_nt, ite_nf, isNB, notNB, isVB_b, isntVB_b, ixT30, ixT31, ixT32, ixT20, ixT21, if_true, if_false])
local macro_rules | `(tactic| walk_at "sy") => `(tactic| try simp only [bin, una, lcE, cmpV, cmpT, tv, bv_b, nilA, consA, tupE, lstE, c1, c2, c3, c4, itE, seqD_l, seqD_t, walkD_l, walkD_t, walkD_c, ret, addD_i, subD_i, mulD_i, negD_i, fdivD_i, modD_i, absD_i, maxD_i, lnD_l, lnD_t, ltB_i, leB_i, gtB_i, geB_i, rng1, rng2, zipM, zip2_l, zip2_t, un2_t, un2_l, un3_t, un3_l, isDat_d,
  ixP0, ixP1, ixP2, ixS0, ixS1, ixM0, ixM1, ixM2, un3M, un3P, un2S, eqB_i, neB_i, eqB_p, neB_p, eqB_s, neB_s, eqB_m, neB_m, ite_dec, ite_ndec, ite_tt, ite_ff, ite_nt, ite_nf, isNB, notNB, isVB_b, isntVB_b, ixT30, ixT31, ixT32, ixT20, ixT21, if_true, if_false])
local macro_rules | `(tactic| walk_at "bn") => `(tactic| first
  | assumption
  | (apply Bn.mul <;> walk_at "bn")
  | (apply Bn.add <;> walk_at "bn")
  | (apply Bn.sub <;> walk_at "bn")
  | (apply Bn.neg <;> walk_at "bn")
  | (apply Bn.abs <;> walk_at "bn")
  | exact (show Bn 64 _ by unfold Bn; decide))
local macro_rules | `(tactic| walk_at "cm") => `(tactic| (apply Bn.cm; (focus walk_at "bn"); (focus walk_at "bn"); omega))
local macro_rules | `(tactic| walk_at "nz") => `(tactic| first
  | assumption
  | omega
  | (apply mulnz <;> walk_at "nz"))
local macro_rules | `(tactic| walk_at "mok") => `(tactic| first
  | assumption
  | (apply joined_ok <;> walk_at "mok")
  | (apply backOf_ok <;> walk_at "mok")
  | exact still_ok)
local macro_rules | `(tactic| walk_at "ok") => `(tactic| first
  | assumption
  | (apply plus_ok <;> walk_at "ok")
  | (apply minus_ok <;> walk_at "ok")
  | (apply times_ok <;> walk_at "ok")
  | (apply flipped_ok <;> walk_at "ok")
  | (apply ledBy_ok <;> first | walk_at "ok" | walk_at "mok")
  | solve_by_elim)
local macro_rules | `(tactic| walk_at "norm") => `(tactic| first
  | assumption
  | (apply flipped_norm <;> walk_at "norm")
  | (apply plus_norm' <;> walk_at "ok")
  | (apply minus_norm' <;> walk_at "ok")
  | (apply times_norm' <;> walk_at "ok")
  | (apply ledBy_norm <;> first | walk_at "ok" | walk_at "mok")
  | solve_by_elim)
local macro_rules | `(tactic| walk_at "shp") => `(tactic| first
  | rfl
  | assumption
  | exact shp_pt _ _
  | exact shp_sh _ _
  | exact shp_mo _ _
  | exact shpA_pt1 _ _
  | exact shpA_pt2 _ _ _
  | exact shp_pts
  | exact (show D.shp 8 _ = true from rfl)
  | solve_by_elim)
local macro_rules | `(tactic| walk_at "pts") => `(tactic| first
  | (apply pts1 <;> walk_at "norm")
  | (apply pts2 <;> walk_at "norm"))
local macro_rules | `(tactic| walk_at "ismo") => `(tactic| (apply isMo_yes <;> walk_at "mok"))
local macro_rules | `(tactic| walk_at "one") => `(tactic| assumption)
local macro_rules | `(tactic| walk_at "db") => `(tactic| first
  | assumption
  | (apply MOk.db <;> walk_at "mok")
  | (apply Ok.db <;> walk_at "ok")
  | solve_by_elim)
local macro_rules | `(tactic| walk_at "nopq") => `(tactic| first | assumption | solve_by_elim | (intro n h; cases h))
local macro_rules | `(tactic| walk_at "sz") => `(tactic| first | omega | assumption | (simp; done) | (simp_all <;> omega))
local macro_rules | `(tactic| walk_at "sok") => `(tactic| first
  | assumption
  | (apply plusSh_ok <;> walk_at "sok")
  | (apply gap_ok <;> walk_at "ok")
  | (apply size_ok <;> walk_at "ok")
  | exact nought_ok (n := 1) (by decide))
local macro_rules | `(tactic| walk_at "oks") => `(tactic| first
  | assumption
  | solve_by_elim)
local macro_rules | `(tactic| walk_at "ne") => `(tactic| first
  | assumption
  | (simp; done))
local macro_rules | `(tactic| walk_at "prs") => `(tactic| (apply prs <;> assumption))
local macro_rules | `(tactic| walk_at "norms") => `(tactic| first | assumption | solve_by_elim)
local macro_rules | `(tactic| walk_at "soks") => `(tactic| first | assumption | solve_by_elim)
local macro_rules | `(tactic| walk_at "bn") => `(tactic| first
  | assumption
  | (apply Bn.mul <;> walk_at "bn")
  | (apply Bn.add <;> walk_at "bn")
  | (apply Bn.sub <;> walk_at "bn")
  | (apply Bn.neg <;> walk_at "bn")
  | (apply Bn.abs <;> walk_at "bn")
  | exact (show Bn 64 _ by unfold Bn; decide)
  | exact (show Bn 64 _ by unfold Bn; omega))
local macro_rules | `(tactic| walk_at "pok") => `(tactic| first | assumption | solve_by_elim)
local macro_rules | `(tactic| walk_at "cd") => `(tactic| (apply Bn.cd; (focus walk_at "bn"); (first | assumption | omega); omega))
local macro_rules | `(tactic| walk_at "sz") => `(tactic| try simp only [c1, c2, c3, c4, ret, tupE, nilA, consA, lstE, itE, walkD_l, walkD_t, walkD_c, un2_t, un2_l, un3_t, un3_l, un3M, un3P, un2S])
section
variable {Φ : D → Prop} {Ψ : Str → Prop} {n m : Nat}
/-! ### tests whose answer is known: what follows is not copied -/
theorem if_no {t : MB} {P Q : Prop} (h : ∀ Θ : Bool → Prop, Θ false → t Θ Ψ) (q : Q) : t (fun b => if b = true then P else Q) Ψ := h _ (by simpa using q)
theorem if_of (k : Bool) {t : MB} {P Q : Prop} (h : ∀ Θ : Bool → Prop, Θ k → t Θ Ψ) (p : k = true → P) (q : k = false → Q) : t (fun b => if b = true then P else Q) Ψ := h _ (by cases k; simpa using q rfl; simpa using p rfl)
/-! ### roots -/
end
end G
namespace G
open PySem PySem.Spec L2
local macro_rules | `(tactic| walk_at "sx") => `(tactic| try simp only [bin, una, lcE, cmpV, cmpT, tv, bv_b, notT, andT, orT, notV, andV, orV, ifE, nilA, consA, tupE, lstE, c1, c2, c3, c4, itE, seqD_l, seqD_t, walkD_l, walkD_t, walkD_c, ret, addD_i, subD_i, mulD_i, negD_i, fdivD_i, modD_i, absD_i, maxD_i, lnD_l, lnD_t, ltB_i, leB_i, gtB_i, geB_i, rng1, rng2, zipM, zip2_l, zip2_t, chnV, chnT, un2_t, un2_l, un3_t, un3_l, join, isDat_d,
  ixP0, ixP1, ixP2, ixS0, ixS1, ixM0, ixM1, ixM2, un3M, un3P, un2S, eqB_i, neB_i, eqB_p, neB_p, eqB_s, neB_s, eqB_m, neB_m, ite_dec, ite_ndec, ite_tt, ite_ff, ite_nt, ite_nf, isNB, notNB, isVB_b, isntVB_b, ixT30, ixT31, ixT32, ixT20, ixT21, if_true, if_false])
local macro_rules | `(tactic| walk_at "sy") => `(tactic| try simp only [bin, una, lcE, cmpV, cmpT, tv, bv_b, nilA, consA, tupE, lstE, c1, c2, c3, c4, itE, seqD_l, seqD_t, walkD_l, walkD_t, walkD_c, ret, addD_i, subD_i, mulD_i, negD_i, fdivD_i, modD_i, absD_i, maxD_i, lnD_l, lnD_t, ltB_i, leB_i, gtB_i, geB_i, rng1, rng2, zipM, zip2_l, zip2_t, un2_t, un2_l, un3_t, un3_l, isDat_d,
  ixP0, ixP1, ixP2, ixS0, ixS1, ixM0, ixM1, ixM2, un3M, un3P, un2S, eqB_i, neB_i, eqB_p, neB_p, eqB_s, neB_s, eqB_m, neB_m, ite_dec, ite_ndec, ite_tt, ite_ff, ite_nt, ite_nf, isNB, notNB, isVB_b, isntVB_b, ixT30, ixT31, ixT32, ixT20, ixT21, if_true, if_false])
local macro_rules | `(tactic| walk_at "bn") => `(tactic| first
  | assumption
  | (apply Bn.mul <;> walk_at "bn")
  | (apply Bn.add <;> walk_at "bn")
  | (apply Bn.sub <;> walk_at "bn")
  | (apply Bn.neg <;> walk_at "bn")
  | (apply Bn.abs <;> walk_at "bn")
  | exact (show Bn 64 _ by unfold Bn; decide))
local macro_rules | `(tactic| walk_at "cm") => `(tactic| (apply Bn.cm; (focus walk_at "bn"); (focus walk_at "bn"); omega))
local macro_rules | `(tactic| walk_at "nz") => `(tactic| first
  | assumption
  | omega
  | (apply mulnz <;> walk_at "nz"))
local macro_rules | `(tactic| walk_at "mok") => `(tactic| first
  | assumption
  | (apply joined_ok <;> walk_at "mok")
  | (apply backOf_ok <;> walk_at "mok")
  | exact still_ok)
local macro_rules | `(tactic| walk_at "ok") => `(tactic| first
  | assumption
  | (apply plus_ok <;> walk_at "ok")
  | (apply minus_ok <;> walk_at "ok")
  | (apply times_ok <;> walk_at "ok")
  | (apply flipped_ok <;> walk_at "ok")
  | (apply ledBy_ok <;> first | walk_at "ok" | walk_at "mok")
  | solve_by_elim)
local macro_rules | `(tactic| walk_at "norm") => `(tactic| first
  | assumption
  | (apply flipped_norm <;> walk_at "norm")
  | (apply plus_norm' <;> walk_at "ok")
  | (apply minus_norm' <;> walk_at "ok")
  | (apply times_norm' <;> walk_at "ok")
  | (apply ledBy_norm <;> first | walk_at "ok" | walk_at "mok")
  | solve_by_elim)
local macro_rules | `(tactic| walk_at "shp") => `(tactic| first
  | rfl
  | assumption
  | exact shp_pt _ _
  | exact shp_sh _ _
  | exact shp_mo _ _
  | exact shpA_pt1 _ _
  | exact shpA_pt2 _ _ _
  | exact shp_pts
  | exact (show D.shp 8 _ = true from rfl)
  | solve_by_elim)
local macro_rules | `(tactic| walk_at "pts") => `(tactic| first
  | (apply pts1 <;> walk_at "norm")
  | (apply pts2 <;> walk_at "norm"))
local macro_rules | `(tactic| walk_at "ismo") => `(tactic| (apply isMo_yes <;> walk_at "mok"))
local macro_rules | `(tactic| walk_at "one") => `(tactic| assumption)
local macro_rules | `(tactic| walk_at "db") => `(tactic| first
  | assumption
  | (apply MOk.db <;> walk_at "mok")
  | (apply Ok.db <;> walk_at "ok")
  | solve_by_elim)
local macro_rules | `(tactic| walk_at "nopq") => `(tactic| first | assumption | solve_by_elim | (intro n h; cases h))
local macro_rules | `(tactic| walk_at "sz") => `(tactic| first | omega | assumption | (simp; done) | (simp_all <;> omega))
local macro_rules | `(tactic| walk_at "sok") => `(tactic| first
  | assumption
  | (apply plusSh_ok <;> walk_at "sok")
  | (apply gap_ok <;> walk_at "ok")
  | (apply size_ok <;> walk_at "ok")
  | exact nought_ok (n := 1) (by decide))
local macro_rules | `(tactic| walk_at "oks") => `(tactic| first
  | assumption
  | solve_by_elim)
local macro_rules | `(tactic| walk_at "ne") => `(tactic| first
  | assumption
  | (simp; done))
local macro_rules | `(tactic| walk_at "prs") => `(tactic| (apply prs <;> assumption))
local macro_rules | `(tactic| walk_at "norms") => `(tactic| first | assumption | solve_by_elim)
local macro_rules | `(tactic| walk_at "soks") => `(tactic| first | assumption | solve_by_elim)
local macro_rules | `(tactic| walk_at "bn") => `(tactic| first
  | assumption
  | (apply Bn.mul <;> walk_at "bn")
  | (apply Bn.add <;> walk_at "bn")
  | (apply Bn.sub <;> walk_at "bn")
  | (apply Bn.neg <;> walk_at "bn")
  | (apply Bn.abs <;> walk_at "bn")
  | exact (show Bn 64 _ by unfold Bn; decide)
  | exact (show Bn 64 _ by unfold Bn; omega))
local macro_rules | `(tactic| walk_at "pok") => `(tactic| first | assumption | solve_by_elim)
local macro_rules | `(tactic| walk_at "cd") => `(tactic| (apply Bn.cd; (focus walk_at "bn"); (first | assumption | omega); omega))
local macro_rules | `(tactic| walk_at "sz") => `(tactic| try simp only [c1, c2, c3, c4, ret, tupE, nilA, consA, lstE, itE, walkD_l, walkD_t, walkD_c, un2_t, un2_l, un3_t, un3_l, un3M, un3P, un2S])
section
variable {Φ : D → Prop} {Ψ : Str → Prop} {n m i j k' : Nat} {p q a b c d : Pt} {f : Int}
/-! ### quotients -/
theorem by_nz (hp : p.w ≠ 0) (hq : q.x ≠ 0 ∨ q.y ≠ 0) : p.w * (q.x * q.x + q.y * q.y) ≠ 0 := mulnz hp (by have := sq_pos_of hq; omega)
theorem by_norm (hp : p.w ≠ 0) (hq : q.x ≠ 0 ∨ q.y ≠ 0) : Norm (by_ p q) := low_norm (by_nz hp hq)
theorem by_ok (hp : Ok n p) (hq : Ok m q) (h : q.x ≠ 0 ∨ q.y ≠ 0) : Ok (n + 2 * m + 1) (by_ p q) :=
  (low_ok (((hp.x.mul hq.x).add (hp.y.mul hq.y)).mul hq.w) (((hp.y.mul hq.x).sub (hp.x.mul hq.y)).mul hq.w) (hp.w.mul ((hq.x.mul hq.x).add (hq.y.mul hq.y))) (by_nz hp.nz h)).mono (by omega)
theorem nn_of (hq : q.w ≠ 0) (h : q.x ≠ 0 ∨ q.y ≠ 0) : q.re * q.re + q.im * q.im ≠ 0 := by
  have h1 := castne hq
  have h2 : q.x * q.x + q.y * q.y ≠ 0 := by have := sq_pos_of h; omega
  have h3 := castne h2
  simp only [Rat.intCast_add, Rat.intCast_mul] at h3
  unfold Pt.re Pt.im
  intro e
  apply h3
  have e2 : ((q.x : Rat) / q.w * (q.x / q.w) + q.y / q.w * (q.y / q.w)) * (q.w * q.w) = q.x * q.x + q.y * q.y := by grind
  rw [← e2, e]; grind
theorem by_re (hp : p.w ≠ 0) (hq : q.w ≠ 0) (h : q.x ≠ 0 ∨ q.y ≠ 0) : (by_ p q).re * (q.re * q.re + q.im * q.im) = p.re * q.re + p.im * q.im := by
  have h1 := castne hp; have h2 := castne hq
  have h3 : q.x * q.x + q.y * q.y ≠ 0 := by have := sq_pos_of h; omega
  have h4 := castne h3
  unfold by_; rw [low_re (by_nz hp h)]; unfold Pt.re Pt.im
  simp only [Rat.intCast_add, Rat.intCast_mul] at h4 ⊢
  grind
theorem by_im (hp : p.w ≠ 0) (hq : q.w ≠ 0) (h : q.x ≠ 0 ∨ q.y ≠ 0) : (by_ p q).im * (q.re * q.re + q.im * q.im) = p.im * q.re - p.re * q.im := by
  have h1 := castne hp; have h2 := castne hq
  have h3 : q.x * q.x + q.y * q.y ≠ 0 := by have := sq_pos_of h; omega
  have h4 := castne h3
  unfold by_; rw [low_im (by_nz hp h)]; unfold Pt.re Pt.im
  simp only [Rat.intCast_add, Rat.intCast_mul, Rat.intCast_sub] at h4 ⊢
  grind
theorem rcancel {x y z : Rat} (hz : z ≠ 0) (h : x * z = y * z) : x = y := by
  have : x * z / z = y * z / z := by rw [h]
  grind
theorem by_mul (hp : p.w ≠ 0) (hq : q.w ≠ 0) (h : q.x ≠ 0 ∨ q.y ≠ 0) : (by_ p q).re * q.re - (by_ p q).im * q.im = p.re ∧ (by_ p q).re * q.im + (by_ p q).im * q.re = p.im := by
  have e1 := by_re hp hq h
  have e2 := by_im hp hq h
  have hz := nn_of hq h
  generalize (by_ p q).re = u at *
  generalize (by_ p q).im = v at *
  generalize q.re = x at *
  generalize q.im = y at *
  refine ⟨rcancel hz ?_, rcancel hz ?_⟩
  · have : (u * x - v * y) * (x * x + y * y) = (u * (x * x + y * y)) * x - (v * (x * x + y * y)) * y := by grind
    rw [this, e1, e2]; grind
  · have : (u * y + v * x) * (x * x + y * y) = (u * (x * x + y * y)) * y + (v * (x * x + y * y)) * x := by grind
    rw [this, e1, e2]; grind
theorem by_unit (hp : p.w ≠ 0) (hq : q.w ≠ 0) (h : q.x ≠ 0 ∨ q.y ≠ 0) (e : p.re * p.re + p.im * p.im = q.re * q.re + q.im * q.im) : size (by_ p q) = ⟨1, 1⟩ := by
  refine size_one (by_norm hp h).nz (rcancel (nn_of hq h) ?_)
  obtain ⟨e1, e2⟩ := by_mul hp hq h
  generalize (by_ p q).re = u at *
  generalize (by_ p q).im = v at *
  have : (u * u + v * v) * (q.re * q.re + q.im * q.im) = (u * q.re - v * q.im) * (u * q.re - v * q.im) + (u * q.im + v * q.re) * (u * q.im + v * q.re) := by grind
  rw [this, e1, e2, e]; grind
/-! ### the motion that leads two to two -/
def leadT (f : Int) (a b c d : Pt) : Pt := by_ (minus d c) (if f = 1 then flipped (minus b a) else minus b a)
def lead (f : Int) (a b c d : Pt) : Mo := ⟨leadT f a b c d, minus c (times (leadT f a b c d) (if f = 1 then flipped a else a)), f⟩
/-- four points, the first two not one -/
structure Four (n m : Nat) (a b c d : Pt) : Prop where
  oa : Ok n a
  ob : Ok n b
  oc : Ok m c
  od : Ok m d
  na : Norm a
  nb : Norm b
  nc : Norm c
  nd : Norm d
  ne : a ≠ b
theorem Four.df (h : Four n m a b c d) : (minus b a).x ≠ 0 ∨ (minus b a).y ≠ 0 := by
  by_cases hx : (minus b a).x = 0
  · right
    intro hy
    have h1 := minus_re h.ob.nz h.oa.nz
    have h2 := minus_im h.ob.nz h.oa.nz
    unfold Pt.re at h1
    unfold Pt.im at h2
    rw [hx] at h1
    rw [hy] at h2
    refine h.ne (val_inj h.na h.nb ?_ ?_)
    · unfold Pt.re; grind
    · unfold Pt.im; grind
  · exact .inl hx
theorem fl_df {p : Pt} (h : p.x ≠ 0 ∨ p.y ≠ 0) : (if f = 1 then flipped p else p).x ≠ 0 ∨ (if f = 1 then flipped p else p).y ≠ 0 := by
  split
  · rcases h with h | h
    · exact .inl h
    · exact .inr (by show -p.y ≠ 0; omega)
  · exact h
theorem Four.leadT_ok (h : Four n m a b c d) : Ok (2 * m + 4 * n + 4) (leadT f a b c d) := (by_ok (minus_ok h.od h.oc) (fl_ok (minus_ok h.ob h.oa)) (fl_df h.df)).mono (by omega)
theorem Four.leadT_norm (h : Four n m a b c d) : Norm (leadT f a b c d) := by_norm (minus_ok h.od h.oc).nz (fl_df h.df)
theorem Four.unit (h : Four n m a b c d) (e : gap a b = gap c d) : size (leadT f a b c d) = ⟨1, 1⟩ := by
  refine by_unit (minus_ok h.od h.oc).nz (fl_ok (minus_ok h.ob h.oa)).nz (fl_df h.df) ?_
  have g1 := gap_val h.oa h.ob
  have g2 := gap_val h.oc h.od
  rw [e, g2] at g1
  rw [fl_re, fl_im, minus_re h.od.nz h.oc.nz, minus_im h.od.nz h.oc.nz, minus_re h.ob.nz h.oa.nz, minus_im h.ob.nz h.oa.nz]
  split <;> grind
theorem Four.lead_ok (h : Four n m a b c d) (e : gap a b = gap c d) (hf : f = 0 ∨ f = 1) : MOk (3 * m + 5 * n + 6) (lead f a b c d) :=
  ⟨h.leadT_ok.mono (by omega), (minus_ok h.oc (times_ok h.leadT_ok (fl_ok h.oa))).mono (by omega), h.leadT_norm, minus_norm h.oc.nz (times_ok h.leadT_ok (fl_ok h.oa)).nz, h.unit e, hf⟩
theorem Four.mul (h : Four n m a b c d) : (leadT f a b c d).re * (b.re - a.re) - (leadT f a b c d).im * (if f = 1 then -(b.im - a.im) else b.im - a.im) = d.re - c.re ∧
    (leadT f a b c d).re * (if f = 1 then -(b.im - a.im) else b.im - a.im) + (leadT f a b c d).im * (b.re - a.re) = d.im - c.im := by
  obtain ⟨e1, e2⟩ := by_mul (minus_ok h.od h.oc).nz (fl_ok (f := f) (minus_ok h.ob h.oa)).nz (fl_df h.df)
  rw [fl_re, fl_im, minus_re h.od.nz h.oc.nz, minus_re h.ob.nz h.oa.nz, minus_im h.ob.nz h.oa.nz] at e1
  rw [fl_re, fl_im, minus_im h.od.nz h.oc.nz, minus_re h.ob.nz h.oa.nz, minus_im h.ob.nz h.oa.nz] at e2
  exact ⟨e1, e2⟩
theorem Four.led_a (h : Four n m a b c d) (e : gap a b = gap c d) (hf : f = 0 ∨ f = 1) : ledBy (lead f a b c d) a = c := by
  have hm := h.lead_ok e hf
  have ht := h.leadT_ok (f := f)
  have hfa := fl_ok (f := f) h.oa
  refine val_inj (ledBy_norm hm h.oa) h.nc ?_ ?_
  · rw [ledBy_re hm h.oa]
    show (leadT f a b c d).re * _ - (leadT f a b c d).im * _ + (minus c (times (leadT f a b c d) _)).re = _
    rw [minus_re h.oc.nz (times_ok ht hfa).nz, times_re ht.nz hfa.nz, fl_re, fl_im]
    show _ - (leadT f a b c d).im * (if f = 1 then _ else _) + _ = _
    grind
  · rw [ledBy_im hm h.oa]
    show (leadT f a b c d).re * (if f = 1 then _ else _) + (leadT f a b c d).im * _ + (minus c (times (leadT f a b c d) _)).im = _
    rw [minus_im h.oc.nz (times_ok ht hfa).nz, times_im ht.nz hfa.nz, fl_re, fl_im]
    grind
theorem Four.led_b (h : Four n m a b c d) (e : gap a b = gap c d) (hf : f = 0 ∨ f = 1) : ledBy (lead f a b c d) b = d := by
  have hm := h.lead_ok e hf
  have ht := h.leadT_ok (f := f)
  have hfa := fl_ok (f := f) h.oa
  obtain ⟨e1, e2⟩ := h.mul (f := f)
  refine val_inj (ledBy_norm hm h.ob) h.nd ?_ ?_
  · rw [ledBy_re hm h.ob]
    show (leadT f a b c d).re * _ - (leadT f a b c d).im * (if f = 1 then _ else _) + (minus c (times (leadT f a b c d) _)).re = _
    rw [minus_re h.oc.nz (times_ok ht hfa).nz, times_re ht.nz hfa.nz, fl_re, fl_im]
    split <;> rename_i hf1 <;> simp only [hf1, if_true, if_false] at e1 e2 ⊢ <;> grind
  · rw [ledBy_im hm h.ob]
    show (leadT f a b c d).re * (if f = 1 then _ else _) + (leadT f a b c d).im * _ + (minus c (times (leadT f a b c d) _)).im = _
    rw [minus_im h.oc.nz (times_ok ht hfa).nz, times_im ht.nz hfa.nz, fl_re, fl_im]
    split <;> rename_i hf1 <;> simp only [hf1, if_true, if_false] at e1 e2 ⊢ <;> grind
theorem Four.only (h : Four n m a b c d) {mo : Mo} (hm : MOk k' mo) (ha : ledBy mo a = c) (hb : ledBy mo b = d) : mo = lead mo.f a b c d := by
  obtain ⟨e1, e2⟩ := h.mul (f := mo.f)
  have ht := h.leadT_ok (f := mo.f)
  have hq := fl_ok (f := mo.f) (minus_ok h.ob h.oa)
  have hz := nn_of hq.nz (fl_df (f := mo.f) h.df)
  rw [fl_re, fl_im, minus_re h.ob.nz h.oa.nz, minus_im h.ob.nz h.oa.nz] at hz
  have a1 := ledBy_re hm h.oa; have a2 := ledBy_im hm h.oa; have b1 := ledBy_re hm h.ob; have b2 := ledBy_im hm h.ob
  rw [ha] at a1 a2
  rw [hb] at b1 b2
  have ey : (if mo.f = 1 then -b.im else b.im) - (if mo.f = 1 then -a.im else a.im) = (if mo.f = 1 then -(b.im - a.im) else b.im - a.im) := by split <;> grind
  generalize (if mo.f = 1 then -b.im else b.im) = fb at *
  generalize (if mo.f = 1 then -a.im else a.im) = fa at *
  generalize (if mo.f = 1 then -(b.im - a.im) else b.im - a.im) = y at *
  generalize hx : b.re - a.re = x at *
  have f1 : mo.t.re * x - mo.t.im * y = d.re - c.re := by rw [← ey, ← hx]; grind
  have f2 : mo.t.re * y + mo.t.im * x = d.im - c.im := by rw [← ey, ← hx]; grind
  have t1 : mo.t.re = (leadT mo.f a b c d).re := by
    refine rcancel hz ?_
    have g1 : mo.t.re * (x * x + y * y) = (mo.t.re * x - mo.t.im * y) * x + (mo.t.re * y + mo.t.im * x) * y := by grind
    have g2 : (leadT mo.f a b c d).re * (x * x + y * y) = ((leadT mo.f a b c d).re * x - (leadT mo.f a b c d).im * y) * x + ((leadT mo.f a b c d).re * y + (leadT mo.f a b c d).im * x) * y := by grind
    rw [g1, g2, f1, f2, e1, e2]
  have t2 : mo.t.im = (leadT mo.f a b c d).im := by
    refine rcancel hz ?_
    have g1 : mo.t.im * (x * x + y * y) = (mo.t.re * y + mo.t.im * x) * x - (mo.t.re * x - mo.t.im * y) * y := by grind
    have g2 : (leadT mo.f a b c d).im * (x * x + y * y) = ((leadT mo.f a b c d).re * y + (leadT mo.f a b c d).im * x) * x - ((leadT mo.f a b c d).re * x - (leadT mo.f a b c d).im * y) * y := by grind
    rw [g1, g2, f1, f2, e1, e2]
  have et : mo.t = leadT mo.f a b c d := val_inj hm.tn h.leadT_norm t1 t2
  have hfa := fl_ok (f := mo.f) h.oa
  have es : mo.s = minus c (times mo.t (if mo.f = 1 then flipped a else a)) := by
    refine val_inj hm.sn (minus_norm h.oc.nz (times_ok hm.t hfa).nz) ?_ ?_
    · have r1 := ledBy_re hm h.oa
      rw [ha] at r1
      rw [minus_re h.oc.nz (times_ok hm.t hfa).nz, times_re hm.t.nz hfa.nz, fl_re, fl_im, r1]; grind
    · have r1 := ledBy_im hm h.oa
      rw [ha] at r1
      rw [minus_im h.oc.nz (times_ok hm.t hfa).nz, times_im hm.t.nz hfa.nz, fl_re, fl_im, r1]; grind
  unfold lead
  rw [← et, ← es]
end
end G
namespace G
open PySem PySem.Spec L2
local macro_rules | `(tactic| walk_at "sx") => `(tactic| try simp only [bin, una, lcE, cmpV, cmpT, tv, bv_b, notT, andT, orT, notV, andV, orV, ifE, nilA, consA, tupE, lstE, c1, c2, c3, c4, itE, seqD_l, seqD_t, walkD_l, walkD_t, walkD_c, ret, addD_i, subD_i, mulD_i, negD_i, fdivD_i, modD_i, absD_i, maxD_i, lnD_l, lnD_t, ltB_i, leB_i, gtB_i, geB_i, rng1, rng2, zipM, zip2_l, zip2_t, chnV, chnT, un2_t, un2_l, un3_t, un3_l, join, isDat_d,
  ixP0, ixP1, ixP2, ixS0, ixS1, ixM0, ixM1, ixM2, un3M, un3P, un2S, eqB_i, neB_i, eqB_p, neB_p, eqB_s, neB_s, eqB_m, neB_m, ite_dec, ite_ndec, ite_tt, ite_ff, ite_nt, ite_nf, isNB, notNB, isVB_b, isntVB_b, ixT30, ixT31, ixT32, ixT20, ixT21, if_true, if_false])
local macro_rules | `(tactic| walk_at "sy") => `(tactic| try simp only [bin, una, lcE, cmpV, cmpT, tv, bv_b, nilA, consA, tupE, lstE, c1, c2, c3, c4, itE, seqD_l, seqD_t, walkD_l, walkD_t, walkD_c, ret, addD_i, subD_i, mulD_i, negD_i, fdivD_i, modD_i, absD_i, maxD_i, lnD_l, lnD_t, ltB_i, leB_i, gtB_i, geB_i, rng1, rng2, zipM, zip2_l, zip2_t, un2_t, un2_l, un3_t, un3_l, isDat_d,
  ixP0, ixP1, ixP2, ixS0, ixS1, ixM0, ixM1, ixM2, un3M, un3P, un2S, eqB_i, neB_i, eqB_p, neB_p, eqB_s, neB_s, eqB_m, neB_m, ite_dec, ite_ndec, ite_tt, ite_ff, ite_nt, ite_nf, isNB, notNB, isVB_b, isntVB_b, ixT30, ixT31, ixT32, ixT20, ixT21, if_true, if_false])
local macro_rules | `(tactic| walk_at "bn") => `(tactic| first
  | assumption
  | (apply Bn.mul <;> walk_at "bn")
  | (apply Bn.add <;> walk_at "bn")
  | (apply Bn.sub <;> walk_at "bn")
  | (apply Bn.neg <;> walk_at "bn")
  | (apply Bn.abs <;> walk_at "bn")
  | exact (show Bn 64 _ by unfold Bn; decide))
local macro_rules | `(tactic| walk_at "cm") => `(tactic| (apply Bn.cm; (focus walk_at "bn"); (focus walk_at "bn"); omega))
local macro_rules | `(tactic| walk_at "nz") => `(tactic| first
  | assumption
  | omega
  | (apply mulnz <;> walk_at "nz"))
local macro_rules | `(tactic| walk_at "mok") => `(tactic| first
  | assumption
  | (apply joined_ok <;> walk_at "mok")
  | (apply backOf_ok <;> walk_at "mok")
  | exact still_ok)
local macro_rules | `(tactic| walk_at "ok") => `(tactic| first
  | assumption
  | (apply plus_ok <;> walk_at "ok")
  | (apply minus_ok <;> walk_at "ok")
  | (apply times_ok <;> walk_at "ok")
  | (apply flipped_ok <;> walk_at "ok")
  | (apply ledBy_ok <;> first | walk_at "ok" | walk_at "mok")
  | solve_by_elim)
local macro_rules | `(tactic| walk_at "norm") => `(tactic| first
  | assumption
  | (apply flipped_norm <;> walk_at "norm")
  | (apply plus_norm' <;> walk_at "ok")
  | (apply minus_norm' <;> walk_at "ok")
  | (apply times_norm' <;> walk_at "ok")
  | (apply ledBy_norm <;> first | walk_at "ok" | walk_at "mok")
  | solve_by_elim)
local macro_rules | `(tactic| walk_at "shp") => `(tactic| first
  | rfl
  | assumption
  | exact shp_pt _ _
  | exact shp_sh _ _
  | exact shp_mo _ _
  | exact shpA_pt1 _ _
  | exact shpA_pt2 _ _ _
  | exact shp_pts
  | exact (show D.shp 8 _ = true from rfl)
  | solve_by_elim)
local macro_rules | `(tactic| walk_at "pts") => `(tactic| first
  | (apply pts1 <;> walk_at "norm")
  | (apply pts2 <;> walk_at "norm"))
local macro_rules | `(tactic| walk_at "ismo") => `(tactic| (apply isMo_yes <;> walk_at "mok"))
local macro_rules | `(tactic| walk_at "one") => `(tactic| assumption)
local macro_rules | `(tactic| walk_at "db") => `(tactic| first
  | assumption
  | (apply MOk.db <;> walk_at "mok")
  | (apply Ok.db <;> walk_at "ok")
  | solve_by_elim)
local macro_rules | `(tactic| walk_at "nopq") => `(tactic| first | assumption | solve_by_elim | (intro n h; cases h))
local macro_rules | `(tactic| walk_at "sz") => `(tactic| first | omega | assumption | (simp; done) | (simp_all <;> omega))
local macro_rules | `(tactic| walk_at "sok") => `(tactic| first
  | assumption
  | (apply plusSh_ok <;> walk_at "sok")
  | (apply gap_ok <;> walk_at "ok")
  | (apply size_ok <;> walk_at "ok")
  | exact nought_ok (n := 1) (by decide))
local macro_rules | `(tactic| walk_at "oks") => `(tactic| first
  | assumption
  | solve_by_elim)
local macro_rules | `(tactic| walk_at "ne") => `(tactic| first
  | assumption
  | (simp; done))
local macro_rules | `(tactic| walk_at "prs") => `(tactic| (apply prs <;> assumption))
local macro_rules | `(tactic| walk_at "norms") => `(tactic| first | assumption | solve_by_elim)
local macro_rules | `(tactic| walk_at "soks") => `(tactic| first | assumption | solve_by_elim)
local macro_rules | `(tactic| walk_at "bn") => `(tactic| first
  | assumption
  | (apply Bn.mul <;> walk_at "bn")
  | (apply Bn.add <;> walk_at "bn")
  | (apply Bn.sub <;> walk_at "bn")
  | (apply Bn.neg <;> walk_at "bn")
  | (apply Bn.abs <;> walk_at "bn")
  | exact (show Bn 64 _ by unfold Bn; decide)
  | exact (show Bn 64 _ by unfold Bn; omega))
local macro_rules | `(tactic| walk_at "pok") => `(tactic| first | assumption | solve_by_elim)
local macro_rules | `(tactic| walk_at "cd") => `(tactic| (apply Bn.cd; (focus walk_at "bn"); (first | assumption | omega); omega))
local macro_rules | `(tactic| walk_at "sz") => `(tactic| try simp only [c1, c2, c3, c4, ret, tupE, nilA, consA, lstE, itE, walkD_l, walkD_t, walkD_c, un2_t, un2_l, un3_t, un3_l, un3M, un3P, un2S])
section
variable {Φ : D → Prop} {Ψ : Str → Prop} {n m i j k' : Nat} {p q a b c d : Pt} {f : Int}
theorem by_w (hp : Ok n p) (hq : Ok m q) (h : q.x ≠ 0 ∨ q.y ≠ 0) (hn : n + m ≤ 2000) (k : Φ (by_ p q).d) : p_by p.d q.d Φ Ψ := by
  have b1 := hp.x; have b2 := hp.y; have b3 := hp.w; have b4 := hq.x; have b5 := hq.y; have b6 := hq.w
  refine ⟨?_⟩
  walk_at "sx"
  exact ⟨by walk_at "cm", by walk_at "cm", by walk_at "cm", by walk_at "cm", by walk_at "cm", by walk_at "cm", by walk_at "cm", by walk_at "cm", by walk_at "cm", lowest_w (b3.mul ((b4.mul b4).add (b5.mul b5))) (by_nz hp.nz h) (by omega) k⟩
/-! ### what was refused -/
def refN (z : Str) : Str := if z = "BadNumber" then "number" else if z = "BadPoint" then "point" else if z = "BadMotion" then "motion" else if z = "BadHeap" then "heap" else if z = "BadPairs" then "pairs" else if z = "BadName" then "name" else if z = "BadText" then "text" else "none"
theorem isx {z y : Str} (hz : z ∈ excN) (k : Φ (.bl (subX z y))) : isxD y (excD z) Φ := ⟨z, hz, rfl, k⟩
def sortsL (z : Str) : List Bool := [subX z "BadNumber", subX z "BadPoint", subX z "BadMotion", subX z "BadHeap", subX z "BadPairs", subX z "BadName", subX z "BadText", subX z "NoThing"]
theorem sorts_is : ∀ z ∈ excN, (sortsL z).count true = 1 ∧ subX z "OverError" = true ∧ subX z "ValueError" = true ∧ ∃ j : Nat, (sortsL z)[j]? = some true ∧ (∀ m : Nat, m < j → (sortsL z)[m]? ≠ some true) ∧
    j < 8 ∧ ([.str "number", .str "point", .str "motion", .str "heap", .str "pairs", .str "name", .str "text", .str "none"] : List D)[j]? = some (.str (refN z)) := by
  intro z hz
  simp only [excN, List.mem_cons, List.not_mem_nil, or_false] at hz
  rcases hz with rfl | rfl | rfl | rfl | rfl | rfl | rfl | rfl
  · exact ⟨by decide, by decide, by decide, 0, by decide, by decide, by decide, rfl⟩
  · exact ⟨by decide, by decide, by decide, 1, by decide, by decide, by decide, rfl⟩
  · exact ⟨by decide, by decide, by decide, 2, by decide, by decide, by decide, rfl⟩
  · exact ⟨by decide, by decide, by decide, 3, by decide, by decide, by decide, rfl⟩
  · exact ⟨by decide, by decide, by decide, 4, by decide, by decide, by decide, rfl⟩
  · exact ⟨by decide, by decide, by decide, 5, by decide, by decide, by decide, rfl⟩
  · exact ⟨by decide, by decide, by decide, 6, by decide, by decide, by decide, rfl⟩
  · exact ⟨by decide, by decide, by decide, 7, by decide, by decide, by decide, rfl⟩
theorem law_refusal_w {z : Str} (hz : z ∈ excN) (k : Φ (.str (refN z))) : p_law_refusal (excD z) Φ Ψ := by
  obtain ⟨h1, h2, h3, j, hj, hno, h8, hs⟩ := sorts_is z hz
  refine ⟨?_⟩
  walk_at "sy"
  refine isx hz (isx hz (isx hz (isx hz (isx hz (isx hz ⟨by simp, isx hz (isx hz ⟨by simp, ?_⟩)⟩)))))
  have e : D.lst ([.bl (subX z "BadNumber"), .bl (subX z "BadPoint"), .bl (subX z "BadMotion")] ++ [.bl (subX z "BadHeap"), .bl (subX z "BadPairs"), .bl (subX z "BadName")] ++ [.bl (subX z "BadText"), .bl (subX z "NoThing")]) = D.lst ((sortsL z).map D.bl) := rfl
  rw [e]
  show orT _ _ _ _
  refine if_no (fun Θ hΘ => ?_) ?_
  · show ∃ bs : List Bool, _ = bs.map D.bl ∧ _
    refine ⟨sortsL z, rfl, ?_⟩
    rw [h1]
    simp only [ret, neB_i]
    rw [if_neg (by decide)]
    walk_at "sx"
    refine isx hz ?_
    rw [h2]
    walk_at "sx"
    refine isx hz ?_
    rw [h3]
    walk_at "sx"
    exact hΘ
  · refine ⟨sortsL z, j, rfl, hj, hno, ?_⟩
    refine ixL_in (by omega) (by simp; omega) ?_
    obtain ⟨_, e⟩ := List.getElem?_eq_some_iff.mp hs
    have e2 : (j : Int).toNat = j := by omega
    simp only [e2]
    rw [e]; exact k
theorem deq_self {d : D} {n : Nat} (h : D.shp n d = true) : deq d d = true := PySem.SeqAt.eqv_refl _ (D.shp_ok d n h).1
theorem neB_same {x : D} {Θ : Bool → Prop} (h : D.shp 40 x = true) (k : Θ false) : neB x x Θ := by
  refine ⟨⟨h, h⟩, ?_⟩
  rw [deq_self h]; exact k
theorem eqB_same {x : D} {Θ : Bool → Prop} (h : D.shp 40 x = true) (k : Θ true) : eqB x x Θ := by
  refine ⟨⟨h, h⟩, ?_⟩
  rw [deq_self h]; exact k
theorem tupleL {xs : List D} (h : xs.length ≤ 100000) (k : Φ (.tup xs)) : tupleD (.lst xs) Φ := by first | exact k | exact ⟨h, k⟩
end
end G
namespace G
open PySem PySem.Spec L2
local macro_rules | `(tactic| walk_at "sx") => `(tactic| try simp only [bin, una, lcE, cmpV, cmpT, tv, bv_b, notT, andT, orT, notV, andV, orV, ifE, nilA, consA, tupE, lstE, c1, c2, c3, c4, itE, seqD_l, seqD_t, walkD_l, walkD_t, walkD_c, ret, addD_i, subD_i, mulD_i, negD_i, fdivD_i, modD_i, absD_i, maxD_i, lnD_l, lnD_t, ltB_i, leB_i, gtB_i, geB_i, rng1, rng2, zipM, zip2_l, zip2_t, chnV, chnT, un2_t, un2_l, un3_t, un3_l, join, isDat_d,
  ixP0, ixP1, ixP2, ixS0, ixS1, ixM0, ixM1, ixM2, un3M, un3P, un2S, eqB_i, neB_i, eqB_p, neB_p, eqB_s, neB_s, eqB_m, neB_m, ite_dec, ite_ndec, ite_tt, ite_ff, ite_nt, ite_nf, isNB, notNB, isVB_b, isntVB_b, ixT30, ixT31, ixT32, ixT20, ixT21, if_true, if_false])
local macro_rules | `(tactic| walk_at "sy") => `(tactic| try simp only [bin, una, lcE, cmpV, cmpT, tv, bv_b, nilA, consA, tupE, lstE, c1, c2, c3, c4, itE, seqD_l, seqD_t, walkD_l, walkD_t, walkD_c, ret, addD_i, subD_i, mulD_i, negD_i, fdivD_i, modD_i, absD_i, maxD_i, lnD_l, lnD_t, ltB_i, leB_i, gtB_i, geB_i, rng1, rng2, zipM, zip2_l, zip2_t, un2_t, un2_l, un3_t, un3_l, isDat_d,
  ixP0, ixP1, ixP2, ixS0, ixS1, ixM0, ixM1, ixM2, un3M, un3P, un2S, eqB_i, neB_i, eqB_p, neB_p, eqB_s, neB_s, eqB_m, neB_m, ite_dec, ite_ndec, ite_tt, ite_ff, ite_nt, ite_nf, isNB, notNB, isVB_b, isntVB_b, ixT30, ixT31, ixT32, ixT20, ixT21, if_true, if_false])
local macro_rules | `(tactic| walk_at "bn") => `(tactic| first
  | assumption
  | (apply Bn.mul <;> walk_at "bn")
  | (apply Bn.add <;> walk_at "bn")
  | (apply Bn.sub <;> walk_at "bn")
  | (apply Bn.neg <;> walk_at "bn")
  | (apply Bn.abs <;> walk_at "bn")
  | exact (show Bn 64 _ by unfold Bn; decide))
local macro_rules | `(tactic| walk_at "cm") => `(tactic| (apply Bn.cm; (focus walk_at "bn"); (focus walk_at "bn"); omega))
local macro_rules | `(tactic| walk_at "nz") => `(tactic| first
  | assumption
  | omega
  | (apply mulnz <;> walk_at "nz"))
local macro_rules | `(tactic| walk_at "mok") => `(tactic| first
  | assumption
  | (apply joined_ok <;> walk_at "mok")
  | (apply backOf_ok <;> walk_at "mok")
  | exact still_ok)
local macro_rules | `(tactic| walk_at "ok") => `(tactic| first
  | assumption
  | (apply plus_ok <;> walk_at "ok")
  | (apply minus_ok <;> walk_at "ok")
  | (apply times_ok <;> walk_at "ok")
  | (apply flipped_ok <;> walk_at "ok")
  | (apply ledBy_ok <;> first | walk_at "ok" | walk_at "mok")
  | solve_by_elim)
local macro_rules | `(tactic| walk_at "norm") => `(tactic| first
  | assumption
  | (apply flipped_norm <;> walk_at "norm")
  | (apply plus_norm' <;> walk_at "ok")
  | (apply minus_norm' <;> walk_at "ok")
  | (apply times_norm' <;> walk_at "ok")
  | (apply ledBy_norm <;> first | walk_at "ok" | walk_at "mok")
  | solve_by_elim)
local macro_rules | `(tactic| walk_at "shp") => `(tactic| first
  | rfl
  | assumption
  | exact shp_pt _ _
  | exact shp_sh _ _
  | exact shp_mo _ _
  | exact shpA_pt1 _ _
  | exact shpA_pt2 _ _ _
  | exact shp_pts
  | exact (show D.shp 8 _ = true from rfl)
  | solve_by_elim)
local macro_rules | `(tactic| walk_at "pts") => `(tactic| first
  | (apply pts1 <;> walk_at "norm")
  | (apply pts2 <;> walk_at "norm"))
local macro_rules | `(tactic| walk_at "ismo") => `(tactic| (apply isMo_yes <;> walk_at "mok"))
local macro_rules | `(tactic| walk_at "one") => `(tactic| assumption)
local macro_rules | `(tactic| walk_at "db") => `(tactic| first
  | assumption
  | (apply MOk.db <;> walk_at "mok")
  | (apply Ok.db <;> walk_at "ok")
  | solve_by_elim)
local macro_rules | `(tactic| walk_at "nopq") => `(tactic| first | assumption | solve_by_elim | (intro n h; cases h))
local macro_rules | `(tactic| walk_at "sz") => `(tactic| first | omega | assumption | (simp; done) | (simp_all <;> omega))
local macro_rules | `(tactic| walk_at "sok") => `(tactic| first
  | assumption
  | (apply plusSh_ok <;> walk_at "sok")
  | (apply gap_ok <;> walk_at "ok")
  | (apply size_ok <;> walk_at "ok")
  | exact nought_ok (n := 1) (by decide))
local macro_rules | `(tactic| walk_at "oks") => `(tactic| first
  | assumption
  | solve_by_elim)
local macro_rules | `(tactic| walk_at "ne") => `(tactic| first
  | assumption
  | (simp; done))
local macro_rules | `(tactic| walk_at "prs") => `(tactic| (apply prs <;> assumption))
local macro_rules | `(tactic| walk_at "norms") => `(tactic| first | assumption | solve_by_elim)
local macro_rules | `(tactic| walk_at "soks") => `(tactic| first | assumption | solve_by_elim)
local macro_rules | `(tactic| walk_at "bn") => `(tactic| first
  | assumption
  | (apply Bn.mul <;> walk_at "bn")
  | (apply Bn.add <;> walk_at "bn")
  | (apply Bn.sub <;> walk_at "bn")
  | (apply Bn.neg <;> walk_at "bn")
  | (apply Bn.abs <;> walk_at "bn")
  | exact (show Bn 64 _ by unfold Bn; decide)
  | exact (show Bn 64 _ by unfold Bn; omega))
local macro_rules | `(tactic| walk_at "pok") => `(tactic| first | assumption | solve_by_elim)
local macro_rules | `(tactic| walk_at "cd") => `(tactic| (apply Bn.cd; (focus walk_at "bn"); (first | assumption | omega); omega))
local macro_rules | `(tactic| walk_at "sz") => `(tactic| try simp only [c1, c2, c3, c4, ret, tupE, nilA, consA, lstE, itE, walkD_l, walkD_t, walkD_c, un2_t, un2_l, un3_t, un3_l, un3M, un3P, un2S])
section
variable {Φ : D → Prop} {Ψ : Str → Prop} {n m i j k' : Nat} {p q : Pt} {x y : D}
theorem caught_w {z : Str} (hz : z ∈ excN) (k : Φ (.str (refN z))) : (ifE (cmpT isNB (ret (excD z)) (ret (.non))) (ret (.str "told")) (c1 p_law_refusal (ret (excD z)))) Φ Ψ := by
  have e : (excD z).isN = false := rfl
  simp only [ifE, cmpT, ret, isNB, c1, e]
  rw [if_neg (by decide)]
  exact law_refusal_w hz k
theorem strs_eq {s : Str} {ys : List D} (hs : PyData.strOk s = true) (hy : ∀ y ∈ ys, y = .str s) {Θ : Bool → Prop} {m : Int} (h0 : 0 ≤ m) (h1 : m ≤ 1000) (e : ys.length = m.toNat) (hΘ : Θ false) : mulD (.lst [.str s]) (.int m) fun z => neB (.lst ys) z Θ := by
  refine ⟨⟨h0, h1, by simp; omega⟩, ?_⟩
  have e2 : (List.replicate m.toNat [D.str s]).flatten = ys := by
    apply List.ext_getElem
    · simp [e]
    · intro i h1 h2
      rw [hy _ (List.getElem_mem h2)]; simp
  rw [e2]
  refine neB_same ?_ hΘ
  show D.shp (39 + 1) _ = true
  rw [shp_lst]
  exact shpA_all fun d hd => by rw [hy d hd]; exact hs
/-! ### parts of things that are no motions -/
structure Part (y : D) : Prop where
  s : D.shp 7 y = true
  b : Db 64 y
  t : y.isT = true → ∀ zs, y = .tup zs → zs.length ≤ 100000
theorem part_pt {p : Pt} (h : Ok 64 p) : Part p.d := ⟨shp_pt 6 p, h.db, pt_len⟩
theorem DbA_all {n : Nat} : ∀ {xs : List D}, (∀ y ∈ xs, Db n y) → DbA n xs
  | [], _ => trivial
  | x :: xs, h => ⟨h x List.mem_cons_self, DbA_all fun y hy => h y (List.mem_cons_of_mem _ hy)⟩
structure BadM (d : D) : Prop where
  s : D.shp 8 d = true
  b : Db 64 d
  z : SmT d
  e : isMo d = false
theorem badM_tup {xs : List D} (h : ∀ y ∈ xs, Part y) (hl : xs.length ≤ 100) (e : isMo (.tup xs) = false) : BadM (.tup xs) := by
  refine ⟨?_, DbA_all fun y hy => (h y hy).b, fun _ ys e => ?_, e⟩
  · show D.shp (7 + 1) _ = true
    rw [shp_tup]
    exact shpA_all fun y hy => (h y hy).s
  · injection e with e
    subst e
    exact ⟨by omega, fun y hy => (h y hy).t⟩
theorem BadM.look {d : D} (h : BadM d) (k : Ψ "BadMotion") : p_look_motion d Φ Ψ := look_motion_bad h.s h.b (by decide) h.z h.e k
theorem BadM.is {d : D} (h : BadM d) (k : Φ (.bl false)) : p_is_motion d Φ Ψ := is_motion_w h.s h.b (by decide) h.z (by rw [h.e]; exact k)
end
end G
namespace G
open PySem PySem.Spec L2
local macro_rules | `(tactic| walk_at "sx") => `(tactic| try simp only [bin, una, lcE, cmpV, cmpT, tv, bv_b, notT, andT, orT, notV, andV, orV, ifE, nilA, consA, tupE, lstE, c1, c2, c3, c4, itE, seqD_l, seqD_t, walkD_l, walkD_t, walkD_c, ret, addD_i, subD_i, mulD_i, negD_i, fdivD_i, modD_i, absD_i, maxD_i, lnD_l, lnD_t, ltB_i, leB_i, gtB_i, geB_i, rng1, rng2, zipM, zip2_l, zip2_t, chnV, chnT, un2_t, un2_l, un3_t, un3_l, join, isDat_d,
  ixP0, ixP1, ixP2, ixS0, ixS1, ixM0, ixM1, ixM2, un3M, un3P, un2S, eqB_i, neB_i, eqB_p, neB_p, eqB_s, neB_s, eqB_m, neB_m, ite_dec, ite_ndec, ite_tt, ite_ff, ite_nt, ite_nf, isNB, notNB, isVB_b, isntVB_b, ixT30, ixT31, ixT32, ixT20, ixT21, if_true, if_false])
local macro_rules | `(tactic| walk_at "sy") => `(tactic| try simp only [bin, una, lcE, cmpV, cmpT, tv, bv_b, nilA, consA, tupE, lstE, c1, c2, c3, c4, itE, seqD_l, seqD_t, walkD_l, walkD_t, walkD_c, ret, addD_i, subD_i, mulD_i, negD_i, fdivD_i, modD_i, absD_i, maxD_i, lnD_l, lnD_t, ltB_i, leB_i, gtB_i, geB_i, rng1, rng2, zipM, zip2_l, zip2_t, un2_t, un2_l, un3_t, un3_l, isDat_d,
  ixP0, ixP1, ixP2, ixS0, ixS1, ixM0, ixM1, ixM2, un3M, un3P, un2S, eqB_i, neB_i, eqB_p, neB_p, eqB_s, neB_s, eqB_m, neB_m, ite_dec, ite_ndec, ite_tt, ite_ff, ite_nt, ite_nf, isNB, notNB, isVB_b, isntVB_b, ixT30, ixT31, ixT32, ixT20, ixT21, if_true, if_false])
local macro_rules | `(tactic| walk_at "bn") => `(tactic| first
  | assumption
  | (apply Bn.mul <;> walk_at "bn")
  | (apply Bn.add <;> walk_at "bn")
  | (apply Bn.sub <;> walk_at "bn")
  | (apply Bn.neg <;> walk_at "bn")
  | (apply Bn.abs <;> walk_at "bn")
  | exact (show Bn 64 _ by unfold Bn; decide))
local macro_rules | `(tactic| walk_at "cm") => `(tactic| (apply Bn.cm; (focus walk_at "bn"); (focus walk_at "bn"); omega))
local macro_rules | `(tactic| walk_at "nz") => `(tactic| first
  | assumption
  | omega
  | (apply mulnz <;> walk_at "nz"))
local macro_rules | `(tactic| walk_at "mok") => `(tactic| first
  | assumption
  | (apply joined_ok <;> walk_at "mok")
  | (apply backOf_ok <;> walk_at "mok")
  | exact still_ok)
local macro_rules | `(tactic| walk_at "ok") => `(tactic| first
  | assumption
  | (apply plus_ok <;> walk_at "ok")
  | (apply minus_ok <;> walk_at "ok")
  | (apply times_ok <;> walk_at "ok")
  | (apply flipped_ok <;> walk_at "ok")
  | (apply ledBy_ok <;> first | walk_at "ok" | walk_at "mok")
  | solve_by_elim)
local macro_rules | `(tactic| walk_at "norm") => `(tactic| first
  | assumption
  | (apply flipped_norm <;> walk_at "norm")
  | (apply plus_norm' <;> walk_at "ok")
  | (apply minus_norm' <;> walk_at "ok")
  | (apply times_norm' <;> walk_at "ok")
  | (apply ledBy_norm <;> first | walk_at "ok" | walk_at "mok")
  | solve_by_elim)
local macro_rules | `(tactic| walk_at "shp") => `(tactic| first
  | rfl
  | assumption
  | exact shp_pt _ _
  | exact shp_sh _ _
  | exact shp_mo _ _
  | exact shpA_pt1 _ _
  | exact shpA_pt2 _ _ _
  | exact shp_pts
  | exact (show D.shp 8 _ = true from rfl)
  | solve_by_elim)
local macro_rules | `(tactic| walk_at "pts") => `(tactic| first
  | (apply pts1 <;> walk_at "norm")
  | (apply pts2 <;> walk_at "norm"))
local macro_rules | `(tactic| walk_at "ismo") => `(tactic| (apply isMo_yes <;> walk_at "mok"))
local macro_rules | `(tactic| walk_at "one") => `(tactic| assumption)
local macro_rules | `(tactic| walk_at "db") => `(tactic| first
  | assumption
  | (apply MOk.db <;> walk_at "mok")
  | (apply Ok.db <;> walk_at "ok")
  | solve_by_elim)
local macro_rules | `(tactic| walk_at "nopq") => `(tactic| first | assumption | solve_by_elim | (intro n h; cases h))
local macro_rules | `(tactic| walk_at "sz") => `(tactic| first | omega | assumption | (simp; done) | (simp_all <;> omega))
local macro_rules | `(tactic| walk_at "sok") => `(tactic| first
  | assumption
  | (apply plusSh_ok <;> walk_at "sok")
  | (apply gap_ok <;> walk_at "ok")
  | (apply size_ok <;> walk_at "ok")
  | exact nought_ok (n := 1) (by decide))
local macro_rules | `(tactic| walk_at "oks") => `(tactic| first
  | assumption
  | solve_by_elim)
local macro_rules | `(tactic| walk_at "ne") => `(tactic| first
  | assumption
  | (simp; done))
local macro_rules | `(tactic| walk_at "prs") => `(tactic| (apply prs <;> assumption))
local macro_rules | `(tactic| walk_at "norms") => `(tactic| first | assumption | solve_by_elim)
local macro_rules | `(tactic| walk_at "soks") => `(tactic| first | assumption | solve_by_elim)
local macro_rules | `(tactic| walk_at "bn") => `(tactic| first
  | assumption
  | (apply Bn.mul <;> walk_at "bn")
  | (apply Bn.add <;> walk_at "bn")
  | (apply Bn.sub <;> walk_at "bn")
  | (apply Bn.neg <;> walk_at "bn")
  | (apply Bn.abs <;> walk_at "bn")
  | exact (show Bn 64 _ by unfold Bn; decide)
  | exact (show Bn 64 _ by unfold Bn; omega))
local macro_rules | `(tactic| walk_at "pok") => `(tactic| first | assumption | solve_by_elim)
local macro_rules | `(tactic| walk_at "cd") => `(tactic| (apply Bn.cd; (focus walk_at "bn"); (first | assumption | omega); omega))
local macro_rules | `(tactic| walk_at "sz") => `(tactic| try simp only [c1, c2, c3, c4, ret, tupE, nilA, consA, lstE, itE, walkD_l, walkD_t, walkD_c, un2_t, un2_l, un3_t, un3_l, un3M, un3P, un2S])
/-! ### tables -/
section
variable {α β : Type} [DecidableEq α]
def put (kvs : List (α × β)) (k : α) (v : β) : List (α × β) := if k ∈ kvs.map (·.1) then kvs.map (fun p => if p.1 = k then (p.1, v) else p) else kvs ++ [(k, v)]
def get (kvs : List (α × β)) (k : α) : Option β := (kvs.find? fun p => decide (p.1 = k)).map (·.2)
abbrev eK (enc : α → D) (en : β → D) (kvs : List (α × β)) : List (D × D) := kvs.map fun p => (enc p.1, en p.2)
theorem eK_fst {enc : α → D} {en : β → D} {kvs : List (α × β)} : (eK enc en kvs).map (·.1) = (kvs.map (·.1)).map enc := by rw [List.map_map, List.map_map]; rfl
theorem eK_snd {enc : α → D} {en : β → D} {kvs : List (α × β)} : (eK enc en kvs).map (·.2) = (kvs.map (·.2)).map en := by rw [List.map_map, List.map_map]; rfl
theorem mem_enc {enc : α → D} (hi : ∀ a b, enc a = enc b → a = b) {l : List α} {a : α} : enc a ∈ l.map enc ↔ a ∈ l := ⟨fun h => by
  obtain ⟨b, hb, e⟩ := List.mem_map.mp h
  rw [← hi _ _ e]; exact hb, fun h => List.mem_map.mpr ⟨a, h, rfl⟩⟩
theorem dPut_e {enc : α → D} {en : β → D} (hi : ∀ a b, enc a = enc b → a = b) {kvs : List (α × β)} {k : α} {v : β} : dPut (eK enc en kvs) (enc k) (en v) = eK enc en (put kvs k v) := by
  unfold dPut put
  by_cases h : k ∈ kvs.map (·.1)
  · rw [if_pos h, if_pos (by rw [eK_fst]; exact (mem_enc hi).mpr h)]
    show List.map _ (List.map _ kvs) = List.map _ (List.map _ kvs)
    rw [List.map_map, List.map_map]
    refine List.map_congr_left fun p _ => ?_
    by_cases e : p.1 = k
    · simp [e]
    · have : ¬ enc p.1 = enc k := fun z => e (hi _ _ z)
      simp [e, this]
  · rw [if_neg h, if_neg (by rw [eK_fst]; exact fun z => h ((mem_enc hi).mp z))]
    show _ = List.map _ (kvs ++ [(k, v)])
    rw [List.map_append]; rfl
theorem dGet_e {enc : α → D} {en : β → D} (hi : ∀ a b, enc a = enc b → a = b) {kvs : List (α × β)} {k : α} : dGet ((kvs.map (·.1)).map enc) ((kvs.map (·.2)).map en) (enc k) = (get kvs k).map en := by
  unfold dGet get
  induction kvs with
  | nil => rfl
  | cons p kvs ih =>
    simp only [List.map_cons, List.zip_cons_cons, List.find?_cons]
    by_cases e : p.1 = k
    · simp [e]
    · have : ¬ enc p.1 = enc k := fun z => e (hi _ _ z)
      simp only [decide_eq_false e, decide_eq_false this]
      exact ih
theorem get_none {kvs : List (α × β)} {k : α} (h : k ∉ kvs.map (·.1)) : get kvs k = none := by
  unfold get
  rw [Option.map_eq_none_iff, List.find?_eq_none]
  intro p hp
  simp only [decide_eq_true_eq]
  exact fun e => h (List.mem_map.mpr ⟨p, hp, e⟩)
theorem get_cons {p : α × β} {kvs : List (α × β)} {k : α} : get (p :: kvs) k = if p.1 = k then some p.2 else get kvs k := by
  unfold get
  rw [List.find?_cons]
  by_cases e : p.1 = k
  · simp [e]
  · simp [e]
/-! ### keys, each once, the first ahead -/
def ins (ks : List α) (k : α) : List α := if k ∈ ks then ks else ks ++ [k]
def dd (l : List α) : List α := l.foldl ins []
theorem mem_ins {ks : List α} {k j : α} : j ∈ ins ks k ↔ j ∈ ks ∨ j = k := by
  unfold ins
  split
  · rename_i h
    exact ⟨.inl, fun z => z.elim id fun z => z ▸ h⟩
  · rw [List.mem_append, List.mem_singleton]
theorem ins_nodup {ks : List α} {k : α} (h : ks.Nodup) : (ins ks k).Nodup := by
  unfold ins
  split
  · exact h
  · rename_i hk
    rw [List.nodup_append]
    exact ⟨h, by simp, fun a ha b hb => by rw [List.mem_singleton.mp hb]; exact fun z => hk (z ▸ ha)⟩
theorem foldl_ins_mem : ∀ {l ks : List α} {j : α}, j ∈ l.foldl ins ks ↔ j ∈ ks ∨ j ∈ l
  | [], ks, j => by simp
  | k :: l, ks, j => by
    rw [List.foldl_cons, foldl_ins_mem, mem_ins, List.mem_cons]
    constructor
    · rintro ((h | h) | h)
      · exact .inl h
      · exact .inr (.inl h)
      · exact .inr (.inr h)
    · rintro (h | h | h)
      · exact .inl (.inl h)
      · exact .inl (.inr h)
      · exact .inr h
theorem dd_mem {l : List α} {j : α} : j ∈ dd l ↔ j ∈ l := by unfold dd; rw [foldl_ins_mem]; simp
theorem foldl_ins_len : ∀ {l ks : List α}, (l.foldl ins ks).length ≤ ks.length + l.length
  | [], _ => by simp
  | k :: l, ks => by
    have := foldl_ins_len (l := l) (ks := ins ks k)
    have h : (ins ks k).length ≤ ks.length + 1 := by
      unfold ins
      split
      · omega
      · simp
    rw [List.foldl_cons, List.length_cons]; omega
theorem foldl_ins_fresh : ∀ {l ks : List α}, (ks ++ l).Nodup → l.foldl ins ks = ks ++ l
  | [], ks, _ => by simp
  | k :: l, ks, h => by
    have hk : k ∉ ks := fun z => by
      rw [List.nodup_append] at h
      exact h.2.2 k z k List.mem_cons_self rfl
    rw [List.foldl_cons]
    have e : ins ks k = ks ++ [k] := by unfold ins; rw [if_neg hk]
    rw [e, foldl_ins_fresh (by rw [List.append_assoc]; exact h), List.append_assoc]; rfl
theorem dd_of_nodup {l : List α} (h : l.Nodup) : dd l = l := by unfold dd; rw [foldl_ins_fresh (by simpa using h)]; rfl
theorem foldl_ins_dup : ∀ {l ks : List α}, ks.Nodup → (l.foldl ins ks).length = ks.length + l.length → (ks ++ l).Nodup
  | [], ks, h, _ => by simpa using h
  | k :: l, ks, h, e => by
    have hl := foldl_ins_len (l := l) (ks := ins ks k)
    rw [List.foldl_cons, List.length_cons] at e
    by_cases hk : k ∈ ks
    · have : ins ks k = ks := by unfold ins; rw [if_pos hk]
      rw [this] at hl e; omega
    · have e1 : ins ks k = ks ++ [k] := by unfold ins; rw [if_neg hk]
      have := foldl_ins_dup (l := l) (ins_nodup (k := k) h) (by rw [e, e1]; simp; omega)
      rw [e1, List.append_assoc] at this
      exact this
theorem dd_len {l : List α} : (dd l).length = l.length ↔ l.Nodup := ⟨fun h => by
  have := foldl_ins_dup (l := l) (ks := []) (by simp) (by simpa [dd] using h)
  simpa using this, fun h => by rw [dd_of_nodup h]⟩
theorem dd_le {l : List α} : (dd l).length ≤ l.length := by
  have := foldl_ins_len (l := l) (ks := [])
  simpa [dd] using this
abbrev kvT (enc : α → D) (ks : List α) : List (D × D) := ks.map fun k => (enc k, .bl true)
theorem kvT_fst {enc : α → D} {ks : List α} : (kvT enc ks).map (·.1) = ks.map enc := by rw [List.map_map]; rfl
theorem dPut_T {enc : α → D} (hi : ∀ a b, enc a = enc b → a = b) {ks : List α} {k : α} : dPut (kvT enc ks) (enc k) (.bl true) = kvT enc (ins ks k) := by
  unfold dPut ins
  rw [kvT_fst]
  by_cases h : k ∈ ks
  · rw [if_pos h, if_pos ((mem_enc hi).mpr h), List.map_map]
    refine List.map_congr_left fun p _ => ?_
    show (if enc p = enc k then (enc p, D.bl true) else (enc p, D.bl true)) = _
    split <;> rfl
  · rw [if_neg h, if_neg (fun z => h ((mem_enc hi).mp z))]
    show _ = List.map _ (ks ++ [k])
    rw [List.map_append]; rfl
theorem dcL_T {γ : Type} {f : D → (Option (D × D) → Prop) → Prop} {e : γ → D} {g : γ → α} {enc : α → D} {k : List (D × D) → Prop} (hi : ∀ a b, enc a = enc b → a = b) (hk : ∀ a, (enc a).key = true) :
    ∀ {ps : List γ} {acc : List α}, (∀ p ∈ ps, ∀ K : Option (D × D) → Prop, K (some (enc (g p), .bl true)) → f (e p) K) → k (kvT enc (ps.foldl (fun ks p => ins ks (g p)) acc)) → dcL f (ps.map e) (kvT enc acc) k
  | [], _, _, h => h
  | p :: ps, acc, hf, h => hf p List.mem_cons_self _ ⟨hk _, by
      show dcL f (ps.map e) (dPut (kvT enc acc) (enc (g p)) (.bl true)) k
      rw [dPut_T hi]
      exact dcL_T hi hk (fun p hp => hf p (List.mem_cons_of_mem _ hp)) h⟩
end
section
variable {Φ : D → Prop} {Ψ : Str → Prop} {n m i j k' : Nat} {p q : Pt} {x y : D} {l r : List Pt}
theorem ptd_inj (p q : Pt) (h : p.d = q.d) : p = q := by
  cases p; cases q
  unfold Pt.d at h
  injection h with h
  injection h with a h; injection h with b h; injection h with c h
  injection a with a; injection b with b; injection c with c
  subst a; subst b; subst c; rfl
theorem shd_inj (p q : Sh) (h : p.d = q.d) : p = q := by
  cases p; cases q
  unfold Sh.d at h
  injection h with h
  injection h with a h; injection h with b h
  injection a with a; injection b with b
  subst a; subst b; rfl
theorem mod_inj (p q : Mo) (h : p.d = q.d) : p = q := by
  cases p; cases q
  unfold Mo.d at h
  injection h with h
  injection h with a h; injection h with b h; injection h with c h
  injection c with c
  have a1 := ptd_inj _ _ a; have b1 := ptd_inj _ _ b
  simp only at a1 b1 c
  rw [a1, b1, c]
theorem key_p (p : Pt) : D.key p.d = true := rfl
theorem key_s (p : Sh) : D.key p.d = true := rfl
end
end G
namespace G
open PySem PySem.Spec L2
local macro_rules | `(tactic| walk_at "sx") => `(tactic| try simp only [bin, una, lcE, cmpV, cmpT, tv, bv_b, notT, andT, orT, notV, andV, orV, ifE, nilA, consA, tupE, lstE, c1, c2, c3, c4, itE, seqD_l, seqD_t, walkD_l, walkD_t, walkD_c, ret, addD_i, subD_i, mulD_i, negD_i, fdivD_i, modD_i, absD_i, maxD_i, lnD_l, lnD_t, ltB_i, leB_i, gtB_i, geB_i, rng1, rng2, zipM, zip2_l, zip2_t, chnV, chnT, un2_t, un2_l, un3_t, un3_l, join, isDat_d,
  ixP0, ixP1, ixP2, ixS0, ixS1, ixM0, ixM1, ixM2, un3M, un3P, un2S, eqB_i, neB_i, eqB_p, neB_p, eqB_s, neB_s, eqB_m, neB_m, ite_dec, ite_ndec, ite_tt, ite_ff, ite_nt, ite_nf, isNB, notNB, isVB_b, isntVB_b, ixT30, ixT31, ixT32, ixT20, ixT21, if_true, if_false])
local macro_rules | `(tactic| walk_at "sy") => `(tactic| try simp only [bin, una, lcE, cmpV, cmpT, tv, bv_b, nilA, consA, tupE, lstE, c1, c2, c3, c4, itE, seqD_l, seqD_t, walkD_l, walkD_t, walkD_c, ret, addD_i, subD_i, mulD_i, negD_i, fdivD_i, modD_i, absD_i, maxD_i, lnD_l, lnD_t, ltB_i, leB_i, gtB_i, geB_i, rng1, rng2, zipM, zip2_l, zip2_t, un2_t, un2_l, un3_t, un3_l, isDat_d,
  ixP0, ixP1, ixP2, ixS0, ixS1, ixM0, ixM1, ixM2, un3M, un3P, un2S, eqB_i, neB_i, eqB_p, neB_p, eqB_s, neB_s, eqB_m, neB_m, ite_dec, ite_ndec, ite_tt, ite_ff, ite_nt, ite_nf, isNB, notNB, isVB_b, isntVB_b, ixT30, ixT31, ixT32, ixT20, ixT21, if_true, if_false])
local macro_rules | `(tactic| walk_at "bn") => `(tactic| first
  | assumption
  | (apply Bn.mul <;> walk_at "bn")
  | (apply Bn.add <;> walk_at "bn")
  | (apply Bn.sub <;> walk_at "bn")
  | (apply Bn.neg <;> walk_at "bn")
  | (apply Bn.abs <;> walk_at "bn")
  | exact (show Bn 64 _ by unfold Bn; decide))
local macro_rules | `(tactic| walk_at "cm") => `(tactic| (apply Bn.cm; (focus walk_at "bn"); (focus walk_at "bn"); omega))
local macro_rules | `(tactic| walk_at "nz") => `(tactic| first
  | assumption
  | omega
  | (apply mulnz <;> walk_at "nz"))
local macro_rules | `(tactic| walk_at "mok") => `(tactic| first
  | assumption
  | (apply joined_ok <;> walk_at "mok")
  | (apply backOf_ok <;> walk_at "mok")
  | exact still_ok)
local macro_rules | `(tactic| walk_at "ok") => `(tactic| first
  | assumption
  | (apply plus_ok <;> walk_at "ok")
  | (apply minus_ok <;> walk_at "ok")
  | (apply times_ok <;> walk_at "ok")
  | (apply flipped_ok <;> walk_at "ok")
  | (apply ledBy_ok <;> first | walk_at "ok" | walk_at "mok")
  | solve_by_elim)
local macro_rules | `(tactic| walk_at "norm") => `(tactic| first
  | assumption
  | (apply flipped_norm <;> walk_at "norm")
  | (apply plus_norm' <;> walk_at "ok")
  | (apply minus_norm' <;> walk_at "ok")
  | (apply times_norm' <;> walk_at "ok")
  | (apply ledBy_norm <;> first | walk_at "ok" | walk_at "mok")
  | solve_by_elim)
local macro_rules | `(tactic| walk_at "shp") => `(tactic| first
  | rfl
  | assumption
  | exact shp_pt _ _
  | exact shp_sh _ _
  | exact shp_mo _ _
  | exact shpA_pt1 _ _
  | exact shpA_pt2 _ _ _
  | exact shp_pts
  | exact (show D.shp 8 _ = true from rfl)
  | solve_by_elim)
local macro_rules | `(tactic| walk_at "pts") => `(tactic| first
  | (apply pts1 <;> walk_at "norm")
  | (apply pts2 <;> walk_at "norm"))
local macro_rules | `(tactic| walk_at "ismo") => `(tactic| (apply isMo_yes <;> walk_at "mok"))
local macro_rules | `(tactic| walk_at "one") => `(tactic| assumption)
local macro_rules | `(tactic| walk_at "db") => `(tactic| first
  | assumption
  | (apply MOk.db <;> walk_at "mok")
  | (apply Ok.db <;> walk_at "ok")
  | solve_by_elim)
local macro_rules | `(tactic| walk_at "nopq") => `(tactic| first | assumption | solve_by_elim | (intro n h; cases h))
local macro_rules | `(tactic| walk_at "sz") => `(tactic| first | omega | assumption | (simp; done) | (simp_all <;> omega))
local macro_rules | `(tactic| walk_at "sok") => `(tactic| first
  | assumption
  | (apply plusSh_ok <;> walk_at "sok")
  | (apply gap_ok <;> walk_at "ok")
  | (apply size_ok <;> walk_at "ok")
  | exact nought_ok (n := 1) (by decide))
local macro_rules | `(tactic| walk_at "oks") => `(tactic| first
  | assumption
  | solve_by_elim)
local macro_rules | `(tactic| walk_at "ne") => `(tactic| first
  | assumption
  | (simp; done))
local macro_rules | `(tactic| walk_at "prs") => `(tactic| (apply prs <;> assumption))
local macro_rules | `(tactic| walk_at "norms") => `(tactic| first | assumption | solve_by_elim)
local macro_rules | `(tactic| walk_at "soks") => `(tactic| first | assumption | solve_by_elim)
local macro_rules | `(tactic| walk_at "bn") => `(tactic| first
  | assumption
  | (apply Bn.mul <;> walk_at "bn")
  | (apply Bn.add <;> walk_at "bn")
  | (apply Bn.sub <;> walk_at "bn")
  | (apply Bn.neg <;> walk_at "bn")
  | (apply Bn.abs <;> walk_at "bn")
  | exact (show Bn 64 _ by unfold Bn; decide)
  | exact (show Bn 64 _ by unfold Bn; omega))
local macro_rules | `(tactic| walk_at "pok") => `(tactic| first | assumption | solve_by_elim)
local macro_rules | `(tactic| walk_at "cd") => `(tactic| (apply Bn.cd; (focus walk_at "bn"); (first | assumption | omega); omega))
local macro_rules | `(tactic| walk_at "sz") => `(tactic| try simp only [c1, c2, c3, c4, ret, tupE, nilA, consA, lstE, itE, walkD_l, walkD_t, walkD_c, un2_t, un2_l, un3_t, un3_l, un3M, un3P, un2S])
section
variable {Φ : D → Prop} {Ψ : Str → Prop} {n m i j k' : Nat} {p q : Pt} {x y : D} {l r : List Pt}
/-! ### ahead; in order -/
def aheadB (p q : Pt) : Bool := decide (p.x * q.w < q.x * p.w) || (decide (p.x * q.w = q.x * p.w) && decide (p.y * q.w < q.y * p.w))
theorem ahead_w (hp : Ok n p) (hq : Ok m q) (hn : n + m ≤ 4000) (k : Φ (.bl (aheadB p q))) : p_ahead p.d q.d Φ Ψ := by
  have b1 := hp.x; have b2 := hp.y; have b3 := hp.w; have b4 := hq.x; have b5 := hq.y; have b6 := hq.w
  unfold aheadB at k
  refine ⟨?_⟩
  walk_at "sx"
  refine ⟨by walk_at "cm", by walk_at "cm", ?_⟩
  by_cases h1 : p.x * q.w < q.x * p.w
  · rw [decide_eq_true h1] at k
    rw [if_pos (by omega)]; exact k
  · rw [decide_eq_false h1] at k
    rw [if_neg (by omega)]
    by_cases h2 : p.x * q.w = q.x * p.w
    · rw [decide_eq_true h2] at k
      rw [if_pos (by omega)]
      exact ⟨by walk_at "cm", by walk_at "cm", k⟩
    · rw [decide_eq_false h2] at k
      rw [if_neg (by omega)]
      exact k
theorem rat_lt {a b c d : Int} (hb : 0 < b) (hd : 0 < d) : (a : Rat) / b < (c : Rat) / d ↔ a * d < c * b := by
  have := lessB_iff (a := ⟨a, b⟩) (b := ⟨c, d⟩) hb hd
  unfold lessB Sh.val at this
  rw [decide_eq_true_eq] at this
  exact this.symm
theorem ahead_iff (hp : 0 < p.w) (hq : 0 < q.w) : aheadB p q = true ↔ p.re < q.re ∨ (p.re = q.re ∧ p.im < q.im) := by
  unfold aheadB Pt.re Pt.im
  rw [Bool.or_eq_true, Bool.and_eq_true, decide_eq_true_eq, decide_eq_true_eq, decide_eq_true_eq, rat_lt hp hq, rat_lt hp hq]
  have e : (p.x : Rat) / p.w = (q.x : Rat) / q.w ↔ p.x * q.w = q.x * p.w := by
    constructor
    · intro h
      exact cross (p := p) (q := q) (by omega) (by omega) h
    · intro h
      have a1 := Rat.not_lt.mp fun z => by have := (rat_lt (a := p.x) (b := p.w) (c := q.x) (d := q.w) hp hq).mp z; omega
      have b1 := Rat.not_lt.mp fun z => by have := (rat_lt (a := q.x) (b := q.w) (c := p.x) (d := p.w) hq hp).mp z; omega
      exact Rat.le_antisymm b1 a1
  rw [e]
/-- one put in where it belongs -/
def insP (p : Pt) : List Pt → List Pt
  | [] => [p]
  | q :: l => if aheadB p q = true then p :: q :: l else q :: insP p l
def ordL (l : List Pt) : List Pt := l.foldl (fun f p => insP p f) []
theorem insP_perm : ∀ {l : List Pt}, (insP p l).Perm (p :: l)
  | [] => List.Perm.refl _
  | q :: l => by
    unfold insP
    split
    · exact List.Perm.refl _
    · exact ((insP_perm (l := l)).cons q).trans (List.Perm.swap _ _ _)
theorem ordL_foldl : ∀ {l acc : List Pt}, (l.foldl (fun f p => insP p f) acc).Perm (acc ++ l)
  | [], acc => by simp
  | p :: l, acc => by
    rw [List.foldl_cons]
    refine (ordL_foldl (l := l)).trans ?_
    have h1 : (insP p acc ++ l).Perm ((p :: acc) ++ l) := insP_perm.append_right l
    exact h1.trans (List.perm_middle (a := p) (l₁ := acc) (l₂ := l)).symm
theorem ordL_perm : (ordL l).Perm l := by
  have := ordL_foldl (l := l) (acc := [])
  simpa [ordL] using this
theorem ordL_mem : p ∈ ordL l ↔ p ∈ l := ordL_perm.mem_iff
theorem ordL_len : (ordL l).length = l.length := ordL_perm.length_eq
theorem insL_ins : ∀ {l : List Pt} {i : Nat}, i ≤ l.length → (∀ j, j < i → ∀ q, l[j]? = some q → aheadB p q = false) → (∀ q, l[i]? = some q → aheadB p q = true) → insL (l.map Pt.d) i p.d = (insP p l).map Pt.d
  | [], i, h, _, _ => by
    have : i = 0 := by simpa using h
    subst this; rfl
  | q :: l, 0, _, _, h2 => by
    have := h2 q rfl
    unfold insP
    rw [if_pos this]; rfl
  | q :: l, i + 1, h, h1, h2 => by
    have := h1 0 (by omega) q rfl
    unfold insP
    rw [if_neg (by rw [this]; simp)]
    have ih := insL_ins (l := l) (i := i) (by simpa using h) (fun j hj q hq => h1 (j + 1) (by omega) q hq) fun q hq => h2 q hq
    unfold insL at ih ⊢
    rw [List.map_cons, List.map_cons, List.take_succ_cons, List.drop_succ_cons, ← ih]
    simp
/-- a heap handed on: a list, or a tuple -/
def HL (x : D) (l : List Pt) : Prop := x = .lst (l.map Pt.d) ∨ x = .tup (l.map Pt.d)
theorem hl_l : HL (.lst (l.map Pt.d)) l := .inl rfl
theorem hl_t : HL (.tup (l.map Pt.d)) l := .inr rfl
theorem HL.walk (h : HL x l) {K : List D → Prop} : walkD x K = K (l.map Pt.d) := by
  rcases h with rfl | rfl
  · rw [walkD_l]
  · rw [walkD_t]
theorem HL.len (h : HL x l) : lnD x Φ = Φ (.int l.length) := by
  rcases h with rfl | rfl
  · rw [lnD_l, List.length_map]
  · rw [lnD_t, List.length_map]
theorem in_order_w (h : HL x l) (ok : ∀ p ∈ l, Ok n p) (hn : n ≤ 2000) (hl : l.length ≤ 1000) (k : Φ (.lst ((ordL l).map Pt.d))) : p_in_order x Φ Ψ := by
  refine ⟨?_⟩
  simp only [itE, ret, h.walk]
  refine forL_runT Pt.d (fun i s => s = ((l.take i).foldl (fun f p => insP p f) []).map Pt.d) rfl ?_ ?_
  · rintro i p s hp rfl nx hx
    have hpm := List.mem_of_getElem? hp
    have perm := ordL_foldl (l := l.take i) (acc := [])
    rw [List.nil_append] at perm
    have hf : ∀ q ∈ (l.take i).foldl (fun f p => insP p f) [], q ∈ l := fun q hq => List.mem_of_mem_take (perm.mem_iff.mp hq)
    have hfl : ((l.take i).foldl (fun f p => insP p f) []).length ≤ 1000 := by rw [perm.length_eq, List.length_take]; omega
    have hnx : ∀ s', s' = (insP p ((l.take i).foldl (fun f p => insP p f) [])).map Pt.d → nx s' := fun s' e => hx s' (by
      rw [e]
      congr 1
      rw [List.take_add_one, hp, List.foldl_append]; rfl)
    generalize (l.take i).foldl (fun f p => insP p f) [] = f at *
    refine ⟨fun m s => ∃ c : Nat, c ≤ f.length ∧ m = f.length - c ∧ s = .int c ∧ ∀ j, j < c → ∀ q, f[j]? = some q → aheadB p q = false, ⟨_, 0, by omega, rfl, rfl, fun j hj => absurd hj (by omega)⟩, ?_⟩
    rintro m _ ⟨c, hc, rfl, rfl, hb⟩
    walk_at "sx"
    rw [List.length_map]
    have fin : (∀ q, f[c]? = some q → aheadB p q = true) → f.length ≤ 100000 ∧ ∃ n16 : Nat, D.int (c : Int) = .int n16 ∧ n16 ≤ f.length ∧ nx (insL (List.map Pt.d f) n16 p.d) := fun ha =>
      ⟨by omega, c, rfl, hc, hnx _ (insL_ins hc hb ha)⟩
    by_cases hlt : c < f.length
    · rw [if_pos (by omega)]
      have hg : f[c]? = some f[c] := List.getElem?_eq_getElem hlt
      have hat : atI (f.map Pt.d) (c : Int) = some (f[c]).d := by
        rw [atI_in (by omega) (by rw [List.length_map]; omega)]
        simp
      have hix : ∀ K : D → Prop, ixD (.lst (f.map Pt.d)) (.int (c : Int)) K = K (f[c]).d := fun K => by
        show (match atI (f.map Pt.d) (c : Int) with
          | some d => K d
          | none => False) = _
        rw [hat]
      rw [hix]
      refine ahead_w (ok _ hpm) (ok _ (hf _ (List.getElem_mem hlt))) (by omega) ?_
      walk_at "sx"
      cases ha : aheadB p f[c] with
      | true =>
        rw [ite_nt]
        exact fin fun q hq => by rw [hg] at hq; cases hq; exact ha
      | false =>
        rw [ite_nf]
        refine ⟨(c : Int), 1, rfl, rfl, f.length - (c + 1), by omega, c + 1, by omega, rfl, by push_cast; rfl, fun j hj q hq => ?_⟩
        by_cases hjc : j = c
        · subst hjc; rw [hg] at hq; cases hq; exact ha
        · exact hb j (by omega) q hq
    · rw [if_neg (by omega)]
      exact fin fun q hq => by rw [List.getElem?_eq_none (by omega)] at hq; cases hq
  · rintro s rfl
    rw [List.take_length]
    exact k
end
end G
namespace G
open PySem PySem.Spec L2
local macro_rules | `(tactic| walk_at "sx") => `(tactic| try simp only [bin, una, lcE, cmpV, cmpT, tv, bv_b, notT, andT, orT, notV, andV, orV, ifE, nilA, consA, tupE, lstE, c1, c2, c3, c4, itE, seqD_l, seqD_t, walkD_l, walkD_t, walkD_c, ret, addD_i, subD_i, mulD_i, negD_i, fdivD_i, modD_i, absD_i, maxD_i, lnD_l, lnD_t, ltB_i, leB_i, gtB_i, geB_i, rng1, rng2, zipM, zip2_l, zip2_t, chnV, chnT, un2_t, un2_l, un3_t, un3_l, join, isDat_d,
  ixP0, ixP1, ixP2, ixS0, ixS1, ixM0, ixM1, ixM2, un3M, un3P, un2S, eqB_i, neB_i, eqB_p, neB_p, eqB_s, neB_s, eqB_m, neB_m, ite_dec, ite_ndec, ite_tt, ite_ff, ite_nt, ite_nf, isNB, notNB, isVB_b, isntVB_b, ixT30, ixT31, ixT32, ixT20, ixT21, if_true, if_false])
local macro_rules | `(tactic| walk_at "sy") => `(tactic| try simp only [bin, una, lcE, cmpV, cmpT, tv, bv_b, nilA, consA, tupE, lstE, c1, c2, c3, c4, itE, seqD_l, seqD_t, walkD_l, walkD_t, walkD_c, ret, addD_i, subD_i, mulD_i, negD_i, fdivD_i, modD_i, absD_i, maxD_i, lnD_l, lnD_t, ltB_i, leB_i, gtB_i, geB_i, rng1, rng2, zipM, zip2_l, zip2_t, un2_t, un2_l, un3_t, un3_l, isDat_d,
  ixP0, ixP1, ixP2, ixS0, ixS1, ixM0, ixM1, ixM2, un3M, un3P, un2S, eqB_i, neB_i, eqB_p, neB_p, eqB_s, neB_s, eqB_m, neB_m, ite_dec, ite_ndec, ite_tt, ite_ff, ite_nt, ite_nf, isNB, notNB, isVB_b, isntVB_b, ixT30, ixT31, ixT32, ixT20, ixT21, if_true, if_false])
local macro_rules | `(tactic| walk_at "bn") => `(tactic| first
  | assumption
  | (apply Bn.mul <;> walk_at "bn")
  | (apply Bn.add <;> walk_at "bn")
  | (apply Bn.sub <;> walk_at "bn")
  | (apply Bn.neg <;> walk_at "bn")
  | (apply Bn.abs <;> walk_at "bn")
  | exact (show Bn 64 _ by unfold Bn; decide))
local macro_rules | `(tactic| walk_at "cm") => `(tactic| (apply Bn.cm; (focus walk_at "bn"); (focus walk_at "bn"); omega))
local macro_rules | `(tactic| walk_at "nz") => `(tactic| first
  | assumption
  | omega
  | (apply mulnz <;> walk_at "nz"))
local macro_rules | `(tactic| walk_at "mok") => `(tactic| first
  | assumption
  | (apply joined_ok <;> walk_at "mok")
  | (apply backOf_ok <;> walk_at "mok")
  | exact still_ok)
local macro_rules | `(tactic| walk_at "ok") => `(tactic| first
  | assumption
  | (apply plus_ok <;> walk_at "ok")
  | (apply minus_ok <;> walk_at "ok")
  | (apply times_ok <;> walk_at "ok")
  | (apply flipped_ok <;> walk_at "ok")
  | (apply ledBy_ok <;> first | walk_at "ok" | walk_at "mok")
  | solve_by_elim)
local macro_rules | `(tactic| walk_at "norm") => `(tactic| first
  | assumption
  | (apply flipped_norm <;> walk_at "norm")
  | (apply plus_norm' <;> walk_at "ok")
  | (apply minus_norm' <;> walk_at "ok")
  | (apply times_norm' <;> walk_at "ok")
  | (apply ledBy_norm <;> first | walk_at "ok" | walk_at "mok")
  | solve_by_elim)
local macro_rules | `(tactic| walk_at "shp") => `(tactic| first
  | rfl
  | assumption
  | exact shp_pt _ _
  | exact shp_sh _ _
  | exact shp_mo _ _
  | exact shpA_pt1 _ _
  | exact shpA_pt2 _ _ _
  | exact shp_pts
  | exact (show D.shp 8 _ = true from rfl)
  | solve_by_elim)
local macro_rules | `(tactic| walk_at "pts") => `(tactic| first
  | (apply pts1 <;> walk_at "norm")
  | (apply pts2 <;> walk_at "norm"))
local macro_rules | `(tactic| walk_at "ismo") => `(tactic| (apply isMo_yes <;> walk_at "mok"))
local macro_rules | `(tactic| walk_at "one") => `(tactic| assumption)
local macro_rules | `(tactic| walk_at "db") => `(tactic| first
  | assumption
  | (apply MOk.db <;> walk_at "mok")
  | (apply Ok.db <;> walk_at "ok")
  | solve_by_elim)
local macro_rules | `(tactic| walk_at "nopq") => `(tactic| first | assumption | solve_by_elim | (intro n h; cases h))
local macro_rules | `(tactic| walk_at "sz") => `(tactic| first | omega | assumption | (simp; done) | (simp_all <;> omega))
local macro_rules | `(tactic| walk_at "sok") => `(tactic| first
  | assumption
  | (apply plusSh_ok <;> walk_at "sok")
  | (apply gap_ok <;> walk_at "ok")
  | (apply size_ok <;> walk_at "ok")
  | exact nought_ok (n := 1) (by decide))
local macro_rules | `(tactic| walk_at "oks") => `(tactic| first
  | assumption
  | solve_by_elim)
local macro_rules | `(tactic| walk_at "ne") => `(tactic| first
  | assumption
  | (simp; done))
local macro_rules | `(tactic| walk_at "prs") => `(tactic| (apply prs <;> assumption))
local macro_rules | `(tactic| walk_at "norms") => `(tactic| first | assumption | solve_by_elim)
local macro_rules | `(tactic| walk_at "soks") => `(tactic| first | assumption | solve_by_elim)
local macro_rules | `(tactic| walk_at "bn") => `(tactic| first
  | assumption
  | (apply Bn.mul <;> walk_at "bn")
  | (apply Bn.add <;> walk_at "bn")
  | (apply Bn.sub <;> walk_at "bn")
  | (apply Bn.neg <;> walk_at "bn")
  | (apply Bn.abs <;> walk_at "bn")
  | exact (show Bn 64 _ by unfold Bn; decide)
  | exact (show Bn 64 _ by unfold Bn; omega))
local macro_rules | `(tactic| walk_at "pok") => `(tactic| first | assumption | solve_by_elim)
local macro_rules | `(tactic| walk_at "cd") => `(tactic| (apply Bn.cd; (focus walk_at "bn"); (first | assumption | omega); omega))
local macro_rules | `(tactic| walk_at "sz") => `(tactic| try simp only [c1, c2, c3, c4, ret, tupE, nilA, consA, lstE, itE, walkD_l, walkD_t, walkD_c, un2_t, un2_l, un3_t, un3_l, un3M, un3P, un2S])
section
variable {Φ : D → Prop} {Ψ : Str → Prop} {n m i j k' : Nat} {p q : Pt} {x y : D} {l r : List Pt} {mo : Mo}
/-! ### heaps -/
structure Hp (n : Nat) (l : List Pt) : Prop where
  nm : ∀ p ∈ l, Norm p
  ok : ∀ p ∈ l, Ok n p
  nd : l.Nodup
  ge : 2 ≤ l.length
  le : l.length ≤ 14
/-- things of any kind that may be heaps -/
structure RowH (x : D) : Prop where
  q : x.nopq = true
  l : ∀ ys, x = .lst ys ∨ x = .tup ys → ys.length ≤ 1000 ∧ ∀ y ∈ ys, D.shp 8 y = true ∧ (y.isT = true → ∀ zs, y = .tup zs → zs.length ≤ 100000)
def toPt : D → Pt
  | .tup [.int x, .int y, .int w] => ⟨x, y, w⟩
  | _ => ⟨0, 0, 1⟩
def isHp (x : D) : Bool := match x with
  | .lst ds => decide (2 ≤ ds.length) && (decide (ds.length ≤ 14) && (ds.all isPt && decide ((ds.map toPt).Nodup)))
  | .tup ds => decide (2 ≤ ds.length) && (decide (ds.length ≤ 14) && (ds.all isPt && decide ((ds.map toPt).Nodup)))
  | _ => false
theorem all_pts : ∀ {ds : List D}, ds.all isPt = true → ∃ l : List Pt, ds = l.map Pt.d ∧ ds.map toPt = l
  | [], _ => ⟨[], rfl, rfl⟩
  | d :: ds, h => by
    rw [List.all_cons, Bool.and_eq_true] at h
    obtain ⟨p, rfl, _⟩ := isPt_inv h.1
    obtain ⟨l, e, e2⟩ := all_pts h.2
    exact ⟨p :: l, by rw [e]; rfl, by rw [List.map_cons, e2]; rfl⟩
/-- the part behind the looks: as many keys as points -/
theorem keys_w {Θ : Bool → Prop} (h : HL x l) (hl : l.length ≤ 1000) (k : Θ (decide l.Nodup)) :
    cmpT eqB (una lnD (dcE (itE (ret x)) (fun one8 k5 => (ret one8) (fun y6 => (ret (.bl true)) (fun z7 => k5 (some (y6, z7))) bot) bot))) (una lnD (ret x)) Θ Ψ := by
  simp only [cmpT, una, dcE, itE, ret, h.walk, h.len]
  refine ⟨by rw [List.length_map]; omega, ?_⟩
  refine dcL_T (e := Pt.d) (g := id) (enc := Pt.d) (acc := []) ptd_inj key_p (fun p hp K hK => hK) ?_
  show lnD (.dct _ _) _
  rw [kvT_fst]
  show eqB (.int (((l.foldl (fun ks p => ins ks (id p)) []).map Pt.d).length)) (.int l.length) Θ
  rw [List.length_map, eqB_i]
  have e : decide (((dd l).length : Int) = l.length) = decide l.Nodup := by
    congr 1
    refine propext ?_
    rw [← dd_len]
    omega
  show Θ (decide (((dd l).length : Int) = l.length))
  rw [e]; exact k
theorem is_heap_w (h : RowH x) (k : Φ (.bl (isHp x))) : p_is_heap x Φ Ψ := by
  have main : ∀ xs : List D, (x = .lst xs ∨ x = .tup xs) → p_is_heap x Φ Ψ := fun xs hx => by
    obtain ⟨hl, hy⟩ := h.l xs hx
    have hn : x.nopq = true := h.q
    have e : isHp x = (decide (2 ≤ xs.length) && (decide (xs.length ≤ 14) && (xs.all isPt && decide ((xs.map toPt).Nodup)))) := by rcases hx with rfl | rfl <;> rfl
    have hlt : (x.isL || x.isT) = true := by rcases hx with rfl | rfl <;> rfl
    have hlen : ∀ {K : D → Prop}, lnD x K = K (.int xs.length) := fun {K} => by
      rcases hx with rfl | rfl
      · rw [lnD_l]
      · rw [lnD_t]
    have hwalk : ∀ {K : List D → Prop}, walkD x K = K xs := fun {K} => by
      rcases hx with rfl | rfl
      · rw [walkD_l]
      · rw [walkD_t]
    refine ⟨?_⟩
    have tst : ∀ (P Q : Prop), ((decide (2 ≤ xs.length) && (decide (xs.length ≤ 14) && xs.all isPt)) = false → P) → ((decide (2 ≤ xs.length) && (decide (xs.length ≤ 14) && xs.all isPt)) = true → Q) →
        (orT (notT (tv (una (isiD fun d => D.isL d || D.isT d) (ret x)))) (orT (notT (chnT leB leB (ret (.int 2)) (una lnD (ret x)) (ret (.int 14)))) (notT (tv (una allD (lcE (itE (ret x)) (fun one4 k2 => (c1 p_is_point (ret one4)) (fun y3 => k2 (some y3)) bot))))))) (fun b => if b = true then P else Q) Ψ := fun P Q kP kQ => by
      walk_at "sx"
      refine ⟨hn, ?_⟩
      show bv (.bl (x.isL || x.isT)) _
      rw [hlt]
      walk_at "sx"
      rw [hlen]
      walk_at "sx"
      by_cases h1 : (2 : Int) ≤ xs.length
      · rw [if_pos h1]
        by_cases h2 : (xs.length : Int) ≤ 14
        · rw [if_pos h2, hwalk]
          refine ⟨by omega, lcL_map (fun d => .bl (isPt d)) (fun d hd K hK => is_point_w (hy d hd).1 (hy d hd).2 hK) (all_map ?_)⟩
          rw [decide_eq_true (by omega : 2 ≤ xs.length), decide_eq_true (by omega : xs.length ≤ 14), Bool.true_and, Bool.true_and] at kP kQ
          walk_at "sx"
          cases hb : xs.all isPt with
          | true => rw [ite_nt]; exact kQ hb
          | false => rw [ite_nf]; exact kP hb
        · rw [if_neg h2]
          exact kP (by rw [decide_eq_false (by omega : ¬ xs.length ≤ 14)]; simp)
      · rw [if_neg h1]
        exact kP (by rw [decide_eq_false (by omega : ¬ 2 ≤ xs.length)]; simp)
    refine tst _ _ (fun hb => ?_) fun hb => ?_
    · have : isHp x = false := by
        rw [e]
        cases h1 : decide (2 ≤ xs.length) <;> cases h2 : decide (xs.length ≤ 14) <;> cases h3 : xs.all isPt <;> rw [h1, h2, h3] at hb <;> first | rfl | cases hb
      rw [this] at k
      exact k
    · rw [Bool.and_eq_true, Bool.and_eq_true] at hb
      obtain ⟨l, el, em⟩ := all_pts hb.2.2
      have : isHp x = decide l.Nodup := by rw [e, hb.1, hb.2.1, hb.2.2, em]; simp
      rw [this] at k
      have hh : HL x l := by
        rcases hx with rfl | rfl
        · exact .inl (by rw [el])
        · exact .inr (by rw [el])
      have hl2 : l.length ≤ 1000 := by rw [el, List.length_map] at hl; exact hl
      exact keys_w (Θ := fun b => Φ (.bl b)) hh hl2 k
  cases x with
  | lst xs => exact main xs (.inl rfl)
  | tup xs => exact main xs (.inr rfl)
  | opq n => exact nomatch h.q
  | exc n => exact nomatch h.q
  | obj n ks vs => exact nomatch h.q
  | _ => exact ⟨⟨rfl, k⟩⟩
theorem Hp.row (h : Hp n l) (hx : HL x l) : RowH x := by
  have g : ∀ ys, ys = l.map Pt.d → ys.length ≤ 1000 ∧ ∀ y ∈ ys, D.shp 8 y = true ∧ (y.isT = true → ∀ zs, y = .tup zs → zs.length ≤ 100000) := fun ys e => by
    subst e
    refine ⟨by rw [List.length_map]; have := h.le; omega, fun y hy => ?_⟩
    obtain ⟨p, _, rfl⟩ := List.mem_map.mp hy
    exact ⟨shp_pt 7 p, pt_len⟩
  rcases hx with rfl | rfl
  · exact ⟨rfl, fun ys e => by
      rcases e with e | e
      · injection e with e; exact g ys e.symm
      · cases e⟩
  · exact ⟨rfl, fun ys e => by
      rcases e with e | e
      · cases e
      · injection e with e; exact g ys e.symm⟩
theorem toPt_map : ∀ {l : List Pt}, (l.map Pt.d).map toPt = l
  | [] => rfl
  | p :: l => by rw [List.map_cons, List.map_cons, toPt_map]; rfl
theorem Hp.is (h : Hp n l) (hx : HL x l) : isHp x = true := by
  have e : isHp x = (decide (2 ≤ (l.map Pt.d).length) && (decide ((l.map Pt.d).length ≤ 14) && ((l.map Pt.d).all isPt && decide (((l.map Pt.d).map toPt).Nodup)))) := by rcases hx with rfl | rfl <;> rfl
  have ha : (l.map Pt.d).all isPt = true := List.all_eq_true.mpr fun d hd => by
    obtain ⟨p, hp, rfl⟩ := List.mem_map.mp hd
    exact isPt_yes (h.nm p hp)
  rw [e, List.length_map, decide_eq_true h.ge, decide_eq_true h.le, ha, toPt_map, decide_eq_true h.nd]
  rfl
theorem look_heaps_any {xs : List D} (hl : xs.length ≤ 100000) (h : ∀ x ∈ xs, RowH x) (k1 : xs.all isHp = true → Φ .non) (k2 : xs.all isHp = false → Ψ "BadHeap") : p_look_heaps (.lst xs) Φ Ψ := by
  refine ⟨?_⟩
  walk_at "sx"
  refine ⟨hl, lcL_map (fun d => .bl (isHp d)) (fun d hd K hK => is_heap_w (h d hd) hK) (all_map ?_)⟩
  walk_at "sx"
  cases hb : xs.all isHp with
  | true => rw [ite_nt]; exact k1 hb
  | false => rw [ite_nf]; exact k2 hb
theorem look_heap1 (h : Hp n l) (hx : HL x l) (k : Φ .non) : p_look_heaps (.lst [x]) Φ Ψ :=
  look_heaps_any (by simp) (fun z hz => by rcases List.mem_singleton.mp hz with rfl; exact h.row hx) (fun _ => k) fun e => by simp [h.is hx] at e
theorem heap_w (h : Hp n l) (hx : HL x l) (hn : n ≤ 2000) (k : Φ (.tup ((ordL l).map Pt.d))) : p_heap x Φ Ψ := by
  refine ⟨?_⟩
  walk_at "sx"
  have := h.le
  exact look_heap1 h hx (in_order_w hx h.ok hn (by omega) (tupleL (by rw [List.length_map, ordL_len]; omega) k))
end
end G
namespace G
open PySem PySem.Spec L2
local macro_rules | `(tactic| walk_at "sx") => `(tactic| try simp only [bin, una, lcE, cmpV, cmpT, tv, bv_b, notT, andT, orT, notV, andV, orV, ifE, nilA, consA, tupE, lstE, c1, c2, c3, c4, itE, seqD_l, seqD_t, walkD_l, walkD_t, walkD_c, ret, addD_i, subD_i, mulD_i, negD_i, fdivD_i, modD_i, absD_i, maxD_i, lnD_l, lnD_t, ltB_i, leB_i, gtB_i, geB_i, rng1, rng2, zipM, zip2_l, zip2_t, chnV, chnT, un2_t, un2_l, un3_t, un3_l, join, isDat_d,
  ixP0, ixP1, ixP2, ixS0, ixS1, ixM0, ixM1, ixM2, un3M, un3P, un2S, eqB_i, neB_i, eqB_p, neB_p, eqB_s, neB_s, eqB_m, neB_m, ite_dec, ite_ndec, ite_tt, ite_ff, ite_nt, ite_nf, isNB, notNB, isVB_b, isntVB_b, ixT30, ixT31, ixT32, ixT20, ixT21, if_true, if_false])
local macro_rules | `(tactic| walk_at "sy") => `(tactic| try simp only [bin, una, lcE, cmpV, cmpT, tv, bv_b, nilA, consA, tupE, lstE, c1, c2, c3, c4, itE, seqD_l, seqD_t, walkD_l, walkD_t, walkD_c, ret, addD_i, subD_i, mulD_i, negD_i, fdivD_i, modD_i, absD_i, maxD_i, lnD_l, lnD_t, ltB_i, leB_i, gtB_i, geB_i, rng1, rng2, zipM, zip2_l, zip2_t, un2_t, un2_l, un3_t, un3_l, isDat_d,
  ixP0, ixP1, ixP2, ixS0, ixS1, ixM0, ixM1, ixM2, un3M, un3P, un2S, eqB_i, neB_i, eqB_p, neB_p, eqB_s, neB_s, eqB_m, neB_m, ite_dec, ite_ndec, ite_tt, ite_ff, ite_nt, ite_nf, isNB, notNB, isVB_b, isntVB_b, ixT30, ixT31, ixT32, ixT20, ixT21, if_true, if_false])
local macro_rules | `(tactic| walk_at "bn") => `(tactic| first
  | assumption
  | (apply Bn.mul <;> walk_at "bn")
  | (apply Bn.add <;> walk_at "bn")
  | (apply Bn.sub <;> walk_at "bn")
  | (apply Bn.neg <;> walk_at "bn")
  | (apply Bn.abs <;> walk_at "bn")
  | exact (show Bn 64 _ by unfold Bn; decide))
local macro_rules | `(tactic| walk_at "cm") => `(tactic| (apply Bn.cm; (focus walk_at "bn"); (focus walk_at "bn"); omega))
local macro_rules | `(tactic| walk_at "nz") => `(tactic| first
  | assumption
  | omega
  | (apply mulnz <;> walk_at "nz"))
local macro_rules | `(tactic| walk_at "mok") => `(tactic| first
  | assumption
  | (apply joined_ok <;> walk_at "mok")
  | (apply backOf_ok <;> walk_at "mok")
  | exact still_ok)
local macro_rules | `(tactic| walk_at "ok") => `(tactic| first
  | assumption
  | (apply plus_ok <;> walk_at "ok")
  | (apply minus_ok <;> walk_at "ok")
  | (apply times_ok <;> walk_at "ok")
  | (apply flipped_ok <;> walk_at "ok")
  | (apply ledBy_ok <;> first | walk_at "ok" | walk_at "mok")
  | solve_by_elim)
local macro_rules | `(tactic| walk_at "norm") => `(tactic| first
  | assumption
  | (apply flipped_norm <;> walk_at "norm")
  | (apply plus_norm' <;> walk_at "ok")
  | (apply minus_norm' <;> walk_at "ok")
  | (apply times_norm' <;> walk_at "ok")
  | (apply ledBy_norm <;> first | walk_at "ok" | walk_at "mok")
  | solve_by_elim)
local macro_rules | `(tactic| walk_at "shp") => `(tactic| first
  | rfl
  | assumption
  | exact shp_pt _ _
  | exact shp_sh _ _
  | exact shp_mo _ _
  | exact shpA_pt1 _ _
  | exact shpA_pt2 _ _ _
  | exact shp_pts
  | exact (show D.shp 8 _ = true from rfl)
  | solve_by_elim)
local macro_rules | `(tactic| walk_at "pts") => `(tactic| first
  | (apply pts1 <;> walk_at "norm")
  | (apply pts2 <;> walk_at "norm"))
local macro_rules | `(tactic| walk_at "ismo") => `(tactic| (apply isMo_yes <;> walk_at "mok"))
local macro_rules | `(tactic| walk_at "one") => `(tactic| assumption)
local macro_rules | `(tactic| walk_at "db") => `(tactic| first
  | assumption
  | (apply MOk.db <;> walk_at "mok")
  | (apply Ok.db <;> walk_at "ok")
  | solve_by_elim)
local macro_rules | `(tactic| walk_at "nopq") => `(tactic| first | assumption | solve_by_elim | (intro n h; cases h))
local macro_rules | `(tactic| walk_at "sz") => `(tactic| first | omega | assumption | (simp; done) | (simp_all <;> omega))
local macro_rules | `(tactic| walk_at "sok") => `(tactic| first
  | assumption
  | (apply plusSh_ok <;> walk_at "sok")
  | (apply gap_ok <;> walk_at "ok")
  | (apply size_ok <;> walk_at "ok")
  | exact nought_ok (n := 1) (by decide))
local macro_rules | `(tactic| walk_at "oks") => `(tactic| first
  | assumption
  | solve_by_elim)
local macro_rules | `(tactic| walk_at "ne") => `(tactic| first
  | assumption
  | (simp; done))
local macro_rules | `(tactic| walk_at "prs") => `(tactic| (apply prs <;> assumption))
local macro_rules | `(tactic| walk_at "norms") => `(tactic| first | assumption | solve_by_elim)
local macro_rules | `(tactic| walk_at "soks") => `(tactic| first | assumption | solve_by_elim)
local macro_rules | `(tactic| walk_at "bn") => `(tactic| first
  | assumption
  | (apply Bn.mul <;> walk_at "bn")
  | (apply Bn.add <;> walk_at "bn")
  | (apply Bn.sub <;> walk_at "bn")
  | (apply Bn.neg <;> walk_at "bn")
  | (apply Bn.abs <;> walk_at "bn")
  | exact (show Bn 64 _ by unfold Bn; decide)
  | exact (show Bn 64 _ by unfold Bn; omega))
local macro_rules | `(tactic| walk_at "pok") => `(tactic| first | assumption | solve_by_elim)
local macro_rules | `(tactic| walk_at "cd") => `(tactic| (apply Bn.cd; (focus walk_at "bn"); (first | assumption | omega); omega))
local macro_rules | `(tactic| walk_at "sz") => `(tactic| try simp only [c1, c2, c3, c4, ret, tupE, nilA, consA, lstE, itE, walkD_l, walkD_t, walkD_c, un2_t, un2_l, un3_t, un3_l, un3M, un3P, un2S])
section
variable {Φ : D → Prop} {Ψ : Str → Prop} {n m i j k' : Nat} {p q : Pt} {x y : D} {l r : List Pt} {mo : Mo}
theorem dd_snoc {α : Type} [DecidableEq α] {l : List α} {a : α} : dd (l ++ [a]) = ins (dd l) a := by unfold dd; rw [List.foldl_append]; rfl
theorem shp_ptsN {n : Nat} {l : List Pt} : D.shpA (n + 1) (l.map Pt.d) = true := shpA_all fun d hd => by
  obtain ⟨p, _, rfl⟩ := List.mem_map.mp hd
  exact shp_pt n p
/-! ### heaps drawn -/
theorem cut_take {ds : List D} {j : Nat} : cutD ds none (some (j : Int)) = ds.take j := by
  unfold cutD
  rw [HT.sIx_none, HT.sIx_nat, List.drop_zero, Nat.sub_zero]
  by_cases h : j ≤ ds.length
  · rw [Nat.min_eq_left h]
  · rw [Nat.min_eq_right (by omega), List.take_of_length_le (Nat.le_refl _), List.take_of_length_le (by omega)]
theorem cut_drop {ds : List D} {j : Nat} : cutD ds (some (j : Int)) none = ds.drop j := by
  unfold cutD
  rw [HT.sIx_none, HT.sIx_nat]
  by_cases h : j ≤ ds.length
  · rw [Nat.min_eq_left h, List.take_of_length_le (by rw [List.length_drop]; omega)]
  · rw [Nat.min_eq_right (by omega), List.drop_of_length_le (Nat.le_refl _), List.drop_of_length_le (by omega)]; simp
theorem sl_takeL {ds : List D} {j : Nat} {K : D → Prop} : slE (ret (.lst ds)) noneO (someO (ret (.int (j : Int)))) K Ψ = K (.lst (ds.take j)) := by
  show K (.lst (cutD ds none (some (j : Int)))) = _
  rw [cut_take]
theorem sl_dropL {ds : List D} {j : Nat} {K : D → Prop} : slE (ret (.lst ds)) (someO (ret (.int (j : Int)))) noneO K Ψ = K (.lst (ds.drop j)) := by
  show K (.lst (cutD ds (some (j : Int)) none)) = _
  rw [cut_drop]
theorem joinD_w {rest : D → Prop} {body : (D → Prop) → Prop} (P : D → Prop) (hb : ∀ k : D → Prop, (∀ d, P d → k d) → body k) (hr : ∀ d, P d → rest d) : join rest body := hb rest hr
end
end G
namespace G
open PySem PySem.Spec L2
local macro_rules | `(tactic| walk_at "sx") => `(tactic| try simp only [bin, una, lcE, cmpV, cmpT, tv, bv_b, notT, andT, orT, notV, andV, orV, ifE, nilA, consA, tupE, lstE, c1, c2, c3, c4, itE, seqD_l, seqD_t, walkD_l, walkD_t, walkD_c, ret, addD_i, subD_i, mulD_i, negD_i, fdivD_i, modD_i, absD_i, maxD_i, lnD_l, lnD_t, ltB_i, leB_i, gtB_i, geB_i, rng1, rng2, zipM, zip2_l, zip2_t, chnV, chnT, un2_t, un2_l, un3_t, un3_l, join, isDat_d,
  ixP0, ixP1, ixP2, ixS0, ixS1, ixM0, ixM1, ixM2, un3M, un3P, un2S, eqB_i, neB_i, eqB_p, neB_p, eqB_s, neB_s, eqB_m, neB_m, ite_dec, ite_ndec, ite_tt, ite_ff, ite_nt, ite_nf, isNB, notNB, isVB_b, isntVB_b, ixT30, ixT31, ixT32, ixT20, ixT21, if_true, if_false])
local macro_rules | `(tactic| walk_at "sy") => `(tactic| try simp only [bin, una, lcE, cmpV, cmpT, tv, bv_b, nilA, consA, tupE, lstE, c1, c2, c3, c4, itE, seqD_l, seqD_t, walkD_l, walkD_t, walkD_c, ret, addD_i, subD_i, mulD_i, negD_i, fdivD_i, modD_i, absD_i, maxD_i, lnD_l, lnD_t, ltB_i, leB_i, gtB_i, geB_i, rng1, rng2, zipM, zip2_l, zip2_t, un2_t, un2_l, un3_t, un3_l, isDat_d,
  ixP0, ixP1, ixP2, ixS0, ixS1, ixM0, ixM1, ixM2, un3M, un3P, un2S, eqB_i, neB_i, eqB_p, neB_p, eqB_s, neB_s, eqB_m, neB_m, ite_dec, ite_ndec, ite_tt, ite_ff, ite_nt, ite_nf, isNB, notNB, isVB_b, isntVB_b, ixT30, ixT31, ixT32, ixT20, ixT21, if_true, if_false])
local macro_rules | `(tactic| walk_at "bn") => `(tactic| first
  | assumption
  | (apply Bn.mul <;> walk_at "bn")
  | (apply Bn.add <;> walk_at "bn")
  | (apply Bn.sub <;> walk_at "bn")
  | (apply Bn.neg <;> walk_at "bn")
  | (apply Bn.abs <;> walk_at "bn")
  | exact (show Bn 64 _ by unfold Bn; decide))
local macro_rules | `(tactic| walk_at "cm") => `(tactic| (apply Bn.cm; (focus walk_at "bn"); (focus walk_at "bn"); omega))
local macro_rules | `(tactic| walk_at "nz") => `(tactic| first
  | assumption
  | omega
  | (apply mulnz <;> walk_at "nz"))
local macro_rules | `(tactic| walk_at "mok") => `(tactic| first
  | assumption
  | (apply joined_ok <;> walk_at "mok")
  | (apply backOf_ok <;> walk_at "mok")
  | exact still_ok)
local macro_rules | `(tactic| walk_at "ok") => `(tactic| first
  | assumption
  | (apply plus_ok <;> walk_at "ok")
  | (apply minus_ok <;> walk_at "ok")
  | (apply times_ok <;> walk_at "ok")
  | (apply flipped_ok <;> walk_at "ok")
  | (apply ledBy_ok <;> first | walk_at "ok" | walk_at "mok")
  | solve_by_elim)
local macro_rules | `(tactic| walk_at "norm") => `(tactic| first
  | assumption
  | (apply flipped_norm <;> walk_at "norm")
  | (apply plus_norm' <;> walk_at "ok")
  | (apply minus_norm' <;> walk_at "ok")
  | (apply times_norm' <;> walk_at "ok")
  | (apply ledBy_norm <;> first | walk_at "ok" | walk_at "mok")
  | solve_by_elim)
local macro_rules | `(tactic| walk_at "shp") => `(tactic| first
  | rfl
  | assumption
  | exact shp_pt _ _
  | exact shp_sh _ _
  | exact shp_mo _ _
  | exact shpA_pt1 _ _
  | exact shpA_pt2 _ _ _
  | exact shp_pts
  | exact (show D.shp 8 _ = true from rfl)
  | solve_by_elim)
local macro_rules | `(tactic| walk_at "pts") => `(tactic| first
  | (apply pts1 <;> walk_at "norm")
  | (apply pts2 <;> walk_at "norm"))
local macro_rules | `(tactic| walk_at "ismo") => `(tactic| (apply isMo_yes <;> walk_at "mok"))
local macro_rules | `(tactic| walk_at "one") => `(tactic| assumption)
local macro_rules | `(tactic| walk_at "db") => `(tactic| first
  | assumption
  | (apply MOk.db <;> walk_at "mok")
  | (apply Ok.db <;> walk_at "ok")
  | solve_by_elim)
local macro_rules | `(tactic| walk_at "nopq") => `(tactic| first | assumption | solve_by_elim | (intro n h; cases h))
local macro_rules | `(tactic| walk_at "sz") => `(tactic| first | omega | assumption | (simp; done) | (simp_all <;> omega))
local macro_rules | `(tactic| walk_at "sok") => `(tactic| first
  | assumption
  | (apply plusSh_ok <;> walk_at "sok")
  | (apply gap_ok <;> walk_at "ok")
  | (apply size_ok <;> walk_at "ok")
  | exact nought_ok (n := 1) (by decide))
local macro_rules | `(tactic| walk_at "oks") => `(tactic| first
  | assumption
  | solve_by_elim)
local macro_rules | `(tactic| walk_at "ne") => `(tactic| first
  | assumption
  | (simp; done))
local macro_rules | `(tactic| walk_at "prs") => `(tactic| (apply prs <;> assumption))
local macro_rules | `(tactic| walk_at "norms") => `(tactic| first | assumption | solve_by_elim)
local macro_rules | `(tactic| walk_at "soks") => `(tactic| first | assumption | solve_by_elim)
local macro_rules | `(tactic| walk_at "bn") => `(tactic| first
  | assumption
  | (apply Bn.mul <;> walk_at "bn")
  | (apply Bn.add <;> walk_at "bn")
  | (apply Bn.sub <;> walk_at "bn")
  | (apply Bn.neg <;> walk_at "bn")
  | (apply Bn.abs <;> walk_at "bn")
  | exact (show Bn 64 _ by unfold Bn; decide)
  | exact (show Bn 64 _ by unfold Bn; omega))
local macro_rules | `(tactic| walk_at "pok") => `(tactic| first | assumption | solve_by_elim)
local macro_rules | `(tactic| walk_at "cd") => `(tactic| (apply Bn.cd; (focus walk_at "bn"); (first | assumption | omega); omega))
local macro_rules | `(tactic| walk_at "sz") => `(tactic| try simp only [c1, c2, c3, c4, ret, tupE, nilA, consA, lstE, itE, walkD_l, walkD_t, walkD_c, un2_t, un2_l, un3_t, un3_l, un3M, un3P, un2S])
section
variable {Φ : D → Prop} {Ψ : Str → Prop} {n m i j k' : Nat} {p q a b c d : Pt} {x y z : D} {l r : List Pt} {mo : Mo} {f : Int}
theorem lead0 : lead 0 a b c d = ⟨by_ (minus d c) (minus b a), minus c (times (by_ (minus d c) (minus b a)) a), 0⟩ := by
  unfold lead leadT
  simp
theorem lead1 : lead 1 a b c d = ⟨by_ (minus d c) (flipped (minus b a)), minus c (times (by_ (minus d c) (flipped (minus b a))) (flipped a)), 1⟩ := by
  unfold lead leadT
  simp
def bothD (a b c d : Pt) : List D := [(lead 0 a b c d).d, (lead 1 a b c d).d]
theorem both_leading_w (h : Four n m a b c d) (hn : n ≤ 100) (hm : m ≤ 100) (k : Φ (.tup (bothD a b c d))) : p_both_leading a.d b.d c.d d.d Φ Ψ := by
  have m1 := minus_ok h.od h.oc
  have m2 := minus_ok h.ob h.oa
  have f2 := flipped_ok m2
  have df1 : (flipped (minus b a)).x ≠ 0 ∨ (flipped (minus b a)).y ≠ 0 := by have := fl_df (f := 1) h.df; simpa using this
  have t1 := by_ok m1 m2 h.df
  have t2 := by_ok m1 f2 df1
  refine ⟨?_⟩
  walk_at "sx"
  refine minus_w h.od h.oc (by omega) (minus_w h.ob h.oa (by omega) (by_w m1 m2 h.df (by omega) ?_))
  refine minus_w h.od h.oc (by omega) (minus_w h.ob h.oa (by omega) (flipped_w (by_w m1 f2 df1 (by omega) ?_)))
  refine times_w t1 h.oa (by omega) (minus_w h.oc (times_ok t1 h.oa) (by omega) ?_)
  refine flipped_w (times_w t2 (flipped_ok h.oa) (by omega) (minus_w h.oc (times_ok t2 (flipped_ok h.oa)) (by omega) ?_))
  unfold bothD at k
  rw [lead0, lead1] at k
  exact k
theorem both_d : bothD a b c d = [lead 0 a b c d, lead 1 a b c d].map Mo.d := rfl
/-! ### a loop that adds -/
theorem forL_acc {γ α S : Type} {f : D → S → (S → Prop) → (S → Prop) → Prop} {k : S → Prop} (enc : α → D) (st : List γ → S) (out : α → List γ) (c B : Nat) : ∀ {ps : List α} {acc : List γ},
    (∀ p ∈ ps, (out p).length ≤ c) → acc.length + ps.length * c ≤ B → (∀ p ∈ ps, ∀ acc : List γ, acc.length + c ≤ B → ∀ nx br : S → Prop, nx (st (acc ++ out p)) → f (enc p) (st acc) nx br) → k (st (acc ++ ps.flatMap out)) → forL f k (ps.map enc) (st acc)
  | [], acc, _, _, _, hk => by simpa [forL] using hk
  | p :: ps, acc, hc, hB, h, hk => by
    rw [List.length_cons, Nat.succ_mul] at hB
    have h1 := hc p List.mem_cons_self
    refine h p List.mem_cons_self acc (by omega) _ _ ?_
    refine forL_acc enc st out c B (fun q hq => hc q (List.mem_cons_of_mem _ hq)) (by rw [List.length_append]; omega) (fun q hq => h q (List.mem_cons_of_mem _ hq)) ?_
    rw [List.flatMap_cons, ← List.append_assoc] at hk
    exact hk
/-! ### the points of a heap as a table -/
abbrev goalD (r : List Pt) : D := dctD (kvT Pt.d r)
theorem goal_w (hy : HL y r) (nd : r.Nodup) (hl : r.length ≤ 1000) (k : Φ (goalD r)) : (dcE (itE (ret y)) (fun p8 k5 => (ret p8) (fun y6 => (ret (.bl true)) (fun z7 => k5 (some (y6, z7))) bot) bot)) Φ Ψ := by
  simp only [dcE, itE, ret, hy.walk]
  refine ⟨by rw [List.length_map]; omega, ?_⟩
  refine dcL_T (e := Pt.d) (g := id) (enc := Pt.d) (acc := []) ptd_inj key_p (fun p hp K hK => hK) ?_
  have e : r.foldl (fun ks p => ins ks (id p)) [] = r := dd_of_nodup nd
  rw [e]; exact k
theorem inB_goal {Θ : Bool → Prop} (h : Θ (decide (p ∈ r))) : inB p.d (goalD r) Θ := by
  refine ⟨rfl, ?_⟩
  have e : decide (p.d ∈ (kvT Pt.d r).map (·.1)) = decide (p ∈ r) := by
    rw [kvT_fst]
    congr 1
    exact propext (mem_enc ptd_inj)
  rw [e]; exact h
/-! ### all motions that lay two points at least over -/
def candB (a b c d : Pt) : List Mo := if c ≠ d ∧ gap a b = gap c d then [lead 0 a b c d, lead 1 a b c d] else []
def candAB (r : List Pt) (a b : Pt) : List Mo := r.flatMap fun c => r.flatMap fun d => candB a b c d
def cands (l r : List Pt) : List Mo := (ordL l).zipIdx.flatMap fun ai => ((ordL l).drop (ai.2 + 1)).flatMap fun b => candAB r ai.1 b
theorem candB_len : (candB a b c d).length ≤ 2 := by unfold candB; split <;> simp
theorem flat_len {α β : Type} {out : α → List β} {c : Nat} : ∀ {ps : List α}, (∀ p ∈ ps, (out p).length ≤ c) → (ps.flatMap out).length ≤ ps.length * c
  | [], _ => by simp
  | p :: ps, h => by
    rw [List.flatMap_cons, List.length_append, List.length_cons, Nat.succ_mul]
    have := h p List.mem_cons_self
    have := flat_len (ps := ps) fun q hq => h q (List.mem_cons_of_mem _ hq)
    omega
theorem joinL_w {rest : List (D × D) → Prop} {body : (List (D × D) → Prop) → Prop} (P : List (D × D) → Prop) (hb : ∀ k : List (D × D) → Prop, (∀ d, P d → k d) → body k) (hr : ∀ d, P d → rest d) : join rest body := hb rest hr
end
end G
namespace G
open PySem PySem.Spec L2
local macro_rules | `(tactic| walk_at "sx") => `(tactic| try simp only [bin, una, lcE, cmpV, cmpT, tv, bv_b, notT, andT, orT, notV, andV, orV, ifE, nilA, consA, tupE, lstE, c1, c2, c3, c4, itE, seqD_l, seqD_t, walkD_l, walkD_t, walkD_c, ret, addD_i, subD_i, mulD_i, negD_i, fdivD_i, modD_i, absD_i, maxD_i, lnD_l, lnD_t, ltB_i, leB_i, gtB_i, geB_i, rng1, rng2, zipM, zip2_l, zip2_t, chnV, chnT, un2_t, un2_l, un3_t, un3_l, join, isDat_d,
  ixP0, ixP1, ixP2, ixS0, ixS1, ixM0, ixM1, ixM2, un3M, un3P, un2S, eqB_i, neB_i, eqB_p, neB_p, eqB_s, neB_s, eqB_m, neB_m, ite_dec, ite_ndec, ite_tt, ite_ff, ite_nt, ite_nf, isNB, notNB, isVB_b, isntVB_b, ixT30, ixT31, ixT32, ixT20, ixT21, if_true, if_false])
local macro_rules | `(tactic| walk_at "sy") => `(tactic| try simp only [bin, una, lcE, cmpV, cmpT, tv, bv_b, nilA, consA, tupE, lstE, c1, c2, c3, c4, itE, seqD_l, seqD_t, walkD_l, walkD_t, walkD_c, ret, addD_i, subD_i, mulD_i, negD_i, fdivD_i, modD_i, absD_i, maxD_i, lnD_l, lnD_t, ltB_i, leB_i, gtB_i, geB_i, rng1, rng2, zipM, zip2_l, zip2_t, un2_t, un2_l, un3_t, un3_l, isDat_d,
  ixP0, ixP1, ixP2, ixS0, ixS1, ixM0, ixM1, ixM2, un3M, un3P, un2S, eqB_i, neB_i, eqB_p, neB_p, eqB_s, neB_s, eqB_m, neB_m, ite_dec, ite_ndec, ite_tt, ite_ff, ite_nt, ite_nf, isNB, notNB, isVB_b, isntVB_b, ixT30, ixT31, ixT32, ixT20, ixT21, if_true, if_false])
local macro_rules | `(tactic| walk_at "bn") => `(tactic| first
  | assumption
  | (apply Bn.mul <;> walk_at "bn")
  | (apply Bn.add <;> walk_at "bn")
  | (apply Bn.sub <;> walk_at "bn")
  | (apply Bn.neg <;> walk_at "bn")
  | (apply Bn.abs <;> walk_at "bn")
  | exact (show Bn 64 _ by unfold Bn; decide))
local macro_rules | `(tactic| walk_at "cm") => `(tactic| (apply Bn.cm; (focus walk_at "bn"); (focus walk_at "bn"); omega))
local macro_rules | `(tactic| walk_at "nz") => `(tactic| first
  | assumption
  | omega
  | (apply mulnz <;> walk_at "nz"))
local macro_rules | `(tactic| walk_at "mok") => `(tactic| first
  | assumption
  | (apply joined_ok <;> walk_at "mok")
  | (apply backOf_ok <;> walk_at "mok")
  | exact still_ok)
local macro_rules | `(tactic| walk_at "ok") => `(tactic| first
  | assumption
  | (apply plus_ok <;> walk_at "ok")
  | (apply minus_ok <;> walk_at "ok")
  | (apply times_ok <;> walk_at "ok")
  | (apply flipped_ok <;> walk_at "ok")
  | (apply ledBy_ok <;> first | walk_at "ok" | walk_at "mok")
  | solve_by_elim)
local macro_rules | `(tactic| walk_at "norm") => `(tactic| first
  | assumption
  | (apply flipped_norm <;> walk_at "norm")
  | (apply plus_norm' <;> walk_at "ok")
  | (apply minus_norm' <;> walk_at "ok")
  | (apply times_norm' <;> walk_at "ok")
  | (apply ledBy_norm <;> first | walk_at "ok" | walk_at "mok")
  | solve_by_elim)
local macro_rules | `(tactic| walk_at "shp") => `(tactic| first
  | rfl
  | assumption
  | exact shp_pt _ _
  | exact shp_sh _ _
  | exact shp_mo _ _
  | exact shpA_pt1 _ _
  | exact shpA_pt2 _ _ _
  | exact shp_pts
  | exact (show D.shp 8 _ = true from rfl)
  | solve_by_elim)
local macro_rules | `(tactic| walk_at "pts") => `(tactic| first
  | (apply pts1 <;> walk_at "norm")
  | (apply pts2 <;> walk_at "norm"))
local macro_rules | `(tactic| walk_at "ismo") => `(tactic| (apply isMo_yes <;> walk_at "mok"))
local macro_rules | `(tactic| walk_at "one") => `(tactic| assumption)
local macro_rules | `(tactic| walk_at "db") => `(tactic| first
  | assumption
  | (apply MOk.db <;> walk_at "mok")
  | (apply Ok.db <;> walk_at "ok")
  | solve_by_elim)
local macro_rules | `(tactic| walk_at "nopq") => `(tactic| first | assumption | solve_by_elim | (intro n h; cases h))
local macro_rules | `(tactic| walk_at "sz") => `(tactic| first | omega | assumption | (simp; done) | (simp_all <;> omega))
local macro_rules | `(tactic| walk_at "sok") => `(tactic| first
  | assumption
  | (apply plusSh_ok <;> walk_at "sok")
  | (apply gap_ok <;> walk_at "ok")
  | (apply size_ok <;> walk_at "ok")
  | exact nought_ok (n := 1) (by decide))
local macro_rules | `(tactic| walk_at "oks") => `(tactic| first
  | assumption
  | solve_by_elim)
local macro_rules | `(tactic| walk_at "ne") => `(tactic| first
  | assumption
  | (simp; done))
local macro_rules | `(tactic| walk_at "prs") => `(tactic| (apply prs <;> assumption))
local macro_rules | `(tactic| walk_at "norms") => `(tactic| first | assumption | solve_by_elim)
local macro_rules | `(tactic| walk_at "soks") => `(tactic| first | assumption | solve_by_elim)
local macro_rules | `(tactic| walk_at "bn") => `(tactic| first
  | assumption
  | (apply Bn.mul <;> walk_at "bn")
  | (apply Bn.add <;> walk_at "bn")
  | (apply Bn.sub <;> walk_at "bn")
  | (apply Bn.neg <;> walk_at "bn")
  | (apply Bn.abs <;> walk_at "bn")
  | exact (show Bn 64 _ by unfold Bn; decide)
  | exact (show Bn 64 _ by unfold Bn; omega))
local macro_rules | `(tactic| walk_at "pok") => `(tactic| first | assumption | solve_by_elim)
local macro_rules | `(tactic| walk_at "cd") => `(tactic| (apply Bn.cd; (focus walk_at "bn"); (first | assumption | omega); omega))
local macro_rules | `(tactic| walk_at "sz") => `(tactic| try simp only [c1, c2, c3, c4, ret, tupE, nilA, consA, lstE, itE, walkD_l, walkD_t, walkD_c, un2_t, un2_l, un3_t, un3_l, un3M, un3P, un2S])
/-! ### sorted(..) of things alike -/
def leD (a b : D) : Bool := PySem.W.dataLe false D.py a b
theorem leD_eq (a b : D) : leD a b = !PySem.W.dataLt b.py a.py := by
  unfold leD
  rw [PySem.W.dataLe_eq]; rfl
abbrev ordT : PyProof.Rows.KeyOrd := PyProof.Rows.listOrd PyProof.Rows.itemOrd
theorem dlt_eq (x y : PyData) : PySem.W.dataLt x y = ordT.blt (PySem.W.keyToks x) (PySem.W.keyToks y) := rfl
theorem leD_anti {a b : D} (ha : PySem.W.alike a.py b.py = true) (h1 : leD a b = true) (h2 : leD b a = true) : deq a b = true := by
  rw [leD_eq, dlt_eq, Bool.not_eq_true'] at h1 h2
  have e := ordT.total _ _ h2 h1
  cases h : PyData.eqv a.py b.py with
  | true => exact h
  | false =>
    have z := (PySem.W.toks_eqv _ _ ha).2 h [] [.inl 0]
    rw [List.append_nil, e] at z
    have i := ordT.irrefl (PySem.W.keyToks b.py)
    have i2 : PyProof.Rows.lexLt PyProof.Rows.itemOrd (PySem.W.keyToks b.py) (PySem.W.keyToks b.py) = false := i
    rw [i2] at z
    have p := PySem.W.lex_pre (PySem.W.keyToks b.py) [] [.inl 0]
    rw [List.append_nil] at p
    rw [p] at z
    exact absurd z (by decide)
/-- a kind of things that can be sorted: alike, told apart by == -/
structure Kind (α : Type) where
  enc : α → D
  tup : (∀ a, ∃ d ds, enc a = .tup (d :: ds)) ∨ ∀ a, (enc a).py ≠ .none ∧ ∀ xs, (enc a).py ≠ .tuple xs
  al : ∀ a b, PySem.W.alike (enc a).py (enc b).py = true
  eq : ∀ a b, deq (enc a) (enc b) = true → a = b
  shp : ∀ a, D.shp 39 (enc a) = true
def moK : Kind Mo := ⟨Mo.d, .inl fun p => ⟨_, _, rfl⟩, fun p q => by
  show PySem.W.alike (.tuple [.tuple [.int p.t.x, .int p.t.y, .int p.t.w], .tuple [.int p.s.x, .int p.s.y, .int p.s.w], .int p.f]) (.tuple [.tuple [.int q.t.x, .int q.t.y, .int q.t.w], .tuple [.int q.s.x, .int q.s.y, .int q.s.w], .int q.f]) = true
  simp [PySem.W.alike, PySem.W.alikeAll], fun p q h => by rw [deq_mo] at h; exact of_decide_eq_true h, fun p => shp_mo 37 p⟩
section
variable {α : Type} {κ : Kind α} {l m : List α} {Φ : D → Prop}
/-- the list sorted -/
def srtK (κ : Kind α) (l : List α) : List α := l.mergeSort fun a b => leD (κ.enc a) (κ.enc b)
theorem srtK_map : srt (l.map κ.enc) = (srtK κ l).map κ.enc := by
  unfold srt srtK
  exact (List.map_mergeSort (r := fun a b => leD (κ.enc a) (κ.enc b)) (s := PySem.W.dataLe false D.py) (f := κ.enc) fun a _ b _ => rfl).symm
theorem srtK_perm : (srtK κ l).Perm l := List.mergeSort_perm _ _
theorem srtK_mem {a : α} : a ∈ srtK κ l ↔ a ∈ l := srtK_perm.mem_iff
theorem srtB_map (h : l.length ≤ 100000) : srtB (l.map κ.enc) := by
  refine ⟨⟨?_, ?_⟩, by rw [List.length_map]; exact h⟩
  · intro d hd e he
    rw [List.map_map] at hd he
    obtain ⟨a, _, rfl⟩ := List.mem_map.mp hd
    obtain ⟨b, _, rfl⟩ := List.mem_map.mp he
    exact κ.al a b
  · rcases κ.tup with t | t
    · refine .inl fun d hd => ?_
      rw [List.map_map] at hd
      obtain ⟨a, _, rfl⟩ := List.mem_map.mp hd
      obtain ⟨x, xs, e⟩ := t a
      refine ⟨x.py, D.pyA xs, ?_⟩
      show (κ.enc a).py = _
      rw [e]; rfl
    · refine .inr fun d hd => ?_
      rw [List.map_map] at hd
      obtain ⟨a, _, rfl⟩ := List.mem_map.mp hd
      exact t a
theorem sortedT_w {vs : List D} (h : l.length ≤ 100000) (k : Φ (.lst ((srtK κ l).map κ.enc))) : sortedD (.dct (l.map κ.enc) vs) Φ := ⟨srtB_map h, by rw [srtK_map]; exact k⟩
end
section
variable {Φ : D → Prop} {Ψ : Str → Prop} {n m i j k' : Nat} {p q : Pt} {x y : D} {l r : List Pt} {mo : Mo}
/-! ### == of lists of points -/
theorem eqvA_nc (d : D) (ds : List D) : PyData.eqvAll (D.pyA []) (D.pyA (d :: ds)) = false := by
  show PyData.eqvAll [] (_ :: _) = false
  rw [PyData.eqvAll]
theorem eqvA_cn (d : D) (ds : List D) : PyData.eqvAll (D.pyA (d :: ds)) (D.pyA []) = false := by
  show PyData.eqvAll (_ :: _) [] = false
  rw [PyData.eqvAll]
theorem eqvA_enc {α : Type} [DecidableEq α] {enc : α → D} (h : ∀ a b, deq (enc a) (enc b) = decide (a = b)) : ∀ {l r : List α}, PyData.eqvAll (D.pyA (l.map enc)) (D.pyA (r.map enc)) = decide (l = r)
  | [], [] => by simpa using eqvA_nil
  | [], q :: r => by rw [List.map_nil, List.map_cons, eqvA_nc]; simp
  | p :: l, [] => by rw [List.map_nil, List.map_cons, eqvA_cn]; simp
  | p :: l, q :: r => by rw [List.map_cons, List.map_cons, eqvA_cons, h, eqvA_enc h]; simp
theorem deq_ptsT {l r : List Pt} : deq (.tup (l.map Pt.d)) (.tup (r.map Pt.d)) = decide (l = r) := by rw [deq_tup, eqvA_enc deq_pt]
theorem deq_mos {l r : List Mo} : deq (.lst (l.map Mo.d)) (.lst (r.map Mo.d)) = decide (l = r) := by rw [deq_lst, eqvA_enc deq_mo]
theorem shp40_ptsT : D.shp 40 (.tup (l.map Pt.d)) = true := shpA_all fun d hd => by obtain ⟨p, _, rfl⟩ := List.mem_map.mp hd; exact shp_pt 38 p
/-! ### heaps moved -/
theorem gap_zero (hp : Ok n p) (hq : Ok m q) (np : Norm p) (nq : Norm q) (h : (gap p q).val = 0) : p = q := by
  rw [gap_val hp hq] at h
  have a : (p.re - q.re) * (p.re - q.re) = 0 ∧ (p.im - q.im) * (p.im - q.im) = 0 := by
    have sq : ∀ a : Rat, 0 ≤ a * a := fun a => by
      by_cases h : 0 ≤ a
      · exact Rat.mul_nonneg h h
      · have e : a * a = (-a) * (-a) := by grind
        rw [e]
        exact Rat.mul_nonneg (by grind) (by grind)
    have h1 := sq (p.re - q.re)
    have h2 := sq (p.im - q.im)
    constructor <;> grind
  refine val_inj np nq ?_ ?_
  · rcases Rat.mul_eq_zero.mp a.1 with z | z <;> grind
  · rcases Rat.mul_eq_zero.mp a.2 with z | z <;> grind
theorem gap_same (hp : Ok n p) : (gap p p).val = 0 := by rw [gap_val hp hp]; grind
theorem led_inj (h : MOk n mo) (hp : Ok i p) (hq : Ok j q) (np : Norm p) (nq : Norm q) (e : ledBy mo p = ledBy mo q) : p = q := by
  have g := led_gap h hp hq
  rw [e] at g
  exact gap_zero hp hq np nq (by rw [← g]; exact gap_same (ledBy_ok h hq))
theorem map_nodup {α β : Type} {f : α → β} : ∀ {l : List α}, l.Nodup → (∀ a ∈ l, ∀ b ∈ l, f a = f b → a = b) → (l.map f).Nodup
  | [], _, _ => by simp
  | a :: l, h, hf => by
    rw [List.nodup_cons] at h
    rw [List.map_cons, List.nodup_cons]
    refine ⟨fun z => ?_, map_nodup h.2 fun b hb c hc => hf b (List.mem_cons_of_mem _ hb) c (List.mem_cons_of_mem _ hc)⟩
    obtain ⟨b, hb, e⟩ := List.mem_map.mp z
    exact h.1 (hf b (List.mem_cons_of_mem _ hb) a List.mem_cons_self e ▸ hb)
theorem Hp.moved (h : Hp n l) (hm : MOk m mo) : Hp (2 * m + n + 2) (l.map (ledBy mo)) := by
  refine ⟨fun p hp => ?_, fun p hp => ?_, map_nodup h.nd fun a ha b hb e => led_inj hm (h.ok a ha) (h.ok b hb) (h.nm a ha) (h.nm b hb) e, by rw [List.length_map]; exact h.ge, by rw [List.length_map]; exact h.le⟩
  · obtain ⟨q, hq, rfl⟩ := List.mem_map.mp hp
    exact ledBy_norm hm (h.ok q hq)
  · obtain ⟨q, hq, rfl⟩ := List.mem_map.mp hp
    exact ledBy_ok hm (h.ok q hq)
theorem Hp.perm (h : Hp n l) (e : l.Perm r) : Hp n r := ⟨fun p hp => h.nm p (e.mem_iff.mpr hp), fun p hp => h.ok p (e.mem_iff.mpr hp), e.nodup_iff.mp h.nd, by rw [← e.length_eq]; exact h.ge, by rw [← e.length_eq]; exact h.le⟩
theorem Hp.mono (h : Hp n l) (e : n ≤ m) : Hp m l := ⟨h.nm, fun p hp => (h.ok p hp).mono e, h.nd, h.ge, h.le⟩
theorem Hp.ne (h : Hp n l) : l ≠ [] := fun z => by have := h.ge; rw [z] at this; simp at this
end
end G
namespace G
open PySem PySem.Spec L2
local macro_rules | `(tactic| walk_at "sx") => `(tactic| try simp only [bin, una, lcE, cmpV, cmpT, tv, bv_b, notT, andT, orT, notV, andV, orV, ifE, nilA, consA, tupE, lstE, c1, c2, c3, c4, itE, seqD_l, seqD_t, walkD_l, walkD_t, walkD_c, ret, addD_i, subD_i, mulD_i, negD_i, fdivD_i, modD_i, absD_i, maxD_i, lnD_l, lnD_t, ltB_i, leB_i, gtB_i, geB_i, rng1, rng2, zipM, zip2_l, zip2_t, chnV, chnT, un2_t, un2_l, un3_t, un3_l, join, isDat_d,
  ixP0, ixP1, ixP2, ixS0, ixS1, ixM0, ixM1, ixM2, un3M, un3P, un2S, eqB_i, neB_i, eqB_p, neB_p, eqB_s, neB_s, eqB_m, neB_m, ite_dec, ite_ndec, ite_tt, ite_ff, ite_nt, ite_nf, isNB, notNB, isVB_b, isntVB_b, ixT30, ixT31, ixT32, ixT20, ixT21, if_true, if_false])
local macro_rules | `(tactic| walk_at "sy") => `(tactic| try simp only [bin, una, lcE, cmpV, cmpT, tv, bv_b, nilA, consA, tupE, lstE, c1, c2, c3, c4, itE, seqD_l, seqD_t, walkD_l, walkD_t, walkD_c, ret, addD_i, subD_i, mulD_i, negD_i, fdivD_i, modD_i, absD_i, maxD_i, lnD_l, lnD_t, ltB_i, leB_i, gtB_i, geB_i, rng1, rng2, zipM, zip2_l, zip2_t, un2_t, un2_l, un3_t, un3_l, isDat_d,
  ixP0, ixP1, ixP2, ixS0, ixS1, ixM0, ixM1, ixM2, un3M, un3P, un2S, eqB_i, neB_i, eqB_p, neB_p, eqB_s, neB_s, eqB_m, neB_m, ite_dec, ite_ndec, ite_tt, ite_ff, ite_nt, ite_nf, isNB, notNB, isVB_b, isntVB_b, ixT30, ixT31, ixT32, ixT20, ixT21, if_true, if_false])
local macro_rules | `(tactic| walk_at "bn") => `(tactic| first
  | assumption
  | (apply Bn.mul <;> walk_at "bn")
  | (apply Bn.add <;> walk_at "bn")
  | (apply Bn.sub <;> walk_at "bn")
  | (apply Bn.neg <;> walk_at "bn")
  | (apply Bn.abs <;> walk_at "bn")
  | exact (show Bn 64 _ by unfold Bn; decide))
local macro_rules | `(tactic| walk_at "cm") => `(tactic| (apply Bn.cm; (focus walk_at "bn"); (focus walk_at "bn"); omega))
local macro_rules | `(tactic| walk_at "nz") => `(tactic| first
  | assumption
  | omega
  | (apply mulnz <;> walk_at "nz"))
local macro_rules | `(tactic| walk_at "mok") => `(tactic| first
  | assumption
  | (apply joined_ok <;> walk_at "mok")
  | (apply backOf_ok <;> walk_at "mok")
  | exact still_ok)
local macro_rules | `(tactic| walk_at "ok") => `(tactic| first
  | assumption
  | (apply plus_ok <;> walk_at "ok")
  | (apply minus_ok <;> walk_at "ok")
  | (apply times_ok <;> walk_at "ok")
  | (apply flipped_ok <;> walk_at "ok")
  | (apply ledBy_ok <;> first | walk_at "ok" | walk_at "mok")
  | solve_by_elim)
local macro_rules | `(tactic| walk_at "norm") => `(tactic| first
  | assumption
  | (apply flipped_norm <;> walk_at "norm")
  | (apply plus_norm' <;> walk_at "ok")
  | (apply minus_norm' <;> walk_at "ok")
  | (apply times_norm' <;> walk_at "ok")
  | (apply ledBy_norm <;> first | walk_at "ok" | walk_at "mok")
  | solve_by_elim)
local macro_rules | `(tactic| walk_at "shp") => `(tactic| first
  | rfl
  | assumption
  | exact shp_pt _ _
  | exact shp_sh _ _
  | exact shp_mo _ _
  | exact shpA_pt1 _ _
  | exact shpA_pt2 _ _ _
  | exact shp_pts
  | exact (show D.shp 8 _ = true from rfl)
  | solve_by_elim)
local macro_rules | `(tactic| walk_at "pts") => `(tactic| first
  | (apply pts1 <;> walk_at "norm")
  | (apply pts2 <;> walk_at "norm"))
local macro_rules | `(tactic| walk_at "ismo") => `(tactic| (apply isMo_yes <;> walk_at "mok"))
local macro_rules | `(tactic| walk_at "one") => `(tactic| assumption)
local macro_rules | `(tactic| walk_at "db") => `(tactic| first
  | assumption
  | (apply MOk.db <;> walk_at "mok")
  | (apply Ok.db <;> walk_at "ok")
  | solve_by_elim)
local macro_rules | `(tactic| walk_at "nopq") => `(tactic| first | assumption | solve_by_elim | (intro n h; cases h))
local macro_rules | `(tactic| walk_at "sz") => `(tactic| first | omega | assumption | (simp; done) | (simp_all <;> omega))
local macro_rules | `(tactic| walk_at "sok") => `(tactic| first
  | assumption
  | (apply plusSh_ok <;> walk_at "sok")
  | (apply gap_ok <;> walk_at "ok")
  | (apply size_ok <;> walk_at "ok")
  | exact nought_ok (n := 1) (by decide))
local macro_rules | `(tactic| walk_at "oks") => `(tactic| first
  | assumption
  | solve_by_elim)
local macro_rules | `(tactic| walk_at "ne") => `(tactic| first
  | assumption
  | (simp; done))
local macro_rules | `(tactic| walk_at "prs") => `(tactic| (apply prs <;> assumption))
local macro_rules | `(tactic| walk_at "norms") => `(tactic| first | assumption | solve_by_elim)
local macro_rules | `(tactic| walk_at "soks") => `(tactic| first | assumption | solve_by_elim)
local macro_rules | `(tactic| walk_at "bn") => `(tactic| first
  | assumption
  | (apply Bn.mul <;> walk_at "bn")
  | (apply Bn.add <;> walk_at "bn")
  | (apply Bn.sub <;> walk_at "bn")
  | (apply Bn.neg <;> walk_at "bn")
  | (apply Bn.abs <;> walk_at "bn")
  | exact (show Bn 64 _ by unfold Bn; decide)
  | exact (show Bn 64 _ by unfold Bn; omega))
local macro_rules | `(tactic| walk_at "pok") => `(tactic| first | assumption | solve_by_elim)
local macro_rules | `(tactic| walk_at "cd") => `(tactic| (apply Bn.cd; (focus walk_at "bn"); (first | assumption | omega); omega))
local macro_rules | `(tactic| walk_at "sz") => `(tactic| try simp only [c1, c2, c3, c4, ret, tupE, nilA, consA, lstE, itE, walkD_l, walkD_t, walkD_c, un2_t, un2_l, un3_t, un3_l, un3M, un3P, un2S])
section
variable {Φ : D → Prop} {Ψ : Str → Prop} {n m i j k' : Nat} {p q a b c d : Pt} {x y : D} {l r : List Pt} {mo : Mo} {f : Int}
/-! ### the laws' own helpers -/
/-! ### bools -/
/-! ### points in order -/
theorem ahead_irr (hp : 0 < p.w) : aheadB p p = false := by
  cases h : aheadB p p with
  | false => rfl
  | true =>
    rw [ahead_iff hp hp] at h
    grind
theorem not_ahead (hp : 0 < p.w) (hq : 0 < q.w) : aheadB p q = false ↔ q.re < p.re ∨ (q.re = p.re ∧ q.im ≤ p.im) := by
  rw [← Bool.not_eq_true, ahead_iff hp hq]
  grind
/-- not ahead of: p may stand ahead of q -/
theorem le_trans3 (ha : 0 < a.w) (hb : 0 < b.w) (hc : 0 < c.w) (h1 : aheadB b a = false) (h2 : aheadB c b = false) : aheadB c a = false := by
  rw [not_ahead hb ha] at h1
  rw [not_ahead hc hb] at h2
  rw [not_ahead hc ha]
  grind
theorem lt_le (ha : 0 < a.w) (hb : 0 < b.w) (h : aheadB a b = true) : aheadB b a = false := by
  rw [ahead_iff ha hb] at h
  rw [not_ahead hb ha]
  grind
theorem lt_le_trans (ha : 0 < a.w) (hb : 0 < b.w) (hc : 0 < c.w) (h1 : aheadB a b = true) (h2 : aheadB c b = false) : aheadB a c = true := by
  cases h : aheadB a c with
  | true => rfl
  | false =>
    have := le_trans3 hb hc ha h2 h
    rw [this] at h1; cases h1
theorem le_anti (ha : Norm a) (hb : Norm b) (h1 : aheadB a b = false) (h2 : aheadB b a = false) : a = b := by
  rw [not_ahead ha.1 hb.1] at h1
  rw [not_ahead hb.1 ha.1] at h2
  exact val_inj ha hb (by grind) (by grind)
/-- a list in order -/
abbrev InOrd (l : List Pt) : Prop := l.Pairwise fun a b => aheadB b a = false
abbrev Pos (l : List Pt) : Prop := ∀ p ∈ l, 0 < p.w
theorem insP_mem {l : List Pt} : q ∈ insP p l ↔ q = p ∨ q ∈ l := by rw [insP_perm.mem_iff, List.mem_cons]
theorem insP_ord (hp : 0 < p.w) : ∀ {l : List Pt}, Pos l → InOrd l → InOrd (insP p l)
  | [], _, _ => by unfold insP; simp [InOrd]
  | q :: l, hl, h => by
    have hq := hl q List.mem_cons_self
    have hl' : Pos l := fun z hz => hl z (List.mem_cons_of_mem _ hz)
    have h' := List.pairwise_cons.mp h
    unfold insP
    split
    · rename_i ha
      refine List.pairwise_cons.mpr ⟨fun z hz => ?_, h⟩
      rcases List.mem_cons.mp hz with rfl | hz
      · exact lt_le hp hq ha
      · exact le_trans3 hp hq (hl' z hz) (lt_le hp hq ha) (h'.1 z hz)
    · rename_i ha
      refine List.pairwise_cons.mpr ⟨fun z hz => ?_, insP_ord hp hl' h'.2⟩
      rcases insP_mem.mp hz with rfl | hz
      · simpa using ha
      · exact h'.1 z hz
theorem foldI_ord : ∀ {l acc : List Pt}, Pos l → Pos acc → InOrd acc → InOrd (l.foldl (fun f p => insP p f) acc)
  | [], _, _, _, h => h
  | p :: l, acc, hl, ha, h => by
    rw [List.foldl_cons]
    have hp := hl p List.mem_cons_self
    exact foldI_ord (fun z hz => hl z (List.mem_cons_of_mem _ hz)) (fun z hz => by
      rcases insP_mem.mp hz with rfl | hz
      · exact hp
      · exact ha z hz) (insP_ord hp ha h)
theorem ordL_ord (h : Pos l) : InOrd (ordL l) := foldI_ord h (fun p hp => by cases hp) List.Pairwise.nil
theorem ord_unique (hl : ∀ p ∈ l, Norm p) (h1 : InOrd l) (h2 : InOrd r) (e : l.Perm r) : l = r :=
  List.Perm.eq_of_pairwise (le := fun a b => aheadB b a = false) (fun a b ha hb h1 h2 => le_anti (hl a ha) (hl b (e.mem_iff.mpr hb)) h2 h1) h1 h2 e
theorem norms_pos (h : ∀ p ∈ l, Norm p) : Pos l := fun p hp => (h p hp).1
theorem ordL_eq (hl : ∀ p ∈ l, Norm p) (hr : ∀ p ∈ r, Norm p) : ordL l = ordL r ↔ l.Perm r := by
  constructor
  · intro h
    have a := ordL_perm (l := l)
    rw [h] at a
    exact a.symm.trans ordL_perm
  · intro h
    exact ord_unique (fun p hp => hl p (ordL_mem.mp hp)) (ordL_ord (norms_pos hl)) (ordL_ord (norms_pos hr)) (ordL_perm.trans (h.trans ordL_perm.symm))
end
end G
namespace G
open PySem PySem.Spec L2
local macro_rules | `(tactic| walk_at "sx") => `(tactic| try simp only [bin, una, lcE, cmpV, cmpT, tv, bv_b, notT, andT, orT, notV, andV, orV, ifE, nilA, consA, tupE, lstE, c1, c2, c3, c4, itE, seqD_l, seqD_t, walkD_l, walkD_t, walkD_c, ret, addD_i, subD_i, mulD_i, negD_i, fdivD_i, modD_i, absD_i, maxD_i, lnD_l, lnD_t, ltB_i, leB_i, gtB_i, geB_i, rng1, rng2, zipM, zip2_l, zip2_t, chnV, chnT, un2_t, un2_l, un3_t, un3_l, join, isDat_d,
  ixP0, ixP1, ixP2, ixS0, ixS1, ixM0, ixM1, ixM2, un3M, un3P, un2S, eqB_i, neB_i, eqB_p, neB_p, eqB_s, neB_s, eqB_m, neB_m, ite_dec, ite_ndec, ite_tt, ite_ff, ite_nt, ite_nf, isNB, notNB, isVB_b, isntVB_b, ixT30, ixT31, ixT32, ixT20, ixT21, if_true, if_false])
local macro_rules | `(tactic| walk_at "sy") => `(tactic| try simp only [bin, una, lcE, cmpV, cmpT, tv, bv_b, nilA, consA, tupE, lstE, c1, c2, c3, c4, itE, seqD_l, seqD_t, walkD_l, walkD_t, walkD_c, ret, addD_i, subD_i, mulD_i, negD_i, fdivD_i, modD_i, absD_i, maxD_i, lnD_l, lnD_t, ltB_i, leB_i, gtB_i, geB_i, rng1, rng2, zipM, zip2_l, zip2_t, un2_t, un2_l, un3_t, un3_l, isDat_d,
  ixP0, ixP1, ixP2, ixS0, ixS1, ixM0, ixM1, ixM2, un3M, un3P, un2S, eqB_i, neB_i, eqB_p, neB_p, eqB_s, neB_s, eqB_m, neB_m, ite_dec, ite_ndec, ite_tt, ite_ff, ite_nt, ite_nf, isNB, notNB, isVB_b, isntVB_b, ixT30, ixT31, ixT32, ixT20, ixT21, if_true, if_false])
local macro_rules | `(tactic| walk_at "bn") => `(tactic| first
  | assumption
  | (apply Bn.mul <;> walk_at "bn")
  | (apply Bn.add <;> walk_at "bn")
  | (apply Bn.sub <;> walk_at "bn")
  | (apply Bn.neg <;> walk_at "bn")
  | (apply Bn.abs <;> walk_at "bn")
  | exact (show Bn 64 _ by unfold Bn; decide))
local macro_rules | `(tactic| walk_at "cm") => `(tactic| (apply Bn.cm; (focus walk_at "bn"); (focus walk_at "bn"); omega))
local macro_rules | `(tactic| walk_at "nz") => `(tactic| first
  | assumption
  | omega
  | (apply mulnz <;> walk_at "nz"))
local macro_rules | `(tactic| walk_at "mok") => `(tactic| first
  | assumption
  | (apply joined_ok <;> walk_at "mok")
  | (apply backOf_ok <;> walk_at "mok")
  | exact still_ok)
local macro_rules | `(tactic| walk_at "ok") => `(tactic| first
  | assumption
  | (apply plus_ok <;> walk_at "ok")
  | (apply minus_ok <;> walk_at "ok")
  | (apply times_ok <;> walk_at "ok")
  | (apply flipped_ok <;> walk_at "ok")
  | (apply ledBy_ok <;> first | walk_at "ok" | walk_at "mok")
  | solve_by_elim)
local macro_rules | `(tactic| walk_at "norm") => `(tactic| first
  | assumption
  | (apply flipped_norm <;> walk_at "norm")
  | (apply plus_norm' <;> walk_at "ok")
  | (apply minus_norm' <;> walk_at "ok")
  | (apply times_norm' <;> walk_at "ok")
  | (apply ledBy_norm <;> first | walk_at "ok" | walk_at "mok")
  | solve_by_elim)
local macro_rules | `(tactic| walk_at "shp") => `(tactic| first
  | rfl
  | assumption
  | exact shp_pt _ _
  | exact shp_sh _ _
  | exact shp_mo _ _
  | exact shpA_pt1 _ _
  | exact shpA_pt2 _ _ _
  | exact shp_pts
  | exact (show D.shp 8 _ = true from rfl)
  | solve_by_elim)
local macro_rules | `(tactic| walk_at "pts") => `(tactic| first
  | (apply pts1 <;> walk_at "norm")
  | (apply pts2 <;> walk_at "norm"))
local macro_rules | `(tactic| walk_at "ismo") => `(tactic| (apply isMo_yes <;> walk_at "mok"))
local macro_rules | `(tactic| walk_at "one") => `(tactic| assumption)
local macro_rules | `(tactic| walk_at "db") => `(tactic| first
  | assumption
  | (apply MOk.db <;> walk_at "mok")
  | (apply Ok.db <;> walk_at "ok")
  | solve_by_elim)
local macro_rules | `(tactic| walk_at "nopq") => `(tactic| first | assumption | solve_by_elim | (intro n h; cases h))
local macro_rules | `(tactic| walk_at "sz") => `(tactic| first | omega | assumption | (simp; done) | (simp_all <;> omega))
local macro_rules | `(tactic| walk_at "sok") => `(tactic| first
  | assumption
  | (apply plusSh_ok <;> walk_at "sok")
  | (apply gap_ok <;> walk_at "ok")
  | (apply size_ok <;> walk_at "ok")
  | exact nought_ok (n := 1) (by decide))
local macro_rules | `(tactic| walk_at "oks") => `(tactic| first
  | assumption
  | solve_by_elim)
local macro_rules | `(tactic| walk_at "ne") => `(tactic| first
  | assumption
  | (simp; done))
local macro_rules | `(tactic| walk_at "prs") => `(tactic| (apply prs <;> assumption))
local macro_rules | `(tactic| walk_at "norms") => `(tactic| first | assumption | solve_by_elim)
local macro_rules | `(tactic| walk_at "soks") => `(tactic| first | assumption | solve_by_elim)
local macro_rules | `(tactic| walk_at "bn") => `(tactic| first
  | assumption
  | (apply Bn.mul <;> walk_at "bn")
  | (apply Bn.add <;> walk_at "bn")
  | (apply Bn.sub <;> walk_at "bn")
  | (apply Bn.neg <;> walk_at "bn")
  | (apply Bn.abs <;> walk_at "bn")
  | exact (show Bn 64 _ by unfold Bn; decide)
  | exact (show Bn 64 _ by unfold Bn; omega))
local macro_rules | `(tactic| walk_at "pok") => `(tactic| first | assumption | solve_by_elim)
local macro_rules | `(tactic| walk_at "cd") => `(tactic| (apply Bn.cd; (focus walk_at "bn"); (first | assumption | omega); omega))
local macro_rules | `(tactic| walk_at "sz") => `(tactic| try simp only [c1, c2, c3, c4, ret, tupE, nilA, consA, lstE, itE, walkD_l, walkD_t, walkD_c, un2_t, un2_l, un3_t, un3_l, un3M, un3P, un2S])
/-! ### lists of unlike things -/
section
variable {α β : Type} [DecidableEq α] {l r : List α}
theorem perm_sub : ∀ {l r : List α}, l.Nodup → (∀ a ∈ l, a ∈ r) → r.length ≤ l.length → l.Perm r
  | [], r, _, _, e => by
    have : r = [] := List.eq_nil_of_length_eq_zero (by simpa using e)
    rw [this]
  | a :: l, r, h, s, e => by
    have hn := List.nodup_cons.mp h
    have ha := s a List.mem_cons_self
    have p := perm_sub (l := l) (r := r.erase a) hn.2 (fun b hb => (List.mem_erase_of_ne fun e => hn.1 (by rw [← e]; exact hb)).mpr (s b (List.mem_cons_of_mem _ hb))) (by
      rw [List.length_erase_of_mem ha]
      rw [List.length_cons] at e; omega)
    exact (p.cons a).trans (List.perm_cons_erase ha).symm
theorem flat_if {t : α → Bool} : ∀ {l : List α}, l.flatMap (fun a => if t a = true then [a] else []) = l.filter t
  | [] => rfl
  | a :: l => by
    rw [List.flatMap_cons, flat_if (l := l), List.filter_cons]
    cases t a <;> simp
end
section
variable {Φ : D → Prop} {Ψ : Str → Prop} {n m i j k' : Nat} {p q a b c d : Pt} {x y : D} {l r t : List Pt} {mo lo : Mo} {f : Int}
theorem all_mapT {α : Type} {l : List α} {t : α → Bool} (k : Φ (.bl (l.all t))) : allD (.lst (l.map fun p => .bl (t p))) Φ := ⟨l.map t, by rw [List.map_map]; rfl, by rw [List.all_map]; exact k⟩
/-! ### motions from two points to two -/
def IsMo (mo : Mo) : Prop := ∃ n, MOk n mo
theorem Hp.four (h : Hp n l) (g : Hp m r) (ha : a ∈ l) (hb : b ∈ l) (hc : c ∈ r) (hd : d ∈ r) (ne : a ≠ b) : Four n m a b c d := ⟨h.ok a ha, h.ok b hb, g.ok c hc, g.ok d hd, h.nm a ha, h.nm b hb, g.nm c hc, g.nm d hd, ne⟩
theorem candB_in (F : Four n m a b c d) (h : mo ∈ candB a b c d) : MOk (3 * m + 5 * n + 6) mo ∧ ledBy mo a = c ∧ ledBy mo b = d := by
  unfold candB at h
  split at h
  · rename_i e
    simp only [List.mem_cons, List.not_mem_nil, or_false] at h
    rcases h with rfl | rfl
    · exact ⟨F.lead_ok e.2 (.inl rfl), F.led_a e.2 (.inl rfl), F.led_b e.2 (.inl rfl)⟩
    · exact ⟨F.lead_ok e.2 (.inr rfl), F.led_a e.2 (.inr rfl), F.led_b e.2 (.inr rfl)⟩
  · cases h
theorem candB_of (F : Four n m a b c d) (hm : MOk k' mo) (ha : ledBy mo a = c) (hb : ledBy mo b = d) : mo ∈ candB a b c d := by
  have e := F.only hm ha hb
  have g : gap a b = gap c d := by
    have := led_gap hm F.oa F.ob
    rw [ha, hb] at this
    exact this.symm
  have ne : c ≠ d := fun z => F.ne (led_inj hm F.oa F.ob F.na F.nb (by rw [ha, hb, z]))
  unfold candB
  rw [if_pos ⟨ne, g⟩]
  rcases hm.f with z | z
  · rw [z] at e; rw [e]; simp
  · rw [z] at e; rw [e]; simp
theorem candAB_in (h : Hp n l) (g : Hp m r) (ha : a ∈ l) (hb : b ∈ l) (ne : a ≠ b) (hm : mo ∈ candAB r a b) : MOk (3 * m + 5 * n + 6) mo ∧ ledBy mo a ∈ r ∧ ledBy mo b ∈ r := by
  unfold candAB at hm
  obtain ⟨c, hc, hm⟩ := List.mem_flatMap.mp hm
  obtain ⟨d, hd, hm⟩ := List.mem_flatMap.mp hm
  obtain ⟨h1, h2, h3⟩ := candB_in (h.four g ha hb hc hd ne) hm
  exact ⟨h1, by rw [h2]; exact hc, by rw [h3]; exact hd⟩
theorem candAB_of (h : Hp n l) (g : Hp m r) (ha : a ∈ l) (hb : b ∈ l) (ne : a ≠ b) (hm : IsMo mo) (la : ledBy mo a ∈ r) (lb : ledBy mo b ∈ r) : mo ∈ candAB r a b := by
  obtain ⟨k, hm⟩ := hm
  exact List.mem_flatMap.mpr ⟨_, la, List.mem_flatMap.mpr ⟨_, lb, candB_of (h.four g ha hb la lb ne) hm rfl rfl⟩⟩
theorem candAB_iff (h : Hp n l) (g : Hp m r) (ha : a ∈ l) (hb : b ∈ l) (ne : a ≠ b) : mo ∈ candAB r a b ↔ IsMo mo ∧ ledBy mo a ∈ r ∧ ledBy mo b ∈ r :=
  ⟨fun hm => ⟨⟨_, (candAB_in h g ha hb ne hm).1⟩, (candAB_in h g ha hb ne hm).2⟩, fun z => candAB_of h g ha hb ne z.1 z.2.1 z.2.2⟩
theorem Hp.two (h : Hp n l) : ∃ a b t, ordL l = a :: b :: t ∧ a ∈ l ∧ b ∈ l ∧ a ≠ b := by
  have e : 2 ≤ (ordL l).length := by rw [ordL_len]; exact h.ge
  have nd : (ordL l).Nodup := ordL_perm.nodup_iff.mpr h.nd
  match ho : ordL l, e, nd with
  | a :: b :: t, _, nd =>
    refine ⟨a, b, t, rfl, ordL_mem.mp (by rw [ho]; simp), ordL_mem.mp (by rw [ho]; simp), fun z => ?_⟩
    have := (List.nodup_cons.mp nd).1
    rw [z] at this
    exact this List.mem_cons_self
/-! ### how many points a motion lays over -/
def cnt (l r : List Pt) (mo : Mo) : Nat := (l.filter fun p => decide (ledBy mo p ∈ r)).length
/-! ### all motions that lay one wholly within the other -/
def laysB (l r : List Pt) (mo : Mo) : Bool := l.all fun p => decide (ledBy mo p ∈ r)
theorem laysB_iff : laysB l r mo = true ↔ ∀ p ∈ l, ledBy mo p ∈ r := by
  unfold laysB
  rw [List.all_eq_true]
  exact ⟨fun h p hp => of_decide_eq_true (h p hp), fun h p hp => decide_eq_true (h p hp)⟩
def placB (l r : List Pt) (a b : Pt) : List Mo := r.flatMap fun c => r.flatMap fun d => (candB a b c d).filter (laysB l r)
def plac (l r : List Pt) : List Mo := match ordL l with
  | a :: b :: _ => dd (placB l r a b)
  | _ => []
theorem placB_mem : mo ∈ placB l r a b ↔ mo ∈ candAB r a b ∧ laysB l r mo = true := by
  unfold placB candAB
  simp only [List.mem_flatMap, List.mem_filter]
  constructor
  · rintro ⟨c, hc, d, hd, h1, h2⟩
    exact ⟨⟨c, hc, d, hd, h1⟩, h2⟩
  · rintro ⟨⟨c, hc, d, hd, h1⟩, h2⟩
    exact ⟨c, hc, d, hd, h1, h2⟩
theorem plac_mem (h : Hp n l) (g : Hp m r) : mo ∈ plac l r ↔ IsMo mo ∧ ∀ p ∈ l, ledBy mo p ∈ r := by
  obtain ⟨a, b, t, eo, ha, hb, ne⟩ := h.two
  have e : plac l r = dd (placB l r a b) := by unfold plac; rw [eo]
  rw [e, dd_mem, placB_mem, candAB_iff h g ha hb ne, laysB_iff]
  exact ⟨fun z => ⟨z.1.1, z.2⟩, fun z => ⟨⟨z.1, z.2 a ha, z.2 b hb⟩, z.2⟩⟩
theorem all_placings_w (h : Hp n l) (hx : HL x l) (g : Hp m r) (hy : HL y r) (hn : n ≤ 60) (hm : m ≤ 60) (k : Φ (.lst ((srtK moK (plac l r)).map Mo.d))) : p_all_placings x y Φ Ψ := by
  have h1 := h.le
  have h2 := g.le
  obtain ⟨a, b, t, eo, ha, hb, ne⟩ := h.two
  refine ⟨?_⟩
  simp only [c1, ret, slE, noneO, someO]
  refine in_order_w hx h.ok (by omega) (by omega) ?_
  show un2 (.lst (cutD ((ordL l).map Pt.d) none (some ((2 : Nat) : Int)))) _
  rw [cut_take, eo]
  show un2 (.lst [a.d, b.d]) _
  rw [un2_l]
  refine goal_w hy g.nd (by omega) ?_
  simp only [itE, ret, hy.walk]
  have e0 : ([] : List (D × D)) = kvT Mo.d (dd []) := rfl
  rw [e0]
  have cl : ∀ c d, ((candB a b c d).filter (laysB l r)).length ≤ 2 := fun c d => Nat.le_trans (List.length_filter_le _ _) candB_len
  refine forL_acc (γ := Mo) Pt.d (fun ms => kvT Mo.d (dd ms)) (fun c => r.flatMap fun d => (candB a b c d).filter (laysB l r)) 28 100000 (fun c _ => Nat.le_trans (flat_len fun d _ => cl c d) (Nat.mul_le_mul_right 2 h2)) ?_ ?_ ?_
  · have := Nat.mul_le_mul_right 28 h2
    show 0 + _ ≤ _
    omega
  · intro c hc acc hacc nx br hnx
    refine forL_acc (γ := Mo) Pt.d (fun ms => kvT Mo.d (dd ms)) (fun d => (candB a b c d).filter (laysB l r)) 2 100000 (fun d _ => cl c d) ?_ ?_ hnx
    · have := Nat.mul_le_mul_right 2 h2
      omega
    · intro d hd acc hacc nx br hnx
      have F : Four n m a b c d := h.four g ha hb hc hd ne
      refine joinL_w (fun (s : List (D × D)) => s = kvT Mo.d (dd (acc ++ (candB a b c d).filter (laysB l r)))) (fun k34 hk => ?_) ?_
      · have test : ∀ Θ : Bool → Prop, Θ (decide (c ≠ d ∧ gap a b = gap c d)) → andT (cmpT neB (ret c.d) (ret d.d)) (cmpT eqB (c2 p_gap (ret a.d) (ret b.d)) (c2 p_gap (ret c.d) (ret d.d))) Θ Ψ := fun Θ hΘ => by
          walk_at "sx"
          by_cases hcd : c = d
          · rw [if_pos hcd]
            rw [decide_eq_false (fun z => z.1 hcd)] at hΘ
            exact hΘ
          · rw [if_neg hcd]
            refine gap_w F.oa F.ob (by omega) (gap_w F.oc F.od (by omega) ?_)
            rw [eqB_s]
            have e : decide (c ≠ d ∧ gap a b = gap c d) = decide (gap a b = gap c d) := by
              congr 1
              exact propext ⟨fun z => z.2, fun z => ⟨hcd, z⟩⟩
            rw [← e]; exact hΘ
        refine if_of _ test (fun ht => ?_) fun ht => ?_
        · have hcd := of_decide_eq_true ht
          have ec : candB a b c d = [lead 0 a b c d, lead 1 a b c d] := by unfold candB; rw [if_pos hcd]
          simp only [c4, ret]
          refine both_leading_w F (by omega) (by omega) ?_
          rw [walkD_t, both_d, ← ec]
          refine forL_acc (γ := Mo) Mo.d (fun ms => kvT Mo.d (dd ms)) (fun mo => if laysB l r mo = true then [mo] else []) 1 100000 (fun mo _ => by split <;> simp) (by rw [ec]; simp; omega) ?_ (by rw [flat_if]; exact hk _ rfl)
          intro mo hmo acc hacc nx br hnx
          have om : MOk (3 * m + 5 * n + 6) mo := (candB_in F hmo).1
          refine joinL_w (fun (s : List (D × D)) => s = kvT Mo.d (dd (acc ++ if laysB l r mo = true then [mo] else []))) (fun k44 hk => ?_) ?_
          · have hl : (kvT Mo.d (dd acc)).length ≤ 100000 := by
              rw [List.length_map]
              have := dd_le (l := acc)
              omega
            refine if_of (laysB l r mo) (fun Θ hΘ => ?_) (fun ht => ?_) fun ht => ?_
            · simp only [tv, una, lcE, itE, ret, hx.walk]
              refine ⟨by rw [List.length_map]; omega, lcL_mapT Pt.d (fun p => .bl (decide (ledBy mo p ∈ r))) (fun p hp K hK => led_by_w om.t om.s (h.ok p hp) (by omega) (inB_goal (Θ := fun b => K (some (.bl b))) hK)) ?_⟩
              rw [List.nil_append]
              exact all_mapT (t := fun p => decide (ledBy mo p ∈ r)) hΘ
            · refine ⟨⟨hl, rfl⟩, hk _ ?_⟩
              rw [dPut_T mod_inj, if_pos ht, dd_snoc]
            · exact hk _ (by rw [if_neg (by rw [ht]; simp), List.append_nil])
          · rintro _ rfl
            exact hnx
        · have ec : candB a b c d = [] := by unfold candB; rw [if_neg (of_decide_eq_false ht)]
          rw [ec] at hk
          exact hk _ (by simp)
      · rintro _ rfl
        exact hnx
  · rw [List.nil_append]
    have ep : dd (r.flatMap fun c => r.flatMap fun d => (candB a b c d).filter (laysB l r)) = plac l r := by unfold plac; rw [eo]; rfl
    rw [ep]
    have ek : (kvT Mo.d (plac l r)).map (·.1) = (plac l r).map Mo.d := kvT_fst
    show sortedD (.dct ((kvT Mo.d (plac l r)).map (·.1)) ((kvT Mo.d (plac l r)).map (·.2))) Φ
    rw [ek]
    have hlen : (plac l r).length ≤ 100000 := by
      rw [← ep]
      have := dd_le (l := r.flatMap fun c => r.flatMap fun d => (candB a b c d).filter (laysB l r))
      have h3 := flat_len (ps := r) (out := fun c => r.flatMap fun d => (candB a b c d).filter (laysB l r)) (c := 28) fun c _ => Nat.le_trans (flat_len fun d _ => cl c d) (Nat.mul_le_mul_right 2 h2)
      have := Nat.mul_le_mul_right 28 h2
      omega
    exact sortedT_w (κ := moK) hlen k
/-! ### one just over the other -/
def layL (l r : List Pt) : List Mo := if l.length = r.length then srtK moK (plac l r) else []
theorem layL_mem (h : Hp n l) (g : Hp m r) : mo ∈ layL l r ↔ l.length = r.length ∧ IsMo mo ∧ ∀ p ∈ l, ledBy mo p ∈ r := by
  unfold layL
  split
  · rename_i e
    rw [srtK_mem, plac_mem h g]
    exact ⟨fun z => ⟨e, z⟩, fun z => z.2⟩
  · rename_i e
    exact ⟨(fun z => nomatch z), fun z => absurd z.1 e⟩
theorem all_laying_w (h : Hp n l) (hx : HL x l) (g : Hp m r) (hy : HL y r) (hn : n ≤ 60) (hm : m ≤ 60) (k : Φ (.lst ((layL l r).map Mo.d))) : p_all_laying x y Φ Ψ := by
  refine ⟨?_⟩
  have test : ∀ Θ : Bool → Prop, Θ (!decide (l.length = r.length)) → cmpT neB (una lnD (ret x)) (una lnD (ret y)) Θ Ψ := fun Θ hΘ => by
    simp only [cmpT, una, ret, hx.len, hy.len, neB_i]
    have e : decide ((l.length : Int) = r.length) = decide (l.length = r.length) := by
      congr 1
      exact propext ⟨fun z => by omega, fun z => by omega⟩
    rw [e]; exact hΘ
  refine if_of _ test (fun ht => ?_) fun ht => ?_
  · have e : l.length ≠ r.length := by simpa using ht
    unfold layL at k
    rw [if_neg e] at k
    exact k
  · have e : l.length = r.length := by simpa using ht
    unfold layL at k
    rw [if_pos e] at k
    exact (all_placings_w h hx g hy hn hm k).go
theorem shp40_mos {l : List Mo} : D.shp 40 (.lst (l.map Mo.d)) = true := shpA_all fun d hd => by obtain ⟨p, _, rfl⟩ := List.mem_map.mp hd; exact shp_mo 37 p
theorem eqB_mos {l r : List Mo} {Θ : Bool → Prop} (h : Θ (decide (l = r))) : eqB (.lst (l.map Mo.d)) (.lst (r.map Mo.d)) Θ := ⟨⟨shp40_mos, shp40_mos⟩, by rw [deq_mos]; exact h⟩
end
end G
namespace G
open PySem PySem.Spec L2
local macro_rules | `(tactic| walk_at "sx") => `(tactic| try simp only [bin, una, lcE, cmpV, cmpT, tv, bv_b, notT, andT, orT, notV, andV, orV, ifE, nilA, consA, tupE, lstE, c1, c2, c3, c4, itE, seqD_l, seqD_t, walkD_l, walkD_t, walkD_c, ret, addD_i, subD_i, mulD_i, negD_i, fdivD_i, modD_i, absD_i, maxD_i, lnD_l, lnD_t, ltB_i, leB_i, gtB_i, geB_i, rng1, rng2, zipM, zip2_l, zip2_t, chnV, chnT, un2_t, un2_l, un3_t, un3_l, join, isDat_d,
  ixP0, ixP1, ixP2, ixS0, ixS1, ixM0, ixM1, ixM2, un3M, un3P, un2S, eqB_i, neB_i, eqB_p, neB_p, eqB_s, neB_s, eqB_m, neB_m, ite_dec, ite_ndec, ite_tt, ite_ff, ite_nt, ite_nf, isNB, notNB, isVB_b, isntVB_b, ixT30, ixT31, ixT32, ixT20, ixT21, if_true, if_false])
local macro_rules | `(tactic| walk_at "sy") => `(tactic| try simp only [bin, una, lcE, cmpV, cmpT, tv, bv_b, nilA, consA, tupE, lstE, c1, c2, c3, c4, itE, seqD_l, seqD_t, walkD_l, walkD_t, walkD_c, ret, addD_i, subD_i, mulD_i, negD_i, fdivD_i, modD_i, absD_i, maxD_i, lnD_l, lnD_t, ltB_i, leB_i, gtB_i, geB_i, rng1, rng2, zipM, zip2_l, zip2_t, un2_t, un2_l, un3_t, un3_l, isDat_d,
  ixP0, ixP1, ixP2, ixS0, ixS1, ixM0, ixM1, ixM2, un3M, un3P, un2S, eqB_i, neB_i, eqB_p, neB_p, eqB_s, neB_s, eqB_m, neB_m, ite_dec, ite_ndec, ite_tt, ite_ff, ite_nt, ite_nf, isNB, notNB, isVB_b, isntVB_b, ixT30, ixT31, ixT32, ixT20, ixT21, if_true, if_false])
local macro_rules | `(tactic| walk_at "bn") => `(tactic| first
  | assumption
  | (apply Bn.mul <;> walk_at "bn")
  | (apply Bn.add <;> walk_at "bn")
  | (apply Bn.sub <;> walk_at "bn")
  | (apply Bn.neg <;> walk_at "bn")
  | (apply Bn.abs <;> walk_at "bn")
  | exact (show Bn 64 _ by unfold Bn; decide))
local macro_rules | `(tactic| walk_at "cm") => `(tactic| (apply Bn.cm; (focus walk_at "bn"); (focus walk_at "bn"); omega))
local macro_rules | `(tactic| walk_at "nz") => `(tactic| first
  | assumption
  | omega
  | (apply mulnz <;> walk_at "nz"))
local macro_rules | `(tactic| walk_at "mok") => `(tactic| first
  | assumption
  | (apply joined_ok <;> walk_at "mok")
  | (apply backOf_ok <;> walk_at "mok")
  | exact still_ok)
local macro_rules | `(tactic| walk_at "ok") => `(tactic| first
  | assumption
  | (apply plus_ok <;> walk_at "ok")
  | (apply minus_ok <;> walk_at "ok")
  | (apply times_ok <;> walk_at "ok")
  | (apply flipped_ok <;> walk_at "ok")
  | (apply ledBy_ok <;> first | walk_at "ok" | walk_at "mok")
  | solve_by_elim)
local macro_rules | `(tactic| walk_at "norm") => `(tactic| first
  | assumption
  | (apply flipped_norm <;> walk_at "norm")
  | (apply plus_norm' <;> walk_at "ok")
  | (apply minus_norm' <;> walk_at "ok")
  | (apply times_norm' <;> walk_at "ok")
  | (apply ledBy_norm <;> first | walk_at "ok" | walk_at "mok")
  | solve_by_elim)
local macro_rules | `(tactic| walk_at "shp") => `(tactic| first
  | rfl
  | assumption
  | exact shp_pt _ _
  | exact shp_sh _ _
  | exact shp_mo _ _
  | exact shpA_pt1 _ _
  | exact shpA_pt2 _ _ _
  | exact shp_pts
  | exact (show D.shp 8 _ = true from rfl)
  | solve_by_elim)
local macro_rules | `(tactic| walk_at "pts") => `(tactic| first
  | (apply pts1 <;> walk_at "norm")
  | (apply pts2 <;> walk_at "norm"))
local macro_rules | `(tactic| walk_at "ismo") => `(tactic| (apply isMo_yes <;> walk_at "mok"))
local macro_rules | `(tactic| walk_at "one") => `(tactic| assumption)
local macro_rules | `(tactic| walk_at "db") => `(tactic| first
  | assumption
  | (apply MOk.db <;> walk_at "mok")
  | (apply Ok.db <;> walk_at "ok")
  | solve_by_elim)
local macro_rules | `(tactic| walk_at "nopq") => `(tactic| first | assumption | solve_by_elim | (intro n h; cases h))
local macro_rules | `(tactic| walk_at "sz") => `(tactic| first | omega | assumption | (simp; done) | (simp_all <;> omega))
local macro_rules | `(tactic| walk_at "sok") => `(tactic| first
  | assumption
  | (apply plusSh_ok <;> walk_at "sok")
  | (apply gap_ok <;> walk_at "ok")
  | (apply size_ok <;> walk_at "ok")
  | exact nought_ok (n := 1) (by decide))
local macro_rules | `(tactic| walk_at "oks") => `(tactic| first
  | assumption
  | solve_by_elim)
local macro_rules | `(tactic| walk_at "ne") => `(tactic| first
  | assumption
  | (simp; done))
local macro_rules | `(tactic| walk_at "prs") => `(tactic| (apply prs <;> assumption))
local macro_rules | `(tactic| walk_at "norms") => `(tactic| first | assumption | solve_by_elim)
local macro_rules | `(tactic| walk_at "soks") => `(tactic| first | assumption | solve_by_elim)
local macro_rules | `(tactic| walk_at "bn") => `(tactic| first
  | assumption
  | (apply Bn.mul <;> walk_at "bn")
  | (apply Bn.add <;> walk_at "bn")
  | (apply Bn.sub <;> walk_at "bn")
  | (apply Bn.neg <;> walk_at "bn")
  | (apply Bn.abs <;> walk_at "bn")
  | exact (show Bn 64 _ by unfold Bn; decide)
  | exact (show Bn 64 _ by unfold Bn; omega))
local macro_rules | `(tactic| walk_at "pok") => `(tactic| first | assumption | solve_by_elim)
local macro_rules | `(tactic| walk_at "cd") => `(tactic| (apply Bn.cd; (focus walk_at "bn"); (first | assumption | omega); omega))
local macro_rules | `(tactic| walk_at "sz") => `(tactic| try simp only [c1, c2, c3, c4, ret, tupE, nilA, consA, lstE, itE, walkD_l, walkD_t, walkD_c, un2_t, un2_l, un3_t, un3_l, un3M, un3P, un2S])
section
variable {Φ : D → Prop} {Ψ : Str → Prop} {n m i j k' : Nat} {p q a b c d : Pt} {x y : D} {l r t : List Pt} {mo lo mo' : Mo} {f : Int} {ms : List Mo}
/-! ### the table of motions, read -/
/-! ### the law's own table -/
/-! ### motions one behind another -/
theorem IsMo.join (h : IsMo mo) (g : IsMo lo) : IsMo (joined mo lo) := by
  obtain ⟨n, h⟩ := h
  obtain ⟨m, g⟩ := g
  exact ⟨_, joined_ok h g⟩
theorem IsMo.still : IsMo still := ⟨_, still_ok⟩
theorem IsMo.inj (h : IsMo mo) (hp : Ok n p) (hq : Ok m q) (np : Norm p) (nq : Norm q) (e : ledBy mo p = ledBy mo q) : p = q := by
  obtain ⟨n, h⟩ := h
  exact led_inj h hp hq np nq e
theorem IsMo.right (h : IsMo mo) (g : IsMo lo) : joined (joined mo lo) (backOf lo) = mo := by
  obtain ⟨n, h⟩ := h
  obtain ⟨m, g⟩ := g
  rw [join_assoc h g (backOf_ok g), join_back g, join_still h]
theorem IsMo.left (h : IsMo mo) (g : IsMo lo) : joined (backOf lo) (joined lo mo) = mo := by
  obtain ⟨n, h⟩ := h
  obtain ⟨m, g⟩ := g
  rw [← join_assoc (backOf_ok g) g h, back_join g, still_join h]
theorem lay_perm (h : Hp n l) (g : Hp m r) (e : l.length = r.length) (hm : IsMo mo) (hl : ∀ p ∈ l, ledBy mo p ∈ r) : (l.map (ledBy mo)).Perm r :=
  perm_sub (map_nodup h.nd fun a ha b hb => hm.inj (h.ok a ha) (h.ok b hb) (h.nm a ha) (h.nm b hb)) (fun p hp => by
    obtain ⟨q, hq, rfl⟩ := List.mem_map.mp hp
    exact hl q hq) (by rw [List.length_map]; omega)
theorem layL_iff (h : Hp n l) (g : Hp m r) : mo ∈ layL l r ↔ IsMo mo ∧ (l.map (ledBy mo)).Perm r := by
  rw [layL_mem h g]
  constructor
  · rintro ⟨e, hm, hl⟩
    exact ⟨hm, lay_perm h g e hm hl⟩
  · rintro ⟨hm, e⟩
    refine ⟨?_, hm, fun p hp => e.mem_iff.mp (List.mem_map.mpr ⟨p, hp, rfl⟩)⟩
    have := e.length_eq
    rw [List.length_map] at this
    exact this
end
end G
namespace G
open PySem PySem.Spec L2
local macro_rules | `(tactic| walk_at "sx") => `(tactic| try simp only [bin, una, lcE, cmpV, cmpT, tv, bv_b, notT, andT, orT, notV, andV, orV, ifE, nilA, consA, tupE, lstE, c1, c2, c3, c4, itE, seqD_l, seqD_t, walkD_l, walkD_t, walkD_c, ret, addD_i, subD_i, mulD_i, negD_i, fdivD_i, modD_i, absD_i, maxD_i, lnD_l, lnD_t, ltB_i, leB_i, gtB_i, geB_i, rng1, rng2, zipM, zip2_l, zip2_t, chnV, chnT, un2_t, un2_l, un3_t, un3_l, join, isDat_d,
  ixP0, ixP1, ixP2, ixS0, ixS1, ixM0, ixM1, ixM2, un3M, un3P, un2S, eqB_i, neB_i, eqB_p, neB_p, eqB_s, neB_s, eqB_m, neB_m, ite_dec, ite_ndec, ite_tt, ite_ff, ite_nt, ite_nf, isNB, notNB, isVB_b, isntVB_b, ixT30, ixT31, ixT32, ixT20, ixT21, if_true, if_false])
local macro_rules | `(tactic| walk_at "sy") => `(tactic| try simp only [bin, una, lcE, cmpV, cmpT, tv, bv_b, nilA, consA, tupE, lstE, c1, c2, c3, c4, itE, seqD_l, seqD_t, walkD_l, walkD_t, walkD_c, ret, addD_i, subD_i, mulD_i, negD_i, fdivD_i, modD_i, absD_i, maxD_i, lnD_l, lnD_t, ltB_i, leB_i, gtB_i, geB_i, rng1, rng2, zipM, zip2_l, zip2_t, un2_t, un2_l, un3_t, un3_l, isDat_d,
  ixP0, ixP1, ixP2, ixS0, ixS1, ixM0, ixM1, ixM2, un3M, un3P, un2S, eqB_i, neB_i, eqB_p, neB_p, eqB_s, neB_s, eqB_m, neB_m, ite_dec, ite_ndec, ite_tt, ite_ff, ite_nt, ite_nf, isNB, notNB, isVB_b, isntVB_b, ixT30, ixT31, ixT32, ixT20, ixT21, if_true, if_false])
local macro_rules | `(tactic| walk_at "bn") => `(tactic| first
  | assumption
  | (apply Bn.mul <;> walk_at "bn")
  | (apply Bn.add <;> walk_at "bn")
  | (apply Bn.sub <;> walk_at "bn")
  | (apply Bn.neg <;> walk_at "bn")
  | (apply Bn.abs <;> walk_at "bn")
  | exact (show Bn 64 _ by unfold Bn; decide))
local macro_rules | `(tactic| walk_at "cm") => `(tactic| (apply Bn.cm; (focus walk_at "bn"); (focus walk_at "bn"); omega))
local macro_rules | `(tactic| walk_at "nz") => `(tactic| first
  | assumption
  | omega
  | (apply mulnz <;> walk_at "nz"))
local macro_rules | `(tactic| walk_at "mok") => `(tactic| first
  | assumption
  | (apply joined_ok <;> walk_at "mok")
  | (apply backOf_ok <;> walk_at "mok")
  | exact still_ok)
local macro_rules | `(tactic| walk_at "ok") => `(tactic| first
  | assumption
  | (apply plus_ok <;> walk_at "ok")
  | (apply minus_ok <;> walk_at "ok")
  | (apply times_ok <;> walk_at "ok")
  | (apply flipped_ok <;> walk_at "ok")
  | (apply ledBy_ok <;> first | walk_at "ok" | walk_at "mok")
  | solve_by_elim)
local macro_rules | `(tactic| walk_at "norm") => `(tactic| first
  | assumption
  | (apply flipped_norm <;> walk_at "norm")
  | (apply plus_norm' <;> walk_at "ok")
  | (apply minus_norm' <;> walk_at "ok")
  | (apply times_norm' <;> walk_at "ok")
  | (apply ledBy_norm <;> first | walk_at "ok" | walk_at "mok")
  | solve_by_elim)
local macro_rules | `(tactic| walk_at "shp") => `(tactic| first
  | rfl
  | assumption
  | exact shp_pt _ _
  | exact shp_sh _ _
  | exact shp_mo _ _
  | exact shpA_pt1 _ _
  | exact shpA_pt2 _ _ _
  | exact shp_pts
  | exact (show D.shp 8 _ = true from rfl)
  | solve_by_elim)
local macro_rules | `(tactic| walk_at "pts") => `(tactic| first
  | (apply pts1 <;> walk_at "norm")
  | (apply pts2 <;> walk_at "norm"))
local macro_rules | `(tactic| walk_at "ismo") => `(tactic| (apply isMo_yes <;> walk_at "mok"))
local macro_rules | `(tactic| walk_at "one") => `(tactic| assumption)
local macro_rules | `(tactic| walk_at "db") => `(tactic| first
  | assumption
  | (apply MOk.db <;> walk_at "mok")
  | (apply Ok.db <;> walk_at "ok")
  | solve_by_elim)
local macro_rules | `(tactic| walk_at "nopq") => `(tactic| first | assumption | solve_by_elim | (intro n h; cases h))
local macro_rules | `(tactic| walk_at "sz") => `(tactic| first | omega | assumption | (simp; done) | (simp_all <;> omega))
local macro_rules | `(tactic| walk_at "sok") => `(tactic| first
  | assumption
  | (apply plusSh_ok <;> walk_at "sok")
  | (apply gap_ok <;> walk_at "ok")
  | (apply size_ok <;> walk_at "ok")
  | exact nought_ok (n := 1) (by decide))
local macro_rules | `(tactic| walk_at "oks") => `(tactic| first
  | assumption
  | solve_by_elim)
local macro_rules | `(tactic| walk_at "ne") => `(tactic| first
  | assumption
  | (simp; done))
local macro_rules | `(tactic| walk_at "prs") => `(tactic| (apply prs <;> assumption))
local macro_rules | `(tactic| walk_at "norms") => `(tactic| first | assumption | solve_by_elim)
local macro_rules | `(tactic| walk_at "soks") => `(tactic| first | assumption | solve_by_elim)
local macro_rules | `(tactic| walk_at "bn") => `(tactic| first
  | assumption
  | (apply Bn.mul <;> walk_at "bn")
  | (apply Bn.add <;> walk_at "bn")
  | (apply Bn.sub <;> walk_at "bn")
  | (apply Bn.neg <;> walk_at "bn")
  | (apply Bn.abs <;> walk_at "bn")
  | exact (show Bn 64 _ by unfold Bn; decide)
  | exact (show Bn 64 _ by unfold Bn; omega))
local macro_rules | `(tactic| walk_at "pok") => `(tactic| first | assumption | solve_by_elim)
local macro_rules | `(tactic| walk_at "cd") => `(tactic| (apply Bn.cd; (focus walk_at "bn"); (first | assumption | omega); omega))
local macro_rules | `(tactic| walk_at "sz") => `(tactic| try simp only [c1, c2, c3, c4, ret, tupE, nilA, consA, lstE, itE, walkD_l, walkD_t, walkD_c, un2_t, un2_l, un3_t, un3_l, un3M, un3P, un2S])
section
variable {Φ : D → Prop} {Ψ : Str → Prop} {n m i j k' : Nat} {p q a b c d : Pt} {x y : D} {l r t : List Pt} {mo lo mo' : Mo} {f : Int} {ms : List Mo}
end
end G
namespace G
open PySem PySem.Spec L2
section
variable {n m k : Nat} {p q r : Pt} {mo : Mo}
/-! ### middles, straight lines -/
def mid (p q : Pt) : Pt := low (p.x * q.w + q.x * p.w) (p.y * q.w + q.y * p.w) (2 * p.w * q.w)
/-- three on one line, in shares -/
def dt (p q r : Pt) : Rat := (p.im - q.im) * r.re + (q.re - p.re) * r.im + (p.re * q.im - q.re * p.im)
/-! ### the axis of a mirror, a glide -/
abbrev mm (mo : Mo) (p : Pt) : Pt := mid p (ledBy mo p)
/-! ### the center of a turn -/
end
end G
namespace G
open PySem PySem.Spec L2
local macro_rules | `(tactic| walk_at "sx") => `(tactic| try simp only [bin, una, lcE, cmpV, cmpT, tv, bv_b, notT, andT, orT, notV, andV, orV, ifE, nilA, consA, tupE, lstE, c1, c2, c3, c4, itE, seqD_l, seqD_t, walkD_l, walkD_t, walkD_c, ret, addD_i, subD_i, mulD_i, negD_i, fdivD_i, modD_i, absD_i, maxD_i, lnD_l, lnD_t, ltB_i, leB_i, gtB_i, geB_i, rng1, rng2, zipM, zip2_l, zip2_t, chnV, chnT, un2_t, un2_l, un3_t, un3_l, join, isDat_d,
  ixP0, ixP1, ixP2, ixS0, ixS1, ixM0, ixM1, ixM2, un3M, un3P, un2S, eqB_i, neB_i, eqB_p, neB_p, eqB_s, neB_s, eqB_m, neB_m, ite_dec, ite_ndec, ite_tt, ite_ff, ite_nt, ite_nf, isNB, notNB, isVB_b, isntVB_b, ixT30, ixT31, ixT32, ixT20, ixT21, if_true, if_false])
local macro_rules | `(tactic| walk_at "sy") => `(tactic| try simp only [bin, una, lcE, cmpV, cmpT, tv, bv_b, nilA, consA, tupE, lstE, c1, c2, c3, c4, itE, seqD_l, seqD_t, walkD_l, walkD_t, walkD_c, ret, addD_i, subD_i, mulD_i, negD_i, fdivD_i, modD_i, absD_i, maxD_i, lnD_l, lnD_t, ltB_i, leB_i, gtB_i, geB_i, rng1, rng2, zipM, zip2_l, zip2_t, un2_t, un2_l, un3_t, un3_l, isDat_d,
  ixP0, ixP1, ixP2, ixS0, ixS1, ixM0, ixM1, ixM2, un3M, un3P, un2S, eqB_i, neB_i, eqB_p, neB_p, eqB_s, neB_s, eqB_m, neB_m, ite_dec, ite_ndec, ite_tt, ite_ff, ite_nt, ite_nf, isNB, notNB, isVB_b, isntVB_b, ixT30, ixT31, ixT32, ixT20, ixT21, if_true, if_false])
local macro_rules | `(tactic| walk_at "bn") => `(tactic| first
  | assumption
  | (apply Bn.mul <;> walk_at "bn")
  | (apply Bn.add <;> walk_at "bn")
  | (apply Bn.sub <;> walk_at "bn")
  | (apply Bn.neg <;> walk_at "bn")
  | (apply Bn.abs <;> walk_at "bn")
  | exact (show Bn 64 _ by unfold Bn; decide))
local macro_rules | `(tactic| walk_at "cm") => `(tactic| (apply Bn.cm; (focus walk_at "bn"); (focus walk_at "bn"); omega))
local macro_rules | `(tactic| walk_at "nz") => `(tactic| first
  | assumption
  | omega
  | (apply mulnz <;> walk_at "nz"))
local macro_rules | `(tactic| walk_at "mok") => `(tactic| first
  | assumption
  | (apply joined_ok <;> walk_at "mok")
  | (apply backOf_ok <;> walk_at "mok")
  | exact still_ok)
local macro_rules | `(tactic| walk_at "ok") => `(tactic| first
  | assumption
  | (apply plus_ok <;> walk_at "ok")
  | (apply minus_ok <;> walk_at "ok")
  | (apply times_ok <;> walk_at "ok")
  | (apply flipped_ok <;> walk_at "ok")
  | (apply ledBy_ok <;> first | walk_at "ok" | walk_at "mok")
  | solve_by_elim)
local macro_rules | `(tactic| walk_at "norm") => `(tactic| first
  | assumption
  | (apply flipped_norm <;> walk_at "norm")
  | (apply plus_norm' <;> walk_at "ok")
  | (apply minus_norm' <;> walk_at "ok")
  | (apply times_norm' <;> walk_at "ok")
  | (apply ledBy_norm <;> first | walk_at "ok" | walk_at "mok")
  | solve_by_elim)
local macro_rules | `(tactic| walk_at "shp") => `(tactic| first
  | rfl
  | assumption
  | exact shp_pt _ _
  | exact shp_sh _ _
  | exact shp_mo _ _
  | exact shpA_pt1 _ _
  | exact shpA_pt2 _ _ _
  | exact shp_pts
  | exact (show D.shp 8 _ = true from rfl)
  | solve_by_elim)
local macro_rules | `(tactic| walk_at "pts") => `(tactic| first
  | (apply pts1 <;> walk_at "norm")
  | (apply pts2 <;> walk_at "norm"))
local macro_rules | `(tactic| walk_at "ismo") => `(tactic| (apply isMo_yes <;> walk_at "mok"))
local macro_rules | `(tactic| walk_at "one") => `(tactic| assumption)
local macro_rules | `(tactic| walk_at "db") => `(tactic| first
  | assumption
  | (apply MOk.db <;> walk_at "mok")
  | (apply Ok.db <;> walk_at "ok")
  | solve_by_elim)
local macro_rules | `(tactic| walk_at "nopq") => `(tactic| first | assumption | solve_by_elim | (intro n h; cases h))
local macro_rules | `(tactic| walk_at "sz") => `(tactic| first | omega | assumption | (simp; done) | (simp_all <;> omega))
local macro_rules | `(tactic| walk_at "sok") => `(tactic| first
  | assumption
  | (apply plusSh_ok <;> walk_at "sok")
  | (apply gap_ok <;> walk_at "ok")
  | (apply size_ok <;> walk_at "ok")
  | exact nought_ok (n := 1) (by decide))
local macro_rules | `(tactic| walk_at "oks") => `(tactic| first
  | assumption
  | solve_by_elim)
local macro_rules | `(tactic| walk_at "ne") => `(tactic| first
  | assumption
  | (simp; done))
local macro_rules | `(tactic| walk_at "prs") => `(tactic| (apply prs <;> assumption))
local macro_rules | `(tactic| walk_at "norms") => `(tactic| first | assumption | solve_by_elim)
local macro_rules | `(tactic| walk_at "soks") => `(tactic| first | assumption | solve_by_elim)
local macro_rules | `(tactic| walk_at "bn") => `(tactic| first
  | assumption
  | (apply Bn.mul <;> walk_at "bn")
  | (apply Bn.add <;> walk_at "bn")
  | (apply Bn.sub <;> walk_at "bn")
  | (apply Bn.neg <;> walk_at "bn")
  | (apply Bn.abs <;> walk_at "bn")
  | exact (show Bn 64 _ by unfold Bn; decide)
  | exact (show Bn 64 _ by unfold Bn; omega))
local macro_rules | `(tactic| walk_at "pok") => `(tactic| first | assumption | solve_by_elim)
local macro_rules | `(tactic| walk_at "cd") => `(tactic| (apply Bn.cd; (focus walk_at "bn"); (first | assumption | omega); omega))
local macro_rules | `(tactic| walk_at "sz") => `(tactic| try simp only [c1, c2, c3, c4, ret, tupE, nilA, consA, lstE, itE, walkD_l, walkD_t, walkD_c, un2_t, un2_l, un3_t, un3_l, un3M, un3P, un2S])
/-! ### kinds, centers, axes, orders (as in K02) -/
section
variable {Φ : D → Prop} {Ψ : Str → Prop} {Θ : Bool → Prop} {n m i j k' : Nat} {p q a b c d : Pt} {mo : Mo}
theorem deq_str (x y : Str) : deq (.str x) (.str y) = decide (x = y) := by
  show PyData.eqv (.str x) (.str y) = _
  unfold PyData.eqv
  by_cases h : x = y
  · subst h; simp
  · rw [decide_eq_false h]; simpa using h
theorem eqB_str {x y : Str} (hx : PyData.strOk x = true) (hy : PyData.strOk y = true) (k : Θ (decide (x = y))) : eqB (.str x) (.str y) Θ := ⟨⟨hx, hy⟩, by rw [deq_str]; exact k⟩
theorem neB_str {x y : Str} (hx : PyData.strOk x = true) (hy : PyData.strOk y = true) (k : Θ (!decide (x = y))) : neB (.str x) (.str y) Θ := ⟨⟨hx, hy⟩, by rw [deq_str]; exact k⟩
end
end G
namespace G
open PySem PySem.Spec L2
local macro_rules | `(tactic| walk_at "sx") => `(tactic| try simp only [bin, una, lcE, cmpV, cmpT, tv, bv_b, notT, andT, orT, notV, andV, orV, ifE, nilA, consA, tupE, lstE, c1, c2, c3, c4, itE, seqD_l, seqD_t, walkD_l, walkD_t, walkD_c, ret, addD_i, subD_i, mulD_i, negD_i, fdivD_i, modD_i, absD_i, maxD_i, lnD_l, lnD_t, ltB_i, leB_i, gtB_i, geB_i, rng1, rng2, zipM, zip2_l, zip2_t, chnV, chnT, un2_t, un2_l, un3_t, un3_l, join, isDat_d,
  ixP0, ixP1, ixP2, ixS0, ixS1, ixM0, ixM1, ixM2, un3M, un3P, un2S, eqB_i, neB_i, eqB_p, neB_p, eqB_s, neB_s, eqB_m, neB_m, ite_dec, ite_ndec, ite_tt, ite_ff, ite_nt, ite_nf, isNB, notNB, isVB_b, isntVB_b, ixT30, ixT31, ixT32, ixT20, ixT21, if_true, if_false])
local macro_rules | `(tactic| walk_at "sy") => `(tactic| try simp only [bin, una, lcE, cmpV, cmpT, tv, bv_b, nilA, consA, tupE, lstE, c1, c2, c3, c4, itE, seqD_l, seqD_t, walkD_l, walkD_t, walkD_c, ret, addD_i, subD_i, mulD_i, negD_i, fdivD_i, modD_i, absD_i, maxD_i, lnD_l, lnD_t, ltB_i, leB_i, gtB_i, geB_i, rng1, rng2, zipM, zip2_l, zip2_t, un2_t, un2_l, un3_t, un3_l, isDat_d,
  ixP0, ixP1, ixP2, ixS0, ixS1, ixM0, ixM1, ixM2, un3M, un3P, un2S, eqB_i, neB_i, eqB_p, neB_p, eqB_s, neB_s, eqB_m, neB_m, ite_dec, ite_ndec, ite_tt, ite_ff, ite_nt, ite_nf, isNB, notNB, isVB_b, isntVB_b, ixT30, ixT31, ixT32, ixT20, ixT21, if_true, if_false])
local macro_rules | `(tactic| walk_at "bn") => `(tactic| first
  | assumption
  | (apply Bn.mul <;> walk_at "bn")
  | (apply Bn.add <;> walk_at "bn")
  | (apply Bn.sub <;> walk_at "bn")
  | (apply Bn.neg <;> walk_at "bn")
  | (apply Bn.abs <;> walk_at "bn")
  | exact (show Bn 64 _ by unfold Bn; decide))
local macro_rules | `(tactic| walk_at "cm") => `(tactic| (apply Bn.cm; (focus walk_at "bn"); (focus walk_at "bn"); omega))
local macro_rules | `(tactic| walk_at "nz") => `(tactic| first
  | assumption
  | omega
  | (apply mulnz <;> walk_at "nz"))
local macro_rules | `(tactic| walk_at "mok") => `(tactic| first
  | assumption
  | (apply joined_ok <;> walk_at "mok")
  | (apply backOf_ok <;> walk_at "mok")
  | exact still_ok)
local macro_rules | `(tactic| walk_at "ok") => `(tactic| first
  | assumption
  | (apply plus_ok <;> walk_at "ok")
  | (apply minus_ok <;> walk_at "ok")
  | (apply times_ok <;> walk_at "ok")
  | (apply flipped_ok <;> walk_at "ok")
  | (apply ledBy_ok <;> first | walk_at "ok" | walk_at "mok")
  | solve_by_elim)
local macro_rules | `(tactic| walk_at "norm") => `(tactic| first
  | assumption
  | (apply flipped_norm <;> walk_at "norm")
  | (apply plus_norm' <;> walk_at "ok")
  | (apply minus_norm' <;> walk_at "ok")
  | (apply times_norm' <;> walk_at "ok")
  | (apply ledBy_norm <;> first | walk_at "ok" | walk_at "mok")
  | solve_by_elim)
local macro_rules | `(tactic| walk_at "shp") => `(tactic| first
  | rfl
  | assumption
  | exact shp_pt _ _
  | exact shp_sh _ _
  | exact shp_mo _ _
  | exact shpA_pt1 _ _
  | exact shpA_pt2 _ _ _
  | exact shp_pts
  | exact (show D.shp 8 _ = true from rfl)
  | solve_by_elim)
local macro_rules | `(tactic| walk_at "pts") => `(tactic| first
  | (apply pts1 <;> walk_at "norm")
  | (apply pts2 <;> walk_at "norm"))
local macro_rules | `(tactic| walk_at "ismo") => `(tactic| (apply isMo_yes <;> walk_at "mok"))
local macro_rules | `(tactic| walk_at "one") => `(tactic| assumption)
local macro_rules | `(tactic| walk_at "db") => `(tactic| first
  | assumption
  | (apply MOk.db <;> walk_at "mok")
  | (apply Ok.db <;> walk_at "ok")
  | solve_by_elim)
local macro_rules | `(tactic| walk_at "nopq") => `(tactic| first | assumption | solve_by_elim | (intro n h; cases h))
local macro_rules | `(tactic| walk_at "sz") => `(tactic| first | omega | assumption | (simp; done) | (simp_all <;> omega))
local macro_rules | `(tactic| walk_at "sok") => `(tactic| first
  | assumption
  | (apply plusSh_ok <;> walk_at "sok")
  | (apply gap_ok <;> walk_at "ok")
  | (apply size_ok <;> walk_at "ok")
  | exact nought_ok (n := 1) (by decide))
local macro_rules | `(tactic| walk_at "oks") => `(tactic| first
  | assumption
  | solve_by_elim)
local macro_rules | `(tactic| walk_at "ne") => `(tactic| first
  | assumption
  | (simp; done))
local macro_rules | `(tactic| walk_at "prs") => `(tactic| (apply prs <;> assumption))
local macro_rules | `(tactic| walk_at "norms") => `(tactic| first | assumption | solve_by_elim)
local macro_rules | `(tactic| walk_at "soks") => `(tactic| first | assumption | solve_by_elim)
local macro_rules | `(tactic| walk_at "bn") => `(tactic| first
  | assumption
  | (apply Bn.mul <;> walk_at "bn")
  | (apply Bn.add <;> walk_at "bn")
  | (apply Bn.sub <;> walk_at "bn")
  | (apply Bn.neg <;> walk_at "bn")
  | (apply Bn.abs <;> walk_at "bn")
  | exact (show Bn 64 _ by unfold Bn; decide)
  | exact (show Bn 64 _ by unfold Bn; omega))
local macro_rules | `(tactic| walk_at "pok") => `(tactic| first | assumption | solve_by_elim)
local macro_rules | `(tactic| walk_at "cd") => `(tactic| (apply Bn.cd; (focus walk_at "bn"); (first | assumption | omega); omega))
local macro_rules | `(tactic| walk_at "sz") => `(tactic| try simp only [c1, c2, c3, c4, ret, tupE, nilA, consA, lstE, itE, walkD_l, walkD_t, walkD_c, un2_t, un2_l, un3_t, un3_l, un3M, un3P, un2S])
section
variable {Φ : D → Prop} {Ψ : Str → Prop} {n m i j k' : Nat} {p q a b c d : Pt} {x y : D} {l r t : List Pt} {mo lo s : Mo} {f : Int}
theorem ixC0 {d : D} {ds : List D} {K : D → Prop} : ixD (.lst (d :: ds)) (.int 0) K = K d := by
  show (match atI (d :: ds) 0 with
    | some d => K d
    | none => False) = _
  rw [atI_in (by decide) (by simp)]
  rfl
/-! ### means -/
/-! ### motions that leave a point -/
/-! ### symmetries -/
/-! the walks -/
/-! the heart -/
end
end G
namespace G
open PySem PySem.Spec L2
local macro_rules | `(tactic| walk_at "sx") => `(tactic| try simp only [bin, una, lcE, cmpV, cmpT, tv, bv_b, notT, andT, orT, notV, andV, orV, ifE, nilA, consA, tupE, lstE, c1, c2, c3, c4, itE, seqD_l, seqD_t, walkD_l, walkD_t, walkD_c, ret, addD_i, subD_i, mulD_i, negD_i, fdivD_i, modD_i, absD_i, maxD_i, lnD_l, lnD_t, ltB_i, leB_i, gtB_i, geB_i, rng1, rng2, zipM, zip2_l, zip2_t, chnV, chnT, un2_t, un2_l, un3_t, un3_l, join, isDat_d,
  ixP0, ixP1, ixP2, ixS0, ixS1, ixM0, ixM1, ixM2, un3M, un3P, un2S, eqB_i, neB_i, eqB_p, neB_p, eqB_s, neB_s, eqB_m, neB_m, ite_dec, ite_ndec, ite_tt, ite_ff, ite_nt, ite_nf, isNB, notNB, isVB_b, isntVB_b, ixT30, ixT31, ixT32, ixT20, ixT21, if_true, if_false])
local macro_rules | `(tactic| walk_at "sy") => `(tactic| try simp only [bin, una, lcE, cmpV, cmpT, tv, bv_b, nilA, consA, tupE, lstE, c1, c2, c3, c4, itE, seqD_l, seqD_t, walkD_l, walkD_t, walkD_c, ret, addD_i, subD_i, mulD_i, negD_i, fdivD_i, modD_i, absD_i, maxD_i, lnD_l, lnD_t, ltB_i, leB_i, gtB_i, geB_i, rng1, rng2, zipM, zip2_l, zip2_t, un2_t, un2_l, un3_t, un3_l, isDat_d,
  ixP0, ixP1, ixP2, ixS0, ixS1, ixM0, ixM1, ixM2, un3M, un3P, un2S, eqB_i, neB_i, eqB_p, neB_p, eqB_s, neB_s, eqB_m, neB_m, ite_dec, ite_ndec, ite_tt, ite_ff, ite_nt, ite_nf, isNB, notNB, isVB_b, isntVB_b, ixT30, ixT31, ixT32, ixT20, ixT21, if_true, if_false])
local macro_rules | `(tactic| walk_at "bn") => `(tactic| first
  | assumption
  | (apply Bn.mul <;> walk_at "bn")
  | (apply Bn.add <;> walk_at "bn")
  | (apply Bn.sub <;> walk_at "bn")
  | (apply Bn.neg <;> walk_at "bn")
  | (apply Bn.abs <;> walk_at "bn")
  | exact (show Bn 64 _ by unfold Bn; decide))
local macro_rules | `(tactic| walk_at "cm") => `(tactic| (apply Bn.cm; (focus walk_at "bn"); (focus walk_at "bn"); omega))
local macro_rules | `(tactic| walk_at "nz") => `(tactic| first
  | assumption
  | omega
  | (apply mulnz <;> walk_at "nz"))
local macro_rules | `(tactic| walk_at "mok") => `(tactic| first
  | assumption
  | (apply joined_ok <;> walk_at "mok")
  | (apply backOf_ok <;> walk_at "mok")
  | exact still_ok)
local macro_rules | `(tactic| walk_at "ok") => `(tactic| first
  | assumption
  | (apply plus_ok <;> walk_at "ok")
  | (apply minus_ok <;> walk_at "ok")
  | (apply times_ok <;> walk_at "ok")
  | (apply flipped_ok <;> walk_at "ok")
  | (apply ledBy_ok <;> first | walk_at "ok" | walk_at "mok")
  | solve_by_elim)
local macro_rules | `(tactic| walk_at "norm") => `(tactic| first
  | assumption
  | (apply flipped_norm <;> walk_at "norm")
  | (apply plus_norm' <;> walk_at "ok")
  | (apply minus_norm' <;> walk_at "ok")
  | (apply times_norm' <;> walk_at "ok")
  | (apply ledBy_norm <;> first | walk_at "ok" | walk_at "mok")
  | solve_by_elim)
local macro_rules | `(tactic| walk_at "shp") => `(tactic| first
  | rfl
  | assumption
  | exact shp_pt _ _
  | exact shp_sh _ _
  | exact shp_mo _ _
  | exact shpA_pt1 _ _
  | exact shpA_pt2 _ _ _
  | exact shp_pts
  | exact (show D.shp 8 _ = true from rfl)
  | solve_by_elim)
local macro_rules | `(tactic| walk_at "pts") => `(tactic| first
  | (apply pts1 <;> walk_at "norm")
  | (apply pts2 <;> walk_at "norm"))
local macro_rules | `(tactic| walk_at "ismo") => `(tactic| (apply isMo_yes <;> walk_at "mok"))
local macro_rules | `(tactic| walk_at "one") => `(tactic| assumption)
local macro_rules | `(tactic| walk_at "db") => `(tactic| first
  | assumption
  | (apply MOk.db <;> walk_at "mok")
  | (apply Ok.db <;> walk_at "ok")
  | solve_by_elim)
local macro_rules | `(tactic| walk_at "nopq") => `(tactic| first | assumption | solve_by_elim | (intro n h; cases h))
local macro_rules | `(tactic| walk_at "sz") => `(tactic| first | omega | assumption | (simp; done) | (simp_all <;> omega))
local macro_rules | `(tactic| walk_at "sok") => `(tactic| first
  | assumption
  | (apply plusSh_ok <;> walk_at "sok")
  | (apply gap_ok <;> walk_at "ok")
  | (apply size_ok <;> walk_at "ok")
  | exact nought_ok (n := 1) (by decide))
local macro_rules | `(tactic| walk_at "oks") => `(tactic| first
  | assumption
  | solve_by_elim)
local macro_rules | `(tactic| walk_at "ne") => `(tactic| first
  | assumption
  | (simp; done))
local macro_rules | `(tactic| walk_at "prs") => `(tactic| (apply prs <;> assumption))
local macro_rules | `(tactic| walk_at "norms") => `(tactic| first | assumption | solve_by_elim)
local macro_rules | `(tactic| walk_at "soks") => `(tactic| first | assumption | solve_by_elim)
local macro_rules | `(tactic| walk_at "bn") => `(tactic| first
  | assumption
  | (apply Bn.mul <;> walk_at "bn")
  | (apply Bn.add <;> walk_at "bn")
  | (apply Bn.sub <;> walk_at "bn")
  | (apply Bn.neg <;> walk_at "bn")
  | (apply Bn.abs <;> walk_at "bn")
  | exact (show Bn 64 _ by unfold Bn; decide)
  | exact (show Bn 64 _ by unfold Bn; omega))
local macro_rules | `(tactic| walk_at "pok") => `(tactic| first | assumption | solve_by_elim)
local macro_rules | `(tactic| walk_at "cd") => `(tactic| (apply Bn.cd; (focus walk_at "bn"); (first | assumption | omega); omega))
local macro_rules | `(tactic| walk_at "sz") => `(tactic| try simp only [c1, c2, c3, c4, ret, tupE, nilA, consA, lstE, itE, walkD_l, walkD_t, walkD_c, un2_t, un2_l, un3_t, un3_l, un3M, un3P, un2S])
section
variable {Φ : D → Prop} {Ψ : Str → Prop} {n m i j k' : Nat} {p q a b c d : Pt} {x y : D} {l r t : List Pt} {mo lo s : Mo} {f : Int} {lots : List (List Pt)}
/-! ### orbits -/
abbrev tupL (o : List Pt) : D := .tup (o.map Pt.d)
theorem shp_tupL {n : Nat} {o : List Pt} : D.shp (n + 2) (tupL o) = true := by
  show D.shp (n + 1 + 1) (.tup _) = true
  rw [shp_tup]
  exact shp_ptsN
end
end G
namespace G
open PySem PySem.Spec L2
local macro_rules | `(tactic| walk_at "sx") => `(tactic| try simp only [bin, una, lcE, cmpV, cmpT, tv, bv_b, notT, andT, orT, notV, andV, orV, ifE, nilA, consA, tupE, lstE, c1, c2, c3, c4, itE, seqD_l, seqD_t, walkD_l, walkD_t, walkD_c, ret, addD_i, subD_i, mulD_i, negD_i, fdivD_i, modD_i, absD_i, maxD_i, lnD_l, lnD_t, ltB_i, leB_i, gtB_i, geB_i, rng1, rng2, zipM, zip2_l, zip2_t, chnV, chnT, un2_t, un2_l, un3_t, un3_l, join, isDat_d,
  ixP0, ixP1, ixP2, ixS0, ixS1, ixM0, ixM1, ixM2, un3M, un3P, un2S, eqB_i, neB_i, eqB_p, neB_p, eqB_s, neB_s, eqB_m, neB_m, ite_dec, ite_ndec, ite_tt, ite_ff, ite_nt, ite_nf, isNB, notNB, isVB_b, isntVB_b, ixT30, ixT31, ixT32, ixT20, ixT21, if_true, if_false])
local macro_rules | `(tactic| walk_at "sy") => `(tactic| try simp only [bin, una, lcE, cmpV, cmpT, tv, bv_b, nilA, consA, tupE, lstE, c1, c2, c3, c4, itE, seqD_l, seqD_t, walkD_l, walkD_t, walkD_c, ret, addD_i, subD_i, mulD_i, negD_i, fdivD_i, modD_i, absD_i, maxD_i, lnD_l, lnD_t, ltB_i, leB_i, gtB_i, geB_i, rng1, rng2, zipM, zip2_l, zip2_t, un2_t, un2_l, un3_t, un3_l, isDat_d,
  ixP0, ixP1, ixP2, ixS0, ixS1, ixM0, ixM1, ixM2, un3M, un3P, un2S, eqB_i, neB_i, eqB_p, neB_p, eqB_s, neB_s, eqB_m, neB_m, ite_dec, ite_ndec, ite_tt, ite_ff, ite_nt, ite_nf, isNB, notNB, isVB_b, isntVB_b, ixT30, ixT31, ixT32, ixT20, ixT21, if_true, if_false])
local macro_rules | `(tactic| walk_at "bn") => `(tactic| first
  | assumption
  | (apply Bn.mul <;> walk_at "bn")
  | (apply Bn.add <;> walk_at "bn")
  | (apply Bn.sub <;> walk_at "bn")
  | (apply Bn.neg <;> walk_at "bn")
  | (apply Bn.abs <;> walk_at "bn")
  | exact (show Bn 64 _ by unfold Bn; decide))
local macro_rules | `(tactic| walk_at "cm") => `(tactic| (apply Bn.cm; (focus walk_at "bn"); (focus walk_at "bn"); omega))
local macro_rules | `(tactic| walk_at "nz") => `(tactic| first
  | assumption
  | omega
  | (apply mulnz <;> walk_at "nz"))
local macro_rules | `(tactic| walk_at "mok") => `(tactic| first
  | assumption
  | (apply joined_ok <;> walk_at "mok")
  | (apply backOf_ok <;> walk_at "mok")
  | exact still_ok)
local macro_rules | `(tactic| walk_at "ok") => `(tactic| first
  | assumption
  | (apply plus_ok <;> walk_at "ok")
  | (apply minus_ok <;> walk_at "ok")
  | (apply times_ok <;> walk_at "ok")
  | (apply flipped_ok <;> walk_at "ok")
  | (apply ledBy_ok <;> first | walk_at "ok" | walk_at "mok")
  | solve_by_elim)
local macro_rules | `(tactic| walk_at "norm") => `(tactic| first
  | assumption
  | (apply flipped_norm <;> walk_at "norm")
  | (apply plus_norm' <;> walk_at "ok")
  | (apply minus_norm' <;> walk_at "ok")
  | (apply times_norm' <;> walk_at "ok")
  | (apply ledBy_norm <;> first | walk_at "ok" | walk_at "mok")
  | solve_by_elim)
local macro_rules | `(tactic| walk_at "shp") => `(tactic| first
  | rfl
  | assumption
  | exact shp_pt _ _
  | exact shp_sh _ _
  | exact shp_mo _ _
  | exact shpA_pt1 _ _
  | exact shpA_pt2 _ _ _
  | exact shp_pts
  | exact (show D.shp 8 _ = true from rfl)
  | solve_by_elim)
local macro_rules | `(tactic| walk_at "pts") => `(tactic| first
  | (apply pts1 <;> walk_at "norm")
  | (apply pts2 <;> walk_at "norm"))
local macro_rules | `(tactic| walk_at "ismo") => `(tactic| (apply isMo_yes <;> walk_at "mok"))
local macro_rules | `(tactic| walk_at "one") => `(tactic| assumption)
local macro_rules | `(tactic| walk_at "db") => `(tactic| first
  | assumption
  | (apply MOk.db <;> walk_at "mok")
  | (apply Ok.db <;> walk_at "ok")
  | solve_by_elim)
local macro_rules | `(tactic| walk_at "nopq") => `(tactic| first | assumption | solve_by_elim | (intro n h; cases h))
local macro_rules | `(tactic| walk_at "sz") => `(tactic| first | omega | assumption | (simp; done) | (simp_all <;> omega))
local macro_rules | `(tactic| walk_at "sok") => `(tactic| first
  | assumption
  | (apply plusSh_ok <;> walk_at "sok")
  | (apply gap_ok <;> walk_at "ok")
  | (apply size_ok <;> walk_at "ok")
  | exact nought_ok (n := 1) (by decide))
local macro_rules | `(tactic| walk_at "oks") => `(tactic| first
  | assumption
  | solve_by_elim)
local macro_rules | `(tactic| walk_at "ne") => `(tactic| first
  | assumption
  | (simp; done))
local macro_rules | `(tactic| walk_at "prs") => `(tactic| (apply prs <;> assumption))
local macro_rules | `(tactic| walk_at "norms") => `(tactic| first | assumption | solve_by_elim)
local macro_rules | `(tactic| walk_at "soks") => `(tactic| first | assumption | solve_by_elim)
local macro_rules | `(tactic| walk_at "bn") => `(tactic| first
  | assumption
  | (apply Bn.mul <;> walk_at "bn")
  | (apply Bn.add <;> walk_at "bn")
  | (apply Bn.sub <;> walk_at "bn")
  | (apply Bn.neg <;> walk_at "bn")
  | (apply Bn.abs <;> walk_at "bn")
  | exact (show Bn 64 _ by unfold Bn; decide)
  | exact (show Bn 64 _ by unfold Bn; omega))
local macro_rules | `(tactic| walk_at "pok") => `(tactic| first | assumption | solve_by_elim)
local macro_rules | `(tactic| walk_at "cd") => `(tactic| (apply Bn.cd; (focus walk_at "bn"); (first | assumption | omega); omega))
local macro_rules | `(tactic| walk_at "sz") => `(tactic| try simp only [c1, c2, c3, c4, ret, tupE, nilA, consA, lstE, itE, walkD_l, walkD_t, walkD_c, un2_t, un2_l, un3_t, un3_l, un3M, un3P, un2S])
section
variable {Φ : D → Prop} {Ψ : Str → Prop} {n m i j k' : Nat} {p q a b c d : Pt} {x y : D} {l r t : List Pt} {mo lo s : Mo} {f : Int} {lots : List (List Pt)}
/-! ### turns of a heap: quarter turns -/
/-! ### orbits: each as long as a part of all -/
/-! ### axes go through the mean -/
end
end G
namespace G
open PySem PySem.Spec L2
local macro_rules | `(tactic| walk_at "sx") => `(tactic| try simp only [bin, una, lcE, cmpV, cmpT, tv, bv_b, notT, andT, orT, notV, andV, orV, ifE, nilA, consA, tupE, lstE, c1, c2, c3, c4, itE, seqD_l, seqD_t, walkD_l, walkD_t, walkD_c, ret, addD_i, subD_i, mulD_i, negD_i, fdivD_i, modD_i, absD_i, maxD_i, lnD_l, lnD_t, ltB_i, leB_i, gtB_i, geB_i, rng1, rng2, zipM, zip2_l, zip2_t, chnV, chnT, un2_t, un2_l, un3_t, un3_l, join, isDat_d,
  ixP0, ixP1, ixP2, ixS0, ixS1, ixM0, ixM1, ixM2, un3M, un3P, un2S, eqB_i, neB_i, eqB_p, neB_p, eqB_s, neB_s, eqB_m, neB_m, ite_dec, ite_ndec, ite_tt, ite_ff, ite_nt, ite_nf, isNB, notNB, isVB_b, isntVB_b, ixT30, ixT31, ixT32, ixT20, ixT21, if_true, if_false])
local macro_rules | `(tactic| walk_at "sy") => `(tactic| try simp only [bin, una, lcE, cmpV, cmpT, tv, bv_b, nilA, consA, tupE, lstE, c1, c2, c3, c4, itE, seqD_l, seqD_t, walkD_l, walkD_t, walkD_c, ret, addD_i, subD_i, mulD_i, negD_i, fdivD_i, modD_i, absD_i, maxD_i, lnD_l, lnD_t, ltB_i, leB_i, gtB_i, geB_i, rng1, rng2, zipM, zip2_l, zip2_t, un2_t, un2_l, un3_t, un3_l, isDat_d,
  ixP0, ixP1, ixP2, ixS0, ixS1, ixM0, ixM1, ixM2, un3M, un3P, un2S, eqB_i, neB_i, eqB_p, neB_p, eqB_s, neB_s, eqB_m, neB_m, ite_dec, ite_ndec, ite_tt, ite_ff, ite_nt, ite_nf, isNB, notNB, isVB_b, isntVB_b, ixT30, ixT31, ixT32, ixT20, ixT21, if_true, if_false])
local macro_rules | `(tactic| walk_at "bn") => `(tactic| first
  | assumption
  | (apply Bn.mul <;> walk_at "bn")
  | (apply Bn.add <;> walk_at "bn")
  | (apply Bn.sub <;> walk_at "bn")
  | (apply Bn.neg <;> walk_at "bn")
  | (apply Bn.abs <;> walk_at "bn")
  | exact (show Bn 64 _ by unfold Bn; decide))
local macro_rules | `(tactic| walk_at "cm") => `(tactic| (apply Bn.cm; (focus walk_at "bn"); (focus walk_at "bn"); omega))
local macro_rules | `(tactic| walk_at "nz") => `(tactic| first
  | assumption
  | omega
  | (apply mulnz <;> walk_at "nz"))
local macro_rules | `(tactic| walk_at "mok") => `(tactic| first
  | assumption
  | (apply joined_ok <;> walk_at "mok")
  | (apply backOf_ok <;> walk_at "mok")
  | exact still_ok)
local macro_rules | `(tactic| walk_at "ok") => `(tactic| first
  | assumption
  | (apply plus_ok <;> walk_at "ok")
  | (apply minus_ok <;> walk_at "ok")
  | (apply times_ok <;> walk_at "ok")
  | (apply flipped_ok <;> walk_at "ok")
  | (apply ledBy_ok <;> first | walk_at "ok" | walk_at "mok")
  | solve_by_elim)
local macro_rules | `(tactic| walk_at "norm") => `(tactic| first
  | assumption
  | (apply flipped_norm <;> walk_at "norm")
  | (apply plus_norm' <;> walk_at "ok")
  | (apply minus_norm' <;> walk_at "ok")
  | (apply times_norm' <;> walk_at "ok")
  | (apply ledBy_norm <;> first | walk_at "ok" | walk_at "mok")
  | solve_by_elim)
local macro_rules | `(tactic| walk_at "shp") => `(tactic| first
  | rfl
  | assumption
  | exact shp_pt _ _
  | exact shp_sh _ _
  | exact shp_mo _ _
  | exact shpA_pt1 _ _
  | exact shpA_pt2 _ _ _
  | exact shp_pts
  | exact (show D.shp 8 _ = true from rfl)
  | solve_by_elim)
local macro_rules | `(tactic| walk_at "pts") => `(tactic| first
  | (apply pts1 <;> walk_at "norm")
  | (apply pts2 <;> walk_at "norm"))
local macro_rules | `(tactic| walk_at "ismo") => `(tactic| (apply isMo_yes <;> walk_at "mok"))
local macro_rules | `(tactic| walk_at "one") => `(tactic| assumption)
local macro_rules | `(tactic| walk_at "db") => `(tactic| first
  | assumption
  | (apply MOk.db <;> walk_at "mok")
  | (apply Ok.db <;> walk_at "ok")
  | solve_by_elim)
local macro_rules | `(tactic| walk_at "nopq") => `(tactic| first | assumption | solve_by_elim | (intro n h; cases h))
local macro_rules | `(tactic| walk_at "sz") => `(tactic| first | omega | assumption | (simp; done) | (simp_all <;> omega))
local macro_rules | `(tactic| walk_at "sok") => `(tactic| first
  | assumption
  | (apply plusSh_ok <;> walk_at "sok")
  | (apply gap_ok <;> walk_at "ok")
  | (apply size_ok <;> walk_at "ok")
  | exact nought_ok (n := 1) (by decide))
local macro_rules | `(tactic| walk_at "oks") => `(tactic| first
  | assumption
  | solve_by_elim)
local macro_rules | `(tactic| walk_at "ne") => `(tactic| first
  | assumption
  | (simp; done))
local macro_rules | `(tactic| walk_at "prs") => `(tactic| (apply prs <;> assumption))
local macro_rules | `(tactic| walk_at "norms") => `(tactic| first | assumption | solve_by_elim)
local macro_rules | `(tactic| walk_at "soks") => `(tactic| first | assumption | solve_by_elim)
local macro_rules | `(tactic| walk_at "bn") => `(tactic| first
  | assumption
  | (apply Bn.mul <;> walk_at "bn")
  | (apply Bn.add <;> walk_at "bn")
  | (apply Bn.sub <;> walk_at "bn")
  | (apply Bn.neg <;> walk_at "bn")
  | (apply Bn.abs <;> walk_at "bn")
  | exact (show Bn 64 _ by unfold Bn; decide)
  | exact (show Bn 64 _ by unfold Bn; omega))
local macro_rules | `(tactic| walk_at "pok") => `(tactic| first | assumption | solve_by_elim)
local macro_rules | `(tactic| walk_at "cd") => `(tactic| (apply Bn.cd; (focus walk_at "bn"); (first | assumption | omega); omega))
local macro_rules | `(tactic| walk_at "sz") => `(tactic| try simp only [c1, c2, c3, c4, ret, tupE, nilA, consA, lstE, itE, walkD_l, walkD_t, walkD_c, un2_t, un2_l, un3_t, un3_l, un3M, un3P, un2S])
/-! ### tables that count -/
section
variable {α : Type} [DecidableEq α]
def cT (l : List α) : List (α × Nat) := (dd l).map fun a => (a, l.count a)
theorem cT_keys {l : List α} : (cT l).map (·.1) = dd l := by
  unfold cT
  rw [List.map_map]
  exact List.map_id _
theorem put_cT {l : List α} {a : α} : put (cT l) a (l.count a + 1) = cT (l ++ [a]) := by
  unfold put
  rw [cT_keys]
  have ec : ∀ b, (l ++ [a]).count b = l.count b + if a = b then 1 else 0 := fun b => by
    rw [List.count_append, List.count_singleton]
    by_cases e : a = b
    · simp [e]
    · simp [e]
  by_cases h : a ∈ dd l
  · rw [if_pos h]
    unfold cT
    rw [dd_snoc]
    unfold ins
    rw [if_pos h, List.map_map]
    refine List.map_congr_left fun b _ => ?_
    show (if b = a then (b, l.count a + 1) else (b, l.count b)) = (b, (l ++ [a]).count b)
    rw [ec]
    by_cases e : b = a
    · subst e; simp
    · rw [if_neg e, if_neg (fun z => e z.symm)]; rfl
  · rw [if_neg h]
    unfold cT
    rw [dd_snoc]
    unfold ins
    rw [if_neg h, List.map_append]
    have hl : a ∉ l := fun z => h (dd_mem.mpr z)
    congr 1
    · refine List.map_congr_left fun b hb => ?_
      show (b, l.count b) = (b, (l ++ [a]).count b)
      rw [ec, if_neg (fun z => h (by rw [z]; exact hb))]; rfl
    · show [(a, l.count a + 1)] = [(a, (l ++ [a]).count a)]
      rw [ec, if_pos rfl]
theorem get_cT_aux {f : α → Nat} {a : α} : ∀ {ks : List α}, a ∈ ks → get (ks.map fun b => (b, f b)) a = some (f a)
  | b :: ks, h => by
    rw [List.map_cons, get_cons]
    by_cases e : b = a
    · rw [if_pos e, e]
    · rw [if_neg e]
      exact get_cT_aux (by rcases List.mem_cons.mp h with z | z; exact absurd z.symm e; exact z)
theorem get_cT {l : List α} {a : α} (h : a ∈ l) : get (cT l) a = some (l.count a) := get_cT_aux (dd_mem.mpr h)
theorem get_cT0 {l : List α} {a : α} : (get (cT l) a).getD 0 = l.count a := by
  by_cases h : a ∈ l
  · rw [get_cT h]; rfl
  · have : a ∉ (cT l).map (·.1) := by rw [cT_keys]; exact fun z => h (dd_mem.mp z)
    rw [get_none this, List.count_eq_zero.mpr h]; rfl
abbrev nI (i : Nat) : D := .int (i : Nat)
abbrev cD (enc : α → D) (l : List α) : List (D × D) := eK enc nI (cT l)
theorem cD_keys {enc : α → D} {l : List α} : (cD enc l).map (·.1) = (dd l).map enc := by rw [eK_fst, cT_keys]
theorem cD_get {enc : α → D} (hi : ∀ a b, enc a = enc b → a = b) {l : List α} {a : α} : (dGet ((cD enc l).map (·.1)) ((cD enc l).map (·.2)) (enc a)).getD (.int 0) = .int (l.count a : Nat) := by
  rw [eK_fst, eK_snd, dGet_e (en := nI) hi, ← get_cT0]
  cases get (cT l) a <;> rfl
theorem cD_put {enc : α → D} (hi : ∀ a b, enc a = enc b → a = b) {l : List α} {a : α} : dPut (cD enc l) (enc a) (.int ((l.count a : Nat) + 1)) = cD enc (l ++ [a]) := by
  have := dPut_e (en := nI) hi (kvs := cT l) (k := a) (v := l.count a + 1)
  rw [put_cT] at this
  exact this
theorem cD_len {enc : α → D} {l : List α} : (cD enc l).length ≤ l.length := by
  rw [List.length_map]
  unfold cT
  rw [List.length_map]
  exact dd_le
/-- one step: found[a] = found.get(a, 0) + 1 -/
theorem cD_step {enc : α → D} {Ψ : Str → Prop} (hi : ∀ a b, enc a = enc b → a = b) (hk : ∀ a, (enc a).key = true) {l : List α} {a : α} (hl : l.length ≤ 99999) {nx : List (D × D) → Prop} (h : nx (cD enc (l ++ [a]))) :
    (flatM (bin addD (getE2 (ret (dctD (cD enc l))) (ret (enc a)) (ret (.int 0))) (ret (.int 1)))) (fun v => (ret (enc a)) (fun y => (List.length (α := D × D) (cD enc l) ≤ 100000 ∧ D.key y = true) ∧ nx (dPut (cD enc l) y v)) Ψ) Ψ := by
  refine ⟨hk a, ?_⟩
  rw [cD_get hi]
  refine ⟨rfl, ⟨Nat.le_trans cD_len (by omega), hk a⟩, ?_⟩
  rw [cD_put hi]
  exact h
end
section
variable {Φ : D → Prop} {Ψ : Str → Prop} {n m i j k' : Nat} {p q a b c d : Pt} {x y : D} {l r t : List Pt} {mo lo s : Mo} {f : Int}
/-! ### the gaps of a heap -/
def gapL (l : List Pt) : List Sh := l.zipIdx.flatMap fun ai => (l.drop (ai.2 + 1)).map fun b => gap ai.1 b
theorem map_flat {α β : Type} (g : α → β) : ∀ l : List α, l.flatMap (fun a => [g a]) = l.map g
  | [] => rfl
  | a :: l => by rw [List.flatMap_cons, map_flat g l]; rfl
theorem enumD_pts : enumD (l.map Pt.d) = l.zipIdx.map fun ai => D.tup [.int (ai.2 : Nat), ai.1.d] := by
  unfold enumD
  rw [List.zipIdx_map, List.map_map]; rfl
theorem gaps_of_w (h : ∀ p ∈ l, Ok n p) (hl : l.length ≤ 14) (hn : n ≤ 1000) (k : Φ (dctD (cD Sh.d (gapL l)))) : p_gaps_of (.lst (l.map Pt.d)) Φ Ψ := by
  refine ⟨?_⟩
  simp only [enumE2, ret, itE, seqD_l]
  rw [enumD_pts]
  have e0 : ([] : List (D × D)) = cD Sh.d [] := rfl
  rw [e0]
  refine forL_acc (γ := Sh) (fun ai : Pt × Nat => D.tup [.int (ai.2 : Nat), ai.1.d]) (cD Sh.d) (fun ai => (l.drop (ai.2 + 1)).map fun b => gap ai.1 b) 14 10000 (fun ai _ => by rw [List.length_map, List.length_drop]; omega) ?_ ?_ ?_
  · rw [List.length_zipIdx]
    show 0 + _ ≤ _
    omega
  · rintro ⟨a, ia⟩ hai acc hacc nx br hnx
    have hga : l[ia]? = some a := by
      have := List.mem_zipIdx_iff_getElem?.mp hai
      simpa using this
    have oa := h a (List.mem_of_getElem? hga)
    show un2 (.tup [.int (ia : Int), a.d]) _
    have eb : bin addD (ret (.int (ia : Int))) (ret (.int 1)) = ret (.int ((ia + 1 : Nat) : Int)) := rfl
    simp only [un2_t, itE]
    rw [eb, sl_dropL, walkD_l, ← List.map_drop]
    have hnx : nx (cD Sh.d (acc ++ (l.drop (ia + 1)).flatMap fun b => [gap a b])) := by rw [map_flat]; exact hnx
    refine forL_acc (γ := Sh) Pt.d (cD Sh.d) (fun b => [gap a b]) 1 10000 (fun b _ => Nat.le_refl _) (by rw [List.length_drop]; omega) ?_ hnx
    intro b hb acc hacc nx br hnx
    have ob := h b (List.mem_of_mem_drop hb)
    exact gap_w oa ob (by omega) (cD_step shd_inj key_s (by omega) hnx)
  · rw [List.nil_append]
    exact k
theorem gapL_mem (s : Sh) : s ∈ gapL l ↔ ∃ i j, ∃ hi : i < l.length, ∃ hj : j < l.length, i < j ∧ gap l[i] l[j] = s := by
  unfold gapL
  simp only [List.mem_flatMap, List.mem_map]
  constructor
  · rintro ⟨⟨a, ia⟩, hai, b, hb, rfl⟩
    have hga : l[ia]? = some a := by
      have := List.mem_zipIdx_iff_getElem?.mp hai
      simpa using this
    obtain ⟨hi, e1⟩ := List.getElem?_eq_some_iff.mp hga
    obtain ⟨j, hj, e⟩ := List.getElem_of_mem hb
    rw [List.getElem_drop] at e
    rw [List.length_drop] at hj
    exact ⟨ia, ia + 1 + j, hi, by omega, by omega, by rw [e1, e]⟩
  · rintro ⟨i, j, hi, hj, hij, rfl⟩
    refine ⟨(l[i], i), List.mem_zipIdx_iff_getElem?.mpr (by simp [List.getElem?_eq_getElem hi]), l[j], ?_, rfl⟩
    refine List.mem_of_getElem? (i := j - (i + 1)) ?_
    rw [List.getElem?_drop]
    have : i + 1 + (j - (i + 1)) = j := by omega
    rw [this, List.getElem?_eq_getElem hj]
theorem gapL_pt (h : Hp n l) (s : Sh) : s ∈ gapL l ↔ ∃ a ∈ l, ∃ b ∈ l, a ≠ b ∧ gap a b = s := by
  rw [gapL_mem]
  constructor
  · rintro ⟨i, j, hi, hj, hij, e⟩
    exact ⟨_, List.getElem_mem hi, _, List.getElem_mem hj, List.pairwise_iff_getElem.mp h.nd i j hi hj hij, e⟩
  · rintro ⟨a, ha, b, hb, ne, rfl⟩
    obtain ⟨i, hi, rfl⟩ := List.getElem_of_mem ha
    obtain ⟨j, hj, rfl⟩ := List.getElem_of_mem hb
    rcases Nat.lt_trichotomy i j with z | z | z
    · exact ⟨i, j, hi, hj, z, rfl⟩
    · subst z; exact absurd rfl ne
    · exact ⟨j, i, hj, hi, z, gap_swap (h.ok _ (List.getElem_mem hj)) (h.ok _ (List.getElem_mem hi))⟩
theorem gapL_cons : gapL (p :: l) = l.map (gap p) ++ gapL l := by
  unfold gapL
  rw [List.zipIdx_cons, List.flatMap_cons]
  congr 1
  rw [List.zipIdx_eq_map_add (l := l) (i := 0 + 1) |>.trans rfl]
  rw [List.flatMap_map]
  congr 1
  funext ai
  obtain ⟨a, j⟩ := ai
  show (List.drop (0 + 1 + j + 1) (p :: l)).map (fun b => gap a b) = (List.drop (j + 1) l).map fun b => gap a b
  have : 0 + 1 + j + 1 = (j + 1) + 1 := by omega
  rw [this, List.drop_succ_cons]
theorem gapL_perm (hl : ∀ p ∈ l, Ok n p) (e : l.Perm r) : (gapL l).Perm (gapL r) := by
  induction e with
  | nil => exact List.Perm.refl _
  | cons x _ ih =>
    rw [gapL_cons, gapL_cons]
    rename_i h
    exact (h.map _).append (ih fun p hp => hl p (List.mem_cons_of_mem _ hp))
  | swap x y l =>
    rw [gapL_cons, gapL_cons, gapL_cons, gapL_cons]
    have ox := hl x (by simp)
    have oy := hl y (by simp)
    simp only [List.map_cons, List.cons_append]
    rw [gap_swap oy ox]
    refine List.Perm.cons _ ?_
    rw [← List.append_assoc, ← List.append_assoc]
    exact List.perm_append_comm.append_right _
  | trans h1 _ ih1 ih2 => exact (ih1 hl).trans (ih2 fun p hp => hl p (h1.mem_iff.mpr hp))
theorem gapL_led (hm : MOk k' mo) (hl : ∀ p ∈ l, Ok n p) : gapL (l.map (ledBy mo)) = gapL l := by
  induction l with
  | nil => rfl
  | cons p l ih =>
    rw [List.map_cons, gapL_cons, gapL_cons, ih fun q hq => hl q (List.mem_cons_of_mem _ hq), List.map_map]
    congr 1
    refine List.map_congr_left fun q hq => ?_
    exact led_gap hm (hl p List.mem_cons_self) (hl q (List.mem_cons_of_mem _ hq))
end
end G
namespace G
open PySem PySem.Spec L2
local macro_rules | `(tactic| walk_at "sx") => `(tactic| try simp only [bin, una, lcE, cmpV, cmpT, tv, bv_b, notT, andT, orT, notV, andV, orV, ifE, nilA, consA, tupE, lstE, c1, c2, c3, c4, itE, seqD_l, seqD_t, walkD_l, walkD_t, walkD_c, ret, addD_i, subD_i, mulD_i, negD_i, fdivD_i, modD_i, absD_i, maxD_i, lnD_l, lnD_t, ltB_i, leB_i, gtB_i, geB_i, rng1, rng2, zipM, zip2_l, zip2_t, chnV, chnT, un2_t, un2_l, un3_t, un3_l, join, isDat_d,
  ixP0, ixP1, ixP2, ixS0, ixS1, ixM0, ixM1, ixM2, un3M, un3P, un2S, eqB_i, neB_i, eqB_p, neB_p, eqB_s, neB_s, eqB_m, neB_m, ite_dec, ite_ndec, ite_tt, ite_ff, ite_nt, ite_nf, isNB, notNB, isVB_b, isntVB_b, ixT30, ixT31, ixT32, ixT20, ixT21, if_true, if_false])
local macro_rules | `(tactic| walk_at "sy") => `(tactic| try simp only [bin, una, lcE, cmpV, cmpT, tv, bv_b, nilA, consA, tupE, lstE, c1, c2, c3, c4, itE, seqD_l, seqD_t, walkD_l, walkD_t, walkD_c, ret, addD_i, subD_i, mulD_i, negD_i, fdivD_i, modD_i, absD_i, maxD_i, lnD_l, lnD_t, ltB_i, leB_i, gtB_i, geB_i, rng1, rng2, zipM, zip2_l, zip2_t, un2_t, un2_l, un3_t, un3_l, isDat_d,
  ixP0, ixP1, ixP2, ixS0, ixS1, ixM0, ixM1, ixM2, un3M, un3P, un2S, eqB_i, neB_i, eqB_p, neB_p, eqB_s, neB_s, eqB_m, neB_m, ite_dec, ite_ndec, ite_tt, ite_ff, ite_nt, ite_nf, isNB, notNB, isVB_b, isntVB_b, ixT30, ixT31, ixT32, ixT20, ixT21, if_true, if_false])
local macro_rules | `(tactic| walk_at "bn") => `(tactic| first
  | assumption
  | (apply Bn.mul <;> walk_at "bn")
  | (apply Bn.add <;> walk_at "bn")
  | (apply Bn.sub <;> walk_at "bn")
  | (apply Bn.neg <;> walk_at "bn")
  | (apply Bn.abs <;> walk_at "bn")
  | exact (show Bn 64 _ by unfold Bn; decide))
local macro_rules | `(tactic| walk_at "cm") => `(tactic| (apply Bn.cm; (focus walk_at "bn"); (focus walk_at "bn"); omega))
local macro_rules | `(tactic| walk_at "nz") => `(tactic| first
  | assumption
  | omega
  | (apply mulnz <;> walk_at "nz"))
local macro_rules | `(tactic| walk_at "mok") => `(tactic| first
  | assumption
  | (apply joined_ok <;> walk_at "mok")
  | (apply backOf_ok <;> walk_at "mok")
  | exact still_ok)
local macro_rules | `(tactic| walk_at "ok") => `(tactic| first
  | assumption
  | (apply plus_ok <;> walk_at "ok")
  | (apply minus_ok <;> walk_at "ok")
  | (apply times_ok <;> walk_at "ok")
  | (apply flipped_ok <;> walk_at "ok")
  | (apply ledBy_ok <;> first | walk_at "ok" | walk_at "mok")
  | solve_by_elim)
local macro_rules | `(tactic| walk_at "norm") => `(tactic| first
  | assumption
  | (apply flipped_norm <;> walk_at "norm")
  | (apply plus_norm' <;> walk_at "ok")
  | (apply minus_norm' <;> walk_at "ok")
  | (apply times_norm' <;> walk_at "ok")
  | (apply ledBy_norm <;> first | walk_at "ok" | walk_at "mok")
  | solve_by_elim)
local macro_rules | `(tactic| walk_at "shp") => `(tactic| first
  | rfl
  | assumption
  | exact shp_pt _ _
  | exact shp_sh _ _
  | exact shp_mo _ _
  | exact shpA_pt1 _ _
  | exact shpA_pt2 _ _ _
  | exact shp_pts
  | exact (show D.shp 8 _ = true from rfl)
  | solve_by_elim)
local macro_rules | `(tactic| walk_at "pts") => `(tactic| first
  | (apply pts1 <;> walk_at "norm")
  | (apply pts2 <;> walk_at "norm"))
local macro_rules | `(tactic| walk_at "ismo") => `(tactic| (apply isMo_yes <;> walk_at "mok"))
local macro_rules | `(tactic| walk_at "one") => `(tactic| assumption)
local macro_rules | `(tactic| walk_at "db") => `(tactic| first
  | assumption
  | (apply MOk.db <;> walk_at "mok")
  | (apply Ok.db <;> walk_at "ok")
  | solve_by_elim)
local macro_rules | `(tactic| walk_at "nopq") => `(tactic| first | assumption | solve_by_elim | (intro n h; cases h))
local macro_rules | `(tactic| walk_at "sz") => `(tactic| first | omega | assumption | (simp; done) | (simp_all <;> omega))
local macro_rules | `(tactic| walk_at "sok") => `(tactic| first
  | assumption
  | (apply plusSh_ok <;> walk_at "sok")
  | (apply gap_ok <;> walk_at "ok")
  | (apply size_ok <;> walk_at "ok")
  | exact nought_ok (n := 1) (by decide))
local macro_rules | `(tactic| walk_at "oks") => `(tactic| first
  | assumption
  | solve_by_elim)
local macro_rules | `(tactic| walk_at "ne") => `(tactic| first
  | assumption
  | (simp; done))
local macro_rules | `(tactic| walk_at "prs") => `(tactic| (apply prs <;> assumption))
local macro_rules | `(tactic| walk_at "norms") => `(tactic| first | assumption | solve_by_elim)
local macro_rules | `(tactic| walk_at "soks") => `(tactic| first | assumption | solve_by_elim)
local macro_rules | `(tactic| walk_at "bn") => `(tactic| first
  | assumption
  | (apply Bn.mul <;> walk_at "bn")
  | (apply Bn.add <;> walk_at "bn")
  | (apply Bn.sub <;> walk_at "bn")
  | (apply Bn.neg <;> walk_at "bn")
  | (apply Bn.abs <;> walk_at "bn")
  | exact (show Bn 64 _ by unfold Bn; decide)
  | exact (show Bn 64 _ by unfold Bn; omega))
local macro_rules | `(tactic| walk_at "pok") => `(tactic| first | assumption | solve_by_elim)
local macro_rules | `(tactic| walk_at "cd") => `(tactic| (apply Bn.cd; (focus walk_at "bn"); (first | assumption | omega); omega))
local macro_rules | `(tactic| walk_at "sz") => `(tactic| try simp only [c1, c2, c3, c4, ret, tupE, nilA, consA, lstE, itE, walkD_l, walkD_t, walkD_c, un2_t, un2_l, un3_t, un3_l, un3M, un3P, un2S])
section
variable {Φ : D → Prop} {Ψ : Str → Prop} {n m i j k' : Nat} {p q a b c d : Pt} {x y : D} {l r t : List Pt} {mo lo s : Mo} {f : Int}
/-! ### the greatest gap -/
def wst (s : Option Sh) (q : Sh) : Option Sh := match s with
  | none => some q
  | some b => if lessB b q = true then some q else some b
def widO (l : List Sh) : Option Sh := l.foldl wst none
def widS (l : List Pt) : Sh := (widO (dd (gapL l))).getD ⟨0, 1⟩
def oSh : Option Sh → D
  | none => .non
  | some s => s.d
theorem wfold : ∀ {l : List Sh} {s : Option Sh}, (∀ a ∈ l, 0 < a.b) → (∀ a, s = some a → 0 < a.b) → (l ≠ [] ∨ s ≠ none) → ∃ b, l.foldl wst s = some b ∧ (b ∈ l ∨ s = some b) ∧ (∀ a ∈ l, a.val ≤ b.val) ∧ ∀ a, s = some a → a.val ≤ b.val
  | [], some a, _, _, _ => ⟨a, rfl, .inr rfl, (fun _ h => nomatch h), fun c e => by cases e; exact Rat.le_refl⟩
  | [], none, _, _, h => by simp at h
  | q :: l, s, hl, hs, _ => by
    have hq := hl q List.mem_cons_self
    have key : ∃ c, wst s q = some c ∧ 0 < c.b ∧ (c = q ∨ s = some c) ∧ q.val ≤ c.val ∧ ∀ a, s = some a → a.val ≤ c.val := by
      cases s with
      | none => exact ⟨q, rfl, hq, .inl rfl, Rat.le_refl, fun _ e => nomatch e⟩
      | some b =>
        have hb := hs b rfl
        show ∃ c, (if lessB b q = true then some q else some b) = some c ∧ _
        cases e : lessB b q with
        | true =>
          have := (lessB_iff hb hq).mp e
          exact ⟨q, rfl, hq, .inl rfl, Rat.le_refl, fun a z => by cases z; exact Rat.le_of_lt this⟩
        | false =>
          refine ⟨b, rfl, hb, .inr rfl, ?_, fun a z => by cases z; exact Rat.le_refl⟩
          refine Rat.not_lt.mp fun z => ?_
          rw [(lessB_iff hb hq).mpr z] at e; cases e
    obtain ⟨c, e, hc, h1, h2, h3⟩ := key
    obtain ⟨b, e2, g1, g2, g3⟩ := wfold (l := l) (s := some c) (fun a ha => hl a (List.mem_cons_of_mem _ ha)) (fun a z => by cases z; exact hc) (.inr (by simp))
    have gc := g3 c rfl
    refine ⟨b, by rw [List.foldl_cons, e, e2], ?_, fun a ha => ?_, fun a z => Rat.le_trans (h3 a z) gc⟩
    · rcases g1 with g1 | g1
      · exact .inl (List.mem_cons_of_mem _ g1)
      · injection g1 with g1
        subst g1
        rcases h1 with h1 | h1
        · exact .inl (by rw [h1]; exact List.mem_cons_self)
        · exact .inr h1
    · rcases List.mem_cons.mp ha with rfl | ha
      · exact Rat.le_trans h2 gc
      · exact g2 a ha
theorem Hp.gap_ne (h : Hp n l) : gapL l ≠ [] := by
  obtain ⟨a, b, t, _, ha, hb, ne⟩ := h.two
  have := (gapL_pt h (gap a b)).mpr ⟨a, ha, b, hb, ne, rfl⟩
  exact fun z => by rw [z] at this; cases this
theorem Hp.gap_sok (h : Hp n l) {s : Sh} (hs : s ∈ gapL l) : SOk (4 * n + 3) s := by
  obtain ⟨a, ha, b, hb, _, rfl⟩ := (gapL_pt h s).mp hs
  exact (gap_ok (h.ok a ha) (h.ok b hb)).mono (by omega)
theorem Hp.gap_nrm (h : Hp n l) {s : Sh} (hs : s ∈ gapL l) : s.Norm := by
  obtain ⟨a, ha, b, hb, _, rfl⟩ := (gapL_pt h s).mp hs
  exact gap_norm (h.ok a ha) (h.ok b hb)
theorem wid_spec (h : Hp n l) : widO (dd (gapL l)) = some (widS l) ∧ widS l ∈ gapL l ∧ ∀ s ∈ gapL l, s.val ≤ (widS l).val := by
  have ne : dd (gapL l) ≠ [] := fun z => by
    obtain ⟨a, ha⟩ := List.exists_mem_of_ne_nil _ h.gap_ne
    have := dd_mem.mpr ha
    rw [z] at this; cases this
  obtain ⟨b, e, h1, h2, _⟩ := wfold (l := dd (gapL l)) (s := none) (fun a ha => (h.gap_sok (dd_mem.mp ha)).pos) (fun _ z => nomatch z) (.inl ne)
  have ew : widS l = b := by unfold widS widO; rw [e]; rfl
  rw [ew]
  refine ⟨e, ?_, fun s hs => h2 s (dd_mem.mpr hs)⟩
  rcases h1 with h1 | h1
  · exact dd_mem.mp h1
  · cases h1
theorem wid_same (h : Hp n l) (g : Hp m r) (e : ∀ s, s ∈ gapL l ↔ s ∈ gapL r) : widS l = widS r := by
  obtain ⟨_, a1, a2⟩ := wid_spec h
  obtain ⟨_, b1, b2⟩ := wid_spec g
  exact sh_inj (h.gap_nrm a1) (g.gap_nrm b1) (Rat.le_antisymm (b2 _ ((e _).mp a1)) (a2 _ ((e _).mpr b1)))
theorem wid_lay (h : Hp n l) (g : Hp m r) (hm : MOk k' mo) (pe : (l.map (ledBy mo)).Perm r) : widS l = widS r := by
  refine wid_same h g fun s => ?_
  rw [← gapL_led hm h.ok]
  exact (gapL_perm (h.moved hm).ok pe).mem_iff
theorem widest_of_w (h : Hp n l) (hn : n ≤ 1000) (k : Φ (widS l).d) : p_widest_of (.lst (l.map Pt.d)) Φ Ψ := by
  refine ⟨?_⟩
  simp only [itE, c1, ret]
  refine gaps_of_w h.ok h.le hn ?_
  rw [walkD_c, cD_keys]
  have e1 : D.non = oSh none := rfl
  rw [e1]
  refine forL_fold Sh.d oSh wst (fun s => ∀ a, s = some a → SOk (4 * n + 3) a) (fun a z => nomatch z) (fun s hs q hq a e => ?_) (fun q hq s hs nx hnx => ?_) ?_
  · have oq := h.gap_sok (dd_mem.mp hq)
    cases s with
    | none => cases e; exact oq
    | some b =>
      have e : (if lessB b q = true then some q else some b) = some a := e
      split at e
      · cases e; exact oq
      · cases e; exact hs _ rfl
  · have oq := h.gap_sok (dd_mem.mp hq)
    refine joinD_w (fun d => d = oSh (wst s q)) (fun k hk => ?_) ?_
    · refine if_of (match s with | none => true | some b => lessB b q) (fun Θ hΘ => ?_) (fun ht => ?_) fun ht => ?_
      · simp only [orT, cmpT, ret, isNB]
        cases s with
        | none => rw [if_pos (show (oSh none).isN = true from rfl)]; exact hΘ
        | some b =>
          rw [if_neg (show ¬ (oSh (some b)).isN = true from Bool.noConfusion)]
          have ob := hs b rfl
          have b1 := ob.t; have b2 := ob.b; have b3 := oq.t; have b4 := oq.b
          show bin mulD (bin ixD (ret q.d) (ret (.int 0))) (bin ixD (ret b.d) (ret (.int 1))) _ _
          walk_at "sx"
          refine ⟨by walk_at "cm", by walk_at "cm", ?_⟩
          exact hΘ
      · refine hk _ ?_
        cases s with
        | none => rfl
        | some b =>
          have e : wst (some b) q = if lessB b q = true then some q else some b := rfl
          rw [e, if_pos ht]; rfl
      · refine hk _ ?_
        cases s with
        | none => cases ht
        | some b =>
          have e : wst (some b) q = if lessB b q = true then some q else some b := rfl
          have ht : lessB b q = false := ht
          rw [e, if_neg (by rw [ht]; decide)]
    · rintro _ rfl
      exact hnx
  · have e := (wid_spec h).1
    unfold widO at e
    rw [e]
    exact k
/-! ### rows: which comes first -/
def firstB : List Pt → List Pt → Bool
  | p :: ps, q :: qs => if p = q then firstB ps qs else aheadB p q
  | _, _ => false
theorem firstB_irr : ∀ a : List Pt, firstB a a = false
  | [] => rfl
  | p :: ps => by unfold firstB; rw [if_pos rfl]; exact firstB_irr ps
theorem ahead_irr' (hp : Norm p) : aheadB p p = false := ahead_irr hp.1
theorem ahead_trans (ha : 0 < a.w) (hb : 0 < b.w) (hc : 0 < c.w) (h1 : aheadB a b = true) (h2 : aheadB b c = true) : aheadB a c = true := lt_le_trans ha hb hc h1 (lt_le hb hc h2)
abbrev Nrms (l : List Pt) : Prop := ∀ p ∈ l, Norm p
theorem firstB_trans : ∀ {a b c : List Pt}, Nrms a → Nrms b → Nrms c → firstB a b = true → firstB b c = true → firstB a c = true
  | [], _, _, _, _, _, h, _ => by unfold firstB at h; cases h
  | _ :: _, [], _, _, _, _, h, _ => by unfold firstB at h; cases h
  | _ :: _, _ :: _, [], _, _, _, _, h => by unfold firstB at h; cases h
  | p :: ps, q :: qs, t :: ts, ha, hb, hc, h1, h2 => by
    have np := ha p List.mem_cons_self; have nq := hb q List.mem_cons_self; have nt := hc t List.mem_cons_self
    unfold firstB at h1 h2 ⊢
    by_cases e1 : p = q
    · rw [if_pos e1] at h1
      by_cases e2 : q = t
      · rw [if_pos e2] at h2
        rw [if_pos (e1.trans e2)]
        exact firstB_trans (fun z hz => ha z (List.mem_cons_of_mem _ hz)) (fun z hz => hb z (List.mem_cons_of_mem _ hz)) (fun z hz => hc z (List.mem_cons_of_mem _ hz)) h1 h2
      · rw [if_neg e2] at h2
        rw [if_neg (by rw [e1]; exact e2), e1]
        exact h2
    · rw [if_neg e1] at h1
      by_cases e2 : q = t
      · rw [if_neg (by rw [← e2]; exact e1), ← e2]
        exact h1
      · rw [if_neg e2] at h2
        have h3 := ahead_trans np.1 nq.1 nt.1 h1 h2
        by_cases e3 : p = t
        · rw [e3, ahead_irr' nt] at h3; cases h3
        · rw [if_neg e3]; exact h3
theorem firstB_total : ∀ {a b : List Pt}, Nrms a → Nrms b → a.length = b.length → firstB a b = false → firstB b a = false → a = b
  | [], [], _, _, _, _, _ => rfl
  | [], _ :: _, _, _, h, _, _ => by simp at h
  | _ :: _, [], _, _, h, _, _ => by simp at h
  | p :: ps, q :: qs, ha, hb, hl, h1, h2 => by
    have np := ha p List.mem_cons_self; have nq := hb q List.mem_cons_self
    unfold firstB at h1 h2
    by_cases e : p = q
    · rw [if_pos e] at h1
      rw [if_pos e.symm] at h2
      rw [e, firstB_total (fun z hz => ha z (List.mem_cons_of_mem _ hz)) (fun z hz => hb z (List.mem_cons_of_mem _ hz)) (by simpa using hl) h1 h2]
    · rw [if_neg e] at h1
      rw [if_neg (fun z => e z.symm)] at h2
      exact absurd (le_anti np nq h1 h2) e
theorem zipD_pts : zipD (l.map Pt.d) (r.map Pt.d) = (l.zip r).map fun q => D.tup [q.1.d, q.2.d] := by
  unfold zipD
  rw [List.zip_map, List.map_map]; rfl
theorem first_loop {P : D → D → (D → Prop) → (Str → Prop) → Prop} {Φ : D → Prop} : ∀ {a b : List Pt}, (∀ p ∈ a, Ok n p) → (∀ q ∈ b, Ok m q) → n + m ≤ 4000 → (∀ p ∈ a, ∀ q ∈ b, Φ (.bl (aheadB p q)) → P p.d q.d Φ Ψ) → Φ (.bl (firstB a b)) →
    forL (fun d9 (s3 : Unit) nx7 br8 => un2 d9 fun p10 q11 => (cmpT neB (ret p10) (ret q11)) (fun b => if b = true then ((c2 P (ret p10) (ret q11)) Φ Ψ) else (nx7 ())) Ψ) (fun (s5 : Unit) => (ret (.bl false)) Φ Ψ) ((a.zip b).map fun q => D.tup [q.1.d, q.2.d]) ()
  | [], _, _, _, _, _, h => by unfold firstB at h; exact h
  | _ :: _, [], _, _, _, _, h => by unfold firstB at h; exact h
  | p :: ps, q :: qs, ha, hb, hn, hP, h => by
    rw [List.zip_cons_cons, List.map_cons, forL, un2_t]
    simp only [cmpT, ret, neB_p]
    unfold firstB at h
    by_cases e : p = q
    · rw [if_pos e] at h
      rw [decide_eq_true e]
      show if false = true then _ else _
      exact first_loop (fun z hz => ha z (List.mem_cons_of_mem _ hz)) (fun z hz => hb z (List.mem_cons_of_mem _ hz)) hn (fun u hu v hv => hP u (List.mem_cons_of_mem _ hu) v (List.mem_cons_of_mem _ hv)) h
    · rw [if_neg e] at h
      rw [decide_eq_false e]
      exact hP p List.mem_cons_self q List.mem_cons_self h
theorem comes_first_w (ha : ∀ p ∈ l, Ok n p) (hb : ∀ q ∈ r, Ok m q) (hn : n + m ≤ 4000) (k : Φ (.bl (firstB l r))) : p_comes_first (tupL l) (tupL r) Φ Ψ := by
  refine ⟨?_⟩
  simp only [zipM, ret, zip2_t]
  rw [zipD_pts]
  exact first_loop ha hb hn (fun p hp q hq h => ahead_w (ha p hp) (hb q hq) hn h) k
/-! ### rows in order -/
/-! ### copies -/
end
end G
namespace G
open PySem PySem.Spec L2
local macro_rules | `(tactic| walk_at "sx") => `(tactic| try simp only [bin, una, lcE, cmpV, cmpT, tv, bv_b, notT, andT, orT, notV, andV, orV, ifE, nilA, consA, tupE, lstE, c1, c2, c3, c4, itE, seqD_l, seqD_t, walkD_l, walkD_t, walkD_c, ret, addD_i, subD_i, mulD_i, negD_i, fdivD_i, modD_i, absD_i, maxD_i, lnD_l, lnD_t, ltB_i, leB_i, gtB_i, geB_i, rng1, rng2, zipM, zip2_l, zip2_t, chnV, chnT, un2_t, un2_l, un3_t, un3_l, join, isDat_d,
  ixP0, ixP1, ixP2, ixS0, ixS1, ixM0, ixM1, ixM2, un3M, un3P, un2S, eqB_i, neB_i, eqB_p, neB_p, eqB_s, neB_s, eqB_m, neB_m, ite_dec, ite_ndec, ite_tt, ite_ff, ite_nt, ite_nf, isNB, notNB, isVB_b, isntVB_b, ixT30, ixT31, ixT32, ixT20, ixT21, if_true, if_false])
local macro_rules | `(tactic| walk_at "sy") => `(tactic| try simp only [bin, una, lcE, cmpV, cmpT, tv, bv_b, nilA, consA, tupE, lstE, c1, c2, c3, c4, itE, seqD_l, seqD_t, walkD_l, walkD_t, walkD_c, ret, addD_i, subD_i, mulD_i, negD_i, fdivD_i, modD_i, absD_i, maxD_i, lnD_l, lnD_t, ltB_i, leB_i, gtB_i, geB_i, rng1, rng2, zipM, zip2_l, zip2_t, un2_t, un2_l, un3_t, un3_l, isDat_d,
  ixP0, ixP1, ixP2, ixS0, ixS1, ixM0, ixM1, ixM2, un3M, un3P, un2S, eqB_i, neB_i, eqB_p, neB_p, eqB_s, neB_s, eqB_m, neB_m, ite_dec, ite_ndec, ite_tt, ite_ff, ite_nt, ite_nf, isNB, notNB, isVB_b, isntVB_b, ixT30, ixT31, ixT32, ixT20, ixT21, if_true, if_false])
local macro_rules | `(tactic| walk_at "bn") => `(tactic| first
  | assumption
  | (apply Bn.mul <;> walk_at "bn")
  | (apply Bn.add <;> walk_at "bn")
  | (apply Bn.sub <;> walk_at "bn")
  | (apply Bn.neg <;> walk_at "bn")
  | (apply Bn.abs <;> walk_at "bn")
  | exact (show Bn 64 _ by unfold Bn; decide))
local macro_rules | `(tactic| walk_at "cm") => `(tactic| (apply Bn.cm; (focus walk_at "bn"); (focus walk_at "bn"); omega))
local macro_rules | `(tactic| walk_at "nz") => `(tactic| first
  | assumption
  | omega
  | (apply mulnz <;> walk_at "nz"))
local macro_rules | `(tactic| walk_at "mok") => `(tactic| first
  | assumption
  | (apply joined_ok <;> walk_at "mok")
  | (apply backOf_ok <;> walk_at "mok")
  | exact still_ok)
local macro_rules | `(tactic| walk_at "ok") => `(tactic| first
  | assumption
  | (apply plus_ok <;> walk_at "ok")
  | (apply minus_ok <;> walk_at "ok")
  | (apply times_ok <;> walk_at "ok")
  | (apply flipped_ok <;> walk_at "ok")
  | (apply ledBy_ok <;> first | walk_at "ok" | walk_at "mok")
  | solve_by_elim)
local macro_rules | `(tactic| walk_at "norm") => `(tactic| first
  | assumption
  | (apply flipped_norm <;> walk_at "norm")
  | (apply plus_norm' <;> walk_at "ok")
  | (apply minus_norm' <;> walk_at "ok")
  | (apply times_norm' <;> walk_at "ok")
  | (apply ledBy_norm <;> first | walk_at "ok" | walk_at "mok")
  | solve_by_elim)
local macro_rules | `(tactic| walk_at "shp") => `(tactic| first
  | rfl
  | assumption
  | exact shp_pt _ _
  | exact shp_sh _ _
  | exact shp_mo _ _
  | exact shpA_pt1 _ _
  | exact shpA_pt2 _ _ _
  | exact shp_pts
  | exact (show D.shp 8 _ = true from rfl)
  | solve_by_elim)
local macro_rules | `(tactic| walk_at "pts") => `(tactic| first
  | (apply pts1 <;> walk_at "norm")
  | (apply pts2 <;> walk_at "norm"))
local macro_rules | `(tactic| walk_at "ismo") => `(tactic| (apply isMo_yes <;> walk_at "mok"))
local macro_rules | `(tactic| walk_at "one") => `(tactic| assumption)
local macro_rules | `(tactic| walk_at "db") => `(tactic| first
  | assumption
  | (apply MOk.db <;> walk_at "mok")
  | (apply Ok.db <;> walk_at "ok")
  | solve_by_elim)
local macro_rules | `(tactic| walk_at "nopq") => `(tactic| first | assumption | solve_by_elim | (intro n h; cases h))
local macro_rules | `(tactic| walk_at "sz") => `(tactic| first | omega | assumption | (simp; done) | (simp_all <;> omega))
local macro_rules | `(tactic| walk_at "sok") => `(tactic| first
  | assumption
  | (apply plusSh_ok <;> walk_at "sok")
  | (apply gap_ok <;> walk_at "ok")
  | (apply size_ok <;> walk_at "ok")
  | exact nought_ok (n := 1) (by decide))
local macro_rules | `(tactic| walk_at "oks") => `(tactic| first
  | assumption
  | solve_by_elim)
local macro_rules | `(tactic| walk_at "ne") => `(tactic| first
  | assumption
  | (simp; done))
local macro_rules | `(tactic| walk_at "prs") => `(tactic| (apply prs <;> assumption))
local macro_rules | `(tactic| walk_at "norms") => `(tactic| first | assumption | solve_by_elim)
local macro_rules | `(tactic| walk_at "soks") => `(tactic| first | assumption | solve_by_elim)
local macro_rules | `(tactic| walk_at "bn") => `(tactic| first
  | assumption
  | (apply Bn.mul <;> walk_at "bn")
  | (apply Bn.add <;> walk_at "bn")
  | (apply Bn.sub <;> walk_at "bn")
  | (apply Bn.neg <;> walk_at "bn")
  | (apply Bn.abs <;> walk_at "bn")
  | exact (show Bn 64 _ by unfold Bn; decide)
  | exact (show Bn 64 _ by unfold Bn; omega))
local macro_rules | `(tactic| walk_at "pok") => `(tactic| first | assumption | solve_by_elim)
local macro_rules | `(tactic| walk_at "cd") => `(tactic| (apply Bn.cd; (focus walk_at "bn"); (first | assumption | omega); omega))
local macro_rules | `(tactic| walk_at "sz") => `(tactic| try simp only [c1, c2, c3, c4, ret, tupE, nilA, consA, lstE, itE, walkD_l, walkD_t, walkD_c, un2_t, un2_l, un3_t, un3_l, un3M, un3P, un2S])
section
variable {Φ : D → Prop} {Ψ : Str → Prop} {n m : Nat} {one two : List Pt} {r : List Nat}
/-! ### orders -/
def extO (n : Nat) (r : List Nat) : List (List Nat) := ((List.range n).filter fun k => !decide (k ∈ r)).map fun k => r ++ [k]
def ords (n : Nat) : Nat → List (List Nat)
  | 0 => [[]]
  | i + 1 => (ords n i).flatMap (extO n)
theorem mem_ext {n : Nat} {r s : List Nat} (h : s ∈ extO n r) : ∃ k, k < n ∧ s = r ++ [k] := by
  obtain ⟨k, hk, rfl⟩ := List.mem_map.mp h
  exact ⟨k, List.mem_range.mp (List.mem_filter.mp hk).1, rfl⟩
theorem mem_ords {n : Nat} : ∀ {i : Nat} {r : List Nat}, r ∈ ords n i → r.length = i ∧ ∀ k ∈ r, k < n
  | 0, r, h => by
    have : r = [] := by simpa [ords] using h
    subst this; exact ⟨rfl, by simp⟩
  | i + 1, r, h => by
    obtain ⟨s, hs, hr⟩ := List.mem_flatMap.mp h
    obtain ⟨k, hk, rfl⟩ := mem_ext hr
    obtain ⟨a, b⟩ := mem_ords hs
    refine ⟨by simp [a], fun z hz => ?_⟩
    rcases List.mem_append.mp hz with hz | hz
    · exact b z hz
    · rw [List.mem_singleton.mp hz]; exact hk
/-! ### the best order -/
def selP (two : List Pt) (r : List Nat) : List Pt := r.map fun k => two.getD k ⟨0, 0, 1⟩
def rowSh (one two : List Pt) (r : List Nat) : Pt := shiftTo one (selP two r)
def rowSq (one two : List Pt) (r : List Nat) : Sh := behind (fun p => plus p (rowSh one two r)) one (selP two r)
/-- two lists drawn, orders of them -/
structure Two (one two : List Pt) : Prop where
  n1 : ∀ p ∈ one, Norm p
  n2 : ∀ p ∈ two, Norm p
  o1 : ∀ p ∈ one, Ok 3 p
  o2 : ∀ p ∈ two, Ok 11 p
  e : one.length = two.length
  ne : one ≠ []
  le : one.length ≤ 6
theorem sel_mem (h : ∀ k ∈ r, k < two.length) {p : Pt} (hp : p ∈ selP two r) : p ∈ two := by
  obtain ⟨k, hk, rfl⟩ := List.mem_map.mp hp
  have := h k hk
  show two.getD k _ ∈ two
  rw [List.getD_eq_getElem?_getD, List.getElem?_eq_getElem this]
  exact List.getElem_mem _
theorem Two.prs (h : Two one two) (hr : r ∈ ords one.length one.length) : Prs one (selP two r) := by
  obtain ⟨a, b⟩ := mem_ords hr
  have hb : ∀ k ∈ r, k < two.length := fun k hk => by have := b k hk; have := h.e; omega
  exact ⟨h.n1, fun p hp => h.n2 p (sel_mem hb hp), by unfold selP; rw [List.length_map, a], h.ne, by have := h.le; omega⟩
theorem Two.lt (h : Two one two) (hr : r ∈ ords one.length one.length) : ∀ k ∈ r, k < two.length := fun k hk => by
  have := (mem_ords hr).2 k hk; have := h.e; omega
theorem Two.so (h : Two one two) (hr : r ∈ ords one.length one.length) : ∀ p ∈ selP two r, Ok 11 p := fun p hp => h.o2 p (sel_mem (h.lt hr) hp)
theorem Two.sel_ne (h : Two one two) (hr : r ∈ ords one.length one.length) : selP two r ≠ [] := fun z => h.ne (List.length_eq_zero_iff.mp (by rw [(h.prs hr).e, z]; rfl))
theorem Two.sh (h : Two one two) (hr : r ∈ ords one.length one.length) : Ok 107 (rowSh one two r) := by
  have p := h.prs hr
  have hl := h.le
  have ml := meanOf_ok h.o1 h.ne (by omega)
  have mm := meanOf_ok (h.so hr) (h.sel_ne hr) (by have := p.e; omega)
  exact (minus_ok mm ml).mono (by have := p.e; omega)
theorem Two.sq (h : Two one two) (hr : r ∈ ords one.length one.length) : SOk 1489 (rowSq one two r) := (behind_sok (c := 6) (fun p hp => plus_ok (h.o1 p hp) (h.sh hr)) (h.so hr) h.le).mono (by decide)
theorem Two.least (h : Two one two) (hr : r ∈ ords one.length one.length) (k : Φ (.tup [(rowSh one two r).d, (rowSq one two r).d])) : p_least_shift (.lst (one.map Pt.d)) (.lst ((selP two r).map Pt.d)) Φ Ψ :=
  least_shift_w (c := 6) h.ne (h.prs hr).e h.o1 (h.so hr) h.le (by decide) (by decide) (by decide) (by decide) k
end
end G
namespace G
open PySem PySem.Spec L2
local macro_rules | `(tactic| walk_at "sx") => `(tactic| try simp only [bin, una, lcE, cmpV, cmpT, tv, bv_b, notT, andT, orT, notV, andV, orV, ifE, nilA, consA, tupE, lstE, c1, c2, c3, c4, itE, seqD_l, seqD_t, walkD_l, walkD_t, walkD_c, ret, addD_i, subD_i, mulD_i, negD_i, fdivD_i, modD_i, absD_i, maxD_i, lnD_l, lnD_t, ltB_i, leB_i, gtB_i, geB_i, rng1, rng2, zipM, zip2_l, zip2_t, chnV, chnT, un2_t, un2_l, un3_t, un3_l, join, isDat_d,
  ixP0, ixP1, ixP2, ixS0, ixS1, ixM0, ixM1, ixM2, un3M, un3P, un2S, eqB_i, neB_i, eqB_p, neB_p, eqB_s, neB_s, eqB_m, neB_m, ite_dec, ite_ndec, ite_tt, ite_ff, ite_nt, ite_nf, isNB, notNB, isVB_b, isntVB_b, ixT30, ixT31, ixT32, ixT20, ixT21, if_true, if_false])
local macro_rules | `(tactic| walk_at "sy") => `(tactic| try simp only [bin, una, lcE, cmpV, cmpT, tv, bv_b, nilA, consA, tupE, lstE, c1, c2, c3, c4, itE, seqD_l, seqD_t, walkD_l, walkD_t, walkD_c, ret, addD_i, subD_i, mulD_i, negD_i, fdivD_i, modD_i, absD_i, maxD_i, lnD_l, lnD_t, ltB_i, leB_i, gtB_i, geB_i, rng1, rng2, zipM, zip2_l, zip2_t, un2_t, un2_l, un3_t, un3_l, isDat_d,
  ixP0, ixP1, ixP2, ixS0, ixS1, ixM0, ixM1, ixM2, un3M, un3P, un2S, eqB_i, neB_i, eqB_p, neB_p, eqB_s, neB_s, eqB_m, neB_m, ite_dec, ite_ndec, ite_tt, ite_ff, ite_nt, ite_nf, isNB, notNB, isVB_b, isntVB_b, ixT30, ixT31, ixT32, ixT20, ixT21, if_true, if_false])
local macro_rules | `(tactic| walk_at "bn") => `(tactic| first
  | assumption
  | (apply Bn.mul <;> walk_at "bn")
  | (apply Bn.add <;> walk_at "bn")
  | (apply Bn.sub <;> walk_at "bn")
  | (apply Bn.neg <;> walk_at "bn")
  | (apply Bn.abs <;> walk_at "bn")
  | exact (show Bn 64 _ by unfold Bn; decide))
local macro_rules | `(tactic| walk_at "cm") => `(tactic| (apply Bn.cm; (focus walk_at "bn"); (focus walk_at "bn"); omega))
local macro_rules | `(tactic| walk_at "nz") => `(tactic| first
  | assumption
  | omega
  | (apply mulnz <;> walk_at "nz"))
local macro_rules | `(tactic| walk_at "mok") => `(tactic| first
  | assumption
  | (apply joined_ok <;> walk_at "mok")
  | (apply backOf_ok <;> walk_at "mok")
  | exact still_ok)
local macro_rules | `(tactic| walk_at "ok") => `(tactic| first
  | assumption
  | (apply plus_ok <;> walk_at "ok")
  | (apply minus_ok <;> walk_at "ok")
  | (apply times_ok <;> walk_at "ok")
  | (apply flipped_ok <;> walk_at "ok")
  | (apply ledBy_ok <;> first | walk_at "ok" | walk_at "mok")
  | solve_by_elim)
local macro_rules | `(tactic| walk_at "norm") => `(tactic| first
  | assumption
  | (apply flipped_norm <;> walk_at "norm")
  | (apply plus_norm' <;> walk_at "ok")
  | (apply minus_norm' <;> walk_at "ok")
  | (apply times_norm' <;> walk_at "ok")
  | (apply ledBy_norm <;> first | walk_at "ok" | walk_at "mok")
  | solve_by_elim)
local macro_rules | `(tactic| walk_at "shp") => `(tactic| first
  | rfl
  | assumption
  | exact shp_pt _ _
  | exact shp_sh _ _
  | exact shp_mo _ _
  | exact shpA_pt1 _ _
  | exact shpA_pt2 _ _ _
  | exact shp_pts
  | exact (show D.shp 8 _ = true from rfl)
  | solve_by_elim)
local macro_rules | `(tactic| walk_at "pts") => `(tactic| first
  | (apply pts1 <;> walk_at "norm")
  | (apply pts2 <;> walk_at "norm"))
local macro_rules | `(tactic| walk_at "ismo") => `(tactic| (apply isMo_yes <;> walk_at "mok"))
local macro_rules | `(tactic| walk_at "one") => `(tactic| assumption)
local macro_rules | `(tactic| walk_at "db") => `(tactic| first
  | assumption
  | (apply MOk.db <;> walk_at "mok")
  | (apply Ok.db <;> walk_at "ok")
  | solve_by_elim)
local macro_rules | `(tactic| walk_at "nopq") => `(tactic| first | assumption | solve_by_elim | (intro n h; cases h))
local macro_rules | `(tactic| walk_at "sz") => `(tactic| first | omega | assumption | (simp; done) | (simp_all <;> omega))
local macro_rules | `(tactic| walk_at "sok") => `(tactic| first
  | assumption
  | (apply plusSh_ok <;> walk_at "sok")
  | (apply gap_ok <;> walk_at "ok")
  | (apply size_ok <;> walk_at "ok")
  | exact nought_ok (n := 1) (by decide))
local macro_rules | `(tactic| walk_at "oks") => `(tactic| first
  | assumption
  | solve_by_elim)
local macro_rules | `(tactic| walk_at "ne") => `(tactic| first
  | assumption
  | (simp; done))
local macro_rules | `(tactic| walk_at "prs") => `(tactic| (apply prs <;> assumption))
local macro_rules | `(tactic| walk_at "norms") => `(tactic| first | assumption | solve_by_elim)
local macro_rules | `(tactic| walk_at "soks") => `(tactic| first | assumption | solve_by_elim)
local macro_rules | `(tactic| walk_at "bn") => `(tactic| first
  | assumption
  | (apply Bn.mul <;> walk_at "bn")
  | (apply Bn.add <;> walk_at "bn")
  | (apply Bn.sub <;> walk_at "bn")
  | (apply Bn.neg <;> walk_at "bn")
  | (apply Bn.abs <;> walk_at "bn")
  | exact (show Bn 64 _ by unfold Bn; decide)
  | exact (show Bn 64 _ by unfold Bn; omega))
local macro_rules | `(tactic| walk_at "pok") => `(tactic| first | assumption | solve_by_elim)
local macro_rules | `(tactic| walk_at "cd") => `(tactic| (apply Bn.cd; (focus walk_at "bn"); (first | assumption | omega); omega))
local macro_rules | `(tactic| walk_at "sz") => `(tactic| try simp only [c1, c2, c3, c4, ret, tupE, nilA, consA, lstE, itE, walkD_l, walkD_t, walkD_c, un2_t, un2_l, un3_t, un3_l, un3M, un3P, un2S])
section
variable {Φ : D → Prop} {Ψ : Str → Prop} {n m i j k' : Nat} {p q a b c d : Pt} {x y : D} {l r t : List Pt} {mo lo : Mo} {f : Int} {s : Sh}
theorem joinLD_w {rest : List D → Prop} {body : (List D → Prop) → Prop} (P : List D → Prop) (hb : ∀ k : List D → Prop, (∀ d, P d → k d) → body k) (hr : ∀ d, P d → rest d) : join rest body := hb rest hr
/-! ### pairs so far apart -/
/-! in order -/
/-! two points and two -/
theorem hp2 (op : Ok n p) (oq : Ok n q) (np : Norm p) (nq : Norm q) (ne : p ≠ q) : Hp n [p, q] := ⟨fun z hz => by
  simp only [List.mem_cons, List.not_mem_nil, or_false] at hz
  rcases hz with rfl | rfl <;> assumption, fun z hz => by
  simp only [List.mem_cons, List.not_mem_nil, or_false] at hz
  rcases hz with rfl | rfl <;> assumption, by simp [ne], by simp, by simp⟩
end
end G
namespace G
open PySem PySem.Spec L2
local macro_rules | `(tactic| walk_at "sx") => `(tactic| try simp only [bin, una, lcE, cmpV, cmpT, tv, bv_b, notT, andT, orT, notV, andV, orV, ifE, nilA, consA, tupE, lstE, c1, c2, c3, c4, itE, seqD_l, seqD_t, walkD_l, walkD_t, walkD_c, ret, addD_i, subD_i, mulD_i, negD_i, fdivD_i, modD_i, absD_i, maxD_i, lnD_l, lnD_t, ltB_i, leB_i, gtB_i, geB_i, rng1, rng2, zipM, zip2_l, zip2_t, chnV, chnT, un2_t, un2_l, un3_t, un3_l, join, isDat_d,
  ixP0, ixP1, ixP2, ixS0, ixS1, ixM0, ixM1, ixM2, un3M, un3P, un2S, eqB_i, neB_i, eqB_p, neB_p, eqB_s, neB_s, eqB_m, neB_m, ite_dec, ite_ndec, ite_tt, ite_ff, ite_nt, ite_nf, isNB, notNB, isVB_b, isntVB_b, ixT30, ixT31, ixT32, ixT20, ixT21, if_true, if_false])
local macro_rules | `(tactic| walk_at "sy") => `(tactic| try simp only [bin, una, lcE, cmpV, cmpT, tv, bv_b, nilA, consA, tupE, lstE, c1, c2, c3, c4, itE, seqD_l, seqD_t, walkD_l, walkD_t, walkD_c, ret, addD_i, subD_i, mulD_i, negD_i, fdivD_i, modD_i, absD_i, maxD_i, lnD_l, lnD_t, ltB_i, leB_i, gtB_i, geB_i, rng1, rng2, zipM, zip2_l, zip2_t, un2_t, un2_l, un3_t, un3_l, isDat_d,
  ixP0, ixP1, ixP2, ixS0, ixS1, ixM0, ixM1, ixM2, un3M, un3P, un2S, eqB_i, neB_i, eqB_p, neB_p, eqB_s, neB_s, eqB_m, neB_m, ite_dec, ite_ndec, ite_tt, ite_ff, ite_nt, ite_nf, isNB, notNB, isVB_b, isntVB_b, ixT30, ixT31, ixT32, ixT20, ixT21, if_true, if_false])
local macro_rules | `(tactic| walk_at "bn") => `(tactic| first
  | assumption
  | (apply Bn.mul <;> walk_at "bn")
  | (apply Bn.add <;> walk_at "bn")
  | (apply Bn.sub <;> walk_at "bn")
  | (apply Bn.neg <;> walk_at "bn")
  | (apply Bn.abs <;> walk_at "bn")
  | exact (show Bn 64 _ by unfold Bn; decide))
local macro_rules | `(tactic| walk_at "cm") => `(tactic| (apply Bn.cm; (focus walk_at "bn"); (focus walk_at "bn"); omega))
local macro_rules | `(tactic| walk_at "nz") => `(tactic| first
  | assumption
  | omega
  | (apply mulnz <;> walk_at "nz"))
local macro_rules | `(tactic| walk_at "mok") => `(tactic| first
  | assumption
  | (apply joined_ok <;> walk_at "mok")
  | (apply backOf_ok <;> walk_at "mok")
  | exact still_ok)
local macro_rules | `(tactic| walk_at "ok") => `(tactic| first
  | assumption
  | (apply plus_ok <;> walk_at "ok")
  | (apply minus_ok <;> walk_at "ok")
  | (apply times_ok <;> walk_at "ok")
  | (apply flipped_ok <;> walk_at "ok")
  | (apply ledBy_ok <;> first | walk_at "ok" | walk_at "mok")
  | solve_by_elim)
local macro_rules | `(tactic| walk_at "norm") => `(tactic| first
  | assumption
  | (apply flipped_norm <;> walk_at "norm")
  | (apply plus_norm' <;> walk_at "ok")
  | (apply minus_norm' <;> walk_at "ok")
  | (apply times_norm' <;> walk_at "ok")
  | (apply ledBy_norm <;> first | walk_at "ok" | walk_at "mok")
  | solve_by_elim)
local macro_rules | `(tactic| walk_at "shp") => `(tactic| first
  | rfl
  | assumption
  | exact shp_pt _ _
  | exact shp_sh _ _
  | exact shp_mo _ _
  | exact shpA_pt1 _ _
  | exact shpA_pt2 _ _ _
  | exact shp_pts
  | exact (show D.shp 8 _ = true from rfl)
  | solve_by_elim)
local macro_rules | `(tactic| walk_at "pts") => `(tactic| first
  | (apply pts1 <;> walk_at "norm")
  | (apply pts2 <;> walk_at "norm"))
local macro_rules | `(tactic| walk_at "ismo") => `(tactic| (apply isMo_yes <;> walk_at "mok"))
local macro_rules | `(tactic| walk_at "one") => `(tactic| assumption)
local macro_rules | `(tactic| walk_at "db") => `(tactic| first
  | assumption
  | (apply MOk.db <;> walk_at "mok")
  | (apply Ok.db <;> walk_at "ok")
  | solve_by_elim)
local macro_rules | `(tactic| walk_at "nopq") => `(tactic| first | assumption | solve_by_elim | (intro n h; cases h))
local macro_rules | `(tactic| walk_at "sz") => `(tactic| first | omega | assumption | (simp; done) | (simp_all <;> omega))
local macro_rules | `(tactic| walk_at "sok") => `(tactic| first
  | assumption
  | (apply plusSh_ok <;> walk_at "sok")
  | (apply gap_ok <;> walk_at "ok")
  | (apply size_ok <;> walk_at "ok")
  | exact nought_ok (n := 1) (by decide))
local macro_rules | `(tactic| walk_at "oks") => `(tactic| first
  | assumption
  | solve_by_elim)
local macro_rules | `(tactic| walk_at "ne") => `(tactic| first
  | assumption
  | (simp; done))
local macro_rules | `(tactic| walk_at "prs") => `(tactic| (apply prs <;> assumption))
local macro_rules | `(tactic| walk_at "norms") => `(tactic| first | assumption | solve_by_elim)
local macro_rules | `(tactic| walk_at "soks") => `(tactic| first | assumption | solve_by_elim)
local macro_rules | `(tactic| walk_at "bn") => `(tactic| first
  | assumption
  | (apply Bn.mul <;> walk_at "bn")
  | (apply Bn.add <;> walk_at "bn")
  | (apply Bn.sub <;> walk_at "bn")
  | (apply Bn.neg <;> walk_at "bn")
  | (apply Bn.abs <;> walk_at "bn")
  | exact (show Bn 64 _ by unfold Bn; decide)
  | exact (show Bn 64 _ by unfold Bn; omega))
local macro_rules | `(tactic| walk_at "pok") => `(tactic| first | assumption | solve_by_elim)
local macro_rules | `(tactic| walk_at "cd") => `(tactic| (apply Bn.cd; (focus walk_at "bn"); (first | assumption | omega); omega))
local macro_rules | `(tactic| walk_at "sz") => `(tactic| try simp only [c1, c2, c3, c4, ret, tupE, nilA, consA, lstE, itE, walkD_l, walkD_t, walkD_c, un2_t, un2_l, un3_t, un3_l, un3M, un3P, un2S])
section
variable {Φ : D → Prop} {Ψ : Str → Prop} {n m i j k' : Nat} {p q a b c d : Pt} {x y : D} {l r t : List Pt} {mo lo : Mo} {f : Int} {s : Sh}
/-! ### seen from two points -/
def nf (a b p : Pt) : Pt := by_ (minus p a) (minus b a)
def rowsAB (l : List Pt) (a b : Pt) : List (List Pt) := if a ≠ b ∧ gap a b = widS l then [ordL (l.map (nf a b)), ordL (l.map fun p => flipped (nf a b p))] else []
def rowsL (l : List Pt) : List (List Pt) := l.flatMap fun a => l.flatMap fun b => rowsAB l a b
def rmin (best row : List Pt) : List Pt := if firstB row best = true then row else best
def shapeL (l : List Pt) : List Pt := (rowsL l).foldl rmin ((rowsL l).headD [])
theorem diff_nz (oa : Ok n a) (ob : Ok m b) (na : Norm a) (nb : Norm b) (h : a ≠ b) : (minus b a).x ≠ 0 ∨ (minus b a).y ≠ 0 := by
  have F : Four (max n m) (max n m) a b a b := ⟨oa.mono (by omega), ob.mono (by omega), oa.mono (by omega), ob.mono (by omega), na, nb, na, nb, h⟩
  exact F.df
theorem nf_ok (h : Hp n l) (hp : p ∈ l) (ha : a ∈ l) (hb : b ∈ l) (ne : a ≠ b) : Ok (6 * n + 4) (nf a b p) :=
  (by_ok (minus_ok (h.ok p hp) (h.ok a ha)) (minus_ok (h.ok b hb) (h.ok a ha)) (diff_nz (h.ok a ha) (h.ok b hb) (h.nm a ha) (h.nm b hb) ne)).mono (by omega)
theorem nf_norm (h : Hp n l) (hp : p ∈ l) (ha : a ∈ l) (hb : b ∈ l) (ne : a ≠ b) : Norm (nf a b p) :=
  by_norm (minus_ok (h.ok p hp) (h.ok a ha)).nz (diff_nz (h.ok a ha) (h.ok b hb) (h.nm a ha) (h.nm b hb) ne)
/-- what it is, told by a product -/
theorem nf_mul (h : Hp n l) (hp : p ∈ l) (ha : a ∈ l) (hb : b ∈ l) (ne : a ≠ b) :
    (nf a b p).re * (b.re - a.re) - (nf a b p).im * (b.im - a.im) = p.re - a.re ∧ (nf a b p).re * (b.im - a.im) + (nf a b p).im * (b.re - a.re) = p.im - a.im := by
  have o1 := h.ok p hp; have o2 := h.ok a ha; have o3 := h.ok b hb
  have := by_mul (minus_ok o1 o2).nz (minus_ok o3 o2).nz (diff_nz o2 o3 (h.nm a ha) (h.nm b hb) ne)
  rw [minus_re o1.nz o2.nz, minus_im o1.nz o2.nz, minus_re o3.nz o2.nz, minus_im o3.nz o2.nz] at this
  exact this
theorem nz_of (oa : Ok n a) (ob : Ok m b) (na : Norm a) (nb : Norm b) (ne : a ≠ b) : (b.re - a.re) * (b.re - a.re) + (b.im - a.im) * (b.im - a.im) ≠ 0 := by
  have := nn_of (minus_ok ob oa).nz (diff_nz oa ob na nb ne)
  rw [minus_re ob.nz oa.nz, minus_im ob.nz oa.nz] at this
  exact this
/-- a number of two parts is told by its product with one that is not nought -/
theorem cancel2 {u v x y z w : Rat} (hz : z * z + w * w ≠ 0) (h1 : u * z - v * w = x * z - y * w) (h2 : u * w + v * z = x * w + y * z) : u = x ∧ v = y := by
  constructor
  · refine rcancel hz ?_
    grind
  · refine rcancel hz ?_
    grind
theorem row_len (h : Hp n l) {o : List Pt} (ho : o ∈ rowsL l) : o.length = l.length ∧ ∀ p ∈ o, Ok (6 * n + 4) p ∧ Norm p := by
  unfold rowsL rowsAB at ho
  simp only [List.mem_flatMap] at ho
  obtain ⟨a, ha, b, hb, ho⟩ := ho
  split at ho
  · rename_i e
    simp only [List.mem_cons, List.not_mem_nil, or_false] at ho
    rcases ho with rfl | rfl
    · refine ⟨by rw [ordL_len, List.length_map], fun p hp => ?_⟩
      obtain ⟨q, hq, rfl⟩ := List.mem_map.mp (ordL_mem.mp hp)
      exact ⟨nf_ok h hq ha hb e.1, nf_norm h hq ha hb e.1⟩
    · refine ⟨by rw [ordL_len, List.length_map], fun p hp => ?_⟩
      obtain ⟨q, hq, rfl⟩ := List.mem_map.mp (ordL_mem.mp hp)
      exact ⟨flipped_ok (nf_ok h hq ha hb e.1), flipped_norm (nf_norm h hq ha hb e.1)⟩
  · cases ho
theorem rows_nrm (h : Hp n l) {o : List Pt} (ho : o ∈ rowsL l) : Nrms o := fun p hp => ((row_len h ho).2 p hp).2
theorem rows_ne (h : Hp n l) : rowsL l ≠ [] := by
  obtain ⟨_, h1, _⟩ := wid_spec h
  obtain ⟨a, ha, b, hb, ne, e⟩ := (gapL_pt h _).mp h1
  intro z
  have : ordL (l.map (nf a b)) ∈ rowsL l := by
    unfold rowsL
    refine List.mem_flatMap.mpr ⟨a, ha, List.mem_flatMap.mpr ⟨b, hb, ?_⟩⟩
    unfold rowsAB
    rw [if_pos ⟨ne, e⟩]
    exact List.mem_cons_self
  rw [z] at this; cases this
theorem rows_small (h : Hp n l) : (rowsL l).length ≤ 392 := by
  have h2 := h.le
  have := flat_len (ps := l) (out := fun a => l.flatMap fun b => rowsAB l a b) (c := 28) fun a _ => Nat.le_trans (flat_len (c := 2) fun b _ => by unfold rowsAB; split <;> simp) (Nat.mul_le_mul_right 2 h2)
  have := Nat.mul_le_mul_right 28 h2
  unfold rowsL; omega
/-! the least of rows -/
abbrev Row (N : Nat) (o : List Pt) : Prop := Nrms o ∧ o.length = N
theorem row_le_trans {N : Nat} {x y z : List Pt} (hx : Row N x) (hy : Row N y) (hz : Row N z) (h1 : firstB y x = false) (h2 : firstB z y = false) : firstB z x = false := by
  cases h3 : firstB z x with
  | false => rfl
  | true =>
    cases h4 : firstB x y with
    | true =>
      have := firstB_trans hz.1 hx.1 hy.1 h3 h4
      rw [h2] at this; cases this
    | false =>
      have e := firstB_total hx.1 hy.1 (hx.2.trans hy.2.symm) h4 h1
      rw [e, h2] at h3; cases h3
theorem row_asym {N : Nat} {x y : List Pt} (hx : Row N x) (hy : Row N y) (h : firstB x y = true) : firstB y x = false := by
  cases h2 : firstB y x with
  | false => rfl
  | true =>
    have := firstB_trans hx.1 hy.1 hx.1 h h2
    rw [firstB_irr] at this; cases this
theorem rmin_spec : ∀ {rows : List (List Pt)} {b : List Pt} {N : Nat}, (∀ o ∈ rows, Row N o) → Row N b → (rows.foldl rmin b = b ∨ rows.foldl rmin b ∈ rows) ∧ (∀ o ∈ rows, firstB o (rows.foldl rmin b) = false) ∧ firstB b (rows.foldl rmin b) = false
  | [], b, _, _, _ => ⟨.inl rfl, (fun _ h => nomatch h), firstB_irr b⟩
  | o :: rows, b, N, hr, hb => by
    have ho := hr o List.mem_cons_self
    have hr' : ∀ o ∈ rows, Row N o := fun z hz => hr z (List.mem_cons_of_mem _ hz)
    have hm : Row N (rmin b o) := by unfold rmin; split; exact ho; exact hb
    have l1 : firstB b (rmin b o) = false ∧ firstB o (rmin b o) = false := by
      unfold rmin
      cases e : firstB o b with
      | true => rw [if_pos rfl]; exact ⟨row_asym ho hb e, firstB_irr o⟩
      | false => rw [if_neg (by decide)]; exact ⟨firstB_irr b, e⟩
    obtain ⟨h1, h2, h3⟩ := rmin_spec (rows := rows) (b := rmin b o) hr' hm
    rw [List.foldl_cons]
    have hR : Row N (rows.foldl rmin (rmin b o)) := by
      rcases h1 with e | e
      · rw [e]; exact hm
      · exact hr' _ e
    refine ⟨?_, fun z hz => ?_, row_le_trans hR hm hb h3 l1.1⟩
    · rcases h1 with e | e
      · rw [e]; unfold rmin; split
        · exact .inr List.mem_cons_self
        · exact .inl rfl
      · exact .inr (List.mem_cons_of_mem _ e)
    · rcases List.mem_cons.mp hz with rfl | hz
      · exact row_le_trans hR hm ho h3 l1.2
      · exact h2 z hz
theorem shape_spec (h : Hp n l) : shapeL l ∈ rowsL l ∧ ∀ o ∈ rowsL l, firstB o (shapeL l) = false := by
  have hr : ∀ o ∈ rowsL l, Row l.length o := fun o ho => ⟨rows_nrm h ho, (row_len h ho).1⟩
  match hl : rowsL l, rows_ne h with
  | o :: rows, _ =>
    have e : shapeL l = (o :: rows).foldl rmin o := by unfold shapeL; rw [hl]; rfl
    rw [hl] at hr
    obtain ⟨h1, h2, _⟩ := rmin_spec hr (hr o List.mem_cons_self)
    rw [e]
    refine ⟨?_, h2⟩
    rcases h1 with z | z
    · rw [z]; exact List.mem_cons_self
    · exact z
/-- the same rows: the same least one -/
theorem shape_same (h : Hp n l) (g : Hp m r) (e : ∀ o, o ∈ rowsL l ↔ o ∈ rowsL r) : shapeL l = shapeL r := by
  obtain ⟨a1, a2⟩ := shape_spec h
  obtain ⟨b1, b2⟩ := shape_spec g
  have n1 := row_len h a1
  have n2 := row_len g b1
  have n3 := row_len g ((e _).mp a1)
  exact firstB_total (rows_nrm h a1) (rows_nrm g b1) (n3.1.trans n2.1.symm) (b2 _ ((e _).mp a1)) (a2 _ ((e _).mpr b1))
/-! ### alike but for size -/
/-- a map by a number of two parts, a shift, a flip -/
structure Sim (l : List Pt) (g : Pt → Pt) (f : Bool) (ur ui vr vi : Rat) : Prop where
  nz : ur * ur + ui * ui ≠ 0
  re : ∀ p ∈ l, (g p).re = ur * p.re - ui * (if f = true then -p.im else p.im) + vr
  im : ∀ p ∈ l, (g p).im = ur * (if f = true then -p.im else p.im) + ui * p.re + vi
section
variable {g : Pt → Pt} {fl : Bool} {ur ui vr vi : Rat}
theorem Sim.gap (S : Sim l g fl ur ui vr vi) (h : Hp n l) (hr : Hp m r) (e : r.Perm (l.map g)) (ha : a ∈ l) (hb : b ∈ l) : (gap (g a) (g b)).val = (ur * ur + ui * ui) * (gap a b).val := by
  have oa := hr.ok _ (e.mem_iff.mpr (List.mem_map.mpr ⟨a, ha, rfl⟩))
  have ob := hr.ok _ (e.mem_iff.mpr (List.mem_map.mpr ⟨b, hb, rfl⟩))
  rw [gap_val oa ob, gap_val (h.ok a ha) (h.ok b hb), S.re a ha, S.re b hb, S.im a ha, S.im b hb]
  cases fl
  · simp only [Bool.false_eq_true, if_false]; grind
  · simp only [if_true]; grind
theorem Sim.inj (S : Sim l g fl ur ui vr vi) (h : Hp n l) (hr : Hp m r) (e : r.Perm (l.map g)) (ha : a ∈ l) (hb : b ∈ l) (ne : a ≠ b) : g a ≠ g b := by
  intro z
  have oa := hr.ok _ (e.mem_iff.mpr (List.mem_map.mpr ⟨a, ha, rfl⟩))
  have h1 := S.gap h hr e ha hb
  rw [z, gap_same (by rw [← z]; exact oa)] at h1
  have : (G.gap a b).val = 0 := by
    rcases Rat.mul_eq_zero.mp h1.symm with w | w
    · exact absurd w S.nz
    · exact w
  exact ne (gap_zero (h.ok a ha) (h.ok b hb) (h.nm a ha) (h.nm b hb) this)
theorem Sim.pos (S : Sim l g fl ur ui vr vi) : 0 < ur * ur + ui * ui := by
  have h1 := rsq_nn ur
  have h2 := rsq_nn ui
  have := S.nz
  grind
/-- the greatest gap is multiplied -/
theorem Sim.wid (S : Sim l g fl ur ui vr vi) (h : Hp n l) (hr : Hp m r) (e : r.Perm (l.map g)) : (widS r).val = (ur * ur + ui * ui) * (widS l).val := by
  obtain ⟨_, a1, a2⟩ := wid_spec h
  obtain ⟨_, b1, b2⟩ := wid_spec hr
  have hp := S.pos
  refine Rat.le_antisymm ?_ ?_
  · obtain ⟨u, hu, v, hv, _, e1⟩ := (gapL_pt hr _).mp b1
    obtain ⟨a, ha, rfl⟩ := List.mem_map.mp (e.mem_iff.mp hu)
    obtain ⟨b, hb, rfl⟩ := List.mem_map.mp (e.mem_iff.mp hv)
    rw [← e1, S.gap h hr e ha hb]
    have : (G.gap a b).val ≤ (widS l).val := by
      by_cases ab : a = b
      · rw [ab, gap_same (h.ok b hb)]
        obtain ⟨c, hc, d, hd, _, e2⟩ := (gapL_pt h _).mp a1
        rw [← e2, gap_val (h.ok c hc) (h.ok d hd)]
        exact Rat.add_nonneg (rsq_nn _) (rsq_nn _)
      · exact a2 _ ((gapL_pt h _).mpr ⟨a, ha, b, hb, ab, rfl⟩)
    exact Rat.mul_le_mul_of_nonneg_left this (Rat.le_of_lt hp)
  · obtain ⟨a, ha, b, hb, ne, e1⟩ := (gapL_pt h _).mp a1
    rw [← e1, ← S.gap h hr e ha hb]
    exact b2 _ ((gapL_pt hr _).mpr ⟨_, e.mem_iff.mpr (List.mem_map.mpr ⟨a, ha, rfl⟩), _, e.mem_iff.mpr (List.mem_map.mpr ⟨b, hb, rfl⟩), S.inj h hr e ha hb ne, rfl⟩)
/-- what is seen from two points is the same, or flipped -/
theorem Sim.nf (S : Sim l g fl ur ui vr vi) (h : Hp n l) (hr : Hp m r) (e : r.Perm (l.map g)) (ha : a ∈ l) (hb : b ∈ l) (hp : p ∈ l) (ne : a ≠ b) : G.nf (g a) (g b) (g p) = if fl = true then flipped (G.nf a b p) else G.nf a b p := by
  have mem : ∀ z ∈ l, g z ∈ r := fun z hz => e.mem_iff.mpr (List.mem_map.mpr ⟨z, hz, rfl⟩)
  have ne2 := S.inj h hr e ha hb ne
  have n1 := nf_norm hr (mem p hp) (mem a ha) (mem b hb) ne2
  have n2 := nf_norm h hp ha hb ne
  obtain ⟨m1, m2⟩ := nf_mul h hp ha hb ne
  obtain ⟨k1, k2⟩ := nf_mul hr (mem p hp) (mem a ha) (mem b hb) ne2
  have nz := nz_of (hr.ok _ (mem a ha)) (hr.ok _ (mem b hb)) (hr.nm _ (mem a ha)) (hr.nm _ (mem b hb)) ne2
  have goal : (G.nf (g a) (g b) (g p)).re = (G.nf a b p).re ∧ (G.nf (g a) (g b) (g p)).im = if fl = true then -(G.nf a b p).im else (G.nf a b p).im := by
    refine cancel2 nz ?_ ?_
    · rw [k1, S.re p hp, S.re a ha, S.re b hb, S.im b hb, S.im a ha]
      cases fl
      · simp only [Bool.false_eq_true, if_false]; grind
      · simp only [if_true]; grind
    · rw [k2, S.im p hp, S.re a ha, S.re b hb, S.im b hb, S.im a ha]
      cases fl
      · simp only [Bool.false_eq_true, if_false]; grind
      · simp only [if_true]; grind
  cases fl
  · simp only [Bool.false_eq_true, if_false] at goal ⊢
    exact val_inj n1 n2 goal.1 goal.2
  · simp only [if_true] at goal ⊢
    exact val_inj n1 (flipped_norm n2) (by rw [flipped_re]; exact goal.1) (by rw [flipped_im]; exact goal.2)
theorem flip2 : flipped (flipped p) = p := by
  show (⟨p.x, - -p.y, p.w⟩ : Pt) = p
  rw [Int.neg_neg]
theorem Sim.rowsAB (S : Sim l g fl ur ui vr vi) (h : Hp n l) (hr : Hp m r) (e : r.Perm (l.map g)) (ha : a ∈ l) (hb : b ∈ l) (o : List Pt) : o ∈ G.rowsAB r (g a) (g b) ↔ o ∈ G.rowsAB l a b := by
  have mem : ∀ z ∈ l, g z ∈ r := fun z hz => e.mem_iff.mpr (List.mem_map.mpr ⟨z, hz, rfl⟩)
  have test : (g a ≠ g b ∧ G.gap (g a) (g b) = widS r) ↔ (a ≠ b ∧ G.gap a b = widS l) := by
    have hg := S.gap h hr e ha hb
    have hw := S.wid h hr e
    have n1 := gap_norm (hr.ok _ (mem a ha)) (hr.ok _ (mem b hb))
    have n2 := gap_norm (h.ok a ha) (h.ok b hb)
    have n3 := hr.gap_nrm (wid_spec hr).2.1
    have n4 := h.gap_nrm (wid_spec h).2.1
    constructor
    · rintro ⟨h1, h2⟩
      refine ⟨fun z => h1 (by rw [z]), sh_inj n2 n4 ?_⟩
      rw [h2, hw] at hg
      exact rcancel S.nz (by grind)
    · rintro ⟨h1, h2⟩
      refine ⟨S.inj h hr e ha hb h1, sh_inj n1 n3 ?_⟩
      rw [hg, hw, h2]
  unfold G.rowsAB
  by_cases t : a ≠ b ∧ G.gap a b = widS l
  · rw [if_pos t, if_pos (test.mpr t)]
    have ne := t.1
    have okr : ∀ q ∈ r, Norm (G.nf (g a) (g b) q) := fun q hq => nf_norm hr hq (mem a ha) (mem b hb) (test.mpr t).1
    have okl : ∀ q ∈ l, Norm (G.nf a b q) := fun q hq => nf_norm h hq ha hb ne
    have same : ∀ F : Pt → Pt, (∀ q, Norm q → Norm (F q)) → ordL (r.map fun p => F (G.nf (g a) (g b) p)) = ordL (l.map fun p => F (if fl = true then flipped (G.nf a b p) else G.nf a b p)) := fun F hF => by
      refine (ordL_eq (fun q hq => ?_) fun q hq => ?_).mpr ?_
      · obtain ⟨z, hz, rfl⟩ := List.mem_map.mp hq
        exact hF _ (okr z hz)
      · obtain ⟨z, hz, rfl⟩ := List.mem_map.mp hq
        refine hF _ ?_
        split
        · exact flipped_norm (okl z hz)
        · exact okl z hz
      · have := e.map fun p => F (G.nf (g a) (g b) p)
        rw [List.map_map] at this
        refine this.trans ?_
        have e3 : l.map ((fun p => F (G.nf (g a) (g b) p)) ∘ g) = l.map fun p => F (if fl = true then flipped (G.nf a b p) else G.nf a b p) := by
          refine List.map_congr_left fun p hp => ?_
          show F (G.nf (g a) (g b) (g p)) = _
          rw [S.nf h hr e ha hb hp ne]
        rw [e3]
    have s1 := same id (fun q h => h)
    have s2 := same flipped (fun q h => flipped_norm h)
    simp only [id] at s1
    have s1 : ordL (r.map (G.nf (g a) (g b))) = _ := s1
    rw [s1, s2]
    cases fl
    · simp only [Bool.false_eq_true, if_false]
    · simp only [if_true, flip2, List.mem_cons, List.not_mem_nil, or_false]
      exact Or.comm
  · rw [if_neg t, if_neg fun z => t (test.mp z)]
theorem Sim.rows (S : Sim l g fl ur ui vr vi) (h : Hp n l) (hr : Hp m r) (e : r.Perm (l.map g)) (o : List Pt) : o ∈ rowsL l ↔ o ∈ rowsL r := by
  unfold rowsL
  simp only [List.mem_flatMap]
  constructor
  · rintro ⟨a, ha, b, hb, ho⟩
    exact ⟨g a, e.mem_iff.mpr (List.mem_map.mpr ⟨a, ha, rfl⟩), g b, e.mem_iff.mpr (List.mem_map.mpr ⟨b, hb, rfl⟩), (S.rowsAB h hr e ha hb o).mpr ho⟩
  · rintro ⟨u, hu, v, hv, ho⟩
    obtain ⟨a, ha, rfl⟩ := List.mem_map.mp (e.mem_iff.mp hu)
    obtain ⟨b, hb, rfl⟩ := List.mem_map.mp (e.mem_iff.mp hv)
    exact ⟨a, ha, b, hb, (S.rowsAB h hr e ha hb o).mp ho⟩
theorem Sim.shape (S : Sim l g fl ur ui vr vi) (h : Hp n l) (hr : Hp m r) (e : r.Perm (l.map g)) : shapeL l = shapeL r := shape_same h hr (S.rows h hr e)
end
theorem sim_led (om : MOk k' mo) (h : ∀ p ∈ l, Ok n p) : Sim l (ledBy mo) (decide (mo.f = 1)) mo.t.re mo.t.im mo.s.re mo.s.im := ⟨by rw [om.unit]; decide, fun p hp => by rw [ledBy_re om (h p hp)]; simp only [decide_eq_true_eq], fun p hp => by rw [ledBy_im om (h p hp)]; simp only [decide_eq_true_eq]⟩
/-! ### forms: the same just of heaps alike -/
theorem lay_form (h : Hp n l) (g : Hp m r) (ne : layL l r ≠ []) : widS l = widS r ∧ shapeL l = shapeL r := by
  obtain ⟨mo, hm⟩ := List.exists_mem_of_ne_nil _ ne
  obtain ⟨⟨k, om⟩, pe⟩ := (layL_iff h g).mp hm
  exact ⟨wid_lay h g om pe, (sim_led om h.ok).shape h g pe.symm⟩
end
end G
namespace G
open PySem PySem.Spec L2
local macro_rules | `(tactic| walk_at "sx") => `(tactic| try simp only [bin, una, lcE, cmpV, cmpT, tv, bv_b, notT, andT, orT, notV, andV, orV, ifE, nilA, consA, tupE, lstE, c1, c2, c3, c4, itE, seqD_l, seqD_t, walkD_l, walkD_t, walkD_c, ret, addD_i, subD_i, mulD_i, negD_i, fdivD_i, modD_i, absD_i, maxD_i, lnD_l, lnD_t, ltB_i, leB_i, gtB_i, geB_i, rng1, rng2, zipM, zip2_l, zip2_t, chnV, chnT, un2_t, un2_l, un3_t, un3_l, join, isDat_d,
  ixP0, ixP1, ixP2, ixS0, ixS1, ixM0, ixM1, ixM2, un3M, un3P, un2S, eqB_i, neB_i, eqB_p, neB_p, eqB_s, neB_s, eqB_m, neB_m, ite_dec, ite_ndec, ite_tt, ite_ff, ite_nt, ite_nf, isNB, notNB, isVB_b, isntVB_b, ixT30, ixT31, ixT32, ixT20, ixT21, if_true, if_false])
local macro_rules | `(tactic| walk_at "sy") => `(tactic| try simp only [bin, una, lcE, cmpV, cmpT, tv, bv_b, nilA, consA, tupE, lstE, c1, c2, c3, c4, itE, seqD_l, seqD_t, walkD_l, walkD_t, walkD_c, ret, addD_i, subD_i, mulD_i, negD_i, fdivD_i, modD_i, absD_i, maxD_i, lnD_l, lnD_t, ltB_i, leB_i, gtB_i, geB_i, rng1, rng2, zipM, zip2_l, zip2_t, un2_t, un2_l, un3_t, un3_l, isDat_d,
  ixP0, ixP1, ixP2, ixS0, ixS1, ixM0, ixM1, ixM2, un3M, un3P, un2S, eqB_i, neB_i, eqB_p, neB_p, eqB_s, neB_s, eqB_m, neB_m, ite_dec, ite_ndec, ite_tt, ite_ff, ite_nt, ite_nf, isNB, notNB, isVB_b, isntVB_b, ixT30, ixT31, ixT32, ixT20, ixT21, if_true, if_false])
local macro_rules | `(tactic| walk_at "bn") => `(tactic| first
  | assumption
  | (apply Bn.mul <;> walk_at "bn")
  | (apply Bn.add <;> walk_at "bn")
  | (apply Bn.sub <;> walk_at "bn")
  | (apply Bn.neg <;> walk_at "bn")
  | (apply Bn.abs <;> walk_at "bn")
  | exact (show Bn 64 _ by unfold Bn; decide))
local macro_rules | `(tactic| walk_at "cm") => `(tactic| (apply Bn.cm; (focus walk_at "bn"); (focus walk_at "bn"); omega))
local macro_rules | `(tactic| walk_at "nz") => `(tactic| first
  | assumption
  | omega
  | (apply mulnz <;> walk_at "nz"))
local macro_rules | `(tactic| walk_at "mok") => `(tactic| first
  | assumption
  | (apply joined_ok <;> walk_at "mok")
  | (apply backOf_ok <;> walk_at "mok")
  | exact still_ok)
local macro_rules | `(tactic| walk_at "ok") => `(tactic| first
  | assumption
  | (apply plus_ok <;> walk_at "ok")
  | (apply minus_ok <;> walk_at "ok")
  | (apply times_ok <;> walk_at "ok")
  | (apply flipped_ok <;> walk_at "ok")
  | (apply ledBy_ok <;> first | walk_at "ok" | walk_at "mok")
  | solve_by_elim)
local macro_rules | `(tactic| walk_at "norm") => `(tactic| first
  | assumption
  | (apply flipped_norm <;> walk_at "norm")
  | (apply plus_norm' <;> walk_at "ok")
  | (apply minus_norm' <;> walk_at "ok")
  | (apply times_norm' <;> walk_at "ok")
  | (apply ledBy_norm <;> first | walk_at "ok" | walk_at "mok")
  | solve_by_elim)
local macro_rules | `(tactic| walk_at "shp") => `(tactic| first
  | rfl
  | assumption
  | exact shp_pt _ _
  | exact shp_sh _ _
  | exact shp_mo _ _
  | exact shpA_pt1 _ _
  | exact shpA_pt2 _ _ _
  | exact shp_pts
  | exact (show D.shp 8 _ = true from rfl)
  | solve_by_elim)
local macro_rules | `(tactic| walk_at "pts") => `(tactic| first
  | (apply pts1 <;> walk_at "norm")
  | (apply pts2 <;> walk_at "norm"))
local macro_rules | `(tactic| walk_at "ismo") => `(tactic| (apply isMo_yes <;> walk_at "mok"))
local macro_rules | `(tactic| walk_at "one") => `(tactic| assumption)
local macro_rules | `(tactic| walk_at "db") => `(tactic| first
  | assumption
  | (apply MOk.db <;> walk_at "mok")
  | (apply Ok.db <;> walk_at "ok")
  | solve_by_elim)
local macro_rules | `(tactic| walk_at "nopq") => `(tactic| first | assumption | solve_by_elim | (intro n h; cases h))
local macro_rules | `(tactic| walk_at "sz") => `(tactic| first | omega | assumption | (simp; done) | (simp_all <;> omega))
local macro_rules | `(tactic| walk_at "sok") => `(tactic| first
  | assumption
  | (apply plusSh_ok <;> walk_at "sok")
  | (apply gap_ok <;> walk_at "ok")
  | (apply size_ok <;> walk_at "ok")
  | exact nought_ok (n := 1) (by decide))
local macro_rules | `(tactic| walk_at "oks") => `(tactic| first
  | assumption
  | solve_by_elim)
local macro_rules | `(tactic| walk_at "ne") => `(tactic| first
  | assumption
  | (simp; done))
local macro_rules | `(tactic| walk_at "prs") => `(tactic| (apply prs <;> assumption))
local macro_rules | `(tactic| walk_at "norms") => `(tactic| first | assumption | solve_by_elim)
local macro_rules | `(tactic| walk_at "soks") => `(tactic| first | assumption | solve_by_elim)
local macro_rules | `(tactic| walk_at "bn") => `(tactic| first
  | assumption
  | (apply Bn.mul <;> walk_at "bn")
  | (apply Bn.add <;> walk_at "bn")
  | (apply Bn.sub <;> walk_at "bn")
  | (apply Bn.neg <;> walk_at "bn")
  | (apply Bn.abs <;> walk_at "bn")
  | exact (show Bn 64 _ by unfold Bn; decide)
  | exact (show Bn 64 _ by unfold Bn; omega))
local macro_rules | `(tactic| walk_at "pok") => `(tactic| first | assumption | solve_by_elim)
local macro_rules | `(tactic| walk_at "cd") => `(tactic| (apply Bn.cd; (focus walk_at "bn"); (first | assumption | omega); omega))
local macro_rules | `(tactic| walk_at "sz") => `(tactic| try simp only [c1, c2, c3, c4, ret, tupE, nilA, consA, lstE, itE, walkD_l, walkD_t, walkD_c, un2_t, un2_l, un3_t, un3_l, un3M, un3P, un2S])
section
variable {Φ : D → Prop} {Ψ : Str → Prop} {n m i j k' : Nat} {p q a b c d : Pt} {x y : D} {l r t : List Pt} {mo lo : Mo} {f : Int} {s : Sh}
/-! ### sorting pairs of a number and a motion -/
/-! ### the motions that may lay most -/
def candF (l r : List Pt) (fl : Bool) : List Mo := (dd (cands l r)).filter fun mo => fl || decide (mo.f = 0)
abbrev leM (a b : Mo) : Prop := leD a.d b.d = true
/-- the best: it lays most, and of such it is the least -/
structure Best (l r : List Pt) (fl : Bool) (mo : Mo) : Prop where
  mem : mo ∈ candF l r fl
  most : ∀ z ∈ candF l r fl, cnt l r z ≤ cnt l r mo
  least : ∀ z ∈ candF l r fl, cnt l r z = cnt l r mo → leM mo z
theorem Best.only {fl : Bool} (h : Best l r fl mo) (g : Best l r fl lo) : mo = lo := by
  have e : cnt l r mo = cnt l r lo := Nat.le_antisymm (g.most _ h.mem) (h.most _ g.mem)
  exact moK.eq _ _ (leD_anti (moK.al _ _) (h.least _ g.mem e.symm) (g.least _ h.mem e))
/-! ### tables of the same keys and numbers -/
/-! ### shifts -/
def shL (l r : List Pt) : List Pt := l.flatMap fun p => r.map fun q => minus q p
def maxN (l : List Nat) : Nat := l.foldl max 0
/-- how many the best shift lays -/
def bsM (l r : List Pt) : Nat := maxN ((dd (shL l r)).map fun s => (shL l r).count s)
end
end G
namespace G
open PySem PySem.Spec L2
local macro_rules | `(tactic| walk_at "sx") => `(tactic| try simp only [bin, una, lcE, cmpV, cmpT, tv, bv_b, notT, andT, orT, notV, andV, orV, ifE, nilA, consA, tupE, lstE, c1, c2, c3, c4, itE, seqD_l, seqD_t, walkD_l, walkD_t, walkD_c, ret, addD_i, subD_i, mulD_i, negD_i, fdivD_i, modD_i, absD_i, maxD_i, lnD_l, lnD_t, ltB_i, leB_i, gtB_i, geB_i, rng1, rng2, zipM, zip2_l, zip2_t, chnV, chnT, un2_t, un2_l, un3_t, un3_l, join, isDat_d,
  ixP0, ixP1, ixP2, ixS0, ixS1, ixM0, ixM1, ixM2, un3M, un3P, un2S, eqB_i, neB_i, eqB_p, neB_p, eqB_s, neB_s, eqB_m, neB_m, ite_dec, ite_ndec, ite_tt, ite_ff, ite_nt, ite_nf, isNB, notNB, isVB_b, isntVB_b, ixT30, ixT31, ixT32, ixT20, ixT21, if_true, if_false])
local macro_rules | `(tactic| walk_at "sy") => `(tactic| try simp only [bin, una, lcE, cmpV, cmpT, tv, bv_b, nilA, consA, tupE, lstE, c1, c2, c3, c4, itE, seqD_l, seqD_t, walkD_l, walkD_t, walkD_c, ret, addD_i, subD_i, mulD_i, negD_i, fdivD_i, modD_i, absD_i, maxD_i, lnD_l, lnD_t, ltB_i, leB_i, gtB_i, geB_i, rng1, rng2, zipM, zip2_l, zip2_t, un2_t, un2_l, un3_t, un3_l, isDat_d,
  ixP0, ixP1, ixP2, ixS0, ixS1, ixM0, ixM1, ixM2, un3M, un3P, un2S, eqB_i, neB_i, eqB_p, neB_p, eqB_s, neB_s, eqB_m, neB_m, ite_dec, ite_ndec, ite_tt, ite_ff, ite_nt, ite_nf, isNB, notNB, isVB_b, isntVB_b, ixT30, ixT31, ixT32, ixT20, ixT21, if_true, if_false])
local macro_rules | `(tactic| walk_at "bn") => `(tactic| first
  | assumption
  | (apply Bn.mul <;> walk_at "bn")
  | (apply Bn.add <;> walk_at "bn")
  | (apply Bn.sub <;> walk_at "bn")
  | (apply Bn.neg <;> walk_at "bn")
  | (apply Bn.abs <;> walk_at "bn")
  | exact (show Bn 64 _ by unfold Bn; decide))
local macro_rules | `(tactic| walk_at "cm") => `(tactic| (apply Bn.cm; (focus walk_at "bn"); (focus walk_at "bn"); omega))
local macro_rules | `(tactic| walk_at "nz") => `(tactic| first
  | assumption
  | omega
  | (apply mulnz <;> walk_at "nz"))
local macro_rules | `(tactic| walk_at "mok") => `(tactic| first
  | assumption
  | (apply joined_ok <;> walk_at "mok")
  | (apply backOf_ok <;> walk_at "mok")
  | exact still_ok)
local macro_rules | `(tactic| walk_at "ok") => `(tactic| first
  | assumption
  | (apply plus_ok <;> walk_at "ok")
  | (apply minus_ok <;> walk_at "ok")
  | (apply times_ok <;> walk_at "ok")
  | (apply flipped_ok <;> walk_at "ok")
  | (apply ledBy_ok <;> first | walk_at "ok" | walk_at "mok")
  | solve_by_elim)
local macro_rules | `(tactic| walk_at "norm") => `(tactic| first
  | assumption
  | (apply flipped_norm <;> walk_at "norm")
  | (apply plus_norm' <;> walk_at "ok")
  | (apply minus_norm' <;> walk_at "ok")
  | (apply times_norm' <;> walk_at "ok")
  | (apply ledBy_norm <;> first | walk_at "ok" | walk_at "mok")
  | solve_by_elim)
local macro_rules | `(tactic| walk_at "shp") => `(tactic| first
  | rfl
  | assumption
  | exact shp_pt _ _
  | exact shp_sh _ _
  | exact shp_mo _ _
  | exact shpA_pt1 _ _
  | exact shpA_pt2 _ _ _
  | exact shp_pts
  | exact (show D.shp 8 _ = true from rfl)
  | solve_by_elim)
local macro_rules | `(tactic| walk_at "pts") => `(tactic| first
  | (apply pts1 <;> walk_at "norm")
  | (apply pts2 <;> walk_at "norm"))
local macro_rules | `(tactic| walk_at "ismo") => `(tactic| (apply isMo_yes <;> walk_at "mok"))
local macro_rules | `(tactic| walk_at "one") => `(tactic| assumption)
local macro_rules | `(tactic| walk_at "db") => `(tactic| first
  | assumption
  | (apply MOk.db <;> walk_at "mok")
  | (apply Ok.db <;> walk_at "ok")
  | solve_by_elim)
local macro_rules | `(tactic| walk_at "nopq") => `(tactic| first | assumption | solve_by_elim | (intro n h; cases h))
local macro_rules | `(tactic| walk_at "sz") => `(tactic| first | omega | assumption | (simp; done) | (simp_all <;> omega))
local macro_rules | `(tactic| walk_at "sok") => `(tactic| first
  | assumption
  | (apply plusSh_ok <;> walk_at "sok")
  | (apply gap_ok <;> walk_at "ok")
  | (apply size_ok <;> walk_at "ok")
  | exact nought_ok (n := 1) (by decide))
local macro_rules | `(tactic| walk_at "oks") => `(tactic| first
  | assumption
  | solve_by_elim)
local macro_rules | `(tactic| walk_at "ne") => `(tactic| first
  | assumption
  | (simp; done))
local macro_rules | `(tactic| walk_at "prs") => `(tactic| (apply prs <;> assumption))
local macro_rules | `(tactic| walk_at "norms") => `(tactic| first | assumption | solve_by_elim)
local macro_rules | `(tactic| walk_at "soks") => `(tactic| first | assumption | solve_by_elim)
local macro_rules | `(tactic| walk_at "bn") => `(tactic| first
  | assumption
  | (apply Bn.mul <;> walk_at "bn")
  | (apply Bn.add <;> walk_at "bn")
  | (apply Bn.sub <;> walk_at "bn")
  | (apply Bn.neg <;> walk_at "bn")
  | (apply Bn.abs <;> walk_at "bn")
  | exact (show Bn 64 _ by unfold Bn; decide)
  | exact (show Bn 64 _ by unfold Bn; omega))
local macro_rules | `(tactic| walk_at "pok") => `(tactic| first | assumption | solve_by_elim)
local macro_rules | `(tactic| walk_at "cd") => `(tactic| (apply Bn.cd; (focus walk_at "bn"); (first | assumption | omega); omega))
local macro_rules | `(tactic| walk_at "sz") => `(tactic| try simp only [c1, c2, c3, c4, ret, tupE, nilA, consA, lstE, itE, walkD_l, walkD_t, walkD_c, un2_t, un2_l, un3_t, un3_l, un3M, un3P, un2S])
section
variable {Φ : D → Prop} {Ψ : Str → Prop} {n m i j k' : Nat} {p q a b c d : Pt} {x y : D} {l r t : List Pt} {mo lo : Mo} {f : Int} {s : Sh}
/-! ### tables by a function of the key -/
/-! ### quarter turns -/
def rotP (t : Pt) : Pt := ⟨-t.y, t.x, 1⟩
def turnI : Nat → Pt
  | 0 => ⟨1, 0, 1⟩
  | i + 1 => rotP (turnI i)
abbrev rotM (t : Pt) : Mo := ⟨t, ⟨0, 0, 1⟩, 0⟩
def rowsT (l : List Pt) (i : Nat) : List Pt := l.map (ledBy (rotM (turnI i)))
def q4 (l r : List Pt) : List Nat := (List.range 4).map fun i => bsM (rowsT l i) r
/-- how many of the one a shift lays, in the law's words -/
theorem if_far (oa : Ok n a) (ob : Ok n b) (ow : SOk m s) (hn : n ≤ 1000) {L : D → D → M} (hL : ∀ K : D → Prop, K (gap a b).d → L a.d b.d K Ψ) {P Q : Prop} (p : a ≠ b ∧ gap a b = s → P) (q : ¬ (a ≠ b ∧ gap a b = s) → Q) :
    (andT (cmpT neB (ret a.d) (ret b.d)) (cmpT eqB (c2 L (ret a.d) (ret b.d)) (ret s.d))) (fun t => if t = true then P else Q) Ψ := by
  refine if_of (decide (a ≠ b ∧ gap a b = s)) (fun Θ hΘ => ?_) (fun ht => p (of_decide_eq_true ht)) fun ht => q (of_decide_eq_false ht)
  walk_at "sx"
  by_cases hcd : a = b
  · rw [if_pos hcd]
    rw [decide_eq_false (fun z => z.1 hcd)] at hΘ
    exact hΘ
  · rw [if_neg hcd]
    refine hL _ ?_
    rw [eqB_s]
    have e : decide (a ≠ b ∧ gap a b = s) = decide (gap a b = s) := by
      congr 1
      exact propext ⟨fun z => z.2, fun z => ⟨hcd, z⟩⟩
    rw [← e]; exact hΘ
theorem rowsAB_len : (rowsAB l a b).length ≤ 2 := by unfold rowsAB; split <;> simp
theorem rows_of_w (h : Hp n l) (hn : n ≤ 200) (k : Φ (.lst ((rowsL l).map tupL))) : p_rows_of (.lst (l.map Pt.d)) Φ Ψ := by
  have hle := h.le
  refine ⟨?_⟩
  simp only [c1, ret]
  refine widest_of_w h (by omega) ?_
  simp only [itE, ret, walkD_l]
  have e0 : ([] : List D) = ([] : List (List Pt)).map tupL := rfl
  rw [e0]
  refine forL_acc (γ := List Pt) Pt.d (fun os => os.map tupL) (fun a => l.flatMap fun b => rowsAB l a b) 28 1000 (fun a _ => Nat.le_trans (flat_len fun b _ => rowsAB_len) (Nat.mul_le_mul_right 2 hle)) ?_ ?_ ?_
  · have := Nat.mul_le_mul_right 28 hle
    show 0 + _ ≤ _
    omega
  · intro a ha acc hacc nx br hnx
    refine forL_acc (γ := List Pt) Pt.d (fun os => os.map tupL) (fun b => rowsAB l a b) 2 1000 (fun b _ => rowsAB_len) ?_ ?_ hnx
    · have := Nat.mul_le_mul_right 2 hle
      omega
    · intro b hb acc hacc nx br hnx
      have oa := h.ok a ha; have ob := h.ok b hb
      have ow := h.gap_sok (wid_spec h).2.1
      refine joinLD_w (fun z => z = (acc ++ rowsAB l a b).map tupL) (fun k9 hk => ?_) ?_
      · refine if_far oa ob ow (by omega) (fun K hK => gap_w oa ob (by omega) hK) (fun ht => ?_) fun ht => ?_
        · have er : rowsAB l a b = [ordL (l.map (nf a b)), ordL (l.map fun p => flipped (nf a b p))] := by unfold rowsAB; rw [if_pos ht]
          rw [er] at hk
          have okf : ∀ p ∈ l, Ok (6 * n + 4) (nf a b p) := fun p hp => nf_ok h hp ha hb ht.1
          simp only [lcE, itE, ret, walkD_l]
          refine ⟨by rw [List.length_map]; omega, lcL_mapT Pt.d (fun p => (nf a b p).d) (fun p hp K hK => ?_) ?_⟩
          · have op := h.ok p hp
            exact minus_w op oa (by omega) (minus_w ob oa (by omega) (by_w (minus_ok op oa) (minus_ok ob oa) (diff_nz oa ob (h.nm a ha) (h.nm b hb) ht.1) (by omega) hK))
          have e : [] ++ l.map (fun p => (nf a b p).d) = (l.map (nf a b)).map Pt.d := by rw [List.nil_append, List.map_map]; rfl
          rw [e]
          simp only [una, c1, ret]
          refine in_order_w hl_l (fun q hq => ?_) (n := 6 * n + 4) (by omega) (by rw [List.length_map]; omega) (tupleL (by rw [List.length_map, ordL_len, List.length_map]; omega) ⟨by rw [List.length_map]; omega, ?_⟩)
          · obtain ⟨p, hp, rfl⟩ := List.mem_map.mp hq
            exact okf p hp
          simp only [lcE, itE, ret, walkD_l]
          refine ⟨by rw [List.length_map, List.length_map]; omega, lcL_mapT Pt.d (fun p => (flipped p).d) (fun p hp K hK => flipped_w hK) ?_⟩
          have e2 : [] ++ (l.map (nf a b)).map (fun p => (flipped p).d) = (l.map fun p => flipped (nf a b p)).map Pt.d := by rw [List.nil_append, List.map_map, List.map_map]; rfl
          rw [e2]
          refine in_order_w hl_l (fun q hq => ?_) (n := 6 * n + 4) (by omega) (by rw [List.length_map]; omega) (tupleL (by rw [List.length_map, ordL_len, List.length_map]; omega) ⟨by simp; omega, hk _ ?_⟩)
          · obtain ⟨p, hp, rfl⟩ := List.mem_map.mp hq
            exact flipped_ok (okf p hp)
          · rw [List.map_append, List.append_assoc]; rfl
        · have er : rowsAB l a b = [] := by unfold rowsAB; rw [if_neg ht]
          rw [er, List.append_nil] at hk
          exact hk _ rfl
      · rintro _ rfl
        exact hnx
  · rw [List.nil_append]
    exact k
theorem shape_w (h : Hp n l) (hn : n ≤ 200) (k : Φ (tupL (shapeL l))) : p_shape (.lst (l.map Pt.d)) Φ Ψ := by
  refine ⟨?_⟩
  simp only [c1, ret, lstE, consA, nilA]
  refine look_heap1 h hl_l (rows_of_w h hn ?_)
  have rok := fun o (ho : o ∈ rowsL l) => row_len h ho
  have hsm := rows_small h
  match hr : rowsL l, rows_ne h with
  | o :: rows, _ =>
    have e : shapeL l = (o :: rows).foldl rmin o := by unfold shapeL; rw [hr]; rfl
    rw [hr] at rok
    rw [e] at k
    show ixD (.lst (tupL o :: rows.map tupL)) (.int 0) _
    rw [ixC0]
    simp only [itE, ret, walkD_l]
    refine forL_fold tupL tupL rmin (fun b => ∀ p ∈ b, Ok (6 * n + 4) p) (fun p hp => ((rok o List.mem_cons_self).2 p hp).1) (fun b hb z hz p hp => ?_) (fun z hz b hb nx hnx => ?_) k
    · unfold rmin at hp
      split at hp
      · exact ((rok z hz).2 p hp).1
      · exact hb p hp
    · refine joinD_w (fun d => d = tupL (rmin b z)) (fun k9 hk => ?_) ?_
      · refine if_of (firstB z b) (fun Θ hΘ => ?_) (fun ht => ?_) fun ht => ?_
        · simp only [tv, c2, ret]
          exact comes_first_w (fun p hp => ((rok z hz).2 p hp).1) hb (by omega) (by rw [bv_b]; exact hΘ)
        · exact hk _ (by unfold rmin; rw [if_pos ht])
        · exact hk _ (by unfold rmin; rw [if_neg (by rw [ht]; decide)])
      · rintro _ rfl
        exact hnx
theorem shp_form {n : Nat} {s : Sh} {o : List Pt} : D.shp (n + 3) (.tup [s.d, tupL o]) = true := by
  show D.shp (n + 2 + 1) (.tup _) = true
  rw [shp_tup, shpA_cons, shpA_cons, shp_tupL, shp_sh (n + 1)]; rfl
theorem form_w (h : Hp n l) (hn : n ≤ 200) (k : Φ (.tup [(widS l).d, tupL (shapeL l)])) : p_form (.lst (l.map Pt.d)) Φ Ψ := by
  refine ⟨?_⟩
  simp only [c1, ret, lstE, consA, nilA, tupE]
  exact look_heap1 h hl_l (widest_of_w h (by omega) (shape_w h hn k))
theorem deq_tupL {o u : List Pt} : deq (tupL o) (tupL u) = decide (o = u) := deq_ptsT
theorem deq_form {s u : Sh} {o v : List Pt} : deq (.tup [s.d, tupL o]) (.tup [u.d, tupL v]) = (decide (s = u) && decide (o = v)) := by
  rw [deq_tup, eqvA_cons, eqvA_cons, eqvA_nil, deq_sh, deq_tupL, Bool.and_true]
theorem eqB_form {s u : Sh} {o v : List Pt} {Θ : Bool → Prop} (h : Θ (decide (s = u) && decide (o = v))) : eqB (.tup [s.d, tupL o]) (.tup [u.d, tupL v]) Θ := ⟨⟨shp_form (n := 37), shp_form (n := 37)⟩, by rw [deq_form]; exact h⟩
end
end G
/-! B1: what the album's methods answer -/
namespace G
open PySem PySem.Spec L2 PyProof.Rows
section
variable {Φ : D → Prop} {Ψ : Str → Prop} {Θ : Bool → Prop} {A : Alb} {d e n x y : D} {s : Str}
theorem isA_d : A.d.isA = true := by
  show D.isA (.obj (if A.past.isEmpty = true then 1 else 2) [] _) = true
  cases A.past.isEmpty <;> rfl
theorem fldS_d : fldS A.d Φ = Φ (tdD A.st) := by
  show fldS (.obj (if A.past.isEmpty = true then 1 else 2) [] _) Φ = _
  cases A.past.isEmpty <;> rfl
theorem fldM_d : fldM A.d Φ = Φ (tdD A.ma) := by
  show fldM (.obj (if A.past.isEmpty = true then 1 else 2) [] _) Φ = _
  cases A.past.isEmpty <;> rfl
abbrev keysT (S : TD) : List Str := S.map (·.1)
def atT (S : TD) (s : Str) : Option D := tGet (keysT S) (S.map (·.2)) s
theorem or_q {a b : MB} {K : Bool → Prop} (ka : Bool) (ha : ∀ Θ : Bool → Prop, Θ ka → a Θ Ψ) (h1 : ka = true → K true) (h2 : ka = false → b K Ψ) : orT a b K Ψ := by
  unfold orT
  refine ha _ ?_
  cases ka
  · exact h2 rfl
  · exact h1 rfl
theorem isS_of (hq : n.nopq = true) {K : Bool → Prop} (h : K (!n.isS)) : notT (tv (una (isiD D.isS) (ret n))) K Ψ := ⟨hq, h⟩
theorem cmpT_r {op : D → D → (Bool → Prop) → Prop} : cmpT op (ret x) (ret y) Θ Ψ = op x y Θ := rfl
/-- a name that is none: not a text, or the empty one -/
structure NoN (n : D) : Prop where
  q : n.nopq = true
  s : D.shp 40 n = true
  b : n.isS = false ∨ n = .str ""
theorem put_name (h : NoN n) (k : Ψ "BadName") : p_Album_put x n d Φ Ψ := by
  refine ⟨?_⟩
  refine or_q (!n.isS) (fun Θ hΘ => isS_of h.q hΘ) (fun _ => k) fun e => ?_
  rcases h.b with h2 | rfl
  · rw [h2] at e; cases e
  · rw [cmpT_r]
    refine eqB_str (x := "") (y := "") (by decide +kernel) (by decide +kernel) ?_
    exact k
theorem put_heap (hs : PyData.strOk s = true) (hne : s ≠ "") (hx : RowH d) (he : isHp d = false) (k : Ψ "BadHeap") : p_Album_put x (.str s) d Φ Ψ := by
  refine ⟨?_⟩
  refine or_q false (fun Θ hΘ => isS_of rfl hΘ) (fun e => nomatch e) fun _ => ?_
  rw [cmpT_r]
  refine eqB_str (x := s) (y := "") hs (by decide +kernel) ?_
  rw [decide_eq_false hne, if_neg (by decide)]
  exact look_heaps_any (by simp) (fun z hz => by rw [List.mem_singleton.mp hz]; exact hx) (fun z => by simp [he] at z) fun _ => k
theorem there_bad (hq : n.nopq = true) (h : ∀ s, n = .str s → s ∉ keysT A.st) (k : Ψ "BadName") : p_Album_look_there A.d n Φ Ψ := by
  refine ⟨?_⟩
  refine or_q (!n.isS) (fun Θ hΘ => isS_of hq hΘ) (fun _ => k) fun e => ?_
  cases n with
  | str s =>
    show fldS A.d fun y => ninTB (.str s) y _
    rw [fldS_d]
    show (fun b => if b = true then _ else _) (!decide (s ∈ keysT A.st))
    rw [decide_eq_false (h s rfl)]
    exact k
  | _ => cases e
theorem there_ok (h : s ∈ keysT A.st) (k : Φ .non) : p_Album_look_there A.d (.str s) Φ Ψ := by
  refine ⟨?_⟩
  refine or_q false (fun Θ hΘ => isS_of rfl hΘ) (fun e => nomatch e) fun _ => ?_
  show fldS A.d fun y => ninTB (.str s) y _
  rw [fldS_d]
  show (fun b => if b = true then _ else _) (!decide (s ∈ keysT A.st))
  rw [decide_eq_true h]
  exact k
theorem named_w (t : Str → Bool) (hl : A.ma.length < 64) (ht : ∀ s ∈ keysT A.ma, ∃ e, atT A.ma s = some e ∧ ∀ Θ : Bool → Prop, Θ (t s) → eqB e d Θ) (k : ∀ ys : List Str, ys.Perm ((keysT A.ma).filter t) → sortedS ys = true → Φ (.lst (ys.map D.str))) : p_Album_named A.d d Φ Ψ := by
  refine ⟨?_⟩
  show fldM A.d (fun z => walkTD z fun ds => ds.length ≤ 100000 ∧ lcL _ ds [] fun ys => sortTD (.lst ys) Φ)
  rw [fldM_d]
  refine ⟨by rw [List.length_map, List.length_map]; omega, ?_⟩
  refine lcL_filterT D.str D.str t (fun s hs K hK => ?_) ?_
  · obtain ⟨e, h1, h2⟩ := ht s hs
    show fldM A.d (fun z => ixTD z (.str s) fun u => eqB u d fun b => if b = true then K (some (.str s)) else K none)
    rw [fldM_d]
    refine ⟨e, h1, h2 _ ?_⟩
    cases q : t s with
    | true => rw [q] at hK; exact hK
    | false => rw [q] at hK; exact hK
  · rw [List.nil_append]
    refine ⟨(keysT A.ma).filter t, .inr rfl, Nat.lt_of_le_of_lt (List.length_filter_le _ _) (by rw [List.length_map]; exact hl), k⟩
theorem names_w (hl : A.st.length < 64) (k : ∀ ys : List Str, ys.Perm (keysT A.st) → sortedS ys = true → Φ (.lst (ys.map D.str))) : p_Album_names A.d Φ Ψ := by
  refine ⟨?_⟩
  show fldS A.d fun z => sortTD z Φ
  rw [fldS_d]
  exact ⟨keysT A.st, .inl ⟨_, rfl⟩, by rw [List.length_map]; exact hl, k⟩
theorem len_w (k : Φ (.int A.st.length)) : p_Album___len__ A.d Φ Ψ := by
  refine ⟨?_⟩
  show fldS A.d fun z => lnTD z Φ
  rw [fldS_d]
  show Φ (.int ((A.st.map (·.1)).length : Nat))
  rw [List.length_map]; exact k
theorem lenA_w (hl : A.st.length ≤ 100000) (k : Φ (.int A.st.length)) : lnAlb p_Album___len__ A.d Φ := ⟨isA_d, len_w ⟨_, rfl, hl, k⟩⟩
theorem shown_w (h : atT A.st s = some e) (hm : s ∈ keysT A.st) (k : Φ e) : p_Album_shown A.d (.str s) Φ Ψ := by
  refine ⟨?_⟩
  show A.d.isA = true ∧ p_Album_look_there A.d (.str s) _ Ψ
  refine ⟨isA_d, there_ok hm ?_⟩
  show fldS A.d fun z => ixTD z (.str s) Φ
  rw [fldS_d]
  exact ⟨e, h, k⟩
theorem shown_bad (hq : n.nopq = true) (h : ∀ s, n = .str s → s ∉ keysT A.st) (k : Ψ "BadName") : p_Album_shown A.d n Φ Ψ := ⟨⟨isA_d, there_bad hq h k⟩⟩
theorem drop_bad (hq : n.nopq = true) (h : ∀ s, n = .str s → s ∉ keysT A.st) (k : Ψ "BadName") : p_Album_drop A.d n Φ Ψ := ⟨⟨isA_d, there_bad hq h k⟩⟩
theorem move_name (hq : n.nopq = true) (h : ∀ s, n = .str s → s ∉ keysT A.st) (k : Ψ "BadName") : p_Album_move A.d n d Φ Ψ := ⟨⟨isA_d, there_bad hq h k⟩⟩
theorem move_mo (hm : s ∈ keysT A.st) (h : BadM d) (k : Ψ "BadMotion") : p_Album_move A.d (.str s) d Φ Ψ := ⟨⟨isA_d, there_ok hm (h.look k)⟩⟩
theorem way_bad (hq : n.nopq = true) (h : ∀ s, n = .str s → s ∉ keysT A.st) (k : Ψ "BadName") : p_Album_way A.d n d Φ Ψ := ⟨⟨isA_d, there_bad hq h k⟩⟩
theorem way_bad2 (hm : s ∈ keysT A.st) (hq : n.nopq = true) (h : ∀ s, n = .str s → s ∉ keysT A.st) (k : Ψ "BadName") : p_Album_way A.d (.str s) n Φ Ψ := ⟨⟨isA_d, there_ok hm ⟨isA_d, there_bad hq h k⟩⟩⟩
theorem way_none {u : Str} {l r : List Pt} {n m : Nat} (hm : s ∈ keysT A.st) (hm2 : u ∈ keysT A.st) (h1 : atT A.st s = some (.tup (l.map Pt.d))) (h2 : atT A.st u = some (.tup (r.map Pt.d))) (hl : Hp n l) (hr : Hp m r) (hn : n ≤ 60) (hmm : m ≤ 60) (e : layL l r = []) (k : Ψ "NoThing") : p_Album_way A.d (.str s) (.str u) Φ Ψ := by
  refine ⟨⟨isA_d, there_ok hm ⟨isA_d, there_ok hm2 ?_⟩⟩⟩
  show fldS A.d fun z => ixTD z (.str s) fun v => fldS A.d fun z => ixTD z (.str u) fun w => p_all_laying v w _ Ψ
  rw [fldS_d]
  refine ⟨_, h1, ?_⟩
  show fldS A.d fun z => ixTD z (.str u) fun w => p_all_laying _ w _ Ψ
  rw [fldS_d]
  refine ⟨_, h2, all_laying_w hl hl_t hr hl_t hn hmm ?_⟩
  rw [e]
  rw [cmpT_r]
  refine eqB_mos (l := []) (r := []) ?_
  exact k
theorem find_w {l : List Pt} {n : Nat} (t : Str → Bool) (hl : Hp n l) (hn : n ≤ 200) (hm : A.ma.length < 64) (ht : ∀ s ∈ keysT A.ma, ∃ e, atT A.ma s = some e ∧ ∀ Θ : Bool → Prop, Θ (t s) → eqB e (.tup [(widS l).d, tupL (shapeL l)]) Θ)
    (k : ∀ ys : List Str, ys.Perm ((keysT A.ma).filter t) → sortedS ys = true → Φ (.lst (ys.map D.str))) : p_Album_find A.d (.lst (l.map Pt.d)) Φ Ψ := by
  refine ⟨look_heap1 hl hl_l ?_⟩
  exact ⟨isA_d, form_w hl hn (named_w t hm ht k)⟩
theorem find_bad (hx : RowH d) (he : isHp d = false) (k : Ψ "BadHeap") : p_Album_find x d Φ Ψ :=
  ⟨look_heaps_any (by simp) (fun z hz => by rw [List.mem_singleton.mp hz]; exact hx) (fun z => by simp [he] at z) fun _ => k⟩
theorem finds_bad (hx : RowH d) (he : isHp d = false) (k : Ψ "BadHeap") : p_Album_find_shape x d Φ Ψ :=
  ⟨look_heaps_any (by simp) (fun z hz => by rw [List.mem_singleton.mp hz]; exact hx) (fun z => by simp [he] at z) fun _ => k⟩
theorem tupL_eqB {o v : List Pt} (h : Θ (decide (o = v))) : eqB (tupL o) (tupL v) Θ := ⟨⟨shp40_ptsT, shp40_ptsT⟩, by rw [show deq (tupL o) (tupL v) = decide (o = v) from deq_ptsT]; exact h⟩
theorem finds_w {l : List Pt} {n : Nat} (t : Str → Bool) (hl : Hp n l) (hn : n ≤ 200) (hm : A.ma.length < 64) (ht : ∀ s ∈ keysT A.ma, ∃ w o, atT A.ma s = some (.tup [w, tupL o]) ∧ t s = decide (o = shapeL l))
    (k : ∀ ys : List Str, ys.Perm ((keysT A.ma).filter t) → sortedS ys = true → Φ (.lst (ys.map D.str))) : p_Album_find_shape A.d (.lst (l.map Pt.d)) Φ Ψ := by
  refine ⟨look_heap1 hl hl_l (shape_w hl hn ?_)⟩
  show fldM A.d (fun z => walkTD z fun ds => ds.length ≤ 100000 ∧ lcL _ ds [] fun ys => sortTD (.lst ys) Φ)
  rw [fldM_d]
  refine ⟨by rw [List.length_map, List.length_map]; omega, ?_⟩
  refine lcL_filterT D.str D.str t (fun s hs K hK => ?_) ?_
  · obtain ⟨w, o, h1, h2⟩ := ht s hs
    show fldM A.d (fun z => ixTD z (.str s) fun u => ixD u (.int 1) fun v => eqB v (tupL (shapeL l)) fun b => if b = true then K (some (.str s)) else K none)
    rw [fldM_d]
    refine ⟨_, h1, ?_⟩
    show eqB (tupL o) (tupL (shapeL l)) fun b => if b = true then K (some (.str s)) else K none
    refine tupL_eqB ?_
    rw [← h2]
    cases q : t s with
    | true => rw [q] at hK; exact hK
    | false => rw [q] at hK; exact hK
  · rw [List.nil_append]
    refine ⟨(keysT A.ma).filter t, .inr rfl, Nat.lt_of_le_of_lt (List.length_filter_le _ _) (by rw [List.length_map]; exact hm), k⟩
theorem undo_none (h : A.past = []) (k : Ψ "NoThing") : p_Album_undo A.d Φ Ψ := by
  refine ⟨?_⟩
  obtain ⟨st, ma, ps⟩ := A
  cases h
  exact k
end
end G
namespace G
open PySem PySem.Spec L2
structure p_k21 (script1 : D) (Φ : D → Prop) (Ψ : Str → Prop) : Prop where run ::
  go : (c1 p_law_town (ret script1)) (fun town_here2 => (consA (ret (.tup [.int 0, .int 0, .int 1])) (consA (tupE (consA (bin addD (ret (.int 1)) (c2 p_law_draw (ret town_here2) (ret (.int 3)))) (consA (ret (.int 0)) (consA (ret (.int 1)) nilA)))) nilA)) (fun heap_a3 => List.length (α := D) heap_a3 ≤ 100000 ∧ (c1 p_law_motion (ret town_here2)) (fun motion_here4 => (botT (orT (cmpT neB (c4 p_law_asked (ret (Alb.d (⟨[], [], []⟩ : Alb))) (ret (.int 7)) (ret (.int 0)) (ret (.int 0))) (ret (.str "none"))) (orT (cmpT neB (mt0 p_Album_names (ret (Alb.d (⟨[], [], []⟩ : Alb)))) (ret (.lst []))) (orT (cmpT neB (mt0 p_Album_groups (ret (Alb.d (⟨[], [], []⟩ : Alb)))) (ret (.lst []))) (cmpT neB (mt1 p_Album_find (ret (Alb.d (⟨[], [], []⟩ : Alb))) (ret (.lst heap_a3))) (ret (.lst []))))))) (fun b => if b = true then ((ret (.bl false)) Φ Ψ) else ((itE (ret (.lst [.non, .int 5, .str "", .lst [.str "a"], .tup [.str "a"]]))) (fun ds => forL (fun bad39 (s5 : Unit) nx37 br38 => (botT (orT (cmpT neB (c4 p_law_asked (ret (Alb.d (⟨[], [], []⟩ : Alb))) (ret (.int 0)) (ret bad39) (ret (.non))) (ret (.str "name"))) (cmpT neB (lcE (rng2 (ret (.int 1)) (ret (.int 5))) (fun k42 k40 => (c4 p_law_asked (ret (Alb.d (⟨[], [], []⟩ : Alb))) (ret k42) (ret bad39) (ret (.non))) (fun y41 => k40 (some y41)) bot)) (bin mulD (ret (.lst [.str "name"])) (ret (.int 4)))))) (fun b => if b = true then ((ret (.bl false)) Φ Ψ) else (nx37 ())) Ψ) (fun (s7 : Unit) => (itE (lstE (consA (ret (.non)) (consA (ret (.int 5)) (consA (slE (ret (.lst heap_a3)) noneO (someO (ret (.int 1)))) (consA (bin addD (ret (.lst heap_a3)) (ret (.lst heap_a3))) nilA)))))) (fun ds => forL (fun bad33 (s9 : Unit) nx31 br32 => (botT (orT (cmpT neB (c4 p_law_asked (ret (Alb.d (⟨[], [], []⟩ : Alb))) (ret (.int 0)) (ret (.str "a")) (ret bad33)) (ret (.str "heap"))) (cmpT neB (lcE (itE (ret (.lst [.int 5, .int 6]))) (fun k36 k34 => (c4 p_law_asked (ret (Alb.d (⟨[], [], []⟩ : Alb))) (ret k36) (ret (.int 0)) (ret bad33)) (fun y35 => k34 (some y35)) bot)) (bin mulD (ret (.lst [.str "heap"])) (ret (.int 2)))))) (fun b => if b = true then ((ret (.bl false)) Φ Ψ) else (nx31 ())) Ψ) (fun (s11 : Unit) => (ret (.str "a")) (fun u14 => o_Album_put (⟨[], [], []⟩ : Alb) u14 (.lst heap_a3) (fun A13 _ => Alb.gnd A13 = true ∧ ((ret (.tup [.int 9, .int 9, .int 1])) (fun d15 => List.length (α := D) heap_a3 ≤ 100000 ∧ (itE (lstE (consA (ret (.non)) (consA (ret (.int 5)) (consA (slE (ret motion_here4) noneO (someO (ret (.int 2)))) nilA))))) (fun ds => forL (fun bad30 (s16 : Unit) nx28 br29 => (botT (orT (cmpT neB (c4 p_law_asked (ret (Alb.d A13)) (ret (.int 3)) (ret (.str "a")) (ret bad30)) (ret (.str "motion"))) (cmpT neB (c4 p_law_asked (ret (Alb.d A13)) (ret (.int 3)) (ret (.str "z")) (ret bad30)) (ret (.str "name"))))) (fun b => if b = true then ((ret (.bl false)) Φ Ψ) else (nx28 ())) Ψ) (fun (s18 : Unit) => (botT (orT (cmpT neB (lcE (itE (ret (.lst [.int 1, .int 2, .int 4]))) (fun k22 k20 => (c4 p_law_asked (ret (Alb.d A13)) (ret k22) (ret (.str "z")) (ret (.str "a"))) (fun y21 => k20 (some y21)) bot)) (bin mulD (ret (.lst [.str "name"])) (ret (.int 3)))) (cmpT neB (c4 p_law_asked (ret (Alb.d A13)) (ret (.int 4)) (ret (.str "a")) (ret (.str "z"))) (ret (.str "name"))))) (fun b => if b = true then ((ret (.bl false)) Φ Ψ) else ((botT (orT (cmpT neB (una (lnAlb p_Album___len__) (ret (Alb.d A13))) (ret (.int 1))) (cmpT neB (mt1 p_Album_shown (ret (Alb.d A13)) (ret (.str "a"))) (una tupleD (slE (ret (.lst (heap_a3 ++ [d15]))) noneO (someO (ret (.int 2)))))))) (fun b => if b = true then ((ret (.bl false)) Φ Ψ) else ((ret (.str "b")) (fun u24 => (ret (.lst [.tup [.int 0, .int 0, .int 1], .tup [.int 9, .int 9, .int 1]])) (fun u25 => o_Album_put A13 u24 u25 (fun A23 _ => (botT (orT (cmpT neB (c4 p_law_asked (ret (Alb.d A23)) (ret (.int 4)) (ret (.str "a")) (ret (.str "b"))) (ret (.str "none"))) (cmpT neB (mt1 p_Album_find_shape (ret (Alb.d A23)) (ret (.lst [.tup [.int 5, .int 5, .int 1], .tup [.int 6, .int 7, .int 2]]))) (ret (.lst [.str "a", .str "b"]))))) (fun b => if b = true then ((ret (.bl false)) Φ Ψ) else (o_Album_undo A23 (fun A26 _ => o_Album_undo A26 (fun A27 _ => (flatM (botX (andV (cmpV eqB (c4 p_law_asked (ret (Alb.d A27)) (ret (.int 7)) (ret (.int 0)) (ret (.int 0))) (ret (.str "none"))) (cmpV eqB (una (lnAlb p_Album___len__) (ret (Alb.d A27))) (ret (.int 0)))))) Φ Ψ)))) Ψ)) Ψ) Ψ)) Ψ)) Ψ) ds ()) Ψ) Ψ))) Ψ) ds ()) Ψ) ds ()) Ψ)) Ψ) Ψ) Ψ) Ψ
end G
namespace G
open PySem PySem.Spec L2 PyProof.Rows
section
variable {Φ : D → Prop} {Ψ : Str → Prop} {Θ : Bool → Prop} {A : Alb} {d e x y b c k : D} {s z : Str} {l : List Pt} {n m : Nat}
abbrev formD (l : List Pt) : D := .tup [(widS l).d, tupL (shapeL l)]
theorem asked_ref (hz : z ∈ excN) (h : ∀ (Φ : D → Prop) (Ψ : Str → Prop), Ψ z → p_law_does x k b c Φ Ψ) (kk : Φ (.str (refN z))) : p_law_asked x k b c Φ Ψ := ⟨h _ _ ⟨hz, caught_w hz kk⟩⟩
theorem is_yes {i j : Int} (e : i = j) {P Q : Prop} (p : P) : cmpT eqB (ret (.int i)) (ret (.int j)) (fun b => if b = true then P else Q) Ψ := by
  rw [cmpT_r, eqB_i, decide_eq_true e]; exact p
theorem is_not {i j : Int} (e : ¬ i = j) {P Q : Prop} (p : Q) : cmpT eqB (ret (.int i)) (ret (.int j)) (fun b => if b = true then P else Q) Ψ := by
  rw [cmpT_r, eqB_i, decide_eq_false e]; exact p
theorem does0 (hA : x.isA = true) (h : p_Album_put x b c Φ Ψ) : p_law_does x (.int 0) b c Φ Ψ := ⟨is_yes rfl ⟨hA, h⟩⟩
theorem does1 (hA : x.isA = true) (h : p_Album_drop x b Φ Ψ) : p_law_does x (.int 1) b c Φ Ψ := ⟨is_not (by decide) (is_yes rfl ⟨hA, h⟩)⟩
theorem does2 (hA : x.isA = true) (h : p_Album_shown x b Φ Ψ) : p_law_does x (.int 2) b c Φ Ψ := ⟨is_not (by decide) (is_not (by decide) (is_yes rfl ⟨hA, h⟩))⟩
theorem does3 (hA : x.isA = true) (h : p_Album_move x b c Φ Ψ) : p_law_does x (.int 3) b c Φ Ψ := ⟨is_not (by decide) (is_not (by decide) (is_not (by decide) (is_yes rfl ⟨hA, h⟩)))⟩
theorem does4 (hA : x.isA = true) (h : p_Album_way x b c Φ Ψ) : p_law_does x (.int 4) b c Φ Ψ := ⟨is_not (by decide) (is_not (by decide) (is_not (by decide) (is_not (by decide) (is_yes rfl ⟨hA, h⟩))))⟩
theorem does5 (hA : x.isA = true) (h : p_Album_find x c Φ Ψ) : p_law_does x (.int 5) b c Φ Ψ := ⟨is_not (by decide) (is_not (by decide) (is_not (by decide) (is_not (by decide) (is_not (by decide) (is_yes rfl ⟨hA, h⟩)))))⟩
theorem does6 (hA : x.isA = true) (h : p_Album_find_shape x c Φ Ψ) : p_law_does x (.int 6) b c Φ Ψ := ⟨is_not (by decide) (is_not (by decide) (is_not (by decide) (is_not (by decide) (is_not (by decide) (is_not (by decide) (is_yes rfl ⟨hA, h⟩))))))⟩
theorem does7 (hA : x.isA = true) (h : p_Album_undo x Φ Ψ) : p_law_does x (.int 7) b c Φ Ψ := ⟨is_not (by decide) (is_not (by decide) (is_not (by decide) (is_not (by decide) (is_not (by decide) (is_not (by decide) (is_not (by decide) ⟨hA, h⟩))))))⟩
theorem lcE_r {it : MA} {f : D → (Option D → Prop) → Prop} : lcE it f Φ Ψ = it (fun ds => ds.length ≤ 100000 ∧ lcL f ds [] fun ys => Φ (.lst ys)) Ψ := rfl
theorem ret_putI {A : Alb} {x : D} {K : List D → Prop} (h : ixTD (tdD A.ma) x fun v => p_Album_named A.d v (fun d => walkD d K) Ψ) : itE (mt1 p_Album_named (ret A.d) (bin ixTD (una fldM (ret A.d)) (ret x))) K Ψ := by
  refine (show D.isA A.d = true ∧ fldM A.d (fun m => ixTD m x fun v => p_Album_named A.d v (fun d => walkD d K) Ψ) from ⟨isA_d, ?_⟩)
  rw [fldM_d]
  exact h
/-- put, of one's own album -/
theorem putO_w {Φ : Alb → D → Prop} (t : Str → Bool) (hs : PyData.strOk s = true) (hne : s ≠ "") (hl : Hp n l) (hn : n ≤ 200) (hp : A.past.length ≤ 100000) (hst : A.st.length ≤ 100000) (hma : A.ma.length ≤ 62) (hm2 : (tPut A.ma s (formD l)).length < 64)
    (hok : ∀ u ∈ keysT (tPut A.ma s (formD l)), PyData.strOk u = true) (hat : atT (tPut A.ma s (formD l)) s = some (formD l)) (ht : ∀ u ∈ keysT (tPut A.ma s (formD l)), ∃ e, atT (tPut A.ma s (formD l)) u = some e ∧ ∀ Θ : Bool → Prop, Θ (t u) → eqB e (formD l) Θ)
    (k : ∀ z, Φ ⟨tPut A.st s (.tup ((ordL l).map Pt.d)), tPut A.ma s (formD l), (A.st, A.ma) :: A.past⟩ z) : o_Album_put A (.str s) (.lst (l.map Pt.d)) Φ := by
  refine ⟨?_⟩
  refine or_q false (fun Θ hΘ => isS_of rfl hΘ) (fun e => nomatch e) fun _ => ?_
  rw [cmpT_r]
  refine eqB_str (x := s) (y := "") hs (by decide +kernel) ?_
  rw [decide_eq_false hne, if_neg (by decide)]
  refine look_heap1 hl hl_l ⟨hp, ?_⟩
  refine heap_w hl hl_l (by omega) ⟨s, rfl, hst, fun S hS => ?_⟩
  subst hS
  refine form_w hl hn ⟨s, rfl, by show A.ma.length ≤ 100000; omega, fun S hS => ?_⟩
  subst hS
  refine ⟨by simp, ?_⟩
  rw [lcE_r]
  refine ret_putI ?_
  refine ⟨_, hat, named_w t hm2 ht fun ys hpm hsr => ?_⟩
  have hys : ∀ u ∈ ys, PyData.strOk u = true := fun u hu => hok u (List.mem_filter.mp (hpm.mem_iff.mp hu)).1
  refine ⟨?_, ?_⟩
  · rw [List.length_map, hpm.length_eq]
    refine Nat.le_trans (List.length_filter_le _ _) ?_
    rw [List.length_map]
    exact Nat.le_trans (Nat.le_of_lt hm2) (by decide)
  · refine lcL_filterT D.str D.str (fun u => !decide (u = s)) (fun u hu K hK => ?_) ⟨⟨_, rfl⟩, k _⟩
    show cmpT neB (ret (.str u)) (ret (.str s)) _ _
    rw [cmpT_r]
    refine neB_str (hys u hu) hs ?_
    cases q : (!decide (u = s)) with
    | true => rw [q] at hK; exact hK
    | false => rw [q] at hK; exact hK
theorem undoO_w {Φ : Alb → D → Prop} {T : TD × TD} {ps : List (TD × TD)} (h : A.past = T :: ps) (k : Φ ⟨T.1, T.2, ps⟩ .non) : o_Album_undo A Φ := by
  refine ⟨?_⟩
  obtain ⟨st, ma, pa⟩ := A
  cases h
  exact ⟨T, ps, rfl, k⟩
theorem groups_nil (h : A.st = []) (k : Φ (.lst [])) : p_Album_groups A.d Φ Ψ := by
  refine ⟨?_⟩
  show fldS A.d fun z => sortTD z fun w => walkD w _
  rw [fldS_d, h]
  refine ⟨[], .inl ⟨_, rfl⟩, by decide, fun ys hp _ => ?_⟩
  rw [List.Perm.eq_nil hp]
  exact k
/-! ### the heaps of this law -/
def lA (c : Int) : List Pt := [⟨0, 0, 1⟩, ⟨c, 0, 1⟩]
def lB : List Pt := [⟨0, 0, 1⟩, ⟨9, 9, 1⟩]
def lC : List Pt := [⟨5, 5, 1⟩, ⟨6, 7, 2⟩]
theorem hp_of {l : List Pt} (h : (l.all fun p => decide (Norm p) && (decide (p.x.natAbs < 2 ^ 6) && (decide (p.y.natAbs < 2 ^ 6) && (decide (p.w.natAbs < 2 ^ 6) && decide (0 < p.w))))) = true) (nd : l.Nodup) (h2 : 2 ≤ l.length) (h14 : l.length ≤ 14) : Hp 6 l := by
  rw [List.all_eq_true] at h
  have key : ∀ p ∈ l, Norm p ∧ p.x.natAbs < 2 ^ 6 ∧ p.y.natAbs < 2 ^ 6 ∧ p.w.natAbs < 2 ^ 6 ∧ 0 < p.w := fun p hp => by
    have z := h p hp
    simp only [Bool.and_eq_true, decide_eq_true_eq] at z
    exact z
  exact ⟨fun p hp => (key p hp).1, fun p hp => ⟨(key p hp).2.1, (key p hp).2.2.1, (key p hp).2.2.2.1, (key p hp).2.2.2.2⟩, nd, h2, h14⟩
theorem hpA {c : Int} (h : c = 1 ∨ c = 2 ∨ c = 3) : Hp 6 (lA c) := by rcases h with rfl | rfl | rfl <;> exact hp_of (by decide +kernel) (by decide +kernel) (by decide) (by decide)
theorem hpB : Hp 6 lB := hp_of (by decide +kernel) (by decide +kernel) (by decide) (by decide)
theorem hpC : Hp 6 lC := hp_of (by decide +kernel) (by decide +kernel) (by decide) (by decide)
theorem ordA {c : Int} (h : c = 1 ∨ c = 2 ∨ c = 3) : ordL (lA c) = lA c := by rcases h with rfl | rfl | rfl <;> decide +kernel
theorem ordB : ordL lB = lB := by decide +kernel
theorem shAB {c : Int} (h : c = 1 ∨ c = 2 ∨ c = 3) : shapeL (lA c) = shapeL lC := by rcases h with rfl | rfl | rfl <;> decide +kernel
theorem shBC : shapeL lB = shapeL lC := by decide +kernel
theorem wiAB {c : Int} (h : c = 1 ∨ c = 2 ∨ c = 3) : widS (lA c) ≠ widS lB := by rcases h with rfl | rfl | rfl <;> decide +kernel
theorem layAB {c : Int} (h : c = 1 ∨ c = 2 ∨ c = 3) : layL (lA c) lB = [] := Classical.byContradiction fun z => wiAB h (lay_form (hpA h) hpB z).1
/-- the album behind one deed, behind two -/
def A1 (c : Int) : Alb := ⟨[("a", .tup ((lA c).map Pt.d))], [("a", formD (lA c))], [([], [])]⟩
def A2 (c : Int) : Alb := ⟨[("a", .tup ((lA c).map Pt.d)), ("b", .tup (lB.map Pt.d))], [("a", formD (lA c)), ("b", formD lB)], [((A1 c).st, (A1 c).ma), ([], [])]⟩
theorem eqB_formD {l r : List Pt} (h : Θ (decide (widS l = widS r) && decide (shapeL l = shapeL r))) : eqB (formD l) (formD r) Θ := eqB_form h
theorem gnd_pts : ∀ {l : List Pt}, D.gndA (l.map Pt.d) = true
  | [] => rfl
  | p :: l => by
    show (D.gnd p.d && D.gndA (l.map Pt.d)) = true
    rw [gnd_pts]; rfl
theorem gnd_form {l : List Pt} : D.gnd (formD l) = true := by
  show (D.gnd (widS l).d && (D.gnd (tupL (shapeL l)) && true)) = true
  rw [show D.gnd (tupL (shapeL l)) = true from gnd_pts]; rfl
theorem gnd1 {c : Int} : (A1 c).gnd = true := by
  show (gndT [("a", D.tup ((lA c).map Pt.d))] && (gndT [("a", formD (lA c))] && gndP [([], [])])) = true
  have h1 : gndT [(("a" : Str), D.tup ((lA c).map Pt.d))] = true := by
    show (D.gndA ((lA c).map Pt.d) && true) = true
    rw [gnd_pts]; rfl
  have h2 : gndT [(("a" : Str), formD (lA c))] = true := by
    show (D.gnd (formD (lA c)) && true) = true
    rw [gnd_form]; rfl
  rw [h1, h2]; rfl
theorem put1_w {c : Int} {Φ : Alb → D → Prop} (h : c = 1 ∨ c = 2 ∨ c = 3) (k : ∀ z, Φ (A1 c) z) : o_Album_put ⟨[], [], []⟩ (.str "a") (.lst ((lA c).map Pt.d)) Φ := by
  refine putO_w (fun _ => true) (by decide +kernel) (by decide) (hpA h) (by decide) (by decide) (by decide) (by decide) (by show 1 < 64; decide) (fun u hu => ?_) rfl (fun u hu => ?_) fun z => ?_
  · rw [List.mem_singleton.mp (show u ∈ [("a" : Str)] from hu)]; decide +kernel
  · rw [List.mem_singleton.mp (show u ∈ [("a" : Str)] from hu)]
    exact ⟨_, rfl, fun Θ hΘ => eqB_same (shp_form (n := 37)) hΘ⟩
  · rw [ordA h]; exact k z
theorem put2_w {c : Int} {Φ : Alb → D → Prop} (h : c = 1 ∨ c = 2 ∨ c = 3) (k : ∀ z, Φ (A2 c) z) : o_Album_put (A1 c) (.str "b") (.lst (lB.map Pt.d)) Φ := by
  refine putO_w (fun s => decide (s = "b")) (by decide +kernel) (by decide) hpB (by decide) (by show 1 ≤ 100000; decide) (by show 1 ≤ 100000; decide) (by show 1 ≤ 62; decide) (by show 2 < 64; decide) (fun u hu => ?_) rfl (fun u hu => ?_) fun z => ?_
  · rcases List.mem_cons.mp (show u ∈ [("a" : Str), "b"] from hu) with rfl | hu
    · decide +kernel
    · rw [List.mem_singleton.mp hu]; decide +kernel
  · rcases List.mem_cons.mp (show u ∈ [("a" : Str), "b"] from hu) with rfl | hu
    · refine ⟨formD (lA c), rfl, fun Θ hΘ => eqB_formD ?_⟩
      rw [decide_eq_false (wiAB h), Bool.false_and]
      exact hΘ
    · rw [List.mem_singleton.mp hu]
      exact ⟨formD lB, rfl, fun Θ hΘ => eqB_same (shp_form (n := 37)) hΘ⟩
  · rw [ordB]; exact k z
/-! ### what is no name, no heap, no motion -/
def badN1 : List D := [.non, .int 5, .str "", .lst [.str "a"], .tup [.str "a"]]
theorem noN_of (h : d ∈ badN1) : NoN d ∧ ∀ s, d = .str s → s ∉ keysT (⟨[], [], []⟩ : Alb).st := by
  refine ⟨?_, fun s _ hs => nomatch hs⟩
  simp only [badN1, List.mem_cons, List.not_mem_nil, or_false] at h
  rcases h with rfl | rfl | rfl | rfl | rfl
  · exact ⟨rfl, by decide +kernel, .inl rfl⟩
  · exact ⟨rfl, by decide +kernel, .inl rfl⟩
  · exact ⟨rfl, by decide +kernel, .inr rfl⟩
  · exact ⟨rfl, by decide +kernel, .inl rfl⟩
  · exact ⟨rfl, by decide +kernel, .inl rfl⟩
def badH1 (c : Int) : List D := [.non, .int 5, .lst (((lA c).map Pt.d).take 1), .lst ((lA c).map Pt.d ++ (lA c).map Pt.d)]
theorem noH_of {c : Int} (h : d ∈ badH1 c) : RowH d ∧ isHp d = false := by
  simp only [badH1, List.mem_cons, List.not_mem_nil, or_false] at h
  have pts : ∀ {l : List Pt}, l.length ≤ 100 → ∀ y ∈ l.map Pt.d, D.shp 8 y = true ∧ (y.isT = true → ∀ zs, y = .tup zs → zs.length ≤ 100000) := fun _ y hy => by
    obtain ⟨p, _, rfl⟩ := List.mem_map.mp hy
    exact ⟨shp_pt 7 p, pt_len⟩
  have row : ∀ {l : List Pt}, l.length ≤ 100 → RowH (.lst (l.map Pt.d)) := fun {l} hl => ⟨rfl, fun ys e => by
    rcases e with e | e
    · injection e with e; subst e; exact ⟨by rw [List.length_map]; omega, pts hl⟩
    · cases e⟩
  have no : ∀ {x : D}, x.nopq = true → (∀ ys, x ≠ .lst ys) → (∀ ys, x ≠ .tup ys) → RowH x := fun hq h1 h2 => ⟨hq, fun ys e => by
    rcases e with e | e
    · exact absurd e (h1 ys)
    · exact absurd e (h2 ys)⟩
  rcases h with rfl | rfl | rfl | rfl
  · exact ⟨no rfl (fun ys e => nomatch e) (fun ys e => nomatch e), rfl⟩
  · exact ⟨no rfl (fun ys e => nomatch e) (fun ys e => nomatch e), rfl⟩
  · rw [← List.map_take]
    exact ⟨row (by rw [List.length_take]; simp [lA]), rfl⟩
  · rw [← List.map_append]
    refine ⟨row (by simp [lA]), ?_⟩
    show (decide (2 ≤ ((lA c ++ lA c).map Pt.d).length) && (decide (((lA c ++ lA c).map Pt.d).length ≤ 14) && (((lA c ++ lA c).map Pt.d).all isPt && decide ((((lA c ++ lA c).map Pt.d).map toPt).Nodup)))) = false
    rw [toPt_map, decide_eq_false (show ¬ (lA c ++ lA c).Nodup from fun z => by
      rw [List.nodup_append] at z
      exact z.2.2 ⟨0, 0, 1⟩ (by simp [lA]) ⟨0, 0, 1⟩ (by simp [lA]) rfl)]
    simp
theorem noM_of {mo : Mo} (om : MOk 64 mo) (h : d ∈ [D.non, .int 5, .tup [mo.t.d, mo.s.d]]) : BadM d := by
  have B : ∀ z : Int, z.natAbs < 2 ^ 64 → Bn 64 z := fun z hz => hz
  simp only [List.mem_cons, List.not_mem_nil, or_false] at h
  rcases h with rfl | rfl | rfl
  · exact ⟨rfl, trivial, (fun z => nomatch z), rfl⟩
  · exact ⟨rfl, B 5 (by decide), (fun z => nomatch z), rfl⟩
  · exact badM_tup (fun y hy => by
      simp only [List.mem_cons, List.not_mem_nil, or_false] at hy
      rcases hy with rfl | rfl
      · exact part_pt om.t
      · exact part_pt om.s) (by simp) (isMo_tup (by simp))
/-- all answers of a list are alike -/
theorem all_strs {f : D → (Option D → Prop) → Prop} {it : MA} {ds : List D} {w : Str} {q : Int} (hi : ∀ K : List D → Prop, K ds → it K Ψ) (hl : ds.length ≤ 100000) (hq : q = (ds.length : Nat)) (h1 : ds.length ≤ 1000) (hw : PyData.strOk w = true)
    (hf : ∀ d ∈ ds, ∀ K : Option D → Prop, K (some (.str w)) → f d K) (hΘ : Θ false) : (cmpT neB (lcE it f) (bin mulD (ret (.lst [.str w])) (ret (.int q)))) Θ Ψ := by
  refine hi _ ⟨hl, lcL_all (fun y => y = .str w) (fun d hd K hK => hf d hd K (hK _ rfl)) fun ys hy hz => ?_⟩
  rw [List.nil_append]
  exact strs_eq hw hz (by omega) (by omega) (by rw [hy, hq]; rfl) hΘ
theorem itE_is {ds : List D} {mm : M} {K : List D → Prop} (h : ∀ Φ : D → Prop, Φ (.lst ds) → mm Φ Ψ) (hk : K ds) : itE mm K Ψ := by
  unfold itE
  exact h _ hk
theorem eq64 {mo : Mo} (om : MOk 4 mo) : MOk 64 mo := om.mono (by decide)
theorem lstE_c {r : MA} {K : D → Prop} : lstE r K Ψ = r (fun ds => K (.lst ds)) Ψ := rfl
theorem consA_c {a : M} {r : MA} {K : List D → Prop} : consA a r K Ψ = a (fun x => r (fun xs => K (x :: xs)) Ψ) Ψ := rfl
theorem ret_c {d : D} {K : D → Prop} : ret d K Ψ = K d := rfl
theorem nilA_c {K : List D → Prop} : nilA K Ψ = K [] := rfl
theorem c1_ret {f : D → M} {d : D} {K : D → Prop} : c1 f (ret d) K Ψ = f d K Ψ := rfl
theorem bin_c {op : D → D → (D → Prop) → Prop} {a b : M} {K : D → Prop} : bin op a b K Ψ = a (fun x => b (fun y => op x y K) Ψ) Ψ := rfl
theorem sl_take1 {ds : List D} {K : D → Prop} : slE (ret (.lst ds)) noneO (someO (ret (.int 1))) K Ψ = K (.lst (ds.take 1)) := sl_takeL (j := 1)
theorem sl_take2 {ds : List D} {K : D → Prop} : slE (ret (.lst ds)) noneO (someO (ret (.int 2))) K Ψ = K (.lst (ds.take 2)) := sl_takeL (j := 2)
theorem sl_take2M {mo : Mo} {K : D → Prop} : slE (ret mo.d) noneO (someO (ret (.int 2))) K Ψ = K (.tup [mo.t.d, mo.s.d]) := by
  show K (.tup (cutD [mo.t.d, mo.s.d, .int mo.f] none (some ((2 : Nat) : Int)))) = _
  rw [cut_take]; rfl
theorem heap_start {i : Int} {K : List D → Prop} (k : ∀ i : Int, 0 ≤ i → i < 3 → K ((lA (1 + i)).map Pt.d)) :
    (consA (ret (.tup [.int 0, .int 0, .int 1])) (consA (tupE (consA (bin addD (ret (.int 1)) (c2 p_law_draw (ret (.opq 0)) (ret (.int 3)))) (consA (ret (.int 0)) (consA (ret (.int 1)) nilA)))) nilA)) K Ψ := by
  show p_law_draw (.opq 0) (.int 3) (fun y => addD (.int 1) y fun z => K [.tup [.int 0, .int 0, .int 1], .tup [z, .int 0, .int 1]]) Ψ
  exact draw_w (by decide) (by decide) fun i h0 h3 => k i h0 h3
theorem law_true : p_k21 (.opq 1) (fun z => z = .bl true) (fun _ => False) := by
  refine ⟨?_⟩
  rw [c1_ret]
  refine town_w (heap_start (i := 0) fun i h0 h3 => ⟨by simp [lA], ?_⟩)
  have hc : 1 + i = 1 ∨ 1 + i = 2 ∨ 1 + i = 3 := by omega
  generalize 1 + i = c at hc ⊢
  rw [c1_ret]
  refine law_motion_w fun mo om => ?_
  have hA := hpA hc
  refine if_no (fun Θ hΘ => ?_) ?_
  · show orT _ _ _ _
    refine or_q false (fun Θ hΘ => asked_ref (z := "NoThing") (by decide) (fun Φ Ψ k => does7 isA_d (undo_none rfl k)) (neB_same (by decide +kernel) hΘ)) (fun e => nomatch e) fun _ => ?_
    refine or_q false (fun Θ hΘ => ⟨isA_d, names_w (by decide) fun ys hp _ => ?_⟩) (fun e => nomatch e) fun _ => ?_
    · rw [List.Perm.eq_nil hp]; exact neB_same (by decide +kernel) hΘ
    refine or_q false (fun Θ hΘ => ⟨isA_d, groups_nil rfl (neB_same (by decide +kernel) hΘ)⟩) (fun e => nomatch e) fun _ => ?_
    refine (show D.isA (Alb.d (⟨[], [], []⟩ : Alb)) = true ∧ p_Album_find (Alb.d ⟨[], [], []⟩) (.lst ((lA c).map Pt.d)) _ _ from ⟨isA_d, find_w (fun _ => false) hA (by decide) (by decide) (fun s hs => nomatch hs) fun ys hp _ => ?_⟩)
    rw [List.Perm.eq_nil hp]; exact neB_same (by decide +kernel) hΘ
  refine itE_is (ds := badN1) (fun Φ k => k) ?_
  refine forL_run (fun _ _ => True) trivial (fun i x _ hx _ nx hn => ?_) fun _ _ => ?_
  · obtain ⟨hb, hnk⟩ := noN_of (List.mem_of_getElem? hx)
    refine if_no (fun Θ hΘ => ?_) (hn _ trivial)
    show orT _ _ _ _
    refine or_q false (fun Θ hΘ => asked_ref (z := "BadName") (by decide) (fun Φ Ψ k => does0 isA_d (put_name hb k)) (neB_same (by decide +kernel) hΘ)) (fun e => nomatch e) fun _ => ?_
    refine all_strs (ds := [.int 1, .int 2, .int 3, .int 4]) (fun K hK => ⟨⟨by decide, by decide, by decide, by decide⟩, hK⟩) (by decide) rfl (by decide) (by decide +kernel) (fun d hd K hK => ?_) hΘ
    simp only [List.mem_cons, List.not_mem_nil, or_false] at hd
    rcases hd with rfl | rfl | rfl | rfl
    · exact asked_ref (z := "BadName") (by decide) (fun Φ Ψ k => does1 isA_d (drop_bad hb.q hnk k)) hK
    · exact asked_ref (z := "BadName") (by decide) (fun Φ Ψ k => does2 isA_d (shown_bad hb.q hnk k)) hK
    · exact asked_ref (z := "BadName") (by decide) (fun Φ Ψ k => does3 isA_d (move_name hb.q hnk k)) hK
    · exact asked_ref (z := "BadName") (by decide) (fun Φ Ψ k => does4 isA_d (way_bad hb.q hnk k)) hK
  refine itE_is (ds := badH1 c) (fun Φ k => ?_) ?_
  · rw [lstE_c, consA_c, ret_c, consA_c, ret_c, consA_c, sl_take1, consA_c, bin_c, ret_c]
    refine (show _ ∧ _ from ⟨by simp [lA], ?_⟩)
    exact k
  refine forL_run (fun _ _ => True) trivial (fun i x _ hx _ nx hn => ?_) fun _ _ => ?_
  · obtain ⟨hr, hb⟩ := noH_of (List.mem_of_getElem? hx)
    refine if_no (fun Θ hΘ => ?_) (hn _ trivial)
    show orT _ _ _ _
    refine or_q false (fun Θ hΘ => asked_ref (z := "BadHeap") (by decide) (fun Φ Ψ k => does0 isA_d (put_heap (by decide +kernel) (by decide) hr hb k)) (neB_same (by decide +kernel) hΘ)) (fun e => nomatch e) fun _ => ?_
    refine all_strs (ds := [.int 5, .int 6]) (fun K hK => hK) (by decide) rfl (by decide) (by decide +kernel) (fun d hd K hK => ?_) hΘ
    simp only [List.mem_cons, List.not_mem_nil, or_false] at hd
    rcases hd with rfl | rfl
    · exact asked_ref (z := "BadHeap") (by decide) (fun Φ Ψ k => does5 isA_d (find_bad hr hb k)) hK
    · exact asked_ref (z := "BadHeap") (by decide) (fun Φ Ψ k => does6 isA_d (finds_bad hr hb k)) hK
  rw [ret_c]
  refine put1_w hc fun _ => ⟨gnd1, ?_⟩
  rw [ret_c]
  refine ⟨by simp [lA], ?_⟩
  have ha : ("a" : Str) ∈ keysT (A1 c).st := List.mem_cons_self
  have hz : ∀ s : Str, D.str "z" = .str s → s ∉ keysT (A1 c).st := fun s e hs => by
    cases e
    exact absurd (List.mem_singleton.mp (show ("z" : Str) ∈ [("a" : Str)] from hs)) (by decide)
  refine itE_is (ds := [.non, .int 5, .tup [mo.t.d, mo.s.d]]) (fun Φ k => ?_) ?_
  · rw [lstE_c, consA_c, ret_c, consA_c, ret_c, consA_c, sl_take2M, nilA_c]
    exact k
  refine forL_run (fun _ _ => True) trivial (fun i x _ hx _ nx hn => ?_) fun _ _ => ?_
  · have hb : BadM x := noM_of (eq64 om) (List.mem_of_getElem? hx)
    refine if_no (fun Θ hΘ => ?_) (hn _ trivial)
    show orT _ _ _ _
    refine or_q false (fun Θ hΘ => asked_ref (z := "BadMotion") (by decide) (fun Φ Ψ k => does3 isA_d (move_mo ha hb k)) (neB_same (by decide +kernel) hΘ)) (fun e => nomatch e) fun _ => ?_
    exact asked_ref (z := "BadName") (by decide) (fun Φ Ψ k => does3 isA_d (move_name rfl hz k)) (neB_same (by decide +kernel) hΘ)
  refine if_no (fun Θ hΘ => ?_) ?_
  · show orT _ _ _ _
    refine or_q false (fun Θ hΘ => all_strs (ds := [.int 1, .int 2, .int 4]) (fun K hK => hK) (by decide) rfl (by decide) (by decide +kernel) (fun d hd K hK => ?_) hΘ) (fun e => nomatch e) fun _ => ?_
    · simp only [List.mem_cons, List.not_mem_nil, or_false] at hd
      rcases hd with rfl | rfl | rfl
      · exact asked_ref (z := "BadName") (by decide) (fun Φ Ψ k => does1 isA_d (drop_bad rfl hz k)) hK
      · exact asked_ref (z := "BadName") (by decide) (fun Φ Ψ k => does2 isA_d (shown_bad rfl hz k)) hK
      · exact asked_ref (z := "BadName") (by decide) (fun Φ Ψ k => does4 isA_d (way_bad rfl hz k)) hK
    exact asked_ref (z := "BadName") (by decide) (fun Φ Ψ k => does4 isA_d (way_bad2 ha rfl hz k)) (neB_same (by decide +kernel) hΘ)
  refine if_no (fun Θ hΘ => ?_) ?_
  · show orT _ _ _ _
    refine or_q false (fun Θ hΘ => lenA_w (by show 1 ≤ 100000; decide) (neB_same (x := .int 1) (by decide +kernel) hΘ)) (fun e => nomatch e) fun _ => ?_
    refine (show D.isA (A1 c).d = true ∧ p_Album_shown (A1 c).d (.str "a") _ _ from ⟨isA_d, shown_w (e := .tup ((lA c).map Pt.d)) rfl ha ?_⟩)
    show slE _ _ _ _ _
    rw [sl_take2]
    exact tupleL (by simp [lA]) (neB_same shp40_ptsT hΘ)
  rw [ret_c, ret_c]
  refine (show o_Album_put (A1 c) (.str "b") (.lst (lB.map Pt.d)) _ from put2_w hc fun _ => ?_)
  have ha2 : ("a" : Str) ∈ keysT (A2 c).st := List.mem_cons_self
  have hb2 : ("b" : Str) ∈ keysT (A2 c).st := List.mem_cons_of_mem _ List.mem_cons_self
  refine if_no (fun Θ hΘ => ?_) ?_
  · show orT _ _ _ _
    refine or_q false (fun Θ hΘ => asked_ref (z := "NoThing") (by decide) (fun Φ Ψ k => does4 isA_d (way_none ha2 hb2 rfl rfl hA hpB (by decide) (by decide) (layAB hc) k)) (neB_same (by decide +kernel) hΘ)) (fun e => nomatch e) fun _ => ?_
    refine (show D.isA (A2 c).d = true ∧ p_Album_find_shape (A2 c).d (.lst (lC.map Pt.d)) _ _ from ⟨isA_d, finds_w (fun _ => true) hpC (by decide) (by show 2 < 64; decide) (fun s hs => ?_) fun ys hp hs => ?_⟩)
    · rcases List.mem_cons.mp (show s ∈ [("a" : Str), "b"] from hs) with rfl | hs
      · exact ⟨_, _, rfl, by rw [decide_eq_true (shAB hc)]⟩
      · rw [List.mem_singleton.mp hs]
        exact ⟨_, _, rfl, by rw [decide_eq_true shBC]⟩
    · have hp2 : ys.Perm [("a" : Str), "b"] := hp
      have e : ys = [("a" : Str), "b"] := by
        have hl := hp2.length_eq
        have hn : ys.Nodup := hp2.nodup_iff.mpr (by decide)
        match ys, hl, hn, hp2, hs with
        | [u, v], _, hn, hp2, hs =>
          have hu : u ∈ [("a" : Str), "b"] := hp2.mem_iff.mp List.mem_cons_self
          have hv : v ∈ [("a" : Str), "b"] := hp2.mem_iff.mp (List.mem_cons_of_mem _ List.mem_cons_self)
          simp only [List.mem_cons, List.not_mem_nil, or_false] at hu hv
          rcases hu with rfl | rfl <;> rcases hv with rfl | rfl
          · simp at hn
          · rfl
          · exact absurd hs (by decide +kernel)
          · simp at hn
      rw [e]
      exact neB_same (by decide +kernel) hΘ
  refine undoO_w (A := A2 c) rfl (undoO_w rfl ?_)
  refine (show andV _ _ _ _ from ?_)
  refine asked_ref (z := "NoThing") (by decide) (fun Φ Ψ k => does7 isA_d (undo_none rfl k)) ?_
  rw [ret_c]
  refine eqB_same (x := .str "none") (by decide +kernel) ?_
  refine (show lnAlb p_Album___len__ (Alb.d (⟨[], [], []⟩ : Alb)) _ from lenA_w (by decide) ?_)
  rw [ret_c]
  refine eqB_same (x := .int 0) (by decide +kernel) ?_
  exact And.intro rfl rfl
end
end G
namespace G.W
open PySem PySem.Spec L2 G
def top (i : Nat) : Stmt := PySem.Challenge.pw_laidover_k21_albums_refused.main.body.getD i (.Pass ⟨0, 0, 0, 0⟩)
section
variable {P : Program} {w : World} {K : PySem.W.Frag} {mg : Str → Option Value} {base : Heap} {f : Addr} {fd : FuncData}
abbrev s_Album___init__ : Stmt := inClass (top 47) 0
theorem sc_Album___init__ : FnScope ["self"] ["self"] (defScope s_Album___init__) := ⟨rfl, rfl, rfl, by decide +kernel, rfl, by decide +kernel, by decide +kernel⟩
theorem oki_Album___init__ (Z : Zs mg) (AK : AlbK K) (F : FunD K "__init__" "Album.__init__" (defArgs s_Album___init__) (defBody s_Album___init__) (defScope s_Album___init__) [] [] f fd) (mt : Mk K (albC K) f) (hm : mg "Album" = some (.ref (albC K))) : MkI P w K mg base 1 := by
  exact fnI_of (k := 0) F mt hm sc_Album___init__ rfl (fun _ _ _ _ _ _ us hl => match us, hl with | [_], _ => rfl) (fun cdv A0 outer s H E xa dx Dn hx hq => init_body AK rfl hx hq)
abbrev s_Album_begin : Stmt := inClass (top 47) 1
theorem sc_Album_begin : FnScope ["self"] ["self"] (defScope s_Album_begin) := ⟨rfl, rfl, rfl, by decide +kernel, rfl, by decide +kernel, by decide +kernel⟩
theorem oko_Album_begin (Z : Zs mg) (B_dict : mg "dict" = none) (AK : AlbK K) (F : FunD K "begin" "Album.begin" (defArgs s_Album_begin) (defBody s_Album_begin) (defScope s_Album_begin) [] [] f fd) (mt : Meth K (albC K) "begin" f) : MthO P w K mg base "begin" 1 0 (so0 o_Album_begin) := by
  refine fnO_of (k := 0) F AK mt sc_Album_begin rfl (fun A ds Φ h => by obtain ⟨rfl, _⟩ := h; rfl) (fun _ _ _ _ _ _ us hl => match us, hl with | [_], _ => rfl) (fun cdv A0 outer s H E hr ra self1 ds Φ h => ?_)
  obtain ⟨rfl, h⟩ := h
  obtain ⟨h⟩ := h
  show SQ _ _ _ [.alb (some ra) self1] _
  refine SQ.mk (qs_begin 0 AK B_dict rfl h.1 (SQ.run ?_))
  replace h := h.2
  show SQ _ _ _ [.alb (some ra) ({ self1 with past := (Alb.st self1, Alb.ma self1) :: Alb.past self1 } : Alb)] _
  exact s_nil ⟨_, rfl, h⟩
abbrev s_common : Stmt := top 13
theorem sc_common : FnScope ["one", "other"] ["one", "other"] (defScope s_common) := ⟨rfl, rfl, rfl, by decide +kernel, rfl, by decide +kernel, by decide +kernel⟩
theorem ok_common (Z : Zs mg) (F : FunD K "common" "common" (defArgs s_common) (defBody s_common) (defScope s_common) [] [] f fd) (hm : mg "common" = some (.ref f)) : FnS P w K mg base "common" 1 2 (sp2 p_common) := by
  refine fnS_of (k := 0) F hm sc_common (fun ds Φ Ψ h => by obtain ⟨_, _, rfl, _⟩ := h; rfl) (fun _ _ _ _ _ _ us hl => match us, hl with | [_, _], _ => rfl) (fun cdv A outer s H E hr ds Φ Ψ h => ?_)
  obtain ⟨one1, other2, rfl, h⟩ := h
  obtain ⟨h⟩ := h
  refine SQ.run ?_
  show SQ _ _ _ [.dat one1, .dat other2] _
  refine s_par 0 1 (sx_abs Z.abs (sx_v 0)) (sx_abs Z.abs (sx_v 1)) h (fun one3 other4 h => ?_) sc_common.nd
  show SQ _ _ _ [.dat one3, .dat other4] _
  refine s_while (S := D × D) (J := Unit) h (fun s5 j6 => [.dat s5.1, .dat s5.2]) () rfl (fun s5 j6 => (st_ne hr.units (sx_v 1) sx_i)) ?_ ?_ pass_cx
  · intro s5 j6 nx9 h
    show SQ _ _ _ [.dat s5.1, .dat s5.2] _
    refine s_par 0 1 (sx_v 1) (sx_mod (sx_v 0) (sx_v 1)) h (fun one11 other12 h => ?_) sc_common.nd
    show SQ _ _ _ [.dat one11, .dat other12] _
    exact s_nil ⟨(one11, other12), (), rfl, h⟩
  · intro s7 j8 h
    show SQ _ _ _ [.dat s7.1, .dat s7.2] _
    exact s_ret (sx_v 0) h
abbrev s_is_number : Stmt := top 10
theorem sc_is_number : FnScope ["thing"] ["thing"] (defScope s_is_number) := ⟨rfl, rfl, rfl, by decide +kernel, rfl, by decide +kernel, by decide +kernel⟩
theorem ok_is_number (Z : Zs mg) (F : FunD K "is_number" "is_number" (defArgs s_is_number) (defBody s_is_number) (defScope s_is_number) [] [] f fd) (hm : mg "is_number" = some (.ref f)) : FnS P w K mg base "is_number" 1 1 (sp1 p_is_number) := by
  refine fnS_of (k := 0) F hm sc_is_number (fun ds Φ Ψ h => by obtain ⟨_, rfl, _⟩ := h; rfl) (fun _ _ _ _ _ _ us hl => match us, hl with | [_], _ => rfl) (fun cdv A outer s H E hr ds Φ Ψ h => ?_)
  obtain ⟨thing1, rfl, h⟩ := h
  obtain ⟨h⟩ := h
  refine SQ.run ?_
  show SQ _ _ _ [.dat thing1] _
  exact s_ret (sx_and (sx_isi Z.isinstance Z.int (by decide +kernel) kit_int (sx_v 0)) (sx_and1 (sx_not (sx_isi Z.isinstance Z.bool (by decide +kernel) kit_bool (sx_v 0))))) h
abbrev s_is_point : Stmt := top 23
theorem sc_is_point : FnScope ["thing", "one"] ["thing"] (defScope s_is_point) := ⟨rfl, rfl, rfl, by decide +kernel, rfl, by decide +kernel, by decide +kernel⟩
theorem ok_is_point (Z : Zs mg) (F_common : FnS P w K mg base "common" 1 2 (sp2 p_common)) (F_is_number : FnS P w K mg base "is_number" 1 1 (sp1 p_is_number)) (F : FunD K "is_point" "is_point" (defArgs s_is_point) (defBody s_is_point) (defScope s_is_point) [] [] f fd) (hm : mg "is_point" = some (.ref f)) : FnS P w K mg base "is_point" 2 1 (sp1 p_is_point) := by
  refine fnS_of (k := 1) F hm sc_is_point (fun ds Φ Ψ h => by obtain ⟨_, rfl, _⟩ := h; rfl) (fun _ _ _ _ _ _ us hl => match us, hl with | [_], _ => rfl) (fun cdv A outer s H E hr ds Φ Ψ h => ?_)
  obtain ⟨thing1, rfl, h⟩ := h
  obtain ⟨h⟩ := h
  refine SQ.run ?_
  show SQ _ _ _ [.dat thing1, .emp] _
  refine s_if (sw_t (sw_or (st_not (st_v (sx_isi Z.isinstance Z.tuple (by decide +kernel) kit_tuple (sx_v 0)))) (sw_or (st_ne hr.units (sx_len Z.len (sx_v 0)) sx_i) (sw_or1 (st_not (st_v (sx_all Z.all (sx_lc0 sc_is_point.nd (blkOk_by (N := ["thing", "one"]) (sc := defScope s_is_point) (own := [("one", 1)]) (by decide +kernel)) (si_v (sx_v 0)) (fun one4 k2 h => ⟨_, qgb_name 1 sc_is_point.nd, fun s H C cl fp => ((sx_c1 F_is_number (hr.mono (by decide)) (sx_v 1))).run h⟩))))))))) h (fun h => ?_) (fun h => ?_)
  · exact s_ret sx_b h
  · refine s_nil ?_
    show SQ _ _ _ [.dat thing1, .emp] _
    exact s_ret (sx_and (sx_gt (sx_ix (Room.u65 hr) (sx_v 0) sx_i) sx_i) (sx_and1 (sx_eq hr.units (sx_c2 F_common (hr.mono (by decide)) (sx_c2 F_common (hr.mono (by decide)) (sx_ix (Room.u65 hr) (sx_v 0) sx_i) (sx_ix (Room.u65 hr) (sx_v 0) sx_i)) (sx_ix (Room.u65 hr) (sx_v 0) sx_i)) sx_i))) h
abbrev s_is_heap : Stmt := top 34
theorem sc_is_heap : FnScope ["thing", "one"] ["thing"] (defScope s_is_heap) := ⟨rfl, rfl, rfl, by decide +kernel, rfl, by decide +kernel, by decide +kernel⟩
theorem ok_is_heap (Z : Zs mg) (F_is_point : FnS P w K mg base "is_point" 2 1 (sp1 p_is_point)) (i_MOST : ∃ t, mg "MOST" = some (.int 14 t)) (F : FunD K "is_heap" "is_heap" (defArgs s_is_heap) (defBody s_is_heap) (defScope s_is_heap) [] [] f fd) (hm : mg "is_heap" = some (.ref f)) : FnS P w K mg base "is_heap" 3 1 (sp1 p_is_heap) := by
  refine fnS_of (k := 2) F hm sc_is_heap (fun ds Φ Ψ h => by obtain ⟨_, rfl, _⟩ := h; rfl) (fun _ _ _ _ _ _ us hl => match us, hl with | [_], _ => rfl) (fun cdv A outer s H E hr ds Φ Ψ h => ?_)
  obtain ⟨thing1, rfl, h⟩ := h
  obtain ⟨h⟩ := h
  refine SQ.run ?_
  show SQ _ _ _ [.dat thing1, .emp] _
  refine s_if (sw_t (sw_or (st_not (st_v (sx_isi2 Z.isinstance Z.list Z.tuple (by decide +kernel) (by decide +kernel) kit_list kit_tuple (sx_v 0)))) (sw_or (st_not (st_chn (w_le) (w_le) sx_i (sx_len Z.len (sx_v 0)) (sx_gi i_MOST))) (sw_or1 (st_not (st_v (sx_all Z.all (sx_lc0 sc_is_heap.nd (blkOk_by (N := ["thing", "one"]) (sc := defScope s_is_heap) (own := [("one", 1)]) (by decide +kernel)) (si_v (sx_v 0)) (fun one4 k2 h => ⟨_, qgb_name 1 sc_is_heap.nd, fun s H C cl fp => ((sx_c1 F_is_point (hr.mono (by decide)) (sx_v 1))).run h⟩))))))))) h (fun h => ?_) (fun h => ?_)
  · exact s_ret sx_b h
  · refine s_nil ?_
    show SQ _ _ _ [.dat thing1, .emp] _
    exact s_ret (sx_eq hr.units (sx_len Z.len (sx_dc0 (Room.u65 hr) sc_is_heap.nd (blkOk_by (N := ["thing", "one"]) (sc := defScope s_is_heap) (own := [("one", 1)]) (by decide +kernel)) (si_v (sx_v 0)) (fun one8 k5 h => ⟨_, qgb_name 1 sc_is_heap.nd, fun s H C cl fp => (((sx_v 1)).run h).mono fun _ h s H C cl fp => (sx_b).run h⟩))) (sx_len Z.len (sx_v 0))) h
abbrev s_look_heaps : Stmt := top 35
theorem sc_look_heaps : FnScope ["things", "one"] ["things"] (defScope s_look_heaps) := ⟨rfl, rfl, rfl, by decide +kernel, rfl, by decide +kernel, by decide +kernel⟩
theorem ok_look_heaps (Z : Zs mg) (F_is_heap : FnS P w K mg base "is_heap" 3 1 (sp1 p_is_heap)) (E_BadHeap : ExcF K mg "BadHeap") (F : FunD K "look_heaps" "look_heaps" (defArgs s_look_heaps) (defBody s_look_heaps) (defScope s_look_heaps) [] [] f fd) (hm : mg "look_heaps" = some (.ref f)) : FnS P w K mg base "look_heaps" 4 1 (sp1 p_look_heaps) := by
  refine fnS_of (k := 3) F hm sc_look_heaps (fun ds Φ Ψ h => by obtain ⟨_, rfl, _⟩ := h; rfl) (fun _ _ _ _ _ _ us hl => match us, hl with | [_], _ => rfl) (fun cdv A outer s H E hr ds Φ Ψ h => ?_)
  obtain ⟨things1, rfl, h⟩ := h
  obtain ⟨h⟩ := h
  refine SQ.run ?_
  show SQ _ _ _ [.dat things1, .emp] _
  refine s_if (st_not (st_v (sx_all Z.all (sx_lc0 sc_look_heaps.nd (blkOk_by (N := ["things", "one"]) (sc := defScope s_look_heaps) (own := [("one", 1)]) (by decide +kernel)) (si_v (sx_v 0)) (fun one4 k2 h => ⟨_, qgb_name 1 sc_look_heaps.nd, fun s H C cl fp => ((sx_c1 F_is_heap (hr.mono (by decide)) (sx_v 1))).run h⟩))))) h (fun h => ?_) (fun h => ?_)
  · exact s_raise E_BadHeap h
  · refine s_nil ?_
    show SQ _ _ _ [.dat things1, .emp] _
    exact s_nil h
abbrev s_ahead : Stmt := top 24
theorem sc_ahead : FnScope ["p", "q", "across"] ["p", "q"] (defScope s_ahead) := ⟨rfl, rfl, rfl, by decide +kernel, rfl, by decide +kernel, by decide +kernel⟩
theorem ok_ahead (Z : Zs mg) (F : FunD K "ahead" "ahead" (defArgs s_ahead) (defBody s_ahead) (defScope s_ahead) [] [] f fd) (hm : mg "ahead" = some (.ref f)) : FnS P w K mg base "ahead" 1 2 (sp2 p_ahead) := by
  refine fnS_of (k := 0) F hm sc_ahead (fun ds Φ Ψ h => by obtain ⟨_, _, rfl, _⟩ := h; rfl) (fun _ _ _ _ _ _ us hl => match us, hl with | [_, _], _ => rfl) (fun cdv A outer s H E hr ds Φ Ψ h => ?_)
  obtain ⟨p1, q2, rfl, h⟩ := h
  obtain ⟨h⟩ := h
  refine SQ.run ?_
  show SQ _ _ _ [.dat p1, .dat q2, .emp] _
  refine s_set 2 (sx_sub (sx_mul (sx_ix (Room.u65 hr) (sx_v 0) sx_i) (sx_ix (Room.u65 hr) (sx_v 1) sx_i)) (sx_mul (sx_ix (Room.u65 hr) (sx_v 1) sx_i) (sx_ix (Room.u65 hr) (sx_v 0) sx_i))) h (fun across3 h => ?_) sc_ahead.nd
  show SQ _ _ _ [.dat p1, .dat q2, .dat across3] _
  exact s_ret (sx_or (sx_lt (sx_v 2) sx_i) (sx_or1 (sx_and (sx_eq hr.units (sx_v 2) sx_i) (sx_and1 (sx_lt (sx_mul (sx_ix (Room.u65 hr) (sx_v 0) sx_i) (sx_ix (Room.u65 hr) (sx_v 1) sx_i)) (sx_mul (sx_ix (Room.u65 hr) (sx_v 1) sx_i) (sx_ix (Room.u65 hr) (sx_v 0) sx_i))))))) h
abbrev s_in_order : Stmt := top 25
theorem sc_in_order : FnScope ["points", "found", "one", "at"] ["points"] (defScope s_in_order) := ⟨rfl, rfl, rfl, by decide +kernel, rfl, by decide +kernel, by decide +kernel⟩
theorem ok_in_order (Z : Zs mg) (F_ahead : FnS P w K mg base "ahead" 1 2 (sp2 p_ahead)) (F : FunD K "in_order" "in_order" (defArgs s_in_order) (defBody s_in_order) (defScope s_in_order) [] [] f fd) (hm : mg "in_order" = some (.ref f)) : FnS P w K mg base "in_order" 2 1 (sp1 p_in_order) := by
  refine fnS_of (k := 1) F hm sc_in_order (fun ds Φ Ψ h => by obtain ⟨_, rfl, _⟩ := h; rfl) (fun _ _ _ _ _ _ us hl => match us, hl with | [_], _ => rfl) (fun cdv A outer s H E hr ds Φ Ψ h => ?_)
  obtain ⟨points1, rfl, h⟩ := h
  obtain ⟨h⟩ := h
  refine SQ.run ?_
  show SQ _ _ _ [.dat points1, .emp, .emp, .emp] _
  refine s_new 1 ?_ sc_in_order.nd
  show SQ _ _ _ [.dat points1, .lst [], .emp, .emp] _
  refine s_for (S := List D) (J := Sl × Sl) h (si_v (sx_v 0)) (fun s2 j3 => [.dat points1, .lst s2, j3.1, j3.2]) ((.emp), (.emp)) rfl ?_ ?_ pass_cx
  · intro one8 s2 j3 nx6 h
    refine ⟨_, qg_name 2 sc_in_order.nd, ?_⟩
    show SQ _ _ _ [.dat points1, .lst s2, .dat one8, j3.2] _
    refine s_set 3 sx_i h (fun at9 h => ?_) sc_in_order.nd
    show SQ _ _ _ [.dat points1, .lst s2, .dat one8, .dat at9] _
    refine s_while (S := D) (J := Unit) h (fun s10 j11 => [.dat points1, .lst s2, .dat one8, .dat s10]) () rfl (fun s10 j11 => (st_peek 1 rfl (sw_t (sw_and (st_lt (sx_v 3) (sx_len Z.len (sx_v 1))) (sw_and1 (st_not (st_v (sx_c2 F_ahead (hr.mono (by decide)) (sx_v 2) (sx_ix (Room.u65 hr) (sx_v 1) (sx_v 3)))))))))) ?_ ?_ pass_cx
    · intro s10 j11 nx17 h
      show SQ _ _ _ [.dat points1, .lst s2, .dat one8, .dat s10] _
      refine s_augAdd 3 rfl sx_i h (fun at19 h => ?_) sc_in_order.nd
      show SQ _ _ _ [.dat points1, .lst s2, .dat one8, .dat at19] _
      exact s_nil ⟨at19, (), rfl, h⟩
    · intro s12 j13 h
      show SQ _ _ _ [.dat points1, .lst s2, .dat one8, .dat s12] _
      refine s_insert 1 rfl (sx_v 3) (sx_v 2) h (fun n16 d15 h => ?_)
      show SQ _ _ _ [.dat points1, .lst (insL s2 n16 d15), .dat one8, .dat s12] _
      exact s_nil ⟨(insL s2 n16 d15), ((.dat one8), (.dat s12)), rfl, h⟩
  · intro s4 j5 h
    show SQ _ _ _ [.dat points1, .lst s4, j5.1, j5.2] _
    refine s_frz 1 rfl ?_
    show SQ _ _ _ [.dat points1, .dat (.lst s4), j5.1, j5.2] _
    exact s_ret (sx_v 1) h
abbrev s_heap : Stmt := top 36
theorem sc_heap : FnScope ["points"] ["points"] (defScope s_heap) := ⟨rfl, rfl, rfl, by decide +kernel, rfl, by decide +kernel, by decide +kernel⟩
theorem ok_heap (Z : Zs mg) (F_look_heaps : FnS P w K mg base "look_heaps" 4 1 (sp1 p_look_heaps)) (F_in_order : FnS P w K mg base "in_order" 2 1 (sp1 p_in_order)) (F : FunD K "heap" "heap" (defArgs s_heap) (defBody s_heap) (defScope s_heap) [] [] f fd) (hm : mg "heap" = some (.ref f)) : FnS P w K mg base "heap" 5 1 (sp1 p_heap) := by
  refine fnS_of (k := 4) F hm sc_heap (fun ds Φ Ψ h => by obtain ⟨_, rfl, _⟩ := h; rfl) (fun _ _ _ _ _ _ us hl => match us, hl with | [_], _ => rfl) (fun cdv A outer s H E hr ds Φ Ψ h => ?_)
  obtain ⟨points1, rfl, h⟩ := h
  obtain ⟨h⟩ := h
  refine SQ.run ?_
  show SQ _ _ _ [.dat points1] _
  refine s_expr (sx_c1 F_look_heaps (hr.mono (by decide)) (sx_lst (sa_cons (sx_v 0) sa_nil))) h (fun _ h => ?_)
  exact s_ret (sx_tuple Z.tuple (sx_c1 F_in_order (hr.mono (by decide)) (sx_v 0))) h
abbrev s_share : Stmt := top 14
theorem sc_share : FnScope ["top", "below", "by"] ["top", "below"] (defScope s_share) := ⟨rfl, rfl, rfl, by decide +kernel, rfl, by decide +kernel, by decide +kernel⟩
theorem ok_share (Z : Zs mg) (F_common : FnS P w K mg base "common" 1 2 (sp2 p_common)) (F : FunD K "share" "share" (defArgs s_share) (defBody s_share) (defScope s_share) [] [] f fd) (hm : mg "share" = some (.ref f)) : FnS P w K mg base "share" 2 2 (sp2 p_share) := by
  refine fnS_of (k := 1) F hm sc_share (fun ds Φ Ψ h => by obtain ⟨_, _, rfl, _⟩ := h; rfl) (fun _ _ _ _ _ _ us hl => match us, hl with | [_, _], _ => rfl) (fun cdv A outer s H E hr ds Φ Ψ h => ?_)
  obtain ⟨top1, below2, rfl, h⟩ := h
  obtain ⟨h⟩ := h
  refine SQ.run ?_
  show SQ _ _ _ [.dat top1, .dat below2, .emp] _
  refine s_set 2 (sx_c2 F_common (hr.mono (by decide)) (sx_v 0) (sx_v 1)) h (fun by3 h => ?_) sc_share.nd
  show SQ _ _ _ [.dat top1, .dat below2, .dat by3] _
  refine s_set 2 (sx_if (st_gt (sx_v 1) sx_i) (sx_v 2) (sx_neg (sx_v 2))) h (fun by4 h => ?_) sc_share.nd
  show SQ _ _ _ [.dat top1, .dat below2, .dat by4] _
  exact s_ret (sx_tup (sa_cons (sx_fdiv (sx_v 0) (sx_v 2)) (sa_cons (sx_fdiv (sx_v 1) (sx_v 2)) sa_nil))) h
abbrev s_size : Stmt := top 21
theorem sc_size : FnScope ["p"] ["p"] (defScope s_size) := ⟨rfl, rfl, rfl, by decide +kernel, rfl, by decide +kernel, by decide +kernel⟩
theorem ok_size (Z : Zs mg) (F_share : FnS P w K mg base "share" 2 2 (sp2 p_share)) (F : FunD K "size" "size" (defArgs s_size) (defBody s_size) (defScope s_size) [] [] f fd) (hm : mg "size" = some (.ref f)) : FnS P w K mg base "size" 3 1 (sp1 p_size) := by
  refine fnS_of (k := 2) F hm sc_size (fun ds Φ Ψ h => by obtain ⟨_, rfl, _⟩ := h; rfl) (fun _ _ _ _ _ _ us hl => match us, hl with | [_], _ => rfl) (fun cdv A outer s H E hr ds Φ Ψ h => ?_)
  obtain ⟨p1, rfl, h⟩ := h
  obtain ⟨h⟩ := h
  refine SQ.run ?_
  show SQ _ _ _ [.dat p1] _
  exact s_ret (sx_c2 F_share (hr.mono (by decide)) (sx_add (sx_mul (sx_ix (Room.u65 hr) (sx_v 0) sx_i) (sx_ix (Room.u65 hr) (sx_v 0) sx_i)) (sx_mul (sx_ix (Room.u65 hr) (sx_v 0) sx_i) (sx_ix (Room.u65 hr) (sx_v 0) sx_i))) (sx_mul (sx_ix (Room.u65 hr) (sx_v 0) sx_i) (sx_ix (Room.u65 hr) (sx_v 0) sx_i))) h
abbrev s_lowest : Stmt := top 15
theorem sc_lowest : FnScope ["a", "b", "w", "by"] ["a", "b", "w"] (defScope s_lowest) := ⟨rfl, rfl, rfl, by decide +kernel, rfl, by decide +kernel, by decide +kernel⟩
theorem ok_lowest (Z : Zs mg) (F_common : FnS P w K mg base "common" 1 2 (sp2 p_common)) (F : FunD K "lowest" "lowest" (defArgs s_lowest) (defBody s_lowest) (defScope s_lowest) [] [] f fd) (hm : mg "lowest" = some (.ref f)) : FnS P w K mg base "lowest" 2 3 (sp3 p_lowest) := by
  refine fnS_of (k := 1) F hm sc_lowest (fun ds Φ Ψ h => by obtain ⟨_, _, _, rfl, _⟩ := h; rfl) (fun _ _ _ _ _ _ us hl => match us, hl with | [_, _, _], _ => rfl) (fun cdv A outer s H E hr ds Φ Ψ h => ?_)
  obtain ⟨a1, b2, w3, rfl, h⟩ := h
  obtain ⟨h⟩ := h
  refine SQ.run ?_
  show SQ _ _ _ [.dat a1, .dat b2, .dat w3, .emp] _
  refine s_set 3 (sx_c2 F_common (hr.mono (by decide)) (sx_c2 F_common (hr.mono (by decide)) (sx_v 0) (sx_v 1)) (sx_v 2)) h (fun by4 h => ?_) sc_lowest.nd
  show SQ _ _ _ [.dat a1, .dat b2, .dat w3, .dat by4] _
  refine s_set 3 (sx_if (st_gt (sx_v 2) sx_i) (sx_v 3) (sx_neg (sx_v 3))) h (fun by5 h => ?_) sc_lowest.nd
  show SQ _ _ _ [.dat a1, .dat b2, .dat w3, .dat by5] _
  exact s_ret (sx_tup (sa_cons (sx_fdiv (sx_v 0) (sx_v 3)) (sa_cons (sx_fdiv (sx_v 1) (sx_v 3)) (sa_cons (sx_fdiv (sx_v 2) (sx_v 3)) sa_nil)))) h
abbrev s_minus : Stmt := top 17
theorem sc_minus : FnScope ["p", "q"] ["p", "q"] (defScope s_minus) := ⟨rfl, rfl, rfl, by decide +kernel, rfl, by decide +kernel, by decide +kernel⟩
theorem ok_minus (Z : Zs mg) (F_lowest : FnS P w K mg base "lowest" 2 3 (sp3 p_lowest)) (F : FunD K "minus" "minus" (defArgs s_minus) (defBody s_minus) (defScope s_minus) [] [] f fd) (hm : mg "minus" = some (.ref f)) : FnS P w K mg base "minus" 3 2 (sp2 p_minus) := by
  refine fnS_of (k := 2) F hm sc_minus (fun ds Φ Ψ h => by obtain ⟨_, _, rfl, _⟩ := h; rfl) (fun _ _ _ _ _ _ us hl => match us, hl with | [_, _], _ => rfl) (fun cdv A outer s H E hr ds Φ Ψ h => ?_)
  obtain ⟨p1, q2, rfl, h⟩ := h
  obtain ⟨h⟩ := h
  refine SQ.run ?_
  show SQ _ _ _ [.dat p1, .dat q2] _
  exact s_ret (sx_c3 F_lowest (hr.mono (by decide)) (sx_sub (sx_mul (sx_ix (Room.u65 hr) (sx_v 0) sx_i) (sx_ix (Room.u65 hr) (sx_v 1) sx_i)) (sx_mul (sx_ix (Room.u65 hr) (sx_v 1) sx_i) (sx_ix (Room.u65 hr) (sx_v 0) sx_i))) (sx_sub (sx_mul (sx_ix (Room.u65 hr) (sx_v 0) sx_i) (sx_ix (Room.u65 hr) (sx_v 1) sx_i)) (sx_mul (sx_ix (Room.u65 hr) (sx_v 1) sx_i) (sx_ix (Room.u65 hr) (sx_v 0) sx_i))) (sx_mul (sx_ix (Room.u65 hr) (sx_v 0) sx_i) (sx_ix (Room.u65 hr) (sx_v 1) sx_i))) h
abbrev s_gap : Stmt := top 26
theorem sc_gap : FnScope ["p", "q"] ["p", "q"] (defScope s_gap) := ⟨rfl, rfl, rfl, by decide +kernel, rfl, by decide +kernel, by decide +kernel⟩
theorem ok_gap (Z : Zs mg) (F_size : FnS P w K mg base "size" 3 1 (sp1 p_size)) (F_minus : FnS P w K mg base "minus" 3 2 (sp2 p_minus)) (F : FunD K "gap" "gap" (defArgs s_gap) (defBody s_gap) (defScope s_gap) [] [] f fd) (hm : mg "gap" = some (.ref f)) : FnS P w K mg base "gap" 4 2 (sp2 p_gap) := by
  refine fnS_of (k := 3) F hm sc_gap (fun ds Φ Ψ h => by obtain ⟨_, _, rfl, _⟩ := h; rfl) (fun _ _ _ _ _ _ us hl => match us, hl with | [_, _], _ => rfl) (fun cdv A outer s H E hr ds Φ Ψ h => ?_)
  obtain ⟨p1, q2, rfl, h⟩ := h
  obtain ⟨h⟩ := h
  refine SQ.run ?_
  show SQ _ _ _ [.dat p1, .dat q2] _
  exact s_ret (sx_c1 F_size (hr.mono (by decide)) (sx_c2 F_minus (hr.mono (by decide)) (sx_v 0) (sx_v 1))) h
abbrev s_gaps_of : Stmt := top 37
theorem sc_gaps_of : FnScope ["points", "found", "k", "one", "other", "square"] ["points"] (defScope s_gaps_of) := ⟨rfl, rfl, rfl, by decide +kernel, rfl, by decide +kernel, by decide +kernel⟩
theorem ok_gaps_of (Z : Zs mg) (F_gap : FnS P w K mg base "gap" 4 2 (sp2 p_gap)) (F : FunD K "gaps_of" "gaps_of" (defArgs s_gaps_of) (defBody s_gaps_of) (defScope s_gaps_of) [] [] f fd) (hm : mg "gaps_of" = some (.ref f)) : FnS P w K mg base "gaps_of" 5 1 (sp1 p_gaps_of) := by
  refine fnS_of (k := 4) F hm sc_gaps_of (fun ds Φ Ψ h => by obtain ⟨_, rfl, _⟩ := h; rfl) (fun _ _ _ _ _ _ us hl => match us, hl with | [_], _ => rfl) (fun cdv A outer s H E hr ds Φ Ψ h => ?_)
  obtain ⟨points1, rfl, h⟩ := h
  obtain ⟨h⟩ := h
  refine SQ.run ?_
  show SQ _ _ _ [.dat points1, .emp, .emp, .emp, .emp, .emp] _
  refine s_newD 1 ?_ sc_gaps_of.nd
  show SQ _ _ _ [.dat points1, .dct [], .emp, .emp, .emp, .emp] _
  refine s_for (S := List (D × D)) (J := Sl × Sl × Sl × Sl) h (si_enum2 Z.enumerate (sx_v 0)) (fun s2 j3 => [.dat points1, .dct s2, j3.1, j3.2.1, j3.2.2.1, j3.2.2.2]) ((.emp), (.emp), (.emp), (.emp)) rfl ?_ ?_ pass_cx
  · intro d8 s2 j3 nx6 h
    obtain ⟨k9, one10, hd, h⟩ := un2_of h
    refine ⟨_, qg_un hd (qgs_cons (qg_name 2 sc_gaps_of.nd) (qgs_cons (qg_name 3 sc_gaps_of.nd) qgs_nil)), ?_⟩
    show SQ _ _ _ [.dat points1, .dct s2, .dat k9, .dat one10, j3.2.2.1, j3.2.2.2] _
    refine s_for (S := List (D × D)) (J := Sl × Sl) h (si_v (sx_sl (sx_v 0) (so_some (sx_add (sx_v 2) sx_i)) so_none)) (fun s11 j12 => [.dat points1, .dct s11, .dat k9, .dat one10, j12.1, j12.2]) ((j3.2.2.1), (j3.2.2.2)) rfl ?_ ?_ pass_cx
    · intro other17 s11 j12 nx15 h
      refine ⟨_, qg_name 4 sc_gaps_of.nd, ?_⟩
      show SQ _ _ _ [.dat points1, .dct s11, .dat k9, .dat one10, .dat other17, j12.2] _
      refine s_set 5 (sx_c2 F_gap (hr.mono (by decide)) (sx_v 3) (sx_v 4)) h (fun square18 h => ?_) sc_gaps_of.nd
      show SQ _ _ _ [.dat points1, .dct s11, .dat k9, .dat one10, .dat other17, .dat square18] _
      refine s_putD (Room.u65 hr) 1 rfl (sx_peekD 1 rfl (sx_add (sx_get2 (Room.u65 hr) (sx_v 1) (sx_v 5) sx_i) sx_i)) (sx_v 5) h (fun y20 v19 h => ?_)
      show SQ _ _ _ [.dat points1, .dct (dPut s11 y20 v19), .dat k9, .dat one10, .dat other17, .dat square18] _
      exact s_nil ⟨(dPut s11 y20 v19), ((.dat other17), (.dat square18)), rfl, h⟩
    · intro s13 j14 h
      show SQ _ _ _ [.dat points1, .dct s13, .dat k9, .dat one10, j14.1, j14.2] _
      exact s_nil ⟨s13, ((.dat k9), (.dat one10), (j14.1), (j14.2)), rfl, h⟩
  · intro s4 j5 h
    show SQ _ _ _ [.dat points1, .dct s4, j5.1, j5.2.1, j5.2.2.1, j5.2.2.2] _
    refine s_frzD 1 rfl ?_
    show SQ _ _ _ [.dat points1, .dat (dctD s4), j5.1, j5.2.1, j5.2.2.1, j5.2.2.2] _
    exact s_ret (sx_v 1) h
abbrev s_widest_of : Stmt := top 38
theorem sc_widest_of : FnScope ["points", "best", "square"] ["points"] (defScope s_widest_of) := ⟨rfl, rfl, rfl, by decide +kernel, rfl, by decide +kernel, by decide +kernel⟩
theorem ok_widest_of (Z : Zs mg) (F_gaps_of : FnS P w K mg base "gaps_of" 5 1 (sp1 p_gaps_of)) (F : FunD K "widest_of" "widest_of" (defArgs s_widest_of) (defBody s_widest_of) (defScope s_widest_of) [] [] f fd) (hm : mg "widest_of" = some (.ref f)) : FnS P w K mg base "widest_of" 6 1 (sp1 p_widest_of) := by
  refine fnS_of (k := 5) F hm sc_widest_of (fun ds Φ Ψ h => by obtain ⟨_, rfl, _⟩ := h; rfl) (fun _ _ _ _ _ _ us hl => match us, hl with | [_], _ => rfl) (fun cdv A outer s H E hr ds Φ Ψ h => ?_)
  obtain ⟨points1, rfl, h⟩ := h
  obtain ⟨h⟩ := h
  refine SQ.run ?_
  show SQ _ _ _ [.dat points1, .emp, .emp] _
  refine s_set 1 sx_n h (fun best2 h => ?_) sc_widest_of.nd
  show SQ _ _ _ [.dat points1, .dat best2, .emp] _
  refine s_for (S := D) (J := Sl) h (si_v (sx_c1 F_gaps_of (hr.mono (by decide)) (sx_v 0))) (fun s3 j4 => [.dat points1, .dat s3, j4]) (.emp) rfl ?_ ?_ pass_cx
  · intro square9 s3 j4 nx7 h
    refine ⟨_, qg_name 2 sc_widest_of.nd, ?_⟩
    show SQ _ _ _ [.dat points1, .dat s3, .dat square9] _
    refine s_ifJ (J := D) h (sw_t (sw_or (st_isN (sx_v 1)) (sw_or1 (st_gt (sx_mul (sx_ix (Room.u65 hr) (sx_v 2) sx_i) (sx_ix (Room.u65 hr) (sx_v 1) sx_i)) (sx_mul (sx_ix (Room.u65 hr) (sx_v 1) sx_i) (sx_ix (Room.u65 hr) (sx_v 2) sx_i)))))) (fun j => [.dat points1, .dat j, .dat square9]) (fun j k => k (j)) ?_ ?_ ?_
    · rintro best11 h
      show SQ _ _ _ [.dat points1, .dat best11, .dat square9] _
      exact s_nil ⟨best11, (.dat square9), rfl, h⟩
    · intro h
      refine s_set 1 (sx_v 2) h (fun best12 h => ?_) sc_widest_of.nd
      show SQ _ _ _ [.dat points1, .dat best12, .dat square9] _
      exact s_nil ⟨best12, rfl, h⟩
    · intro h
      exact s_nil ⟨s3, rfl, h⟩
  · intro s5 j6 h
    show SQ _ _ _ [.dat points1, .dat s5, j6] _
    exact s_ret (sx_v 1) h
abbrev s_by : Stmt := top 20
theorem sc_by : FnScope ["p", "q", "square"] ["p", "q"] (defScope s_by) := ⟨rfl, rfl, rfl, by decide +kernel, rfl, by decide +kernel, by decide +kernel⟩
theorem ok_by (Z : Zs mg) (F_lowest : FnS P w K mg base "lowest" 2 3 (sp3 p_lowest)) (F : FunD K "by" "by" (defArgs s_by) (defBody s_by) (defScope s_by) [] [] f fd) (hm : mg "by" = some (.ref f)) : FnS P w K mg base "by" 3 2 (sp2 p_by) := by
  refine fnS_of (k := 2) F hm sc_by (fun ds Φ Ψ h => by obtain ⟨_, _, rfl, _⟩ := h; rfl) (fun _ _ _ _ _ _ us hl => match us, hl with | [_, _], _ => rfl) (fun cdv A outer s H E hr ds Φ Ψ h => ?_)
  obtain ⟨p1, q2, rfl, h⟩ := h
  obtain ⟨h⟩ := h
  refine SQ.run ?_
  show SQ _ _ _ [.dat p1, .dat q2, .emp] _
  refine s_set 2 (sx_add (sx_mul (sx_ix (Room.u65 hr) (sx_v 1) sx_i) (sx_ix (Room.u65 hr) (sx_v 1) sx_i)) (sx_mul (sx_ix (Room.u65 hr) (sx_v 1) sx_i) (sx_ix (Room.u65 hr) (sx_v 1) sx_i))) h (fun square3 h => ?_) sc_by.nd
  show SQ _ _ _ [.dat p1, .dat q2, .dat square3] _
  exact s_ret (sx_c3 F_lowest (hr.mono (by decide)) (sx_mul (sx_add (sx_mul (sx_ix (Room.u65 hr) (sx_v 0) sx_i) (sx_ix (Room.u65 hr) (sx_v 1) sx_i)) (sx_mul (sx_ix (Room.u65 hr) (sx_v 0) sx_i) (sx_ix (Room.u65 hr) (sx_v 1) sx_i))) (sx_ix (Room.u65 hr) (sx_v 1) sx_i)) (sx_mul (sx_sub (sx_mul (sx_ix (Room.u65 hr) (sx_v 0) sx_i) (sx_ix (Room.u65 hr) (sx_v 1) sx_i)) (sx_mul (sx_ix (Room.u65 hr) (sx_v 0) sx_i) (sx_ix (Room.u65 hr) (sx_v 1) sx_i))) (sx_ix (Room.u65 hr) (sx_v 1) sx_i)) (sx_mul (sx_ix (Room.u65 hr) (sx_v 0) sx_i) (sx_v 2))) h
abbrev s_flipped : Stmt := top 19
theorem sc_flipped : FnScope ["p"] ["p"] (defScope s_flipped) := ⟨rfl, rfl, rfl, by decide +kernel, rfl, by decide +kernel, by decide +kernel⟩
theorem ok_flipped (Z : Zs mg) (F : FunD K "flipped" "flipped" (defArgs s_flipped) (defBody s_flipped) (defScope s_flipped) [] [] f fd) (hm : mg "flipped" = some (.ref f)) : FnS P w K mg base "flipped" 1 1 (sp1 p_flipped) := by
  refine fnS_of (k := 0) F hm sc_flipped (fun ds Φ Ψ h => by obtain ⟨_, rfl, _⟩ := h; rfl) (fun _ _ _ _ _ _ us hl => match us, hl with | [_], _ => rfl) (fun cdv A outer s H E hr ds Φ Ψ h => ?_)
  obtain ⟨p1, rfl, h⟩ := h
  obtain ⟨h⟩ := h
  refine SQ.run ?_
  show SQ _ _ _ [.dat p1] _
  exact s_ret (sx_tup (sa_cons (sx_ix (Room.u65 hr) (sx_v 0) sx_i) (sa_cons (sx_neg (sx_ix (Room.u65 hr) (sx_v 0) sx_i)) (sa_cons (sx_ix (Room.u65 hr) (sx_v 0) sx_i) sa_nil)))) h
abbrev s_rows_of : Stmt := top 40
theorem sc_rows_of : FnScope ["points", "far", "found", "a", "b", "row", "p"] ["points"] (defScope s_rows_of) := ⟨rfl, rfl, rfl, by decide +kernel, rfl, by decide +kernel, by decide +kernel⟩
theorem ok_rows_of (Z : Zs mg) (F_widest_of : FnS P w K mg base "widest_of" 6 1 (sp1 p_widest_of)) (F_gap : FnS P w K mg base "gap" 4 2 (sp2 p_gap)) (F_by : FnS P w K mg base "by" 3 2 (sp2 p_by)) (F_minus : FnS P w K mg base "minus" 3 2 (sp2 p_minus)) (F_in_order : FnS P w K mg base "in_order" 2 1 (sp1 p_in_order)) (F_flipped : FnS P w K mg base "flipped" 1 1 (sp1 p_flipped)) (F : FunD K "rows_of" "rows_of" (defArgs s_rows_of) (defBody s_rows_of) (defScope s_rows_of) [] [] f fd) (hm : mg "rows_of" = some (.ref f)) : FnS P w K mg base "rows_of" 7 1 (sp1 p_rows_of) := by
  refine fnS_of (k := 6) F hm sc_rows_of (fun ds Φ Ψ h => by obtain ⟨_, rfl, _⟩ := h; rfl) (fun _ _ _ _ _ _ us hl => match us, hl with | [_], _ => rfl) (fun cdv A outer s H E hr ds Φ Ψ h => ?_)
  obtain ⟨points1, rfl, h⟩ := h
  obtain ⟨h⟩ := h
  refine SQ.run ?_
  show SQ _ _ _ [.dat points1, .emp, .emp, .emp, .emp, .emp, .emp] _
  refine s_set 1 (sx_c1 F_widest_of (hr.mono (by decide)) (sx_v 0)) h (fun far2 h => ?_) sc_rows_of.nd
  show SQ _ _ _ [.dat points1, .dat far2, .emp, .emp, .emp, .emp, .emp] _
  refine s_new 2 ?_ sc_rows_of.nd
  show SQ _ _ _ [.dat points1, .dat far2, .lst [], .emp, .emp, .emp, .emp] _
  refine s_for (S := List D) (J := Sl × Sl × Sl) h (si_v (sx_v 0)) (fun s3 j4 => [.dat points1, .dat far2, .lst s3, j4.1, j4.2.1, j4.2.2, .emp]) ((.emp), (.emp), (.emp)) rfl ?_ ?_ pass_cx
  · intro a9 s3 j4 nx7 h
    refine ⟨_, qg_name 3 sc_rows_of.nd, ?_⟩
    show SQ _ _ _ [.dat points1, .dat far2, .lst s3, .dat a9, j4.2.1, j4.2.2, .emp] _
    refine s_for (S := List D) (J := Sl × Sl) h (si_v (sx_v 0)) (fun s10 j11 => [.dat points1, .dat far2, .lst s10, .dat a9, j11.1, j11.2, .emp]) ((j4.2.1), (j4.2.2)) rfl ?_ ?_ pass_cx
    · intro b16 s10 j11 nx14 h
      refine ⟨_, qg_name 4 sc_rows_of.nd, ?_⟩
      show SQ _ _ _ [.dat points1, .dat far2, .lst s10, .dat a9, .dat b16, j11.2, .emp] _
      refine s_ifJ (J := List D × Sl) h (sw_t (sw_and (st_ne hr.units (sx_v 3) (sx_v 4)) (sw_and1 (st_eq hr.units (sx_c2 F_gap (hr.mono (by decide)) (sx_v 3) (sx_v 4)) (sx_v 1))))) (fun j => [.dat points1, .dat far2, .lst j.1, .dat a9, .dat b16, j.2, .emp]) (fun j k => k (j.1)) ?_ ?_ ?_
      · rintro ⟨found18, j19⟩ h
        show SQ _ _ _ [.dat points1, .dat far2, .lst found18, .dat a9, .dat b16, j19, .emp] _
        exact s_nil ⟨found18, ((.dat b16), (j19)), rfl, h⟩
      · intro h
        refine s_lc0 5 h sc_rows_of.nd (blkOk_by (N := ["points", "far", "found", "a", "b", "row", "p"]) (sc := defScope s_rows_of) (own := [("p", 6)]) (by decide +kernel)) (si_v (sx_v 0)) (fun p23 k21 h => ⟨_, qgb_name 6 sc_rows_of.nd, fun s H C cl fp => ((sx_c2 F_by (hr.mono (by decide)) (sx_c2 F_minus (hr.mono (by decide)) (sx_v 6) (sx_v 3)) (sx_c2 F_minus (hr.mono (by decide)) (sx_v 4) (sx_v 3)))).run h⟩) (fun row20 h => ?_)
        show SQ _ _ _ [.dat points1, .dat far2, .lst s10, .dat a9, .dat b16, .dat row20, .emp] _
        refine s_append 2 rfl (sx_tuple Z.tuple (sx_c1 F_in_order (hr.mono (by decide)) (sx_v 5))) h (fun d24 h => ?_)
        show SQ _ _ _ [.dat points1, .dat far2, .lst (s10 ++ [d24]), .dat a9, .dat b16, .dat row20, .emp] _
        refine s_append 2 rfl (sx_tuple Z.tuple (sx_c1 F_in_order (hr.mono (by decide)) (sx_lc0 sc_rows_of.nd (blkOk_by (N := ["points", "far", "found", "a", "b", "row", "p"]) (sc := defScope s_rows_of) (own := [("p", 6)]) (by decide +kernel)) (si_v (sx_v 5)) (fun p27 k25 h => ⟨_, qgb_name 6 sc_rows_of.nd, fun s H C cl fp => ((sx_c1 F_flipped (hr.mono (by decide)) (sx_v 6))).run h⟩)))) h (fun d28 h => ?_)
        show SQ _ _ _ [.dat points1, .dat far2, .lst ((s10 ++ [d24]) ++ [d28]), .dat a9, .dat b16, .dat row20, .emp] _
        exact s_nil ⟨(((s10 ++ [d24]) ++ [d28]), .dat row20), rfl, h⟩
      · intro h
        exact s_nil ⟨(s10, j11.2), rfl, h⟩
    · intro s12 j13 h
      show SQ _ _ _ [.dat points1, .dat far2, .lst s12, .dat a9, j13.1, j13.2, .emp] _
      exact s_nil ⟨s12, ((.dat a9), (j13.1), (j13.2)), rfl, h⟩
  · intro s5 j6 h
    show SQ _ _ _ [.dat points1, .dat far2, .lst s5, j6.1, j6.2.1, j6.2.2, .emp] _
    refine s_frz 2 rfl ?_
    show SQ _ _ _ [.dat points1, .dat far2, .dat (.lst s5), j6.1, j6.2.1, j6.2.2, .emp] _
    exact s_ret (sx_v 2) h
abbrev s_comes_first : Stmt := top 41
theorem sc_comes_first : FnScope ["one", "other", "p", "q"] ["one", "other"] (defScope s_comes_first) := ⟨rfl, rfl, rfl, by decide +kernel, rfl, by decide +kernel, by decide +kernel⟩
theorem ok_comes_first (Z : Zs mg) (F_ahead : FnS P w K mg base "ahead" 1 2 (sp2 p_ahead)) (F : FunD K "comes_first" "comes_first" (defArgs s_comes_first) (defBody s_comes_first) (defScope s_comes_first) [] [] f fd) (hm : mg "comes_first" = some (.ref f)) : FnS P w K mg base "comes_first" 2 2 (sp2 p_comes_first) := by
  refine fnS_of (k := 1) F hm sc_comes_first (fun ds Φ Ψ h => by obtain ⟨_, _, rfl, _⟩ := h; rfl) (fun _ _ _ _ _ _ us hl => match us, hl with | [_, _], _ => rfl) (fun cdv A outer s H E hr ds Φ Ψ h => ?_)
  obtain ⟨one1, other2, rfl, h⟩ := h
  obtain ⟨h⟩ := h
  refine SQ.run ?_
  show SQ _ _ _ [.dat one1, .dat other2, .emp, .emp] _
  refine s_for (S := Unit) (J := Sl × Sl) h (si_zip Z.zip (sx_v 0) (sx_v 1)) (fun s3 j4 => [.dat one1, .dat other2, j4.1, j4.2]) ((.emp), (.emp)) rfl ?_ ?_ pass_cx
  · intro d9 s3 j4 nx7 h
    obtain ⟨p10, q11, hd, h⟩ := un2_of h
    refine ⟨_, qg_un hd (qgs_cons (qg_name 2 sc_comes_first.nd) (qgs_cons (qg_name 3 sc_comes_first.nd) qgs_nil)), ?_⟩
    show SQ _ _ _ [.dat one1, .dat other2, .dat p10, .dat q11] _
    refine s_if (st_ne hr.units (sx_v 2) (sx_v 3)) h (fun h => ?_) (fun h => ?_)
    · exact s_ret (sx_c2 F_ahead (hr.mono (by decide)) (sx_v 2) (sx_v 3)) h
    · refine s_nil ?_
      show SQ _ _ _ [.dat one1, .dat other2, .dat p10, .dat q11] _
      exact s_nil ⟨(), ((.dat p10), (.dat q11)), rfl, h⟩
  · intro s5 j6 h
    show SQ _ _ _ [.dat one1, .dat other2, j6.1, j6.2] _
    exact s_ret sx_b h
abbrev s_shape : Stmt := top 42
theorem sc_shape : FnScope ["points", "rows", "best", "row"] ["points"] (defScope s_shape) := ⟨rfl, rfl, rfl, by decide +kernel, rfl, by decide +kernel, by decide +kernel⟩
theorem ok_shape (Z : Zs mg) (F_look_heaps : FnS P w K mg base "look_heaps" 4 1 (sp1 p_look_heaps)) (F_rows_of : FnS P w K mg base "rows_of" 7 1 (sp1 p_rows_of)) (F_comes_first : FnS P w K mg base "comes_first" 2 2 (sp2 p_comes_first)) (F : FunD K "shape" "shape" (defArgs s_shape) (defBody s_shape) (defScope s_shape) [] [] f fd) (hm : mg "shape" = some (.ref f)) : FnS P w K mg base "shape" 8 1 (sp1 p_shape) := by
  refine fnS_of (k := 7) F hm sc_shape (fun ds Φ Ψ h => by obtain ⟨_, rfl, _⟩ := h; rfl) (fun _ _ _ _ _ _ us hl => match us, hl with | [_], _ => rfl) (fun cdv A outer s H E hr ds Φ Ψ h => ?_)
  obtain ⟨points1, rfl, h⟩ := h
  obtain ⟨h⟩ := h
  refine SQ.run ?_
  show SQ _ _ _ [.dat points1, .emp, .emp, .emp] _
  refine s_expr (sx_c1 F_look_heaps (hr.mono (by decide)) (sx_lst (sa_cons (sx_v 0) sa_nil))) h (fun _ h => ?_)
  refine s_set 1 (sx_c1 F_rows_of (hr.mono (by decide)) (sx_v 0)) h (fun rows2 h => ?_) sc_shape.nd
  show SQ _ _ _ [.dat points1, .dat rows2, .emp, .emp] _
  refine s_set 2 (sx_ix (Room.u65 hr) (sx_v 1) sx_i) h (fun best3 h => ?_) sc_shape.nd
  show SQ _ _ _ [.dat points1, .dat rows2, .dat best3, .emp] _
  refine s_for (S := D) (J := Sl) h (si_v (sx_v 1)) (fun s4 j5 => [.dat points1, .dat rows2, .dat s4, j5]) (.emp) rfl ?_ ?_ pass_cx
  · intro row10 s4 j5 nx8 h
    refine ⟨_, qg_name 3 sc_shape.nd, ?_⟩
    show SQ _ _ _ [.dat points1, .dat rows2, .dat s4, .dat row10] _
    refine s_ifJ (J := D) h (st_v (sx_c2 F_comes_first (hr.mono (by decide)) (sx_v 3) (sx_v 2))) (fun j => [.dat points1, .dat rows2, .dat j, .dat row10]) (fun j k => k (j)) ?_ ?_ ?_
    · rintro best12 h
      show SQ _ _ _ [.dat points1, .dat rows2, .dat best12, .dat row10] _
      exact s_nil ⟨best12, (.dat row10), rfl, h⟩
    · intro h
      refine s_set 2 (sx_v 3) h (fun best13 h => ?_) sc_shape.nd
      show SQ _ _ _ [.dat points1, .dat rows2, .dat best13, .dat row10] _
      exact s_nil ⟨best13, rfl, h⟩
    · intro h
      exact s_nil ⟨s4, rfl, h⟩
  · intro s6 j7 h
    show SQ _ _ _ [.dat points1, .dat rows2, .dat s6, j7] _
    exact s_ret (sx_v 2) h
abbrev s_form : Stmt := top 43
theorem sc_form : FnScope ["points"] ["points"] (defScope s_form) := ⟨rfl, rfl, rfl, by decide +kernel, rfl, by decide +kernel, by decide +kernel⟩
theorem ok_form (Z : Zs mg) (F_look_heaps : FnS P w K mg base "look_heaps" 4 1 (sp1 p_look_heaps)) (F_widest_of : FnS P w K mg base "widest_of" 6 1 (sp1 p_widest_of)) (F_shape : FnS P w K mg base "shape" 8 1 (sp1 p_shape)) (F : FunD K "form" "form" (defArgs s_form) (defBody s_form) (defScope s_form) [] [] f fd) (hm : mg "form" = some (.ref f)) : FnS P w K mg base "form" 9 1 (sp1 p_form) := by
  refine fnS_of (k := 8) F hm sc_form (fun ds Φ Ψ h => by obtain ⟨_, rfl, _⟩ := h; rfl) (fun _ _ _ _ _ _ us hl => match us, hl with | [_], _ => rfl) (fun cdv A outer s H E hr ds Φ Ψ h => ?_)
  obtain ⟨points1, rfl, h⟩ := h
  obtain ⟨h⟩ := h
  refine SQ.run ?_
  show SQ _ _ _ [.dat points1] _
  refine s_expr (sx_c1 F_look_heaps (hr.mono (by decide)) (sx_lst (sa_cons (sx_v 0) sa_nil))) h (fun _ h => ?_)
  exact s_ret (sx_tup (sa_cons (sx_c1 F_widest_of (hr.mono (by decide)) (sx_v 0)) (sa_cons (sx_c1 F_shape (hr.mono (by decide)) (sx_v 0)) sa_nil))) h
abbrev s_Album_named : Stmt := inClass (top 47) 3
theorem sc_Album_named : FnScope ["self", "mark", "one"] ["self", "mark"] (defScope s_Album_named) := ⟨rfl, rfl, rfl, by decide +kernel, rfl, by decide +kernel, by decide +kernel⟩
theorem ok_Album_named (Z : Zs mg) (AK : AlbK K) (F : FunD K "named" "Album.named" (defArgs s_Album_named) (defBody s_Album_named) (defScope s_Album_named) [] [] f fd) (mt : Meth K (albC K) "named" f) : MthS P w K mg base "named" 1 2 (sp2 p_Album_named) := by
  refine fnM_of (k := 0) F AK mt sc_Album_named (fun ds Φ Ψ h => by obtain ⟨_, _, rfl, _⟩ := h; rfl) (fun _ _ _ _ _ _ us hl => match us, hl with | [_, _], _ => rfl) (fun cdv A outer s H E hr ds Φ Ψ h => ?_)
  obtain ⟨self1, mark2, rfl, h⟩ := h
  obtain ⟨h⟩ := h
  refine SQ.run ?_
  show SQ _ _ _ [.dat self1, .dat mark2, .emp] _
  exact s_ret (sx_sortT Z.sorted (sx_lc1 sc_Album_named.nd (blkOk_by (N := ["self", "mark", "one"]) (sc := defScope s_Album_named) (own := [("one", 2)]) (by decide +kernel)) (si_T (sx_fldM AK (sx_v 0))) (fun one5 k3 h => ⟨_, qgb_name 2 sc_Album_named.nd, (cmpT eqB (bin ixTD (una fldM (ret self1)) (ret one5)) (ret mark2)), (fun b => if b = true then (ret one5) (fun y4 => k3 (some y4)) bot else k3 none), h, fun s H C cl fp => (st_eq hr.units (sx_ixT hr.units (sx_fldM AK (sx_v 0)) (sx_v 2)) (sx_v 1)), fun h s H C cl fp => ((sx_v 2)).run (itU h), fun h => itG h⟩))) h
abbrev s_Album_put : Stmt := inClass (top 47) 2
theorem sc_Album_put : FnScope ["self", "name", "points", "one"] ["self", "name", "points"] (defScope s_Album_put) := ⟨rfl, rfl, rfl, by decide +kernel, rfl, by decide +kernel, by decide +kernel⟩
theorem ok_Album_put (Z : Zs mg) (F_look_heaps : FnS P w K mg base "look_heaps" 4 1 (sp1 p_look_heaps)) (F_heap : FnS P w K mg base "heap" 5 1 (sp1 p_heap)) (F_form : FnS P w K mg base "form" 9 1 (sp1 p_form)) (E_BadName : ExcF K mg "BadName") (AK : AlbK K) (F : FunD K "put" "Album.put" (defArgs s_Album_put) (defBody s_Album_put) (defScope s_Album_put) [] [] f fd) (mt : Meth K (albC K) "put" f) : MthS P w K mg base "put" 10 3 (sp3 p_Album_put) := by
  refine fnM_of (k := 9) F AK mt sc_Album_put (fun ds Φ Ψ h => by obtain ⟨_, _, _, rfl, _⟩ := h; rfl) (fun _ _ _ _ _ _ us hl => match us, hl with | [_, _, _], _ => rfl) (fun cdv A outer s H E hr ds Φ Ψ h => ?_)
  obtain ⟨self1, name2, points3, rfl, h⟩ := h
  obtain ⟨h⟩ := h
  refine SQ.run ?_
  show SQ _ _ _ [.dat self1, .dat name2, .dat points3, .emp] _
  refine s_if (sw_t (sw_or (st_not (st_v (sx_isi Z.isinstance Z.str (by decide +kernel) kit_str (sx_v 1)))) (sw_or1 (st_eq hr.units (sx_v 1) sx_s)))) h (fun h => ?_) (fun h => ?_)
  · exact s_raise E_BadName h
  · refine s_nil ?_
    show SQ _ _ _ [.dat self1, .dat name2, .dat points3, .emp] _
    refine s_expr (sx_c1 F_look_heaps (hr.mono (by decide)) (sx_lst (sa_cons (sx_v 2) sa_nil))) h (fun _ h => ?_)
    exact s_no h
theorem oko_Album_put (Z : Zs mg) (F_look_heaps : FnS P w K mg base "look_heaps" 4 1 (sp1 p_look_heaps)) (F_heap : FnS P w K mg base "heap" 5 1 (sp1 p_heap)) (F_form : FnS P w K mg base "form" 9 1 (sp1 p_form)) (FO_Album_begin : MthO P w K mg base "begin" 1 0 (so0 o_Album_begin)) (FM_Album_named : MthS P w K mg base "named" 1 2 (sp2 p_Album_named)) (E_BadName : ExcF K mg "BadName") (AK : AlbK K) (F : FunD K "put" "Album.put" (defArgs s_Album_put) (defBody s_Album_put) (defScope s_Album_put) [] [] f fd) (mt : Meth K (albC K) "put" f) : MthO P w K mg base "put" 10 2 (so2 o_Album_put) := by
  refine fnO_of (k := 9) F AK mt sc_Album_put rfl (fun A ds Φ h => by obtain ⟨_, _, rfl, _⟩ := h; rfl) (fun _ _ _ _ _ _ us hl => match us, hl with | [_, _, _], _ => rfl) (fun cdv A0 outer s H E hr ra self1 ds Φ h => ?_)
  obtain ⟨name2, points3, rfl, h⟩ := h
  obtain ⟨h⟩ := h
  show SQ _ _ _ [.alb (some ra) self1, .dat name2, .dat points3, .emp] _
  refine s_if (sw_t (sw_or (st_not (st_v (sx_isi Z.isinstance Z.str (by decide +kernel) kit_str (sx_v 1)))) (sw_or1 (st_eq hr.units (sx_v 1) sx_s)))) h (fun h => ?_) (fun h => ?_)
  · exact s_raise E_BadName h
  · refine s_nil ?_
    show SQ _ _ _ [.alb (some ra) self1, .dat name2, .dat points3, .emp] _
    refine s_expr (sx_c1 F_look_heaps (hr.mono (by decide)) (sx_lst (sa_cons (sx_v 2) sa_nil))) h (fun _ h => ?_)
    refine s_own0 0 FO_Album_begin (hr.mono (by decide)) rfl h (fun A4 h => ?_)
    show SQ _ _ _ [.alb (some ra) A4, .dat name2, .dat points3, .emp] _
    refine s_fputS 0 (Room.u65 hr) AK rfl (sx_c1 F_heap (hr.mono (by decide)) (sx_v 2)) (sx_v 1) h (fun S8 h => ?_)
    show SQ _ _ _ [.alb (some ra) ({ A4 with st := S8 } : Alb), .dat name2, .dat points3, .emp] _
    refine s_fputM 0 (Room.u65 hr) AK rfl (sx_c1 F_form (hr.mono (by decide)) (sx_v 2)) (sx_v 1) h (fun S12 h => ?_)
    show SQ _ _ _ [.alb (some ra) ({ ({ A4 with st := S8 } : Alb) with ma := S12 } : Alb), .dat name2, .dat points3, .emp] _
    exact s_retS 0 rfl (sx_lc1 sc_Album_put.nd (blkOk_by (N := ["self", "name", "points", "one"]) (sc := defScope s_Album_put) (own := [("one", 3)]) (by decide +kernel)) (si_v (sx_m1 FM_Album_named (hr.mono (by decide)) (sx_v 0) (sx_ixT hr.units (sx_fldM AK (sx_v 0)) (sx_v 1)))) (fun one15 k13 h => ⟨_, qgb_name 3 sc_Album_put.nd, (cmpT neB (ret one15) (ret name2)), (fun b => if b = true then (ret one15) (fun y14 => k13 (some y14)) bot else k13 none), h, fun s H C cl fp => (st_ne hr.units (sx_v 3) (sx_v 1)), fun h s H C cl fp => ((sx_v 3)).run (itU h), fun h => itG h⟩)) h (fun z h => ⟨_, rfl, h⟩)
abbrev s_Album_undo : Stmt := inClass (top 47) 12
theorem sc_Album_undo : FnScope ["self"] ["self"] (defScope s_Album_undo) := ⟨rfl, rfl, rfl, by decide +kernel, rfl, by decide +kernel, by decide +kernel⟩
theorem ok_Album_undo (Z : Zs mg) (AK : AlbK K) (E_NoThing : ExcF K mg "NoThing") (F : FunD K "undo" "Album.undo" (defArgs s_Album_undo) (defBody s_Album_undo) (defScope s_Album_undo) [] [] f fd) (mt : Meth K (albC K) "undo" f) : MthS P w K mg base "undo" 1 1 (sp1 p_Album_undo) := by
  refine fnM_of (k := 0) F AK mt sc_Album_undo (fun ds Φ Ψ h => by obtain ⟨_, rfl, _⟩ := h; rfl) (fun _ _ _ _ _ _ us hl => match us, hl with | [_], _ => rfl) (fun cdv A outer s H E hr ds Φ Ψ h => ?_)
  obtain ⟨self1, rfl, h⟩ := h
  obtain ⟨h⟩ := h
  refine SQ.run ?_
  show SQ _ _ _ [.dat self1] _
  refine s_if (st_pastE (Room.u65 hr) AK (sx_v 0)) h (fun h => ?_) (fun h => ?_)
  · exact s_raise E_NoThing h
  · refine s_nil ?_
    show SQ _ _ _ [.dat self1] _
    exact s_no h
theorem oko_Album_undo (Z : Zs mg) (AK : AlbK K) (E_NoThing : ExcF K mg "NoThing") (F : FunD K "undo" "Album.undo" (defArgs s_Album_undo) (defBody s_Album_undo) (defScope s_Album_undo) [] [] f fd) (mt : Meth K (albC K) "undo" f) : MthO P w K mg base "undo" 1 0 (so0 o_Album_undo) := by
  refine fnO_of (k := 0) F AK mt sc_Album_undo rfl (fun A ds Φ h => by obtain ⟨rfl, _⟩ := h; rfl) (fun _ _ _ _ _ _ us hl => match us, hl with | [_], _ => rfl) (fun cdv A0 outer s H E hr ra self1 ds Φ h => ?_)
  obtain ⟨rfl, h⟩ := h
  obtain ⟨h⟩ := h
  show SQ _ _ _ [.alb (some ra) self1] _
  refine s_if (st_peekA 0 rfl (st_pastE (Room.u65 hr) AK (sx_v 0))) h (fun h => ?_) (fun h => ?_)
  · exact s_raise E_NoThing h
  · refine s_nil ?_
    show SQ _ _ _ [.alb (some ra) self1] _
    obtain ⟨T2, ps3, he, h⟩ := h
    refine SQ.mk (qs_undo 0 AK rfl he (SQ.run ?_))
    show SQ _ _ _ [.alb (some ra) (⟨T2.1, T2.2, ps3⟩ : Alb)] _
    exact s_nil ⟨_, rfl, h⟩
abbrev s_law_town : Stmt := top 49
theorem sc_law_town : FnScope ["_law_script"] ["_law_script"] (defScope s_law_town) := ⟨rfl, rfl, rfl, by decide +kernel, rfl, by decide +kernel, by decide +kernel⟩
theorem ok_law_town (Z : Zs mg) (F : FunD K "_law_town" "_law_town" (defArgs s_law_town) (defBody s_law_town) (defScope s_law_town) [] [] f fd) (hm : mg "_law_town" = some (.ref f)) : FnS P w K mg base "_law_town" 1 1 (sp1 p_law_town) := by
  refine fnS_of (k := 0) F hm sc_law_town (fun ds Φ Ψ h => by obtain ⟨_, rfl, _⟩ := h; rfl) (fun _ _ _ _ _ _ us hl => match us, hl with | [_], _ => rfl) (fun cdv A outer s H E hr ds Φ Ψ h => ?_)
  obtain ⟨_, rfl, rfl, k⟩ := h
  refine qs_town k fun H a ns hs hn => ?_
  have sh : ∀ l : List Int, D.shp 8 (.lst (l.map D.int)) = true := fun l => by
    rw [shp_lst]; exact shpA_all fun d hd => by obtain ⟨i, _, rfl⟩ := List.mem_map.mp hd; rfl
  have rp : ∀ (H : L2.Hp) (l : List Int), RpA K H (l.map V.int) (l.map D.int) := fun H l => by
    induction l with
    | nil => exact .nil
    | cons i l ih => exact .cons (.int i) ih
  refine wSs.cons (ps_ret (pe_lst (pa_cons (pe_ifExp (pt_cmpR (op_neD hr.units) (pe_var (i := 0) rfl (Or.inl rfl)) (pe_lst pa_nil) (nomark _)) (pe_callTy call_list_of rfl Z.list (by decide +kernel) (pa_cons (pe_var (i := 0) rfl (Or.inl rfl)) pa_nil)) (pe_lst (pa_cons pe_int pa_nil))) (pa_cons pe_int pa_nil)))) ?_
  refine ⟨_, rfl, by show 0 ≤ sizeLine; decide, fun p hp => ?_⟩
  have e1 : Ex H (upd H p (.lst [])) := Ex.new hp
  have hd1 : Dp K (upd H p (.lst [])) (.ref a) (D.lst (ns.map D.int)).py := .lst (e1.l hs) (RpA.dp _ _ 7 (by have := sh ns; rw [shp_lst] at this; exact this) (rp _ ns))
  have hd2 : Dp K (upd H p (.lst [])) (.ref p) (D.lst []).py := .lst (SqL.of upd_same) .nil
  refine ⟨_, _, hd1, hd2, D.shp_shaped (sh ns) (by decide), D.shp_shaped (sh []) (by decide), _, rfl, ?_⟩
  have fin : ∀ (Hx : L2.Hp) (l : List Int), Ex H Hx → l ≠ [] → l.length ≤ 63 → ∀ q, Hx q = none → (tCons (tC (.int 0)) tNil) [some (.ref a)] (upd Hx q (.lst (l.map V.int))) (fun ys H2 => (V.ref q :: ys).length ≤ sizeLine ∧ ∀ p, H2 p = none → (TownEnd H).rt (.ref p) (upd H2 p (.lst (V.ref q :: ys)))) := fun Hx l ex hne hl q hq => by
    refine ⟨by show 2 ≤ sizeLine; decide, fun t ht => ?_⟩
    have hn : Hx t = none := by
      cases z : Hx t with
      | none => rfl
      | some u => rw [upd_ne (ne_of_none z hq), z] at ht; cases ht
    have htq : t ≠ q := fun e => by subst e; rw [upd_same] at ht; cases ht
    exact ⟨Hx, t, q, 0, l, ex, hq, hn, htq, hne, rfl, rfl⟩
  cases ns with
  | nil => exact ⟨by show 1 ≤ sizeLine; decide, fun q hq => fin _ [0] e1 (by simp) (by decide) q hq⟩
  | cons i ns =>
    exact ⟨_, rfl, a, _, rfl, .inl (e1.l hs), fun q hq => fin _ (i :: ns) e1 (by simp) hn q hq⟩
abbrev s_law_draw : Stmt := top 50
theorem sc_law_draw : FnScope ["_law_town_here", "_law_count", "_law_row", "_law_at", "_law_cell", "_law_mixed"] ["_law_town_here", "_law_count"] (defScope s_law_draw) := ⟨rfl, rfl, rfl, by decide +kernel, rfl, by decide +kernel, by decide +kernel⟩
theorem ok_law_draw (Z : Zs mg) (F : FunD K "_law_draw" "_law_draw" (defArgs s_law_draw) (defBody s_law_draw) (defScope s_law_draw) [] [] f fd) (hm : mg "_law_draw" = some (.ref f)) : FnS P w K mg base "_law_draw" 1 2 (sp2 p_law_draw) := by
  refine fnS_of (k := 0) F hm sc_law_draw (fun ds Φ Ψ h => by obtain ⟨_, _, rfl, _⟩ := h; rfl) (fun _ _ _ _ _ _ us hl => match us, hl with | [_, _], _ => rfl) (fun cdv A outer s H E hr ds Φ Ψ h => ?_)
  obtain ⟨_, _, rfl, c, rfl, rfl, h0, h1, k⟩ := h
  refine qs_draw k fun H t r n ns x2 x3 x4 x5 htr hne ht hr0 => ?_
  refine wSs.cons (ps_set (i := 2) sc_law_draw.nd rfl (.inl rfl) (pe_ix ix_list (pe_var (i := 0) rfl (Or.inl rfl)) pe_int (fun _ _ => rfl))) ⟨_, rfl, t, _, 0, .ref r, rfl, rfl, SqL.of ht, rfl, ?_⟩
  refine wSs.cons (ps_asg (pe_op op_add (pe_ix ix_list (pe_var (i := 0) rfl (Or.inl rfl)) pe_int (fun _ _ => rfl)) pe_int) (pg_sub (pe_var (i := 0) rfl (Or.inl rfl)) pe_int set_list (fun _ => rfl))) ⟨_, rfl, t, _, 1, .int n, rfl, rfl, SqL.of ht, rfl, n, 1, rfl, rfl, _, rfl, t, _, 1, 1, rfl, rfl, ht, rfl, ?_⟩
  have ht1 : upd H t (.lst [.ref r, .int (n + 1)]) t = some (.lst [.ref r, .int (n + 1)]) := upd_same
  have hr1 : upd H t (.lst [.ref r, .int (n + 1)]) r = some (.lst (ns.map V.int)) := by rw [upd_ne (Ne.symm htr)]; exact hr0
  have hl : 0 < ns.length := List.length_pos_iff.mpr hne
  obtain ⟨cell, hc, j, hj⟩ := row_at hne (n + 1)
  have hl2 : ((ns.map V.int).length : Int) = (ns.length : Int) := by simp
  refine wSs.cons (ps_set (i := 3) sc_law_draw.nd rfl (.inl rfl) (pe_op op_mod (pe_ix ix_list (pe_var (i := 0) rfl (Or.inl rfl)) pe_int (fun _ _ => rfl)) (pe_callB call_len_seq rfl Z.len PySem.boot_len (pa_cons (pe_var (i := 2) rfl (Or.inl rfl)) pa_nil)))) ⟨_, rfl, t, _, 1, .int (n + 1), rfl, rfl, SqL.of ht1, rfl, _, rfl, r, _, rfl, .inl (SqL.of hr1), n + 1, _, rfl, rfl, (by rw [hl2]; omega), ?_⟩
  rw [hl2]
  refine wSs.cons (ps_set (i := 4) sc_law_draw.nd rfl (.inl rfl) (pe_ix ix_list (pe_var (i := 2) rfl (Or.inl rfl)) (pe_var (i := 3) rfl (Or.inl rfl)) (fun _ _ => rfl))) ⟨_, rfl, _, rfl, r, _, _, .int cell, rfl, rfl, SqL.of hr1, hc, ?_⟩
  refine wSs.cons (ps_if (pt_cmpR op_ge (pe_var (i := 4) rfl (Or.inl rfl)) pe_int (nomark _)) pss_w pss_w) ⟨_, rfl, cell, _, rfl, rfl, _, rfl, ?_⟩
  by_cases hb : (1000000000000000000 : Int) ≤ cell
  · rw [decide_eq_true hb]
    show wSs _ _ _ _ _
    refine wSs.cons (ps_asg (pe_op op_fdiv (pe_var (i := 4) rfl (Or.inl rfl)) (pe_var (i := 1) rfl (Or.inl rfl))) (pg_sub (pe_var (i := 2) rfl (Or.inl rfl)) (pe_var (i := 3) rfl (Or.inl rfl)) set_list (fun _ => rfl))) ⟨_, rfl, _, rfl, cell, c, rfl, rfl, ⟨h0, h1⟩, _, rfl, _, rfl, r, _, _, j, rfl, rfl, hr1, hj, ?_⟩
    refine wSs.cons (ps_ret (pe_op op_mod (pe_var (i := 4) rfl (Or.inl rfl)) (pe_var (i := 1) rfl (Or.inl rfl)))) ⟨_, rfl, _, rfl, cell, c, rfl, rfl, h0, cell % c, n + 1, ns.set j (cell / c), rfl, Int.emod_nonneg _ (by omega), Int.emod_lt_of_pos _ h0, (fun e => hne (by simpa using e)), ?_⟩
    rw [List.map_set]; rfl
  · rw [decide_eq_false hb]
    show wSs _ _ _ _ _
    refine wSs.of pss_nil ?_
    have hb1 : ∀ x : Int, 0 ≤ x % 4294967291 ∧ x % 4294967291 < 4294967291 := fun x => ⟨by omega, by omega⟩
    refine wSs.cons (ps_set (i := 5) sc_law_draw.nd rfl (.inl rfl) (pe_op op_mod (pe_op op_add (pe_var (i := 4) rfl (Or.inl rfl)) (pe_op op_mul pe_int (pe_ix ix_list (pe_var (i := 0) rfl (Or.inl rfl)) pe_int (fun _ _ => rfl)))) pe_int)) ⟨_, rfl, _, rfl, t, _, 1, .int (n + 1), rfl, rfl, SqL.of ht1, rfl, 104729, n + 1, rfl, rfl, .inl ⟨by decide, by decide⟩, cell, _, rfl, rfl, _, 4294967291, rfl, rfl, (show (0 : Int) < 4294967291 by decide), ?_⟩
    have b1 := hb1 (cell + 104729 * (n + 1))
    refine wSs.cons (ps_set (i := 5) sc_law_draw.nd rfl (.inl rfl) (pe_op op_mod (pe_op op_pow (pe_var (i := 5) rfl (Or.inl rfl)) pe_int) pe_int)) ⟨_, rfl, (cell + 104729 * (n + 1)) % 4294967291, 5, rfl, rfl, ⟨by decide, by decide, by omega⟩, _, 4294967279, rfl, rfl, (show (0 : Int) < 4294967279 by decide), ?_⟩
    refine wSs.cons (ps_ret (pe_op op_mod (pe_op op_fdiv (pe_op op_mod (pe_op op_add (pe_op op_mul (pe_op op_fdiv (pe_var (i := 5) rfl (Or.inl rfl)) pe_int) pe_int) (pe_var (i := 5) rfl (Or.inl rfl))) pe_int) pe_int) (pe_var (i := 1) rfl (Or.inl rfl)))) ?_
    refine ⟨_, rfl, _, 64, rfl, rfl, ⟨by decide, by decide⟩, _, 69621, rfl, rfl, .inr ⟨by decide, by decide⟩, _, rfl, _, _, rfl, rfl, _, 4294967231, rfl, rfl, (show (0 : Int) < 4294967231 by decide), _, 8, rfl, rfl, ⟨by decide, by decide⟩, _, rfl, _, c, rfl, rfl, h0, _, n + 1, ns, rfl, Int.emod_nonneg _ (by omega), Int.emod_lt_of_pos _ h0, hne, ?_⟩
    funext b
    by_cases hb3 : b = r
    · rw [hb3, upd_same]; exact hr1
    · rw [upd_ne hb3]; rfl
abbrev s_law_pick : Stmt := top 51
theorem sc_law_pick : FnScope ["_law_town_here", "_law_some"] ["_law_town_here", "_law_some"] (defScope s_law_pick) := ⟨rfl, rfl, rfl, by decide +kernel, rfl, by decide +kernel, by decide +kernel⟩
theorem ok_law_pick (Z : Zs mg) (F_law_draw : FnS P w K mg base "_law_draw" 1 2 (sp2 p_law_draw)) (F : FunD K "_law_pick" "_law_pick" (defArgs s_law_pick) (defBody s_law_pick) (defScope s_law_pick) [] [] f fd) (hm : mg "_law_pick" = some (.ref f)) : FnS P w K mg base "_law_pick" 2 2 (sp2 p_law_pick) := by
  refine fnS_of (k := 1) F hm sc_law_pick (fun ds Φ Ψ h => by obtain ⟨_, _, rfl, _⟩ := h; rfl) (fun _ _ _ _ _ _ us hl => match us, hl with | [_, _], _ => rfl) (fun cdv A outer s H E hr ds Φ Ψ h => ?_)
  obtain ⟨town_here1, some2, rfl, h⟩ := h
  obtain ⟨h⟩ := h
  refine SQ.run ?_
  show SQ _ _ _ [.dat town_here1, .dat some2] _
  exact s_ret (sx_ix (Room.u65 hr) (sx_v 1) (sx_c2 F_law_draw (hr.mono (by decide)) (sx_v 0) (sx_len Z.len (sx_v 1)))) h
abbrev s_law_gcd : Stmt := top 53
theorem sc_law_gcd : FnScope ["_law_one", "_law_two"] ["_law_one", "_law_two"] (defScope s_law_gcd) := ⟨rfl, rfl, rfl, by decide +kernel, rfl, by decide +kernel, by decide +kernel⟩
theorem ok_law_gcd (Z : Zs mg) (F : FunD K "_law_gcd" "_law_gcd" (defArgs s_law_gcd) (defBody s_law_gcd) (defScope s_law_gcd) [] [] f fd) (hm : mg "_law_gcd" = some (.ref f)) : FnS P w K mg base "_law_gcd" 1 2 (sp2 p_law_gcd) := by
  refine fnS_of (k := 0) F hm sc_law_gcd (fun ds Φ Ψ h => by obtain ⟨_, _, rfl, _⟩ := h; rfl) (fun _ _ _ _ _ _ us hl => match us, hl with | [_, _], _ => rfl) (fun cdv A outer s H E hr ds Φ Ψ h => ?_)
  obtain ⟨one1, two2, rfl, h⟩ := h
  obtain ⟨h⟩ := h
  refine SQ.run ?_
  show SQ _ _ _ [.dat one1, .dat two2] _
  refine s_par 0 1 (sx_max2 Z.max (sx_v 0) (sx_sub sx_i (sx_v 0))) (sx_max2 Z.max (sx_v 1) (sx_sub sx_i (sx_v 1))) h (fun one3 two4 h => ?_) sc_law_gcd.nd
  show SQ _ _ _ [.dat one3, .dat two4] _
  refine s_while (S := D × D) (J := Unit) h (fun s5 j6 => [.dat s5.1, .dat s5.2]) () rfl (fun s5 j6 => (st_ne hr.units (sx_v 1) sx_i)) ?_ ?_ pass_cx
  · intro s5 j6 nx9 h
    show SQ _ _ _ [.dat s5.1, .dat s5.2] _
    refine s_par 0 1 (sx_v 1) (sx_mod (sx_v 0) (sx_v 1)) h (fun one11 two12 h => ?_) sc_law_gcd.nd
    show SQ _ _ _ [.dat one11, .dat two12] _
    exact s_nil ⟨(one11, two12), (), rfl, h⟩
  · intro s7 j8 h
    show SQ _ _ _ [.dat s7.1, .dat s7.2] _
    exact s_ret (sx_v 0) h
abbrev s_law_low : Stmt := top 54
theorem sc_law_low : FnScope ["_law_px", "_law_py", "_law_pw", "_law_div"] ["_law_px", "_law_py", "_law_pw"] (defScope s_law_low) := ⟨rfl, rfl, rfl, by decide +kernel, rfl, by decide +kernel, by decide +kernel⟩
theorem ok_law_low (Z : Zs mg) (F_law_gcd : FnS P w K mg base "_law_gcd" 1 2 (sp2 p_law_gcd)) (F : FunD K "_law_low" "_law_low" (defArgs s_law_low) (defBody s_law_low) (defScope s_law_low) [] [] f fd) (hm : mg "_law_low" = some (.ref f)) : FnS P w K mg base "_law_low" 2 3 (sp3 p_law_low) := by
  refine fnS_of (k := 1) F hm sc_law_low (fun ds Φ Ψ h => by obtain ⟨_, _, _, rfl, _⟩ := h; rfl) (fun _ _ _ _ _ _ us hl => match us, hl with | [_, _, _], _ => rfl) (fun cdv A outer s H E hr ds Φ Ψ h => ?_)
  obtain ⟨px1, py2, pw3, rfl, h⟩ := h
  obtain ⟨h⟩ := h
  refine SQ.run ?_
  show SQ _ _ _ [.dat px1, .dat py2, .dat pw3, .emp] _
  refine s_set 3 (sx_c2 F_law_gcd (hr.mono (by decide)) (sx_c2 F_law_gcd (hr.mono (by decide)) (sx_v 0) (sx_v 1)) (sx_v 2)) h (fun div4 h => ?_) sc_law_low.nd
  show SQ _ _ _ [.dat px1, .dat py2, .dat pw3, .dat div4] _
  refine s_set 3 (sx_if (st_gt (sx_v 2) sx_i) (sx_v 3) (sx_sub sx_i (sx_v 3))) h (fun div5 h => ?_) sc_law_low.nd
  show SQ _ _ _ [.dat px1, .dat py2, .dat pw3, .dat div5] _
  exact s_ret (sx_tup (sa_cons (sx_fdiv (sx_v 0) (sx_v 3)) (sa_cons (sx_fdiv (sx_v 1) (sx_v 3)) (sa_cons (sx_fdiv (sx_v 2) (sx_v 3)) sa_nil)))) h
abbrev s_law_turn : Stmt := top 56
theorem sc_law_turn : FnScope ["_law_town_here", "_law_a", "_law_b", "_law_w"] ["_law_town_here"] (defScope s_law_turn) := ⟨rfl, rfl, rfl, by decide +kernel, rfl, by decide +kernel, by decide +kernel⟩
theorem ok_law_turn (Z : Zs mg) (F_law_pick : FnS P w K mg base "_law_pick" 2 2 (sp2 p_law_pick)) (F_law_low : FnS P w K mg base "_law_low" 2 3 (sp3 p_law_low)) (F : FunD K "_law_turn" "_law_turn" (defArgs s_law_turn) (defBody s_law_turn) (defScope s_law_turn) [] [] f fd) (hm : mg "_law_turn" = some (.ref f)) : FnS P w K mg base "_law_turn" 3 1 (sp1 p_law_turn) := by
  refine fnS_of (k := 2) F hm sc_law_turn (fun ds Φ Ψ h => by obtain ⟨_, rfl, _⟩ := h; rfl) (fun _ _ _ _ _ _ us hl => match us, hl with | [_], _ => rfl) (fun cdv A outer s H E hr ds Φ Ψ h => ?_)
  obtain ⟨town_here1, rfl, h⟩ := h
  obtain ⟨h⟩ := h
  refine SQ.run ?_
  show SQ _ _ _ [.dat town_here1, .emp, .emp, .emp] _
  refine s_un3 (sx_c2 F_law_pick (hr.mono (by decide)) (sx_v 0) (sx_lit (.lst [.tup [.int 1, .int 0, .int 1], .tup [.int 0, .int 1, .int 1], .tup [.int 3, .int 4, .int 5], .tup [.int 4, .int 3, .int 5], .tup [.int 5, .int 12, .int 13]]))) h (fun a2 b3 w4 h => ?_)
  refine ⟨_, (qgs_cons (qg_name 1 sc_law_turn.nd) (qgs_cons (qg_name 2 sc_law_turn.nd) (qgs_cons (qg_name 3 sc_law_turn.nd) qgs_nil))), ?_⟩
  show SQ _ _ _ [.dat town_here1, .dat a2, .dat b3, .dat w4] _
  exact s_ret (sx_c3 F_law_low (hr.mono (by decide)) (sx_mul (sx_v 1) (sx_c2 F_law_pick (hr.mono (by decide)) (sx_v 0) (sx_lit (.lst [.int 1, .int (0 - 1)])))) (sx_mul (sx_v 2) (sx_c2 F_law_pick (hr.mono (by decide)) (sx_v 0) (sx_lit (.lst [.int 1, .int (0 - 1)])))) (sx_v 3)) h
abbrev s_law_point : Stmt := top 55
theorem sc_law_point : FnScope ["_law_town_here", "_law_broad", "_law_px", "_law_py"] ["_law_town_here", "_law_broad"] (defScope s_law_point) := ⟨rfl, rfl, rfl, by decide +kernel, rfl, by decide +kernel, by decide +kernel⟩
theorem ok_law_point (Z : Zs mg) (F_law_low : FnS P w K mg base "_law_low" 2 3 (sp3 p_law_low)) (F_law_draw : FnS P w K mg base "_law_draw" 1 2 (sp2 p_law_draw)) (F_law_pick : FnS P w K mg base "_law_pick" 2 2 (sp2 p_law_pick)) (F : FunD K "_law_point" "_law_point" (defArgs s_law_point) (defBody s_law_point) (defScope s_law_point) [] [] f fd) (hm : mg "_law_point" = some (.ref f)) : FnS P w K mg base "_law_point" 3 2 (sp2 p_law_point) := by
  refine fnS_of (k := 2) F hm sc_law_point (fun ds Φ Ψ h => by obtain ⟨_, _, rfl, _⟩ := h; rfl) (fun _ _ _ _ _ _ us hl => match us, hl with | [_, _], _ => rfl) (fun cdv A outer s H E hr ds Φ Ψ h => ?_)
  obtain ⟨town_here1, broad2, rfl, h⟩ := h
  obtain ⟨h⟩ := h
  refine SQ.run ?_
  show SQ _ _ _ [.dat town_here1, .dat broad2, .emp, .emp] _
  refine s_set 2 (sx_sub (sx_c2 F_law_draw (hr.mono (by decide)) (sx_v 0) (sx_add (sx_mul sx_i (sx_v 1)) sx_i)) (sx_v 1)) h (fun px3 h => ?_) sc_law_point.nd
  show SQ _ _ _ [.dat town_here1, .dat broad2, .dat px3, .emp] _
  refine s_set 3 (sx_sub (sx_c2 F_law_draw (hr.mono (by decide)) (sx_v 0) (sx_add (sx_mul sx_i (sx_v 1)) sx_i)) (sx_v 1)) h (fun py4 h => ?_) sc_law_point.nd
  show SQ _ _ _ [.dat town_here1, .dat broad2, .dat px3, .dat py4] _
  exact s_ret (sx_c3 F_law_low (hr.mono (by decide)) (sx_v 2) (sx_v 3) (sx_c2 F_law_pick (hr.mono (by decide)) (sx_v 0) (sx_lit (.lst [.int 1, .int 1, .int 1, .int 2, .int 3])))) h
abbrev s_law_motion : Stmt := top 57
theorem sc_law_motion : FnScope ["_law_town_here"] ["_law_town_here"] (defScope s_law_motion) := ⟨rfl, rfl, rfl, by decide +kernel, rfl, by decide +kernel, by decide +kernel⟩
theorem ok_law_motion (Z : Zs mg) (F_law_turn : FnS P w K mg base "_law_turn" 3 1 (sp1 p_law_turn)) (F_law_point : FnS P w K mg base "_law_point" 3 2 (sp2 p_law_point)) (F_law_draw : FnS P w K mg base "_law_draw" 1 2 (sp2 p_law_draw)) (F : FunD K "_law_motion" "_law_motion" (defArgs s_law_motion) (defBody s_law_motion) (defScope s_law_motion) [] [] f fd) (hm : mg "_law_motion" = some (.ref f)) : FnS P w K mg base "_law_motion" 4 1 (sp1 p_law_motion) := by
  refine fnS_of (k := 3) F hm sc_law_motion (fun ds Φ Ψ h => by obtain ⟨_, rfl, _⟩ := h; rfl) (fun _ _ _ _ _ _ us hl => match us, hl with | [_], _ => rfl) (fun cdv A outer s H E hr ds Φ Ψ h => ?_)
  obtain ⟨town_here1, rfl, h⟩ := h
  obtain ⟨h⟩ := h
  refine SQ.run ?_
  show SQ _ _ _ [.dat town_here1] _
  exact s_ret (sx_tup (sa_cons (sx_c1 F_law_turn (hr.mono (by decide)) (sx_v 0)) (sa_cons (sx_c2 F_law_point (hr.mono (by decide)) (sx_v 0) sx_i) (sa_cons (sx_c2 F_law_draw (hr.mono (by decide)) (sx_v 0) sx_i) sa_nil)))) h
abbrev s_Album_names : Stmt := inClass (top 47) 13
theorem sc_Album_names : FnScope ["self"] ["self"] (defScope s_Album_names) := ⟨rfl, rfl, rfl, by decide +kernel, rfl, by decide +kernel, by decide +kernel⟩
theorem ok_Album_names (Z : Zs mg) (AK : AlbK K) (F : FunD K "names" "Album.names" (defArgs s_Album_names) (defBody s_Album_names) (defScope s_Album_names) [] [] f fd) (mt : Meth K (albC K) "names" f) : MthS P w K mg base "names" 1 1 (sp1 p_Album_names) := by
  refine fnM_of (k := 0) F AK mt sc_Album_names (fun ds Φ Ψ h => by obtain ⟨_, rfl, _⟩ := h; rfl) (fun _ _ _ _ _ _ us hl => match us, hl with | [_], _ => rfl) (fun cdv A outer s H E hr ds Φ Ψ h => ?_)
  obtain ⟨self1, rfl, h⟩ := h
  obtain ⟨h⟩ := h
  refine SQ.run ?_
  show SQ _ _ _ [.dat self1] _
  exact s_ret (sx_sortT Z.sorted (sx_fldS AK (sx_v 0))) h
abbrev s_Album_groups : Stmt := inClass (top 47) 10
theorem sc_Album_groups : FnScope ["self", "found", "name", "row"] ["self"] (defScope s_Album_groups) := ⟨rfl, rfl, rfl, by decide +kernel, rfl, by decide +kernel, by decide +kernel⟩
theorem ok_Album_groups (Z : Zs mg) (FM_Album_named : MthS P w K mg base "named" 1 2 (sp2 p_Album_named)) (AK : AlbK K) (F : FunD K "groups" "Album.groups" (defArgs s_Album_groups) (defBody s_Album_groups) (defScope s_Album_groups) [] [] f fd) (mt : Meth K (albC K) "groups" f) : MthS P w K mg base "groups" 2 1 (sp1 p_Album_groups) := by
  refine fnM_of (k := 1) F AK mt sc_Album_groups (fun ds Φ Ψ h => by obtain ⟨_, rfl, _⟩ := h; rfl) (fun _ _ _ _ _ _ us hl => match us, hl with | [_], _ => rfl) (fun cdv A outer s H E hr ds Φ Ψ h => ?_)
  obtain ⟨self1, rfl, h⟩ := h
  obtain ⟨h⟩ := h
  refine SQ.run ?_
  show SQ _ _ _ [.dat self1, .emp, .emp, .emp] _
  refine s_new 1 ?_ sc_Album_groups.nd
  show SQ _ _ _ [.dat self1, .lst [], .emp, .emp] _
  refine s_for (S := List D) (J := Sl × Sl) h (si_v (sx_sortT Z.sorted (sx_fldS AK (sx_v 0)))) (fun s2 j3 => [.dat self1, .lst s2, j3.1, j3.2]) ((.emp), (.emp)) rfl ?_ ?_ pass_cx
  · intro name8 s2 j3 nx6 h
    refine ⟨_, qg_name 2 sc_Album_groups.nd, ?_⟩
    show SQ _ _ _ [.dat self1, .lst s2, .dat name8, j3.2] _
    refine s_set 3 (sx_m1 FM_Album_named (hr.mono (by decide)) (sx_v 0) (sx_ixT hr.units (sx_fldM AK (sx_v 0)) (sx_v 2))) h (fun row9 h => ?_) sc_Album_groups.nd
    show SQ _ _ _ [.dat self1, .lst s2, .dat name8, .dat row9] _
    refine s_ifJ (J := List D) h (st_eq hr.units (sx_ix (Room.u65 hr) (sx_v 3) sx_i) (sx_v 2)) (fun j => [.dat self1, .lst j, .dat name8, .dat row9]) (fun j k => k (j)) ?_ ?_ ?_
    · rintro found11 h
      show SQ _ _ _ [.dat self1, .lst found11, .dat name8, .dat row9] _
      exact s_nil ⟨found11, ((.dat name8), (.dat row9)), rfl, h⟩
    · intro h
      refine s_append 1 rfl (sx_v 3) h (fun d12 h => ?_)
      show SQ _ _ _ [.dat self1, .lst (s2 ++ [d12]), .dat name8, .dat row9] _
      exact s_nil ⟨(s2 ++ [d12]), rfl, h⟩
    · intro h
      exact s_nil ⟨s2, rfl, h⟩
  · intro s4 j5 h
    show SQ _ _ _ [.dat self1, .lst s4, j5.1, j5.2] _
    refine s_frz 1 rfl ?_
    show SQ _ _ _ [.dat self1, .dat (.lst s4), j5.1, j5.2] _
    exact s_ret (sx_v 1) h
abbrev s_Album_find : Stmt := inClass (top 47) 7
theorem sc_Album_find : FnScope ["self", "points"] ["self", "points"] (defScope s_Album_find) := ⟨rfl, rfl, rfl, by decide +kernel, rfl, by decide +kernel, by decide +kernel⟩
theorem ok_Album_find (Z : Zs mg) (F_look_heaps : FnS P w K mg base "look_heaps" 4 1 (sp1 p_look_heaps)) (F_form : FnS P w K mg base "form" 9 1 (sp1 p_form)) (FM_Album_named : MthS P w K mg base "named" 1 2 (sp2 p_Album_named)) (AK : AlbK K) (F : FunD K "find" "Album.find" (defArgs s_Album_find) (defBody s_Album_find) (defScope s_Album_find) [] [] f fd) (mt : Meth K (albC K) "find" f) : MthS P w K mg base "find" 10 2 (sp2 p_Album_find) := by
  refine fnM_of (k := 9) F AK mt sc_Album_find (fun ds Φ Ψ h => by obtain ⟨_, _, rfl, _⟩ := h; rfl) (fun _ _ _ _ _ _ us hl => match us, hl with | [_, _], _ => rfl) (fun cdv A outer s H E hr ds Φ Ψ h => ?_)
  obtain ⟨self1, points2, rfl, h⟩ := h
  obtain ⟨h⟩ := h
  refine SQ.run ?_
  show SQ _ _ _ [.dat self1, .dat points2] _
  refine s_expr (sx_c1 F_look_heaps (hr.mono (by decide)) (sx_lst (sa_cons (sx_v 1) sa_nil))) h (fun _ h => ?_)
  exact s_ret (sx_m1 FM_Album_named (hr.mono (by decide)) (sx_v 0) (sx_c1 F_form (hr.mono (by decide)) (sx_v 1))) h
abbrev s_Album___len__ : Stmt := inClass (top 47) 14
theorem sc_Album___len__ : FnScope ["self"] ["self"] (defScope s_Album___len__) := ⟨rfl, rfl, rfl, by decide +kernel, rfl, by decide +kernel, by decide +kernel⟩
theorem ok_Album___len__ (Z : Zs mg) (AK : AlbK K) (F : FunD K "__len__" "Album.__len__" (defArgs s_Album___len__) (defBody s_Album___len__) (defScope s_Album___len__) [] [] f fd) (mt : Meth K (albC K) "__len__" f) : MthS P w K mg base "__len__" 1 1 (sp1 p_Album___len__) := by
  refine fnM_of (k := 0) F AK mt sc_Album___len__ (fun ds Φ Ψ h => by obtain ⟨_, rfl, _⟩ := h; rfl) (fun _ _ _ _ _ _ us hl => match us, hl with | [_], _ => rfl) (fun cdv A outer s H E hr ds Φ Ψ h => ?_)
  obtain ⟨self1, rfl, h⟩ := h
  obtain ⟨h⟩ := h
  refine SQ.run ?_
  show SQ _ _ _ [.dat self1] _
  exact s_ret (sx_lenT Z.len (sx_fldS AK (sx_v 0))) h
abbrev s_Album_look_there : Stmt := inClass (top 47) 4
theorem sc_Album_look_there : FnScope ["self", "name"] ["self", "name"] (defScope s_Album_look_there) := ⟨rfl, rfl, rfl, by decide +kernel, rfl, by decide +kernel, by decide +kernel⟩
theorem ok_Album_look_there (Z : Zs mg) (AK : AlbK K) (E_BadName : ExcF K mg "BadName") (F : FunD K "look_there" "Album.look_there" (defArgs s_Album_look_there) (defBody s_Album_look_there) (defScope s_Album_look_there) [] [] f fd) (mt : Meth K (albC K) "look_there" f) : MthS P w K mg base "look_there" 1 2 (sp2 p_Album_look_there) := by
  refine fnM_of (k := 0) F AK mt sc_Album_look_there (fun ds Φ Ψ h => by obtain ⟨_, _, rfl, _⟩ := h; rfl) (fun _ _ _ _ _ _ us hl => match us, hl with | [_, _], _ => rfl) (fun cdv A outer s H E hr ds Φ Ψ h => ?_)
  obtain ⟨self1, name2, rfl, h⟩ := h
  obtain ⟨h⟩ := h
  refine SQ.run ?_
  show SQ _ _ _ [.dat self1, .dat name2] _
  refine s_if (sw_t (sw_or (st_not (st_v (sx_isi Z.isinstance Z.str (by decide +kernel) kit_str (sx_v 1)))) (sw_or1 (st_ninT (Room.u65 hr) (sx_v 1) (sx_fldS AK (sx_v 0)))))) h (fun h => ?_) (fun h => ?_)
  · exact s_raise E_BadName h
  · refine s_nil ?_
    show SQ _ _ _ [.dat self1, .dat name2] _
    exact s_nil h
abbrev s_Album_shown : Stmt := inClass (top 47) 6
theorem sc_Album_shown : FnScope ["self", "name"] ["self", "name"] (defScope s_Album_shown) := ⟨rfl, rfl, rfl, by decide +kernel, rfl, by decide +kernel, by decide +kernel⟩
theorem ok_Album_shown (Z : Zs mg) (FM_Album_look_there : MthS P w K mg base "look_there" 1 2 (sp2 p_Album_look_there)) (AK : AlbK K) (F : FunD K "shown" "Album.shown" (defArgs s_Album_shown) (defBody s_Album_shown) (defScope s_Album_shown) [] [] f fd) (mt : Meth K (albC K) "shown" f) : MthS P w K mg base "shown" 2 2 (sp2 p_Album_shown) := by
  refine fnM_of (k := 1) F AK mt sc_Album_shown (fun ds Φ Ψ h => by obtain ⟨_, _, rfl, _⟩ := h; rfl) (fun _ _ _ _ _ _ us hl => match us, hl with | [_, _], _ => rfl) (fun cdv A outer s H E hr ds Φ Ψ h => ?_)
  obtain ⟨self1, name2, rfl, h⟩ := h
  obtain ⟨h⟩ := h
  refine SQ.run ?_
  show SQ _ _ _ [.dat self1, .dat name2] _
  refine s_expr (sx_m1 FM_Album_look_there (hr.mono (by decide)) (sx_v 0) (sx_v 1)) h (fun _ h => ?_)
  exact s_ret (sx_ixT hr.units (sx_fldS AK (sx_v 0)) (sx_v 1)) h
abbrev s_Album_find_shape : Stmt := inClass (top 47) 8
theorem sc_Album_find_shape : FnScope ["self", "points", "row", "one"] ["self", "points"] (defScope s_Album_find_shape) := ⟨rfl, rfl, rfl, by decide +kernel, rfl, by decide +kernel, by decide +kernel⟩
theorem ok_Album_find_shape (Z : Zs mg) (F_look_heaps : FnS P w K mg base "look_heaps" 4 1 (sp1 p_look_heaps)) (F_shape : FnS P w K mg base "shape" 8 1 (sp1 p_shape)) (AK : AlbK K) (F : FunD K "find_shape" "Album.find_shape" (defArgs s_Album_find_shape) (defBody s_Album_find_shape) (defScope s_Album_find_shape) [] [] f fd) (mt : Meth K (albC K) "find_shape" f) : MthS P w K mg base "find_shape" 9 2 (sp2 p_Album_find_shape) := by
  refine fnM_of (k := 8) F AK mt sc_Album_find_shape (fun ds Φ Ψ h => by obtain ⟨_, _, rfl, _⟩ := h; rfl) (fun _ _ _ _ _ _ us hl => match us, hl with | [_, _], _ => rfl) (fun cdv A outer s H E hr ds Φ Ψ h => ?_)
  obtain ⟨self1, points2, rfl, h⟩ := h
  obtain ⟨h⟩ := h
  refine SQ.run ?_
  show SQ _ _ _ [.dat self1, .dat points2, .emp, .emp] _
  refine s_expr (sx_c1 F_look_heaps (hr.mono (by decide)) (sx_lst (sa_cons (sx_v 1) sa_nil))) h (fun _ h => ?_)
  refine s_set 2 (sx_c1 F_shape (hr.mono (by decide)) (sx_v 1)) h (fun row3 h => ?_) sc_Album_find_shape.nd
  show SQ _ _ _ [.dat self1, .dat points2, .dat row3, .emp] _
  exact s_ret (sx_sortT Z.sorted (sx_lc1 sc_Album_find_shape.nd (blkOk_by (N := ["self", "points", "row", "one"]) (sc := defScope s_Album_find_shape) (own := [("one", 3)]) (by decide +kernel)) (si_T (sx_fldM AK (sx_v 0))) (fun one6 k4 h => ⟨_, qgb_name 3 sc_Album_find_shape.nd, (cmpT eqB (bin ixD (bin ixTD (una fldM (ret self1)) (ret one6)) (ret (.int 1))) (ret row3)), (fun b => if b = true then (ret one6) (fun y5 => k4 (some y5)) bot else k4 none), h, fun s H C cl fp => (st_eq hr.units (sx_ix (Room.u65 hr) (sx_ixT hr.units (sx_fldM AK (sx_v 0)) (sx_v 3)) sx_i) (sx_v 2)), fun h s H C cl fp => ((sx_v 3)).run (itU h), fun h => itG h⟩))) h
abbrev s_Album_drop : Stmt := inClass (top 47) 5
theorem sc_Album_drop : FnScope ["self", "name"] ["self", "name"] (defScope s_Album_drop) := ⟨rfl, rfl, rfl, by decide +kernel, rfl, by decide +kernel, by decide +kernel⟩
theorem ok_Album_drop (Z : Zs mg) (FM_Album_look_there : MthS P w K mg base "look_there" 1 2 (sp2 p_Album_look_there)) (AK : AlbK K) (F : FunD K "drop" "Album.drop" (defArgs s_Album_drop) (defBody s_Album_drop) (defScope s_Album_drop) [] [] f fd) (mt : Meth K (albC K) "drop" f) : MthS P w K mg base "drop" 2 2 (sp2 p_Album_drop) := by
  refine fnM_of (k := 1) F AK mt sc_Album_drop (fun ds Φ Ψ h => by obtain ⟨_, _, rfl, _⟩ := h; rfl) (fun _ _ _ _ _ _ us hl => match us, hl with | [_, _], _ => rfl) (fun cdv A outer s H E hr ds Φ Ψ h => ?_)
  obtain ⟨self1, name2, rfl, h⟩ := h
  obtain ⟨h⟩ := h
  refine SQ.run ?_
  show SQ _ _ _ [.dat self1, .dat name2] _
  refine s_expr (sx_m1 FM_Album_look_there (hr.mono (by decide)) (sx_v 0) (sx_v 1)) h (fun _ h => ?_)
  exact s_no h
abbrev s_is_whole : Stmt := top 11
theorem sc_is_whole : FnScope ["thing", "low", "high"] ["thing", "low", "high"] (defScope s_is_whole) := ⟨rfl, rfl, rfl, by decide +kernel, rfl, by decide +kernel, by decide +kernel⟩
theorem ok_is_whole (Z : Zs mg) (F_is_number : FnS P w K mg base "is_number" 1 1 (sp1 p_is_number)) (F : FunD K "is_whole" "is_whole" (defArgs s_is_whole) (defBody s_is_whole) (defScope s_is_whole) [] [] f fd) (hm : mg "is_whole" = some (.ref f)) : FnS P w K mg base "is_whole" 2 3 (sp3 p_is_whole) := by
  refine fnS_of (k := 1) F hm sc_is_whole (fun ds Φ Ψ h => by obtain ⟨_, _, _, rfl, _⟩ := h; rfl) (fun _ _ _ _ _ _ us hl => match us, hl with | [_, _, _], _ => rfl) (fun cdv A outer s H E hr ds Φ Ψ h => ?_)
  obtain ⟨thing1, low2, high3, rfl, h⟩ := h
  obtain ⟨h⟩ := h
  refine SQ.run ?_
  show SQ _ _ _ [.dat thing1, .dat low2, .dat high3] _
  exact s_ret (sx_and (sx_c1 F_is_number (hr.mono (by decide)) (sx_v 0)) (sx_and1 (sx_chn (w_le) (w_le) (sx_v 1) (sx_v 0) (sx_v 2)))) h
abbrev s_is_motion : Stmt := top 28
theorem sc_is_motion : FnScope ["thing"] ["thing"] (defScope s_is_motion) := ⟨rfl, rfl, rfl, by decide +kernel, rfl, by decide +kernel, by decide +kernel⟩
theorem ok_is_motion (Z : Zs mg) (F_is_whole : FnS P w K mg base "is_whole" 2 3 (sp3 p_is_whole)) (F_is_point : FnS P w K mg base "is_point" 2 1 (sp1 p_is_point)) (F_size : FnS P w K mg base "size" 3 1 (sp1 p_size)) (F : FunD K "is_motion" "is_motion" (defArgs s_is_motion) (defBody s_is_motion) (defScope s_is_motion) [] [] f fd) (hm : mg "is_motion" = some (.ref f)) : FnS P w K mg base "is_motion" 4 1 (sp1 p_is_motion) := by
  refine fnS_of (k := 3) F hm sc_is_motion (fun ds Φ Ψ h => by obtain ⟨_, rfl, _⟩ := h; rfl) (fun _ _ _ _ _ _ us hl => match us, hl with | [_], _ => rfl) (fun cdv A outer s H E hr ds Φ Ψ h => ?_)
  obtain ⟨thing1, rfl, h⟩ := h
  obtain ⟨h⟩ := h
  refine SQ.run ?_
  show SQ _ _ _ [.dat thing1] _
  refine s_if (sw_t (sw_or (st_not (st_v (sx_isi Z.isinstance Z.tuple (by decide +kernel) kit_tuple (sx_v 0)))) (sw_or (st_ne hr.units (sx_len Z.len (sx_v 0)) sx_i) (sw_or (st_not (st_v (sx_c1 F_is_point (hr.mono (by decide)) (sx_ix (Room.u65 hr) (sx_v 0) sx_i)))) (sw_or1 (st_not (st_v (sx_c1 F_is_point (hr.mono (by decide)) (sx_ix (Room.u65 hr) (sx_v 0) sx_i))))))))) h (fun h => ?_) (fun h => ?_)
  · exact s_ret sx_b h
  · refine s_nil ?_
    show SQ _ _ _ [.dat thing1] _
    exact s_ret (sx_and (sx_eq hr.units (sx_c1 F_size (hr.mono (by decide)) (sx_ix (Room.u65 hr) (sx_v 0) sx_i)) (sx_lit (.tup [.int 1, .int 1]))) (sx_and1 (sx_c3 F_is_whole (hr.mono (by decide)) (sx_ix (Room.u65 hr) (sx_v 0) sx_i) sx_i sx_i))) h
abbrev s_look_motion : Stmt := top 29
theorem sc_look_motion : FnScope ["thing"] ["thing"] (defScope s_look_motion) := ⟨rfl, rfl, rfl, by decide +kernel, rfl, by decide +kernel, by decide +kernel⟩
theorem ok_look_motion (Z : Zs mg) (F_is_motion : FnS P w K mg base "is_motion" 4 1 (sp1 p_is_motion)) (E_BadMotion : ExcF K mg "BadMotion") (F : FunD K "look_motion" "look_motion" (defArgs s_look_motion) (defBody s_look_motion) (defScope s_look_motion) [] [] f fd) (hm : mg "look_motion" = some (.ref f)) : FnS P w K mg base "look_motion" 5 1 (sp1 p_look_motion) := by
  refine fnS_of (k := 4) F hm sc_look_motion (fun ds Φ Ψ h => by obtain ⟨_, rfl, _⟩ := h; rfl) (fun _ _ _ _ _ _ us hl => match us, hl with | [_], _ => rfl) (fun cdv A outer s H E hr ds Φ Ψ h => ?_)
  obtain ⟨thing1, rfl, h⟩ := h
  obtain ⟨h⟩ := h
  refine SQ.run ?_
  show SQ _ _ _ [.dat thing1] _
  refine s_if (st_not (st_v (sx_c1 F_is_motion (hr.mono (by decide)) (sx_v 0)))) h (fun h => ?_) (fun h => ?_)
  · exact s_raise E_BadMotion h
  · refine s_nil ?_
    show SQ _ _ _ [.dat thing1] _
    exact s_nil h
abbrev s_plus : Stmt := top 16
theorem sc_plus : FnScope ["p", "q"] ["p", "q"] (defScope s_plus) := ⟨rfl, rfl, rfl, by decide +kernel, rfl, by decide +kernel, by decide +kernel⟩
theorem ok_plus (Z : Zs mg) (F_lowest : FnS P w K mg base "lowest" 2 3 (sp3 p_lowest)) (F : FunD K "plus" "plus" (defArgs s_plus) (defBody s_plus) (defScope s_plus) [] [] f fd) (hm : mg "plus" = some (.ref f)) : FnS P w K mg base "plus" 3 2 (sp2 p_plus) := by
  refine fnS_of (k := 2) F hm sc_plus (fun ds Φ Ψ h => by obtain ⟨_, _, rfl, _⟩ := h; rfl) (fun _ _ _ _ _ _ us hl => match us, hl with | [_, _], _ => rfl) (fun cdv A outer s H E hr ds Φ Ψ h => ?_)
  obtain ⟨p1, q2, rfl, h⟩ := h
  obtain ⟨h⟩ := h
  refine SQ.run ?_
  show SQ _ _ _ [.dat p1, .dat q2] _
  exact s_ret (sx_c3 F_lowest (hr.mono (by decide)) (sx_add (sx_mul (sx_ix (Room.u65 hr) (sx_v 0) sx_i) (sx_ix (Room.u65 hr) (sx_v 1) sx_i)) (sx_mul (sx_ix (Room.u65 hr) (sx_v 1) sx_i) (sx_ix (Room.u65 hr) (sx_v 0) sx_i))) (sx_add (sx_mul (sx_ix (Room.u65 hr) (sx_v 0) sx_i) (sx_ix (Room.u65 hr) (sx_v 1) sx_i)) (sx_mul (sx_ix (Room.u65 hr) (sx_v 1) sx_i) (sx_ix (Room.u65 hr) (sx_v 0) sx_i))) (sx_mul (sx_ix (Room.u65 hr) (sx_v 0) sx_i) (sx_ix (Room.u65 hr) (sx_v 1) sx_i))) h
abbrev s_times : Stmt := top 18
theorem sc_times : FnScope ["p", "q"] ["p", "q"] (defScope s_times) := ⟨rfl, rfl, rfl, by decide +kernel, rfl, by decide +kernel, by decide +kernel⟩
theorem ok_times (Z : Zs mg) (F_lowest : FnS P w K mg base "lowest" 2 3 (sp3 p_lowest)) (F : FunD K "times" "times" (defArgs s_times) (defBody s_times) (defScope s_times) [] [] f fd) (hm : mg "times" = some (.ref f)) : FnS P w K mg base "times" 3 2 (sp2 p_times) := by
  refine fnS_of (k := 2) F hm sc_times (fun ds Φ Ψ h => by obtain ⟨_, _, rfl, _⟩ := h; rfl) (fun _ _ _ _ _ _ us hl => match us, hl with | [_, _], _ => rfl) (fun cdv A outer s H E hr ds Φ Ψ h => ?_)
  obtain ⟨p1, q2, rfl, h⟩ := h
  obtain ⟨h⟩ := h
  refine SQ.run ?_
  show SQ _ _ _ [.dat p1, .dat q2] _
  exact s_ret (sx_c3 F_lowest (hr.mono (by decide)) (sx_sub (sx_mul (sx_ix (Room.u65 hr) (sx_v 0) sx_i) (sx_ix (Room.u65 hr) (sx_v 1) sx_i)) (sx_mul (sx_ix (Room.u65 hr) (sx_v 0) sx_i) (sx_ix (Room.u65 hr) (sx_v 1) sx_i))) (sx_add (sx_mul (sx_ix (Room.u65 hr) (sx_v 0) sx_i) (sx_ix (Room.u65 hr) (sx_v 1) sx_i)) (sx_mul (sx_ix (Room.u65 hr) (sx_v 0) sx_i) (sx_ix (Room.u65 hr) (sx_v 1) sx_i))) (sx_mul (sx_ix (Room.u65 hr) (sx_v 0) sx_i) (sx_ix (Room.u65 hr) (sx_v 1) sx_i))) h
abbrev s_led_by : Stmt := top 30
theorem sc_led_by : FnScope ["motion", "p", "turn", "shift", "flip"] ["motion", "p"] (defScope s_led_by) := ⟨rfl, rfl, rfl, by decide +kernel, rfl, by decide +kernel, by decide +kernel⟩
theorem ok_led_by (Z : Zs mg) (F_plus : FnS P w K mg base "plus" 3 2 (sp2 p_plus)) (F_times : FnS P w K mg base "times" 3 2 (sp2 p_times)) (F_flipped : FnS P w K mg base "flipped" 1 1 (sp1 p_flipped)) (F : FunD K "led_by" "led_by" (defArgs s_led_by) (defBody s_led_by) (defScope s_led_by) [] [] f fd) (hm : mg "led_by" = some (.ref f)) : FnS P w K mg base "led_by" 4 2 (sp2 p_led_by) := by
  refine fnS_of (k := 3) F hm sc_led_by (fun ds Φ Ψ h => by obtain ⟨_, _, rfl, _⟩ := h; rfl) (fun _ _ _ _ _ _ us hl => match us, hl with | [_, _], _ => rfl) (fun cdv A outer s H E hr ds Φ Ψ h => ?_)
  obtain ⟨motion1, p2, rfl, h⟩ := h
  obtain ⟨h⟩ := h
  refine SQ.run ?_
  show SQ _ _ _ [.dat motion1, .dat p2, .emp, .emp, .emp] _
  refine s_un3 (sx_v 0) h (fun turn3 shift4 flip5 h => ?_)
  refine ⟨_, (qgs_cons (qg_name 2 sc_led_by.nd) (qgs_cons (qg_name 3 sc_led_by.nd) (qgs_cons (qg_name 4 sc_led_by.nd) qgs_nil))), ?_⟩
  show SQ _ _ _ [.dat motion1, .dat p2, .dat turn3, .dat shift4, .dat flip5] _
  exact s_ret (sx_c2 F_plus (hr.mono (by decide)) (sx_c2 F_times (hr.mono (by decide)) (sx_v 2) (sx_if (st_eq hr.units (sx_v 4) sx_i) (sx_c1 F_flipped (hr.mono (by decide)) (sx_v 1)) (sx_v 1))) (sx_v 3)) h
abbrev s_Album_move : Stmt := inClass (top 47) 11
theorem sc_Album_move : FnScope ["self", "name", "motion", "p"] ["self", "name", "motion"] (defScope s_Album_move) := ⟨rfl, rfl, rfl, by decide +kernel, rfl, by decide +kernel, by decide +kernel⟩
theorem ok_Album_move (Z : Zs mg) (F_look_motion : FnS P w K mg base "look_motion" 5 1 (sp1 p_look_motion)) (F_in_order : FnS P w K mg base "in_order" 2 1 (sp1 p_in_order)) (F_led_by : FnS P w K mg base "led_by" 4 2 (sp2 p_led_by)) (FM_Album_look_there : MthS P w K mg base "look_there" 1 2 (sp2 p_Album_look_there)) (AK : AlbK K) (F : FunD K "move" "Album.move" (defArgs s_Album_move) (defBody s_Album_move) (defScope s_Album_move) [] [] f fd) (mt : Meth K (albC K) "move" f) : MthS P w K mg base "move" 6 3 (sp3 p_Album_move) := by
  refine fnM_of (k := 5) F AK mt sc_Album_move (fun ds Φ Ψ h => by obtain ⟨_, _, _, rfl, _⟩ := h; rfl) (fun _ _ _ _ _ _ us hl => match us, hl with | [_, _, _], _ => rfl) (fun cdv A outer s H E hr ds Φ Ψ h => ?_)
  obtain ⟨self1, name2, motion3, rfl, h⟩ := h
  obtain ⟨h⟩ := h
  refine SQ.run ?_
  show SQ _ _ _ [.dat self1, .dat name2, .dat motion3, .emp] _
  refine s_expr (sx_m1 FM_Album_look_there (hr.mono (by decide)) (sx_v 0) (sx_v 1)) h (fun _ h => ?_)
  refine s_expr (sx_c1 F_look_motion (hr.mono (by decide)) (sx_v 2)) h (fun _ h => ?_)
  exact s_no h
abbrev s_both_leading : Stmt := top 31
theorem sc_both_leading : FnScope ["a", "b", "c", "d", "first", "second"] ["a", "b", "c", "d"] (defScope s_both_leading) := ⟨rfl, rfl, rfl, by decide +kernel, rfl, by decide +kernel, by decide +kernel⟩
theorem ok_both_leading (Z : Zs mg) (F_by : FnS P w K mg base "by" 3 2 (sp2 p_by)) (F_minus : FnS P w K mg base "minus" 3 2 (sp2 p_minus)) (F_flipped : FnS P w K mg base "flipped" 1 1 (sp1 p_flipped)) (F_times : FnS P w K mg base "times" 3 2 (sp2 p_times)) (F : FunD K "both_leading" "both_leading" (defArgs s_both_leading) (defBody s_both_leading) (defScope s_both_leading) [] [] f fd) (hm : mg "both_leading" = some (.ref f)) : FnS P w K mg base "both_leading" 4 4 (sp4 p_both_leading) := by
  refine fnS_of (k := 3) F hm sc_both_leading (fun ds Φ Ψ h => by obtain ⟨_, _, _, _, rfl, _⟩ := h; rfl) (fun _ _ _ _ _ _ us hl => match us, hl with | [_, _, _, _], _ => rfl) (fun cdv A outer s H E hr ds Φ Ψ h => ?_)
  obtain ⟨a1, b2, c3, d4, rfl, h⟩ := h
  obtain ⟨h⟩ := h
  refine SQ.run ?_
  show SQ _ _ _ [.dat a1, .dat b2, .dat c3, .dat d4, .emp, .emp] _
  refine s_set 4 (sx_c2 F_by (hr.mono (by decide)) (sx_c2 F_minus (hr.mono (by decide)) (sx_v 3) (sx_v 2)) (sx_c2 F_minus (hr.mono (by decide)) (sx_v 1) (sx_v 0))) h (fun first5 h => ?_) sc_both_leading.nd
  show SQ _ _ _ [.dat a1, .dat b2, .dat c3, .dat d4, .dat first5, .emp] _
  refine s_set 5 (sx_c2 F_by (hr.mono (by decide)) (sx_c2 F_minus (hr.mono (by decide)) (sx_v 3) (sx_v 2)) (sx_c1 F_flipped (hr.mono (by decide)) (sx_c2 F_minus (hr.mono (by decide)) (sx_v 1) (sx_v 0)))) h (fun second6 h => ?_) sc_both_leading.nd
  show SQ _ _ _ [.dat a1, .dat b2, .dat c3, .dat d4, .dat first5, .dat second6] _
  exact s_ret (sx_tup (sa_cons (sx_tup (sa_cons (sx_v 4) (sa_cons (sx_c2 F_minus (hr.mono (by decide)) (sx_v 2) (sx_c2 F_times (hr.mono (by decide)) (sx_v 4) (sx_v 0))) (sa_cons sx_i sa_nil)))) (sa_cons (sx_tup (sa_cons (sx_v 5) (sa_cons (sx_c2 F_minus (hr.mono (by decide)) (sx_v 2) (sx_c2 F_times (hr.mono (by decide)) (sx_v 5) (sx_c1 F_flipped (hr.mono (by decide)) (sx_v 0)))) (sa_cons sx_i sa_nil)))) sa_nil))) h
abbrev s_all_laying : Stmt := top 45
theorem sc_all_laying : FnScope ["one", "other", "a", "b", "goal", "p", "found", "c", "d", "motion"] ["one", "other"] (defScope s_all_laying) := ⟨rfl, rfl, rfl, by decide +kernel, rfl, by decide +kernel, by decide +kernel⟩
theorem ok_all_laying (Z : Zs mg) (F_in_order : FnS P w K mg base "in_order" 2 1 (sp1 p_in_order)) (F_both_leading : FnS P w K mg base "both_leading" 4 4 (sp4 p_both_leading)) (F_gap : FnS P w K mg base "gap" 4 2 (sp2 p_gap)) (F_led_by : FnS P w K mg base "led_by" 4 2 (sp2 p_led_by)) (F : FunD K "all_laying" "all_laying" (defArgs s_all_laying) (defBody s_all_laying) (defScope s_all_laying) [] [] f fd) (hm : mg "all_laying" = some (.ref f)) : FnS P w K mg base "all_laying" 5 2 (sp2 p_all_laying) := by
  refine fnS_of (k := 4) F hm sc_all_laying (fun ds Φ Ψ h => by obtain ⟨_, _, rfl, _⟩ := h; rfl) (fun _ _ _ _ _ _ us hl => match us, hl with | [_, _], _ => rfl) (fun cdv A outer s H E hr ds Φ Ψ h => ?_)
  obtain ⟨one1, other2, rfl, h⟩ := h
  obtain ⟨h⟩ := h
  refine SQ.run ?_
  show SQ _ _ _ [.dat one1, .dat other2, .emp, .emp, .emp, .emp, .emp, .emp, .emp, .emp] _
  refine s_if (st_ne hr.units (sx_len Z.len (sx_v 0)) (sx_len Z.len (sx_v 1))) h (fun h => ?_) (fun h => ?_)
  · exact s_ret (sx_lit (.lst [])) h
  · refine s_nil ?_
    show SQ _ _ _ [.dat one1, .dat other2, .emp, .emp, .emp, .emp, .emp, .emp, .emp, .emp] _
    refine s_un2 (sx_sl (sx_c1 F_in_order (hr.mono (by decide)) (sx_v 0)) so_none (so_some sx_i)) h (fun a3 b4 h => ?_)
    refine ⟨_, (qgs_cons (qg_name 2 sc_all_laying.nd) (qgs_cons (qg_name 3 sc_all_laying.nd) qgs_nil)), ?_⟩
    show SQ _ _ _ [.dat one1, .dat other2, .dat a3, .dat b4, .emp, .emp, .emp, .emp, .emp, .emp] _
    refine s_set 4 (sx_dc0 (Room.u65 hr) sc_all_laying.nd (blkOk_by (N := ["one", "other", "a", "b", "goal", "p", "found", "c", "d", "motion"]) (sc := defScope s_all_laying) (own := [("p", 5)]) (by decide +kernel)) (si_v (sx_v 1)) (fun p9 k6 h => ⟨_, qgb_name 5 sc_all_laying.nd, fun s H C cl fp => (((sx_v 5)).run h).mono fun _ h s H C cl fp => (sx_b).run h⟩)) h (fun goal5 h => ?_) sc_all_laying.nd
    show SQ _ _ _ [.dat one1, .dat other2, .dat a3, .dat b4, .dat goal5, .emp, .emp, .emp, .emp, .emp] _
    refine s_newD 6 ?_ sc_all_laying.nd
    show SQ _ _ _ [.dat one1, .dat other2, .dat a3, .dat b4, .dat goal5, .emp, .dct [], .emp, .emp, .emp] _
    refine s_for (S := List (D × D)) (J := Sl × Sl × Sl) h (si_v (sx_v 1)) (fun s10 j11 => [.dat one1, .dat other2, .dat a3, .dat b4, .dat goal5, .emp, .dct s10, j11.1, j11.2.1, j11.2.2]) ((.emp), (.emp), (.emp)) rfl ?_ ?_ pass_cx
    · intro c16 s10 j11 nx14 h
      refine ⟨_, qg_name 7 sc_all_laying.nd, ?_⟩
      show SQ _ _ _ [.dat one1, .dat other2, .dat a3, .dat b4, .dat goal5, .emp, .dct s10, .dat c16, j11.2.1, j11.2.2] _
      refine s_for (S := List (D × D)) (J := Sl × Sl) h (si_v (sx_v 1)) (fun s17 j18 => [.dat one1, .dat other2, .dat a3, .dat b4, .dat goal5, .emp, .dct s17, .dat c16, j18.1, j18.2]) ((j11.2.1), (j11.2.2)) rfl ?_ ?_ pass_cx
      · intro d23 s17 j18 nx21 h
        refine ⟨_, qg_name 8 sc_all_laying.nd, ?_⟩
        show SQ _ _ _ [.dat one1, .dat other2, .dat a3, .dat b4, .dat goal5, .emp, .dct s17, .dat c16, .dat d23, j18.2] _
        refine s_ifJ (J := List (D × D) × Sl) h (sw_t (sw_and (st_ne hr.units (sx_v 7) (sx_v 8)) (sw_and1 (st_eq hr.units (sx_c2 F_gap (hr.mono (by decide)) (sx_v 2) (sx_v 3)) (sx_c2 F_gap (hr.mono (by decide)) (sx_v 7) (sx_v 8)))))) (fun j => [.dat one1, .dat other2, .dat a3, .dat b4, .dat goal5, .emp, .dct j.1, .dat c16, .dat d23, j.2]) (fun j k => k (j.1)) ?_ ?_ ?_
        · rintro ⟨found25, j26⟩ h
          show SQ _ _ _ [.dat one1, .dat other2, .dat a3, .dat b4, .dat goal5, .emp, .dct found25, .dat c16, .dat d23, j26] _
          exact s_nil ⟨found25, ((.dat d23), (j26)), rfl, h⟩
        · intro h
          refine s_for (S := List (D × D)) (J := Sl) h (si_v (sx_c4 F_both_leading (hr.mono (by decide)) (sx_v 2) (sx_v 3) (sx_v 7) (sx_v 8))) (fun s27 j28 => [.dat one1, .dat other2, .dat a3, .dat b4, .dat goal5, .emp, .dct s27, .dat c16, .dat d23, j28]) (j18.2) rfl ?_ ?_ pass_cx
          · intro motion33 s27 j28 nx31 h
            refine ⟨_, qg_name 9 sc_all_laying.nd, ?_⟩
            show SQ _ _ _ [.dat one1, .dat other2, .dat a3, .dat b4, .dat goal5, .emp, .dct s27, .dat c16, .dat d23, .dat motion33] _
            refine s_ifJ (J := List (D × D)) h (st_v (sx_all Z.all (sx_lc0 sc_all_laying.nd (blkOk_by (N := ["one", "other", "a", "b", "goal", "p", "found", "c", "d", "motion"]) (sc := defScope s_all_laying) (own := [("p", 5)]) (by decide +kernel)) (si_v (sx_v 0)) (fun p36 k34 h => ⟨_, qgb_name 5 sc_all_laying.nd, fun s H C cl fp => ((sx_in (Room.u65 hr) (sx_c2 F_led_by (hr.mono (by decide)) (sx_v 9) (sx_v 5)) (sx_v 4))).run h⟩)))) (fun j => [.dat one1, .dat other2, .dat a3, .dat b4, .dat goal5, .emp, .dct j, .dat c16, .dat d23, .dat motion33]) (fun j k => k (j)) ?_ ?_ ?_
            · rintro found38 h
              show SQ _ _ _ [.dat one1, .dat other2, .dat a3, .dat b4, .dat goal5, .emp, .dct found38, .dat c16, .dat d23, .dat motion33] _
              exact s_nil ⟨found38, (.dat motion33), rfl, h⟩
            · intro h
              refine s_putD (Room.u65 hr) 6 rfl sx_b (sx_v 9) h (fun y40 v39 h => ?_)
              show SQ _ _ _ [.dat one1, .dat other2, .dat a3, .dat b4, .dat goal5, .emp, .dct (dPut s27 y40 v39), .dat c16, .dat d23, .dat motion33] _
              exact s_nil ⟨(dPut s27 y40 v39), rfl, h⟩
            · intro h
              exact s_nil ⟨s27, rfl, h⟩
          · intro s29 j30 h
            show SQ _ _ _ [.dat one1, .dat other2, .dat a3, .dat b4, .dat goal5, .emp, .dct s29, .dat c16, .dat d23, j30] _
            exact s_nil ⟨(s29, j30), rfl, h⟩
        · intro h
          exact s_nil ⟨(s17, j18.2), rfl, h⟩
      · intro s19 j20 h
        show SQ _ _ _ [.dat one1, .dat other2, .dat a3, .dat b4, .dat goal5, .emp, .dct s19, .dat c16, j20.1, j20.2] _
        exact s_nil ⟨s19, ((.dat c16), (j20.1), (j20.2)), rfl, h⟩
    · intro s12 j13 h
      show SQ _ _ _ [.dat one1, .dat other2, .dat a3, .dat b4, .dat goal5, .emp, .dct s12, j13.1, j13.2.1, j13.2.2] _
      refine s_frzD 6 rfl ?_
      show SQ _ _ _ [.dat one1, .dat other2, .dat a3, .dat b4, .dat goal5, .emp, .dat (dctD s12), j13.1, j13.2.1, j13.2.2] _
      exact s_ret (sx_sorted Z.sorted (Room.u65 hr) (sx_v 6)) h
abbrev s_Album_way : Stmt := inClass (top 47) 9
theorem sc_Album_way : FnScope ["self", "one", "other", "found"] ["self", "one", "other"] (defScope s_Album_way) := ⟨rfl, rfl, rfl, by decide +kernel, rfl, by decide +kernel, by decide +kernel⟩
theorem ok_Album_way (Z : Zs mg) (F_all_laying : FnS P w K mg base "all_laying" 5 2 (sp2 p_all_laying)) (FM_Album_look_there : MthS P w K mg base "look_there" 1 2 (sp2 p_Album_look_there)) (AK : AlbK K) (E_NoThing : ExcF K mg "NoThing") (F : FunD K "way" "Album.way" (defArgs s_Album_way) (defBody s_Album_way) (defScope s_Album_way) [] [] f fd) (mt : Meth K (albC K) "way" f) : MthS P w K mg base "way" 6 3 (sp3 p_Album_way) := by
  refine fnM_of (k := 5) F AK mt sc_Album_way (fun ds Φ Ψ h => by obtain ⟨_, _, _, rfl, _⟩ := h; rfl) (fun _ _ _ _ _ _ us hl => match us, hl with | [_, _, _], _ => rfl) (fun cdv A outer s H E hr ds Φ Ψ h => ?_)
  obtain ⟨self1, one2, other3, rfl, h⟩ := h
  obtain ⟨h⟩ := h
  refine SQ.run ?_
  show SQ _ _ _ [.dat self1, .dat one2, .dat other3, .emp] _
  refine s_expr (sx_m1 FM_Album_look_there (hr.mono (by decide)) (sx_v 0) (sx_v 1)) h (fun _ h => ?_)
  refine s_expr (sx_m1 FM_Album_look_there (hr.mono (by decide)) (sx_v 0) (sx_v 2)) h (fun _ h => ?_)
  refine s_set 3 (sx_c2 F_all_laying (hr.mono (by decide)) (sx_ixT hr.units (sx_fldS AK (sx_v 0)) (sx_v 1)) (sx_ixT hr.units (sx_fldS AK (sx_v 0)) (sx_v 2))) h (fun found4 h => ?_) sc_Album_way.nd
  show SQ _ _ _ [.dat self1, .dat one2, .dat other3, .dat found4] _
  refine s_if (st_eq hr.units (sx_v 3) (sx_lit (.lst []))) h (fun h => ?_) (fun h => ?_)
  · exact s_raise E_NoThing h
  · refine s_nil ?_
    show SQ _ _ _ [.dat self1, .dat one2, .dat other3, .dat found4] _
    exact s_ret (sx_ix (Room.u65 hr) (sx_v 3) sx_i) h
abbrev s_law_does : Stmt := top 58
theorem sc_law_does : FnScope ["_law_album", "_law_sort_of", "_law_one", "_law_two"] ["_law_album", "_law_sort_of", "_law_one", "_law_two"] (defScope s_law_does) := ⟨rfl, rfl, rfl, by decide +kernel, rfl, by decide +kernel, by decide +kernel⟩
theorem ok_law_does (Z : Zs mg) (FM_Album_put : MthS P w K mg base "put" 10 3 (sp3 p_Album_put)) (FM_Album_drop : MthS P w K mg base "drop" 2 2 (sp2 p_Album_drop)) (FM_Album_shown : MthS P w K mg base "shown" 2 2 (sp2 p_Album_shown)) (FM_Album_move : MthS P w K mg base "move" 6 3 (sp3 p_Album_move)) (FM_Album_way : MthS P w K mg base "way" 6 3 (sp3 p_Album_way)) (FM_Album_find : MthS P w K mg base "find" 10 2 (sp2 p_Album_find)) (FM_Album_find_shape : MthS P w K mg base "find_shape" 9 2 (sp2 p_Album_find_shape)) (FM_Album_undo : MthS P w K mg base "undo" 1 1 (sp1 p_Album_undo)) (F : FunD K "_law_does" "_law_does" (defArgs s_law_does) (defBody s_law_does) (defScope s_law_does) [] [] f fd) (hm : mg "_law_does" = some (.ref f)) : FnS P w K mg base "_law_does" 11 4 (sp4 p_law_does) := by
  refine fnS_of (k := 10) F hm sc_law_does (fun ds Φ Ψ h => by obtain ⟨_, _, _, _, rfl, _⟩ := h; rfl) (fun _ _ _ _ _ _ us hl => match us, hl with | [_, _, _, _], _ => rfl) (fun cdv A outer s H E hr ds Φ Ψ h => ?_)
  obtain ⟨album1, sort_of2, one3, two4, rfl, h⟩ := h
  obtain ⟨h⟩ := h
  refine SQ.run ?_
  show SQ _ _ _ [.dat album1, .dat sort_of2, .dat one3, .dat two4] _
  refine s_if (st_eq hr.units (sx_v 1) sx_i) h (fun h => ?_) (fun h => ?_)
  · exact s_ret (sx_m2 FM_Album_put (hr.mono (by decide)) (sx_v 0) (sx_v 2) (sx_v 3)) h
  · refine s_nil ?_
    show SQ _ _ _ [.dat album1, .dat sort_of2, .dat one3, .dat two4] _
    refine s_if (st_eq hr.units (sx_v 1) sx_i) h (fun h => ?_) (fun h => ?_)
    · exact s_ret (sx_m1 FM_Album_drop (hr.mono (by decide)) (sx_v 0) (sx_v 2)) h
    · refine s_nil ?_
      show SQ _ _ _ [.dat album1, .dat sort_of2, .dat one3, .dat two4] _
      refine s_if (st_eq hr.units (sx_v 1) sx_i) h (fun h => ?_) (fun h => ?_)
      · exact s_ret (sx_m1 FM_Album_shown (hr.mono (by decide)) (sx_v 0) (sx_v 2)) h
      · refine s_nil ?_
        show SQ _ _ _ [.dat album1, .dat sort_of2, .dat one3, .dat two4] _
        refine s_if (st_eq hr.units (sx_v 1) sx_i) h (fun h => ?_) (fun h => ?_)
        · exact s_ret (sx_m2 FM_Album_move (hr.mono (by decide)) (sx_v 0) (sx_v 2) (sx_v 3)) h
        · refine s_nil ?_
          show SQ _ _ _ [.dat album1, .dat sort_of2, .dat one3, .dat two4] _
          refine s_if (st_eq hr.units (sx_v 1) sx_i) h (fun h => ?_) (fun h => ?_)
          · exact s_ret (sx_m2 FM_Album_way (hr.mono (by decide)) (sx_v 0) (sx_v 2) (sx_v 3)) h
          · refine s_nil ?_
            show SQ _ _ _ [.dat album1, .dat sort_of2, .dat one3, .dat two4] _
            exact s_ret (sx_if (st_eq hr.units (sx_v 1) sx_i) (sx_m1 FM_Album_find (hr.mono (by decide)) (sx_v 0) (sx_v 3)) (sx_if (st_eq hr.units (sx_v 1) sx_i) (sx_m1 FM_Album_find_shape (hr.mono (by decide)) (sx_v 0) (sx_v 3)) (sx_m0 FM_Album_undo (hr.mono (by decide)) (sx_v 0)))) h
abbrev s_law_refusal : Stmt := top 52
theorem sc_law_refusal : FnScope ["_law_caught", "_law_sorts"] ["_law_caught"] (defScope s_law_refusal) := ⟨rfl, rfl, rfl, by decide +kernel, rfl, by decide +kernel, by decide +kernel⟩
theorem ok_law_refusal (Z : Zs mg) (EI : ExcI K mg) (E_BadMotion : ExcF K mg "BadMotion") (E_BadPoint : ExcF K mg "BadPoint") (E_BadNumber : ExcF K mg "BadNumber") (E_BadName : ExcF K mg "BadName") (E_BadPairs : ExcF K mg "BadPairs") (E_BadHeap : ExcF K mg "BadHeap") (E_NoThing : ExcF K mg "NoThing") (E_BadText : ExcF K mg "BadText") (v_ValueError : mg "ValueError" = none) (F : FunD K "_law_refusal" "_law_refusal" (defArgs s_law_refusal) (defBody s_law_refusal) (defScope s_law_refusal) [] [] f fd) (hm : mg "_law_refusal" = some (.ref f)) : FnS P w K mg base "_law_refusal" 1 1 (sp1 p_law_refusal) := by
  refine fnS_of (k := 0) F hm sc_law_refusal (fun ds Φ Ψ h => by obtain ⟨_, rfl, _⟩ := h; rfl) (fun _ _ _ _ _ _ us hl => match us, hl with | [_], _ => rfl) (fun cdv A outer s H E hr ds Φ Ψ h => ?_)
  obtain ⟨caught1, rfl, h⟩ := h
  obtain ⟨h⟩ := h
  refine SQ.run ?_
  show SQ _ _ _ [.dat caught1, .emp] _
  refine s_set 1 (sx_lst (sa_cons (sx_isx EI Z.isinstance E_BadNumber.g (sx_v 0)) (sa_cons (sx_isx EI Z.isinstance E_BadPoint.g (sx_v 0)) (sa_cons (sx_isx EI Z.isinstance E_BadMotion.g (sx_v 0)) sa_nil)))) h (fun sorts2 h => ?_) sc_law_refusal.nd
  show SQ _ _ _ [.dat caught1, .dat sorts2] _
  refine s_set 1 (sx_add (sx_v 1) (sx_lst (sa_cons (sx_isx EI Z.isinstance E_BadHeap.g (sx_v 0)) (sa_cons (sx_isx EI Z.isinstance E_BadPairs.g (sx_v 0)) (sa_cons (sx_isx EI Z.isinstance E_BadName.g (sx_v 0)) sa_nil))))) h (fun sorts3 h => ?_) sc_law_refusal.nd
  show SQ _ _ _ [.dat caught1, .dat sorts3] _
  refine s_set 1 (sx_add (sx_v 1) (sx_lst (sa_cons (sx_isx EI Z.isinstance E_BadText.g (sx_v 0)) (sa_cons (sx_isx EI Z.isinstance E_NoThing.g (sx_v 0)) sa_nil)))) h (fun sorts4 h => ?_) sc_law_refusal.nd
  show SQ _ _ _ [.dat caught1, .dat sorts4] _
  refine s_if (sw_t (sw_or (st_ne hr.units (sx_count (sx_v 1) sx_b) sx_i) (sw_or (st_not (st_v (sx_isx EI Z.isinstance EI.over (sx_v 0)))) (sw_or1 (st_not (st_v (sx_isv EI Z.isinstance v_ValueError (sx_v 0)))))))) h (fun h => ?_) (fun h => ?_)
  · exact s_ret sx_s h
  · refine s_nil ?_
    show SQ _ _ _ [.dat caught1, .dat sorts4] _
    exact s_ret (sx_ix (Room.u65 hr) (sx_lit (.lst [.str "number", .str "point", .str "motion", .str "heap", .str "pairs", .str "name", .str "text", .str "none"])) (sx_index (sx_v 1) sx_b)) h
abbrev s_law_asked : Stmt := top 59
theorem sc_law_asked : FnScope ["_law_album", "_law_sort_of", "_law_one", "_law_two", "_law_caught", "e"] ["_law_album", "_law_sort_of", "_law_one", "_law_two"] (defScope s_law_asked) := ⟨rfl, rfl, rfl, by decide +kernel, rfl, by decide +kernel, by decide +kernel⟩
theorem ok_law_asked (Z : Zs mg) (F_law_does : FnS P w K mg base "_law_does" 11 4 (sp4 p_law_does)) (F_law_refusal : FnS P w K mg base "_law_refusal" 1 1 (sp1 p_law_refusal)) (EI : ExcI K mg) (F : FunD K "_law_asked" "_law_asked" (defArgs s_law_asked) (defBody s_law_asked) (defScope s_law_asked) [] [] f fd) (hm : mg "_law_asked" = some (.ref f)) : FnS P w K mg base "_law_asked" 12 4 (sp4 p_law_asked) := by
  refine fnS_of (k := 11) F hm sc_law_asked (fun ds Φ Ψ h => by obtain ⟨_, _, _, _, rfl, _⟩ := h; rfl) (fun _ _ _ _ _ _ us hl => match us, hl with | [_, _, _, _], _ => rfl) (fun cdv A outer s H E hr ds Φ Ψ h => ?_)
  obtain ⟨album1, sort_of2, one3, two4, rfl, h⟩ := h
  obtain ⟨h⟩ := h
  refine SQ.run ?_
  show SQ _ _ _ [.dat album1, .dat sort_of2, .dat one3, .dat two4, .emp, .emp] _
  refine s_set 4 sx_n h (fun caught5 h => ?_) sc_law_asked.nd
  show SQ _ _ _ [.dat album1, .dat sort_of2, .dat one3, .dat two4, .dat caught5, .emp] _
  refine s_tryJ (J := D) h (fun j => [.dat album1, .dat sort_of2, .dat one3, .dat two4, .dat j, .emp]) (fun j k => k (j)) (fun z7 => (excD z7)) 5 4 (fun pn xe h => (sb_expr (sx_c4 F_law_does (hr.mono (by decide)) (sx_v 0) (sx_v 1) (sx_v 2) (sx_v 3)) h (fun _ h => ⟨caught5, rfl, h⟩))) EI ?_ sc_law_asked.nd
  · rintro caught8 h
    show SQ _ _ _ [.dat album1, .dat sort_of2, .dat one3, .dat two4, .dat caught8, .emp] _
    exact s_ret (sx_if (st_isN (sx_v 4)) sx_s (sx_c1 F_law_refusal (hr.mono (by decide)) (sx_v 4))) h
abbrev s_law : Stmt := top 60
theorem sc_law : FnScope ["_law_script", "_law_town_here", "_law_album", "_law_heap_a", "_law_motion_here", "_law_bad", "_law_k"] ["_law_script"] (defScope s_law) := ⟨rfl, rfl, rfl, by decide +kernel, rfl, by decide +kernel, by decide +kernel⟩
theorem ok_law (Z : Zs mg) (F_law_town : FnS P w K mg base "_law_town" 1 1 (sp1 p_law_town)) (F_law_motion : FnS P w K mg base "_law_motion" 4 1 (sp1 p_law_motion)) (F_law_asked : FnS P w K mg base "_law_asked" 12 4 (sp4 p_law_asked)) (F_law_draw : FnS P w K mg base "_law_draw" 1 2 (sp2 p_law_draw)) (FM_Album_find : MthS P w K mg base "find" 10 2 (sp2 p_Album_find)) (FM_Album_groups : MthS P w K mg base "groups" 2 1 (sp1 p_Album_groups)) (FM_Album_names : MthS P w K mg base "names" 1 1 (sp1 p_Album_names)) (FO_Album_put : MthO P w K mg base "put" 10 2 (so2 o_Album_put)) (FM_Album_shown : MthS P w K mg base "shown" 2 2 (sp2 p_Album_shown)) (FM_Album___len__ : MthS P w K mg base "__len__" 1 1 (sp1 p_Album___len__)) (FM_Album_find_shape : MthS P w K mg base "find_shape" 9 2 (sp2 p_Album_find_shape)) (FO_Album_undo : MthO P w K mg base "undo" 1 0 (so0 o_Album_undo)) (FI_Album___init__ : MkI P w K mg base 1) (F : FunD K "law" "law" (defArgs s_law) (defBody s_law) (defScope s_law) [] [] f fd) (hm : mg "law" = some (.ref f)) : FnOk P w K mg base (L2.CX P w) 13 f fd ["_law_script"] (spD K 1 (sp1 p_k21)) := by
  refine fnOk_of (k := 12) F hm sc_law (fun ds Φ Ψ h => by obtain ⟨_, rfl, _⟩ := h; rfl) (fun _ _ _ _ _ _ us hl => match us, hl with | [_], _ => rfl) (fun cdv A outer s H E hr ds Φ Ψ h => ?_)
  obtain ⟨script1, rfl, h⟩ := h
  obtain ⟨h⟩ := h
  refine SQ.run ?_
  show SQ _ _ _ [.dat script1, .emp, .emp, .emp, .emp, .emp, .emp] _
  refine s_set 1 (sx_c1 F_law_town (hr.mono (by decide)) (sx_v 0)) h (fun town_here2 h => ?_) sc_law.nd
  show SQ _ _ _ [.dat script1, .dat town_here2, .emp, .emp, .emp, .emp, .emp] _
  refine s_newA 2 FI_Album___init__ (hr.mono (by decide)) ?_ sc_law.nd
  show SQ _ _ _ [.dat script1, .dat town_here2, .alb none (⟨[], [], []⟩ : Alb), .emp, .emp, .emp, .emp] _
  refine s_parO 3 4 (sa_cons (sx_lit (.tup [.int 0, .int 0, .int 1])) (sa_cons (sx_tup (sa_cons (sx_add sx_i (sx_c2 F_law_draw (hr.mono (by decide)) (sx_v 1) sx_i)) (sa_cons sx_i (sa_cons sx_i sa_nil)))) sa_nil)) (sx_c1 F_law_motion (hr.mono (by decide)) (sx_v 1)) h (fun heap_a3 motion_here4 h => ?_) sc_law.nd
  show SQ _ _ _ [.dat script1, .dat town_here2, .alb none (⟨[], [], []⟩ : Alb), .lst heap_a3, .dat motion_here4, .emp, .emp] _
  refine s_if (st_peekA 2 rfl (st_peek 3 rfl (sw_t (sw_or (st_ne hr.units (sx_c4 F_law_asked (hr.mono (by decide)) (sx_v 2) sx_i sx_i sx_i) sx_s) (sw_or (st_ne hr.units (sx_m0 FM_Album_names (hr.mono (by decide)) (sx_v 2)) (sx_lit (.lst []))) (sw_or (st_ne hr.units (sx_m0 FM_Album_groups (hr.mono (by decide)) (sx_v 2)) (sx_lit (.lst []))) (sw_or1 (st_ne hr.units (sx_m1 FM_Album_find (hr.mono (by decide)) (sx_v 2) (sx_v 3)) (sx_lit (.lst [])))))))))) h (fun h => ?_) (fun h => ?_)
  · refine s_frz 3 rfl ?_
    show SQ _ _ _ [.dat script1, .dat town_here2, .alb none (⟨[], [], []⟩ : Alb), .dat (.lst heap_a3), .dat motion_here4, .emp, .emp] _
    exact s_ret sx_b h
  · refine s_nil ?_
    show SQ _ _ _ [.dat script1, .dat town_here2, .alb none (⟨[], [], []⟩ : Alb), .lst heap_a3, .dat motion_here4, .emp, .emp] _
    refine s_for (S := Unit) (J := Sl) h (si_v (sx_lit (.lst [.non, .int 5, .str "", .lst [.str "a"], .tup [.str "a"]]))) (fun s5 j6 => [.dat script1, .dat town_here2, .alb none (⟨[], [], []⟩ : Alb), .lst heap_a3, .dat motion_here4, j6, .emp]) (.emp) rfl ?_ ?_ pass_cx
    · intro bad39 s5 j6 nx37 h
      refine ⟨_, qg_name 5 sc_law.nd, ?_⟩
      show SQ _ _ _ [.dat script1, .dat town_here2, .alb none (⟨[], [], []⟩ : Alb), .lst heap_a3, .dat motion_here4, .dat bad39, .emp] _
      refine s_if (st_peekA 2 rfl (sw_t (sw_or (st_ne hr.units (sx_c4 F_law_asked (hr.mono (by decide)) (sx_v 2) sx_i (sx_v 5) sx_n) sx_s) (sw_or1 (st_ne hr.units (sx_lc0 sc_law.nd (blkOk_by (N := ["_law_script", "_law_town_here", "_law_album", "_law_heap_a", "_law_motion_here", "_law_bad", "_law_k"]) (sc := defScope s_law) (own := [("_law_k", 6)]) (by decide +kernel)) (si_range2 Z.range sx_i sx_i) (fun k42 k40 h => ⟨_, qgb_name 6 sc_law.nd, fun s H C cl fp => ((sx_c4 F_law_asked (hr.mono (by decide)) (sx_v 2) (sx_v 6) (sx_v 5) sx_n)).run h⟩)) (sx_mul (sx_lit (.lst [.str "name"])) sx_i)))))) h (fun h => ?_) (fun h => ?_)
      · refine s_frz 3 rfl ?_
        show SQ _ _ _ [.dat script1, .dat town_here2, .alb none (⟨[], [], []⟩ : Alb), .dat (.lst heap_a3), .dat motion_here4, .dat bad39, .emp] _
        exact s_ret sx_b h
      · refine s_nil ?_
        show SQ _ _ _ [.dat script1, .dat town_here2, .alb none (⟨[], [], []⟩ : Alb), .lst heap_a3, .dat motion_here4, .dat bad39, .emp] _
        exact s_nil ⟨(), (.dat bad39), rfl, h⟩
    · intro s7 j8 h
      show SQ _ _ _ [.dat script1, .dat town_here2, .alb none (⟨[], [], []⟩ : Alb), .lst heap_a3, .dat motion_here4, j8, .emp] _
      refine s_for (S := Unit) (J := Sl) h (si_v (sx_lst (sa_cons sx_n (sa_cons sx_i (sa_cons (sx_slO 3 rfl so_none (so_some sx_i)) (sa_cons (sx_addO 3 3 rfl rfl) sa_nil)))))) (fun s9 j10 => [.dat script1, .dat town_here2, .alb none (⟨[], [], []⟩ : Alb), .lst heap_a3, .dat motion_here4, j10, .emp]) (j8) rfl ?_ ?_ pass_cx
      · intro bad33 s9 j10 nx31 h
        refine ⟨_, qg_name 5 sc_law.nd, ?_⟩
        show SQ _ _ _ [.dat script1, .dat town_here2, .alb none (⟨[], [], []⟩ : Alb), .lst heap_a3, .dat motion_here4, .dat bad33, .emp] _
        refine s_if (st_peekA 2 rfl (sw_t (sw_or (st_ne hr.units (sx_c4 F_law_asked (hr.mono (by decide)) (sx_v 2) sx_i sx_s (sx_v 5)) sx_s) (sw_or1 (st_ne hr.units (sx_lc0 sc_law.nd (blkOk_by (N := ["_law_script", "_law_town_here", "_law_album", "_law_heap_a", "_law_motion_here", "_law_bad", "_law_k"]) (sc := defScope s_law) (own := [("_law_k", 6)]) (by decide +kernel)) (si_v (sx_lit (.lst [.int 5, .int 6]))) (fun k36 k34 h => ⟨_, qgb_name 6 sc_law.nd, fun s H C cl fp => ((sx_c4 F_law_asked (hr.mono (by decide)) (sx_v 2) (sx_v 6) sx_i (sx_v 5))).run h⟩)) (sx_mul (sx_lit (.lst [.str "heap"])) sx_i)))))) h (fun h => ?_) (fun h => ?_)
        · refine s_frz 3 rfl ?_
          show SQ _ _ _ [.dat script1, .dat town_here2, .alb none (⟨[], [], []⟩ : Alb), .dat (.lst heap_a3), .dat motion_here4, .dat bad33, .emp] _
          exact s_ret sx_b h
        · refine s_nil ?_
          show SQ _ _ _ [.dat script1, .dat town_here2, .alb none (⟨[], [], []⟩ : Alb), .lst heap_a3, .dat motion_here4, .dat bad33, .emp] _
          exact s_nil ⟨(), (.dat bad33), rfl, h⟩
      · intro s11 j12 h
        show SQ _ _ _ [.dat script1, .dat town_here2, .alb none (⟨[], [], []⟩ : Alb), .lst heap_a3, .dat motion_here4, j12, .emp] _
        refine s_own2L 2 3 FO_Album_put (hr.mono (by decide)) rfl rfl sx_s h (fun A13 h => ?_)
        show SQ _ _ _ [.dat script1, .dat town_here2, .alb none A13, .lst heap_a3, .dat motion_here4, j12, .emp] _
        refine s_append 3 rfl (sx_lit (.tup [.int 9, .int 9, .int 1])) h (fun d15 h => ?_)
        show SQ _ _ _ [.dat script1, .dat town_here2, .alb none A13, .lst (heap_a3 ++ [d15]), .dat motion_here4, j12, .emp] _
        refine s_frz 3 rfl ?_
        show SQ _ _ _ [.dat script1, .dat town_here2, .alb none A13, .dat (.lst (heap_a3 ++ [d15])), .dat motion_here4, j12, .emp] _
        refine s_for (S := Unit) (J := Sl) h (si_v (sx_lst (sa_cons sx_n (sa_cons sx_i (sa_cons (sx_sl (sx_v 4) so_none (so_some sx_i)) sa_nil))))) (fun s16 j17 => [.dat script1, .dat town_here2, .alb none A13, .dat (.lst (heap_a3 ++ [d15])), .dat motion_here4, j17, .emp]) (j12) rfl ?_ ?_ pass_cx
        · intro bad30 s16 j17 nx28 h
          refine ⟨_, qg_name 5 sc_law.nd, ?_⟩
          show SQ _ _ _ [.dat script1, .dat town_here2, .alb none A13, .dat (.lst (heap_a3 ++ [d15])), .dat motion_here4, .dat bad30, .emp] _
          refine s_if (st_peekA 2 rfl (sw_t (sw_or (st_ne hr.units (sx_c4 F_law_asked (hr.mono (by decide)) (sx_v 2) sx_i sx_s (sx_v 5)) sx_s) (sw_or1 (st_ne hr.units (sx_c4 F_law_asked (hr.mono (by decide)) (sx_v 2) sx_i sx_s (sx_v 5)) sx_s))))) h (fun h => ?_) (fun h => ?_)
          · exact s_ret sx_b h
          · refine s_nil ?_
            show SQ _ _ _ [.dat script1, .dat town_here2, .alb none A13, .dat (.lst (heap_a3 ++ [d15])), .dat motion_here4, .dat bad30, .emp] _
            exact s_nil ⟨(), (.dat bad30), rfl, h⟩
        · intro s18 j19 h
          show SQ _ _ _ [.dat script1, .dat town_here2, .alb none A13, .dat (.lst (heap_a3 ++ [d15])), .dat motion_here4, j19, .emp] _
          refine s_if (st_peekA 2 rfl (sw_t (sw_or (st_ne hr.units (sx_lc0 sc_law.nd (blkOk_by (N := ["_law_script", "_law_town_here", "_law_album", "_law_heap_a", "_law_motion_here", "_law_bad", "_law_k"]) (sc := defScope s_law) (own := [("_law_k", 6)]) (by decide +kernel)) (si_v (sx_lit (.lst [.int 1, .int 2, .int 4]))) (fun k22 k20 h => ⟨_, qgb_name 6 sc_law.nd, fun s H C cl fp => ((sx_c4 F_law_asked (hr.mono (by decide)) (sx_v 2) (sx_v 6) sx_s sx_s)).run h⟩)) (sx_mul (sx_lit (.lst [.str "name"])) sx_i)) (sw_or1 (st_ne hr.units (sx_c4 F_law_asked (hr.mono (by decide)) (sx_v 2) sx_i sx_s sx_s) sx_s))))) h (fun h => ?_) (fun h => ?_)
          · exact s_ret sx_b h
          · refine s_nil ?_
            show SQ _ _ _ [.dat script1, .dat town_here2, .alb none A13, .dat (.lst (heap_a3 ++ [d15])), .dat motion_here4, j19, .emp] _
            refine s_if (st_peekA 2 rfl (sw_t (sw_or (st_ne hr.units (sx_lenA FM_Album___len__ (hr.mono (by decide)) Z.len (sx_v 2)) sx_i) (sw_or1 (st_ne hr.units (sx_m1 FM_Album_shown (hr.mono (by decide)) (sx_v 2) sx_s) (sx_tuple Z.tuple (sx_sl (sx_v 3) so_none (so_some sx_i)))))))) h (fun h => ?_) (fun h => ?_)
            · exact s_ret sx_b h
            · refine s_nil ?_
              show SQ _ _ _ [.dat script1, .dat town_here2, .alb none A13, .dat (.lst (heap_a3 ++ [d15])), .dat motion_here4, j19, .emp] _
              refine s_own2 2 FO_Album_put (hr.mono (by decide)) rfl sx_s (sx_lit (.lst [.tup [.int 0, .int 0, .int 1], .tup [.int 9, .int 9, .int 1]])) h (fun A23 h => ?_)
              show SQ _ _ _ [.dat script1, .dat town_here2, .alb none A23, .dat (.lst (heap_a3 ++ [d15])), .dat motion_here4, j19, .emp] _
              refine s_if (st_peekA 2 rfl (sw_t (sw_or (st_ne hr.units (sx_c4 F_law_asked (hr.mono (by decide)) (sx_v 2) sx_i sx_s sx_s) sx_s) (sw_or1 (st_ne hr.units (sx_m1 FM_Album_find_shape (hr.mono (by decide)) (sx_v 2) (sx_lit (.lst [.tup [.int 5, .int 5, .int 1], .tup [.int 6, .int 7, .int 2]]))) (sx_lit (.lst [.str "a", .str "b"]))))))) h (fun h => ?_) (fun h => ?_)
              · exact s_ret sx_b h
              · refine s_nil ?_
                show SQ _ _ _ [.dat script1, .dat town_here2, .alb none A23, .dat (.lst (heap_a3 ++ [d15])), .dat motion_here4, j19, .emp] _
                refine s_own0 2 FO_Album_undo (hr.mono (by decide)) rfl h (fun A26 h => ?_)
                show SQ _ _ _ [.dat script1, .dat town_here2, .alb none A26, .dat (.lst (heap_a3 ++ [d15])), .dat motion_here4, j19, .emp] _
                refine s_own0 2 FO_Album_undo (hr.mono (by decide)) rfl h (fun A27 h => ?_)
                show SQ _ _ _ [.dat script1, .dat town_here2, .alb none A27, .dat (.lst (heap_a3 ++ [d15])), .dat motion_here4, j19, .emp] _
                exact s_ret (sx_peekA 2 rfl (sx_and (sx_eq hr.units (sx_c4 F_law_asked (hr.mono (by decide)) (sx_v 2) sx_i sx_i sx_i) sx_s) (sx_and1 (sx_eq hr.units (sx_lenA FM_Album___len__ (hr.mono (by decide)) Z.len (sx_v 2)) sx_i)))) h
end
def d_Album___init__ : He.DefD := ⟨("Album", some "__init__"), "__init__", "Album.__init__", defArgs s_Album___init__, defBody s_Album___init__, defScope s_Album___init__, [], []⟩
def d_Album_begin : He.DefD := ⟨("Album", some "begin"), "begin", "Album.begin", defArgs s_Album_begin, defBody s_Album_begin, defScope s_Album_begin, [], []⟩
def d_common : He.DefD := ⟨("common", none), "common", "common", defArgs s_common, defBody s_common, defScope s_common, [], []⟩
def d_is_number : He.DefD := ⟨("is_number", none), "is_number", "is_number", defArgs s_is_number, defBody s_is_number, defScope s_is_number, [], []⟩
def d_is_point : He.DefD := ⟨("is_point", none), "is_point", "is_point", defArgs s_is_point, defBody s_is_point, defScope s_is_point, [], []⟩
def d_is_heap : He.DefD := ⟨("is_heap", none), "is_heap", "is_heap", defArgs s_is_heap, defBody s_is_heap, defScope s_is_heap, [], []⟩
def d_look_heaps : He.DefD := ⟨("look_heaps", none), "look_heaps", "look_heaps", defArgs s_look_heaps, defBody s_look_heaps, defScope s_look_heaps, [], []⟩
def d_ahead : He.DefD := ⟨("ahead", none), "ahead", "ahead", defArgs s_ahead, defBody s_ahead, defScope s_ahead, [], []⟩
def d_in_order : He.DefD := ⟨("in_order", none), "in_order", "in_order", defArgs s_in_order, defBody s_in_order, defScope s_in_order, [], []⟩
def d_heap : He.DefD := ⟨("heap", none), "heap", "heap", defArgs s_heap, defBody s_heap, defScope s_heap, [], []⟩
def d_share : He.DefD := ⟨("share", none), "share", "share", defArgs s_share, defBody s_share, defScope s_share, [], []⟩
def d_size : He.DefD := ⟨("size", none), "size", "size", defArgs s_size, defBody s_size, defScope s_size, [], []⟩
def d_lowest : He.DefD := ⟨("lowest", none), "lowest", "lowest", defArgs s_lowest, defBody s_lowest, defScope s_lowest, [], []⟩
def d_minus : He.DefD := ⟨("minus", none), "minus", "minus", defArgs s_minus, defBody s_minus, defScope s_minus, [], []⟩
def d_gap : He.DefD := ⟨("gap", none), "gap", "gap", defArgs s_gap, defBody s_gap, defScope s_gap, [], []⟩
def d_gaps_of : He.DefD := ⟨("gaps_of", none), "gaps_of", "gaps_of", defArgs s_gaps_of, defBody s_gaps_of, defScope s_gaps_of, [], []⟩
def d_widest_of : He.DefD := ⟨("widest_of", none), "widest_of", "widest_of", defArgs s_widest_of, defBody s_widest_of, defScope s_widest_of, [], []⟩
def d_by : He.DefD := ⟨("by", none), "by", "by", defArgs s_by, defBody s_by, defScope s_by, [], []⟩
def d_flipped : He.DefD := ⟨("flipped", none), "flipped", "flipped", defArgs s_flipped, defBody s_flipped, defScope s_flipped, [], []⟩
def d_rows_of : He.DefD := ⟨("rows_of", none), "rows_of", "rows_of", defArgs s_rows_of, defBody s_rows_of, defScope s_rows_of, [], []⟩
def d_comes_first : He.DefD := ⟨("comes_first", none), "comes_first", "comes_first", defArgs s_comes_first, defBody s_comes_first, defScope s_comes_first, [], []⟩
def d_shape : He.DefD := ⟨("shape", none), "shape", "shape", defArgs s_shape, defBody s_shape, defScope s_shape, [], []⟩
def d_form : He.DefD := ⟨("form", none), "form", "form", defArgs s_form, defBody s_form, defScope s_form, [], []⟩
def d_Album_named : He.DefD := ⟨("Album", some "named"), "named", "Album.named", defArgs s_Album_named, defBody s_Album_named, defScope s_Album_named, [], []⟩
def d_Album_put : He.DefD := ⟨("Album", some "put"), "put", "Album.put", defArgs s_Album_put, defBody s_Album_put, defScope s_Album_put, [], []⟩
def d_Album_undo : He.DefD := ⟨("Album", some "undo"), "undo", "Album.undo", defArgs s_Album_undo, defBody s_Album_undo, defScope s_Album_undo, [], []⟩
def d_law_town : He.DefD := ⟨("_law_town", none), "_law_town", "_law_town", defArgs s_law_town, defBody s_law_town, defScope s_law_town, [], []⟩
def d_law_draw : He.DefD := ⟨("_law_draw", none), "_law_draw", "_law_draw", defArgs s_law_draw, defBody s_law_draw, defScope s_law_draw, [], []⟩
def d_law_pick : He.DefD := ⟨("_law_pick", none), "_law_pick", "_law_pick", defArgs s_law_pick, defBody s_law_pick, defScope s_law_pick, [], []⟩
def d_law_gcd : He.DefD := ⟨("_law_gcd", none), "_law_gcd", "_law_gcd", defArgs s_law_gcd, defBody s_law_gcd, defScope s_law_gcd, [], []⟩
def d_law_low : He.DefD := ⟨("_law_low", none), "_law_low", "_law_low", defArgs s_law_low, defBody s_law_low, defScope s_law_low, [], []⟩
def d_law_turn : He.DefD := ⟨("_law_turn", none), "_law_turn", "_law_turn", defArgs s_law_turn, defBody s_law_turn, defScope s_law_turn, [], []⟩
def d_law_point : He.DefD := ⟨("_law_point", none), "_law_point", "_law_point", defArgs s_law_point, defBody s_law_point, defScope s_law_point, [], []⟩
def d_law_motion : He.DefD := ⟨("_law_motion", none), "_law_motion", "_law_motion", defArgs s_law_motion, defBody s_law_motion, defScope s_law_motion, [], []⟩
def d_Album_names : He.DefD := ⟨("Album", some "names"), "names", "Album.names", defArgs s_Album_names, defBody s_Album_names, defScope s_Album_names, [], []⟩
def d_Album_groups : He.DefD := ⟨("Album", some "groups"), "groups", "Album.groups", defArgs s_Album_groups, defBody s_Album_groups, defScope s_Album_groups, [], []⟩
def d_Album_find : He.DefD := ⟨("Album", some "find"), "find", "Album.find", defArgs s_Album_find, defBody s_Album_find, defScope s_Album_find, [], []⟩
def d_Album___len__ : He.DefD := ⟨("Album", some "__len__"), "__len__", "Album.__len__", defArgs s_Album___len__, defBody s_Album___len__, defScope s_Album___len__, [], []⟩
def d_Album_look_there : He.DefD := ⟨("Album", some "look_there"), "look_there", "Album.look_there", defArgs s_Album_look_there, defBody s_Album_look_there, defScope s_Album_look_there, [], []⟩
def d_Album_shown : He.DefD := ⟨("Album", some "shown"), "shown", "Album.shown", defArgs s_Album_shown, defBody s_Album_shown, defScope s_Album_shown, [], []⟩
def d_Album_find_shape : He.DefD := ⟨("Album", some "find_shape"), "find_shape", "Album.find_shape", defArgs s_Album_find_shape, defBody s_Album_find_shape, defScope s_Album_find_shape, [], []⟩
def d_Album_drop : He.DefD := ⟨("Album", some "drop"), "drop", "Album.drop", defArgs s_Album_drop, defBody s_Album_drop, defScope s_Album_drop, [], []⟩
def d_is_whole : He.DefD := ⟨("is_whole", none), "is_whole", "is_whole", defArgs s_is_whole, defBody s_is_whole, defScope s_is_whole, [], []⟩
def d_is_motion : He.DefD := ⟨("is_motion", none), "is_motion", "is_motion", defArgs s_is_motion, defBody s_is_motion, defScope s_is_motion, [], []⟩
def d_look_motion : He.DefD := ⟨("look_motion", none), "look_motion", "look_motion", defArgs s_look_motion, defBody s_look_motion, defScope s_look_motion, [], []⟩
def d_plus : He.DefD := ⟨("plus", none), "plus", "plus", defArgs s_plus, defBody s_plus, defScope s_plus, [], []⟩
def d_times : He.DefD := ⟨("times", none), "times", "times", defArgs s_times, defBody s_times, defScope s_times, [], []⟩
def d_led_by : He.DefD := ⟨("led_by", none), "led_by", "led_by", defArgs s_led_by, defBody s_led_by, defScope s_led_by, [], []⟩
def d_Album_move : He.DefD := ⟨("Album", some "move"), "move", "Album.move", defArgs s_Album_move, defBody s_Album_move, defScope s_Album_move, [], []⟩
def d_both_leading : He.DefD := ⟨("both_leading", none), "both_leading", "both_leading", defArgs s_both_leading, defBody s_both_leading, defScope s_both_leading, [], []⟩
def d_all_laying : He.DefD := ⟨("all_laying", none), "all_laying", "all_laying", defArgs s_all_laying, defBody s_all_laying, defScope s_all_laying, [], []⟩
def d_Album_way : He.DefD := ⟨("Album", some "way"), "way", "Album.way", defArgs s_Album_way, defBody s_Album_way, defScope s_Album_way, [], []⟩
def d_law_does : He.DefD := ⟨("_law_does", none), "_law_does", "_law_does", defArgs s_law_does, defBody s_law_does, defScope s_law_does, [], []⟩
def d_law_refusal : He.DefD := ⟨("_law_refusal", none), "_law_refusal", "_law_refusal", defArgs s_law_refusal, defBody s_law_refusal, defScope s_law_refusal, [], []⟩
def d_law_asked : He.DefD := ⟨("_law_asked", none), "_law_asked", "_law_asked", defArgs s_law_asked, defBody s_law_asked, defScope s_law_asked, [], []⟩
def d_law : He.DefD := ⟨("law", none), "law", "law", defArgs s_law, defBody s_law, defScope s_law, [], []⟩
def fn : List He.DefD := ([d_Album___init__, d_Album_begin, d_common, d_is_number, d_is_point, d_is_heap, d_look_heaps, d_ahead, d_in_order, d_heap, d_share, d_size, d_lowest, d_minus, d_gap, d_gaps_of, d_widest_of, d_by, d_flipped, d_rows_of, d_comes_first, d_shape, d_form, d_Album_named, d_Album_put, d_Album_undo, d_law_town, d_law_draw, d_law_pick, d_law_gcd] : List He.DefD) ++ ([d_law_low, d_law_turn, d_law_point, d_law_motion, d_Album_names, d_Album_groups, d_Album_find, d_Album___len__, d_Album_look_there, d_Album_shown, d_Album_find_shape, d_Album_drop, d_is_whole, d_is_motion, d_look_motion, d_plus, d_times, d_led_by, d_Album_move, d_both_leading, d_all_laying, d_Album_way, d_law_does, d_law_refusal, d_law_asked, d_law] : List He.DefD)
def fa : List He.Fa := ([.glo "common", .glo "is_number", .glo "is_point", .glo "is_heap", .glo "look_heaps", .glo "ahead", .glo "in_order", .glo "heap", .glo "share", .glo "size", .glo "lowest", .glo "minus", .glo "gap", .glo "gaps_of", .glo "widest_of", .glo "by", .glo "flipped", .glo "rows_of", .glo "comes_first", .glo "shape", .glo "form", .glo "_law_town", .glo "_law_draw", .glo "_law_pick", .glo "_law_gcd", .glo "_law_low", .glo "_law_turn", .glo "_law_point", .glo "_law_motion", .glo "is_whole"] : List He.Fa) ++ ([.glo "is_motion", .glo "look_motion", .glo "plus", .glo "times", .glo "led_by", .glo "both_leading", .glo "all_laying", .glo "_law_does", .glo "_law_refusal", .glo "_law_asked", .glo "law", .glo "Album", .glo "BadHeap", .glo "BadName", .glo "NoThing", .glo "BadMotion", .glo "BadPoint", .glo "BadNumber", .glo "BadPairs", .glo "BadText", .glo "OverError", .free "abs", .free "len", .free "all", .free "any", .free "max", .free "isinstance", .free "int", .free "bool", .free "tuple"] : List He.Fa) ++ ([.free "list", .free "str", .free "range", .free "zip", .free "enumerate", .free "sorted", .free "sum", .free "min", .free "ValueError", .free "dict", .exc "BadHeap", .exc "BadName", .exc "NoThing", .exc "BadMotion", .exc "BadPoint", .exc "BadNumber", .exc "BadPairs", .exc "BadText", .int "MOST" 14, .cls "Album", .noat "Album" "stock", .noat "Album" "marks", .noat "Album" "past", .mkr "Album", .meth "Album" "begin", .meth "Album" "named", .meth "Album" "put", .meth "Album" "undo", .meth "Album" "names", .meth "Album" "groups"] : List He.Fa) ++ ([.meth "Album" "find", .meth "Album" "__len__", .meth "Album" "look_there", .meth "Album" "shown", .meth "Album" "find_shape", .meth "Album" "drop", .meth "Album" "move", .meth "Album" "way"] : List He.Fa)
def cs : List (Str × D) := [("", .exc "")]
def loose : List Str := (["__name__", "OverError", "BadNumber", "BadPoint", "BadMotion", "BadHeap", "BadPairs", "BadName", "BadText", "NoThing", "is_number", "is_whole", "common", "share", "lowest", "plus", "minus", "times", "flipped", "by", "size", "is_point", "ahead", "in_order", "gap", "is_motion", "look_motion", "led_by", "both_leading", "MOST"] : List Str) ++ (["is_heap", "look_heaps", "heap", "gaps_of", "widest_of", "rows_of", "comes_first", "shape", "form", "all_laying", "Album", "_law_town", "_law_draw", "_law_pick", "_law_refusal", "_law_gcd", "_law_low", "_law_point", "_law_turn", "_law_motion", "_law_does", "_law_asked"] : List Str)
abbrev R : PySem.W.OpenRow := PySem.W.OpenLaw.row PySem.Challenge.rw_laidover_k21_albums_refused
def asl : List Addr := ([3, 6, 4, 24, 37, 49, 61, 73, 85, 97, 109, 121, 130, 137, 144, 151, 158, 165, 172, 179, 186, 193, 200, 205, 212, 219, 226, 233, 240, 247] : List Addr) ++ ([254, 259, 264, 271, 278, 285, 290, 297, 304, 311, 316, 423, 434, 441, 448, 455, 462, 469, 476, 483, 490, 497, 504, 509, 0, 23, 36, 48, 60, 72] : List Addr) ++ ([84, 96, 108, 120, 129, 136, 143, 150, 157, 164, 171, 178, 185, 192, 199, 204, 211, 218, 225, 232, 239, 246, 253, 258, 263, 270, 277, 284, 289, 296] : List Addr) ++ ([303, 310, 315, 422, 433, 440, 447, 454, 461, 468, 475, 482, 489, 496, 503, 508, 22, 25, 35, 47, 59, 71, 83, 95, 107, 119, 124, 125, 126, 127] : List Addr) ++ ([128, 131, 132, 133, 134, 135, 138, 139, 140, 141, 142, 145, 146, 147, 148, 149, 152, 153, 154, 155, 156, 159, 160, 161, 162, 163, 166, 167, 168, 169] : List Addr) ++ ([170, 173, 174, 175, 176, 177, 180, 181, 182, 183, 184, 187, 188, 189, 190, 191, 194, 195, 196, 197, 198, 201, 202, 203, 206, 207, 208, 209, 210, 213] : List Addr) ++ ([214, 215, 216, 217, 220, 221, 222, 223, 224, 227, 228, 229, 230, 231, 234, 235, 236, 237, 238, 241, 242, 243, 244, 245, 248, 249, 250, 251, 252, 255] : List Addr) ++ ([256, 257, 260, 261, 262, 265, 266, 267, 268, 269, 272, 273, 274, 275, 276, 279, 280, 281, 282, 283, 286, 287, 288, 291, 292, 293, 294, 295, 298, 299] : List Addr) ++ ([300, 301, 302, 305, 306, 307, 308, 309, 312, 313, 314, 330, 337, 342, 347, 354, 361, 368, 375, 380, 387, 394, 399, 406, 413, 420, 421, 424, 425, 428] : List Addr) ++ ([429, 430, 431, 432, 435, 436, 437, 438, 439, 442, 443, 444, 445, 446, 449, 450, 451, 452, 453, 456, 457, 458, 459, 460, 463, 464, 465, 466, 467, 470] : List Addr) ++ ([471, 472, 473, 474, 477, 478, 479, 480, 481, 484, 485, 486, 487, 488, 491, 492, 493, 494, 495, 498, 499, 500, 501, 502, 505, 506, 507, 329, 336, 341] : List Addr) ++ ([346, 353, 360, 367, 374, 379, 386, 393, 398, 405, 412, 419] : List Addr)
abbrev hk : PySem.W.Hook := hookA asl cs fa fn
def ob (s : PySem.W.SharedT) : AlG := obsGA asl cs fa fn (HandSHeadRun.getT s)
theorem ob_eq (s : PySem.W.SharedT) : ob s = hk.obs s.abs := obsGA_eq (HandSHeadRun.getT_eq s)
theorem run1 (w : World) : ∀ os : OsState, (HandSHeadRun.endF (HandSHeadRun.stepQ (HandSHeadRun.denQ HandSHeadRun.tabQ) R.prog w) 8000 R.prog w os).map (fun s => (HandSHeadRun.looksF R.prog (PySem.W.boot_heap w.params) s.abs, HandSHeadRun.seenQ (PySem.W.view R.prog [60]) loose (PySem.importedModules R.prog.main.body) (fun s => PySem.W.xlAt (PySem.W.view R.prog [60]) [] s && PySem.W.recOk R.toRowW.records s) s.abs)) = some (true, PySem.W.openGood (PySem.W.view R.prog [60]) loose) := by
  intro os
  kernel_rfl
theorem run2 (w : World) : ∀ os : OsState, (HandSHeadRun.endF (HandSHeadRun.stepQ (HandSHeadRun.denQ HandSHeadRun.tabQ) R.prog w) 8000 R.prog w os).map (fun s => ob s) = some (hk.val w) := by
  intro os
  kernel_rfl
theorem run (w : World) : HandSHeadRun.RunEq R (PySem.W.view R.prog [60]) hk ob 8000 loose w := fun os => run_two (run1 w os) (run2 w os)
theorem facts {P : Program} {w : World} {K : PySem.W.Frag} {h : Heap} {mg : Str → Option Value} {f : Addr} (X : K.In h) (Gn : h.Ns mainGlobals mg) (hfa : mg ("law" : Str) = some (.ref f)) (c : SaysG cs fa fn K) :
    ∃ fd : FuncData, (∀ (s : Shared) (v : Value), BindsTo s fd ⟨[v], []⟩ [("_law_script", v)]) ∧ ∀ base : Heap, K.In base → base.Ns mainGlobals mg → FnOk P w K mg base CX0 13 f fd ["_law_script"] (spEnd K) := by
  obtain ⟨cc, c⟩ := c
  have Z : Zs mg := ⟨He.free_ok X Gn (c.fact 51 (f := .free "abs") rfl), He.free_ok X Gn (c.fact 52 (f := .free "len") rfl), He.free_ok X Gn (c.fact 53 (f := .free "all") rfl), He.free_ok X Gn (c.fact 54 (f := .free "any") rfl), He.free_ok X Gn (c.fact 55 (f := .free "max") rfl), He.free_ok X Gn (c.fact 56 (f := .free "isinstance") rfl), He.free_ok X Gn (c.fact 57 (f := .free "int") rfl), He.free_ok X Gn (c.fact 58 (f := .free "bool") rfl), He.free_ok X Gn (c.fact 59 (f := .free "tuple") rfl), He.free_ok X Gn (c.fact 60 (f := .free "list") rfl), He.free_ok X Gn (c.fact 61 (f := .free "str") rfl), He.free_ok X Gn (c.fact 62 (f := .free "range") rfl), He.free_ok X Gn (c.fact 63 (f := .free "zip") rfl), He.free_ok X Gn (c.fact 64 (f := .free "enumerate") rfl), He.free_ok X Gn (c.fact 65 (f := .free "sorted") rfl), He.free_ok X Gn (c.fact 66 (f := .free "sum") rfl), He.free_ok X Gn (c.fact 67 (f := .free "min") rfl)⟩
  have E_BadHeap : ExcF K mg "BadHeap" := exc_of X Gn (c.fact 42 (f := .glo "BadHeap") rfl) (c.fact 70 (f := .exc "BadHeap") rfl)
  have E_BadName : ExcF K mg "BadName" := exc_of X Gn (c.fact 43 (f := .glo "BadName") rfl) (c.fact 71 (f := .exc "BadName") rfl)
  have E_NoThing : ExcF K mg "NoThing" := exc_of X Gn (c.fact 44 (f := .glo "NoThing") rfl) (c.fact 72 (f := .exc "NoThing") rfl)
  have E_BadMotion : ExcF K mg "BadMotion" := exc_of X Gn (c.fact 45 (f := .glo "BadMotion") rfl) (c.fact 73 (f := .exc "BadMotion") rfl)
  have E_BadPoint : ExcF K mg "BadPoint" := exc_of X Gn (c.fact 46 (f := .glo "BadPoint") rfl) (c.fact 74 (f := .exc "BadPoint") rfl)
  have E_BadNumber : ExcF K mg "BadNumber" := exc_of X Gn (c.fact 47 (f := .glo "BadNumber") rfl) (c.fact 75 (f := .exc "BadNumber") rfl)
  have E_BadPairs : ExcF K mg "BadPairs" := exc_of X Gn (c.fact 48 (f := .glo "BadPairs") rfl) (c.fact 76 (f := .exc "BadPairs") rfl)
  have E_BadText : ExcF K mg "BadText" := exc_of X Gn (c.fact 49 (f := .glo "BadText") rfl) (c.fact 77 (f := .exc "BadText") rfl)
  have EI := excI_of (exq_of cc 0 rfl) (He.glo_ok X Gn (c.fact 50 (f := .glo "OverError") rfl))
  have v_ValueError := He.free_ok X Gn (c.fact 68 (f := .free "ValueError") rfl)
  have AK : AlbK K := ⟨He.cls_ok (c.fact 79 (f := .cls "Album") rfl), He.noat_ok (c.fact 80 (f := .noat "Album" "stock") rfl), He.noat_ok (c.fact 81 (f := .noat "Album" "marks") rfl), He.noat_ok (c.fact 82 (f := .noat "Album" "past") rfl)⟩
  have B_dict := He.free_ok X Gn (c.fact 69 (f := .free "dict") rfl)
  have i_MOST := He.int_ok X Gn (c.fact 78 (f := .int "MOST" 14) rfl)
  obtain ⟨fd_Album___init__, F_Album___init__⟩ := c.def_ 0 (d := d_Album___init__) rfl
  obtain ⟨fd_Album_begin, F_Album_begin⟩ := c.def_ 1 (d := d_Album_begin) rfl
  obtain ⟨fd_common, F_common⟩ := c.def_ 2 (d := d_common) rfl
  obtain ⟨fd_is_number, F_is_number⟩ := c.def_ 3 (d := d_is_number) rfl
  obtain ⟨fd_is_point, F_is_point⟩ := c.def_ 4 (d := d_is_point) rfl
  obtain ⟨fd_is_heap, F_is_heap⟩ := c.def_ 5 (d := d_is_heap) rfl
  obtain ⟨fd_look_heaps, F_look_heaps⟩ := c.def_ 6 (d := d_look_heaps) rfl
  obtain ⟨fd_ahead, F_ahead⟩ := c.def_ 7 (d := d_ahead) rfl
  obtain ⟨fd_in_order, F_in_order⟩ := c.def_ 8 (d := d_in_order) rfl
  obtain ⟨fd_heap, F_heap⟩ := c.def_ 9 (d := d_heap) rfl
  obtain ⟨fd_share, F_share⟩ := c.def_ 10 (d := d_share) rfl
  obtain ⟨fd_size, F_size⟩ := c.def_ 11 (d := d_size) rfl
  obtain ⟨fd_lowest, F_lowest⟩ := c.def_ 12 (d := d_lowest) rfl
  obtain ⟨fd_minus, F_minus⟩ := c.def_ 13 (d := d_minus) rfl
  obtain ⟨fd_gap, F_gap⟩ := c.def_ 14 (d := d_gap) rfl
  obtain ⟨fd_gaps_of, F_gaps_of⟩ := c.def_ 15 (d := d_gaps_of) rfl
  obtain ⟨fd_widest_of, F_widest_of⟩ := c.def_ 16 (d := d_widest_of) rfl
  obtain ⟨fd_by, F_by⟩ := c.def_ 17 (d := d_by) rfl
  obtain ⟨fd_flipped, F_flipped⟩ := c.def_ 18 (d := d_flipped) rfl
  obtain ⟨fd_rows_of, F_rows_of⟩ := c.def_ 19 (d := d_rows_of) rfl
  obtain ⟨fd_comes_first, F_comes_first⟩ := c.def_ 20 (d := d_comes_first) rfl
  obtain ⟨fd_shape, F_shape⟩ := c.def_ 21 (d := d_shape) rfl
  obtain ⟨fd_form, F_form⟩ := c.def_ 22 (d := d_form) rfl
  obtain ⟨fd_Album_named, F_Album_named⟩ := c.def_ 23 (d := d_Album_named) rfl
  obtain ⟨fd_Album_put, F_Album_put⟩ := c.def_ 24 (d := d_Album_put) rfl
  obtain ⟨fd_Album_undo, F_Album_undo⟩ := c.def_ 25 (d := d_Album_undo) rfl
  obtain ⟨fd_law_town, F_law_town⟩ := c.def_ 26 (d := d_law_town) rfl
  obtain ⟨fd_law_draw, F_law_draw⟩ := c.def_ 27 (d := d_law_draw) rfl
  obtain ⟨fd_law_pick, F_law_pick⟩ := c.def_ 28 (d := d_law_pick) rfl
  obtain ⟨fd_law_gcd, F_law_gcd⟩ := c.def_ 29 (d := d_law_gcd) rfl
  obtain ⟨fd_law_low, F_law_low⟩ := c.def_ 30 (d := d_law_low) rfl
  obtain ⟨fd_law_turn, F_law_turn⟩ := c.def_ 31 (d := d_law_turn) rfl
  obtain ⟨fd_law_point, F_law_point⟩ := c.def_ 32 (d := d_law_point) rfl
  obtain ⟨fd_law_motion, F_law_motion⟩ := c.def_ 33 (d := d_law_motion) rfl
  obtain ⟨fd_Album_names, F_Album_names⟩ := c.def_ 34 (d := d_Album_names) rfl
  obtain ⟨fd_Album_groups, F_Album_groups⟩ := c.def_ 35 (d := d_Album_groups) rfl
  obtain ⟨fd_Album_find, F_Album_find⟩ := c.def_ 36 (d := d_Album_find) rfl
  obtain ⟨fd_Album___len__, F_Album___len__⟩ := c.def_ 37 (d := d_Album___len__) rfl
  obtain ⟨fd_Album_look_there, F_Album_look_there⟩ := c.def_ 38 (d := d_Album_look_there) rfl
  obtain ⟨fd_Album_shown, F_Album_shown⟩ := c.def_ 39 (d := d_Album_shown) rfl
  obtain ⟨fd_Album_find_shape, F_Album_find_shape⟩ := c.def_ 40 (d := d_Album_find_shape) rfl
  obtain ⟨fd_Album_drop, F_Album_drop⟩ := c.def_ 41 (d := d_Album_drop) rfl
  obtain ⟨fd_is_whole, F_is_whole⟩ := c.def_ 42 (d := d_is_whole) rfl
  obtain ⟨fd_is_motion, F_is_motion⟩ := c.def_ 43 (d := d_is_motion) rfl
  obtain ⟨fd_look_motion, F_look_motion⟩ := c.def_ 44 (d := d_look_motion) rfl
  obtain ⟨fd_plus, F_plus⟩ := c.def_ 45 (d := d_plus) rfl
  obtain ⟨fd_times, F_times⟩ := c.def_ 46 (d := d_times) rfl
  obtain ⟨fd_led_by, F_led_by⟩ := c.def_ 47 (d := d_led_by) rfl
  obtain ⟨fd_Album_move, F_Album_move⟩ := c.def_ 48 (d := d_Album_move) rfl
  obtain ⟨fd_both_leading, F_both_leading⟩ := c.def_ 49 (d := d_both_leading) rfl
  obtain ⟨fd_all_laying, F_all_laying⟩ := c.def_ 50 (d := d_all_laying) rfl
  obtain ⟨fd_Album_way, F_Album_way⟩ := c.def_ 51 (d := d_Album_way) rfl
  obtain ⟨fd_law_does, F_law_does⟩ := c.def_ 52 (d := d_law_does) rfl
  obtain ⟨fd_law_refusal, F_law_refusal⟩ := c.def_ 53 (d := d_law_refusal) rfl
  obtain ⟨fd_law_asked, F_law_asked⟩ := c.def_ 54 (d := d_law_asked) rfl
  obtain ⟨fd, F⟩ := c.def_ 55 (d := d_law) rfl
  have e := hfa.symm.trans (He.glo_ok X Gn (c.fact 40 (f := .glo "law") rfl))
  cases e
  have b := FunD.bindsA (ps := ["_law_script"]) F fun _ _ _ _ _ _ us hl => match us, hl with | [_], _ => rfl
  refine ⟨fd, fun s v => b s [v] rfl, fun base _ _ => ?_⟩
  have AI_Album___init__ : MkI P w K mg base 1 := oki_Album___init__ Z AK F_Album___init__ (He.mkr_ok (c.fact 83 (f := .mkr "Album") rfl)) (He.glo_ok X Gn (c.fact 41 (f := .glo "Album") rfl))
  have AO_Album_begin : MthO P w K mg base "begin" 1 0 (so0 o_Album_begin) := oko_Album_begin Z B_dict AK F_Album_begin (He.meth_ok (c.fact 84 (f := .meth "Album" "begin") rfl))
  have A_common : FnS P w K mg base "common" 1 2 (sp2 p_common) := ok_common Z F_common (He.glo_ok X Gn (c.fact 0 (f := .glo "common") rfl))
  have A_is_number : FnS P w K mg base "is_number" 1 1 (sp1 p_is_number) := ok_is_number Z F_is_number (He.glo_ok X Gn (c.fact 1 (f := .glo "is_number") rfl))
  have A_is_point : FnS P w K mg base "is_point" 2 1 (sp1 p_is_point) := ok_is_point Z A_common A_is_number F_is_point (He.glo_ok X Gn (c.fact 2 (f := .glo "is_point") rfl))
  have A_is_heap : FnS P w K mg base "is_heap" 3 1 (sp1 p_is_heap) := ok_is_heap Z A_is_point i_MOST F_is_heap (He.glo_ok X Gn (c.fact 3 (f := .glo "is_heap") rfl))
  have A_look_heaps : FnS P w K mg base "look_heaps" 4 1 (sp1 p_look_heaps) := ok_look_heaps Z A_is_heap E_BadHeap F_look_heaps (He.glo_ok X Gn (c.fact 4 (f := .glo "look_heaps") rfl))
  have A_ahead : FnS P w K mg base "ahead" 1 2 (sp2 p_ahead) := ok_ahead Z F_ahead (He.glo_ok X Gn (c.fact 5 (f := .glo "ahead") rfl))
  have A_in_order : FnS P w K mg base "in_order" 2 1 (sp1 p_in_order) := ok_in_order Z A_ahead F_in_order (He.glo_ok X Gn (c.fact 6 (f := .glo "in_order") rfl))
  have A_heap : FnS P w K mg base "heap" 5 1 (sp1 p_heap) := ok_heap Z A_look_heaps A_in_order F_heap (He.glo_ok X Gn (c.fact 7 (f := .glo "heap") rfl))
  have A_share : FnS P w K mg base "share" 2 2 (sp2 p_share) := ok_share Z A_common F_share (He.glo_ok X Gn (c.fact 8 (f := .glo "share") rfl))
  have A_size : FnS P w K mg base "size" 3 1 (sp1 p_size) := ok_size Z A_share F_size (He.glo_ok X Gn (c.fact 9 (f := .glo "size") rfl))
  have A_lowest : FnS P w K mg base "lowest" 2 3 (sp3 p_lowest) := ok_lowest Z A_common F_lowest (He.glo_ok X Gn (c.fact 10 (f := .glo "lowest") rfl))
  have A_minus : FnS P w K mg base "minus" 3 2 (sp2 p_minus) := ok_minus Z A_lowest F_minus (He.glo_ok X Gn (c.fact 11 (f := .glo "minus") rfl))
  have A_gap : FnS P w K mg base "gap" 4 2 (sp2 p_gap) := ok_gap Z A_size A_minus F_gap (He.glo_ok X Gn (c.fact 12 (f := .glo "gap") rfl))
  have A_gaps_of : FnS P w K mg base "gaps_of" 5 1 (sp1 p_gaps_of) := ok_gaps_of Z A_gap F_gaps_of (He.glo_ok X Gn (c.fact 13 (f := .glo "gaps_of") rfl))
  have A_widest_of : FnS P w K mg base "widest_of" 6 1 (sp1 p_widest_of) := ok_widest_of Z A_gaps_of F_widest_of (He.glo_ok X Gn (c.fact 14 (f := .glo "widest_of") rfl))
  have A_by : FnS P w K mg base "by" 3 2 (sp2 p_by) := ok_by Z A_lowest F_by (He.glo_ok X Gn (c.fact 15 (f := .glo "by") rfl))
  have A_flipped : FnS P w K mg base "flipped" 1 1 (sp1 p_flipped) := ok_flipped Z F_flipped (He.glo_ok X Gn (c.fact 16 (f := .glo "flipped") rfl))
  have A_rows_of : FnS P w K mg base "rows_of" 7 1 (sp1 p_rows_of) := ok_rows_of Z A_widest_of A_gap A_by A_minus A_in_order A_flipped F_rows_of (He.glo_ok X Gn (c.fact 17 (f := .glo "rows_of") rfl))
  have A_comes_first : FnS P w K mg base "comes_first" 2 2 (sp2 p_comes_first) := ok_comes_first Z A_ahead F_comes_first (He.glo_ok X Gn (c.fact 18 (f := .glo "comes_first") rfl))
  have A_shape : FnS P w K mg base "shape" 8 1 (sp1 p_shape) := ok_shape Z A_look_heaps A_rows_of A_comes_first F_shape (He.glo_ok X Gn (c.fact 19 (f := .glo "shape") rfl))
  have A_form : FnS P w K mg base "form" 9 1 (sp1 p_form) := ok_form Z A_look_heaps A_widest_of A_shape F_form (He.glo_ok X Gn (c.fact 20 (f := .glo "form") rfl))
  have AM_Album_named : MthS P w K mg base "named" 1 2 (sp2 p_Album_named) := ok_Album_named Z AK F_Album_named (He.meth_ok (c.fact 85 (f := .meth "Album" "named") rfl))
  have AM_Album_put : MthS P w K mg base "put" 10 3 (sp3 p_Album_put) := ok_Album_put Z A_look_heaps A_heap A_form E_BadName AK F_Album_put (He.meth_ok (c.fact 86 (f := .meth "Album" "put") rfl))
  have AO_Album_put : MthO P w K mg base "put" 10 2 (so2 o_Album_put) := oko_Album_put Z A_look_heaps A_heap A_form AO_Album_begin AM_Album_named E_BadName AK F_Album_put (He.meth_ok (c.fact 86 (f := .meth "Album" "put") rfl))
  have AM_Album_undo : MthS P w K mg base "undo" 1 1 (sp1 p_Album_undo) := ok_Album_undo Z AK E_NoThing F_Album_undo (He.meth_ok (c.fact 87 (f := .meth "Album" "undo") rfl))
  have AO_Album_undo : MthO P w K mg base "undo" 1 0 (so0 o_Album_undo) := oko_Album_undo Z AK E_NoThing F_Album_undo (He.meth_ok (c.fact 87 (f := .meth "Album" "undo") rfl))
  have A_law_town : FnS P w K mg base "_law_town" 1 1 (sp1 p_law_town) := ok_law_town Z F_law_town (He.glo_ok X Gn (c.fact 21 (f := .glo "_law_town") rfl))
  have A_law_draw : FnS P w K mg base "_law_draw" 1 2 (sp2 p_law_draw) := ok_law_draw Z F_law_draw (He.glo_ok X Gn (c.fact 22 (f := .glo "_law_draw") rfl))
  have A_law_pick : FnS P w K mg base "_law_pick" 2 2 (sp2 p_law_pick) := ok_law_pick Z A_law_draw F_law_pick (He.glo_ok X Gn (c.fact 23 (f := .glo "_law_pick") rfl))
  have A_law_gcd : FnS P w K mg base "_law_gcd" 1 2 (sp2 p_law_gcd) := ok_law_gcd Z F_law_gcd (He.glo_ok X Gn (c.fact 24 (f := .glo "_law_gcd") rfl))
  have A_law_low : FnS P w K mg base "_law_low" 2 3 (sp3 p_law_low) := ok_law_low Z A_law_gcd F_law_low (He.glo_ok X Gn (c.fact 25 (f := .glo "_law_low") rfl))
  have A_law_turn : FnS P w K mg base "_law_turn" 3 1 (sp1 p_law_turn) := ok_law_turn Z A_law_pick A_law_low F_law_turn (He.glo_ok X Gn (c.fact 26 (f := .glo "_law_turn") rfl))
  have A_law_point : FnS P w K mg base "_law_point" 3 2 (sp2 p_law_point) := ok_law_point Z A_law_low A_law_draw A_law_pick F_law_point (He.glo_ok X Gn (c.fact 27 (f := .glo "_law_point") rfl))
  have A_law_motion : FnS P w K mg base "_law_motion" 4 1 (sp1 p_law_motion) := ok_law_motion Z A_law_turn A_law_point A_law_draw F_law_motion (He.glo_ok X Gn (c.fact 28 (f := .glo "_law_motion") rfl))
  have AM_Album_names : MthS P w K mg base "names" 1 1 (sp1 p_Album_names) := ok_Album_names Z AK F_Album_names (He.meth_ok (c.fact 88 (f := .meth "Album" "names") rfl))
  have AM_Album_groups : MthS P w K mg base "groups" 2 1 (sp1 p_Album_groups) := ok_Album_groups Z AM_Album_named AK F_Album_groups (He.meth_ok (c.fact 89 (f := .meth "Album" "groups") rfl))
  have AM_Album_find : MthS P w K mg base "find" 10 2 (sp2 p_Album_find) := ok_Album_find Z A_look_heaps A_form AM_Album_named AK F_Album_find (He.meth_ok (c.fact 90 (f := .meth "Album" "find") rfl))
  have AM_Album___len__ : MthS P w K mg base "__len__" 1 1 (sp1 p_Album___len__) := ok_Album___len__ Z AK F_Album___len__ (He.meth_ok (c.fact 91 (f := .meth "Album" "__len__") rfl))
  have AM_Album_look_there : MthS P w K mg base "look_there" 1 2 (sp2 p_Album_look_there) := ok_Album_look_there Z AK E_BadName F_Album_look_there (He.meth_ok (c.fact 92 (f := .meth "Album" "look_there") rfl))
  have AM_Album_shown : MthS P w K mg base "shown" 2 2 (sp2 p_Album_shown) := ok_Album_shown Z AM_Album_look_there AK F_Album_shown (He.meth_ok (c.fact 93 (f := .meth "Album" "shown") rfl))
  have AM_Album_find_shape : MthS P w K mg base "find_shape" 9 2 (sp2 p_Album_find_shape) := ok_Album_find_shape Z A_look_heaps A_shape AK F_Album_find_shape (He.meth_ok (c.fact 94 (f := .meth "Album" "find_shape") rfl))
  have AM_Album_drop : MthS P w K mg base "drop" 2 2 (sp2 p_Album_drop) := ok_Album_drop Z AM_Album_look_there AK F_Album_drop (He.meth_ok (c.fact 95 (f := .meth "Album" "drop") rfl))
  have A_is_whole : FnS P w K mg base "is_whole" 2 3 (sp3 p_is_whole) := ok_is_whole Z A_is_number F_is_whole (He.glo_ok X Gn (c.fact 29 (f := .glo "is_whole") rfl))
  have A_is_motion : FnS P w K mg base "is_motion" 4 1 (sp1 p_is_motion) := ok_is_motion Z A_is_whole A_is_point A_size F_is_motion (He.glo_ok X Gn (c.fact 30 (f := .glo "is_motion") rfl))
  have A_look_motion : FnS P w K mg base "look_motion" 5 1 (sp1 p_look_motion) := ok_look_motion Z A_is_motion E_BadMotion F_look_motion (He.glo_ok X Gn (c.fact 31 (f := .glo "look_motion") rfl))
  have A_plus : FnS P w K mg base "plus" 3 2 (sp2 p_plus) := ok_plus Z A_lowest F_plus (He.glo_ok X Gn (c.fact 32 (f := .glo "plus") rfl))
  have A_times : FnS P w K mg base "times" 3 2 (sp2 p_times) := ok_times Z A_lowest F_times (He.glo_ok X Gn (c.fact 33 (f := .glo "times") rfl))
  have A_led_by : FnS P w K mg base "led_by" 4 2 (sp2 p_led_by) := ok_led_by Z A_plus A_times A_flipped F_led_by (He.glo_ok X Gn (c.fact 34 (f := .glo "led_by") rfl))
  have AM_Album_move : MthS P w K mg base "move" 6 3 (sp3 p_Album_move) := ok_Album_move Z A_look_motion A_in_order A_led_by AM_Album_look_there AK F_Album_move (He.meth_ok (c.fact 96 (f := .meth "Album" "move") rfl))
  have A_both_leading : FnS P w K mg base "both_leading" 4 4 (sp4 p_both_leading) := ok_both_leading Z A_by A_minus A_flipped A_times F_both_leading (He.glo_ok X Gn (c.fact 35 (f := .glo "both_leading") rfl))
  have A_all_laying : FnS P w K mg base "all_laying" 5 2 (sp2 p_all_laying) := ok_all_laying Z A_in_order A_both_leading A_gap A_led_by F_all_laying (He.glo_ok X Gn (c.fact 36 (f := .glo "all_laying") rfl))
  have AM_Album_way : MthS P w K mg base "way" 6 3 (sp3 p_Album_way) := ok_Album_way Z A_all_laying AM_Album_look_there AK E_NoThing F_Album_way (He.meth_ok (c.fact 97 (f := .meth "Album" "way") rfl))
  have A_law_does : FnS P w K mg base "_law_does" 11 4 (sp4 p_law_does) := ok_law_does Z AM_Album_put AM_Album_drop AM_Album_shown AM_Album_move AM_Album_way AM_Album_find AM_Album_find_shape AM_Album_undo F_law_does (He.glo_ok X Gn (c.fact 37 (f := .glo "_law_does") rfl))
  have A_law_refusal : FnS P w K mg base "_law_refusal" 1 1 (sp1 p_law_refusal) := ok_law_refusal Z EI E_BadMotion E_BadPoint E_BadNumber E_BadName E_BadPairs E_BadHeap E_NoThing E_BadText v_ValueError F_law_refusal (He.glo_ok X Gn (c.fact 38 (f := .glo "_law_refusal") rfl))
  have A_law_asked : FnS P w K mg base "_law_asked" 12 4 (sp4 p_law_asked) := ok_law_asked Z A_law_does A_law_refusal EI F_law_asked (He.glo_ok X Gn (c.fact 39 (f := .glo "_law_asked") rfl))
  exact fin_law (ok_law Z A_law_town A_law_motion A_law_asked A_law_draw AM_Album_find AM_Album_groups AM_Album_names AO_Album_put AM_Album_shown AM_Album___len__ AM_Album_find_shape AO_Album_undo AI_Album___init__ F hfa) rfl ⟨_, rfl, law_true⟩
end G.W
open PySem PySem.W PySem.Calls PyProof.Rows in
theorem PySem.Challenge.cw_laidover_k21_albums_refused_holds : PySem.Challenge.rw_laidover_k21_albums_refused.Holds := by
  w_on; o_law
  refine HandSHeadRun.head_any (r := OpenLaw.row PySem.Challenge.rw_laidover_k21_albums_refused) (q := view (OpenLaw.row PySem.Challenge.rw_laidover_k21_albums_refused).prog [60]) (H := G.W.hk) (ob := G.W.ob) (M := 8000) (loose := G.W.loose) (d := HandSHeadRun.topDef (OpenLaw.row PySem.Challenge.rw_laidover_k21_albums_refused).prog 60) (kwd := []) G.W.ob_eq
    (by kernel_rfl) (fun s => by kernel_rfl) G.W.run (by kernel_rfl) (by kernel_rfl) (by kernel_rfl) (by rfl) (by first | assumption | decide +kernel) (by decide +kernel) ⟨rfl, rfl, rfl, rfl, rfl, by decide +kernel⟩ ?hw ?hc
  case hw => w_witness2
  case hc =>
    refine L2.walk_ofE (l := PySem.Challenge.rw_laidover_k21_albums_refused) (n := 63) (k := 13) (x := "_law_script") (CX := L2.CX0) rfl (by decide) (by kernel_rfl) ⟨rfl, by decide, by decide⟩ ?F (fun _ _ _ _ z => z)
    intro w mg fa h Y G' hmg0
    obtain ⟨K, KX, c⟩ := Y
    have hmg : mg ("law" : PySem.Str) = some (.ref fa) := by
      have e : (HandSHeadRun.topDef (OpenLaw.row PySem.Challenge.rw_laidover_k21_albums_refused).prog 60).name = ("law" : PySem.Str) := by kernel_rfl
      rw [← e]
      exact hmg0
    obtain ⟨fd, hb, hF⟩ := G.W.facts (P := (PySem.Challenge.rw_laidover_k21_albums_refused).prog) (w := w) KX G' hmg c
    exact ⟨K, fd, G.spEnd K, KX, hb, fun H a ns hl _ hS => ⟨a, ns, rfl, hS, hl, fun _ => rfl⟩, hF⟩
