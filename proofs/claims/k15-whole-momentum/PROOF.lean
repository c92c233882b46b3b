import PyProof.Rows.All
import Wide.All
import OpenK.AllK
import Wide.FinOn
import HandS.ForMost
import HandS.IsInst
import HandS.Gcd
import HandS.Deep
import HandS.Walk
import KE.GoesMore
import PyProof.EnumMake
import PyProof.Draws
import HandS.Evl
import PySem.Challenge.RW_alikeplay_k15_whole_momentum
set_option Elab.async false
set_option maxRecDepth 100000
set_option maxHeartbeats 4000000
/-! The plain law: bodies, boxes, contacts, and what one unit of moving keeps. No program here. -/
namespace Km
open PySem L2

/-! ### boxes, bodies -/
structure Bx where
  x0 : Int
  y0 : Int
  x1 : Int
  y1 : Int
def bxV (b : Bx) : List V := [.int b.x0, .int b.y0, .int b.x1, .int b.y1]
def ovl (a b : Bx) : Bool := decide (a.x0 < b.x1 ∧ b.x0 < a.x1 ∧ a.y0 < b.y1 ∧ b.y0 < a.y1)
theorem ovl_sym (a b : Bx) : ovl a b = ovl b a := by
  rw [Bool.eq_iff_iff]
  simp only [ovl, decide_eq_true_eq]
  omega
def crd (v : Int) : Bool := decide (-20000 ≤ v ∧ v ≤ 20000)
theorem crd_iff {v : Int} : crd v = true ↔ -20000 ≤ v ∧ v ≤ 20000 := by simp only [crd, decide_eq_true_eq]
def inW (b : Bx) : Bool := crd b.x0 && (crd b.y0 && (crd b.x1 && crd b.y1))

structure Bd where
  nm : Str
  x : Int
  y : Int
  w : Int
  h : Int
  m : Int
  px : Int
  py : Int
  cx : Int
  cy : Int
def bdV (b : Bd) : List V := [.str b.nm, .int b.x, .int b.y, .int b.w, .int b.h, .int b.m, .int b.px, .int b.py, .int b.cx, .int b.cy]
def box (b : Bd) : Bx := ⟨b.x, b.y, b.x + b.w, b.y + b.h⟩
def ax : Bool → Int
  | false => 0
  | true => 1
def pos : Bool → Bd → Int
  | false, b => b.x
  | true, b => b.y
def mom : Bool → Bd → Int
  | false, b => b.px
  | true, b => b.py
def car : Bool → Bd → Int
  | false, b => b.cx
  | true, b => b.cy
def setPos : Bool → Int → Bd → Bd
  | false, v, b => { b with x := v }
  | true, v, b => { b with y := v }
def setMom : Bool → Int → Bd → Bd
  | false, v, b => { b with px := v }
  | true, v, b => { b with py := v }
def setCar : Bool → Int → Bd → Bd
  | false, v, b => { b with cx := v }
  | true, v, b => { b with cy := v }
/-- a box moved by s along the axis a -/
def mvB : Bool → Int → Bx → Bx
  | false, s, b => ⟨b.x0 + s, b.y0, b.x1 + s, b.y1⟩
  | true, s, b => ⟨b.x0, b.y0 + s, b.x1, b.y1 + s⟩

/-! ### names -/
def nlt (a b : Str) : Prop := a.cps.toList < b.cps.toList
theorem nlt_irrefl (a : Str) : ¬ nlt a a := List.lt_irrefl _
def lettersL : List Nat := ("abcdefghijklmnopqrstuvwxyz" : Str).cps.toList
def digitsL : List Nat := ("0123456789" : Str).cps.toList
structure OkN (z : Str) : Prop where
  l1 : 1 ≤ z.length
  l2 : z.length ≤ 12
  hd : ∃ c, z.cps.toList[0]? = some c ∧ c ∈ lettersL
  al : ∀ c ∈ z.cps.toList, c ∈ lettersL ∨ c ∈ digitsL
def okNB (z : Str) : Bool := decide (1 ≤ z.length) && (decide (z.length ≤ 12) && ((match z.cps.toList[0]? with | some c => decide (c ∈ lettersL) | none => false) && z.cps.toList.all fun c => decide (c ∈ lettersL) || decide (c ∈ digitsL)))
theorem OkN.of {z : Str} (h : okNB z = true) : OkN z := by
  unfold okNB at h
  simp only [Bool.and_eq_true, decide_eq_true_eq, List.all_eq_true, Bool.or_eq_true] at h
  obtain ⟨h1, h2, h3, h4⟩ := h
  refine ⟨h1, h2, ?_, h4⟩
  split at h3
  · rename_i c e
    exact ⟨c, e, of_decide_eq_true h3⟩
  · cases h3
theorem OkN.ne {z : Str} (h : OkN z) : z ≠ ("" : Str) := by
  intro e
  have h1 := h.l1
  rw [e] at h1
  exact absurd h1 (by decide +kernel)
def namesL : List Str := ["a", "ball", "c2", "d", "e", "f", "g", "h", "k", "m", "p", "z"]
theorem names_len : namesL.length = 12 := rfl
theorem names_ok : ∀ z ∈ namesL, OkN z := fun z hz => by
  have h : namesL.all okNB = true := by decide +kernel
  exact OkN.of (List.all_eq_true.mp h z hz)
def nltB (a b : Str) : Bool := decide (a.cps.toList < b.cps.toList)
def ordB : List Str → Bool
  | [] => true
  | z :: r => r.all (nltB z) && ordB r
theorem ordB_at : ∀ {l : List Str} (_ : ordB l = true) {i k : Nat} {a b : Str}, i < k → l[i]? = some a → l[k]? = some b → nlt a b
  | [], _, i, k, a, b, _, h, _ => by simp at h
  | z :: r, h, 0, k + 1, a, b, _, ha, hb => by
    have e : z = a := Option.some.inj ha
    subst e
    have hb' : r[k]? = some b := hb
    have h1 := (Bool.and_eq_true_iff.mp h).1
    have h2 := List.all_eq_true.mp h1 b (List.mem_of_getElem? hb')
    show z.cps.toList < b.cps.toList
    exact of_decide_eq_true h2
  | z :: r, h, i + 1, k + 1, a, b, hik, ha, hb =>
    ordB_at (l := r) (Bool.and_eq_true_iff.mp h).2 (i := i) (k := k) (by omega) ha hb
theorem names_ord {i k : Nat} {a b : Str} (h : i < k) (ha : namesL[i]? = some a) (hb : namesL[k]? = some b) : nlt a b :=
  ordB_at (show ordB namesL = true by decide +kernel) h ha hb

/-! ### a good body, a good space -/
structure GoodBd (b : Bd) : Prop where
  nm : OkN b.nm
  x : -20000 ≤ b.x
  y : -20000 ≤ b.y
  xw : b.x + b.w ≤ 20000
  yh : b.y + b.h ≤ 20000
  w1 : 1 ≤ b.w
  w2 : b.w ≤ 200
  h1 : 1 ≤ b.h
  h2 : b.h ≤ 200
  m0 : 0 ≤ b.m
  m1 : b.m ≤ 100
  fx : b.m = 0 → b.px = 0 ∧ b.py = 0 ∧ b.cx = 0 ∧ b.cy = 0
  fr : b.m ≠ 0 → 0 ≤ b.cx ∧ b.cx < b.m ∧ 0 ≤ b.cy ∧ b.cy < b.m
structure GoodSp (bs : List Bd) : Prop where
  len : bs.length ≤ 12
  all : ∀ (i : Nat) (b : Bd), bs[i]? = some b → GoodBd b
  ord : ∀ (i k : Nat) (b c : Bd), i < k → bs[i]? = some b → bs[k]? = some c → nlt b.nm c.nm
  sep : ∀ (i k : Nat) (b c : Bd), i ≠ k → bs[i]? = some b → bs[k]? = some c → ovl (box b) (box c) = false
theorem GoodSp.nil : GoodSp [] := ⟨by simp, fun i b h => by simp at h, fun i k b c _ h => by simp at h, fun i k b c _ h => by simp at h⟩
/-- two bodies of one name are one -/
theorem GoodSp.inj {bs : List Bd} (g : GoodSp bs) {i k : Nat} {b c : Bd} (hb : bs[i]? = some b) (hc : bs[k]? = some c) (e : b.nm = c.nm) : i = k := by
  rcases Nat.lt_trichotomy i k with h | h | h
  · have q := g.ord i k b c h hb hc
    rw [e] at q
    exact absurd q (nlt_irrefl _)
  · exact h
  · have q := g.ord k i c b h hc hb
    rw [e] at q
    exact absurd q (nlt_irrefl _)

/-! ### lists with one item changed -/
theorem set_get {α : Type} {l : List α} {i k : Nat} {x y : α} (h : (l.set i x)[k]? = some y) : (k = i ∧ y = x) ∨ (k ≠ i ∧ l[k]? = some y) := by
  by_cases e : k = i
  · subst e
    by_cases hl : k < l.length
    · rw [List.getElem?_set_self hl] at h
      exact .inl ⟨rfl, (Option.some.inj h).symm⟩
    · rw [List.getElem?_eq_none (by simpa using hl)] at h
      cases h
  · rw [List.getElem?_set_ne (fun q => e q.symm)] at h
    exact .inr ⟨e, h⟩
theorem lt_of_get {α : Type} {l : List α} {i : Nat} {x : α} (h : l[i]? = some x) : i < l.length := (List.getElem?_eq_some_iff.mp h).1
theorem set_self {α : Type} {l : List α} {i : Nat} {x y : α} (h : l[i]? = some x) : (l.set i y)[i]? = some y := List.getElem?_set_self (lt_of_get h)
theorem map_set_same {α β : Type} {f : α → β} {l : List α} {i : Nat} {x y : α} (h : l[i]? = some x) (e : f y = f x) : (l.set i y).map f = l.map f := by
  apply List.ext_getElem?
  intro k
  rw [List.getElem?_map, List.getElem?_map]
  by_cases hk : i = k
  · subst hk
    rw [set_self h, h]
    show some (f y) = some (f x)
    rw [e]
  · rw [List.getElem?_set_ne hk]
theorem map_get {α β : Type} {f : α → β} {l : List α} {i : Nat} {x : α} (h : l[i]? = some x) : (l.map f)[i]? = some (f x) := by
  rw [List.getElem?_map, h]
  rfl
theorem get_of_map {α β : Type} {f : α → β} {l : List α} {i : Nat} {y : β} (h : (l.map f)[i]? = some y) : ∃ x, l[i]? = some x ∧ f x = y := by
  rw [List.getElem?_map] at h
  cases e : l[i]? with
  | none => rw [e] at h; cases h
  | some x => rw [e] at h; exact ⟨x, rfl, Option.some.inj h⟩
theorem map_sum_set {α : Type} {f : α → Int} {l : List α} {i : Nat} {x y : α} (h : l[i]? = some x) : ((l.set i y).map f).sum = (l.map f).sum - f x + f y := by
  rw [List.map_set]
  exact sum_set (map_get h)

/-! ### what never changes: names, sizes, masses -/
def stat (b : Bd) : Str × Int × Int × Int := (b.nm, b.w, b.h, b.m)
theorem stat_setPos (a : Bool) (v : Int) (b : Bd) : stat (setPos a v b) = stat b := by cases a <;> rfl
theorem stat_setMom (a : Bool) (v : Int) (b : Bd) : stat (setMom a v b) = stat b := by cases a <;> rfl
theorem stat_setCar (a : Bool) (v : Int) (b : Bd) : stat (setCar a v b) = stat b := by cases a <;> rfl
def namesOf (bs : List Bd) : List Str := bs.map Bd.nm
theorem names_of_stat {bs bs' : List Bd} (e : bs'.map stat = bs.map stat) : namesOf bs' = namesOf bs := by
  have h : ∀ l : List Bd, namesOf l = (l.map stat).map (·.1) := fun l => by
    rw [List.map_map]
    rfl
  rw [h, h, e]
theorem mass_of_stat {bs bs' : List Bd} (e : bs'.map stat = bs.map stat) {i : Nat} {b b' : Bd} (h : bs[i]? = some b) (h' : bs'[i]? = some b') : b'.m = b.m ∧ b'.nm = b.nm := by
  have q := map_get (f := stat) h'
  rw [e, map_get (f := stat) h] at q
  have q' := Option.some.inj q
  simp only [stat, Prod.mk.injEq] at q'
  exact ⟨q'.2.2.2.symm, q'.1.symm⟩
/-- the names a contact is counted by: the fixed bodies and the edge -/
def fixedOf (bs : List Bd) : List Str := (bs.filter fun b => decide (b.m = 0)).map Bd.nm ++ [("" : Str)]
theorem fixed_filter (bs : List Bd) : (bs.filter fun b => decide (b.m = 0)).map Bd.nm = ((bs.map stat).filter fun s => decide (s.2.2.2 = 0)).map (·.1) := by
  induction bs with
  | nil => rfl
  | cons b r ih =>
    rw [List.map_cons, List.filter_cons, List.filter_cons]
    by_cases h : b.m = 0
    · rw [if_pos (decide_eq_true h), if_pos (show decide ((stat b).2.2.2 = 0) = true from decide_eq_true h), List.map_cons, List.map_cons, ih]
      rfl
    · rw [if_neg (show ¬ decide (b.m = 0) = true from fun q => h (of_decide_eq_true q)), if_neg (show ¬ decide ((stat b).2.2.2 = 0) = true from fun q => h (of_decide_eq_true q)), ih]
theorem fixed_of_stat {bs bs' : List Bd} (e : bs'.map stat = bs.map stat) : fixedOf bs' = fixedOf bs := by
  unfold fixedOf
  rw [fixed_filter, fixed_filter, e]
theorem mem_fixed {bs : List Bd} {z : Str} : z ∈ fixedOf bs ↔ z = ("" : Str) ∨ ∃ (i : Nat) (b : Bd), bs[i]? = some b ∧ b.m = 0 ∧ b.nm = z := by
  unfold fixedOf
  rw [List.mem_append, List.mem_singleton, List.mem_map]
  constructor
  · rintro (⟨b, hb, rfl⟩ | h)
    · rw [List.mem_filter] at hb
      obtain ⟨i, hi⟩ := List.mem_iff_getElem?.mp hb.1
      exact .inr ⟨i, b, hi, of_decide_eq_true hb.2, rfl⟩
    · exact .inl h
  · rintro (h | ⟨i, b, hi, hm, rfl⟩)
    · exact .inr h
    · exact .inl ⟨b, List.mem_filter.mpr ⟨List.mem_of_getElem? hi, decide_eq_true hm⟩, rfl⟩

/-! ### contacts -/
structure Ct where
  ax : Bool
  sg : Int
  nm : Str
  ot : Str
  j : Int
def axS : Bool → Str
  | false => "x"
  | true => "y"
def ctV (c : Ct) : List V := [.str (axS c.ax), .int c.sg, .str c.nm, .str c.ot, .int c.j]
def momSum (a : Bool) (bs : List Bd) : Int := (bs.map (mom a)).sum
/-- what the contacts with the edge and with fixed bodies have taken, on an axis -/
def gvn (fx : List Str) (a : Bool) (cs : List Ct) : Int := (cs.map fun c => if c.ax = a ∧ c.ot ∈ fx then c.sg * c.j else 0).sum
theorem gvn_nil (fx : List Str) (a : Bool) : gvn fx a [] = 0 := rfl
theorem gvn_append (fx : List Str) (a : Bool) (cs ds : List Ct) : gvn fx a (cs ++ ds) = gvn fx a cs + gvn fx a ds := by
  unfold gvn
  rw [List.map_append, List.sum_append]
theorem gvn_one (fx : List Str) (a : Bool) (c : Ct) : gvn fx a [c] = if c.ax = a ∧ c.ot ∈ fx then c.sg * c.j else 0 := by
  unfold gvn
  rw [List.map_singleton, List.sum_singleton]
theorem gvn_other {fx : List Str} {a : Bool} {cs : List Ct} (h : ∀ c ∈ cs, c.ax ≠ a) : gvn fx a cs = 0 := by
  induction cs with
  | nil => rfl
  | cons c r ih =>
    have e : gvn fx a (c :: r) = gvn fx a [c] + gvn fx a r := gvn_append fx a [c] r
    rw [e, gvn_one, if_neg (fun q => h c (List.mem_cons_self ..) q.1), ih fun d hd => h d (List.mem_cons_of_mem _ hd)]
    rfl
/-- a contact's form -/
structure OkC (a : Bool) (ns : List Str) (c : Ct) : Prop where
  ax : c.ax = a
  sg : c.sg = 1 ∨ c.sg = -1
  nm : c.nm ∈ ns
  ot : c.ot = ("" : Str) ∨ c.ot ∈ ns
  ne : c.nm ≠ c.ot
  j : 0 ≤ c.j

/-! ### the carries change, nothing else -/
def core (b : Bd) : Str × Int × Int × Int × Int × Int × Int × Int := (b.nm, b.x, b.y, b.w, b.h, b.m, b.px, b.py)
theorem core_setCar (a : Bool) (v : Int) (b : Bd) : core (setCar a v b) = core b := by cases a <;> rfl
structure Carried (bs bs' : List Bd) : Prop where
  core : bs'.map core = bs.map core
  all : ∀ (i : Nat) (b : Bd), bs'[i]? = some b → GoodBd b
theorem Carried.refl {bs : List Bd} (g : GoodSp bs) : Carried bs bs := ⟨rfl, g.all⟩
theorem Carried.len {bs bs' : List Bd} (c : Carried bs bs') : bs'.length = bs.length := by
  have h := congrArg List.length c.core
  rw [List.length_map, List.length_map] at h
  exact h
theorem core_at {bs bs' : List Bd} (e : bs'.map core = bs.map core) {i : Nat} {b' : Bd} (h : bs'[i]? = some b') : ∃ b, bs[i]? = some b ∧ core b' = core b := by
  have q := map_get (f := core) h
  rw [e] at q
  obtain ⟨b, hb, hc⟩ := get_of_map q
  exact ⟨b, hb, hc.symm⟩
theorem core_parts {b b' : Bd} (e : core b' = core b) : b'.nm = b.nm ∧ box b' = box b ∧ b'.px = b.px ∧ b'.py = b.py ∧ stat b' = stat b := by
  simp only [core, Prod.mk.injEq] at e
  obtain ⟨h1, h2, h3, h4, h5, h6, h7, h8⟩ := e
  simp only [box, stat, h1, h2, h3, h4, h5, h6, h7, h8, and_self]
theorem Carried.good {bs bs' : List Bd} (c : Carried bs bs') (g : GoodSp bs) : GoodSp bs' := by
  refine ⟨by rw [c.len]; exact g.len, c.all, fun i k b d hik hb hd => ?_, fun i k b d hik hb hd => ?_⟩
  · obtain ⟨b0, hb0, e0⟩ := core_at c.core hb
    obtain ⟨d0, hd0, e1⟩ := core_at c.core hd
    rw [(core_parts e0).1, (core_parts e1).1]
    exact g.ord i k b0 d0 hik hb0 hd0
  · obtain ⟨b0, hb0, e0⟩ := core_at c.core hb
    obtain ⟨d0, hd0, e1⟩ := core_at c.core hd
    rw [(core_parts e0).2.1, (core_parts e1).2.1]
    exact g.sep i k b0 d0 hik hb0 hd0
theorem Carried.stat {bs bs' : List Bd} (c : Carried bs bs') : bs'.map stat = bs.map stat := by
  have h : ∀ l : List Bd, l.map Km.stat = (l.map Km.core).map fun p => (p.1, p.2.2.2.1, p.2.2.2.2.1, p.2.2.2.2.2.1) := fun l => by
    rw [List.map_map]
    rfl
  rw [h, h, c.core]
theorem Carried.mom {bs bs' : List Bd} (c : Carried bs bs') (a : Bool) : momSum a bs' = momSum a bs := by
  have h : ∀ l : List Bd, l.map (Km.mom a) = (l.map Km.core).map fun p => match a with | false => p.2.2.2.2.2.2.1 | true => p.2.2.2.2.2.2.2 := fun l => by
    rw [List.map_map]
    cases a <;> rfl
  unfold momSum
  rw [h, h, c.core]
theorem Carried.trans {as bs cs : List Bd} (c : Carried as bs) (d : Carried bs cs) : Carried as cs := ⟨d.core.trans c.core, d.all⟩
theorem Carried.put {bs bs' : List Bd} (c : Carried bs bs') {a : Bool} {i : Nat} {b : Bd} {v : Int} (hb : bs'[i]? = some b) (hm : b.m ≠ 0) (h0 : 0 ≤ v) (h1 : v < b.m) : Carried bs (bs'.set i (setCar a v b)) := by
  refine ⟨(map_set_same hb (core_setCar a v b)).trans c.core, fun k d hd => ?_⟩
  rcases set_get hd with ⟨rfl, rfl⟩ | ⟨_, hd⟩
  · have g := c.all _ b hb
    have f := g.fr hm
    cases a
    · exact ⟨g.nm, g.x, g.y, g.xw, g.yh, g.w1, g.w2, g.h1, g.h2, g.m0, g.m1, fun e => absurd e hm, fun _ => ⟨h0, h1, f.2.2⟩⟩
    · exact ⟨g.nm, g.x, g.y, g.xw, g.yh, g.w1, g.w2, g.h1, g.h2, g.m0, g.m1, fun e => absurd e hm, fun _ => ⟨f.1, f.2.1, h0, h1⟩⟩
  · exact c.all k d hd

/-! ### moving on one axis -/
def meas (left : List Int) : Nat := (left.map Int.natAbs).sum
theorem nat_sum_set : ∀ {l : List Nat} {i : Nat} {x y : Nat}, l[i]? = some x → (l.set i y).sum + x = l.sum + y
  | [], i, x, y, h => by simp at h
  | a :: r, 0, x, y, h => by
    have e : a = x := Option.some.inj h
    subst e
    show (y :: r).sum + a = (a :: r).sum + y
    rw [List.sum_cons, List.sum_cons]
    omega
  | a :: r, i + 1, x, y, h => by
    have ih := nat_sum_set (l := r) (i := i) (x := x) (y := y) h
    show (a :: r.set i y).sum + x = (a :: r).sum + y
    rw [List.sum_cons, List.sum_cons]
    omega
theorem meas_set {left : List Int} {i : Nat} {z y : Int} (h : left[i]? = some z) (hl : y.natAbs < z.natAbs) : meas (left.set i y) < meas left := by
  have e := nat_sum_set (y := y.natAbs) (map_get (f := Int.natAbs) h)
  unfold meas
  rw [List.map_set]
  omega
/-- bs, left, cs: the state; bs0, cs0: where the moving on the axis a began -/
structure GoInv (a : Bool) (bs0 : List Bd) (cs0 : List Ct) (bs : List Bd) (left : List Int) (cs : List Ct) : Prop where
  good : GoodSp bs
  stat : bs.map stat = bs0.map stat
  len : left.length = bs.length
  free : ∀ (i : Nat) (b : Bd) (z : Int), bs[i]? = some b → left[i]? = some z → z ≠ 0 → b.m ≠ 0
  osum : momSum (!a) bs = momSum (!a) bs0
  new : ∃ new, cs = cs0 ++ new ∧ (∀ c ∈ new, OkC a (namesOf bs0) c) ∧ (new.map Ct.nm).Nodup ∧
    (∀ (i : Nat) (b : Bd) (z : Int), bs[i]? = some b → left[i]? = some z → z ≠ 0 → b.nm ∉ new.map Ct.nm) ∧
    momSum a bs + gvn (fixedOf bs0) a new = momSum a bs0
theorem GoInv.start {a : Bool} {bs : List Bd} {cs : List Ct} {left : List Int} (g : GoodSp bs) (hl : left.length = bs.length)
    (hf : ∀ (i : Nat) (b : Bd) (z : Int), bs[i]? = some b → left[i]? = some z → z ≠ 0 → b.m ≠ 0) : GoInv a bs cs bs left cs :=
  ⟨g, rfl, hl, hf, rfl, [], (List.append_nil _).symm, fun _ h => by simp at h, by simp, fun _ _ _ _ _ _ => by simp, by rw [gvn_nil]; omega⟩
theorem pos_parts (a : Bool) (s : Int) (b : Bd) : (setPos a (pos a b + s) b).nm = b.nm ∧ (setPos a (pos a b + s) b).m = b.m ∧ box (setPos a (pos a b + s) b) = mvB a s (box b) ∧ mom a (setPos a (pos a b + s) b) = mom a b ∧ mom (!a) (setPos a (pos a b + s) b) = mom (!a) b := by
  cases a
  · refine ⟨rfl, rfl, ?_, rfl, rfl⟩
    simp only [box, mvB, setPos, pos, Bx.mk.injEq, true_and, and_true]
    omega
  · refine ⟨rfl, rfl, ?_, rfl, rfl⟩
    simp only [box, mvB, setPos, pos, Bx.mk.injEq, true_and]
    omega
theorem mom_parts (a : Bool) (v : Int) (b : Bd) : (setMom a v b).nm = b.nm ∧ (setMom a v b).m = b.m ∧ box (setMom a v b) = box b ∧ mom a (setMom a v b) = v ∧ mom (!a) (setMom a v b) = mom (!a) b := by
  cases a <;> exact ⟨rfl, rfl, rfl, rfl, rfl⟩
theorem GoodBd.pos {b : Bd} (g : GoodBd b) {a : Bool} {s : Int} (h : inW (mvB a s (box b)) = true) : GoodBd (setPos a (pos a b + s) b) := by
  simp only [inW, Bool.and_eq_true, crd_iff] at h
  obtain ⟨h1, h2, h3, h4⟩ := h
  cases a
  · simp only [mvB, box] at h1 h2 h3 h4
    exact ⟨g.nm, h1.1, g.y, show b.x + s + b.w ≤ 20000 by omega, g.yh, g.w1, g.w2, g.h1, g.h2, g.m0, g.m1, g.fx, g.fr⟩
  · simp only [mvB, box] at h1 h2 h3 h4
    exact ⟨g.nm, g.x, h2.1, g.xw, show b.y + s + b.h ≤ 20000 by omega, g.w1, g.w2, g.h1, g.h2, g.m0, g.m1, g.fx, g.fr⟩
theorem GoodBd.mom {b : Bd} (g : GoodBd b) (hm : b.m ≠ 0) (a : Bool) (v : Int) : GoodBd (setMom a v b) := by
  cases a
  · exact ⟨g.nm, g.x, g.y, g.xw, g.yh, g.w1, g.w2, g.h1, g.h2, g.m0, g.m1, fun e => absurd e hm, g.fr⟩
  · exact ⟨g.nm, g.x, g.y, g.xw, g.yh, g.w1, g.w2, g.h1, g.h2, g.m0, g.m1, fun e => absurd e hm, g.fr⟩
/-- one body replaced by one of the same name, where the new box is clear -/
theorem GoodSp.put {bs : List Bd} (g : GoodSp bs) {i : Nat} {b b' : Bd} (hb : bs[i]? = some b) (hn : b'.nm = b.nm) (hg : GoodBd b') (hc : ∀ (k : Nat) (c : Bd), k ≠ i → bs[k]? = some c → ovl (box b') (box c) = false) : GoodSp (bs.set i b') := by
  refine ⟨by rw [List.length_set]; exact g.len, fun k d hd => ?_, fun k l d e hkl hd he => ?_, fun k l d e hkl hd he => ?_⟩
  · rcases set_get hd with ⟨_, q⟩ | ⟨_, hd'⟩
    · rw [q]; exact hg
    · exact g.all k d hd'
  · rcases set_get hd with ⟨e1, q1⟩ | ⟨_, hd'⟩
    · rcases set_get he with ⟨e2, q2⟩ | ⟨_, he'⟩
      · omega
      · rw [q1, hn]
        exact g.ord k l b e hkl (by rw [e1]; exact hb) he'
    · rcases set_get he with ⟨e2, q2⟩ | ⟨_, he'⟩
      · rw [q2, hn]
        exact g.ord k l d b hkl hd' (by rw [e2]; exact hb)
      · exact g.ord k l d e hkl hd' he'
  · rcases set_get hd with ⟨e1, q1⟩ | ⟨n1, hd'⟩
    · rcases set_get he with ⟨e2, q2⟩ | ⟨n2, he'⟩
      · omega
      · rw [q1]
        exact hc l e n2 he'
    · rcases set_get he with ⟨e2, q2⟩ | ⟨n2, he'⟩
      · rw [q2, ovl_sym]
        exact hc k d n1 hd'
      · exact g.sep k l d e hkl hd' he'
theorem GoInv.move {a : Bool} {bs0 bs : List Bd} {cs0 cs : List Ct} {left : List Int} (I : GoInv a bs0 cs0 bs left cs) {i : Nat} {b : Bd} {z s : Int} (hb : bs[i]? = some b) (hz : left[i]? = some z) (h0 : z ≠ 0)
    (hw : inW (mvB a s (box b)) = true) (hc : ∀ (k : Nat) (c : Bd), k ≠ i → bs[k]? = some c → ovl (mvB a s (box b)) (box c) = false) : GoInv a bs0 cs0 (bs.set i (setPos a (pos a b + s) b)) (left.set i (z - s)) cs := by
  obtain ⟨p1, p2, p3, p4, p5⟩ := pos_parts a s b
  obtain ⟨new, e, ok, nd, ns, sm⟩ := I.new
  have gb := I.good.all i b hb
  refine ⟨I.good.put hb p1 (gb.pos hw) (by rw [p3]; exact hc), (map_set_same hb (stat_setPos _ _ _)).trans I.stat, by rw [List.length_set, List.length_set]; exact I.len, fun k d y hd hy hy0 => ?_, ?_, new, e, ok, nd, fun k d y hd hy hy0 => ?_, ?_⟩
  · rcases set_get hd with ⟨rfl, rfl⟩ | ⟨n1, hd⟩
    · rw [p2]
      exact I.free _ b z hb hz h0
    · rcases set_get hy with ⟨e2, _⟩ | ⟨_, hy⟩
      · exact absurd e2 n1
      · exact I.free k d y hd hy hy0
  · unfold momSum
    rw [map_sum_set hb, p5]
    have := I.osum
    unfold momSum at this
    omega
  · rcases set_get hd with ⟨rfl, rfl⟩ | ⟨n1, hd⟩
    · rw [p1]
      exact ns _ b z hb hz h0
    · rcases set_get hy with ⟨e2, _⟩ | ⟨_, hy⟩
      · exact absurd e2 n1
      · exact ns k d y hd hy hy0
  · unfold momSum
    rw [map_sum_set hb, p4]
    unfold momSum at sm
    omega
theorem nd_snoc {α : Type} {l : List α} {x : α} (h : l.Nodup) (hx : x ∉ l) : (l ++ [x]).Nodup := by
  rw [List.nodup_append]
  refine ⟨h, by simp, fun a ha b hb => ?_⟩
  rw [List.mem_singleton] at hb
  subst hb
  exact fun e => hx (e ▸ ha)
/-- a contact with the edge or a fixed body -/
theorem GoInv.stop {a : Bool} {bs0 bs : List Bd} {cs0 cs : List Ct} {left : List Int} (I : GoInv a bs0 cs0 bs left cs) {i : Nat} {b : Bd} {z s j : Int} {ot : Str} (hb : bs[i]? = some b) (hz : left[i]? = some z) (h0 : z ≠ 0)
    (hs : s = 1 ∨ s = -1) (hj : 0 ≤ j) (hot : ot = ("" : Str) ∨ ∃ (k : Nat) (c : Bd), k ≠ i ∧ bs[k]? = some c ∧ c.m = 0 ∧ ot = c.nm) : GoInv a bs0 cs0 (bs.set i (setMom a (mom a b - s * j) b)) (left.set i 0) (cs ++ [⟨a, s, b.nm, ot, j⟩]) := by
  obtain ⟨p1, p2, p3, p4, p5⟩ := mom_parts a (mom a b - s * j) b
  obtain ⟨new, e, ok, nd, ns, sm⟩ := I.new
  have gb := I.good.all i b hb
  have hm := I.free i b z hb hz h0
  have en : namesOf bs = namesOf bs0 := names_of_stat I.stat
  have hfx : ot ∈ fixedOf bs0 := by
    rw [← fixed_of_stat I.stat, mem_fixed]
    rcases hot with h | ⟨k, c, _, hc, hc0, h⟩
    · exact .inl h
    · exact .inr ⟨k, c, hc, hc0, h.symm⟩
  have hne : b.nm ≠ ot := by
    rcases hot with h | ⟨k, c, hk, hc, hc0, h⟩
    · rw [h]; exact gb.nm.ne
    · rw [h]; exact fun q => hk (I.good.inj hb hc q).symm
  have hon : ot = ("" : Str) ∨ ot ∈ namesOf bs0 := by
    rcases hot with h | ⟨k, c, hk, hc, hc0, h⟩
    · exact .inl h
    · exact .inr (by rw [h, ← en]; exact List.mem_of_getElem? (map_get hc))
  have hbn : b.nm ∈ namesOf bs0 := by rw [← en]; exact List.mem_of_getElem? (map_get hb)
  refine ⟨I.good.put hb p1 (gb.mom hm a _) (fun k c hk hc => by rw [p3]; exact I.good.sep i k b c hk.symm hb hc), (map_set_same hb (stat_setMom _ _ _)).trans I.stat, by rw [List.length_set, List.length_set]; exact I.len, fun k d y hd hy hy0 => ?_, ?_,
    new ++ [⟨a, s, b.nm, ot, j⟩], by rw [e, List.append_assoc], fun c hc => ?_, ?_, fun k d y hd hy hy0 => ?_, ?_⟩
  · rcases set_get hy with ⟨_, rfl⟩ | ⟨n1, hy⟩
    · exact absurd rfl hy0
    · rcases set_get hd with ⟨e2, _⟩ | ⟨_, hd⟩
      · exact absurd e2 n1
      · exact I.free k d y hd hy hy0
  · unfold momSum
    rw [map_sum_set hb, p5]
    have := I.osum
    unfold momSum at this
    omega
  · rcases List.mem_append.mp hc with h | h
    · exact ok c h
    · rw [List.mem_singleton.mp h]
      exact ⟨rfl, hs, hbn, hon, hne, hj⟩
  · rw [List.map_append]
    exact nd_snoc nd (ns i b z hb hz h0)
  · rcases set_get hy with ⟨_, rfl⟩ | ⟨n1, hy⟩
    · exact absurd rfl hy0
    · rcases set_get hd with ⟨e2, _⟩ | ⟨_, hd⟩
      · exact absurd e2 n1
      · rw [List.map_append, List.mem_append]
        rintro (h | h)
        · exact ns k d y hd hy hy0 h
        · exact n1 (I.good.inj hd hb (List.mem_singleton.mp h))
  · rw [gvn_append, gvn_one, if_pos ⟨rfl, hfx⟩]
    unfold momSum
    rw [map_sum_set hb, p4]
    unfold momSum at sm
    show (bs.map (Km.mom a)).sum - mom a b + (mom a b - s * j) + (gvn (fixedOf bs0) a new + s * j) = (bs0.map (Km.mom a)).sum
    omega
/-- a contact with a free body -/
theorem GoInv.push {a : Bool} {bs0 bs : List Bd} {cs0 cs : List Ct} {left : List Int} (I : GoInv a bs0 cs0 bs left cs) {i k : Nat} {b c : Bd} {z s j : Int} (hb : bs[i]? = some b) (hz : left[i]? = some z) (h0 : z ≠ 0)
    (hs : s = 1 ∨ s = -1) (hj : 0 ≤ j) (hk : k ≠ i) (hc : bs[k]? = some c) (hcm : c.m ≠ 0) :
    GoInv a bs0 cs0 ((bs.set i (setMom a (mom a b - s * j) b)).set k (setMom a (mom a c + s * j) c)) (left.set i 0) (cs ++ [⟨a, s, b.nm, c.nm, j⟩]) := by
  obtain ⟨p1, p2, p3, p4, p5⟩ := mom_parts a (mom a b - s * j) b
  obtain ⟨q1, q2, q3, q4, q5⟩ := mom_parts a (mom a c + s * j) c
  obtain ⟨new, e, ok, nd, ns, sm⟩ := I.new
  have gb := I.good.all i b hb
  have gc := I.good.all k c hc
  have hm := I.free i b z hb hz h0
  have en : namesOf bs = namesOf bs0 := names_of_stat I.stat
  have hc' : (bs.set i (setMom a (mom a b - s * j) b))[k]? = some c := by rw [List.getElem?_set_ne hk.symm]; exact hc
  have hnf : c.nm ∉ fixedOf bs0 := by
    rw [← fixed_of_stat I.stat, mem_fixed]
    rintro (h | ⟨l, d, hd, hd0, h⟩)
    · exact gc.nm.ne h
    · have := I.good.inj hd hc h
      subst this
      rw [hd] at hc
      rw [Option.some.inj hc] at hd0
      exact hcm hd0
  have hne : b.nm ≠ c.nm := fun q => hk (I.good.inj hb hc q).symm
  have g1 : GoodSp (bs.set i (setMom a (mom a b - s * j) b)) := I.good.put hb p1 (gb.mom hm a _) (fun l d hl hd => by rw [p3]; exact I.good.sep i l b d hl.symm hb hd)
  refine ⟨g1.put hc' q1 (gc.mom hcm a _) (fun l d hl hd => by rw [q3]; exact g1.sep k l c d hl.symm hc' hd), (map_set_same hc' (stat_setMom _ _ _)).trans ((map_set_same hb (stat_setMom _ _ _)).trans I.stat),
    by rw [List.length_set, List.length_set, List.length_set]; exact I.len, fun l d y hd hy hy0 => ?_, ?_, new ++ [⟨a, s, b.nm, c.nm, j⟩], by rw [e, List.append_assoc], fun d hd => ?_, ?_, fun l d y hd hy hy0 => ?_, ?_⟩
  · rcases set_get hy with ⟨_, rfl⟩ | ⟨n1, hy⟩
    · exact absurd rfl hy0
    · rcases set_get hd with ⟨rfl, rfl⟩ | ⟨_, hd⟩
      · rw [q2]; exact hcm
      · rcases set_get hd with ⟨e2, _⟩ | ⟨_, hd⟩
        · exact absurd e2 n1
        · exact I.free l d y hd hy hy0
  · unfold momSum
    rw [map_sum_set hc', map_sum_set hb, p5, q5]
    have := I.osum
    unfold momSum at this
    omega
  · rcases List.mem_append.mp hd with h | h
    · exact ok d h
    · rw [List.mem_singleton.mp h]
      exact ⟨rfl, hs, by rw [← en]; exact List.mem_of_getElem? (map_get hb), .inr (by rw [← en]; exact List.mem_of_getElem? (map_get hc)), hne, hj⟩
  · rw [List.map_append]
    exact nd_snoc nd (ns i b z hb hz h0)
  · rcases set_get hy with ⟨_, rfl⟩ | ⟨n1, hy⟩
    · exact absurd rfl hy0
    · rw [List.map_append, List.mem_append]
      rcases set_get hd with ⟨rfl, rfl⟩ | ⟨_, hd⟩
      · rw [q1]
        rintro (h | h)
        · exact ns l c y hc hy hy0 h
        · exact hne (List.mem_singleton.mp h).symm
      · rcases set_get hd with ⟨e2, _⟩ | ⟨_, hd⟩
        · exact absurd e2 n1
        · rintro (h | h)
          · exact ns l d y hd hy hy0 h
          · exact n1 (I.good.inj hd hb (List.mem_singleton.mp h))
  · rw [gvn_append, gvn_one, if_neg (fun q => hnf q.2)]
    unfold momSum
    rw [map_sum_set hc', map_sum_set hb, p4, q4]
    unfold momSum at sm
    omega

/-! ### a tick -/
structure TickR (bs bs' : List Bd) (cs : List Ct) : Prop where
  good : GoodSp bs'
  stat : bs'.map stat = bs.map stat
  oks : ∀ c ∈ cs, OkC c.ax (namesOf bs) c
  nd : (cs.map fun c => (c.ax, c.nm)).Nodup
  sum : ∀ a, momSum a bs' + gvn (fixedOf bs) a cs = momSum a bs
theorem nodup_pair {cs : List Ct} (h : (cs.map Ct.nm).Nodup) : (cs.map fun c => (c.ax, c.nm)).Nodup := by
  induction cs with
  | nil => simp
  | cons c r ih =>
    rw [List.map_cons, List.nodup_cons] at h ⊢
    refine ⟨fun q => h.1 ?_, ih h.2⟩
    obtain ⟨d, hd, e⟩ := List.mem_map.mp q
    exact List.mem_map.mpr ⟨d, hd, congrArg Prod.snd e⟩
/-- both axes, one behind the other -/
theorem tick_of {bs b1 b2 b3 : List Bd} {c1 c2 : List Ct} {l1 l2 : List Int} (k : Carried bs b1) (I : GoInv false b1 [] b2 l1 c1) (J : GoInv true b2 c1 b3 l2 c2) : TickR bs b3 c2 := by
  obtain ⟨n1, e1, ok1, nd1, _, s1⟩ := I.new
  obtain ⟨n2, e2, ok2, nd2, _, s2⟩ := J.new
  have t1 : b1.map Km.stat = bs.map Km.stat := k.stat
  have t2 : b2.map Km.stat = bs.map Km.stat := I.stat.trans t1
  have en1 : namesOf b1 = namesOf bs := names_of_stat t1
  have en2 : namesOf b2 = namesOf bs := names_of_stat t2
  have ef1 : fixedOf b1 = fixedOf bs := fixed_of_stat t1
  have ef2 : fixedOf b2 = fixedOf bs := fixed_of_stat t2
  rw [List.nil_append] at e1
  subst e1 e2
  have a1 : ∀ c ∈ c1, c.ax = false := fun c hc => (ok1 c hc).ax
  have a2 : ∀ c ∈ n2, c.ax = true := fun c hc => (ok2 c hc).ax
  have o1 := I.osum
  have o2 := J.osum
  refine ⟨J.good, J.stat.trans t2, fun c hc => ?_, ?_, fun a => ?_⟩
  · rcases List.mem_append.mp hc with h | h
    · have := ok1 c h
      rw [en1] at this
      rw [this.ax]
      exact this
    · have := ok2 c h
      rw [en2] at this
      rw [this.ax]
      exact this
  · rw [List.map_append, List.nodup_append]
    refine ⟨nodup_pair nd1, nodup_pair nd2, fun p hp q hq e => ?_⟩
    obtain ⟨c, hc, rfl⟩ := List.mem_map.mp hp
    obtain ⟨d, hd, rfl⟩ := List.mem_map.mp hq
    have e' := congrArg Prod.fst e
    rw [show (c.ax, c.nm).1 = c.ax from rfl, show (d.ax, d.nm).1 = d.ax from rfl, a1 c hc, a2 d hd] at e'
    cases e'
  · rw [gvn_append]
    have m1 := k.mom false
    have m2 := k.mom true
    rw [ef1] at s1
    rw [ef2] at s2
    cases a with
    | false =>
      have z := gvn_other (fx := fixedOf bs) (a := false) (cs := n2) fun c hc q => by rw [a2 c hc] at q; cases q
      have o2' : momSum false b3 = momSum false b2 := o2
      omega
    | true =>
      have z := gvn_other (fx := fixedOf bs) (a := true) (cs := c1) fun c hc q => by rw [a1 c hc] at q; cases q
      have o1' : momSum true b2 = momSum true b1 := o1
      omega
end Km
/-! The text by places, a def's promise by its name, what stands in the heap. -/
namespace Km
open PySem L2

/-! ### the text -/
def tp (i : Nat) : Stmt := PySem.Challenge.pw_alikeplay_k15_whole_momentum.main.body.getD i (.Pass ⟨0, 0, 0, 0⟩)
/-- a def of the top, as the top has made it -/
structure Dx (K : PySem.W.Frag) (mg : Str → Option Value) (x : Str) (st : Stmt) (ps : List Str) : Prop where
  ex : ∃ (f : Addr) (fd : FuncData), Fun K x x st f fd ∧ Binds K fd ps [] ∧ mg x = some (.ref f)
/-- the def that the name x holds keeps the promise sp -/
def Cal (P : Program) (w : World) (K : PySem.W.Frag) (mg : Str → Option Value) (base : Heap) (k : Nat) (x : Str) (ps : List Str) (sp : Sp) : Prop :=
  ∃ (f : Addr) (fd : FuncData), FnOk P w K mg base CX0 k f fd ps sp ∧ Binds K fd ps [] ∧ mg x = some (.ref f) ∧ PySem.W.keepIn K (.ref f) = true
/-- a method of the class at C -/
structure Mx (K : PySem.W.Frag) (C : Addr) (m qual : Str) (st : Stmt) (ps : List Str) : Prop where
  ex : ∃ (f : Addr) (fd : FuncData), Fun K m qual st f fd ∧ Binds K fd ps [] ∧ Meth K C m f
def CalM (P : Program) (w : World) (K : PySem.W.Frag) (mg : Str → Option Value) (base : Heap) (C : Addr) (k : Nat) (m : Str) (ps : List Str) (sp : Sp) : Prop :=
  ∃ (f : Addr) (fd : FuncData), FnOk P w K mg base CX0 k f fd ps sp ∧ Binds K fd ps [] ∧ Meth K C m f
section
variable {P : Program} {w : World} {K : PySem.W.Frag} {mg : Str → Option Value} {base : Heap}
theorem Dx.cal {x : Str} {st : Stmt} {ps : List Str} {k : Nat} {sp : Sp} (D : Dx K mg x st ps) (h : ∀ f fd, Fun K x x st f fd → FnOk P w K mg base CX0 k f fd ps sp) : Cal P w K mg base k x ps sp :=
  let ⟨f, fd, F, b, g⟩ := D.ex
  ⟨f, fd, h f fd F, b, g, F.kp⟩
theorem Mx.cal {C : Addr} {m qual : Str} {st : Stmt} {ps : List Str} {k : Nat} {sp : Sp} (D : Mx K C m qual st ps) (h : ∀ f fd, Fun K m qual st f fd → FnOk P w K mg base CX0 k f fd ps sp) : CalM P w K mg base C k m ps sp :=
  let ⟨f, fd, F, b, g⟩ := D.ex
  ⟨f, fd, h f fd F, b, g⟩
theorem pe_cal {X : Cx} {k : Nat} {x : Str} {ps : List Str} {sp : Sp} {e : Expr} {es : List Expr} {t : TA} {p pos : Pos} (c : Cal X.prog X.w X.K X.mg X.base k x ps sp) (hr : Room k X.A) (ha : PA X (e :: es) t) (hg : Gl X x := by rfl)
    (hd : (x == ("__debug__" : Str)) = false := by decide) (he : starEach (e :: es) X.env = (false, eval e X.env) :: starEach es X.env := by rfl) (hpl : (backTo pos (starEach es X.env)).any (·.1) = false := by rfl) :
    PE X (.Call (.Name x p) (e :: es) [] pos) (tCall sp [] E0 t) :=
  let ⟨_, _, F, b, g, kp⟩ := c
  pe_call F hr hg g kp b .nil pass0 ha hd he hpl
end

section
variable {X : Cx} {x : Str} {pos : Pos}
/-- a built-in class as a value; a constant of the module -/
theorem pe_ty {T : String} (hm : X.mg x = none) (hv : bootBuiltins x = some (.type T)) (hg : Gl X x := by rfl) (hn : x ≠ "__name__" := by decide) (hd : (x == ("__debug__" : Str)) = false := by decide) : PE X (.Name x pos) (tC (.ty T)) := pe_bltn hg hm hv rfl hn hd
theorem pe_gi {n : Int} {t : Tok} (hm : X.mg x = some (.int n t)) (hg : Gl X x := by rfl) (hd : (x == ("__debug__" : Str)) = false := by decide) : PE X (.Name x pos) (tC (.int n)) := pe_glob hg hm ⟨t, rfl⟩ hd
theorem pe_gs {z : Str} {t : Tok} (hm : X.mg x = some (.str z t)) (hg : Gl X x := by rfl) (hd : (x == ("__debug__" : Str)) = false := by decide) : PE X (.Name x pos) (tC (.str z)) := pe_glob hg hm ⟨t, rfl⟩ hd
end

/-! ### what the top leaves of names -/
/-- the built-in names that the program has not covered -/
structure Bt (mg : Str → Option Value) : Prop where
  isinstance : mg "isinstance" = none
  int : mg "int" = none
  bool : mg "bool" = none
  str : mg "str" = none
  tuple : mg "tuple" = none
  list : mg "list" = none
  len : mg "len" = none
  all : mg "all" = none
  any : mg "any" = none
  range : mg "range" = none
  enumerate : mg "enumerate" = none
  max : mg "max" = none
  min : mg "min" = none
  sum : mg "sum" = none
  abs : mg "abs" = none
theorem bt_isinstance : bootBuiltins "isinstance" = some (.builtin "isinstance") := by decide +kernel
theorem bt_int : bootBuiltins "int" = some (.type "int") := by decide +kernel
theorem bt_bool : bootBuiltins "bool" = some (.type "bool") := by decide +kernel
theorem bt_str : bootBuiltins "str" = some (.type "str") := by decide +kernel
theorem bt_tuple : bootBuiltins "tuple" = some (.type "tuple") := by decide +kernel
theorem bt_list : bootBuiltins "list" = some (.type "list") := by decide +kernel
theorem bt_all : bootBuiltins "all" = some (.builtin "all") := by decide +kernel
theorem bt_any : bootBuiltins "any" = some (.builtin "any") := by decide +kernel
theorem bt_max : bootBuiltins "max" = some (.builtin "max") := by decide +kernel
theorem bt_min : bootBuiltins "min" = some (.builtin "min") := by decide +kernel
theorem bt_sum : bootBuiltins "sum" = some (.builtin "sum") := by decide +kernel
theorem bt_abs : bootBuiltins "abs" = some (.builtin "abs") := by decide +kernel
theorem kb_ii : kitB "int" "int" = some true := by decide +kernel
theorem kb_ib : kitB "int" "bool" = some false := by decide +kernel
theorem kb_tt : kitB "tuple" "tuple" = some true := by decide +kernel
theorem kb_tb : kitB "tuple" "bool" = some false := by decide +kernel
theorem kb_ti : kitB "tuple" "int" = some false := by decide +kernel
theorem kb_ts : kitB "tuple" "str" = some false := by decide +kernel
theorem kb_tl : kitB "tuple" "list" = some false := by decide +kernel
theorem kb_ss : kitB "str" "str" = some true := by decide +kernel
theorem kb_ll : kitB "list" "list" = some true := by decide +kernel
/-- the constants -/
structure Cs (mg : Str → Option Value) : Prop where
  farthest : ∃ t, mg "FARTHEST" = some (.int 20000 t)
  letters : ∃ t, mg "LETTERS" = some (.str "abcdefghijklmnopqrstuvwxyz" t)
  digits : ∃ t, mg "DIGITS" = some (.str "0123456789" t)
  longest : ∃ t, mg "LONGEST" = some (.int 200 t)
  heaviest : ∃ t, mg "HEAVIEST" = some (.int 100 t)
  fastest : ∃ t, mg "FASTEST" = some (.int 64 t)
  most : ∃ t, mg "MOST_BODIES" = some (.int 12 t)
  finest : ∃ t, mg "FINEST" = some (.int 1000 t)
  edge : ∃ t, mg "EDGE" = some (.str "" t)
  gcd : mg "gcd" = some (.builtin "math.gcd")

/-! ### what stands in the heap -/
theorem same_upd {H : Hp} {p : Addr} {o : HO} (h : H p = none) : Same H (upd H p o) := fun b x e => by
  rw [upd_ne (ne_of_none e h)]
  exact e
theorem same_put {H H' : Hp} (s : Same H H') {p : Addr} {o : HO} (h : H' p = none) : Same H (upd H' p o) := s.trans (same_upd h)
/-- the i-th of as is the address of the i-th of xs -/
structure LAt {α : Type} (H : Hp) (f : α → HO) (as : List Addr) (xs : List α) : Prop where
  len : as.length = xs.length
  get : ∀ (i : Nat) (a : Addr) (x : α), as[i]? = some a → xs[i]? = some x → H a = some (f x)
section
variable {α : Type} {H H' : Hp} {f : α → HO} {as : List Addr} {xs : List α}
theorem LAt.nil : LAt H f [] [] := ⟨rfl, fun i a x h => by simp at h⟩
theorem LAt.addr (l : LAt H f as xs) {i : Nat} {x : α} (h : xs[i]? = some x) : ∃ a, as[i]? = some a ∧ H a = some (f x) := by
  have hi := lt_of_get h
  have e : as[i]? = some (as[i]'(by rw [l.len]; exact hi)) := List.getElem?_eq_getElem _
  exact ⟨_, e, l.get i _ x e h⟩
theorem LAt.item (l : LAt H f as xs) {i : Nat} {a : Addr} (h : as[i]? = some a) : ∃ x, xs[i]? = some x ∧ H a = some (f x) := by
  have hi := lt_of_get h
  have e : xs[i]? = some (xs[i]'(by rw [← l.len]; exact hi)) := List.getElem?_eq_getElem _
  exact ⟨_, e, l.get i a _ h e⟩
theorem LAt.keep (l : LAt H f as xs) (h : ∀ a ∈ as, ∀ o, H a = some o → H' a = some o) : LAt H' f as xs :=
  ⟨l.len, fun i a x ha hx => h a (List.mem_of_getElem? ha) _ (l.get i a x ha hx)⟩
theorem LAt.same (l : LAt H f as xs) (s : Same H H') : LAt H' f as xs := l.keep fun a _ o e => s a o e
theorem LAt.snoc (l : LAt H f as xs) {a : Addr} {x : α} (h : H a = some (f x)) : LAt H f (as ++ [a]) (xs ++ [x]) := by
  refine ⟨by rw [List.length_append, List.length_append, l.len]; rfl, fun i b y hb hy => ?_⟩
  by_cases hi : i < as.length
  · rw [List.getElem?_append_left hi] at hb
    rw [List.getElem?_append_left (by rw [← l.len]; exact hi)] at hy
    exact l.get i b y hb hy
  · have hi' : as.length ≤ i := Nat.le_of_not_lt hi
    rw [List.getElem?_append_right hi'] at hb
    rw [List.getElem?_append_right (by rw [← l.len]; exact hi'), ← l.len] at hy
    have h0 : i - as.length = 0 := by
      have := lt_of_get hb
      simp at this
      omega
    rw [h0] at hb hy
    rw [← Option.some.inj hb, ← Option.some.inj hy]
    exact h
theorem nodup_at {as : List Addr} (hn : as.Nodup) {i k : Nat} {a : Addr} (h : as[i]? = some a) (h' : as[k]? = some a) : i = k := nd_ix hn h h'
/-- the i-th object is changed -/
theorem LAt.put (l : LAt H f as xs) (hn : as.Nodup) {i : Nat} {a : Addr} {y : α} (ha : as[i]? = some a) : LAt (upd H a (f y)) f as (xs.set i y) := by
  refine ⟨by rw [List.length_set]; exact l.len, fun k b x hb hx => ?_⟩
  rcases set_get hx with ⟨rfl, rfl⟩ | ⟨hk, hx⟩
  · rw [ha] at hb
    rw [← Option.some.inj hb, upd_same]
  · have hne : b ≠ a := fun e => hk (nodup_at hn (by rw [← e]; exact hb) ha)
    rw [upd_ne hne]
    exact l.get k b x hb hx
theorem LAt.off (l : LAt H f as xs) {a : Addr} {o : HO} (h : a ∉ as) : LAt (upd H a o) f as xs := l.keep fun b hb o' e => by
  rw [upd_ne (show b ≠ a from fun q => h (q ▸ hb))]
  exact e
end
abbrev bdL (b : Bd) : HO := .lst (bdV b)
abbrev bdT (b : Bd) : HO := .tup (bdV b)
abbrev ctT (c : Ct) : HO := .tup (ctV c)
abbrev bxT (b : Bx) : HO := .tup (bxV b)
/-- a space at s: a tuple of tuples -/
structure SpAt (H : Hp) (s : Addr) (bs : List Bd) : Prop where
  ex : ∃ as : List Addr, H s = some (.tup (as.map V.ref)) ∧ LAt H bdT as bs
theorem SpAt.same {H H' : Hp} {s : Addr} {bs : List Bd} (h : SpAt H s bs) (e : Same H H') : SpAt H' s bs :=
  let ⟨as, h1, h2⟩ := h.ex
  ⟨as, e _ _ h1, h2.same e⟩
/-- contacts at c: a list of tuples -/
structure CtsAt (H : Hp) (c : Addr) (cs : List Ct) : Prop where
  ex : ∃ ts : List Addr, H c = some (.lst (ts.map V.ref)) ∧ LAt H ctT ts cs
theorem CtsAt.same {H H' : Hp} {s : Addr} {cs : List Ct} (h : CtsAt H s cs) (e : Same H H') : CtsAt H' s cs :=
  let ⟨as, h1, h2⟩ := h.ex
  ⟨as, e _ _ h1, h2.same e⟩
/-- places in a body -/
def axN : Bool → Nat
  | false => 0
  | true => 1
theorem at_mom (a : Bool) (b : Bd) : atI (bdV b) (6 + ax a) = some (.int (mom a b)) := by cases a <;> rfl
theorem at_car (a : Bool) (b : Bd) : atI (bdV b) (8 + ax a) = some (.int (car a b)) := by cases a <;> rfl
theorem at_pos (a : Bool) (b : Bd) : atI (bdV b) (1 + ax a) = some (.int (pos a b)) := by cases a <;> rfl
theorem ix_mom (a : Bool) : ixN 10 (6 + ax a) = some (6 + axN a) := by cases a <;> rfl
theorem ix_car (a : Bool) : ixN 10 (8 + ax a) = some (8 + axN a) := by cases a <;> rfl
theorem ix_pos (a : Bool) : ixN 10 (1 + ax a) = some (1 + axN a) := by cases a <;> rfl
theorem set_mom (a : Bool) (b : Bd) (v : Int) : (bdV b).set (6 + axN a) (.int v) = bdV (setMom a v b) := by cases a <;> rfl
theorem set_car (a : Bool) (b : Bd) (v : Int) : (bdV b).set (8 + axN a) (.int v) = bdV (setCar a v b) := by cases a <;> rfl
theorem set_pos (a : Bool) (b : Bd) (v : Int) : (bdV b).set (1 + axN a) (.int v) = bdV (setPos a v b) := by cases a <;> rfl
/-- a list of addresses is no body -/
theorem refs_bd {as : List Addr} {b : Bd} : HO.lst (as.map V.ref) ≠ bdL b := by
  intro e
  have h := HO.lst.inj e
  cases as with
  | nil => cases h
  | cons x r => cases h
theorem ints_bd {ns : List Int} {b : Bd} : HO.lst (ns.map V.int) ≠ bdL b := by
  intro e
  have h := HO.lst.inj e
  cases ns with
  | nil => cases h
  | cons x r => cases h
/-- the fields of a Moving -/
def movF (L bn T : Addr) : List (Str × V) := [("bodies", .ref L), ("bounce", .ref bn), ("contacts", .ref T)]
theorem s_bounce_bodies : (("bounce" : Str) == ("bodies" : Str)) = false := by decide +kernel
theorem s_contacts_bodies : (("contacts" : Str) == ("bodies" : Str)) = false := by decide +kernel
theorem s_contacts_bounce : (("contacts" : Str) == ("bounce" : Str)) = false := by decide +kernel
theorem movF_bodies (L bn T : Addr) : (movF L bn T).lookup ("bodies" : Str) = some (.ref L) := by
  simp only [movF, List.lookup, beq_self_eq_true]
theorem movF_bounce (L bn T : Addr) : (movF L bn T).lookup ("bounce" : Str) = some (.ref bn) := by
  simp only [movF, List.lookup, beq_self_eq_true, s_bounce_bodies]
theorem movF_contacts (L bn T : Addr) : (movF L bn T).lookup ("contacts" : Str) = some (.ref T) := by
  simp only [movF, List.lookup, beq_self_eq_true, s_contacts_bodies, s_contacts_bounce]
theorem movF_no (L bn T : Addr) {m : Str} (h1 : (m == ("bodies" : Str)) = false) (h2 : (m == ("bounce" : Str)) = false) (h3 : (m == ("contacts" : Str)) = false) : (movF L bn T).lookup m = none := by
  simp only [movF, List.lookup, h1, h2, h3]
theorem movF_make (L bn T : Addr) : putF "contacts" (.ref T) (putF "bounce" (.ref bn) (putF "bodies" (.ref L) [])) = movF L bn T := by
  have h1 : ¬ (("bodies" : Str) = "bounce") := by decide +kernel
  have h2 : ¬ (("bodies" : Str) = "contacts") := by decide +kernel
  have h3 : ¬ (("bounce" : Str) = "contacts") := by decide +kernel
  simp only [putF, h1, h2, h3, if_false]
  rfl
end Km
/-! for i, x in enumerate(t), t a tuple. -/
namespace Km
open PySem PySem.Spec PyProof.Rows L2
/-- enumerate of one thing: its two new cells -/
theorem new_enum {v : Value} {ob : Obj} {Hq : Heap → Prop} (G : Begins v ob Hq) :
    Meets (Builtin.«enumerate.__new__» ⟨[.type "enumerate", v], []⟩) (fun _ R st => Hq st.heap ∧
      R (.ok (.ret (.ref (st.heap.push ob).objs.size))) { st with heap := (st.heap.push ob).push { cls := .type "enumerate", data := .fields #[.none, .bool false, .ref st.heap.objs.size, rawInt 0, .none, .none] } }) :=
  .of_wp fun prog wo A R st hh => by
    obtain ⟨hp, ge, dr, tk, os⟩ := st
    obtain ⟨g1, g2⟩ := hh
    have sub0 := sub_enumerate
    have begun : ∀ {A' : Around} {E : Value → Shared → Prop} {Q : Value → Shared → Prop}, Q (.ref hp.objs.size) ⟨hp.push ob, ge, dr, tk, os⟩ → wpAny (model prog wo) A' (pyIter v) Q E ⟨hp, ge, dr, tk, os⟩ :=
      fun q => G.iter prog wo _ _ ⟨hp, ge, dr, tk, os⟩ _ g1 q
    wp_walk using begun
    refine wpAny_stack_any fun _ => wpAny_pure ?_
    split
    · rename_i c _ _ _ _ _
      cases (c == Value.type "enumerate")
      all_goals
        wp_walk using begun
        exact ⟨_, rfl, g2⟩
    · wp_walk using begun
      exact ⟨_, rfl, g2⟩
section
variable {prog : Program} {wo : World} {A : Around} {E : Value → Shared → Prop} {st : Shared}
theorem call_enum_tup {t : Addr} {items : Array Value} {Q : Value → Shared → Prop} (ht : st.heap.IsTuple t items)
    (k : ∀ h', IsEnum h' (st.heap.objs.size + 1) st.heap.objs.size 0 .none → h'.IsTupleIter st.heap.objs.size t 0 → (∀ b o, st.heap.get? b = some o → h'.get? b = some o) → Q (.ref (st.heap.objs.size + 1)) { st with heap := h' }) :
    wpAny (model prog wo) A (call (.type "enumerate") [.ref t]) Q E st := by
  refine callType_new F.called_enumerate (by decide) (F.typeCall_enumerate_1 _) (F.newCall_enumerate_1 _) (fun ob => F.args_object_init_2 ob _) F.entry_enumerate_new (new_enum (begins_tuple t items)) ⟨ht, ?_⟩
  generalize hit : ({ cls := .type "tuple_iterator", data := .fields #[.ref t, .int 0 0] } : Obj) = io
  have sz : (st.heap.push io).objs.size = st.heap.objs.size + 1 := Heap.size_push ..
  show _ ∧ _
  rw [sz]
  have fr : io.isFreed = false := by rw [← hit]; rfl
  have en : IsEnum ((st.heap.push io).push { cls := .type "enumerate", data := .fields #[.none, .bool false, .ref st.heap.objs.size, rawInt 0, .none, .none] }) (st.heap.objs.size + 1) st.heap.objs.size 0 .none := by
    have q := Heap.get?_push_size (st.heap.push io) (o := { cls := .type "enumerate", data := .fields #[.none, .bool false, .ref st.heap.objs.size, rawInt 0, .none, .none] }) rfl
    rw [sz] at q
    exact q
  refine ⟨⟨_, en, rfl⟩, k _ en ⟨io, Heap.get?_push_of_some _ (Heap.get?_push_size _ fr), by rw [← hit], by rw [← hit]; rfl⟩ fun b o e => Heap.get?_push_of_some _ (Heap.get?_push_of_some _ e)⟩
end
/-- the tuple at a as it stands at each turn, each item in a new pair -/
def IteT (K : PySem.W.Frag) (a : Addr) : It where
  go i H := ∃ (xs : List V) (x : V), SqT K H a xs ∧ xs[i]? = some x
  yld i H v H' := ∃ T x, v = .ref T ∧ H T = none ∧ H' = upd H T (.tup [.int (i : Nat), x]) ∧ ∀ xs, SqT K H a xs → xs[i]? = some x
  stop i H := ∃ xs : List V, SqT K H a xs ∧ xs.length = i
theorem tup_ne {h : Heap} {a it b : Addr} {items : Array Value} {i : Nat} (p : h.IsTuple a items) (q : h.IsTupleIter it b i) : a ≠ it := by
  intro z
  obtain ⟨o1, e1, c1, _⟩ := p
  obtain ⟨o2, e2, c2, _⟩ := q
  rw [z, e2] at e1
  rw [← Option.some.inj e1, c2] at c1
  exact absurd c1 (by decide)
theorem turn_enumT {P : Program} {w : World} {K : PySem.W.Frag} {elts : List Expr} {kk : Nat} {tpos : Pos} (a e it : Addr) :
    Turn P w K (.Tuple elts kk tpos) (IteT K a) [e, it] e (fun i h => (∃ old, IsEnum h e it ((i : Nat) : Int) old) ∧ h.IsTupleIter it a i ∧ e ≠ it) where
  mem := List.mem_cons_self ..
  obj := fun i h tn b hb => by
    obtain ⟨⟨old, he⟩, ⟨o, ho, hc, hd⟩, _⟩ := tn
    rcases List.mem_cons.mp hb with z | z
    · rw [z]
      exact ⟨_, he, fun v q => nomatch q⟩
    · exact ⟨o, by rw [List.mem_singleton.mp z]; exact ho, fun v q => by rw [hd] at q; cases q⟩
  keep := fun i h h' tn k => by
    obtain ⟨⟨old, he⟩, hi, hne⟩ := tn
    exact ⟨⟨old, k e (by simp) _ he⟩, hi.at fun o q => k it (by simp) o q, hne⟩
  item := by
    intro X hP hw hK hc i pins s σ H E I hf tn hg
    subst hP hw hK
    obtain ⟨⟨old, he⟩, hit, hne⟩ := tn
    obtain ⟨xs, x, hq, hx⟩ := hg
    obtain ⟨its, rv, p, hz⟩ := I.tuple hq
    have p' : s.heap.IsTuple a its.toArray := p
    obtain ⟨u, hu, ru⟩ := rv.get hx
    have le : e < s.heap.objs.size := Heap.lt_size he
    have li : it < s.heap.objs.size := by
      obtain ⟨_, q, _⟩ := hit
      exact Heap.lt_size q
    have ai : a ≠ it := tup_ne p' hit
    have ae : e ≠ a := by
      intro q
      obtain ⟨o1, e1, c1, _⟩ := p'
      rw [← q] at e1
      rw [he] at e1
      rw [← Option.some.inj e1] at c1
      have c2 : Value.type "enumerate" = Value.type "tuple" := c1
      exact absurd c2 (by decide)
    have hlt : i < its.toArray.size := by
      have := (List.getElem?_eq_some_iff.mp hu).1
      simpa using this
    refine wpAny_pyNext_enum_itemD (Draws.tuple (A := X.A.in1) (show X.A.in1.handled = none from I.ok.hd hc) it a ai its.toArray) he ⟨hit, p'⟩ hlt hne (by simp [hne, ae]) fun y h' tk hy ho hit' hT hsz hk => ?_
    have ey : y = u := by
      have q : its[i]? = some y := by simpa using hy
      rw [hu] at q
      exact (Option.some.inj q).symm
    subst ey
    refine ⟨_, rfl, wpAny_letOwnedTupleGo_enum (s := { s with heap := h', toks := tk + 1 }) ho fun h'' he' sb => ?_⟩
    have hT2 : h''.get? s.heap.objs.size = some { cls := .type "tuple", data := .seq #[.int i tk, y] } := (sb.2 _ (Nat.ne_of_gt le)).trans hT
    generalize hnew : HO.tup [.int (i : Nat), x] = no
    have laid : ObjOk X.prog X.w (upd H s.heap.objs.size no) h'' s.heap.objs.size no := by
      rw [← hnew]
      exact ⟨by show 2 ≤ sizeLine; decide, [.int i tk, y], .cons ⟨_, rfl⟩ (.cons ru .nil), ⟨_, hT2, rfl, _, rfl⟩⟩
    have I1 : Inv X pins σ (upd H s.heap.objs.size no) { s with heap := h'', toks := tk + 1 } := by
      refine I.turnedNew (ch := [e, it]) (fun b ob hb q => ?_) hf (Nat.le_refl _) laid
      have n1 : b ≠ e := fun z => hb (by rw [z]; simp)
      have n2 : b ≠ it := fun z => hb (by rw [z]; simp)
      exact (sb.2 b n1).trans (hk b ob n1 n2 q)
    refine ⟨.ref s.heap.objs.size, _, I1, rfl, ⟨_, x, rfl, I.hok.fresh (Nat.le_refl _), by rw [← hnew], fun ys hy => by rw [I.tuple_inj hy hq]; exact hx⟩, ⟨⟨y, ?_⟩, ?_, hne⟩, fun b hb => ?_⟩
    · have e1 : ((i + 1 : Nat) : Int) = (i : Int) + 1 := by omega
      rw [e1]
      exact he'
    · exact hit'.1.at fun o q => (sb.2 it (Ne.symm hne)).trans q
    · have hb' : b < s.heap.objs.size := by
        rcases List.mem_cons.mp hb with z | z
        · rw [z]; exact le
        · rw [List.mem_singleton.mp z]; exact li
      rw [upd_ne (Nat.ne_of_lt hb')]
      exact (hf b hb).1
  done := by
    intro X hP hw hK hc i pins s σ H E I hf tn hg
    subst hP hw hK
    obtain ⟨⟨old, he⟩, hit, hne⟩ := tn
    obtain ⟨xs, hq, hx⟩ := hg
    obtain ⟨its, rv, p, hz⟩ := I.tuple hq
    have p' : s.heap.IsTuple a its.toArray := p
    obtain ⟨f0, f1, f2, f3, f4, f5⟩ := hf it (by simp)
    have hl := rv.length
    have hn : its.toArray.size = i := by
      rw [← hx, hl]
      simp
    refine wpAny_pyNext_enum_endD (Draws.tuple (A := X.A.in1) (show X.A.in1.handled = none from I.ok.hd hc) it a (tup_ne p' hit) its.toArray) he (by rw [hn]; exact ⟨hit, p'⟩) fun h' eb => ?_
    exact ⟨rfl, I.turned (t' := s.toks) (fun b o hb q => eb b o hb q) f0 f1 f3 f4 f5⟩
  self := fun A i s Q E tn h => by
    obtain ⟨⟨_, he⟩, _⟩ := tn
    exact wpAny_pyIter_enum he h
def iEnumT (K : PySem.W.Frag) (ta : TA) : TI := fun σ H R => ta σ H fun vs H1 => ∃ (a : Addr) (xs : List V), vs = [.ref a] ∧ SqT K H1 a xs ∧ R (IteT K a) H1
/-- enumerate(t), t a tuple -/
theorem pi_enumT {X : Cx} {e : Expr} {ta : TA} {p pos tpos : Pos} {elts : List Expr} {kk : Nat} (hm : X.mg "enumerate" = none) (ha : PA X [e] ta) (hg : Gl X "enumerate" := by rfl) (hs : starEach [e] X.env = [(false, eval e X.env)] := by rfl) :
    PI X (.Tuple elts kk tpos) (.Call (.Name "enumerate" p) [e] [] pos) (iEnumT X.K ta) := by
  refine ⟨fun pins s σ H R I h => ?_⟩
  refine Call_ (ld_blt I hg hm boot_enumerate (PyProof.Rows.callWith_type1 (thn (ha.run pos pins s σ H _ I h) fun us s1 ⟨vs, H1, I1, r1, a, xs, ex, hq, q⟩ => ?_) hs rfl))
  subst ex
  obtain ⟨u, rfl, ru⟩ := vals1 r1
  cases (show u = Value.ref a from ru)
  obtain ⟨its, rv, p', hz⟩ := I1.tuple hq
  refine call_enum_tup (show s1.heap.IsTuple a its.toArray from p') fun h' he hit hk => wpAny_pyIter_enum he ?_
  refine ⟨s1.heap.objs.size + 1, [s1.heap.objs.size + 1, s1.heap.objs.size], _, _, H1, rfl, I1.kept (t' := s1.toks) hk, turn_enumT a (s1.heap.objs.size + 1) s1.heap.objs.size, ⟨⟨.none, he⟩, hit, Nat.succ_ne_self _⟩, fun b hb => ?_, q⟩
  have hle : s1.heap.objs.size ≤ b := by
    rcases List.mem_cons.mp hb with z | z
    · rw [z]; exact Nat.le_add_right _ _
    · rw [List.mem_singleton.mp z]; exact Nat.le_refl _
  exact I1.fpOk hle (I1.hok.fresh hle)
theorem walk_enumT {K : PySem.W.Frag} {a : Addr} {xs : List V} : Walk (IteT K a) xs.length (fun H => SqT K H a xs) (YPair (fun i => some (.int (i : Nat))) (fun i => xs[i]?)) := by
  refine ⟨fun i H hi q => ⟨xs, xs[i], q, by simp [hi]⟩, fun H q => ⟨xs, q, rfl⟩, fun i H x H' hi q y => ?_⟩
  obtain ⟨T, x0, e1, e2, e3, e4⟩ := y
  exact ⟨T, .int (i : Nat), x0, e1, e2, e3, rfl, e4 xs q⟩
end Km
/-! Comprehensions whose elements only make new things. -/
namespace Km
open PySem L2
theorem seqT_of {K : PySem.W.Frag} {H H' : Hp} {a : Addr} {xs : List V} (e : Same H H') (h : SqT K H a xs) : SqT K H' a xs := by
  rcases h with (h | ⟨o, h⟩) | h
  · exact .inl (.inl (e _ _ h))
  · exact .inl (.inr ⟨o, e _ _ h⟩)
  · exact .inr h
/-- [e for x in ..]: the i-th element is the i-th of ys, what stood stands -/
theorem lc_vals {J : It} {n : Nat} {G : Hp → Prop} {Y : Nat → Hp → V → Hp → Prop} (wk : Walk J n G Y) (Z : Nat → V → Prop) (hY : ∀ i H x H', i < n → G H → Y i H x H' → H' = H ∧ Z i x)
    {te : TE} {k : Nat} {vs : List Nat} {σ : St} {H1 : Hp} {D : Addr} {Qd : Hp → Prop} (ys : List V) (hl : ys.length = n) (hD : H1 D = none) (hz : n < sizeLine) (hG : ∀ H, Same H1 H → G H)
    (hw : ∀ x, wipe ((wipe σ vs).set k (some x)) vs = wipe σ vs)
    (he : ∀ (i : Nat) (x y : V) (H : Hp) (Q' : VK), Z i x → ys[i]? = some y → Same H1 H → (∀ H', Same H H' → Q' y H') → te ((wipe σ vs).set k (some x)) H Q')
    (hd : ∀ H, Same H1 H → H D = some (.lst ys) → Qd H) :
    ∃ W : Nat → Nat → Hp → Prop, (∃ m, W 0 m (upd H1 D (.lst []))) ∧ ∀ i m H, W i m H →
      (J.stop i H ∧ Qd H) ∨ (J.go i H ∧ ∃ Nx : Hp → Prop, (∀ H', Nx H' → ∃ m', m' < m ∧ W (i + 1) m' H') ∧ ∀ x H', J.yld i H x H' → gName k x (wipe σ vs) H' fun σ2 H2 => wipe σ2 vs = wipe σ vs ∧ tYes σ2 H2 fun b H3 =>
        if b = true then te σ2 H3 fun y H4 => ∃ acc, H4 D = some (.lst acc) ∧ acc.length < sizeLine ∧ Nx (upd H4 D (.lst (acc ++ [y]))) else Nx H3) := by
  refine lc_it wk (fun i H => Same H1 H ∧ H D = some (.lst (ys.take i))) ⟨same_upd hD, upd_same⟩ (fun i H _ p => hG H p.1) (fun i x H H' hi p y => ?_) (fun H p => hd H p.1 ?_)
  · obtain ⟨rfl, z⟩ := hY i H x H' hi (hG H p.1) y
    refine ⟨hw x, ?_⟩
    simp only [tYes, ↓reduceIte]
    have hi' : i < ys.length := by rw [hl]; exact hi
    refine he i x ys[i] _ _ z (List.getElem?_eq_getElem hi') p.1 fun H2 s2 => ⟨ys.take i, s2 _ _ p.2, ?_, fun b o e => ?_, ?_⟩
    · rw [List.length_take]
      exact Nat.lt_of_le_of_lt (Nat.min_le_right _ _) (by rw [hl]; exact hz)
    · rw [upd_ne (ne_of_none e hD)]
      exact s2 _ _ (p.1 _ _ e)
    · rw [upd_same, List.take_add_one, List.getElem?_eq_getElem hi']
      rfl
  · have h := p.2
    rw [List.take_of_length_le (by rw [hl]; exact Nat.le_refl _)] at h
    exact h
section
variable {K : PySem.W.Frag} {a : Addr} {te : TE} {k : Nat} {vs : List Nat} {σ : St} {H1 : Hp} {D : Addr} {Qd : Hp → Prop}
abbrev LcW (J : It) (k : Nat) (te : TE) (vs : List Nat) (σ : St) (H1 : Hp) (D : Addr) (Qd : Hp → Prop) : Prop :=
  ∃ W : Nat → Nat → Hp → Prop, (∃ m, W 0 m (upd H1 D (.lst []))) ∧ ∀ i m H, W i m H →
      (J.stop i H ∧ Qd H) ∨ (J.go i H ∧ ∃ Nx : Hp → Prop, (∀ H', Nx H' → ∃ m', m' < m ∧ W (i + 1) m' H') ∧ ∀ x H', J.yld i H x H' → gName k x (wipe σ vs) H' fun σ2 H2 => wipe σ2 vs = wipe σ vs ∧ tYes σ2 H2 fun b H3 =>
        if b = true then te σ2 H3 fun y H4 => ∃ acc, H4 D = some (.lst acc) ∧ acc.length < sizeLine ∧ Nx (upd H4 D (.lst (acc ++ [y]))) else Nx H3)
/-- over a tuple zs.map f, the elements zs.map g -/
theorem lc_tupM {α : Type} (zs : List α) (f g : α → V) (hD : H1 D = none) (hz : zs.length < sizeLine) (hw : ∀ x, wipe ((wipe σ vs).set k (some x)) vs = wipe σ vs)
    (he : ∀ (i : Nat) (z : α) (H : Hp) (Q' : VK), zs[i]? = some z → Same H1 H → (∀ H', Same H H' → Q' (g z) H') → te ((wipe σ vs).set k (some (f z))) H Q')
    (hd : ∀ H, Same H1 H → H D = some (.lst (zs.map g)) → Qd H) (hS : SqT K H1 a (zs.map f)) : LcW (Itt K a) k te vs σ H1 D Qd :=
  lc_vals (walk_tup (K := K) (a := a) (xs := zs.map f)) (fun i x => (zs.map f)[i]? = some x) (fun i H x H' _ _ y => y) (zs.map g) (by rw [List.length_map, List.length_map]) hD (by rw [List.length_map]; exact hz) (fun H s => seqT_of s hS) hw
    (fun i x y H Q' hx hy s q => by
      obtain ⟨z, hz, rfl⟩ := get_of_map hx
      have e := map_get (f := g) hz
      rw [e] at hy
      have e' := Option.some.inj hy
      subst e'
      exact he i z H Q' hz s q) hd
theorem lc_lstM {α : Type} (zs : List α) (f g : α → V) (hS : SqL K H1 a (zs.map f)) (hD : H1 D = none) (hz : zs.length < sizeLine) (hw : ∀ x, wipe ((wipe σ vs).set k (some x)) vs = wipe σ vs)
    (he : ∀ (i : Nat) (z : α) (H : Hp) (Q' : VK), zs[i]? = some z → Same H1 H → (∀ H', Same H H' → Q' (g z) H') → te ((wipe σ vs).set k (some (f z))) H Q')
    (hd : ∀ H, Same H1 H → H D = some (.lst (zs.map g)) → Qd H) : LcW (Itl K a) k te vs σ H1 D Qd :=
  lc_vals (walk_list (K := K) (a := a) (xs := zs.map f)) (fun i x => (zs.map f)[i]? = some x) (fun i H x H' _ _ y => y) (zs.map g) (by rw [List.length_map, List.length_map]) hD (by rw [List.length_map]; exact hz) (fun H s => s.seq hS) hw
    (fun i x y H Q' hx hy s q => by
      obtain ⟨z, hz, rfl⟩ := get_of_map hx
      have e := map_get (f := g) hz
      rw [e] at hy
      have e' := Option.some.inj hy
      subst e'
      exact he i z H Q' hz s q) hd
end
/-- over a tuple of addresses of things told by bs, the elements bs.map g -/
theorem lc_at {α : Type} {F : α → HO} {J : It} {G : Hp → Prop} {as : List Addr} {bs : List α} {te : TE} {k : Nat} {vs : List Nat} {σ : St} {H1 : Hp} {D : Addr} {Qd : Hp → Prop} (wk : Walk J (as.map V.ref).length G (YAt (as.map V.ref)))
    (g : α → V) (hL : LAt H1 F as bs) (hG : ∀ H, Same H1 H → G H) (hD : H1 D = none) (hz : bs.length < sizeLine) (hw : ∀ x, wipe ((wipe σ vs).set k (some x)) vs = wipe σ vs)
    (he : ∀ (i : Nat) (p : Addr) (b : α) (H : Hp) (Q' : VK), as[i]? = some p → bs[i]? = some b → H p = some (F b) → Same H1 H → (∀ H', Same H H' → Q' (g b) H') → te ((wipe σ vs).set k (some (.ref p))) H Q')
    (hd : ∀ H, Same H1 H → H D = some (.lst (bs.map g)) → Qd H) : LcW J k te vs σ H1 D Qd :=
  lc_vals wk (fun i x => (as.map V.ref)[i]? = some x) (fun i H x H' _ _ y => y) (bs.map g) (by rw [List.length_map, List.length_map, hL.len]) hD (by rw [List.length_map, hL.len]; exact hz) hG hw
    (fun i x y H Q' hx hy s q => by
      obtain ⟨p, hp, rfl⟩ := get_of_map hx
      obtain ⟨b, hb, rfl⟩ := get_of_map hy
      exact he i p b H Q' hp hb (s _ _ (hL.get i p b hp hb)) s q) hd
end Km
/-! The small defs. -/
namespace Km
open PySem L2
section
variable {P : Program} {w : World} {K : PySem.W.Frag} {mg : Str → Option Value} {base : Heap}

/-! ### is_whole -/
theorem scWhole : FnScope ["value"] ["value"] (defScope (tp 5)) := ⟨rfl, rfl, rfl, by decide +kernel, rfl, by decide +kernel, by decide +kernel⟩
def spWhole : Sp := fun vs H Q _ => ∃ n : Int, vs = [.int n] ∧ Q (.bl true) H
theorem ok_whole (D : Dx K mg "is_whole" (tp 5) ["value"]) (B : Bt mg) : Cal P w K mg base 1 "is_whole" ["value"] spWhole := D.cal fun f fd F => by
  refine F.ok scWhole (fun vs H Q E h => ?_) (fun cdv A outer s H vs Q E hr h => ?_)
  · obtain ⟨n, rfl, _⟩ := h
    rfl
  · obtain ⟨n, rfl, q⟩ := h
    refine ⟨_, pss_one (ps_ret (pe_and (pe_callB call_isi (by rfl) B.isinstance bt_isinstance (pa_cons (pv 0) (pa_cons (pe_ty B.int bt_int) pa_nil)))
      (pe_one (pe_not (pe_callB call_isi (by rfl) B.isinstance bt_isinstance (pa_cons (pv 0) (pa_cons (pe_ty B.bool bt_bool) pa_nil))))))), ?_⟩
    refine ⟨_, rfl, _, _, _, _, true, rfl, .ty _, .base (.int n), kit_ty kb_ii, true, rfl, iteT ?_⟩
    exact ⟨_, rfl, _, _, _, _, false, rfl, .ty _, .base (.int n), kit_ty kb_ib, false, rfl, q⟩

/-! ### is_between -/
theorem scBetween : FnScope ["value", "low", "high"] ["value", "low", "high"] (defScope (tp 6)) := ⟨rfl, rfl, rfl, by decide +kernel, rfl, by decide +kernel, by decide +kernel⟩
def spBetween : Sp := fun vs H Q _ => ∃ v lo hi : Int, vs = [.int v, .int lo, .int hi] ∧ Q (.bl (decide (lo ≤ v ∧ v ≤ hi))) H
theorem ok_between (D : Dx K mg "is_between" (tp 6) ["value", "low", "high"]) (cW : Cal P w K mg base 1 "is_whole" ["value"] spWhole) : Cal P w K mg base 2 "is_between" ["value", "low", "high"] spBetween := D.cal fun f fd F => by
  refine F.ok scBetween (fun vs H Q E h => ?_) (fun cdv A outer s H vs Q E hr h => ?_)
  · obtain ⟨v, lo, hi, rfl, _⟩ := h
    rfl
  · obtain ⟨v, lo, hi, rfl, q⟩ := h
    refine ⟨_, pss_one (ps_ret (pe_and (pe_cal cW hr (pa_cons (pv 0) pa_nil)) (pe_one (pe_chain op_le op_le (pv 1) (pv 0) (pv 2))))), ?_⟩
    refine ⟨_, rfl, v, rfl, true, rfl, iteT ?_⟩
    refine ⟨_, rfl, _, rfl, _, _, rfl, rfl, _, rfl, ite2 (fun h1 => ?_) (fun h1 => ?_)⟩
    · refine ⟨_, rfl, _, _, rfl, rfl, ?_⟩
      have h1' : lo ≤ v := of_decide_eq_true h1
      have e : decide (v ≤ hi) = decide (lo ≤ v ∧ v ≤ hi) := decide_eq_decide.mpr ⟨fun a => ⟨h1', a⟩, fun a => a.2⟩
      show Q (.bl (decide (v ≤ hi))) H
      rw [e]
      exact q
    · have h1' : ¬ lo ≤ v := fun a => h1 (decide_eq_true a)
      have e : decide (lo ≤ v ∧ v ≤ hi) = false := decide_eq_false fun a => h1' a.1
      rw [e] at q
      exact q

/-! ### is_coordinate -/
theorem scCoord : FnScope ["value"] ["value"] (defScope (tp 10)) := ⟨rfl, rfl, rfl, by decide +kernel, rfl, by decide +kernel, by decide +kernel⟩
def spCoord : Sp := fun vs H Q _ => ∃ v : Int, vs = [.int v] ∧ Q (.bl (crd v)) H
theorem ok_coord (D : Dx K mg "is_coordinate" (tp 10) ["value"]) (Z : Cs mg) (cB : Cal P w K mg base 2 "is_between" ["value", "low", "high"] spBetween) : Cal P w K mg base 3 "is_coordinate" ["value"] spCoord := D.cal fun f fd F => by
  obtain ⟨t, hF⟩ := Z.farthest
  refine F.ok scCoord (fun vs H Q E h => ?_) (fun cdv A outer s H vs Q E hr h => ?_)
  · obtain ⟨v, rfl, _⟩ := h
    rfl
  · obtain ⟨v, rfl, q⟩ := h
    refine ⟨_, pss_one (ps_ret (pe_cal cB hr (pa_cons (pv 0) (pa_cons (pe_un un_neg (pe_gi hF)) (pa_cons (pe_gi hF) pa_nil))))), ?_⟩
    exact ⟨_, rfl, _, rfl, v, -20000, 20000, rfl, q⟩

/-! ### do_overlap -/
theorem scOverlap : FnScope ["first", "second"] ["first", "second"] (defScope (tp 12)) := ⟨rfl, rfl, rfl, by decide +kernel, rfl, by decide +kernel, by decide +kernel⟩
def spOverlap : Sp := fun vs H Q _ => ∃ (p q : Addr) (a b : Bx), vs = [.ref p, .ref q] ∧ H p = some (bxT a) ∧ H q = some (bxT b) ∧ Q (.bl (ovl a b)) H
theorem ok_overlap (D : Dx K mg "do_overlap" (tp 12) ["first", "second"]) : Cal P w K mg base 1 "do_overlap" ["first", "second"] spOverlap := D.cal fun f fd F => by
  refine F.ok scOverlap (fun vs H Q E h => ?_) (fun cdv A outer s H vs Q E hr h => ?_)
  · obtain ⟨p, q, a, b, rfl, _⟩ := h
    rfl
  · obtain ⟨p, q, a, b, rfl, ha, hb, k⟩ := h
    refine ⟨_, pss_cons (ps_if (PW.pt (pw_or (pt_cmpR op_le (pe_ix ix_tup (pv 0) pe_int (fun _ _ => rfl)) (pe_ix ix_tup (pv 1) pe_int (fun _ _ => rfl)) (nomark _))
        (pw_or1 (pt_cmpR op_le (pe_ix ix_tup (pv 1) pe_int (fun _ _ => rfl)) (pe_ix ix_tup (pv 0) pe_int (fun _ _ => rfl)) (nomark _))))) (pss_one (ps_ret pe_bl)) pss_nil)
      (pss_one (ps_ret (pe_and (pe_cmpR op_lt (pe_ix ix_tup (pv 0) pe_int (fun _ _ => rfl)) (pe_ix ix_tup (pv 1) pe_int (fun _ _ => rfl)) (nomark _))
        (pe_one (pe_cmpR op_lt (pe_ix ix_tup (pv 1) pe_int (fun _ _ => rfl)) (pe_ix ix_tup (pv 0) pe_int (fun _ _ => rfl)) (nomark _)))))), ?_⟩
    have no : ¬ (a.x0 < b.x1 ∧ b.x0 < a.x1 ∧ a.y0 < b.y1 ∧ b.y0 < a.y1) → Q (.bl false) H := fun hn => by
      have e : ovl a b = false := decide_eq_false hn
      rw [e] at k
      exact k
    -- first[2] <= second[0]
    refine ⟨_, rfl, p, _, _, .int a.x1, rfl, rfl, SqT.of ha, rfl, _, rfl, q, _, _, .int b.x0, rfl, rfl, SqT.of hb, rfl, _, _, rfl, rfl, _, rfl, ?_⟩
    refine ite2 (fun h1 => iteT (no ?_)) (fun h1 => ?_)
    · have := of_decide_eq_true h1
      omega
    refine ⟨_, rfl, q, _, _, .int b.x1, rfl, rfl, SqT.of hb, rfl, _, rfl, p, _, _, .int a.x0, rfl, rfl, SqT.of ha, rfl, _, _, rfl, rfl, _, rfl, ?_⟩
    refine ite2 (fun h2 => no ?_) (fun h2 => ?_)
    · have := of_decide_eq_true h2
      omega
    have h1' : ¬ a.x1 ≤ b.x0 := fun z => h1 (decide_eq_true z)
    have h2' : ¬ b.x1 ≤ a.x0 := fun z => h2 (decide_eq_true z)
    -- first[1] < second[3] and second[1] < first[3]
    refine ⟨_, rfl, p, _, _, .int a.y0, rfl, rfl, SqT.of ha, rfl, _, rfl, q, _, _, .int b.y1, rfl, rfl, SqT.of hb, rfl, _, _, rfl, rfl, _, rfl, ?_⟩
    refine ite2 (fun h3 => ?_) (fun h3 => no ?_)
    · have h3' := of_decide_eq_true h3
      refine ⟨_, rfl, q, _, _, .int b.y0, rfl, rfl, SqT.of hb, rfl, _, rfl, p, _, _, .int a.y1, rfl, rfl, SqT.of ha, rfl, _, _, rfl, rfl, ?_⟩
      have e : ovl a b = decide (b.y0 < a.y1) := decide_eq_decide.mpr ⟨fun z => z.2.2.2, fun z => by omega⟩
      rw [e] at k
      exact k
    · have h3' : ¬ a.y0 < b.y1 := fun z => h3 (decide_eq_true z)
      omega

/-! ### moved_by, raw_box -/
theorem scMoved : FnScope ["box", "dx", "dy"] ["box", "dx", "dy"] (defScope (tp 13)) := ⟨rfl, rfl, rfl, by decide +kernel, rfl, by decide +kernel, by decide +kernel⟩
def spMoved : Sp := fun vs H Q _ => ∃ (p : Addr) (b : Bx) (a : Bool) (s : Int), vs = [.ref p, .int (s * (1 - ax a)), .int (s * ax a)] ∧ H p = some (bxT b) ∧ ∀ q, H q = none → Q (.ref q) (upd H q (bxT (mvB a s b)))
theorem mvB_eq (a : Bool) (s : Int) (b : Bx) : bxV (mvB a s b) = [.int (b.x0 + s * (1 - ax a)), .int (b.y0 + s * ax a), .int (b.x1 + s * (1 - ax a)), .int (b.y1 + s * ax a)] := by
  cases a
  · simp only [mvB, bxV, ax, Int.sub_zero, Int.mul_one, Int.mul_zero, Int.add_zero]
  · simp only [mvB, bxV, ax, Int.sub_self, Int.mul_one, Int.mul_zero, Int.add_zero]
theorem ok_moved (D : Dx K mg "moved_by" (tp 13) ["box", "dx", "dy"]) : Cal P w K mg base 1 "moved_by" ["box", "dx", "dy"] spMoved := D.cal fun f fd F => by
  refine F.ok scMoved (fun vs H Q E h => ?_) (fun cdv A outer s H vs Q E hr h => ?_)
  · obtain ⟨p, b, a, s, rfl, _⟩ := h
    rfl
  · obtain ⟨p, b, a, s, rfl, hp, k⟩ := h
    refine ⟨_, pss_one (ps_ret (pe_tup (pa_cons (pe_op op_add (pe_ix ix_tup (pv 0) pe_int (fun _ _ => rfl)) (pv 1)) (pa_cons (pe_op op_add (pe_ix ix_tup (pv 0) pe_int (fun _ _ => rfl)) (pv 2))
      (pa_cons (pe_op op_add (pe_ix ix_tup (pv 0) pe_int (fun _ _ => rfl)) (pv 1)) (pa_cons (pe_op op_add (pe_ix ix_tup (pv 0) pe_int (fun _ _ => rfl)) (pv 2)) pa_nil)))))), ?_⟩
    refine ⟨_, rfl, p, _, _, .int b.x0, rfl, rfl, SqT.of hp, rfl, _, rfl, _, _, rfl, rfl, ?_⟩
    refine ⟨_, rfl, p, _, _, .int b.y0, rfl, rfl, SqT.of hp, rfl, _, rfl, _, _, rfl, rfl, ?_⟩
    refine ⟨_, rfl, p, _, _, .int b.x1, rfl, rfl, SqT.of hp, rfl, _, rfl, _, _, rfl, rfl, ?_⟩
    refine ⟨_, rfl, p, _, _, .int b.y1, rfl, rfl, SqT.of hp, rfl, _, rfl, _, _, rfl, rfl, ?_⟩
    refine ⟨by show 4 ≤ sizeLine; decide, fun q hq => ?_⟩
    have k' := k q hq
    unfold bxT at k'
    rw [mvB_eq] at k'
    exact k'
theorem scRaw : FnScope ["body"] ["body"] (defScope (tp 22)) := ⟨rfl, rfl, rfl, by decide +kernel, rfl, by decide +kernel, by decide +kernel⟩
def spRaw : Sp := fun vs H Q _ => ∃ (p : Addr) (b : Bd), vs = [.ref p] ∧ (H p = some (bdL b) ∨ H p = some (bdT b)) ∧ ∀ q, H q = none → Q (.ref q) (upd H q (bxT (box b)))
theorem ok_raw (D : Dx K mg "raw_box" (tp 22) ["body"]) : Cal P w K mg base 1 "raw_box" ["body"] spRaw := D.cal fun f fd F => by
  refine F.ok scRaw (fun vs H Q E h => ?_) (fun cdv A outer s H vs Q E hr h => ?_)
  · obtain ⟨p, b, rfl, _⟩ := h
    rfl
  · obtain ⟨p, b, rfl, hp, k⟩ := h
    refine ⟨_, pss_one (ps_ret (pe_tup (pa_cons (pe_ix ix_seq (pv 0) pe_int (fun _ _ => rfl)) (pa_cons (pe_ix ix_seq (pv 0) pe_int (fun _ _ => rfl))
      (pa_cons (pe_op op_add (pe_ix ix_seq (pv 0) pe_int (fun _ _ => rfl)) (pe_ix ix_seq (pv 0) pe_int (fun _ _ => rfl))) (pa_cons (pe_op op_add (pe_ix ix_seq (pv 0) pe_int (fun _ _ => rfl)) (pe_ix ix_seq (pv 0) pe_int (fun _ _ => rfl))) pa_nil)))))), ?_⟩
    rcases hp with hp | hp
    · exact ⟨_, rfl, .inl ⟨p, _, _, .int b.x, rfl, rfl, SqL.of hp, rfl, ⟨_, rfl, .inl ⟨p, _, _, .int b.y, rfl, rfl, SqL.of hp, rfl, ⟨_, rfl, .inl ⟨p, _, _, .int b.x, rfl, rfl, SqL.of hp, rfl, ⟨_, rfl, .inl ⟨p, _, _, .int b.w, rfl, rfl, SqL.of hp, rfl, ⟨_, _, rfl, rfl, ⟨_, rfl, .inl ⟨p, _, _, .int b.y, rfl, rfl, SqL.of hp, rfl, ⟨_, rfl, .inl ⟨p, _, _, .int b.h, rfl, rfl, SqL.of hp, rfl, ⟨_, _, rfl, rfl, ⟨by show 4 ≤ sizeLine; decide, fun q hq => k q hq⟩⟩⟩⟩⟩⟩⟩⟩⟩⟩⟩⟩⟩⟩⟩
    · exact ⟨_, rfl, .inr (.inl ⟨p, _, _, .int b.x, rfl, rfl, SqT.of hp, rfl, ⟨_, rfl, .inr (.inl ⟨p, _, _, .int b.y, rfl, rfl, SqT.of hp, rfl, ⟨_, rfl, .inr (.inl ⟨p, _, _, .int b.x, rfl, rfl, SqT.of hp, rfl, ⟨_, rfl, .inr (.inl ⟨p, _, _, .int b.w, rfl, rfl, SqT.of hp, rfl, ⟨_, _, rfl, rfl, ⟨_, rfl, .inr (.inl ⟨p, _, _, .int b.y, rfl, rfl, SqT.of hp, rfl, ⟨_, rfl, .inr (.inl ⟨p, _, _, .int b.h, rfl, rfl, SqT.of hp, rfl, ⟨_, _, rfl, rfl, ⟨by show 4 ≤ sizeLine; decide, fun q hq => k q hq⟩⟩⟩)⟩⟩)⟩⟩⟩)⟩⟩)⟩⟩)⟩⟩)⟩

/-! ### limited, passed -/
theorem scLimited : FnScope ["wish"] ["wish"] (defScope (tp 31)) := ⟨rfl, rfl, rfl, by decide +kernel, rfl, by decide +kernel, by decide +kernel⟩
def spLimited : Sp := fun vs H Q _ => ∃ v : Int, vs = [.int v] ∧ ∀ z : Int, Q (.int z) H
theorem ok_limited (D : Dx K mg "limited" (tp 31) ["wish"]) (B : Bt mg) (Z : Cs mg) : Cal P w K mg base 1 "limited" ["wish"] spLimited := D.cal fun f fd F => by
  obtain ⟨t, hF⟩ := Z.fastest
  refine F.ok scLimited (fun vs H Q E h => ?_) (fun cdv A outer s H vs Q E hr h => ?_)
  · obtain ⟨v, rfl, _⟩ := h
    rfl
  · obtain ⟨v, rfl, q⟩ := h
    refine ⟨_, pss_one (ps_ret (pe_callB (call_max2 rfl) (by rfl) B.max bt_max (pa_cons (pe_un un_neg (pe_gi hF)) (pa_cons (pe_callB (call_min2 rfl) (by rfl) B.min bt_min (pa_cons (pe_gi hF) (pa_cons (pv 0) pa_nil))) pa_nil)))), ?_⟩
    refine ⟨_, rfl, _, rfl, _, _, rfl, ?_⟩
    exact ⟨_, _, rfl, q _⟩
end
end Km
/-! What is a body, what is a space. -/
namespace Km
open PySem L2
theorem iteD {c A B : Prop} [Decidable c] (hc : ¬ c) (h : B) : if decide c = true then A else B := by
  rw [decide_eq_false hc]
  exact iteF h
theorem iteP {c A B : Prop} [Decidable c] (hc : c) (h : A) : if decide c = true then A else B := by
  rw [decide_eq_true hc]
  exact iteT h
section
variable {P : Program} {w : World} {K : PySem.W.Frag} {mg : Str → Option Value} {base : Heap}

/-! ### is_fraction -/
theorem scFraction : FnScope ["value"] ["value"] (defScope (tp 7)) := ⟨rfl, rfl, rfl, by decide +kernel, rfl, by decide +kernel, by decide +kernel⟩
abbrev frT (n d : Int) : HO := .tup [.int n, .int d]
def spFraction : Sp := fun vs H Q _ => ∃ (p : Addr) (n d : Int), vs = [.ref p] ∧ H p = some (frT n d) ∧ 1 ≤ d ∧ Nat.gcd n.natAbs d.natAbs = 1 ∧ Q (.bl true) H
theorem ok_fraction (D : Dx K mg "is_fraction" (tp 7) ["value"]) (B : Bt mg) (Z : Cs mg) (cW : Cal P w K mg base 1 "is_whole" ["value"] spWhole) : Cal P w K mg base 2 "is_fraction" ["value"] spFraction := D.cal fun f fd F => by
  refine F.ok scFraction (fun vs H Q E h => ?_) (fun cdv A outer s H vs Q E hr h => ?_)
  · obtain ⟨p, n, d, rfl, _⟩ := h
    rfl
  · obtain ⟨p, n, d, rfl, hp, hd, hg, k⟩ := h
    refine ⟨_, pss_cons (ps_if (PW.pt (pw_or (pt_not (pt_val (pe_callB call_isi (by rfl) B.isinstance bt_isinstance (pa_cons (pv 0) (pa_cons (pe_ty B.tuple bt_tuple) pa_nil)))))
        (pw_or1 (pt_cmpR op_ne (pe_callB call_len_seq (by rfl) B.len PySem.boot_len (pa_cons (pv 0) pa_nil)) pe_int (nomark _))))) (pss_one (ps_ret pe_bl)) pss_nil)
      (pss_cons (ps_if (PW.pt (pw_or (pt_not (pt_val (pe_cal cW hr (pa_cons (pe_ix ix_tup (pv 0) pe_int (fun _ _ => rfl)) pa_nil))))
        (pw_or (pt_not (pt_val (pe_cal cW hr (pa_cons (pe_ix ix_tup (pv 0) pe_int (fun _ _ => rfl)) pa_nil)))) (pw_or1 (pt_cmpR op_lt (pe_ix ix_tup (pv 0) pe_int (fun _ _ => rfl)) pe_int (nomark _)))))) (pss_one (ps_ret pe_bl)) pss_nil)
      (pss_one (ps_ret (pe_cmpR op_eq (pe_callBfun cr_gcd (by rfl) Z.gcd (pa_cons (pe_ix ix_tup (pv 0) pe_int (fun _ _ => rfl)) (pa_cons (pe_ix ix_tup (pv 0) pe_int (fun _ _ => rfl)) pa_nil))) pe_int (nomark _))))), ?_⟩
    refine ⟨_, rfl, _, _, _, _, true, rfl, .ty _, .base (.tup hp), kit_ty kb_tt, true, rfl, iteF ?_⟩
    refine ⟨_, rfl, p, _, rfl, .inr (SqT.of hp), rfl, _, rfl, iteNS rfl ?_⟩
    refine ⟨_, rfl, p, _, _, .int n, rfl, rfl, SqT.of hp, rfl, n, rfl, true, rfl, iteF ?_⟩
    refine ⟨_, rfl, p, _, _, .int d, rfl, rfl, SqT.of hp, rfl, d, rfl, true, rfl, iteF ?_⟩
    refine ⟨_, rfl, p, _, _, .int d, rfl, rfl, SqT.of hp, rfl, _, _, rfl, rfl, _, rfl, iteD (by omega) ?_⟩
    refine ⟨_, rfl, p, _, _, .int n, rfl, rfl, SqT.of hp, rfl, _, rfl, p, _, _, .int d, rfl, rfl, SqT.of hp, rfl, n, d, rfl, rfl, ?_⟩
    rw [hg]
    exact k

/-! ### is_box -/
theorem scBox : FnScope ["value", "part"] ["value"] (defScope (tp 11)) := ⟨rfl, rfl, rfl, by decide +kernel, rfl, by decide +kernel, by decide +kernel⟩
def spIsBox : Sp := fun vs H Q _ => ∃ (p : Addr) (b : Bx), vs = [.ref p] ∧ H p = some (bxT b) ∧ inW b = true ∧ b.x0 < b.x1 ∧ b.y0 < b.y1 ∧ ∀ H', Same H H' → Q (.bl true) H'
def bxI (b : Bx) : List Int := [b.x0, b.y0, b.x1, b.y1]
theorem bxI_all (b : Bx) : ((bxI b).map crd).all id = inW b := by
  simp only [bxI, inW, List.map_cons, List.map_nil, List.all_cons, List.all_nil, id_eq, Bool.and_true]
theorem ok_isbox (D : Dx K mg "is_box" (tp 11) ["value"]) (B : Bt mg) (cC : Cal P w K mg base 3 "is_coordinate" ["value"] spCoord) : Cal P w K mg base 4 "is_box" ["value"] spIsBox := D.cal fun f fd F => by
  refine F.ok scBox (fun vs H Q E h => ?_) (fun cdv A outer s H vs Q E hr h => ?_)
  · obtain ⟨p, b, rfl, _⟩ := h
    rfl
  · obtain ⟨p, b, rfl, hp, hw, hx, hy, k⟩ := h
    refine ⟨_, pss_cons (ps_if (PW.pt (pw_or (pt_not (pt_val (pe_callB call_isi (by rfl) B.isinstance bt_isinstance (pa_cons (pv 0) (pa_cons (pe_ty B.tuple bt_tuple) pa_nil)))))
        (pw_or (pt_cmpR op_ne (pe_callB call_len_seq (by rfl) B.len PySem.boot_len (pa_cons (pv 0) pa_nil)) pe_int (nomark _))
        (pw_or1 (pt_not (pt_val (pe_callB (cr_all rfl) (by rfl) B.all bt_all (pa_cons (pe_lc (own := [("part", 1)]) (g := gName 1) (tt := tYes) rfl scBox.nd (pi_tup (pv 0)) (blkOk_by (own := [("part", 1)]) (N := ["value", "part"]) (sc := defScope (tp 11)) (by decide +kernel))
          (fun _ _ _ _ _ => pg_name (i := 1) scBox.nd rfl (Or.inl rfl)) (fun _ _ _ _ _ => pts_nil) (fun _ _ _ _ _ => pe_cal cC hr (pa_cons (pv 1) pa_nil))) pa_nil)))))))) (pss_one (ps_ret pe_bl)) pss_nil)
      (pss_one (ps_ret (pe_and (pe_cmpR op_lt (pe_ix ix_tup (pv 0) pe_int (fun _ _ => rfl)) (pe_ix ix_tup (pv 0) pe_int (fun _ _ => rfl)) (nomark _)) (pe_one (pe_cmpR op_lt (pe_ix ix_tup (pv 0) pe_int (fun _ _ => rfl)) (pe_ix ix_tup (pv 0) pe_int (fun _ _ => rfl)) (nomark _)))))), ?_⟩
    refine ⟨_, rfl, _, _, _, _, true, rfl, .ty _, .base (.tup hp), kit_ty kb_tt, true, rfl, iteF ?_⟩
    refine ⟨_, rfl, p, _, rfl, .inr (SqT.of hp), rfl, _, rfl, iteNS rfl ?_⟩
    refine ⟨_, rfl, p, rfl, ⟨_, SqT.of hp⟩, fun D hD => ?_⟩
    refine lc_tupM (bxI b) V.int (fun n => .bl (crd n)) hD (by show 4 < sizeLine; decide) (fun _ => rfl) (fun i n H1 Q' _ _ q => ⟨_, rfl, n, rfl, q _ (Same.refl _)⟩) (fun H1 s1 hL => ?_) (SqT.of hp)
    refine ⟨D, (bxI b).map crd, rfl, SqL.of (by rw [hL, List.map_map]; rfl), _, rfl, ?_⟩
    rw [bxI_all, hw]
    refine iteF ?_
    have hp1 := s1 _ _ hp
    refine ⟨_, rfl, p, _, _, .int b.x0, rfl, rfl, SqT.of hp1, rfl, _, rfl, p, _, _, .int b.x1, rfl, rfl, SqT.of hp1, rfl, _, _, rfl, rfl, _, rfl, iteP hx ?_⟩
    refine ⟨_, rfl, p, _, _, .int b.y0, rfl, rfl, SqT.of hp1, rfl, _, rfl, p, _, _, .int b.y1, rfl, rfl, SqT.of hp1, rfl, _, _, rfl, rfl, ?_⟩
    have e : decide (b.y0 < b.y1) = true := decide_eq_true hy
    show Q (.bl (decide (b.y0 < b.y1))) H1
    rw [e]
    exact k H1 s1

/-! ### is_name -/
theorem scName : FnScope ["value", "sign"] ["value"] (defScope (tp 17)) := ⟨rfl, rfl, rfl, by decide +kernel, rfl, by decide +kernel, by decide +kernel⟩
def spName : Sp := fun vs H Q _ => ∃ z : Str, vs = [.str z] ∧ OkN z ∧ ∀ H', Same H H' → Q (.bl true) H'
def okSign (c : Nat) : Bool := decide (c ∈ lettersL) || decide (c ∈ digitsL)
theorem ok_name (D : Dx K mg "is_name" (tp 17) ["value"]) (B : Bt mg) (Z : Cs mg) : Cal P w K mg base 1 "is_name" ["value"] spName := D.cal fun f fd F => by
  obtain ⟨t1, hL⟩ := Z.letters
  obtain ⟨t2, hG⟩ := Z.digits
  refine F.ok scName (fun vs H Q E h => ?_) (fun cdv A outer s H vs Q E hr h => ?_)
  · obtain ⟨z, rfl, _⟩ := h
    rfl
  · obtain ⟨z, rfl, o, k⟩ := h
    refine ⟨_, pss_cons (ps_if (PW.pt (pw_or (pt_not (pt_val (pe_callB call_isi (by rfl) B.isinstance bt_isinstance (pa_cons (pv 0) (pa_cons (pe_ty B.str bt_str) pa_nil)))))
        (pw_or (pt_not (pt_chain op_le op_le pe_int (pe_callB call_len_str (by rfl) B.len PySem.boot_len (pa_cons (pv 0) pa_nil)) pe_int))
        (pw_or1 (pt_cmpR op_notIn_sign (pe_ix ix_str (pv 0) pe_int (fun _ _ => rfl)) (pe_gs hL) (by rfl)))))) (pss_one (ps_ret pe_bl)) pss_nil)
      (pss_one (ps_ret (pe_callB (cr_all rfl) (by rfl) B.all bt_all (pa_cons (pe_lc (own := [("sign", 1)]) (g := gName 1) (tt := tYes) rfl scName.nd (pi_str (pv 0)) (blkOk_by (own := [("sign", 1)]) (N := ["value", "sign"]) (sc := defScope (tp 17)) (by decide +kernel))
          (fun _ _ _ _ _ => pg_name (i := 1) scName.nd rfl (Or.inl rfl)) (fun _ _ _ _ _ => pts_nil) (fun _ _ _ _ _ => pe_or (pe_cmpR op_in_sign (pv 1) (pe_gs hL) (by rfl)) (pe_one (pe_cmpR op_in_sign (pv 1) (pe_gs hG) (by rfl))))) pa_nil)))), ?_⟩
    have hsz : z.length ≤ sizeLine := Nat.le_trans o.l2 (by decide)
    have h1 : (1 : Int) ≤ (z.length : Int) := by have := o.l1; omega
    have h2 : (z.length : Int) ≤ 12 := by have := o.l2; omega
    obtain ⟨c, hc, hcl⟩ := o.hd
    refine ⟨_, rfl, _, _, _, _, true, rfl, .ty _, .base (.str z), kit_ty kb_ss, true, rfl, iteF ?_⟩
    refine ⟨_, rfl, z, rfl, hsz, _, _, rfl, rfl, _, rfl, iteP h1 ⟨_, _, rfl, rfl, _, rfl, ?_⟩⟩
    refine iteNS h2 ?_
    refine ⟨_, rfl, z, 0, c, rfl, rfl, hsz, atI_nat (j := 0) hc, c, _, rfl, rfl, _, rfl, iteNS hcl ?_⟩
    refine ⟨_, rfl, z, rfl, fun D hD => ?_⟩
    have hn : z.cps.toList.length = z.cps.size := Array.length_toList
    refine lc_vals (walk_str (z := z)) (fun i x => ∃ c, z.cps.toList[i]? = some c ∧ x = .str ⟨#[c]⟩) (fun i H x H' _ _ y => ⟨y.1, ?_⟩) (z.cps.toList.map fun c => .bl (okSign c)) (by rw [List.length_map, hn]) hD ?_ (fun _ _ => trivial) (fun _ => rfl) (fun i x y H1 Q' hx hy _ q => ?_) (fun H1 s1 hL1 => ?_)
    · obtain ⟨c, h1, h2⟩ := y.2
      exact ⟨c, by simpa using h1, h2⟩
    · exact Nat.lt_of_le_of_lt o.l2 (by decide)
    · obtain ⟨c, h1, rfl⟩ := hx
      have e := map_get (f := fun c => V.bl (okSign c)) h1
      rw [e] at hy
      have e' := Option.some.inj hy
      subst e'
      refine ⟨_, rfl, c, _, rfl, rfl, _, rfl, ite2 (fun h => ?_) (fun h => ?_)⟩
      · have q' := q H1 (Same.refl _)
        have e2 : okSign c = true := by
          unfold okSign
          rw [Bool.or_eq_true]
          exact .inl h
        rw [e2] at q'
        exact q'
      · refine ⟨_, rfl, c, _, rfl, rfl, ?_⟩
        have q' := q H1 (Same.refl _)
        have e2 : okSign c = decide (c ∈ digitsL) := by
          unfold okSign
          rw [show decide (c ∈ lettersL) = false from Bool.eq_false_iff.mpr h, Bool.false_or]
        rw [e2] at q'
        exact q'
    · refine ⟨D, z.cps.toList.map okSign, rfl, SqL.of (by rw [hL1, List.map_map]; rfl), ?_⟩
      have e : (z.cps.toList.map okSign).all id = true := by
        rw [List.all_eq_true]
        intro b hb
        obtain ⟨c, hc, rfl⟩ := List.mem_map.mp hb
        unfold okSign
        rcases o.al c hc with h | h
        · rw [id_eq, decide_eq_true h, Bool.true_or]
        · rw [id_eq, decide_eq_true h, Bool.or_true]
      show Q (.bl ((z.cps.toList.map okSign).all id)) H1
      rw [e]
      exact k H1 s1
end
end Km
/-! Bodies, spaces, their checks; momentum; passed. -/
namespace Km
open PySem L2
section
variable {P : Program} {w : World} {K : PySem.W.Frag} {mg : Str → Option Value} {base : Heap}

/-! ### is_body -/
theorem scBody : FnScope ["value", "mass", "part"] ["value"] (defScope (tp 23)) := ⟨rfl, rfl, rfl, by decide +kernel, rfl, by decide +kernel, by decide +kernel⟩
def spIsBody : Sp := fun vs H Q _ => ∃ (p : Addr) (b : Bd), vs = [.ref p] ∧ H p = some (bdT b) ∧ GoodBd b ∧ ∀ H', Same H H' → Q (.bl true) H'
theorem good_inW {b : Bd} (g : GoodBd b) : inW (box b) = true := by
  have := g.x; have := g.y; have := g.xw; have := g.yh; have := g.w1; have := g.h1
  simp only [inW, box, Bool.and_eq_true, crd_iff]
  omega
theorem ok_isbody (D : Dx K mg "is_body" (tp 23) ["value"]) (B : Bt mg) (Z : Cs mg) (cW : Cal P w K mg base 1 "is_whole" ["value"] spWhole) (cT : Cal P w K mg base 2 "is_between" ["value", "low", "high"] spBetween)
    (cC : Cal P w K mg base 3 "is_coordinate" ["value"] spCoord) (cX : Cal P w K mg base 4 "is_box" ["value"] spIsBox) (cN : Cal P w K mg base 1 "is_name" ["value"] spName) (cR : Cal P w K mg base 1 "raw_box" ["body"] spRaw) :
    Cal P w K mg base 5 "is_body" ["value"] spIsBody := D.cal fun f fd F => by
  obtain ⟨t1, hLo⟩ := Z.longest
  obtain ⟨t2, hHe⟩ := Z.heaviest
  refine F.ok scBody (fun vs H Q E h => ?_) (fun cdv A outer s H vs Q E hr h => ?_)
  · obtain ⟨p, b, rfl, _⟩ := h
    rfl
  · obtain ⟨p, b, rfl, hp, g, k⟩ := h
    have r1 : Room 1 _ := hr.mono (by decide)
    have r2 : Room 2 _ := hr.mono (by decide)
    have r3 : Room 3 _ := hr.mono (by decide)
    refine ⟨_, pss_cons (ps_if (PW.pt (pw_or (pt_not (pt_val (pe_callB call_isi (by rfl) B.isinstance bt_isinstance (pa_cons (pv 0) (pa_cons (pe_ty B.tuple bt_tuple) pa_nil)))))
        (pw_or (pt_cmpR op_ne (pe_callB call_len_seq (by rfl) B.len PySem.boot_len (pa_cons (pv 0) pa_nil)) pe_int (nomark _))
        (pw_or1 (pt_not (pt_val (pe_cal cN r1 (pa_cons (pe_ix ix_tup (pv 0) pe_int (fun _ _ => rfl)) pa_nil)))))))) (pss_one (ps_ret pe_bl)) pss_nil)
      (pss_cons (ps_if (PW.pt (pw_or (pt_not (pt_val (pe_cal cC r3 (pa_cons (pe_ix ix_tup (pv 0) pe_int (fun _ _ => rfl)) pa_nil)))) (pw_or1 (pt_not (pt_val (pe_cal cC r3 (pa_cons (pe_ix ix_tup (pv 0) pe_int (fun _ _ => rfl)) pa_nil))))))) (pss_one (ps_ret pe_bl)) pss_nil)
      (pss_cons (ps_if (PW.pt (pw_or (pt_not (pt_val (pe_cal cT r2 (pa_cons (pe_ix ix_tup (pv 0) pe_int (fun _ _ => rfl)) (pa_cons pe_int (pa_cons (pe_gi hLo) pa_nil))))))
        (pw_or (pt_not (pt_val (pe_cal cT r2 (pa_cons (pe_ix ix_tup (pv 0) pe_int (fun _ _ => rfl)) (pa_cons pe_int (pa_cons (pe_gi hLo) pa_nil))))))
        (pw_or1 (pt_not (pt_val (pe_cal cX hr (pa_cons (pe_cal cR r1 (pa_cons (pv 0) pa_nil)) pa_nil)))))))) (pss_one (ps_ret pe_bl)) pss_nil)
      (pss_cons (ps_set (i := 1) scBody.nd rfl (.inl rfl) (pe_ix ix_tup (pv 0) pe_int (fun _ _ => rfl)))
      (pss_cons (ps_if (PW.pt (pw_or (pt_not (pt_val (pe_cal cT r2 (pa_cons (pv 1) (pa_cons pe_int (pa_cons (pe_gi hHe) pa_nil))))))
        (pw_or (pt_not (pt_val (pe_cal cW r1 (pa_cons (pe_ix ix_tup (pv 0) pe_int (fun _ _ => rfl)) pa_nil)))) (pw_or1 (pt_not (pt_val (pe_cal cW r1 (pa_cons (pe_ix ix_tup (pv 0) pe_int (fun _ _ => rfl)) pa_nil)))))))) (pss_one (ps_ret pe_bl)) pss_nil)
      (pss_cons (ps_if (pt_cmpR op_eq (pv 1) pe_int (nomark _)) (pss_one (ps_ret (pe_callB (cr_all rfl) (by rfl) B.all bt_all (pa_cons (pe_lc (own := [("part", 2)]) (g := gName 2) (tt := tYes) rfl scBody.nd (pi_tup (pe_slice sl_tup (pv 0) (po_some pe_int) po_none))
          (blkOk_by (own := [("part", 2)]) (N := ["value", "mass", "part"]) (sc := defScope (tp 23)) (by decide +kernel)) (fun _ _ _ _ _ => pg_name (i := 2) scBody.nd rfl (Or.inl rfl)) (fun _ _ _ _ _ => pts_nil)
          (fun _ _ _ _ _ => pe_and (pe_cal cW r1 (pa_cons (pv 2) pa_nil)) (pe_one (pe_cmpR op_eq (pv 2) pe_int (nomark _))))) pa_nil)))) pss_nil)
      (pss_one (ps_ret (pe_and (pe_cal cT r2 (pa_cons (pe_ix ix_tup (pv 0) pe_int (fun _ _ => rfl)) (pa_cons pe_int (pa_cons (pe_op op_sub (pv 1) pe_int) pa_nil))))
        (pe_one (pe_cal cT r2 (pa_cons (pe_ix ix_tup (pv 0) pe_int (fun _ _ => rfl)) (pa_cons pe_int (pa_cons (pe_op op_sub (pv 1) pe_int) pa_nil))))))))))))), ?_⟩
    have gx := g.x; have gy := g.y; have gxw := g.xw; have gyh := g.yh; have gw1 := g.w1; have gw2 := g.w2; have gh1 := g.h1; have gh2 := g.h2; have gm0 := g.m0; have gm1 := g.m1
    refine ⟨_, rfl, _, _, _, _, true, rfl, .ty _, .base (.tup hp), kit_ty kb_tt, true, rfl, iteF ?_⟩
    refine ⟨_, rfl, p, _, rfl, .inr (SqT.of hp), rfl, _, rfl, iteNS rfl ?_⟩
    refine ⟨_, rfl, p, _, _, .str b.nm, rfl, rfl, SqT.of hp, rfl, _, rfl, g.nm, fun H1 s1 => ⟨true, rfl, iteF ?_⟩⟩
    have hp1 := s1 _ _ hp
    refine ⟨_, rfl, p, _, _, .int b.x, rfl, rfl, SqT.of hp1, rfl, _, rfl, true, ?_, iteF ?_⟩
    · rw [crd_iff.mpr ⟨gx, by omega⟩]
    refine ⟨_, rfl, p, _, _, .int b.y, rfl, rfl, SqT.of hp1, rfl, _, rfl, true, ?_, iteF ?_⟩
    · rw [crd_iff.mpr ⟨gy, by omega⟩]
    refine ⟨_, rfl, p, _, _, .int b.w, rfl, rfl, SqT.of hp1, rfl, _, _, _, rfl, true, ?_, iteF ?_⟩
    · rw [decide_eq_true ⟨gw1, gw2⟩]
    refine ⟨_, rfl, p, _, _, .int b.h, rfl, rfl, SqT.of hp1, rfl, _, _, _, rfl, true, ?_, iteF ?_⟩
    · rw [decide_eq_true ⟨gh1, gh2⟩]
    refine ⟨_, rfl, p, b, rfl, .inr hp1, fun q hq => ⟨q, box b, rfl, upd_same, good_inW g, show b.x < b.x + b.w by omega, show b.y < b.y + b.h by omega, fun H2 s2 => ⟨true, rfl, iteF ?_⟩⟩⟩
    have s3 : Same H1 H2 := (same_upd hq).trans s2
    have hp2 := s3 _ _ hp1
    refine ⟨_, rfl, p, _, _, .int b.m, rfl, rfl, SqT.of hp2, rfl, ?_⟩
    refine ⟨_, rfl, _, _, _, rfl, true, ?_, iteF ?_⟩
    · rw [decide_eq_true ⟨gm0, gm1⟩]
    refine ⟨_, rfl, p, _, _, .int b.px, rfl, rfl, SqT.of hp2, rfl, _, rfl, true, rfl, iteF ?_⟩
    refine ⟨_, rfl, p, _, _, .int b.py, rfl, rfl, SqT.of hp2, rfl, _, rfl, true, rfl, iteF ?_⟩
    refine ⟨_, rfl, rfl, _, rfl, ite2 (fun e => ?_) (fun e => ?_)⟩
    · have em : b.m = 0 := V.int.inj (of_decide_eq_true e)
      obtain ⟨e1, e2, e3, e4⟩ := g.fx em
      refine ⟨_, rfl, 6, rfl, p, _, rfl, SqT.of hp2, (show ¬ (HT.sIx 10 0 (some 6) = 0 ∧ HT.sIx 10 10 none = 10) from by decide), fun q hq => ?_⟩
      have ec : cutV (bdV b) (some 6) none = ([b.px, b.py, b.cx, b.cy] : List Int).map V.int := rfl
      rw [ec, e1, e2, e3, e4]
      refine ⟨q, rfl, ⟨_, SqT.of upd_same⟩, fun D hD => ?_⟩
      refine lc_tupM ([0, 0, 0, 0] : List Int) V.int (fun n => .bl (decide (V.int n = V.int 0))) hD (by show 4 < sizeLine; decide) (fun _ => rfl) (fun i n H3 Q' _ _ q' => ?_) (fun H3 s4 hL => ?_) (SqT.of upd_same)
      · exact ⟨_, rfl, n, rfl, true, rfl, iteT ⟨_, rfl, rfl, q' _ (Same.refl _)⟩⟩
      · refine ⟨D, [true, true, true, true], rfl, SqL.of (by rw [hL]; rfl), ?_⟩
        exact k H3 (s1.trans (s3.trans ((same_upd hq).trans s4)))
    · have em : b.m ≠ 0 := fun z => e (decide_eq_true (by rw [z]))
      obtain ⟨f1, f2, f3, f4⟩ := g.fr em
      refine ⟨_, rfl, p, _, _, .int b.cx, rfl, rfl, SqT.of hp2, rfl, _, rfl, _, _, rfl, rfl, _, _, _, rfl, true, ?_, iteT ?_⟩
      · rw [decide_eq_true ⟨f1, by omega⟩]
      refine ⟨_, rfl, p, _, _, .int b.cy, rfl, rfl, SqT.of hp2, rfl, _, rfl, _, _, rfl, rfl, _, _, _, rfl, ?_⟩
      rw [decide_eq_true ⟨f3, by omega⟩]
      exact k H2 (s1.trans s3)

/-! ### is_space -/
theorem scSpace : FnScope ["value", "body", "at", "other"] ["value"] (defScope (tp 28)) := ⟨rfl, rfl, rfl, by decide +kernel, rfl, by decide +kernel, by decide +kernel⟩
def spIsSpace : Sp := fun vs H Q _ => ∃ (p : Addr) (bs : List Bd), vs = [.ref p] ∧ SpAt H p bs ∧ GoodSp bs ∧ ∀ H', Same H H' → Q (.bl true) H'
theorem line12 {n : Nat} (h : n ≤ 12) : n < sizeLine := Nat.lt_of_le_of_lt h (by decide)
theorem all_true {n : Nat} : (List.replicate n true).all id = true := by
  rw [List.all_eq_true]
  intro b hb
  rw [List.mem_replicate] at hb
  exact hb.2
theorem any_false {n : Nat} : (List.replicate n false).any id = false := by
  rw [List.any_eq_false]
  intro b hb
  rw [List.mem_replicate] at hb
  rw [hb.2]
  decide
theorem map_const {α : Type} (l : List α) (v : V) : l.map (fun _ => v) = List.replicate l.length v := by
  induction l with
  | nil => rfl
  | cons a r ih => rw [List.map_cons, ih]; rfl
theorem rep_bl (n : Nat) (k : Bool) : (List.replicate n k).map V.bl = List.replicate n (V.bl k) := by rw [List.map_replicate]
theorem cut_to (xs : List V) {k : Nat} (h : k ≤ xs.length) : cutV xs none (some (k : Int)) = xs.take k := by
  unfold cutV
  rw [HT.sIx_none, show HT.sIx xs.length xs.length (some (k : Int)) = min k xs.length from HT.sIx_nat _ _ k, Nat.min_eq_left h]
  rfl
theorem ok_isspace (D : Dx K mg "is_space" (tp 28) ["value"]) (B : Bt mg) (Z : Cs mg) (cO : Cal P w K mg base 1 "do_overlap" ["first", "second"] spOverlap) (cR : Cal P w K mg base 1 "raw_box" ["body"] spRaw)
    (cB : Cal P w K mg base 5 "is_body" ["value"] spIsBody) : Cal P w K mg base 6 "is_space" ["value"] spIsSpace := D.cal fun f fd F => by
  obtain ⟨t1, hM⟩ := Z.most
  refine F.ok scSpace (fun vs H Q E h => ?_) (fun cdv A outer s H vs Q E hr h => ?_)
  · obtain ⟨p, b, rfl, _⟩ := h
    rfl
  · obtain ⟨p, bs, rfl, ⟨as, hp, hL⟩, g, k⟩ := h
    have r1 : Room 1 _ := hr.mono (by decide)
    refine ⟨_, pss_cons (ps_if (PW.pt (pw_or (pt_not (pt_val (pe_callB call_isi (by rfl) B.isinstance bt_isinstance (pa_cons (pv 0) (pa_cons (pe_ty B.tuple bt_tuple) pa_nil)))))
        (pw_or (pt_cmpR op_gt (pe_callB call_len_seq (by rfl) B.len PySem.boot_len (pa_cons (pv 0) pa_nil)) (pe_gi hM) (nomark _))
        (pw_or1 (pt_not (pt_val (pe_callB (cr_all rfl) (by rfl) B.all bt_all (pa_cons (pe_lc (own := [("body", 1)]) (g := gName 1) (tt := tYes) rfl scSpace.nd (pi_tup (pv 0))
          (blkOk_by (own := [("body", 1)]) (N := ["value", "body", "at", "other"]) (sc := defScope (tp 28)) (by decide +kernel)) (fun _ _ _ _ _ => pg_name (i := 1) scSpace.nd rfl (Or.inl rfl)) (fun _ _ _ _ _ => pts_nil)
          (fun _ _ _ _ _ => pe_cal cB hr (pa_cons (pv 1) pa_nil))) pa_nil)))))))) (pss_one (ps_ret pe_bl)) pss_nil)
      (pss_cons (ps_for PassesOwn.never rfl (pi_range1 (by rfl) B.range (pa_cons (pe_op op_sub (pe_callB call_len_seq (by rfl) B.len PySem.boot_len (pa_cons (pv 0) pa_nil)) pe_int) pa_nil)) (pg_name (i := 2) scSpace.nd rfl (Or.inl rfl))
        (pss_one (ps_if (pt_cmpR op_ge_str (pe_ix ix_tup (pe_ix ix_tup (pv 0) (pv 2) (fun _ _ => rfl)) pe_int (fun _ _ => rfl)) (pe_ix ix_tup (pe_ix ix_tup (pv 0) (pe_op op_add (pv 2) pe_int) (fun _ _ => rfl)) pe_int (fun _ _ => rfl)) (nomark _))
          (pss_one (ps_ret pe_bl)) pss_nil)))
      (pss_cons (ps_for PassesOwn.never rfl (pi_enumT B.enumerate (pa_cons (pv 0) pa_nil)) (pg_tup rfl (pgs_cons (pg_name (i := 2) scSpace.nd rfl (Or.inl rfl)) (pgs_cons (pg_name (i := 1) scSpace.nd rfl (Or.inr rfl)) pgs_nil)))
        (pss_one (ps_if (pt_val (pe_callB (cr_any rfl) (by rfl) B.any bt_any (pa_cons (pe_lc (own := [("other", 3)]) (g := gName 3) (tt := tYes) rfl scSpace.nd (pi_tup (pe_slice sl_tup (pv 0) po_none (po_some (pv 2))))
          (blkOk_by (own := [("other", 3)]) (N := ["value", "body", "at", "other"]) (sc := defScope (tp 28)) (by decide +kernel)) (fun _ _ _ _ _ => pg_name (i := 3) scSpace.nd rfl (Or.inl rfl)) (fun _ _ _ _ _ => pts_nil)
          (fun _ _ _ _ _ => pe_cal cO r1 (pa_cons (pe_cal cR r1 (pa_cons (pv 1) pa_nil)) (pa_cons (pe_cal cR r1 (pa_cons (pv 3) pa_nil)) pa_nil)))) pa_nil))) (pss_one (ps_ret pe_bl)) pss_nil)))
      (pss_one (ps_ret pe_bl)))), ?_⟩
    have hlen := hL.len
    have hl12 := g.len
    have hz : bs.length < sizeLine := line12 hl12
    -- the first check
    refine ⟨_, rfl, _, _, _, _, true, rfl, .ty _, .base (.tup hp), kit_ty kb_tt, true, rfl, iteF ?_⟩
    refine ⟨_, rfl, p, _, rfl, .inr (SqT.of hp), _, _, rfl, rfl, _, rfl, iteD (by rw [List.length_map]; omega) ?_⟩
    refine ⟨_, rfl, p, rfl, ⟨_, SqT.of hp⟩, fun D hD => ?_⟩
    refine lc_at (walk_tup (K := K) (a := p) (xs := as.map V.ref)) (fun _ => V.bl true) hL (fun H' s' => SqT.of (s' _ _ hp)) hD hz (fun _ => rfl) (fun i q b H' Q' hq hb hqb s' q' => ?_) (fun H1 s1 hD1 => ?_)
    · exact ⟨_, rfl, q, b, rfl, hqb, g.all i b hb, fun H2 s2 => q' H2 s2⟩
    refine ⟨D, List.replicate bs.length true, rfl, SqL.of (by rw [hD1, map_const, rep_bl]), true, ?_, iteF ?_⟩
    · rw [all_true]
    -- the order of the names
    have hp1 := s1 _ _ hp
    refine ⟨_, rfl, p, _, rfl, .inr (SqT.of hp1), _, _, rfl, rfl, _, rfl, by rw [List.length_map]; omega, by rw [List.length_map]; omega, ?_⟩
    refine for_range (lo := 0) (fun i σ H' => Same H H' ∧ ∃ x, σ = [some (.ref p), none, x, none]) ⟨s1, _, rfl⟩ ?_ ?_
    · rintro i σ H' hi ⟨sH, x, rfl⟩
      have hi' : i + 1 < bs.length := by
        rw [List.length_map] at hi
        omega
      have g1 : bs[i]? = some bs[i] := List.getElem?_eq_getElem (by omega)
      have g2 : bs[i + 1]? = some bs[i + 1] := List.getElem?_eq_getElem hi'
      obtain ⟨a1, e1, h1⟩ := hL.addr g1
      obtain ⟨a2, e2, h2⟩ := hL.addr g2
      have hpH := sH _ _ hp
      have h1' := sH _ _ h1
      have h2' := sH _ _ h2
      refine ⟨_, rfl, _, rfl, p, _, _, .ref a1, rfl, rfl, SqT.of hpH, at_of (j := i) (by omega) (map_get e1), a1, _, _, .str bs[i].nm, rfl, rfl, SqT.of h1', rfl, ?_⟩
      refine ⟨_, rfl, _, rfl, _, _, rfl, rfl, p, _, _, .ref a2, rfl, rfl, SqT.of hpH, at_of (j := i + 1) (by omega) (map_get e2), a2, _, _, .str bs[i + 1].nm, rfl, rfl, SqT.of h2', rfl, ?_⟩
      refine ⟨_, _, rfl, rfl, _, rfl, ?_⟩
      refine iteNS (g.ord i (i + 1) _ _ (by omega) g1 g2) ?_
      exact ⟨sH, _, rfl⟩
    · rintro σ H2 ⟨s2, x, rfl⟩
      have hp2 := s2 _ _ hp
      -- no two overlap
      refine ⟨_, rfl, p, _, rfl, SqT.of hp2, ?_⟩
      refine for_it (walk_enumT (K := K) (a := p) (xs := as.map V.ref)) (fun i σ H' => Same H H' ∧ ∃ x y, σ = [some (.ref p), y, x, none]) ⟨s2, _, _, rfl⟩ (fun i σ H' _ q => SqT.of (q.1 _ _ hp)) ?_ ?_
      · rintro i v σ H3 H4 hi ⟨s3, x, y, rfl⟩ ⟨T, x1, x2, rfl, nT, rfl, e1, e2⟩
        have e1' : x1 = .int (i : Nat) := (Option.some.inj e1).symm
        subst e1'
        obtain ⟨a, ea, rfl⟩ := get_of_map e2
        obtain ⟨b, hb, hab⟩ := hL.item ea
        have s4 : Same H (upd H3 T (.tup [V.int (i : Nat), V.ref a])) := same_put s3 nT
        refine ⟨T, _, rfl, SqT.of upd_same, rfl, _, _, rfl, _, _, rfl, rfl, ?_⟩
        generalize upd H3 T (.tup [V.int (i : Nat), V.ref a]) = H4 at s4 ⊢
        have hp4 := s4 _ _ hp
        have hib : i < bs.length := lt_of_get hb
        refine ⟨_, rfl, _, rfl, (i : Nat), rfl, p, _, rfl, SqT.of hp4, ?_, fun q hq => ?_⟩
        · rw [show HT.sIx (as.map V.ref).length (as.map V.ref).length (some ((i : Nat) : Int)) = min i (as.map V.ref).length from HT.sIx_nat _ _ i, List.length_map]
          omega
        have ec : cutV (as.map V.ref) none (some ((i : Nat) : Int)) = (as.take i).map V.ref := by
          rw [cut_to _ (by rw [List.length_map]; omega), List.map_take]
        rw [ec]
        have sq : Same H (upd H4 q (.tup ((as.take i).map V.ref))) := same_put s4 hq
        have hLt : LAt (upd H4 q (.tup ((as.take i).map V.ref))) bdT (as.take i) (bs.take i) := by
          refine ⟨by rw [List.length_take, List.length_take, hlen], fun j a' b' ha' hb' => ?_⟩
          have hj := lt_of_get ha'
          rw [List.length_take] at hj
          rw [List.getElem?_take_of_lt (by omega)] at ha' hb'
          exact sq _ _ (hL.get j a' b' ha' hb')
        refine ⟨q, rfl, ⟨_, SqT.of upd_same⟩, fun D hD => ?_⟩
        refine lc_at (walk_tup (K := K) (a := q) (xs := (as.take i).map V.ref)) (fun _ => V.bl false) hLt (fun H' s' => SqT.of (s' _ _ upd_same)) hD (by rw [List.length_take]; exact Nat.lt_of_le_of_lt (Nat.min_le_right _ _) hz) (fun _ => rfl) (fun j a' b' H' Q' ha' hb' hqb s' q' => ?_) (fun H5 s5 hD5 => ?_)
        · have hj := lt_of_get hb'
          rw [List.length_take] at hj
          rw [List.getElem?_take_of_lt (by omega)] at hb'
          have hab' := s' _ _ (sq _ _ hab)
          refine ⟨_, rfl, a, b, rfl, .inr hab', fun u hu => ⟨_, rfl, a', b', rfl, .inr (same_upd hu _ _ hqb), fun u' hu' => ?_⟩⟩
          have nuu : u ≠ u' := fun e => by
            rw [← e, upd_same] at hu'
            cases hu'
          refine ⟨u, u', box b, box b', rfl, by rw [upd_ne nuu]; exact upd_same, upd_same, ?_⟩
          rw [g.sep i j b b' (by omega) hb hb']
          exact q' _ ((same_upd hu).trans (same_upd hu'))
        · refine ⟨D, List.replicate (bs.take i).length false, rfl, SqL.of (by rw [hD5, map_const, rep_bl]), false, ?_, iteF ?_⟩
          · rw [any_false]
          · exact ⟨sq.trans s5, _, _, rfl⟩
      · rintro σ H3 ⟨s3, x, y, rfl⟩
        exact k H3 s3
end
end Km
/-! The checks that raise; passed; momentum. -/
namespace Km
open PySem L2
section
variable {P : Program} {w : World} {K : PySem.W.Frag} {mg : Str → Option Value} {base : Heap}

/-! ### check_space, check_bounce -/
theorem scCkS : FnScope ["value"] ["value"] (defScope (tp 29)) := ⟨rfl, rfl, rfl, by decide +kernel, rfl, by decide +kernel, by decide +kernel⟩
def spCkS : Sp := fun vs H Q _ => ∃ (p : Addr) (bs : List Bd), vs = [.ref p] ∧ SpAt H p bs ∧ GoodSp bs ∧ ∀ H', Same H H' → Q .non H'
theorem ok_ckspace (D : Dx K mg "check_space" (tp 29) ["value"]) (cS : Cal P w K mg base 6 "is_space" ["value"] spIsSpace) : Cal P w K mg base 7 "check_space" ["value"] spCkS := D.cal fun f fd F => by
  refine F.ok scCkS (fun vs H Q E h => ?_) (fun cdv A outer s H vs Q E hr h => ?_)
  · obtain ⟨p, b, rfl, _⟩ := h
    rfl
  · obtain ⟨p, bs, rfl, hS, g, k⟩ := h
    refine ⟨_, pss_one (ps_if (pt_not (pt_val (pe_cal cS hr (pa_cons (pv 0) pa_nil)))) (pss_one ps_never) pss_nil), ?_⟩
    exact ⟨_, rfl, p, bs, rfl, hS, g, fun H' s' => ⟨true, rfl, iteF (k H' s')⟩⟩
/-- a bounce -/
structure OkBn (n d : Int) : Prop where
  n0 : 0 ≤ n
  nd : n ≤ d
  d1 : 1 ≤ d
  d2 : d ≤ 1000
  g : Nat.gcd n.natAbs d.natAbs = 1
theorem scCkB : FnScope ["value"] ["value"] (defScope (tp 30)) := ⟨rfl, rfl, rfl, by decide +kernel, rfl, by decide +kernel, by decide +kernel⟩
def spCkB : Sp := fun vs H Q _ => ∃ (p : Addr) (n d : Int), vs = [.ref p] ∧ H p = some (frT n d) ∧ OkBn n d ∧ Q .non H
theorem ok_ckbounce (D : Dx K mg "check_bounce" (tp 30) ["value"]) (Z : Cs mg) (cF : Cal P w K mg base 2 "is_fraction" ["value"] spFraction) : Cal P w K mg base 3 "check_bounce" ["value"] spCkB := D.cal fun f fd F => by
  obtain ⟨t, hF⟩ := Z.finest
  refine F.ok scCkB (fun vs H Q E h => ?_) (fun cdv A outer s H vs Q E hr h => ?_)
  · obtain ⟨p, n, d, rfl, _⟩ := h
    rfl
  · obtain ⟨p, n, d, rfl, hp, o, k⟩ := h
    refine ⟨_, pss_one (ps_if (PW.pt (pw_or (pt_not (pt_val (pe_cal cF hr (pa_cons (pv 0) pa_nil))))
      (pw_or (pt_not (pt_chain op_le op_le pe_int (pe_ix ix_tup (pv 0) pe_int (fun _ _ => rfl)) (pe_ix ix_tup (pv 0) pe_int (fun _ _ => rfl))))
      (pw_or1 (pt_cmpR op_gt (pe_ix ix_tup (pv 0) pe_int (fun _ _ => rfl)) (pe_gi hF) (nomark _)))))) (pss_one ps_never) pss_nil), ?_⟩
    refine ⟨_, rfl, p, n, d, rfl, hp, o.d1, o.g, true, rfl, iteF ?_⟩
    refine ⟨_, rfl, p, _, _, .int n, rfl, rfl, SqT.of hp, rfl, _, _, rfl, rfl, _, rfl, iteP o.n0 ?_⟩
    refine ⟨_, rfl, p, _, _, .int d, rfl, rfl, SqT.of hp, rfl, _, _, rfl, rfl, _, rfl, iteNS o.nd ?_⟩
    have := o.d2
    exact ⟨_, rfl, p, _, _, .int d, rfl, rfl, SqT.of hp, rfl, _, _, rfl, rfl, _, rfl, iteD (by omega) k⟩

/-! ### passed -/
theorem scPassed : FnScope ["bounce", "u", "mass", "v", "other", "n", "d", "approach"] ["bounce", "u", "mass", "v", "other"] (defScope (tp 32)) := ⟨rfl, rfl, rfl, by decide +kernel, rfl, by decide +kernel, by decide +kernel⟩
def spPassed : Sp := fun vs H Q _ => ∃ (p : Addr) (n d u m v o : Int), vs = [.ref p, .int u, .int m, .int v, .int o] ∧ H p = some (frT n d) ∧ OkBn n d ∧ 1 ≤ m ∧ m ≤ 100 ∧ 0 ≤ o ∧ o ≤ 100 ∧ ∀ j, 0 ≤ j → Q (.int j) H
theorem mul_lim {a b : Int} (ha : 0 ≤ a) (ha' : a ≤ 1000) (hb : 1 ≤ b) (hb' : b ≤ 200) (h1 : 1 ≤ a) : 0 < a * b ∧ a * b < 1073741824 := by
  have h2 : 0 < a * b := Int.mul_pos (by omega) (by omega)
  have h3 : a * b ≤ 1000 * 200 := Int.mul_le_mul ha' hb' (by omega) (by omega)
  exact ⟨h2, by omega⟩
theorem ok_passed (D : Dx K mg "passed" (tp 32) ["bounce", "u", "mass", "v", "other"]) : Cal P w K mg base 1 "passed" ["bounce", "u", "mass", "v", "other"] spPassed := D.cal fun f fd F => by
  refine F.ok scPassed (fun vs H Q E h => ?_) (fun cdv A outer s H vs Q E hr h => ?_)
  · obtain ⟨p, n, d, u, m, v, o, rfl, _⟩ := h
    rfl
  · obtain ⟨p, n, d, u, m, v, o, rfl, hp, ok, m1, m2, o0, o1, k⟩ := h
    have n0 := ok.n0; have nd := ok.nd; have d1 := ok.d1; have d2 := ok.d2
    refine ⟨_, pss_cons (ps_asg (pv 0) (pg_tup rfl (pgs_cons (pg_name (i := 5) scPassed.nd rfl (Or.inl rfl)) (pgs_cons (pg_name (i := 6) scPassed.nd rfl (Or.inl rfl)) pgs_nil))))
      (pss_cons (ps_if (pt_cmpR op_eq (pv 4) pe_int (nomark _)) (pss_one (ps_ret (pe_ifExp (pt_cmpR op_gt (pv 1) pe_int (nomark _)) (pe_op op_fdiv (pe_op op_mul (pe_op op_add (pv 6) (pv 5)) (pv 1)) (pv 6)) pe_int))) pss_nil)
      (pss_cons (ps_set (i := 7) scPassed.nd rfl (Or.inl rfl) (pe_op op_sub (pe_op op_mul (pv 1) (pv 4)) (pe_op op_mul (pv 3) (pv 2))))
      (pss_one (ps_ret (pe_ifExp (pt_cmpR op_gt (pv 7) pe_int (nomark _)) (pe_op op_fdiv (pe_op op_mul (pe_op op_add (pv 6) (pv 5)) (pv 7)) (pe_op op_mul (pv 6) (pe_op op_add (pv 2) (pv 4)))) pe_int))))), ?_⟩
    refine ⟨_, rfl, p, _, rfl, SqT.of hp, rfl, _, _, rfl, _, _, rfl, rfl, ?_⟩
    refine ⟨_, rfl, rfl, _, rfl, ite2 (fun e => ?_) (fun e => ?_)⟩
    · refine ⟨_, rfl, _, _, rfl, rfl, _, rfl, ite2 (fun hu => ?_) (fun hu => k 0 (Int.le_refl 0))⟩
      have hu' : 0 < u := of_decide_eq_true hu
      refine ⟨_, rfl, _, rfl, _, _, rfl, rfl, _, rfl, _, _, rfl, rfl, .inl ⟨by omega, by omega⟩, _, rfl, _, _, rfl, rfl, ⟨by omega, by omega⟩, k _ ?_⟩
      exact Int.ediv_nonneg (Int.mul_nonneg (by omega) (by omega)) (by omega)
    · have eo : o ≠ 0 := fun z => e (decide_eq_true (by rw [z]))
      refine ⟨_, rfl, _, rfl, _, _, rfl, rfl, .inr ⟨by omega, by omega⟩, _, rfl, _, rfl, _, _, rfl, rfl, .inr ⟨by omega, by omega⟩, _, _, rfl, rfl, ?_⟩
      refine ⟨_, rfl, _, _, rfl, rfl, _, rfl, ite2 (fun hu => ?_) (fun hu => k 0 (Int.le_refl 0))⟩
      have hu' : 0 < u * o - v * m := of_decide_eq_true hu
      have lim := mul_lim (a := d) (b := m + o) (by omega) (by omega) (by omega) (by omega) (by omega)
      refine ⟨_, rfl, _, rfl, _, _, rfl, rfl, _, rfl, _, _, rfl, rfl, .inl ⟨by omega, by omega⟩, _, rfl, _, rfl, _, rfl, _, _, rfl, rfl, _, _, rfl, rfl, .inl ⟨by omega, by omega⟩, _, _, rfl, rfl, lim, k _ ?_⟩
      exact Int.ediv_nonneg (Int.mul_nonneg (by omega) (by omega)) (Int.le_of_lt lim.1)

/-! ### momentum -/
theorem scMomentum : FnScope ["space", "body"] ["space"] (defScope (tp 35)) := ⟨rfl, rfl, rfl, by decide +kernel, rfl, by decide +kernel, by decide +kernel⟩
def spMomentum : Sp := fun vs H Q _ => ∃ (p : Addr) (bs : List Bd), vs = [.ref p] ∧ SpAt H p bs ∧ GoodSp bs ∧ ∀ H' t, Same H H' → H' t = some (.tup [.int (momSum false bs), .int (momSum true bs)]) → Q (.ref t) H'
theorem mom_int (a : Bool) (bs : List Bd) : (bs.map fun b => V.int (mom a b)) = (bs.map (mom a)).map V.int := by rw [List.map_map]; rfl
theorem ok_momentum (D : Dx K mg "momentum" (tp 35) ["space"]) (B : Bt mg) (cK : Cal P w K mg base 7 "check_space" ["value"] spCkS) : Cal P w K mg base 8 "momentum" ["space"] spMomentum := D.cal fun f fd F => by
  refine F.ok scMomentum (fun vs H Q E h => ?_) (fun cdv A outer s H vs Q E hr h => ?_)
  · obtain ⟨p, b, rfl, _⟩ := h
    rfl
  · obtain ⟨p, bs, rfl, hS, g, k⟩ := h
    refine ⟨_, pss_cons (ps_expr (pe_cal cK hr (pa_cons (pv 0) pa_nil)))
      (pss_one (ps_ret (pe_tup (pa_cons (pe_callB (cr_sum rfl) (by rfl) B.sum bt_sum (pa_cons (pe_lc (own := [("body", 1)]) (g := gName 1) (tt := tYes) (te := tOp (rIxT K) (tVar 1) (tC (.int 6))) rfl scMomentum.nd (pi_tup (pv 0))
          (blkOk_by (own := [("body", 1)]) (N := ["space", "body"]) (sc := defScope (tp 35)) (by decide +kernel)) (fun _ _ _ _ _ => pg_name (i := 1) scMomentum.nd rfl (Or.inl rfl)) (fun _ _ _ _ _ => pts_nil)
          (fun _ _ _ _ _ => pe_ix ix_tup (pv 1) pe_int (fun _ _ => rfl))) pa_nil))
        (pa_cons (pe_callB (cr_sum rfl) (by rfl) B.sum bt_sum (pa_cons (pe_lc (own := [("body", 1)]) (g := gName 1) (tt := tYes) (te := tOp (rIxT K) (tVar 1) (tC (.int 7))) rfl scMomentum.nd (pi_tup (pv 0))
          (blkOk_by (own := [("body", 1)]) (N := ["space", "body"]) (sc := defScope (tp 35)) (by decide +kernel)) (fun _ _ _ _ _ => pg_name (i := 1) scMomentum.nd rfl (Or.inl rfl)) (fun _ _ _ _ _ => pts_nil)
          (fun _ _ _ _ _ => pe_ix ix_tup (pv 1) pe_int (fun _ _ => rfl))) pa_nil)) pa_nil))))), ?_⟩
    refine ⟨_, rfl, p, bs, rfl, hS, g, fun H1 s1 => ?_⟩
    obtain ⟨as, hp, hL⟩ := (hS.same s1).ex
    have hz : bs.length < sizeLine := line12 g.len
    refine ⟨_, rfl, p, rfl, ⟨_, SqT.of hp⟩, fun D hD => ?_⟩
    refine lc_at (walk_tup (K := K) (a := p) (xs := as.map V.ref)) (fun b => V.int (mom false b)) hL (fun H' s' => SqT.of (s' _ _ hp)) hD hz (fun _ => rfl) (fun i q b H' Q' _ _ hqb _ q' => ?_) (fun H2 s2 hD2 => ?_)
    · exact ⟨_, rfl, q, _, _, .int b.px, rfl, rfl, SqT.of hqb, rfl, q' _ (Same.refl _)⟩
    refine ⟨D, bs.map (mom false), rfl, SqL.of (by rw [hD2, mom_int]), ?_⟩
    have hp2 := s2 _ _ hp
    refine ⟨_, rfl, p, rfl, ⟨_, SqT.of hp2⟩, fun D' hD' => ?_⟩
    refine lc_at (walk_tup (K := K) (a := p) (xs := as.map V.ref)) (fun b => V.int (mom true b)) (hL.same s2) (fun H' s' => SqT.of (s' _ _ hp2)) hD' hz (fun _ => rfl) (fun i q b H' Q' _ _ hqb _ q' => ?_) (fun H3 s3 hD3 => ?_)
    · exact ⟨_, rfl, q, _, _, .int b.py, rfl, rfl, SqT.of hqb, rfl, q' _ (Same.refl _)⟩
    refine ⟨D', bs.map (mom true), rfl, SqL.of (by rw [hD3, mom_int]), ?_⟩
    refine ⟨by show 2 ≤ sizeLine; decide, fun t ht => k _ t (s1.trans (s2.trans (s3.trans (same_upd ht)))) upd_same⟩
end
end Km
/-! A space in the middle of a tick: what stands in the heap, and the first methods. -/
namespace Km
open PySem L2
/-- where the parts of a Moving stand -/
structure MV where
  p : Addr
  dx : Addr
  L : Addr
  T : Addr
  bn : Addr
  as : List Addr
  n : Int
  d : Int
structure MovAt (C : Addr) (M : MV) (H : Hp) (bs : List Bd) (cs : List Ct) : Prop where
  self : H M.p = some (.ins C M.dx (movF M.L M.bn M.T))
  lst : H M.L = some (.lst (M.as.map V.ref))
  nd : M.as.Nodup
  bds : LAt H bdL M.as bs
  bnc : H M.bn = some (frT M.n M.d)
  ok : OkBn M.n M.d
  tl : M.T ≠ M.L
  cts : CtsAt H M.T cs
/-- all but the bodies and the list of contacts is as it was -/
def Kept (M : MV) (H H' : Hp) : Prop := ∀ b o, H b = some o → b ≠ M.T → b ∉ M.as → H' b = some o
theorem Kept.refl (M : MV) (H : Hp) : Kept M H H := fun _ _ h _ _ => h
theorem Kept.trans {M : MV} {H H1 H2 : Hp} (a : Kept M H H1) (b : Kept M H1 H2) : Kept M H H2 := fun c o h h1 h2 => b c o (a c o h h1 h2) h1 h2
theorem Kept.of {M : MV} {H H' : Hp} (s : Same H H') : Kept M H H' := fun b o h _ _ => s b o h
section
variable {C : Addr} {M : MV} {H H' : Hp} {bs : List Bd} {cs : List Ct}
theorem MovAt.same (m : MovAt C M H bs cs) (s : Same H H') : MovAt C M H' bs cs :=
  ⟨s _ _ m.self, s _ _ m.lst, m.nd, m.bds.same s, s _ _ m.bnc, m.ok, m.tl, m.cts.same s⟩
theorem MovAt.len (m : MovAt C M H bs cs) : M.as.length = bs.length := m.bds.len
/-- a place of a body -/
theorem MovAt.body (m : MovAt C M H bs cs) {a : Addr} (h : a ∈ M.as) : ∃ (i : Nat) (b : Bd), M.as[i]? = some a ∧ bs[i]? = some b ∧ H a = some (bdL b) := by
  obtain ⟨i, hi⟩ := List.mem_iff_getElem?.mp h
  obtain ⟨b, hb, e⟩ := m.bds.item hi
  exact ⟨i, b, hi, hb, e⟩
/-- what differs from every body stands apart from them -/
theorem MovAt.notIn (m : MovAt C M H bs cs) {q : Addr} {o : HO} (h : H q = some o) (ne : ∀ b, o ≠ bdL b) : q ∉ M.as := fun hq => by
  obtain ⟨_, b, _, _, e⟩ := m.body hq
  rw [h] at e
  exact ne b (Option.some.inj e)
theorem MovAt.pIn (m : MovAt C M H bs cs) : M.p ∉ M.as := m.notIn m.self fun b e => by cases e
theorem MovAt.lIn (m : MovAt C M H bs cs) : M.L ∉ M.as := m.notIn m.lst fun _ => refs_bd
theorem MovAt.bIn (m : MovAt C M H bs cs) : M.bn ∉ M.as := m.notIn m.bnc fun b e => by cases e
theorem MovAt.tIn (m : MovAt C M H bs cs) : M.T ∉ M.as := by
  obtain ⟨ts, h, _⟩ := m.cts.ex
  exact m.notIn h fun _ => refs_bd
/-- a list of ints that is no part of it is written -/
theorem MovAt.off (m : MovAt C M H bs cs) {q : Addr} {ns : List Int} {o : HO} (h : H q = some (.lst (ns.map V.int))) (n1 : q ≠ M.L) (n2 : q ≠ M.T) : MovAt C M (upd H q o) bs cs := by
  have hp : M.p ≠ q := ne_of m.self h (by intro z; cases z)
  have hb : M.bn ≠ q := ne_of m.bnc h (by intro z; cases z)
  have hi : q ∉ M.as := m.notIn h fun _ => ints_bd
  obtain ⟨ts, h1, h2⟩ := m.cts.ex
  have ht : q ∉ ts := fun hq => by
    obtain ⟨i, hi⟩ := List.mem_iff_getElem?.mp hq
    obtain ⟨c, _, e⟩ := h2.item hi
    rw [h] at e
    cases e
  exact ⟨by rw [upd_ne hp]; exact m.self, by rw [upd_ne n1.symm]; exact m.lst, m.nd, m.bds.off hi, by rw [upd_ne hb]; exact m.bnc, m.ok, m.tl, ⟨ts, by rw [upd_ne n2.symm]; exact h1, h2.off ht⟩⟩
theorem kept_off {q : Addr} {o : HO} (hq : H q = none) (k : Kept M H H') : Kept M H (upd H' q o) := fun b x e h1 h2 => by
  rw [upd_ne (ne_of_none e hq)]
  exact k b x e h1 h2
/-- the i-th body is written -/
theorem MovAt.put (m : MovAt C M H bs cs) {i : Nat} {a : Addr} {b' : Bd} (ha : M.as[i]? = some a) : MovAt C M (upd H a (bdL b')) (bs.set i b') cs := by
  have hm : a ∈ M.as := List.mem_of_getElem? ha
  obtain ⟨_, b, _, _, hab⟩ := m.body hm
  obtain ⟨ts, h1, h2⟩ := m.cts.ex
  have ht : a ∉ ts := fun hq => by
    obtain ⟨i, hi⟩ := List.mem_iff_getElem?.mp hq
    obtain ⟨c, _, e⟩ := h2.item hi
    rw [hab] at e
    cases e
  exact ⟨by rw [upd_ne (fun e => m.pIn (by rw [e]; exact hm))]; exact m.self, by rw [upd_ne (fun e => m.lIn (by rw [e]; exact hm))]; exact m.lst, m.nd, m.bds.put m.nd ha,
    by rw [upd_ne (fun e => m.bIn (by rw [e]; exact hm))]; exact m.bnc, m.ok, m.tl, ⟨ts, by rw [upd_ne (fun e => m.tIn (by rw [e]; exact hm))]; exact h1, h2.off ht⟩⟩
theorem kept_put {a : Addr} {o : HO} (ha : a ∈ M.as) (k : Kept M H H') : Kept M H (upd H' a o) := fun b x e h1 h2 => by
  rw [upd_ne (fun q => h2 (by rw [q]; exact ha))]
  exact k b x e h1 h2
theorem kept_cts {o : HO} (k : Kept M H H') : Kept M H (upd H' M.T o) := fun b x e h1 h2 => by
  rw [upd_ne h1]
  exact k b x e h1 h2
/-- a contact is listed -/
theorem MovAt.add (m : MovAt C M H bs cs) {ts : List Addr} {t : Addr} {c : Ct} (hT : H M.T = some (.lst (ts.map V.ref))) (hL : LAt H ctT ts cs) (ht : H t = some (ctT c)) : MovAt C M (upd H M.T (.lst ((ts ++ [t]).map V.ref))) bs (cs ++ [c]) := by
  have hp : M.p ≠ M.T := ne_of m.self hT (by intro z; cases z)
  have hb : M.bn ≠ M.T := ne_of m.bnc hT (by intro z; cases z)
  have htn : M.T ∉ ts ++ [t] := fun hq => by
    rcases List.mem_append.mp hq with hq | hq
    · obtain ⟨i, hi⟩ := List.mem_iff_getElem?.mp hq
      obtain ⟨c, _, e⟩ := hL.item hi
      rw [hT] at e
      cases e
    · rw [List.mem_singleton.mp hq, ht] at hT
      cases hT
  exact ⟨by rw [upd_ne hp]; exact m.self, by rw [upd_ne m.tl.symm]; exact m.lst, m.nd, m.bds.off m.tIn, by rw [upd_ne hb]; exact m.bnc, m.ok, m.tl, ⟨ts ++ [t], upd_same, (hL.snoc ht).off htn⟩⟩
end
/-- the class as the top has made it -/
structure CT (K : PySem.W.Frag) (mg : Str → Option Value) (C : Addr) : Prop where
  cl : Cls K C
  nB : NoAttr K C "bodies"
  nU : NoAttr K C "bounce"
  nC : NoAttr K C "contacts"
  mgC : mg "Moving" = some (.ref C)
section
variable {P : Program} {w : World} {K : PySem.W.Frag} {mg : Str → Option Value} {base : Heap} {C : Addr}

/-! ### __init__ -/
abbrev sInit : Stmt := inClass (tp 33) 0
theorem scInit : FnScope ["self", "space", "bounce", "body"] ["self", "space", "bounce"] (defScope sInit) := ⟨rfl, rfl, rfl, by decide +kernel, rfl, by decide +kernel, by decide +kernel⟩
def spInit (C : Addr) : Sp := fun vs H Q _ => ∃ (p dx sp bn : Addr) (bs : List Bd) (n d : Int), vs = [.ref p, .ref sp, .ref bn] ∧ H p = some (.ins C dx []) ∧ SpAt H sp bs ∧ bs.length ≤ 12 ∧ H bn = some (frT n d) ∧ OkBn n d ∧
  ∀ (H' : Hp) (M : MV), M.p = p → MovAt C M H' bs [] → (∀ b o, H b = some o → b ≠ p → H' b = some o) → (∀ a ∈ M.as, H a = none) → H M.T = none → Q .non H'
theorem ok_init {f : Addr} {fd : FuncData} (F : Fun K "__init__" "Moving.__init__" sInit f fd) (X : CT K mg C) (B : Bt mg) : FnOk P w K mg base CX0 1 f fd ["self", "space", "bounce"] (spInit C) := by
  refine F.ok scInit (fun vs H Q E h => ?_) (fun cdv A outer s H vs Q E hr h => ?_)
  · obtain ⟨p, dx, sp, bn, bs, n, d, rfl, _⟩ := h
    rfl
  · obtain ⟨p, dx, sp, bn, bs, n, d, rfl, hp, ⟨as, hs, hL⟩, hl, hb, ok, k⟩ := h
    refine ⟨_, pss_cons (ps_fld (pv 0) (pe_lc (own := [("body", 3)]) (g := gName 3) (tt := tYes) rfl scInit.nd (pi_tup (pv 1)) (blkOk_by (own := [("body", 3)]) (N := ["self", "space", "bounce", "body"]) (sc := defScope sInit) (by decide +kernel))
          (fun _ _ _ _ _ => pg_name (i := 3) scInit.nd rfl (Or.inl rfl)) (fun _ _ _ _ _ => pts_nil) (te := tCB (fun xs H Q => ∃ p ys, xs = [.ref p] ∧ (SqL K H p ys ∨ SqT K H p ys) ∧ ∀ l, H l = none → Q (.ref l) (upd H l (.lst ys))) (tCons (tVar 3) tNil))
          (fun _ _ _ _ _ => pe_callTy call_list_of (by rfl) B.list bt_list (pa_cons (pv 3) pa_nil))) rfl)
      (pss_cons (ps_fld (pv 0) (pv 2) rfl) (pss_one (ps_fld (pv 0) (pe_lst pa_nil) rfl))), ?_⟩
    have hz : bs.length < sizeLine := line12 hl
    refine ⟨_, rfl, sp, rfl, ⟨_, SqT.of hs⟩, fun D hD => ?_⟩
    refine lc_it (walk_tup (K := K) (a := sp) (xs := as.map V.ref)) (fun i H1 => Same H H1 ∧ ∃ ls : List Addr, H1 D = some (.lst (ls.map V.ref)) ∧ LAt H1 bdL ls (bs.take i) ∧ ls.Nodup ∧ ∀ a ∈ ls, H a = none) ⟨same_upd hD, [], upd_same, by rw [List.take_zero]; exact LAt.nil, List.nodup_nil, fun a h => by simp at h⟩
      (fun i H1 _ q => SqT.of (q.1 _ _ hs)) (fun i x H1 H2 hi q y => ?_) (fun H1 q => ?_)
    · obtain ⟨rfl, hx⟩ := y
      obtain ⟨s1, ls, h1, h2, h3, h4⟩ := q
      obtain ⟨a, ha, rfl⟩ := get_of_map hx
      obtain ⟨b, hb', hab⟩ := hL.item ha
      refine ⟨rfl, ?_⟩
      simp only [tYes, ↓reduceIte]
      refine ⟨_, rfl, a, _, rfl, .inr (SqT.of (s1 _ _ hab)), fun l hl' => ?_⟩
      have nlD : D ≠ l := ne_of_none h1 hl'
      have nl : l ∉ ls := fun hm => by
        obtain ⟨j, hj⟩ := List.mem_iff_getElem?.mp hm
        obtain ⟨c, _, e⟩ := h2.item hj
        rw [hl'] at e
        cases e
      have nD : D ∉ ls ++ [l] := fun hm => by
        rcases List.mem_append.mp hm with hm | hm
        · obtain ⟨j, hj⟩ := List.mem_iff_getElem?.mp hm
          obtain ⟨c, _, e⟩ := h2.item hj
          rw [h1] at e
          exact refs_bd (Option.some.inj e)
        · exact nlD (List.mem_singleton.mp hm)
      have hlen : ls.length ≤ 12 := by
        have := h2.len
        rw [List.length_take] at this
        omega
      refine ⟨ls.map V.ref, by rw [upd_ne nlD]; exact h1, by rw [List.length_map]; exact line12 hlen, fun c o e => ?_, ls ++ [l], ?_, ?_, ?_, ?_⟩
      · rw [upd_ne (ne_of_none e hD), upd_ne (ne_of_none (s1 _ _ e) hl')]
        exact s1 _ _ e
      · rw [upd_same, List.map_append]
        rfl
      · rw [List.take_add_one, hb']
        exact ((h2.same (same_upd hl')).snoc upd_same).off nD
      · exact nd_snoc h3 nl
      · intro c hc
        rcases List.mem_append.mp hc with hc | hc
        · exact h4 c hc
        · rw [List.mem_singleton.mp hc]
          exact s1.free hl'
    · obtain ⟨s1, ls, h1, h2, h3, h4⟩ := q
      rw [List.length_map, hL.len, List.take_length] at h2
      have hp1 := s1 _ _ hp
      refine ⟨_, rfl, p, C, dx, [], rfl, hp1, X.cl, X.nB, by show 0 < 1000; decide, ?_⟩
      refine ⟨_, rfl, _, rfl, p, C, dx, _, rfl, upd_same, X.cl, X.nU, by show 1 < 1000; decide, ?_⟩
      refine ⟨Nat.zero_le _, fun T hT => ?_⟩
      rw [upd_upd] at hT ⊢
      have hpT : p ≠ T := fun e => by
        rw [e, upd_same] at hT
        cases hT
      refine ⟨_, rfl, p, C, dx, _, rfl, (upd_ne hpT).trans upd_same, X.cl, X.nC, by show 2 < 1000; decide, ?_⟩
      have hT1 : H1 T = none := by
        rw [upd_ne hpT.symm] at hT
        exact hT
      have hfin : ∀ b o, H1 b = some o → b ≠ p → (upd (upd (upd H1 p (.ins C dx (putF "bounce" (.ref bn) (putF "bodies" (.ref D) [])))) T (.lst [])) p (.ins C dx (putF "contacts" (.ref T) (putF "bounce" (.ref bn) (putF "bodies" (.ref D) []))))) b = some o := fun b o e hb => by
        rw [upd_ne hb, upd_ne (ne_of_none e hT1), upd_ne hb]
        exact e
      have npD : D ≠ p := ne_of h1 hp1 (by intro z; cases z)
      have nbn : bn ≠ p := ne_of hb hp (by intro z; cases z)
      have nTD : T ≠ D := (ne_of_none h1 hT1).symm
      refine k _ ⟨p, dx, D, T, bn, ls, n, d⟩ rfl ⟨?_, hfin _ _ h1 npD, h3, ?_, hfin _ _ (s1 _ _ hb) nbn, ok, nTD, ⟨[], ?_, LAt.nil⟩⟩ (fun b o e hb => hfin b o (s1 _ _ e) hb) h4 (s1.free hT1)
      · rw [upd_same, movF_make]
      · refine h2.keep fun a ha o e => hfin a o e fun q => ?_
        obtain ⟨j, hj⟩ := List.mem_iff_getElem?.mp ha
        obtain ⟨c, _, e'⟩ := h2.item hj
        rw [q, hp1] at e'
        cases e'
      · show upd _ p _ T = _
        rw [upd_ne hpT.symm, upd_same]
        rfl
end
end Km
/-! wishes, blocker. -/
namespace Km
open PySem L2
section
variable {P : Program} {w : World} {K : PySem.W.Frag} {mg : Str → Option Value} {base : Heap} {C : Addr}

/-! ### wishes -/
abbrev sWish : Stmt := inClass (tp 33) 1
theorem scWish : FnScope ["self", "axis", "found", "body", "mass", "total"] ["self", "axis"] (defScope sWish) := ⟨rfl, rfl, rfl, by decide +kernel, rfl, by decide +kernel, by decide +kernel⟩
/-- the wishes of fixed bodies are 0 -/
def OkW (bs : List Bd) (ws : List Int) : Prop := ∀ (i : Nat) (b : Bd) (z : Int), bs[i]? = some b → ws[i]? = some z → z ≠ 0 → b.m ≠ 0
def spWish (C : Addr) : Sp := fun vs H Q _ => ∃ (M : MV) (bs : List Bd) (cs : List Ct) (a : Bool), vs = [.ref M.p, .int (ax a)] ∧ MovAt C M H bs cs ∧ GoodSp bs ∧
  ∀ (H' : Hp) (fl : Addr) (bs' : List Bd) (ws : List Int), MovAt C M H' bs' cs → Carried bs bs' → H fl = none → H' fl = some (.lst (ws.map V.int)) → ws.length = bs.length → OkW bs' ws → Kept M H H' → Q (.ref fl) H'
theorem carry_lim {t m : Int} (h : 1 ≤ m) : 0 ≤ t - m * (t / m) ∧ t - m * (t / m) < m := by
  have h1 := Int.emod_nonneg t (show m ≠ 0 by omega)
  have h2 := Int.emod_lt_of_pos t (show 0 < m by omega)
  have h3 := Int.mul_ediv_add_emod t m
  omega
theorem OkW.put {bs : List Bd} {ws : List Int} (h : OkW bs ws) {i : Nat} {b b' : Bd} (hb : bs[i]? = some b) (e : b'.m = b.m) : OkW (bs.set i b') ws := fun k d z hd hz h0 => by
  rcases set_get hd with ⟨rfl, rfl⟩ | ⟨_, hd⟩
  · rw [e]
    exact h _ b z hb hz h0
  · exact h k d z hd hz h0
theorem OkW.snoc {bs : List Bd} {ws : List Int} (h : OkW bs ws) {b : Bd} {z : Int} (hb : bs[ws.length]? = some b) (e : z ≠ 0 → b.m ≠ 0) : OkW bs (ws ++ [z]) := fun k d y hd hy h0 => by
  by_cases hk : k < ws.length
  · rw [List.getElem?_append_left hk] at hy
    exact h k d y hd hy h0
  · rw [List.getElem?_append_right (Nat.le_of_not_lt hk)] at hy
    have := lt_of_get hy
    have ek : k = ws.length := by
      simp at this
      omega
    subst ek
    rw [Nat.sub_self] at hy
    have ey : z = y := Option.some.inj hy
    rw [hb] at hd
    rw [← Option.some.inj hd]
    exact e (by rw [ey]; exact h0)
theorem setCar_m (a : Bool) (v : Int) (b : Bd) : (setCar a v b).m = b.m := by cases a <;> rfl
theorem ok_wish {f : Addr} {fd : FuncData} (F : Fun K "wishes" "Moving.wishes" sWish f fd) (X : CT K mg C) (cL : Cal P w K mg base 1 "limited" ["wish"] spLimited) : FnOk P w K mg base CX0 2 f fd ["self", "axis"] (spWish C) := by
  refine F.ok scWish (fun vs H Q E h => ?_) (fun cdv A outer s H vs Q E hr h => ?_)
  · obtain ⟨M, bs, cs, a, rfl, _⟩ := h
    rfl
  · obtain ⟨M, bs, cs, a, rfl, m, g, k⟩ := h
    refine ⟨_, pss_cons (ps_set (i := 2) scWish.nd rfl (.inl rfl) (pe_lst pa_nil))
      (pss_cons (ps_for PassesOwn.never rfl (pi_list (pe_fld (pv 0) rfl)) (pg_name (i := 3) scWish.nd rfl (Or.inl rfl))
        (pss_cons (ps_set (i := 4) scWish.nd rfl (.inl rfl) (pe_ix ix_list (pv 3) pe_int (fun _ _ => rfl)))
        (pss_one (ps_if (pt_cmpR op_eq (pv 4) pe_int (nomark _))
          (pss_one (ps_expr (pe_bm PySem.F.plainAttrs_list PySem.F.slot_list_append PySem.F.type_list_append mt_append (pv 2) (pa_cons pe_int pa_nil))))
          (pss_cons (ps_set (i := 5) scWish.nd rfl (.inl rfl) (pe_op op_add (pe_ix ix_list (pv 3) (pe_op op_add pe_int (pv 1)) (fun _ _ => rfl)) (pe_ix ix_list (pv 3) (pe_op op_add pe_int (pv 1)) (fun _ _ => rfl))))
          (pss_cons (ps_expr (pe_bm PySem.F.plainAttrs_list PySem.F.slot_list_append PySem.F.type_list_append mt_append (pv 2) (pa_cons (pe_cal cL hr (pa_cons (pe_op op_fdiv (pv 5) (pv 4)) pa_nil)) pa_nil)))
          (pss_one (ps_asg (pe_op op_sub (pv 5) (pe_op op_mul (pv 4) (pe_op op_fdiv (pv 5) (pv 4)))) (pg_sub (pv 3) (pe_op op_add pe_int (pv 1)) set_list)))))))))
      (pss_one (ps_ret (pv 2)))), ?_⟩
    have hl12 := g.len
    -- found = []
    refine ⟨Nat.zero_le _, fun fl hfl => ?_⟩
    have s0 : Same H (upd H fl (.lst [])) := same_upd hfl
    have m0 := m.same s0
    have nL : fl ≠ M.L := (ne_of_none m.lst hfl).symm
    obtain ⟨ts0, hT0, _⟩ := m.cts.ex
    have nT : fl ≠ M.T := (ne_of_none hT0 hfl).symm
    -- for body in self.bodies
    refine ⟨_, rfl, M.p, C, M.dx, _, _, rfl, m0.self, X.cl, X.nB, movF_bodies _ _ _, M.L, rfl, ⟨_, SqL.of m0.lst⟩, ?_⟩
    refine for_list (K := K) (a := M.L) (xs := M.as.map V.ref) (fun i σ H' => ∃ (bs' : List Bd) (ws : List Int) (x3 x4 x5 : Option V), σ = [some (.ref M.p), some (.int (ax a)), some (.ref fl), x3, x4, x5] ∧ MovAt C M H' bs' cs ∧ Carried bs bs' ∧
        H' fl = some (.lst (ws.map V.int)) ∧ ws.length = i ∧ OkW bs' ws ∧ Kept M H H')
      ⟨bs, [], none, none, none, rfl, m0, Carried.refl g, upd_same, rfl, fun i b z _ hz => by simp at hz, Kept.of s0⟩ (fun i σ H' _ ⟨_, _, _, _, _, _, m', _⟩ => SqL.of m'.lst) ?_ ?_
    · rintro i y σ H1 hi ⟨bs', ws, x3, x4, x5, rfl, m1, c1, hf1, rfl, ow, kp⟩
      obtain ⟨q, hq, rfl⟩ := get_of_map hi
      obtain ⟨b, hb, hqb⟩ := m1.bds.item hq
      have gb := c1.all _ b hb
      have gm0 := gb.m0
      have gm1 := gb.m1
      have hws : ws.length < sizeLine := by
        have h1 := lt_of_get hb
        rw [c1.len] at h1
        exact line12 (by omega)
      have hws' : (ws.map V.int).length < sizeLine := by rw [List.length_map]; exact hws
      -- mass = body[5]
      refine ⟨_, rfl, q, _, _, .int b.m, rfl, rfl, SqL.of hqb, rfl, ?_⟩
      refine ⟨_, rfl, rfl, _, rfl, ite2 (fun e => ?_) (fun e => ?_)⟩
      · -- found.append(0)
        have em : b.m = 0 := V.int.inj (of_decide_eq_true e)
        refine ⟨_, rfl, .inl ⟨rfl, _, SqL.of hf1⟩, fl, _, _, rfl, rfl, hf1, hws', ?_⟩
        refine ⟨bs', ws ++ [0], _, _, _, rfl, m1.off hf1 nL nT, c1, by rw [upd_same, List.map_append]; rfl, by rw [List.length_append]; rfl, ow.snoc hb fun h => absurd rfl h, kept_off hfl kp⟩
      · have em : b.m ≠ 0 := fun z => e (decide_eq_true (by rw [z]))
        -- total = body[6 + axis] + body[8 + axis]
        refine ⟨_, rfl, _, rfl, _, _, rfl, rfl, q, _, _, .int (mom a b), rfl, rfl, SqL.of hqb, at_mom a b, ?_⟩
        refine ⟨_, rfl, _, rfl, _, _, rfl, rfl, q, _, _, .int (car a b), rfl, rfl, SqL.of hqb, at_car a b, _, _, rfl, rfl, ?_⟩
        -- found.append(limited(total // mass))
        refine ⟨_, rfl, .inl ⟨rfl, _, SqL.of hf1⟩, _, rfl, _, rfl, _, _, rfl, rfl, ⟨by omega, by omega⟩, _, rfl, fun z => ?_⟩
        refine ⟨fl, _, _, rfl, rfl, hf1, hws', ?_⟩
        have m2 := m1.off (o := .lst (ws.map V.int ++ [.int z])) hf1 nL nT
        have nq : q ≠ fl := ne_of hqb hf1 fun e => ints_bd e.symm
        have hqb2 : (upd H1 fl (.lst (ws.map V.int ++ [.int z]))) q = some (bdL b) := by
          rw [upd_ne nq]
          exact hqb
        -- body[8 + axis] = total - mass * (total // mass)
        refine ⟨_, rfl, _, rfl, _, rfl, _, rfl, _, _, rfl, rfl, ⟨by omega, by omega⟩, _, _, rfl, rfl, .inl ⟨by omega, by omega⟩, _, _, rfl, rfl, ?_⟩
        refine ⟨_, rfl, _, rfl, _, _, rfl, rfl, q, _, _, _, rfl, rfl, hqb2, ix_car a, ?_⟩
        rw [set_car]
        have lim := carry_lim (t := mom a b + car a b) (m := b.m) (by omega)
        refine ⟨bs'.set ws.length (setCar a _ b), ws ++ [z], _, _, _, rfl, m2.put hq, c1.put hb em lim.1 lim.2, ?_, by rw [List.length_append]; rfl, ?_, ?_⟩
        · rw [upd_ne nq.symm, upd_same, List.map_append]
          rfl
        · exact (ow.put hb (setCar_m a _ b)).snoc (set_self hb) fun _ => by rw [setCar_m]; exact em
        · exact kept_put (List.mem_of_getElem? hq) (kept_off hfl kp)
    · rintro σ H1 ⟨bs', ws, x3, x4, x5, rfl, m1, c1, hf1, hw, ow, kp⟩
      refine ⟨_, rfl, k H1 fl bs' ws m1 c1 hfl hf1 ?_ ow kp⟩
      rw [hw, List.length_map, m.len]

/-! ### blocker -/
abbrev sBlock : Stmt := inClass (tp 33) 2
theorem scBlock : FnScope ["self", "at", "box", "other", "body", "part"] ["self", "at", "box"] (defScope sBlock) := ⟨rfl, rfl, rfl, by decide +kernel, rfl, by decide +kernel, by decide +kernel⟩
def spBlock (C : Addr) : Sp := fun vs H Q _ => ∃ (M : MV) (bs : List Bd) (cs : List Ct) (i : Nat) (q : Addr) (x : Bx), vs = [.ref M.p, .int (i : Nat), .ref q] ∧ MovAt C M H bs cs ∧ H q = some (bxT x) ∧
  (∀ (H' : Hp) (k : Nat) (c : Bd), Same H H' → k ≠ i → bs[k]? = some c → Q (.int (k : Nat)) H') ∧
  (∀ H' : Hp, Same H H' → inW x = true → (∀ (k : Nat) (c : Bd), k ≠ i → bs[k]? = some c → ovl x (box c) = false) → Q .non H') ∧
  (∀ H' : Hp, Same H H' → Q (.int (-1)) H')
theorem ok_block {f : Addr} {fd : FuncData} (F : Fun K "blocker" "Moving.blocker" sBlock f fd) (X : CT K mg C) (B : Bt mg) (cO : Cal P w K mg base 1 "do_overlap" ["first", "second"] spOverlap) (cR : Cal P w K mg base 1 "raw_box" ["body"] spRaw)
    (cC : Cal P w K mg base 3 "is_coordinate" ["value"] spCoord) : FnOk P w K mg base CX0 4 f fd ["self", "at", "box"] (spBlock C) := by
  refine F.ok scBlock (fun vs H Q E h => ?_) (fun cdv A outer s H vs Q E hr h => ?_)
  · obtain ⟨M, bs, cs, i, q, x, rfl, _⟩ := h
    rfl
  · obtain ⟨M, bs, cs, at0, q, x, rfl, m, hq, k1, k2, k3⟩ := h
    have r1 : Room 1 _ := hr.mono (by decide)
    refine ⟨_, pss_cons (ps_for PassesOwn.never rfl (pi_enum (by rfl) B.enumerate (pa_cons (pe_fld (pv 0) rfl) pa_nil)) (pg_tup rfl (pgs_cons (pg_name (i := 3) scBlock.nd rfl (Or.inl rfl)) (pgs_cons (pg_name (i := 4) scBlock.nd rfl (Or.inl rfl)) pgs_nil)))
        (pss_one (ps_if (PW.pt (pw_and (pt_cmpR op_ne (pv 3) (pv 1) (nomark _)) (pw_and1 (pt_val (pe_cal cO r1 (pa_cons (pv 2) (pa_cons (pe_cal cR r1 (pa_cons (pv 4) pa_nil)) pa_nil))))))) (pss_one (ps_ret (pv 3))) pss_nil)))
      (pss_one (ps_ret (pe_ifExp (pt_val (pe_callB (cr_all rfl) (by rfl) B.all bt_all (pa_cons (pe_lc (own := [("part", 5)]) (g := gName 5) (tt := tYes) rfl scBlock.nd (pi_tup (pv 2))
          (blkOk_by (own := [("part", 5)]) (N := ["self", "at", "box", "other", "body", "part"]) (sc := defScope sBlock) (by decide +kernel)) (fun _ _ _ _ _ => pg_name (i := 5) scBlock.nd rfl (Or.inl rfl)) (fun _ _ _ _ _ => pts_nil)
          (fun _ _ _ _ _ => pe_cal cC hr (pa_cons (pv 5) pa_nil))) pa_nil))) pe_non (pe_un un_neg pe_int)))), ?_⟩
    refine ⟨_, rfl, M.p, C, M.dx, _, _, rfl, m.self, X.cl, X.nB, movF_bodies _ _ _, M.L, _, rfl, SqL.of m.lst, ?_⟩
    refine for_it (walk_enum (K := K) (a := M.L) (xs := M.as.map V.ref)) (fun i σ H' => Same H H' ∧ (∀ (k : Nat) (c : Bd), k < i → k ≠ at0 → bs[k]? = some c → ovl x (box c) = false) ∧ ∃ y z, σ = [some (.ref M.p), some (.int (at0 : Nat)), some (.ref q), y, z, none])
      ⟨Same.refl _, fun k c hk => absurd hk (Nat.not_lt_zero k), _, _, rfl⟩ (fun i σ H' _ p => SqL.of (p.1 _ _ m.lst)) ?_ ?_
    · rintro i v σ H1 H2 hi ⟨s1, cl, y, z, rfl⟩ ⟨T, x1, x2, rfl, nT, rfl, e1, e2⟩
      have e1' : x1 = .int (i : Nat) := (Option.some.inj e1).symm
      subst e1'
      obtain ⟨a, ea, rfl⟩ := get_of_map e2
      obtain ⟨b, hb, hab⟩ := m.bds.item ea
      have s2 : Same H (upd H1 T (.tup [V.int (i : Nat), V.ref a])) := same_put s1 nT
      refine ⟨T, _, rfl, SqT.of upd_same, rfl, _, _, rfl, _, _, rfl, rfl, ?_⟩
      generalize upd H1 T (.tup [V.int (i : Nat), V.ref a]) = H3 at s2 ⊢
      refine ⟨_, rfl, _, rfl, rfl, _, rfl, ite2 (fun hne => ?_) (fun hne => ?_)⟩
      · have hne' : i ≠ at0 := fun e => by
          rw [e, decide_eq_true rfl] at hne
          cases hne
        refine ⟨_, rfl, _, rfl, a, b, rfl, .inl (s2 _ _ hab), fun u hu => ?_⟩
        have s3 := same_put (o := bxT (box b)) s2 hu
        have nqu : q ≠ u := ne_of_none (s2 _ _ hq) hu
        refine ⟨q, u, x, box b, rfl, s3 _ _ hq, upd_same, _, rfl, ?_⟩
        cases ho : ovl x (box b) with
        | true => exact iteT ⟨_, rfl, k1 _ i b s3 hne' hb⟩
        | false =>
          refine iteF ⟨s3, fun k c hk hka hc => ?_, _, _, rfl⟩
          by_cases hki : k = i
          · rw [hki, hb] at hc
            rw [← Option.some.inj hc]
            exact ho
          · exact cl k c (by omega) hka hc
      · have hne' : i = at0 := by
          have e : V.int ((i : Nat) : Int) = V.int ((at0 : Nat) : Int) := by
            by_cases z : V.int ((i : Nat) : Int) = V.int ((at0 : Nat) : Int)
            · exact z
            · rw [decide_eq_false z] at hne
              exact absurd rfl hne
          have := V.int.inj e
          omega
        refine iteF ⟨s2, fun k c hk hka hc => cl k c (by omega) hka hc, _, _, rfl⟩
    · rintro σ H1 ⟨s1, cl, y, z, rfl⟩
      have hq1 := s1 _ _ hq
      have hz : ∀ k c, bs[k]? = some c → k < (M.as.map V.ref).length := fun k c hc => by
        rw [List.length_map, m.len]
        exact lt_of_get hc
      refine ⟨_, rfl, q, rfl, ⟨_, SqT.of hq1⟩, fun D hD => ?_⟩
      refine lc_tupM (bxI x) V.int (fun n => .bl (crd n)) hD (by show 4 < sizeLine; decide) (fun _ => rfl) (fun i n H2 Q' _ _ q' => ⟨_, rfl, n, rfl, q' _ (Same.refl _)⟩) (fun H2 s2 hL => ?_) (SqT.of hq1)
      refine ⟨D, (bxI x).map crd, rfl, SqL.of (by rw [hL, List.map_map]; rfl), _, rfl, ?_⟩
      rw [bxI_all]
      cases hw : inW x with
      | true => exact iteT (k2 _ (s1.trans s2) hw fun k c hk hc => cl k c (hz k c hc) hk hc)
      | false => exact iteF ⟨1, rfl, k3 _ (s1.trans s2)⟩
end
end Km
/-! meet. -/
namespace Km
open PySem L2
section
variable {P : Program} {w : World} {K : PySem.W.Frag} {mg : Str → Option Value} {base : Heap} {C : Addr}
abbrev sMeet : Stmt := inClass (tp 33) 3
theorem scMeet : FnScope ["self", "axis", "sign", "at", "other", "body", "u", "name", "mass", "v", "j"] ["self", "axis", "sign", "at", "other"] (defScope sMeet) := ⟨rfl, rfl, rfl, by decide +kernel, rfl, by decide +kernel, by decide +kernel⟩
/-- behind a contact with what takes no momentum -/
def Stop (C : Addr) (M : MV) (H : Hp) (bs : List Bd) (cs : List Ct) (a : Bool) (s : Int) (i : Nat) (b : Bd) (ot : Str) (Q : VK) : Prop :=
  ∀ (H' : Hp) (j : Int), 0 ≤ j → MovAt C M H' (bs.set i (setMom a (mom a b - s * j) b)) (cs ++ [⟨a, s, b.nm, ot, j⟩]) → Kept M H H' → Q .non H'
/-- behind a contact with a free body -/
def Push (C : Addr) (M : MV) (H : Hp) (bs : List Bd) (cs : List Ct) (a : Bool) (s : Int) (i : Nat) (b : Bd) (k : Nat) (c : Bd) (Q : VK) : Prop :=
  ∀ (H' : Hp) (j : Int), 0 ≤ j → MovAt C M H' ((bs.set i (setMom a (mom a b - s * j) b)).set k (setMom a (mom a c + s * j) c)) (cs ++ [⟨a, s, b.nm, c.nm, j⟩]) → Kept M H H' → Q .non H'
def spMeet (C : Addr) : Sp := fun vs H Q _ => ∃ (M : MV) (bs : List Bd) (cs : List Ct) (a : Bool) (s : Int) (i : Nat) (o : Int) (b : Bd), vs = [.ref M.p, .int (ax a), .int s, .int (i : Nat), .int o] ∧ MovAt C M H bs cs ∧ cs.length ≤ 100 ∧ (s = 1 ∨ s = -1) ∧
  bs[i]? = some b ∧ 1 ≤ b.m ∧ b.m ≤ 100 ∧
  ((o = -1 ∧ Stop C M H bs cs a s i b "" Q) ∨ ∃ (k : Nat) (c : Bd), o = (k : Int) ∧ k ≠ i ∧ bs[k]? = some c ∧ 0 ≤ c.m ∧ c.m ≤ 100 ∧ (c.m = 0 → Stop C M H bs cs a s i b c.nm Q) ∧ (c.m ≠ 0 → Push C M H bs cs a s i b k c Q))
theorem xy_at (a : Bool) : atI ("xy" : Str).cps.toList (ax a) = some (match a with | false => 120 | true => 121) := by cases a <;> decide +kernel
theorem xy_str (a : Bool) : (⟨#[match a with | false => 120 | true => 121]⟩ : Str) = axS a := by cases a <;> decide +kernel
theorem ok_meet {f : Addr} {fd : FuncData} (F : Fun K "meet" "Moving.meet" sMeet f fd) (X : CT K mg C) (Z : Cs mg) (cP : Cal P w K mg base 1 "passed" ["bounce", "u", "mass", "v", "other"] spPassed) :
    FnOk P w K mg base CX0 2 f fd ["self", "axis", "sign", "at", "other"] (spMeet C) := by
  obtain ⟨te, hE⟩ := Z.edge
  refine F.ok scMeet (fun vs H Q E h => ?_) (fun cdv A outer s H vs Q E hr h => ?_)
  · obtain ⟨M, bs, cs, a, s, i, o, b, rfl, _⟩ := h
    rfl
  · obtain ⟨M, bs, cs, a, s, i, o, b, rfl, m, hcl, hs, hb, bm1, bm2, k⟩ := h
    have hs64 : -(2 ^ 64) < s ∧ s < 2 ^ 64 := by rcases hs with h | h <;> omega
    refine ⟨_, pss_cons (ps_set (i := 5) scMeet.nd rfl (.inl rfl) (pe_ix ix_list (pe_fld (pv 0) rfl) (pv 3) (fun _ _ => rfl)))
      (pss_cons (ps_set (i := 6) scMeet.nd rfl (.inl rfl) (pe_op op_mul (pv 2) (pe_ix ix_list (pv 5) (pe_op op_add pe_int (pv 1)) (fun _ _ => rfl))))
      (pss_cons (ps_set (i := 7) scMeet.nd rfl (.inl rfl) (pe_gs hE))
      (pss_cons (ps_set (i := 8) scMeet.nd rfl (.inl rfl) pe_int)
      (pss_cons (ps_set (i := 9) scMeet.nd rfl (.inl rfl) pe_int)
      (Evl.pss_cut (ps_if (pt_cmpR op_ge (pv 4) pe_int (nomark _))
        (pss_cons (ps_set (i := 7) scMeet.nd rfl (.inl rfl) (pe_ix ix_list (pe_ix ix_list (pe_fld (pv 0) rfl) (pv 4) (fun _ _ => rfl)) pe_int (fun _ _ => rfl)))
        (pss_cons (ps_set (i := 8) scMeet.nd rfl (.inl rfl) (pe_ix ix_list (pe_ix ix_list (pe_fld (pv 0) rfl) (pv 4) (fun _ _ => rfl)) pe_int (fun _ _ => rfl)))
        (pss_one (ps_set (i := 9) scMeet.nd rfl (.inl rfl) (pe_op op_mul (pv 2) (pe_ix ix_list (pe_ix ix_list (pe_fld (pv 0) rfl) (pv 4) (fun _ _ => rfl)) (pe_op op_add pe_int (pv 1)) (fun _ _ => rfl)))))))
        pss_nil)
      (pss_cons (ps_set (i := 10) scMeet.nd rfl (.inl rfl) (pe_cal cP hr (pa_cons (pe_fld (pv 0) rfl) (pa_cons (pv 6) (pa_cons (pe_ix ix_list (pv 5) pe_int (fun _ _ => rfl)) (pa_cons (pv 9) (pa_cons (pv 8) pa_nil)))))))
      (pss_cons (ps_asg (pe_op op_sub (pe_ix ix_list (pv 5) (pe_op op_add pe_int (pv 1)) (fun _ _ => rfl)) (pe_op op_mul (pv 2) (pv 10))) (pg_sub (pv 5) (pe_op op_add pe_int (pv 1)) set_list))
      (Evl.pss_cut (ps_if (pt_cmpR op_gt (pv 8) pe_int (nomark _))
        (pss_one (ps_asg (pe_op op_add (pe_ix ix_list (pe_ix ix_list (pe_fld (pv 0) rfl) (pv 4) (fun _ _ => rfl)) (pe_op op_add pe_int (pv 1)) (fun _ _ => rfl)) (pe_op op_mul (pv 2) (pv 10))) (pg_sub (pe_ix ix_list (pe_fld (pv 0) rfl) (pv 4) (fun _ _ => rfl)) (pe_op op_add pe_int (pv 1)) set_list)))
        pss_nil)
      (pss_one (ps_expr (pe_bm PySem.F.plainAttrs_list PySem.F.slot_list_append PySem.F.type_list_append mt_append (pe_fld (pv 0) rfl)
        (pa_cons (pe_tup (pa_cons (pe_ix ix_str pe_str (pv 1) (fun _ _ => rfl)) (pa_cons (pv 2) (pa_cons (pe_ix ix_list (pv 5) pe_int (fun _ _ => rfl)) (pa_cons (pv 7) (pa_cons (pv 10) pa_nil)))))) pa_nil)))))))))))), ?_⟩
    obtain ⟨q, hq, hqb⟩ := m.bds.addr hb
    -- body, u, name, mass, v
    refine ⟨_, rfl, M.p, C, M.dx, _, _, rfl, m.self, X.cl, X.nB, movF_bodies _ _ _, _, rfl, M.L, _, _, .ref q, rfl, rfl, SqL.of m.lst, atI_nat (map_get hq), ?_⟩
    refine ⟨_, rfl, _, rfl, _, rfl, _, _, rfl, rfl, q, _, _, .int (mom a b), rfl, rfl, SqL.of hqb, at_mom a b, _, _, rfl, rfl, .inl hs64, ?_⟩
    -- if other >= 0
    refine ⟨fun σ' H' => H' = H ∧ ∃ (nm : Str) (mv vv : Int), σ' = [some (.ref M.p), some (.int (ax a)), some (.int s), some (.int (i : Nat)), some (.int o), some (.ref q), some (.int (s * mom a b)), some (.str nm), some (.int mv), some (.int vv), none] ∧ 0 ≤ mv ∧ mv ≤ 100 ∧
      ((mv = 0 ∧ Stop C M H bs cs a s i b nm Q) ∨ (mv ≠ 0 ∧ ∃ (k : Nat) (c : Bd), o = (k : Int) ∧ k ≠ i ∧ bs[k]? = some c ∧ nm = c.nm ∧ mv = c.m ∧ Push C M H bs cs a s i b k c Q)), ?_, ?_⟩
    · refine ⟨_, rfl, _, _, rfl, rfl, _, rfl, ?_⟩
      rcases k with ⟨eo, k⟩ | ⟨kk, c, eo, hki, hc, c0, c1, k0, k1⟩
      · refine iteD (by omega) ?_
        exact ⟨rfl, _, 0, 0, rfl, Int.le_refl 0, by decide, .inl ⟨rfl, k⟩⟩
      · refine iteP (by omega) ?_
        subst eo
        obtain ⟨r, hr', hrc⟩ := m.bds.addr hc
        refine ⟨_, rfl, M.p, C, M.dx, _, _, rfl, m.self, X.cl, X.nB, movF_bodies _ _ _, _, rfl, M.L, _, _, .ref r, rfl, rfl, SqL.of m.lst, atI_nat (map_get hr'), r, _, _, .str c.nm, rfl, rfl, SqL.of hrc, rfl, ?_⟩
        refine ⟨_, rfl, M.p, C, M.dx, _, _, rfl, m.self, X.cl, X.nB, movF_bodies _ _ _, _, rfl, M.L, _, _, .ref r, rfl, rfl, SqL.of m.lst, atI_nat (map_get hr'), r, _, _, .int c.m, rfl, rfl, SqL.of hrc, rfl, ?_⟩
        refine ⟨_, rfl, _, rfl, M.p, C, M.dx, _, _, rfl, m.self, X.cl, X.nB, movF_bodies _ _ _, _, rfl, M.L, _, _, .ref r, rfl, rfl, SqL.of m.lst, atI_nat (map_get hr'), _, rfl, _, _, rfl, rfl, r, _, _, .int (mom a c), rfl, rfl, SqL.of hrc, at_mom a c, _, _, rfl, rfl, .inl hs64, ?_⟩
        refine ⟨rfl, c.nm, c.m, _, rfl, c0, c1, ?_⟩
        by_cases e : c.m = 0
        · exact .inl ⟨e, k0 e⟩
        · exact .inr ⟨e, kk, c, rfl, hki, hc, rfl, rfl, k1 e⟩
    · rintro σ' H' ⟨rfl, nm, mv, vv, rfl, mv0, mv1, kk⟩
      -- j = passed(..)
      refine ⟨_, rfl, M.p, C, M.dx, _, _, rfl, m.self, X.cl, X.nU, movF_bounce _ _ _, _, rfl, _, rfl, q, _, _, .int b.m, rfl, rfl, SqL.of hqb, rfl, _, rfl, _, rfl, ?_⟩
      refine ⟨M.bn, M.n, M.d, _, b.m, vv, mv, rfl, m.bnc, m.ok, bm1, bm2, mv0, mv1, fun j hj => ?_⟩
      -- body[6 + axis] = body[6 + axis] - sign * j
      refine ⟨_, rfl, _, rfl, _, _, rfl, rfl, q, _, _, .int (mom a b), rfl, rfl, SqL.of hqb, at_mom a b, _, rfl, _, rfl, _, _, rfl, rfl, .inl hs64, _, _, rfl, rfl, ?_⟩
      refine ⟨_, rfl, _, rfl, _, _, rfl, rfl, q, _, _, _, rfl, rfl, hqb, ix_mom a, ?_⟩
      rw [set_mom]
      have m1 := m.put (b' := setMom a (mom a b - s * j) b) hq
      have kp1 : Kept M H' (upd H' q (bdL (setMom a (mom a b - s * j) b))) := kept_put (List.mem_of_getElem? hq) (Kept.refl M H')
      have hq1 : (upd H' q (bdL (setMom a (mom a b - s * j) b))) q = some (bdL (setMom a (mom a b - s * j) b)) := upd_same
      generalize upd H' q (bdL (setMom a (mom a b - s * j) b)) = H1 at m1 kp1 hq1 ⊢
      -- if mass > 0
      refine ⟨fun σ2 H2 => σ2 = [some (.ref M.p), some (.int (ax a)), some (.int s), some (.int (i : Nat)), some (.int o), some (.ref q), some (.int (s * mom a b)), some (.str nm), some (.int mv), some (.int vv), some (.int j)] ∧
        Kept M H' H2 ∧ (∃ b', H2 q = some (bdL b') ∧ b'.nm = b.nm) ∧ ∃ bs', MovAt C M H2 bs' cs ∧ ∀ H3, MovAt C M H3 bs' (cs ++ [⟨a, s, b.nm, nm, j⟩]) → Kept M H' H3 → Q .non H3, ?_, ?_⟩
      · refine ⟨_, rfl, _, _, rfl, rfl, _, rfl, ?_⟩
        rcases kk with ⟨e0, st⟩ | ⟨e0, kx, c, rfl, hki, hc, rfl, rfl, pu⟩
        · refine iteD (by omega) ?_
          exact ⟨rfl, kp1, ⟨_, hq1, (mom_parts a _ b).1⟩, _, m1, fun H3 m3 kp3 => st H3 j hj m3 kp3⟩
        · refine iteP (by omega) ?_
          have hc1 : (bs.set i (setMom a (mom a b - s * j) b))[kx]? = some c := by rw [List.getElem?_set_ne hki.symm]; exact hc
          obtain ⟨r, hr', hrc⟩ := m1.bds.addr hc1
          have nrq : q ≠ r := fun e => hki.symm (nodup_at m.nd hq (by rw [e]; exact hr'))
          refine ⟨_, rfl, M.p, C, M.dx, _, _, rfl, m1.self, X.cl, X.nB, movF_bodies _ _ _, _, rfl, M.L, _, _, .ref r, rfl, rfl, SqL.of m1.lst, atI_nat (map_get hr'), _, rfl, _, _, rfl, rfl, r, _, _, .int (mom a c), rfl, rfl, SqL.of hrc, at_mom a c,
            _, rfl, _, rfl, _, _, rfl, rfl, .inl hs64, _, _, rfl, rfl, ?_⟩
          refine ⟨_, rfl, M.p, C, M.dx, _, _, rfl, m1.self, X.cl, X.nB, movF_bodies _ _ _, _, rfl, M.L, _, _, .ref r, rfl, rfl, SqL.of m1.lst, atI_nat (map_get hr'), _, rfl, _, _, rfl, rfl, r, _, _, _, rfl, rfl, hrc, ix_mom a, ?_⟩
          rw [set_mom]
          refine ⟨rfl, kept_put (List.mem_of_getElem? hr') kp1, ⟨_, (upd_ne nrq).trans hq1, (mom_parts a _ b).1⟩, _, m1.put hr', fun H3 m3 kp3 => pu H3 j hj m3 kp3⟩
      · rintro σ2 H2 ⟨rfl, kp2, ⟨b', hq2, eb⟩, bs', m2, fin⟩
        -- self.contacts.append(..)
        obtain ⟨ts, hT, hL⟩ := m2.cts.ex
        refine ⟨_, rfl, M.p, C, M.dx, _, _, rfl, m2.self, X.cl, X.nC, movF_contacts _ _ _, .inl ⟨rfl, _, SqL.of hT⟩, ?_⟩
        refine ⟨_, rfl, _, _, _, rfl, rfl, by decide +kernel, xy_at a, ?_⟩
        rw [xy_str]
        refine ⟨_, rfl, _, rfl, q, _, _, .str b'.nm, rfl, rfl, SqL.of hq2, rfl, _, rfl, _, rfl, by show 5 ≤ sizeLine; decide, fun t ht => ?_⟩
        rw [eb]
        have nTt : M.T ≠ t := ne_of_none hT ht
        have sT : Same H2 (upd H2 t (ctT ⟨a, s, b.nm, nm, j⟩)) := same_upd ht
        have lts : ts.length < sizeLine := by
          rw [hL.len]
          exact Nat.lt_of_le_of_lt hcl (by decide)
        refine ⟨M.T, _, _, rfl, rfl, (upd_ne nTt).trans hT, by rw [List.length_map]; exact lts, ?_⟩
        have m3 := (m2.same sT).add (t := t) (c := ⟨a, s, b.nm, nm, j⟩) (sT _ _ hT) (hL.same sT) upd_same
        rw [List.map_append] at m3
        exact fin _ m3 (kept_cts (kp2.trans (Kept.of sT)))
end
end Km
/-! go. -/
namespace Km
open PySem L2
/-- a list without repeats within another is not longer -/
theorem nodup_len {α : Type} [DecidableEq α] : ∀ {l r : List α}, l.Nodup → (∀ x ∈ l, x ∈ r) → l.length ≤ r.length
  | [], r, _, _ => Nat.zero_le _
  | x :: l, r, hn, hs => by
    rw [List.nodup_cons] at hn
    have hx : x ∈ r := hs x (List.mem_cons_self ..)
    have ih := nodup_len (l := l) (r := r.erase x) hn.2 fun y hy => by
      have hne : y ≠ x := fun e => hn.1 (e ▸ hy)
      exact (List.mem_erase_of_ne hne).mpr (hs y (List.mem_cons_of_mem _ hy))
    have e := List.length_erase_of_mem hx
    have hp := List.length_pos_of_mem hx
    rw [List.length_cons]
    omega
theorem GoInv.count {a : Bool} {bs0 bs : List Bd} {cs0 cs : List Ct} {left : List Int} (I : GoInv a bs0 cs0 bs left cs) : cs.length ≤ cs0.length + 12 := by
  obtain ⟨new, e, ok, nd, _, _⟩ := I.new
  have h1 := nodup_len nd (r := namesOf bs0) fun x hx => by
    obtain ⟨c, hc, rfl⟩ := List.mem_map.mp hx
    exact (ok c hc).nm
  have h2 := I.good.len
  have h3 := congrArg List.length I.stat
  simp only [List.length_map] at h3
  rw [List.length_map, namesOf, List.length_map, ← h3] at h1
  rw [e, List.length_append]
  omega
theorem map_set_int (l : List Int) (i : Nat) (z : Int) : (l.map V.int).set i (V.int z) = (l.set i z).map V.int := by rw [List.map_set]
theorem ixN_nat {n i : Nat} (h : i < n) : ixN n (i : Int) = some i := by
  unfold ixN
  rw [if_pos (by omega), if_pos (by omega)]
  rfl
theorem lt_set {left : List Int} {i k : Nat} {z : Int} (h : left[k]? = some z) (hk : k ≠ i) (y : Int) : (left.set i y)[k]? = some z := by
  rw [List.getElem?_set_ne hk.symm]
  exact h
theorem any_ne {left : List Int} (h : (left.map fun z => !decide (V.int z = V.int 0)).any id = true) : ∃ (k : Nat) (z : Int), left[k]? = some z ∧ z ≠ 0 := by
  rw [List.any_eq_true] at h
  obtain ⟨b, hb, hb'⟩ := h
  obtain ⟨z, hz, rfl⟩ := List.mem_map.mp hb
  obtain ⟨k, hk⟩ := List.mem_iff_getElem?.mp hz
  refine ⟨k, z, hk, fun e => ?_⟩
  rw [e] at hb'
  exact absurd hb' (by decide)
section
variable {P : Program} {w : World} {K : PySem.W.Frag} {mg : Str → Option Value} {base : Heap} {C : Addr}
abbrev sGo : Stmt := inClass (tp 33) 4
theorem scGo : FnScope ["self", "axis", "wishes", "left", "at", "body", "sign", "box", "other", "wish"] ["self", "axis", "wishes"] (defScope sGo) := ⟨rfl, rfl, rfl, by decide +kernel, rfl, by decide +kernel, by decide +kernel⟩
def spGo (C : Addr) : Sp := fun vs H Q _ => ∃ (M : MV) (bs : List Bd) (cs : List Ct) (a : Bool) (wl : Addr) (ws : List Int), vs = [.ref M.p, .int (ax a), .ref wl] ∧ MovAt C M H bs cs ∧ GoodSp bs ∧ H wl = some (.lst (ws.map V.int)) ∧ ws.length = bs.length ∧ OkW bs ws ∧ cs.length ≤ 12 ∧
  ∀ (H' : Hp) (bs' : List Bd) (cs' : List Ct) (left : List Int), MovAt C M H' bs' cs' → GoInv a bs cs bs' left cs' → Kept M H H' → Q .non H'
theorem ok_go {f fB fM : Addr} {fd fdB fdM : FuncData} (F : Fun K "go" "Moving.go" sGo f fd) (X : CT K mg C) (B : Bt mg) (cR : Cal P w K mg base 1 "raw_box" ["body"] spRaw) (cV : Cal P w K mg base 1 "moved_by" ["box", "dx", "dy"] spMoved)
    (GB : FnOk P w K mg base CX0 4 fB fdB ["self", "at", "box"] (spBlock C)) (bB : Binds K fdB ["self", "at", "box"] []) (mB : Meth K C "blocker" fB)
    (GM : FnOk P w K mg base CX0 2 fM fdM ["self", "axis", "sign", "at", "other"] (spMeet C)) (bM : Binds K fdM ["self", "axis", "sign", "at", "other"] []) (mM : Meth K C "meet" fM) :
    FnOk P w K mg base CX0 5 f fd ["self", "axis", "wishes"] (spGo C) := by
  refine F.ok scGo (fun vs H Q E h => ?_) (fun cdv A outer s H vs Q E hr h => ?_)
  · obtain ⟨M, bs, cs, a, wl, ws, rfl, _⟩ := h
    rfl
  · obtain ⟨M, bs, cs, a, wl, ws, rfl, m, g, hwl, hlen, ow, hcs, k⟩ := h
    have r1 : Room 1 _ := hr.mono (by decide)
    have r2 : Room 2 _ := hr.mono (by decide)
    refine ⟨_, pss_cons (ps_set (i := 3) scGo.nd rfl (.inl rfl) (pe_callTy call_list_of (by rfl) B.list bt_list (pa_cons (pv 2) pa_nil)))
      (pss_one (ps_while PassesOwn.never (pt_val (pe_callB (cr_any rfl) (by rfl) B.any bt_any (pa_cons (pe_lc (own := [("wish", 9)]) (g := gName 9) (tt := tYes) rfl scGo.nd (pi_list (pv 3))
          (blkOk_by (own := [("wish", 9)]) (N := ["self", "axis", "wishes", "left", "at", "body", "sign", "box", "other", "wish"]) (sc := defScope sGo) (by decide +kernel)) (fun _ _ _ _ _ => pg_name (i := 9) scGo.nd rfl (Or.inl rfl)) (fun _ _ _ _ _ => pts_nil)
          (fun _ _ _ _ _ => pe_cmpR op_ne (pv 9) pe_int (nomark _))) pa_nil)))
      (pss_one (ps_for PassesOwn.never rfl (pi_enum (by rfl) B.enumerate (pa_cons (pe_fld (pv 0) rfl) pa_nil)) (pg_tup rfl (pgs_cons (pg_name (i := 4) scGo.nd rfl (Or.inl rfl)) (pgs_cons (pg_name (i := 5) scGo.nd rfl (Or.inl rfl)) pgs_nil)))
      (pss_one (ps_if (pt_cmpR op_ne (pe_ix ix_list (pv 3) (pv 4) (fun _ _ => rfl)) pe_int (nomark _)) (Evl.pss_cut (ps_set (i := 6) scGo.nd rfl (.inl rfl) (pe_ifExp (pt_cmpR op_gt (pe_ix ix_list (pv 3) (pv 4) (fun _ _ => rfl)) pe_int (nomark _)) pe_int (pe_un un_neg pe_int)))
      (pss_cons (ps_set (i := 7) scGo.nd rfl (.inl rfl) (pe_cal cV r1 (pa_cons (pe_cal cR r1 (pa_cons (pv 5) pa_nil)) (pa_cons (pe_op op_mul (pv 6) (pe_op op_sub pe_int (pv 1))) (pa_cons (pe_op op_mul (pv 6) (pv 1)) pa_nil)))))
      (pss_cons (ps_set (i := 8) scGo.nd rfl (.inl rfl) (pe_meth (pv 0) X.cl mB GB hr bB .nil pass0 (pa_cons (pv 4) (pa_cons (pv 7) pa_nil))))
      (pss_one (ps_if (pt_cmpR op_isN (pv 8) pe_non (nomark _)) (pss_cons (ps_asg (pe_op op_add (pe_ix ix_list (pv 5) (pe_op op_add pe_int (pv 1)) (fun _ _ => rfl)) (pv 6)) (pg_sub (pv 5) (pe_op op_add pe_int (pv 1)) set_list))
      (pss_one (ps_asg (pe_op op_sub (pe_ix ix_list (pv 3) (pv 4) (fun _ _ => rfl)) (pv 6)) (pg_sub (pv 3) (pv 4) set_list))))
      (pss_cons (ps_asg pe_int (pg_sub (pv 3) (pv 4) set_list))
      (pss_one (ps_expr (pe_meth (pv 0) X.cl mM GM r2 bM .nil pass0 (pa_cons (pv 1) (pa_cons (pv 6) (pa_cons (pv 4) (pa_cons (pv 8) pa_nil))))))))))))) pss_nil)))))), ?_⟩
    -- left = list(wishes)
    refine ⟨_, rfl, wl, _, rfl, .inl (SqL.of hwl), fun lf hlf => ?_⟩
    have s0 : Same H (upd H lf (.lst (ws.map V.int))) := same_upd hlf
    have nL : lf ≠ M.L := (ne_of_none m.lst hlf).symm
    obtain ⟨ts0, hT0, _⟩ := m.cts.ex
    have nT : lf ≠ M.T := (ne_of_none hT0 hlf).symm
    have hI : ∀ (H' : Hp) (bs' : List Bd) (cs' : List Ct) (left : List Int), MovAt C M H' bs' cs' → H' lf = some (.lst (left.map V.int)) → ∀ H'', Kept M H' H'' → H'' lf = some (.lst (left.map V.int)) := fun H' bs' cs' left m' h' H'' kp => kp _ _ h' nT (m'.notIn h' fun _ => ints_bd)
    -- while any(..)
    refine ⟨fun n σ H' => ∃ (bs' : List Bd) (cs' : List Ct) (left : List Int) (x4 x5 x6 x7 x8 : Option V), σ = [some (.ref M.p), some (.int (ax a)), some (.ref wl), some (.ref lf), x4, x5, x6, x7, x8, none] ∧ MovAt C M H' bs' cs' ∧ GoInv a bs cs bs' left cs' ∧
        H' lf = some (.lst (left.map V.int)) ∧ Kept M H H' ∧ n = meas left, ⟨_, bs, cs, ws, _, _, _, _, _, rfl, m.same s0, GoInv.start g hlen ow, upd_same, Kept.of s0, rfl⟩, ?_⟩
    rintro n σ H1 ⟨bs1, cs1, left1, x4, x5, x6, x7, x8, rfl, m1, I1, hl1, kp1, rfl⟩
    have hz1 : left1.length < sizeLine := by
      rw [I1.len]
      exact line12 I1.good.len
    refine ⟨_, rfl, lf, rfl, ⟨_, SqL.of hl1⟩, fun D hD => ?_⟩
    refine lc_lstM left1 V.int (fun z => .bl (!decide (V.int z = V.int 0))) (SqL.of hl1) hD hz1 (fun _ => rfl) (fun i z H2 Q' _ _ q' => ⟨_, rfl, rfl, q' _ (Same.refl _)⟩) (fun H2 s2 hD2 => ?_)
    refine ⟨D, left1.map fun z => !decide (V.int z = V.int 0), rfl, SqL.of (by rw [hD2, List.map_map]; rfl), _, rfl, ?_⟩
    have m2 := m1.same s2
    have hl2 := s2 _ _ hl1
    have kp2 : Kept M H H2 := kp1.trans (Kept.of s2)
    refine ite2 (fun hany => ?_) (fun _ => k H2 bs1 cs1 left1 m2 I1 kp2)
    obtain ⟨k0, z0, hk0, hz0⟩ := any_ne hany
    -- a round
    refine ⟨fun σ' H' => ∃ (bs' : List Bd) (cs' : List Ct) (left : List Int) (y4 y5 y6 y7 y8 : Option V), σ' = [some (.ref M.p), some (.int (ax a)), some (.ref wl), some (.ref lf), y4, y5, y6, y7, y8, none] ∧ MovAt C M H' bs' cs' ∧ GoInv a bs cs bs' left cs' ∧
        H' lf = some (.lst (left.map V.int)) ∧ Kept M H H' ∧ meas left < meas left1,
      fun σ' H' ⟨bs', cs', left, y4, y5, y6, y7, y8, e1, e2, e3, e4, e5, e6⟩ => ⟨_, e6, bs', cs', left, y4, y5, y6, y7, y8, e1, e2, e3, e4, e5, rfl⟩, ?_⟩
    refine ⟨_, rfl, M.p, C, M.dx, _, _, rfl, m2.self, X.cl, X.nB, movF_bodies _ _ _, M.L, _, rfl, SqL.of m2.lst, ?_⟩
    refine for_it (walk_enum (K := K) (a := M.L) (xs := M.as.map V.ref)) (fun i σ' H' => ∃ (bs' : List Bd) (cs' : List Ct) (left : List Int) (y4 y5 y6 y7 y8 : Option V), σ' = [some (.ref M.p), some (.int (ax a)), some (.ref wl), some (.ref lf), y4, y5, y6, y7, y8, none] ∧
        MovAt C M H' bs' cs' ∧ GoInv a bs cs bs' left cs' ∧ H' lf = some (.lst (left.map V.int)) ∧ Kept M H H' ∧ (meas left < meas left1 ∨ (meas left = meas left1 ∧ ∃ (k : Nat) (z : Int), i ≤ k ∧ left[k]? = some z ∧ z ≠ 0)))
      ⟨bs1, cs1, left1, _, _, _, _, _, rfl, m2, I1, hl2, kp2, .inr ⟨rfl, k0, z0, Nat.zero_le _, hk0, hz0⟩⟩ (fun i σ' H' _ ⟨_, _, _, _, _, _, _, _, _, m', _⟩ => SqL.of m'.lst) ?_ ?_
    · rintro i v σ' H3 H4 hi ⟨bs3, cs3, left3, y4, y5, y6, y7, y8, rfl, m3, I3, hl3, kp3, ms⟩ ⟨T, v1, v2, rfl, nTn, rfl, e1, e2⟩
      have e1' : v1 = .int (i : Nat) := (Option.some.inj e1).symm
      subst e1'
      obtain ⟨q, hq, rfl⟩ := get_of_map e2
      obtain ⟨b, hb, hqb3⟩ := m3.bds.item hq
      have sT : Same H3 (upd H3 T (.tup [V.int (i : Nat), V.ref q])) := same_upd nTn
      refine ⟨T, _, rfl, SqT.of upd_same, rfl, _, _, rfl, _, _, rfl, rfl, ?_⟩
      generalize upd H3 T (.tup [V.int (i : Nat), V.ref q]) = H5 at sT ⊢
      have m5 := m3.same sT
      have hl5 := sT _ _ hl3
      have kp5 : Kept M H H5 := kp3.trans (Kept.of sT)
      have hqb5 := sT _ _ hqb3
      have hil : i < left3.length := by
        rw [I3.len]
        exact lt_of_get hb
      obtain ⟨z, hz⟩ : ∃ z, left3[i]? = some z := ⟨_, List.getElem?_eq_getElem hil⟩
      have gb := I3.good.all i b hb
      have gm1 := gb.m1
      -- if left[at] != 0
      refine ⟨_, rfl, _, rfl, lf, _, _, .int z, rfl, rfl, SqL.of hl5, atI_nat (map_get hz), rfl, _, rfl, ite2 (fun hne => ?_) (fun hne => ?_)⟩
      · have z0' : z ≠ 0 := fun e => by
          rw [e, decide_eq_true rfl] at hne
          cases hne
        have bm : b.m ≠ 0 := I3.free i b z hb hz z0'
        have gm0 := gb.m0
        -- sign = 1 if left[at] > 0 else -1
        refine ⟨fun σ2 H6 => H6 = H5 ∧ ∃ s : Int, σ2 = [some (.ref M.p), some (.int (ax a)), some (.ref wl), some (.ref lf), some (.int (i : Nat)), some (.ref q), some (.int s), y7, y8, none] ∧ (s = 1 ∨ s = -1) ∧ (z - s).natAbs < z.natAbs, ?_, ?_⟩
        · refine ⟨_, rfl, _, rfl, lf, _, _, .int z, rfl, rfl, SqL.of hl5, atI_nat (map_get hz), _, _, rfl, rfl, _, rfl, ite2 (fun hp => ?_) (fun hp => ?_)⟩
          · have hp' : 0 < z := of_decide_eq_true hp
            exact ⟨rfl, 1, rfl, .inl rfl, by omega⟩
          · have hp' : ¬ 0 < z := fun h => hp (decide_eq_true h)
            exact ⟨1, rfl, rfl, -1, rfl, .inr rfl, by omega⟩
        · rintro σ2 H6 ⟨rfl, sg, rfl, hsg, hlt⟩
          have hs64 : -(2 ^ 64) < sg ∧ sg < 2 ^ 64 := by rcases hsg with h | h <;> omega
          -- box = moved_by(raw_box(body), sign * (1 - axis), sign * axis)
          refine ⟨_, rfl, q, b, rfl, .inl hqb5, fun u hu => ?_⟩
          refine ⟨_, rfl, _, rfl, _, _, rfl, rfl, _, _, rfl, rfl, .inl hs64, _, rfl, _, rfl, _, _, rfl, rfl, .inl hs64, ?_⟩
          refine ⟨u, box b, a, sg, rfl, upd_same, fun x hx => ?_⟩
          have s6 : Same H6 (upd H6 u (bxT (box b))) := same_upd hu
          have s7 : Same H6 (upd (upd H6 u (bxT (box b))) x (bxT (mvB a sg (box b)))) := same_put s6 hx
          have hx7 : (upd (upd H6 u (bxT (box b))) x (bxT (mvB a sg (box b)))) x = some (bxT (mvB a sg (box b))) := upd_same
          generalize upd (upd H6 u (bxT (box b))) x (bxT (mvB a sg (box b))) = H7 at s7 hx7 ⊢
          have m7 := m5.same s7
          have nob : (movF M.L M.bn M.T).lookup ("blocker" : Str) = none := movF_no _ _ _ (by decide +kernel) (by decide +kernel) (by decide +kernel)
          have nom : (movF M.L M.bn M.T).lookup ("meet" : Str) = none := movF_no _ _ _ (by decide +kernel) (by decide +kernel) (by decide +kernel)
          have hn5 : (left3.map V.int).length = left3.length := List.length_map ..
          -- behind a contact
          have after : ∀ (H8 : Hp), Same H7 H8 → ∀ o : Int,
              ((o = -1) ∨ ∃ (kk : Nat) (c : Bd), o = (kk : Int) ∧ kk ≠ i ∧ bs3[kk]? = some c) →
              ∀ Fin : VK, (∀ (H' : Hp) (bs' : List Bd) (cs' : List Ct), MovAt C M H' bs' cs' → GoInv a bs cs bs' (left3.set i 0) cs' → H' lf = some (.lst ((left3.set i 0).map V.int)) → Kept M H H' → Fin .non H') →
              spMeet C [.ref M.p, .int (ax a), .int sg, .int (i : Nat), .int o] (upd H8 lf (.lst ((left3.map V.int).set i (.int 0)))) Fin E0 := by
            intro H8 s8 o ho Fin hF
            have hl8 : H8 lf = some (.lst (left3.map V.int)) := s8 _ _ (s7 _ _ hl5)
            have m8 := (m7.same s8).off (o := .lst ((left3.map V.int).set i (.int 0))) hl8 nL nT
            have kp8 : Kept M H (upd H8 lf (.lst ((left3.map V.int).set i (.int 0)))) := kept_off hlf (kp5.trans (Kept.of (s7.trans s8)))
            have hl9 : (upd H8 lf (.lst ((left3.map V.int).set i (.int 0)))) lf = some (.lst ((left3.set i 0).map V.int)) := by rw [upd_same, map_set_int]
            generalize upd H8 lf (.lst ((left3.map V.int).set i (.int 0))) = H9 at m8 kp8 hl9 ⊢
            have hcl : cs3.length ≤ 100 := by have := I3.count; omega
            have stop : ∀ ot : Str, (ot = ("" : Str) ∨ ∃ (kk : Nat) (c : Bd), kk ≠ i ∧ bs3[kk]? = some c ∧ c.m = 0 ∧ ot = c.nm) → Stop C M H9 bs3 cs3 a sg i b ot Fin := fun ot hot H' j hj m' kp' =>
              hF H' _ _ m' (I3.stop hb hz z0' hsg hj hot) (hI _ _ _ _ m8 hl9 _ kp') (kp8.trans kp')
            refine ⟨M, bs3, cs3, a, sg, i, o, b, rfl, m8, hcl, hsg, hb, by omega, gm1, ?_⟩
            rcases ho with ho | ⟨kk, c, ho, hki, hc⟩
            · exact .inl ⟨ho, stop "" (.inl rfl)⟩
            · have gc := I3.good.all kk c hc
              refine .inr ⟨kk, c, ho, hki, hc, gc.m0, gc.m1, fun e => stop c.nm (.inr ⟨kk, c, hki, hc, e, rfl⟩), fun e H' j hj m' kp' => ?_⟩
              exact hF H' _ _ m' (I3.push hb hz z0' hsg hj hki hc e) (hI _ _ _ _ m8 hl9 _ kp') (kp8.trans kp')
          have mless : ∀ y : Int, y.natAbs < z.natAbs → meas (left3.set i y) < meas left1 := fun y hy => by
            have h1 := meas_set hz hy
            rcases ms with h | ⟨h, _⟩ <;> omega
          have m0less := mless 0 (by omega)
          -- other = self.blocker(at, box)
          refine ⟨_, rfl, M.p, M.dx, _, rfl, m7.self, nob, _, rfl, _, rfl, ?_⟩
          refine ⟨M, bs3, cs3, i, x, mvB a sg (box b), rfl, m7, hx7, fun H8 kk c s8 hki hc => ?_, fun H8 s8 hw hcl => ?_, fun H8 s8 => ?_⟩
          · -- a body
            refine ⟨_, rfl, rfl, _, rfl, iteF ?_⟩
            refine ⟨_, rfl, _, rfl, lf, _, _, i, rfl, rfl, s8 _ _ (s7 _ _ hl5), by rw [hn5]; exact ixN_nat hil, ?_⟩
            have m8 := (m7.same s8).off (o := .lst ((left3.map V.int).set i (.int 0))) (s8 _ _ (s7 _ _ hl5)) nL nT
            refine ⟨_, rfl, M.p, M.dx, _, rfl, m8.self, nom, _, rfl, _, rfl, _, rfl, _, rfl, ?_⟩
            exact after H8 s8 _ (.inr ⟨kk, c, rfl, hki, hc⟩) _ fun H' bs' cs' m' I' hl' kp' => ⟨bs', cs', _, _, _, _, _, _, rfl, m', I', hl', kp', .inl m0less⟩
          · -- free
            refine ⟨_, rfl, rfl, _, rfl, iteT ?_⟩
            have hqb8 := s8 _ _ (s7 _ _ hqb5)
            have hl8 := s8 _ _ (s7 _ _ hl5)
            have m8 := m7.same s8
            have kp8 : Kept M H H8 := kp5.trans (Kept.of (s7.trans s8))
            refine ⟨_, rfl, _, rfl, _, _, rfl, rfl, q, _, _, .int (pos a b), rfl, rfl, SqL.of hqb8, at_pos a b, _, rfl, _, _, rfl, rfl, ?_⟩
            refine ⟨_, rfl, _, rfl, _, _, rfl, rfl, q, _, _, _, rfl, rfl, hqb8, ix_pos a, ?_⟩
            rw [set_pos]
            have m9 := m8.put (b' := setPos a (pos a b + sg) b) hq
            have nlq : lf ≠ q := ne_of hl8 hqb8 ints_bd
            have hl9 : (upd H8 q (bdL (setPos a (pos a b + sg) b))) lf = some (.lst (left3.map V.int)) := by
              rw [upd_ne nlq]
              exact hl8
            have kp9 : Kept M H (upd H8 q (bdL (setPos a (pos a b + sg) b))) := kept_put (List.mem_of_getElem? hq) kp8
            generalize upd H8 q (bdL (setPos a (pos a b + sg) b)) = H9 at m9 hl9 kp9 ⊢
            refine ⟨_, rfl, _, rfl, lf, _, _, .int z, rfl, rfl, SqL.of hl9, atI_nat (map_get hz), _, rfl, _, _, rfl, rfl, ?_⟩
            refine ⟨_, rfl, _, rfl, lf, _, _, i, rfl, rfl, hl9, by rw [hn5]; exact ixN_nat hil, ?_⟩
            refine ⟨_, cs3, left3.set i (z - sg), _, _, _, _, _, rfl, m9.off hl9 nL nT, I3.move hb hz z0' hw hcl, by rw [upd_same, map_set_int], kept_off hlf kp9, .inl (mless _ hlt)⟩
          · -- the edge
            refine ⟨_, rfl, rfl, _, rfl, iteF ?_⟩
            refine ⟨_, rfl, _, rfl, lf, _, _, i, rfl, rfl, s8 _ _ (s7 _ _ hl5), by rw [hn5]; exact ixN_nat hil, ?_⟩
            have m8 := (m7.same s8).off (o := .lst ((left3.map V.int).set i (.int 0))) (s8 _ _ (s7 _ _ hl5)) nL nT
            refine ⟨_, rfl, M.p, M.dx, _, rfl, m8.self, nom, _, rfl, _, rfl, _, rfl, _, rfl, ?_⟩
            exact after H8 s8 _ (.inl rfl) _ fun H' bs' cs' m' I' hl' kp' => ⟨bs', cs', _, _, _, _, _, _, rfl, m', I', hl', kp', .inl m0less⟩
      · have z0' : z = 0 := by
          by_cases e : z = 0
          · exact e
          · rw [decide_eq_false (fun q => e (V.int.inj q))] at hne
            exact absurd rfl hne
        refine ⟨bs3, cs3, left3, _, _, _, _, _, rfl, m5, I3, hl5, kp5, ?_⟩
        rcases ms with h | ⟨h, kk, y, hk, hy, hy0⟩
        · exact .inl h
        · refine .inr ⟨h, kk, y, ?_, hy, hy0⟩
          have : kk ≠ i := fun e => by
            rw [e, hz] at hy
            exact hy0 ((Option.some.inj hy).symm.trans z0')
          omega
    · rintro σ' H3 ⟨bs3, cs3, left3, y4, y5, y6, y7, y8, rfl, m3, I3, hl3, kp3, ms⟩
      refine ⟨bs3, cs3, left3, _, _, _, _, _, rfl, m3, I3, hl3, kp3, ?_⟩
      rcases ms with h | ⟨_, kk, y, hk, hy, _⟩
      · exact h
      · have := lt_of_get hy
        rw [I3.len] at this
        rw [List.length_map, m3.len] at hk
        omega
end
end Km
/-! tick. -/
namespace Km
open PySem L2
theorem kept_same {M : MV} {H H1 H2 : Hp} (s : Same H H1) (fa : ∀ a ∈ M.as, H a = none) (ft : H M.T = none) (k : Kept M H1 H2) : Same H H2 := fun b o e =>
  k b o (s b o e) (ne_of_none e ft) fun hb => by
    rw [fa b hb] at e
    cases e
theorem OkW.masses {bs bs' : List Bd} {ws : List Int} (h : OkW bs ws) (e : bs'.map stat = bs.map stat) : OkW bs' ws := fun i b z hb hz h0 => by
  have q := map_get (f := stat) hb
  rw [e] at q
  obtain ⟨b0, hb0, _⟩ := get_of_map q
  rw [(mass_of_stat e hb0 hb).1]
  exact h i b0 z hb0 hz h0
section
variable {P : Program} {w : World} {K : PySem.W.Frag} {mg : Str → Option Value} {base : Heap} {C : Addr}
theorem scTick : FnScope ["space", "bounce", "moving", "across", "down", "body"] ["space", "bounce"] (defScope (tp 34)) := ⟨rfl, rfl, rfl, by decide +kernel, rfl, by decide +kernel, by decide +kernel⟩
def spTick : Sp := fun vs H Q _ => ∃ (p bn : Addr) (bs : List Bd) (n d : Int), vs = [.ref p, .ref bn] ∧ SpAt H p bs ∧ GoodSp bs ∧ H bn = some (frT n d) ∧ OkBn n d ∧
  ∀ (H' : Hp) (t sp c : Addr) (bs' : List Bd) (cs : List Ct), Same H H' → H' t = some (.tup [.ref sp, .ref c]) → SpAt H' sp bs' → CtsAt H' c cs → cs.length ≤ 24 → TickR bs bs' cs → Q (.ref t) H'
theorem ok_tick {fI fW fG : Addr} {fdI fdW fdG : FuncData} (D : Dx K mg "tick" (tp 34) ["space", "bounce"]) (X : CT K mg C) (B : Bt mg) (cS : Cal P w K mg base 7 "check_space" ["value"] spCkS) (cB : Cal P w K mg base 3 "check_bounce" ["value"] spCkB)
    (MK : Mk K C fI) (GI : FnOk P w K mg base CX0 1 fI fdI ["self", "space", "bounce"] (spInit C)) (bI : Binds K fdI ["self", "space", "bounce"] [])
    (GW : FnOk P w K mg base CX0 2 fW fdW ["self", "axis"] (spWish C)) (bW : Binds K fdW ["self", "axis"] []) (mW : Meth K C "wishes" fW)
    (GG : FnOk P w K mg base CX0 5 fG fdG ["self", "axis", "wishes"] (spGo C)) (bG : Binds K fdG ["self", "axis", "wishes"] []) (mG : Meth K C "go" fG) :
    Cal P w K mg base 8 "tick" ["space", "bounce"] spTick := D.cal fun f fd F => by
  refine F.ok scTick (fun vs H Q E h => ?_) (fun cdv A outer s H vs Q E hr h => ?_)
  · obtain ⟨p, bn, bs, n, d, rfl, _⟩ := h
    rfl
  · obtain ⟨p, bn, bs, n, d, rfl, hS, g, hbn, ok, k⟩ := h
    have r2 : Room 2 _ := hr.mono (by decide)
    have r3 : Room 3 _ := hr.mono (by decide)
    have r5 : Room 5 _ := hr.mono (by decide)
    refine ⟨_, pss_cons (ps_expr (pe_cal cS hr (pa_cons (pv 0) pa_nil)))
      (pss_cons (ps_expr (pe_cal cB r3 (pa_cons (pv 1) pa_nil)))
      (pss_cons (ps_set (i := 2) scTick.nd rfl (.inl rfl) (pe_make MK GI r2 (by rfl) X.mgC bI .nil pass0 (pa_cons (pv 0) (pa_cons (pv 1) pa_nil))))
      (pss_cons (ps_set (i := 3) scTick.nd rfl (.inl rfl) (pe_meth (pv 2) X.cl mW GW r2 bW .nil pass0 (pa_cons pe_int pa_nil)))
      (pss_cons (ps_set (i := 4) scTick.nd rfl (.inl rfl) (pe_meth (pv 2) X.cl mW GW r2 bW .nil pass0 (pa_cons pe_int pa_nil)))
      (pss_cons (ps_expr (pe_meth (pv 2) X.cl mG GG r5 bG .nil pass0 (pa_cons pe_int (pa_cons (pv 3) pa_nil))))
      (pss_cons (ps_expr (pe_meth (pv 2) X.cl mG GG r5 bG .nil pass0 (pa_cons pe_int (pa_cons (pv 4) pa_nil))))
      (pss_one (ps_ret (pe_tup (pa_cons (pe_callTy call_tuple_of (by rfl) B.tuple bt_tuple (pa_cons (pe_lc (own := [("body", 5)]) (g := gName 5) (tt := tYes) rfl scTick.nd (pi_list (pe_fld (pv 2) rfl))
          (blkOk_by (own := [("body", 5)]) (N := ["space", "bounce", "moving", "across", "down", "body"]) (sc := defScope (tp 34)) (by decide +kernel)) (fun _ _ _ _ _ => pg_name (i := 5) scTick.nd rfl (Or.inl rfl)) (fun _ _ _ _ _ => pts_nil)
          (te := tCB (fun xs H Q => ∃ p ys, xs = [.ref p] ∧ ((SqL K H p ys ∧ ∀ l, H l = none → Q (.ref l) (upd H l (.tup ys))) ∨ (SqT K H p ys ∧ Q (.ref p) H))) (tCons (tVar 5) tNil))
          (fun _ _ _ _ _ => pe_callTy call_tuple_of (by rfl) B.tuple bt_tuple (pa_cons (pv 5) pa_nil))) pa_nil)) (pa_cons (pe_fld (pv 2) rfl) pa_nil))))))))))), ?_⟩
    have noW : ∀ L bn T, (movF L bn T).lookup ("wishes" : Str) = none := fun _ _ _ => movF_no _ _ _ (by decide +kernel) (by decide +kernel) (by decide +kernel)
    have noG : ∀ L bn T, (movF L bn T).lookup ("go" : Str) = none := fun _ _ _ => movF_no _ _ _ (by decide +kernel) (by decide +kernel) (by decide +kernel)
    -- the checks
    refine ⟨_, rfl, p, bs, rfl, hS, g, fun H1 s1 => ?_⟩
    refine ⟨_, rfl, bn, n, d, rfl, s1 _ _ hbn, ok, ?_⟩
    -- moving = Moving(space, bounce)
    refine ⟨_, rfl, _, rfl, fun x dx nx ndx nex => ?_⟩
    have s2 : Same H1 (upd (upd H1 dx (.own x)) x (.ins C dx [])) := fun b o e => by
      rw [upd_ne (ne_of_none e nx), upd_ne (ne_of_none e ndx)]
      exact e
    refine ⟨x, dx, p, bn, bs, n, d, rfl, upd_same, (hS.same s1).same s2, g.len, s2 _ _ (s1 _ _ hbn), ok, fun H3 M ep m3 kp3 fa ft => ⟨rfl, ?_⟩⟩
    subst ep
    have s3 : Same H1 H3 := fun b o e => kp3 b o (s2 b o e) (ne_of_none e nx)
    have fa1 : ∀ a ∈ M.as, H1 a = none := fun a ha => s2.free (fa a ha)
    have ft1 : H1 M.T = none := s2.free ft
    have nTof : ∀ {q : Addr} {H' : Hp} {bs' : List Bd} {cs' : List Ct}, MovAt C M H' bs' cs' → H' q = none → q ≠ M.T := fun m' hq => by
      obtain ⟨ts, h, _⟩ := m'.cts.ex
      exact (ne_of_none h hq).symm
    -- the wishes
    refine ⟨_, rfl, M.p, M.dx, _, rfl, m3.self, noW _ _ _, M, bs, [], false, rfl, m3, g, fun H4 w0 b1 ws0 m4 c1 hw0 hws0 lw0 ow0 kp4 => ?_⟩
    have g1 := c1.good g
    have nw0 := nTof m3 hw0
    refine ⟨_, rfl, M.p, M.dx, _, rfl, m4.self, noW _ _ _, M, b1, [], true, rfl, m4, g1, fun H5 w1 b2 ws1 m5 c2 hw1 hws1 lw1 ow1 kp5 => ?_⟩
    have g2 := c2.good g1
    have nw1 := nTof m4 hw1
    have hws0' : H5 w0 = some (.lst (ws0.map V.int)) := kp5 _ _ hws0 nw0 (m4.notIn hws0 fun _ => ints_bd)
    -- the moves
    refine ⟨_, rfl, M.p, M.dx, _, rfl, m5.self, noG _ _ _, _, rfl, M, b2, [], false, w0, ws0, rfl, m5, g2, hws0', by rw [lw0, c2.len, c1.len], ow0.masses c2.stat, Nat.zero_le _, fun H6 b3 cs3 l3 m6 I6 kp6 => ?_⟩
    have hws1' : H6 w1 = some (.lst (ws1.map V.int)) := kp6 _ _ hws1 nw1 (m5.notIn hws1 fun _ => ints_bd)
    have l32 : b3.length = b2.length := by
      have := congrArg List.length I6.stat
      simpa using this
    refine ⟨_, rfl, M.p, M.dx, _, rfl, m6.self, noG _ _ _, _, rfl, M, b3, cs3, true, w1, ws1, rfl, m6, I6.good, hws1', by rw [lw1, l32, c2.len], ow1.masses I6.stat, I6.count, fun H7 b4 cs4 l4 m7 I7 kp7 => ?_⟩
    have R : TickR bs b4 cs4 := tick_of (c1.trans c2) I6 I7
    have kp : Kept M H3 H7 := kp4.trans (kp5.trans (kp6.trans kp7))
    have s7 : Same H H7 := s1.trans (kept_same s3 fa1 ft1 kp)
    have hc24 : cs4.length ≤ 24 := by
      have h1 := I6.count
      have h2 := I7.count
      simp only [List.length_nil] at h1
      omega
    have hz : b4.length < sizeLine := line12 R.good.len
    -- the answer
    refine ⟨_, rfl, M.p, C, M.dx, _, _, rfl, m7.self, X.cl, X.nB, movF_bodies _ _ _, M.L, rfl, ⟨_, SqL.of m7.lst⟩, fun D hD => ?_⟩
    refine lc_it (walk_list (K := K) (a := M.L) (xs := M.as.map V.ref)) (fun i H8 => Same H7 H8 ∧ ∃ ls : List Addr, H8 D = some (.lst (ls.map V.ref)) ∧ LAt H8 bdT ls (b4.take i)) ⟨same_upd hD, [], upd_same, by rw [List.take_zero]; exact LAt.nil⟩
      (fun i H8 _ q => SqL.of (q.1 _ _ m7.lst)) (fun i y H8 H9 hi q yy => ?_) (fun H8 q => ?_)
    · obtain ⟨rfl, hx⟩ := yy
      obtain ⟨s8, ls, h1, h2⟩ := q
      obtain ⟨a, ha, rfl⟩ := get_of_map hx
      obtain ⟨b, hb, hab⟩ := m7.bds.item ha
      refine ⟨rfl, ?_⟩
      simp only [tYes, ↓reduceIte]
      refine ⟨_, rfl, a, _, rfl, .inl ⟨SqL.of (s8 _ _ hab), fun l hl => ?_⟩⟩
      have nlD : D ≠ l := ne_of_none h1 hl
      have nD : D ∉ ls ++ [l] := fun hm => by
        rcases List.mem_append.mp hm with hm | hm
        · obtain ⟨j, hj⟩ := List.mem_iff_getElem?.mp hm
          obtain ⟨c, _, e⟩ := h2.item hj
          rw [h1] at e
          cases e
        · exact nlD (List.mem_singleton.mp hm)
      have hlen : ls.length ≤ 12 := by
        have h3 := h2.len
        have h4 := R.good.len
        rw [List.length_take] at h3
        omega
      refine ⟨ls.map V.ref, by rw [upd_ne nlD]; exact h1, by rw [List.length_map]; exact line12 hlen, fun c o e => ?_, ls ++ [l], ?_, ?_⟩
      · rw [upd_ne (ne_of_none e hD), upd_ne (ne_of_none (s8 _ _ e) hl)]
        exact s8 _ _ e
      · rw [upd_same, List.map_append]
        rfl
      · rw [List.take_add_one, hb]
        exact ((h2.same (same_upd hl)).snoc upd_same).off nD
    · obtain ⟨s8, ls, h1, h2⟩ := q
      rw [List.length_map, m7.len, List.take_length] at h2
      refine ⟨D, _, rfl, .inl ⟨SqL.of h1, fun sp hsp => ?_⟩⟩
      have s9 : Same H8 (upd H8 sp (.tup (ls.map V.ref))) := same_upd hsp
      have m9 := (m7.same s8).same s9
      refine ⟨_, rfl, M.p, C, M.dx, _, _, rfl, m9.self, X.cl, X.nC, movF_contacts _ _ _, by show 2 ≤ sizeLine; decide, fun t ht => ?_⟩
      have s10 : Same (upd H8 sp (.tup (ls.map V.ref))) (upd (upd H8 sp (.tup (ls.map V.ref))) t (.tup [.ref sp, .ref M.T])) := same_upd ht
      exact k _ t sp M.T b4 cs4 (s7.trans (s8.trans (s9.trans s10))) upd_same ⟨ls, s10 _ _ upd_same, (h2.same s9).same s10⟩ (m9.cts.same s10) hc24 R
end
end Km
/-! The law's own small defs. -/
namespace Km
open PySem L2
/-- the law's stream at st, the script's copy at l -/
structure StreamAt (H : Hp) (st l : Addr) : Prop where
  ex : ∃ (ns : List Int) (c k : Int), H st = some (.lst [.ref l, .int c, .int k]) ∧ H l = some (.lst (ns.map V.int)) ∧ 0 ≤ k
theorem StreamAt.same {H H' : Hp} {st l : Addr} (s : StreamAt H st l) (e : Same H H') : StreamAt H' st l :=
  let ⟨ns, c, k, h1, h2, h3⟩ := s.ex
  ⟨ns, c, k, e _ _ h1, e _ _ h2, h3⟩
theorem ints_str {ns : List Int} {l : Addr} {c k : V} : HO.lst (ns.map V.int) ≠ HO.lst [.ref l, c, k] := by
  intro e
  have h := HO.lst.inj e
  cases ns with
  | nil => cases h
  | cons x r => cases h
/-- all but what stands at q is as it was -/
def Off (q : Addr) (H H' : Hp) : Prop := ∀ b o, H b = some o → b ≠ q → H' b = some o
theorem Off.refl (q : Addr) (H : Hp) : Off q H H := fun _ _ h _ => h
theorem Off.trans {q : Addr} {H H1 H2 : Hp} (a : Off q H H1) (b : Off q H1 H2) : Off q H H2 := fun c o h h1 => b c o (a c o h h1) h1
theorem Off.of {q : Addr} {H H' : Hp} (s : Same H H') : Off q H H' := fun b o h _ => s b o h
theorem off_upd {q : Addr} {H : Hp} {o : HO} : Off q H (upd H q o) := fun b x e h => by
  rw [upd_ne h]
  exact e
section
variable {P : Program} {w : World} {K : PySem.W.Frag} {mg : Str → Option Value} {base : Heap}

/-! ### _law_stream -/
theorem scStream : FnScope ["_law_script"] ["_law_script"] (defScope (tp 37)) := ⟨rfl, rfl, rfl, by decide +kernel, rfl, by decide +kernel, by decide +kernel⟩
def spStream (K : PySem.W.Frag) : Sp := fun vs H Q _ => ∃ (a : Addr) (ns : List Int), vs = [.ref a] ∧ SqL K H a (ns.map V.int) ∧ ∀ (H' : Hp) (st l : Addr), Same H H' → StreamAt H' st l → Q (.ref st) H'
theorem ok_stream (D : Dx K mg "_law_stream" (tp 37) ["_law_script"]) (B : Bt mg) : Cal P w K mg base 1 "_law_stream" ["_law_script"] (spStream K) := D.cal fun f fd F => by
  refine F.ok scStream (fun vs H Q E h => ?_) (fun cdv A outer s H vs Q E hr h => ?_)
  · obtain ⟨a, ns, rfl, _⟩ := h
    rfl
  · obtain ⟨a, ns, rfl, hS, k⟩ := h
    refine ⟨_, pss_one (ps_ret (pe_lst (pa_cons (pe_callTy call_list_of (by rfl) B.list bt_list (pa_cons (pv 0) pa_nil)) (pa_cons pe_int (pa_cons pe_int pa_nil))))), ?_⟩
    refine ⟨_, rfl, a, _, rfl, .inl hS, fun l hl => ⟨by show 3 ≤ sizeLine; decide, fun st hst => ?_⟩⟩
    have nl : l ≠ st := ne_of_none upd_same hst
    exact k _ st l ((same_upd hl).trans (same_upd hst)) ⟨ns, 0, 0, upd_same, by rw [upd_ne nl]; exact upd_same, Int.le_refl 0⟩

/-! ### _law_next -/
theorem scNext : FnScope ["_law_stream_here", "_law_many", "_law_k", "_law_cell", "_law_digit"] ["_law_stream_here", "_law_many"] (defScope (tp 38)) := ⟨rfl, rfl, rfl, by decide +kernel, rfl, by decide +kernel, by decide +kernel⟩
def spNext : Sp := fun vs H Q _ => ∃ (st l : Addr) (m : Int), vs = [.ref st, .int m] ∧ StreamAt H st l ∧ 0 < m ∧ m < 1073741824 ∧
  ∀ (H' : Hp) (z : Int), 0 ≤ z → z < m → StreamAt H' st l → Off st H H' → Q (.int z) H'
theorem ok_next (D : Dx K mg "_law_next" (tp 38) ["_law_stream_here", "_law_many"]) (B : Bt mg) : Cal P w K mg base 1 "_law_next" ["_law_stream_here", "_law_many"] spNext := D.cal fun f fd F => by
  refine F.ok scNext (fun vs H Q E h => ?_) (fun cdv A outer s H vs Q E hr h => ?_)
  · obtain ⟨st, l, m, rfl, _⟩ := h
    rfl
  · obtain ⟨st, l, m, rfl, ⟨ns, c, k, hst, hl, hk⟩, m0, m1, fin⟩ := h
    refine ⟨_, Evl.pss_cut (ps_if (pt_cmpR op_eq (pe_ix ix_list (pv 0) pe_int (fun _ _ => rfl)) pe_int (nomark _))
        (pss_cons (ps_set (i := 2) scNext.nd rfl (.inl rfl) (pe_ix ix_list (pv 0) pe_int (fun _ _ => rfl)))
        (pss_cons (ps_set (i := 3) scNext.nd rfl (.inl rfl) (pe_op op_add pe_int (pv 2)))
        (Evl.pss_cut (ps_if (pt_cmpR op_lt (pv 2) (pe_callB call_len_seq (by rfl) B.len PySem.boot_len (pa_cons (pe_ix ix_list (pv 0) pe_int (fun _ _ => rfl)) pa_nil)) (nomark _))
          (pss_one (ps_set (i := 3) scNext.nd rfl (.inl rfl) (pe_callB call_abs (by rfl) B.abs bt_abs (pa_cons (pe_ix ix_list (pe_ix ix_list (pv 0) pe_int (fun _ _ => rfl)) (pv 2) (fun _ _ => rfl)) pa_nil)))) pss_nil)
        (Evl.pss_cut (ps_if (pt_cmpR op_lt (pv 3) (pe_op op_pow pe_int pe_int) (nomark _))
          (pss_cons (ps_set (i := 3) scNext.nd rfl (.inl rfl) (pe_op op_mod (pe_callTy call_int1 (by rfl) B.int bt_int (pa_cons (pe_op op_add (pe_op op_add (pe_op op_mul (pv 3) pe_int) (pe_op op_mul (pv 2) pe_int)) pe_int) pa_nil)) pe_int))
          (pss_one (ps_set (i := 3) scNext.nd rfl (.inl rfl) (pe_op op_add (pe_op op_mul (pe_op op_mod (pe_callTy call_int1 (by rfl) B.int bt_int (pa_cons (pe_op op_add (pe_op op_mul (pv 3) pe_int) pe_int) pa_nil)) pe_int) pe_int) (pv 3))))) pss_nil)
        (pss_cons (ps_asg (pv 3) (pg_sub (pv 0) pe_int set_list))
        (pss_one (ps_asg (pe_op op_add (pv 2) pe_int) (pg_sub (pv 0) pe_int set_list)))))))) pss_nil)
      (pss_cons (ps_set (i := 4) scNext.nd rfl (.inl rfl) (pe_op op_mod (pe_callTy call_int1 (by rfl) B.int bt_int (pa_cons (pe_ix ix_list (pv 0) pe_int (fun _ _ => rfl)) pa_nil)) (pv 1)))
      (pss_cons (ps_asg (pe_op op_fdiv (pe_ix ix_list (pv 0) pe_int (fun _ _ => rfl)) (pv 1)) (pg_sub (pv 0) pe_int set_list))
      (pss_one (ps_ret (pv 4))))), ?_⟩
    have nls : l ≠ st := ne_of hl hst ints_str
    refine ⟨fun σ' H' => ∃ (c' k' : Int) (y2 y3 : Option V), σ' = [some (.ref st), some (.int m), y2, y3, none] ∧ H' st = some (.lst [.ref l, .int c', .int k']) ∧ 0 ≤ k' ∧ Off st H H', ?_, ?_⟩
    · refine ⟨_, rfl, st, _, _, .int c, rfl, rfl, SqL.of hst, rfl, rfl, _, rfl, ite2 (fun _ => ?_) (fun _ => ⟨c, k, _, _, rfl, hst, hk, Off.refl st H⟩)⟩
      refine ⟨_, rfl, st, _, _, .int k, rfl, rfl, SqL.of hst, rfl, ?_⟩
      refine ⟨_, rfl, _, _, rfl, rfl, ?_⟩
      refine ⟨fun σ' H' => H' = H ∧ ∃ z : Int, σ' = [some (.ref st), some (.int m), some (.int k), some (.int z), none], ?_, ?_⟩
      · refine ⟨_, rfl, _, rfl, st, _, _, .ref l, rfl, rfl, SqL.of hst, rfl, l, _, rfl, .inl (SqL.of hl), _, _, rfl, rfl, _, rfl, ite2 (fun hlt => ?_) (fun _ => ⟨rfl, _, rfl⟩)⟩
        have hlt' : k < ((ns.map V.int).length : Int) := of_decide_eq_true hlt
        rw [List.length_map] at hlt'
        have hn : ns[k.toNat]? = some (ns[k.toNat]'(by omega)) := List.getElem?_eq_getElem _
        refine ⟨_, rfl, st, _, _, .ref l, rfl, rfl, SqL.of hst, rfl, _, rfl, l, _, _, _, rfl, rfl, SqL.of hl, at_of (j := k.toNat) (by omega) (map_get hn), _, rfl, ?_⟩
        exact ⟨rfl, _, rfl⟩
      · rintro σ' H' ⟨rfl, z, rfl⟩
        refine ⟨fun σ' H2 => H2 = H' ∧ ∃ z : Int, σ' = [some (.ref st), some (.int m), some (.int k), some (.int z), none], ?_, ?_⟩
        · refine ⟨_, rfl, _, _, rfl, rfl, ⟨by decide, by decide, by decide⟩, _, _, rfl, rfl, _, rfl, ite2 (fun _ => ?_) (fun _ => ⟨rfl, _, rfl⟩)⟩
          refine ⟨_, rfl, _, _, rfl, rfl, .inr ⟨by decide, by decide⟩, _, rfl, _, _, rfl, rfl, .inr ⟨by decide, by decide⟩, _, _, rfl, rfl, _, _, rfl, rfl, .inl ⟨_, rfl, _, _, rfl, rfl, (show (0 : Int) < 2147483647 by decide), ?_⟩⟩
          refine ⟨_, rfl, _, _, rfl, rfl, .inr ⟨by decide, by decide⟩, _, _, rfl, rfl, .inl ⟨_, rfl, _, _, rfl, rfl, (show (0 : Int) < 2147483647 by decide), _, _, rfl, rfl, .inr ⟨by decide, by decide⟩, _, rfl, _, _, rfl, rfl, ?_⟩⟩
          exact ⟨rfl, _, rfl⟩
        · rintro σ' H2 ⟨rfl, z2, rfl⟩
          refine ⟨_, rfl, _, rfl, st, _, _, 1, rfl, rfl, hst, rfl, ?_⟩
          refine ⟨_, rfl, _, _, rfl, rfl, _, rfl, st, _, _, 2, rfl, rfl, upd_same, rfl, ?_⟩
          rw [upd_upd]
          exact ⟨z2, k + 1, _, _, rfl, upd_same, by omega, off_upd⟩
    · rintro σ' H1 ⟨c', k', y2, y3, rfl, hst1, hk', off⟩
      refine ⟨_, rfl, st, _, _, .int c', rfl, rfl, SqL.of hst1, rfl, .inl ⟨_, rfl, _, rfl, _, _, rfl, rfl, m0, ?_⟩⟩
      refine ⟨_, rfl, st, _, _, .int c', rfl, rfl, SqL.of hst1, rfl, _, rfl, _, _, rfl, rfl, ⟨m0, m1⟩, ?_⟩
      refine ⟨_, rfl, st, _, _, 1, rfl, rfl, hst1, rfl, ?_⟩
      refine ⟨_, rfl, fin _ _ (Int.emod_nonneg _ (by omega)) (Int.emod_lt_of_pos _ m0) ⟨ns, _, k', upd_same, ?_, hk'⟩ (off.trans off_upd)⟩
      rw [upd_ne nls]
      exact off _ _ hl nls

/-! ### _law_is_integer, _law_equal -/
theorem scInt : FnScope ["_law_actual"] ["_law_actual"] (defScope (tp 39)) := ⟨rfl, rfl, rfl, by decide +kernel, rfl, by decide +kernel, by decide +kernel⟩
theorem ok_int (D : Dx K mg "_law_is_integer" (tp 39) ["_law_actual"]) (B : Bt mg) : Cal P w K mg base 1 "_law_is_integer" ["_law_actual"] spWhole := D.cal fun f fd F => by
  refine F.ok scInt (fun vs H Q E h => ?_) (fun cdv A outer s H vs Q E hr h => ?_)
  · obtain ⟨n, rfl, _⟩ := h
    rfl
  · obtain ⟨n, rfl, q⟩ := h
    refine ⟨_, pss_one (ps_ret (pe_and (pe_callB call_isi (by rfl) B.isinstance bt_isinstance (pa_cons (pv 0) (pa_cons (pe_ty B.int bt_int) pa_nil)))
      (pe_one (pe_not (pe_callB call_isi (by rfl) B.isinstance bt_isinstance (pa_cons (pv 0) (pa_cons (pe_ty B.bool bt_bool) pa_nil))))))), ?_⟩
    refine ⟨_, rfl, _, _, _, _, true, rfl, .ty _, .base (.int n), kit_ty kb_ii, true, rfl, iteT ?_⟩
    exact ⟨_, rfl, _, _, _, _, false, rfl, .ty _, .base (.int n), kit_ty kb_ib, false, rfl, q⟩
theorem scEq : FnScope ["_law_actual", "_law_due", "_law_at"] ["_law_actual", "_law_due"] (defScope (tp 46)) := ⟨rfl, rfl, rfl, by decide +kernel, rfl, by decide +kernel, by decide +kernel⟩
def spEqI : Sp := fun vs H Q _ => ∃ n : Int, vs = [.int n, .int n] ∧ Q (.bl true) H
theorem ok_eqI (D : Dx K mg "_law_equal" (tp 46) ["_law_actual", "_law_due"]) (B : Bt mg) (cI : Cal P w K mg base 1 "_law_is_integer" ["_law_actual"] spWhole) : Cal P w K mg base 2 "_law_equal" ["_law_actual", "_law_due"] spEqI := D.cal fun f fd F => by
  refine F.ok scEq (fun vs H Q E h => ?_) (fun cdv A outer s H vs Q E hr h => ?_)
  · obtain ⟨n, rfl, _⟩ := h
    rfl
  · obtain ⟨n, rfl, q⟩ := h
    refine ⟨_, pss_cons (ps_if (pt_cmpR op_isN (pv 1) pe_non (nomark _)) pss_never pss_nil)
      (pss_cons (ps_if (pt_val (pe_callB call_isi (by rfl) B.isinstance bt_isinstance (pa_cons (pv 1) (pa_cons (pe_ty B.bool bt_bool) pa_nil)))) pss_never pss_nil)
      (pss_cons (ps_if (pt_val (pe_callB call_isi (by rfl) B.isinstance bt_isinstance (pa_cons (pv 1) (pa_cons (pe_ty B.int bt_int) pa_nil))))
        (pss_one (ps_ret (pe_and (pe_cal cI hr (pa_cons (pv 0) pa_nil)) (pe_one (pe_cmpR op_eq (pv 0) (pv 1) (nomark _)))))) pss_nil) pss_never)), ?_⟩
    refine ⟨_, rfl, rfl, _, rfl, iteF ?_⟩
    refine ⟨_, rfl, _, _, _, _, false, rfl, .ty _, .base (.int n), kit_ty kb_ib, false, rfl, iteF ?_⟩
    refine ⟨_, rfl, _, _, _, _, true, rfl, .ty _, .base (.int n), kit_ty kb_ii, true, rfl, iteT ?_⟩
    refine ⟨_, rfl, n, rfl, true, rfl, iteT ⟨_, rfl, _, rfl, rfl, ?_⟩⟩
    rw [decide_eq_true rfl]
    exact q
def spEqT : Sp := fun vs H Q _ => ∃ (p r : Addr) (x y : Int), vs = [.ref p, .ref r] ∧ H p = some (.tup [.int x, .int y]) ∧ H r = some (.tup [.int x, .int y]) ∧ ∀ H', Same H H' → Q (.bl true) H'
theorem ok_eqT (D : Dx K mg "_law_equal" (tp 46) ["_law_actual", "_law_due"]) (B : Bt mg) (cE : Cal P w K mg base 2 "_law_equal" ["_law_actual", "_law_due"] spEqI) : Cal P w K mg base 3 "_law_equal" ["_law_actual", "_law_due"] spEqT := D.cal fun f fd F => by
  refine F.ok scEq (fun vs H Q E h => ?_) (fun cdv A outer s H vs Q E hr h => ?_)
  · obtain ⟨p, r, x, y, rfl, _⟩ := h
    rfl
  · obtain ⟨p, r, x, y, rfl, hp, hr', q⟩ := h
    refine ⟨_, pss_cons (ps_if (pt_cmpR op_isN (pv 1) pe_non (nomark _)) pss_never pss_nil)
      (pss_cons (ps_if (pt_val (pe_callB call_isi (by rfl) B.isinstance bt_isinstance (pa_cons (pv 1) (pa_cons (pe_ty B.bool bt_bool) pa_nil)))) pss_never pss_nil)
      (pss_cons (ps_if (pt_val (pe_callB call_isi (by rfl) B.isinstance bt_isinstance (pa_cons (pv 1) (pa_cons (pe_ty B.int bt_int) pa_nil)))) pss_never pss_nil)
      (pss_cons (ps_if (pt_val (pe_callB call_isi (by rfl) B.isinstance bt_isinstance (pa_cons (pv 1) (pa_cons (pe_ty B.str bt_str) pa_nil)))) pss_never pss_nil)
      (pss_cons (ps_if (PW.pt (pw_and (pt_val (pe_callB call_isi (by rfl) B.isinstance bt_isinstance (pa_cons (pv 1) (pa_cons (pe_ty B.tuple bt_tuple) pa_nil)))) (pw_and1 (pt_not (pt_val (pe_callB call_isi (by rfl) B.isinstance bt_isinstance (pa_cons (pv 0) (pa_cons (pe_ty B.tuple bt_tuple) pa_nil)))))))) pss_never pss_nil)
      (pss_cons (ps_if (PW.pt (pw_and (pt_val (pe_callB call_isi (by rfl) B.isinstance bt_isinstance (pa_cons (pv 1) (pa_cons (pe_ty B.list bt_list) pa_nil)))) (pw_and1 (pt_not (pt_val (pe_callB call_isi (by rfl) B.isinstance bt_isinstance (pa_cons (pv 0) (pa_cons (pe_ty B.list bt_list) pa_nil)))))))) pss_never pss_nil)
      (pss_cons (ps_if (pt_cmpR op_ne (pe_callB call_len_seq (by rfl) B.len PySem.boot_len (pa_cons (pv 0) pa_nil)) (pe_callB call_len_seq (by rfl) B.len PySem.boot_len (pa_cons (pv 1) pa_nil)) (nomark _)) pss_never pss_nil)
      (pss_one (ps_ret (pe_callB (cr_all rfl) (by rfl) B.all bt_all (pa_cons (pe_lc (own := [("_law_at", 2)]) (g := gName 2) (tt := tYes) rfl scEq.nd (pi_range1 (by rfl) B.range (pa_cons (pe_callB call_len_seq (by rfl) B.len PySem.boot_len (pa_cons (pv 1) pa_nil)) pa_nil))
          (blkOk_by (own := [("_law_at", 2)]) (N := ["_law_actual", "_law_due", "_law_at"]) (sc := defScope (tp 46)) (by decide +kernel)) (fun _ _ _ _ _ => pg_name (i := 2) scEq.nd rfl (Or.inl rfl)) (fun _ _ _ _ _ => pts_nil)
          (te := tCall spEqI [] E0 (tCons (tOp (rIxT K) (tVar 0) (tVar 2)) (tCons (tOp (rIxT K) (tVar 1) (tVar 2)) tNil)))
          (fun _ _ _ _ _ => pe_cal cE hr (pa_cons (pe_ix ix_tup (pv 0) (pv 2) (fun _ _ => rfl)) (pa_cons (pe_ix ix_tup (pv 1) (pv 2) (fun _ _ => rfl)) pa_nil)))) pa_nil)))))))))), ?_⟩
    refine ⟨_, rfl, rfl, _, rfl, iteF ?_⟩
    refine ⟨_, rfl, _, _, _, _, false, rfl, .ty _, .base (.tup hr'), kit_ty kb_tb, false, rfl, iteF ?_⟩
    refine ⟨_, rfl, _, _, _, _, false, rfl, .ty _, .base (.tup hr'), kit_ty kb_ti, false, rfl, iteF ?_⟩
    refine ⟨_, rfl, _, _, _, _, false, rfl, .ty _, .base (.tup hr'), kit_ty kb_ts, false, rfl, iteF ?_⟩
    refine ⟨_, rfl, _, _, _, _, true, rfl, .ty _, .base (.tup hr'), kit_ty kb_tt, true, rfl, iteT ?_⟩
    refine ⟨_, rfl, _, _, _, _, true, rfl, .ty _, .base (.tup hp), kit_ty kb_tt, true, rfl, iteF ?_⟩
    refine ⟨_, rfl, _, _, _, _, false, rfl, .ty _, .base (.tup hr'), kit_ty kb_tl, false, rfl, iteF (iteF ?_)⟩
    refine ⟨_, rfl, p, _, rfl, .inr (SqT.of hp), _, rfl, r, _, rfl, .inr (SqT.of hr'), rfl, _, rfl, iteNS rfl ?_⟩
    refine ⟨_, rfl, r, _, rfl, .inr (SqT.of hr'), 2, rfl, by decide, by decide, fun D' hD => ?_⟩
    refine lc_vals (walk_range (lo := 0) (n := 2)) (fun i v => i < 2 ∧ v = .int (0 + (i : Int))) (fun i H1 v H2 hi _ e => ⟨e.1, hi, e.2⟩) [.bl true, .bl true] rfl hD (by decide) (fun _ _ => trivial) (fun _ => rfl) (fun i v u H1 Q' hv hu s1 q' => ?_) (fun H1 s1 hL => ?_)
    · obtain ⟨hi, rfl⟩ := hv
      have hp1 := s1 _ _ hp
      have hr1 := s1 _ _ hr'
      have hi' : i = 0 ∨ i = 1 := by omega
      rcases hi' with rfl | rfl
      · have e : V.bl true = u := Option.some.inj hu
        subst e
        exact ⟨_, rfl, _, rfl, p, _, _, .int x, rfl, rfl, SqT.of hp1, rfl, _, rfl, _, rfl, r, _, _, .int x, rfl, rfl, SqT.of hr1, rfl, x, rfl, q' _ (Same.refl _)⟩
      · have e : V.bl true = u := Option.some.inj hu
        subst e
        exact ⟨_, rfl, _, rfl, p, _, _, .int y, rfl, rfl, SqT.of hp1, rfl, _, rfl, _, rfl, r, _, _, .int y, rfl, rfl, SqT.of hr1, rfl, y, rfl, q' _ (Same.refl _)⟩
    · exact ⟨D', [true, true], rfl, SqL.of hL, q H1 s1⟩
end
end Km
/-! What the law builds: a body, a space, a bounce. -/
namespace Km
open PySem L2
section
variable {P : Program} {w : World} {K : PySem.W.Frag} {mg : Str → Option Value} {base : Heap}

/-! ### _law_box, _law_overlap, _law_in_world -/
theorem scLBox : FnScope ["_law_body_here"] ["_law_body_here"] (defScope (tp 48)) := ⟨rfl, rfl, rfl, by decide +kernel, rfl, by decide +kernel, by decide +kernel⟩
def spLBox : Sp := fun vs H Q _ => ∃ (p : Addr) (b : Bd), vs = [.ref p] ∧ H p = some (bdT b) ∧ ∀ q, H q = none → Q (.ref q) (upd H q (bxT (box b)))
theorem ok_lbox (D : Dx K mg "_law_box" (tp 48) ["_law_body_here"]) : Cal P w K mg base 1 "_law_box" ["_law_body_here"] spLBox := D.cal fun f fd F => by
  refine F.ok scLBox (fun vs H Q E h => ?_) (fun cdv A outer s H vs Q E hr h => ?_)
  · obtain ⟨p, b, rfl, _⟩ := h
    rfl
  · obtain ⟨p, b, rfl, hp, k⟩ := h
    refine ⟨_, pss_one (ps_ret (pe_tup (pa_cons (pe_ix ix_tup (pv 0) pe_int (fun _ _ => rfl)) (pa_cons (pe_ix ix_tup (pv 0) pe_int (fun _ _ => rfl))
      (pa_cons (pe_op op_add (pe_ix ix_tup (pv 0) pe_int (fun _ _ => rfl)) (pe_ix ix_tup (pv 0) pe_int (fun _ _ => rfl))) (pa_cons (pe_op op_add (pe_ix ix_tup (pv 0) pe_int (fun _ _ => rfl)) (pe_ix ix_tup (pv 0) pe_int (fun _ _ => rfl))) pa_nil)))))), ?_⟩
    refine ⟨_, rfl, p, _, _, .int b.x, rfl, rfl, SqT.of hp, rfl, _, rfl, p, _, _, .int b.y, rfl, rfl, SqT.of hp, rfl, ?_⟩
    refine ⟨_, rfl, p, _, _, .int b.x, rfl, rfl, SqT.of hp, rfl, _, rfl, p, _, _, .int b.w, rfl, rfl, SqT.of hp, rfl, _, _, rfl, rfl, ?_⟩
    refine ⟨_, rfl, p, _, _, .int b.y, rfl, rfl, SqT.of hp, rfl, _, rfl, p, _, _, .int b.h, rfl, rfl, SqT.of hp, rfl, _, _, rfl, rfl, ?_⟩
    exact ⟨by show 4 ≤ sizeLine; decide, fun q hq => k q hq⟩
theorem scLOv : FnScope ["_law_a", "_law_b"] ["_law_a", "_law_b"] (defScope (tp 49)) := ⟨rfl, rfl, rfl, by decide +kernel, rfl, by decide +kernel, by decide +kernel⟩
theorem ok_lov (D : Dx K mg "_law_overlap" (tp 49) ["_law_a", "_law_b"]) : Cal P w K mg base 1 "_law_overlap" ["_law_a", "_law_b"] spOverlap := D.cal fun f fd F => by
  refine F.ok scLOv (fun vs H Q E h => ?_) (fun cdv A outer s H vs Q E hr h => ?_)
  · obtain ⟨p, q, a, b, rfl, _⟩ := h
    rfl
  · obtain ⟨p, q, a, b, rfl, ha, hb, k⟩ := h
    refine ⟨_, pss_one (ps_ret (pe_and (pe_cmpR op_lt (pe_ix ix_tup (pv 0) pe_int (fun _ _ => rfl)) (pe_ix ix_tup (pv 1) pe_int (fun _ _ => rfl)) (nomark _))
      (pe_and (pe_cmpR op_lt (pe_ix ix_tup (pv 1) pe_int (fun _ _ => rfl)) (pe_ix ix_tup (pv 0) pe_int (fun _ _ => rfl)) (nomark _))
      (pe_and (pe_cmpR op_lt (pe_ix ix_tup (pv 0) pe_int (fun _ _ => rfl)) (pe_ix ix_tup (pv 1) pe_int (fun _ _ => rfl)) (nomark _))
      (pe_one (pe_cmpR op_lt (pe_ix ix_tup (pv 1) pe_int (fun _ _ => rfl)) (pe_ix ix_tup (pv 0) pe_int (fun _ _ => rfl)) (nomark _))))))), ?_⟩
    have no : ¬ (a.x0 < b.x1 ∧ b.x0 < a.x1 ∧ a.y0 < b.y1 ∧ b.y0 < a.y1) → Q (.bl false) H := fun hn => by
      have e : ovl a b = false := decide_eq_false hn
      rw [e] at k
      exact k
    refine ⟨_, rfl, p, _, _, .int a.x0, rfl, rfl, SqT.of ha, rfl, _, rfl, q, _, _, .int b.x1, rfl, rfl, SqT.of hb, rfl, _, _, rfl, rfl, _, rfl, ite2 (fun h1 => ?_) (fun h1 => no fun z => h1 (decide_eq_true z.1))⟩
    refine ⟨_, rfl, q, _, _, .int b.x0, rfl, rfl, SqT.of hb, rfl, _, rfl, p, _, _, .int a.x1, rfl, rfl, SqT.of ha, rfl, _, _, rfl, rfl, _, rfl, ite2 (fun h2 => ?_) (fun h2 => no fun z => h2 (decide_eq_true z.2.1))⟩
    refine ⟨_, rfl, p, _, _, .int a.y0, rfl, rfl, SqT.of ha, rfl, _, rfl, q, _, _, .int b.y1, rfl, rfl, SqT.of hb, rfl, _, _, rfl, rfl, _, rfl, ite2 (fun h3 => ?_) (fun h3 => no fun z => h3 (decide_eq_true z.2.2.1))⟩
    refine ⟨_, rfl, q, _, _, .int b.y0, rfl, rfl, SqT.of hb, rfl, _, rfl, p, _, _, .int a.y1, rfl, rfl, SqT.of ha, rfl, _, _, rfl, rfl, ?_⟩
    have e : ovl a b = decide (b.y0 < a.y1) := decide_eq_decide.mpr ⟨fun z => z.2.2.2, fun z => ⟨of_decide_eq_true h1, of_decide_eq_true h2, of_decide_eq_true h3, z⟩⟩
    rw [e] at k
    exact k
theorem scLIn : FnScope ["_law_box_here", "_law_part"] ["_law_box_here"] (defScope (tp 50)) := ⟨rfl, rfl, rfl, by decide +kernel, rfl, by decide +kernel, by decide +kernel⟩
def spLIn : Sp := fun vs H Q _ => ∃ (p : Addr) (b : Bx), vs = [.ref p] ∧ H p = some (bxT b) ∧ ∀ H', Same H H' → Q (.bl (inW b)) H'
theorem ok_lin (D : Dx K mg "_law_in_world" (tp 50) ["_law_box_here"]) (B : Bt mg) : Cal P w K mg base 1 "_law_in_world" ["_law_box_here"] spLIn := D.cal fun f fd F => by
  refine F.ok scLIn (fun vs H Q E h => ?_) (fun cdv A outer s H vs Q E hr h => ?_)
  · obtain ⟨p, b, rfl, _⟩ := h
    rfl
  · obtain ⟨p, b, rfl, hp, k⟩ := h
    refine ⟨_, pss_one (ps_ret (pe_callB (cr_all rfl) (by rfl) B.all bt_all (pa_cons (pe_lc (own := [("_law_part", 1)]) (g := gName 1) (tt := tYes) rfl scLIn.nd (pi_tup (pv 0))
          (blkOk_by (own := [("_law_part", 1)]) (N := ["_law_box_here", "_law_part"]) (sc := defScope (tp 50)) (by decide +kernel)) (fun _ _ _ _ _ => pg_name (i := 1) scLIn.nd rfl (Or.inl rfl)) (fun _ _ _ _ _ => pts_nil)
          (fun _ _ _ _ _ => pe_chain op_le op_le (pe_un un_neg pe_int) (pv 1) pe_int)) pa_nil))), ?_⟩
    refine ⟨_, rfl, p, rfl, ⟨_, SqT.of hp⟩, fun D hD => ?_⟩
    refine lc_tupM (bxI b) V.int (fun n => .bl (crd n)) hD (by show 4 < sizeLine; decide) (fun _ => rfl) (fun i n H1 Q' _ _ q => ?_) (fun H1 s1 hL => ?_) (SqT.of hp)
    · have q' := q H1 (Same.refl _)
      refine ⟨_, rfl, _, rfl, _, _, rfl, rfl, _, rfl, ite2 (fun h1 => ?_) (fun h1 => ?_)⟩
      · have h1' : -20000 ≤ n := of_decide_eq_true h1
        refine ⟨_, _, rfl, rfl, ?_⟩
        have e : crd n = decide (n ≤ 20000) := decide_eq_decide.mpr ⟨fun z => z.2, fun z => ⟨h1', z⟩⟩
        rw [e] at q'
        exact q'
      · have e : crd n = false := decide_eq_false fun z => h1 (decide_eq_true z.1)
        rw [e] at q'
        exact q'
    · refine ⟨D, (bxI b).map crd, rfl, SqL.of (by rw [hL, List.map_map]; rfl), ?_⟩
      rw [bxI_all]
      exact k H1 s1

/-! ### _law_body -/
theorem scLBody : FnScope ["_law_stream_here", "_law_name", "_law_base", "_law_mass", "_law_px", "_law_py", "_law_cx", "_law_cy", "_law_fast", "_law_x", "_law_y"] ["_law_stream_here", "_law_name", "_law_base"] (defScope (tp 47)) := ⟨rfl, rfl, rfl, by decide +kernel, rfl, by decide +kernel, by decide +kernel⟩
structure GenBd (nm : Str) (b : Bd) : Prop where
  nm : b.nm = nm
  w1 : 1 ≤ b.w
  w2 : b.w ≤ 20
  h1 : 1 ≤ b.h
  h2 : b.h ≤ 20
  m0 : 0 ≤ b.m
  m1 : b.m ≤ 100
  fx : b.m = 0 → b.px = 0 ∧ b.py = 0 ∧ b.cx = 0 ∧ b.cy = 0
  fr : b.m ≠ 0 → 0 ≤ b.cx ∧ b.cx < b.m ∧ 0 ≤ b.cy ∧ b.cy < b.m
def spLBody : Sp := fun vs H Q _ => ∃ (st l bq : Addr) (nm : Str) (x0 y0 : Int), vs = [.ref st, .str nm, .ref bq] ∧ StreamAt H st l ∧ H bq = some (.tup [.int x0, .int y0]) ∧
  ∀ (H' : Hp) (p : Addr) (b : Bd), H' p = some (bdT b) → GenBd nm b → StreamAt H' st l → Off st H H' → Q (.ref p) H'
theorem pick_mass {z : Int} (h0 : 0 ≤ z) (h1 : z < 8) : ∃ m : Int, atI [V.int 0, .int 1, .int 1, .int 2, .int 3, .int 5, .int 10, .int 100] z = some (.int m) ∧ 0 ≤ m ∧ m ≤ 100 := by
  have h : z = 0 ∨ z = 1 ∨ z = 2 ∨ z = 3 ∨ z = 4 ∨ z = 5 ∨ z = 6 ∨ z = 7 := by omega
  rcases h with rfl | rfl | rfl | rfl | rfl | rfl | rfl | rfl
  all_goals exact ⟨_, rfl, by decide, by decide⟩
theorem pick_fast {z : Int} (h0 : 0 ≤ z) (h1 : z < 4) : ∃ m : Int, atI [V.int 3, .int 12, .int 12, .int 45] z = some (.int m) ∧ 0 ≤ m ∧ m ≤ 45 := by
  have h : z = 0 ∨ z = 1 ∨ z = 2 ∨ z = 3 := by omega
  rcases h with rfl | rfl | rfl | rfl
  all_goals exact ⟨_, rfl, by decide, by decide⟩
theorem many_lim {f m : Int} (f0 : 0 ≤ f) (f1 : f ≤ 45) (m0 : 0 ≤ m) (m1 : m ≤ 100) : 0 < 2 * f * m + 1 ∧ 2 * f * m + 1 < 1073741824 := by
  have h1 : 0 ≤ 2 * f * m := Int.mul_nonneg (by omega) m0
  have h2 : 2 * f * m ≤ 90 * 100 := Int.mul_le_mul (by omega) m1 m0 (by omega)
  omega
theorem StreamAt.ne_tup {H : Hp} {st l q : Addr} {xs : List V} (s : StreamAt H st l) (h : H q = some (.tup xs)) : q ≠ st := by
  obtain ⟨ns, c, k, h1, _, _⟩ := s.ex
  exact ne_of h h1 (by intro z; cases z)
theorem StreamAt.ne_new {H : Hp} {st l q : Addr} (s : StreamAt H st l) (h : H q = none) : q ≠ st := by
  obtain ⟨ns, c, k, h1, _, _⟩ := s.ex
  exact (ne_of_none h1 h).symm
theorem ok_lbody (D : Dx K mg "_law_body" (tp 47) ["_law_stream_here", "_law_name", "_law_base"]) (cN : Cal P w K mg base 1 "_law_next" ["_law_stream_here", "_law_many"] spNext) : Cal P w K mg base 2 "_law_body" ["_law_stream_here", "_law_name", "_law_base"] spLBody := D.cal fun f fd F => by
  refine F.ok scLBody (fun vs H Q E h => ?_) (fun cdv A outer s H vs Q E hr h => ?_)
  · obtain ⟨st, l, bq, nm, x0, y0, rfl, _⟩ := h
    rfl
  · obtain ⟨st, l, bq, nm, x0, y0, rfl, S, hb, k⟩ := h
    refine ⟨_, pss_cons (ps_set (i := 3) scLBody.nd rfl (.inl rfl) (pe_ix ix_list (pe_lst (pa_cons pe_int (pa_cons pe_int (pa_cons pe_int (pa_cons pe_int (pa_cons pe_int (pa_cons pe_int (pa_cons pe_int (pa_cons pe_int pa_nil))))))))) (pe_cal cN hr (pa_cons (pv 0) (pa_cons pe_int pa_nil))) (fun _ _ => rfl)))
      (pss_cons (ps_set (i := 4) scLBody.nd rfl (.inl rfl) pe_int)
      (pss_cons (ps_set (i := 5) scLBody.nd rfl (.inl rfl) pe_int)
      (pss_cons (ps_set (i := 6) scLBody.nd rfl (.inl rfl) pe_int)
      (pss_cons (ps_set (i := 7) scLBody.nd rfl (.inl rfl) pe_int)
      (Evl.pss_cut (ps_if (pt_cmpR op_gt (pv 3) pe_int (nomark _))
        (pss_cons (ps_set (i := 8) scLBody.nd rfl (.inl rfl) (pe_ix ix_list (pe_lst (pa_cons pe_int (pa_cons pe_int (pa_cons pe_int (pa_cons pe_int pa_nil))))) (pe_cal cN hr (pa_cons (pv 0) (pa_cons pe_int pa_nil))) (fun _ _ => rfl)))
        (pss_cons (ps_set (i := 4) scLBody.nd rfl (.inl rfl) (pe_op op_sub (pe_cal cN hr (pa_cons (pv 0) (pa_cons (pe_op op_add (pe_op op_mul (pe_op op_mul pe_int (pv 8)) (pv 3)) pe_int) pa_nil))) (pe_op op_mul (pv 8) (pv 3))))
        (pss_cons (ps_set (i := 5) scLBody.nd rfl (.inl rfl) (pe_op op_mul (pe_op op_sub (pe_cal cN hr (pa_cons (pv 0) (pa_cons (pe_op op_add (pe_op op_mul (pe_op op_mul pe_int (pv 8)) (pv 3)) pe_int) pa_nil))) (pe_op op_mul (pv 8) (pv 3))) (pe_cal cN hr (pa_cons (pv 0) (pa_cons pe_int pa_nil)))))
        (pss_cons (ps_set (i := 6) scLBody.nd rfl (.inl rfl) (pe_cal cN hr (pa_cons (pv 0) (pa_cons (pv 3) pa_nil))))
        (pss_one (ps_set (i := 7) scLBody.nd rfl (.inl rfl) (pe_cal cN hr (pa_cons (pv 0) (pa_cons (pv 3) pa_nil)))))))))
        pss_nil)
      (pss_cons (ps_set (i := 9) scLBody.nd rfl (.inl rfl) (pe_op op_add (pe_ix ix_tup (pv 2) pe_int (fun _ _ => rfl)) (pe_cal cN hr (pa_cons (pv 0) (pa_cons pe_int pa_nil)))))
      (pss_cons (ps_set (i := 10) scLBody.nd rfl (.inl rfl) (pe_op op_add (pe_ix ix_tup (pv 2) pe_int (fun _ _ => rfl)) (pe_cal cN hr (pa_cons (pv 0) (pa_cons pe_int pa_nil)))))
      (pss_one (ps_ret (pe_tup (pa_cons (pv 1) (pa_cons (pv 9) (pa_cons (pv 10) (pa_cons (pe_op op_add pe_int (pe_cal cN hr (pa_cons (pv 0) (pa_cons pe_int pa_nil)))) (pa_cons (pe_op op_add pe_int (pe_cal cN hr (pa_cons (pv 0) (pa_cons pe_int pa_nil))))
        (pa_cons (pv 3) (pa_cons (pv 4) (pa_cons (pv 5) (pa_cons (pv 6) (pa_cons (pv 7) pa_nil)))))))))))))))))))), ?_⟩
    -- mass
    refine ⟨by show 8 ≤ sizeLine; decide, fun lm hlm => ?_⟩
    have nlm := S.ne_new hlm
    refine ⟨_, rfl, st, l, 8, rfl, S.same (same_upd hlm), by decide, by decide, fun H1 z z0 z1 S1 o1 => ?_⟩
    obtain ⟨m, hm, m0, m1⟩ := pick_mass z0 z1
    refine ⟨lm, _, z, .int m, rfl, rfl, SqL.of (o1 _ _ upd_same nlm), hm, ?_⟩
    have O1 : Off st H H1 := (Off.of (same_upd hlm)).trans o1
    clear nlm hlm o1
    -- px .. cy
    refine ⟨fun σ' H' => ∃ (px py cx cy : Int) (y8 : Option V), σ' = [some (.ref st), some (.str nm), some (.ref bq), some (.int m), some (.int px), some (.int py), some (.int cx), some (.int cy), y8, none, none] ∧ StreamAt H' st l ∧ Off st H H' ∧
      (m = 0 → px = 0 ∧ py = 0 ∧ cx = 0 ∧ cy = 0) ∧ (m ≠ 0 → 0 ≤ cx ∧ cx < m ∧ 0 ≤ cy ∧ cy < m), ?_, ?_⟩
    · refine ⟨_, rfl, _, _, rfl, rfl, _, rfl, ite2 (fun hpos => ?_) (fun hpos => ?_)⟩
      · have hpos' : 0 < m := of_decide_eq_true hpos
        refine ⟨by show 4 ≤ sizeLine; decide, fun lf hlf => ?_⟩
        have nlf := S1.ne_new hlf
        refine ⟨_, rfl, st, l, 4, rfl, S1.same (same_upd hlf), by decide, by decide, fun H2 z2 z20 z21 S2 o2 => ?_⟩
        obtain ⟨fa, hfa, f0, f1⟩ := pick_fast z20 z21
        refine ⟨lf, _, z2, .int fa, rfl, rfl, SqL.of (o2 _ _ upd_same nlf), hfa, ?_⟩
        have O2 : Off st H H2 := O1.trans ((Off.of (same_upd hlf)).trans o2)
        have lim := many_lim f0 f1 m0 m1
        refine ⟨_, rfl, _, rfl, _, _, rfl, rfl, .inl ⟨by decide, by decide⟩, _, rfl, _, _, rfl, rfl, .inl ⟨by omega, by omega⟩, _, _, rfl, rfl, st, l, _, rfl, S2, lim.1, lim.2, fun H3 z3 _ _ S3 o3 => ?_⟩
        refine ⟨_, rfl, _, rfl, _, _, rfl, rfl, .inl ⟨by omega, by omega⟩, _, _, rfl, rfl, ?_⟩
        refine ⟨_, rfl, _, rfl, _, _, rfl, rfl, .inl ⟨by decide, by decide⟩, _, rfl, _, _, rfl, rfl, .inl ⟨by omega, by omega⟩, _, _, rfl, rfl, st, l, _, rfl, S3, lim.1, lim.2, fun H4 z4 _ _ S4 o4 => ?_⟩
        refine ⟨_, rfl, _, rfl, _, _, rfl, rfl, .inl ⟨by omega, by omega⟩, _, _, rfl, rfl, ?_⟩
        refine ⟨_, rfl, st, l, 2, rfl, S4, by decide, by decide, fun H5 z5 z50 z51 S5 o5 => ⟨_, _, rfl, rfl, .inr ⟨by omega, by omega⟩, ?_⟩⟩
        refine ⟨_, rfl, _, rfl, st, l, m, rfl, S5, hpos', by omega, fun H6 z6 z60 z61 S6 o6 => ?_⟩
        refine ⟨_, rfl, _, rfl, st, l, m, rfl, S6, hpos', by omega, fun H7 z7 z70 z71 S7 o7 => ?_⟩
        exact ⟨_, _, z6, z7, _, rfl, S7, O2.trans (o3.trans (o4.trans (o5.trans (o6.trans o7)))), fun e => by omega, fun _ => ⟨z60, z61, z70, z71⟩⟩
      · have hm0 : m = 0 := by
          have : ¬ 0 < m := fun q => hpos (decide_eq_true q)
          omega
        exact ⟨0, 0, 0, 0, _, rfl, S1, O1, fun _ => ⟨rfl, rfl, rfl, rfl⟩, fun e => absurd hm0 e⟩
    · rintro σ' H2 ⟨px, py, cx, cy, y8, rfl, S2, O2, fx, fr⟩
      have nb := S.ne_tup hb
      refine ⟨_, rfl, bq, _, _, .int x0, rfl, rfl, SqT.of (O2 _ _ hb nb), rfl, _, rfl, st, l, 90, rfl, S2, by decide, by decide, fun H3 z3 _ _ S3 o3 => ⟨_, _, rfl, rfl, ?_⟩⟩
      have O3 := O2.trans o3
      refine ⟨_, rfl, bq, _, _, .int y0, rfl, rfl, SqT.of (O3 _ _ hb nb), rfl, _, rfl, st, l, 40, rfl, S3, by decide, by decide, fun H4 z4 _ _ S4 o4 => ⟨_, _, rfl, rfl, ?_⟩⟩
      refine ⟨_, rfl, _, rfl, _, rfl, _, rfl, st, l, 20, rfl, S4, by decide, by decide, fun H5 z5 z50 z51 S5 o5 => ⟨_, _, rfl, rfl, ?_⟩⟩
      refine ⟨_, rfl, st, l, 20, rfl, S5, by decide, by decide, fun H6 z6 z60 z61 S6 o6 => ⟨_, _, rfl, rfl, ?_⟩⟩
      refine ⟨_, rfl, _, rfl, _, rfl, _, rfl, _, rfl, by show 10 ≤ sizeLine; decide, fun p hp => ?_⟩
      exact k _ p ⟨nm, x0 + z3, y0 + z4, 1 + z5, 1 + z6, m, px, py, cx, cy⟩ upd_same ⟨rfl, by show 1 ≤ 1 + z5; omega, by show 1 + z5 ≤ 20; omega, by show 1 ≤ 1 + z6; omega, by show 1 + z6 ≤ 20; omega, m0, m1, fx, fr⟩
        (S6.same (same_upd hp)) (O3.trans (o4.trans (o5.trans (o6.trans (Off.of (same_upd hp))))))
end
end Km
/-! The law's space and bounce. -/
namespace Km
open PySem L2
theorem snoc_get {α : Type} {l : List α} {x y : α} {i : Nat} (h : (l ++ [x])[i]? = some y) : (i < l.length ∧ l[i]? = some y) ∨ (i = l.length ∧ y = x) := by
  by_cases hi : i < l.length
  · rw [List.getElem?_append_left hi] at h
    exact .inl ⟨hi, h⟩
  · rw [List.getElem?_append_right (Nat.le_of_not_lt hi)] at h
    have hl := lt_of_get h
    simp at hl
    have e : i - l.length = 0 := by omega
    rw [e] at h
    exact .inr ⟨by omega, (Option.some.inj h).symm⟩
theorem GenBd.good {nm : Str} {b : Bd} (g : GenBd nm b) (hn : OkN nm) (hw : inW (box b) = true) : GoodBd b := by
  simp only [inW, box, Bool.and_eq_true, crd_iff] at hw
  obtain ⟨h1, h2, h3, h4⟩ := hw
  have := g.w2
  have := g.h2
  exact ⟨by rw [g.nm]; exact hn, h1.1, h2.1, h3.2, h4.2, g.w1, by omega, g.h1, by omega, g.m0, g.m1, g.fx, g.fr⟩
/-- a space with one body more -/
theorem GoodSp.snoc {bs : List Bd} (g : GoodSp bs) {i : Nat} {b : Bd} (hn : namesL[i]? = some b.nm) (hg : GoodBd b) (hl : bs.length < 12) (hi : ∀ (k : Nat) (c : Bd), bs[k]? = some c → ∃ j, j < i ∧ namesL[j]? = some c.nm)
    (hs : ∀ (k : Nat) (c : Bd), bs[k]? = some c → ovl (box b) (box c) = false) : GoodSp (bs ++ [b]) := by
  refine ⟨by rw [List.length_append]; exact hl, fun k d hd => ?_, fun k r d e hkr hd he => ?_, fun k r d e hkr hd he => ?_⟩
  · rcases snoc_get hd with ⟨_, h⟩ | ⟨_, h⟩
    · exact g.all k d h
    · rw [h]
      exact hg
  · rcases snoc_get hd with ⟨_, h⟩ | ⟨h0, h⟩
    · rcases snoc_get he with ⟨_, h'⟩ | ⟨_, h'⟩
      · exact g.ord k r d e hkr h h'
      · obtain ⟨j, hj, hjn⟩ := hi k d h
        rw [h']
        exact names_ord hj hjn hn
    · rcases snoc_get he with ⟨h1, _⟩ | ⟨h1, _⟩ <;> omega
  · rcases snoc_get hd with ⟨_, h⟩ | ⟨h0, h⟩
    · rcases snoc_get he with ⟨_, h'⟩ | ⟨_, h'⟩
      · exact g.sep k r d e hkr h h'
      · rw [h', ovl_sym]
        exact hs k d h
    · rcases snoc_get he with ⟨_, h'⟩ | ⟨h1, _⟩
      · rw [h]
        exact hs r e h'
      · omega
section
variable {P : Program} {w : World} {K : PySem.W.Frag} {mg : Str → Option Value} {base : Heap}

/-! ### _law_bounce -/
theorem scLBn : FnScope ["_law_stream_here"] ["_law_stream_here"] (defScope (tp 52)) := ⟨rfl, rfl, rfl, by decide +kernel, rfl, by decide +kernel, by decide +kernel⟩
def spLBn : Sp := fun vs H Q _ => ∃ (st l : Addr), vs = [.ref st] ∧ StreamAt H st l ∧ ∀ (H' : Hp) (q : Addr) (n d : Int), H' q = some (frT n d) → OkBn n d → StreamAt H' st l → Off st H H' → Q (.ref q) H'
theorem ok_lbn (D : Dx K mg "_law_bounce" (tp 52) ["_law_stream_here"]) (cN : Cal P w K mg base 1 "_law_next" ["_law_stream_here", "_law_many"] spNext) : Cal P w K mg base 2 "_law_bounce" ["_law_stream_here"] spLBn := D.cal fun f fd F => by
  refine F.ok scLBn (fun vs H Q E h => ?_) (fun cdv A outer s H vs Q E hr h => ?_)
  · obtain ⟨st, l, rfl, _⟩ := h
    rfl
  · obtain ⟨st, l, rfl, S, k⟩ := h
    refine ⟨_, pss_one (ps_ret (pe_ix ix_list (pe_lst (pa_cons (pe_tup (pa_cons pe_int (pa_cons pe_int pa_nil))) (pa_cons (pe_tup (pa_cons pe_int (pa_cons pe_int pa_nil))) (pa_cons (pe_tup (pa_cons pe_int (pa_cons pe_int pa_nil)))
      (pa_cons (pe_tup (pa_cons pe_int (pa_cons pe_int pa_nil))) (pa_cons (pe_tup (pa_cons pe_int (pa_cons pe_int pa_nil))) pa_nil)))))) (pe_cal cN hr (pa_cons (pv 0) (pa_cons pe_int pa_nil))) (fun _ _ => rfl))), ?_⟩
    have l2 : 2 ≤ sizeLine := by decide
    refine ⟨l2, fun t0 n0 => ⟨l2, fun t1 n1 => ⟨l2, fun t2 n2 => ⟨l2, fun t3 n3 => ⟨l2, fun t4 n4 => ⟨by show 5 ≤ sizeLine; decide, fun ls hls => ?_⟩⟩⟩⟩⟩⟩
    have s0 := same_upd (o := .tup [V.int 0, V.int 1]) n0
    have s1 := same_upd (o := .tup [V.int 1, V.int 1]) n1
    have s2 := same_upd (o := .tup [V.int 1, V.int 2]) n2
    have s3 := same_upd (o := .tup [V.int 2, V.int 3]) n3
    have s4 := same_upd (o := .tup [V.int 999, V.int 1000]) n4
    have s5 := same_upd (o := .lst [V.ref t0, V.ref t1, V.ref t2, V.ref t3, V.ref t4]) hls
    have e4 := s5 _ _ (upd_same (a := t4))
    have e3 := s5 _ _ (s4 _ _ (upd_same (a := t3)))
    have e2 := s5 _ _ (s4 _ _ (s3 _ _ (upd_same (a := t2))))
    have e1 := s5 _ _ (s4 _ _ (s3 _ _ (s2 _ _ (upd_same (a := t1)))))
    have e0 := s5 _ _ (s4 _ _ (s3 _ _ (s2 _ _ (s1 _ _ (upd_same (a := t0))))))
    have sall : Same H _ := s0.trans (s1.trans (s2.trans (s3.trans (s4.trans s5))))
    have el := upd_same (H := upd (upd (upd (upd (upd H t0 (.tup [V.int 0, V.int 1])) t1 (.tup [V.int 1, V.int 1])) t2 (.tup [V.int 1, V.int 2])) t3 (.tup [V.int 2, V.int 3])) t4 (.tup [V.int 999, V.int 1000])) (a := ls) (o := .lst [V.ref t0, V.ref t1, V.ref t2, V.ref t3, V.ref t4])
    have nls : ls ≠ st := (S.same (s0.trans (s1.trans (s2.trans (s3.trans s4))))).ne_new hls
    generalize upd (upd (upd (upd (upd (upd H t0 (.tup [V.int 0, V.int 1])) t1 (.tup [V.int 1, V.int 1])) t2 (.tup [V.int 1, V.int 2])) t3 (.tup [V.int 2, V.int 3])) t4 (.tup [V.int 999, V.int 1000])) ls (.lst [V.ref t0, V.ref t1, V.ref t2, V.ref t3, V.ref t4]) = H1 at e0 e1 e2 e3 e4 sall el ⊢
    have S1 := S.same sall
    refine ⟨_, rfl, st, l, 5, rfl, S1, by decide, by decide, fun H2 z z0 z1 S2 o2 => ?_⟩
    have pick : ∃ (q : Addr) (n d : Int), atI [V.ref t0, V.ref t1, V.ref t2, V.ref t3, V.ref t4] z = some (.ref q) ∧ H1 q = some (frT n d) ∧ OkBn n d := by
      have h : z = 0 ∨ z = 1 ∨ z = 2 ∨ z = 3 ∨ z = 4 := by omega
      rcases h with rfl | rfl | rfl | rfl | rfl
      · exact ⟨t0, 0, 1, rfl, e0, by decide, by decide, by decide, by decide, by decide⟩
      · exact ⟨t1, 1, 1, rfl, e1, by decide, by decide, by decide, by decide, by decide⟩
      · exact ⟨t2, 1, 2, rfl, e2, by decide, by decide, by decide, by decide, by decide⟩
      · exact ⟨t3, 2, 3, rfl, e3, by decide, by decide, by decide, by decide, by decide⟩
      · exact ⟨t4, 999, 1000, rfl, e4, by decide, by decide, by decide, by decide, by decide +kernel⟩
    obtain ⟨q, n, d, ha, hq, ok⟩ := pick
    have nq := S1.ne_tup hq
    exact ⟨ls, _, z, .ref q, rfl, rfl, SqL.of (o2 _ _ el nls), ha, k H2 q n d (o2 _ _ hq nq) ok S2 ((Off.of sall).trans o2)⟩

/-! ### _law_space -/
theorem scLSp : FnScope ["_law_stream_here", "_law_most", "_law_base", "_law_space_here", "_law_name", "_law_body_here", "_law_free", "_law_other"] ["_law_stream_here", "_law_most"] (defScope (tp 51)) := ⟨rfl, rfl, rfl, by decide +kernel, rfl, by decide +kernel, by decide +kernel⟩
def spLSp : Sp := fun vs H Q _ => ∃ (st l : Addr), vs = [.ref st, .int 8] ∧ StreamAt H st l ∧ ∀ (H' : Hp) (p : Addr) (bs : List Bd), SpAt H' p bs → GoodSp bs → StreamAt H' st l → Q (.ref p) H'
theorem ok_lsp (D : Dx K mg "_law_space" (tp 51) ["_law_stream_here", "_law_most"]) (B : Bt mg) (cN : Cal P w K mg base 1 "_law_next" ["_law_stream_here", "_law_many"] spNext) (cY : Cal P w K mg base 2 "_law_body" ["_law_stream_here", "_law_name", "_law_base"] spLBody)
    (cB : Cal P w K mg base 1 "_law_box" ["_law_body_here"] spLBox) (cO : Cal P w K mg base 1 "_law_overlap" ["_law_a", "_law_b"] spOverlap) (cI : Cal P w K mg base 1 "_law_in_world" ["_law_box_here"] spLIn) :
    Cal P w K mg base 3 "_law_space" ["_law_stream_here", "_law_most"] spLSp := D.cal fun f fd F => by
  refine F.ok scLSp (fun vs H Q E h => ?_) (fun cdv A outer s H vs Q E hr h => ?_)
  · obtain ⟨st, l, rfl, _⟩ := h
    rfl
  · obtain ⟨st, l, rfl, S, k⟩ := h
    have r1 : Room 1 _ := hr.mono (by decide)
    refine ⟨_, pss_cons (ps_set (i := 2) scLSp.nd rfl (.inl rfl) (pe_ix ix_list (pe_lst (pa_cons (pe_tup (pa_cons pe_int (pa_cons pe_int pa_nil))) (pa_cons (pe_tup (pa_cons (pe_un un_neg pe_int) (pa_cons (pe_un un_neg pe_int) pa_nil))) (pa_cons (pe_tup (pa_cons (pe_un un_neg pe_int) (pa_cons pe_int pa_nil)))
        (pa_cons (pe_tup (pa_cons pe_int (pa_cons pe_int pa_nil))) (pa_cons (pe_tup (pa_cons pe_int (pa_cons (pe_un un_neg pe_int) pa_nil))) pa_nil)))))) (pe_cal cN r1 (pa_cons (pv 0) (pa_cons pe_int pa_nil))) (fun _ _ => rfl)))
      (pss_cons (ps_set (i := 3) scLSp.nd rfl (.inl rfl) (pe_lst pa_nil))
      (pss_cons (ps_for PassesOwn.never rfl (pi_list (pe_slice sl_list (pe_lst (pa_cons pe_str (pa_cons pe_str (pa_cons pe_str (pa_cons pe_str (pa_cons pe_str (pa_cons pe_str (pa_cons pe_str (pa_cons pe_str (pa_cons pe_str (pa_cons pe_str (pa_cons pe_str (pa_cons pe_str pa_nil))))))))))))) po_none
          (po_some (pe_cal cN r1 (pa_cons (pv 0) (pa_cons (pe_op op_add (pv 1) pe_int) pa_nil)))))) (pg_name (i := 4) scLSp.nd rfl (Or.inl rfl))
        (pss_cons (ps_set (i := 5) scLSp.nd rfl (.inr rfl) (pe_cal cY hr (pa_cons (pv 0) (pa_cons (pv 4) (pa_cons (pv 2) pa_nil)))))
        (pss_cons (ps_set (i := 6) scLSp.nd rfl (.inl rfl) (pe_not (pe_callB (cr_any rfl) (by rfl) B.any bt_any (pa_cons (pe_lc (own := [("_law_other", 7)]) (g := gName 7) (tt := tYes) rfl scLSp.nd (pi_list (pv 3))
          (blkOk_by (own := [("_law_other", 7)]) (N := ["_law_stream_here", "_law_most", "_law_base", "_law_space_here", "_law_name", "_law_body_here", "_law_free", "_law_other"]) (sc := defScope (tp 51)) (by decide +kernel)) (fun _ _ _ _ _ => pg_name (i := 7) scLSp.nd rfl (Or.inl rfl)) (fun _ _ _ _ _ => pts_nil)
          (fun _ _ _ _ _ => pe_cal cO r1 (pa_cons (pe_cal cB r1 (pa_cons (pv 5) pa_nil)) (pa_cons (pe_cal cB r1 (pa_cons (pv 7) pa_nil)) pa_nil)))) pa_nil))))
        (pss_one (ps_if (PW.pt (pw_and (pt_val (pv 6)) (pw_and1 (pt_val (pe_cal cI r1 (pa_cons (pe_cal cB r1 (pa_cons (pv 5) pa_nil)) pa_nil))))))
          (pss_one (ps_expr (pe_bm PySem.F.plainAttrs_list PySem.F.slot_list_append PySem.F.type_list_append mt_append (pv 3) (pa_cons (pv 5) pa_nil)))) pss_nil)))))
      (pss_one (ps_ret (pe_callTy call_tuple_of (by rfl) B.tuple bt_tuple (pa_cons (pv 3) pa_nil)))))), ?_⟩
    have l2 : 2 ≤ sizeLine := by decide
    refine ⟨l2, fun t0 n0 => ⟨_, rfl, _, rfl, l2, fun t1 n1 => ⟨_, rfl, l2, fun t2 n2 => ⟨l2, fun t3 n3 => ⟨_, rfl, l2, fun t4 n4 => ⟨by show 5 ≤ sizeLine; decide, fun ls hls => ?_⟩⟩⟩⟩⟩⟩
    have s0 := same_upd (o := .tup [V.int 0, V.int 0]) n0
    have s1 := same_upd (o := .tup [V.int (-40), V.int (-20)]) n1
    have s2 := same_upd (o := .tup [V.int (-20000), V.int 5]) n2
    have s3 := same_upd (o := .tup [V.int 19905, V.int 19955]) n3
    have s4 := same_upd (o := .tup [V.int 7, V.int (-20000)]) n4
    have s5 := same_upd (o := .lst [V.ref t0, V.ref t1, V.ref t2, V.ref t3, V.ref t4]) hls
    have e4 := s5 _ _ (upd_same (a := t4))
    have e3 := s5 _ _ (s4 _ _ (upd_same (a := t3)))
    have e2 := s5 _ _ (s4 _ _ (s3 _ _ (upd_same (a := t2))))
    have e1 := s5 _ _ (s4 _ _ (s3 _ _ (s2 _ _ (upd_same (a := t1)))))
    have e0 := s5 _ _ (s4 _ _ (s3 _ _ (s2 _ _ (s1 _ _ (upd_same (a := t0))))))
    have sall : Same H _ := s0.trans (s1.trans (s2.trans (s3.trans (s4.trans s5))))
    have el := upd_same (H := upd (upd (upd (upd (upd H t0 (.tup [V.int 0, V.int 0])) t1 (.tup [V.int (-40), V.int (-20)])) t2 (.tup [V.int (-20000), V.int 5])) t3 (.tup [V.int 19905, V.int 19955])) t4 (.tup [V.int 7, V.int (-20000)])) (a := ls) (o := .lst [V.ref t0, V.ref t1, V.ref t2, V.ref t3, V.ref t4])
    have nls : ls ≠ st := (S.same (s0.trans (s1.trans (s2.trans (s3.trans s4))))).ne_new hls
    generalize upd (upd (upd (upd (upd (upd H t0 (.tup [V.int 0, V.int 0])) t1 (.tup [V.int (-40), V.int (-20)])) t2 (.tup [V.int (-20000), V.int 5])) t3 (.tup [V.int 19905, V.int 19955])) t4 (.tup [V.int 7, V.int (-20000)])) ls (.lst [V.ref t0, V.ref t1, V.ref t2, V.ref t3, V.ref t4]) = H1 at e0 e1 e2 e3 e4 sall el ⊢
    have S1 := S.same sall
    refine ⟨_, rfl, st, l, 5, rfl, S1, by decide, by decide, fun H2 z z0 z1 S2 o2 => ?_⟩
    have pick : ∃ (q : Addr) (x y : Int), atI [V.ref t0, V.ref t1, V.ref t2, V.ref t3, V.ref t4] z = some (.ref q) ∧ H1 q = some (.tup [.int x, .int y]) := by
      have h : z = 0 ∨ z = 1 ∨ z = 2 ∨ z = 3 ∨ z = 4 := by omega
      rcases h with rfl | rfl | rfl | rfl | rfl
      · exact ⟨t0, _, _, rfl, e0⟩
      · exact ⟨t1, _, _, rfl, e1⟩
      · exact ⟨t2, _, _, rfl, e2⟩
      · exact ⟨t3, _, _, rfl, e3⟩
      · exact ⟨t4, _, _, rfl, e4⟩
    obtain ⟨bq, bx, by', ha, hq⟩ := pick
    have hq2 : H2 bq = some (.tup [.int bx, .int by']) := o2 _ _ hq (S1.ne_tup hq)
    refine ⟨ls, _, z, .ref bq, rfl, rfl, SqL.of (o2 _ _ el nls), ha, ?_⟩
    clear e0 e1 e2 e3 e4 el sall n0 n1 n2 n3 n4 hls nls ha hq S1 o2 s0 s1 s2 s3 s4 s5
    -- _law_space_here = []
    refine ⟨Nat.zero_le _, fun sl hsl => ?_⟩
    have S3 := S2.same (same_upd (o := .lst []) hsl)
    have hq3 := (same_upd (o := .lst []) hsl) _ _ hq2
    have nsl : sl ≠ st := S2.ne_new hsl
    have nll : sl ≠ l := by
      obtain ⟨ns, c, kk, _, h2, _⟩ := S2.ex
      exact (ne_of_none h2 hsl).symm
    have hs3 : (upd H2 sl (.lst [])) sl = some (.lst []) := upd_same
    generalize upd H2 sl (.lst []) = H3 at S3 hq3 hs3 ⊢
    -- the names
    refine ⟨by show 12 ≤ sizeLine; decide, fun nl hnl => ?_⟩
    have s4 := same_upd (o := .lst (namesL.map V.str)) hnl
    have S4 := S3.same s4
    have nnl : nl ≠ st := S3.ne_new hnl
    have en : (upd H3 nl (.lst (namesL.map V.str))) nl = some (.lst (namesL.map V.str)) := upd_same
    refine ⟨_, rfl, _, rfl, _, _, rfl, rfl, st, l, _, rfl, S4, by decide, by decide, fun H5 nz nz0 nz1 S5 o5 => ?_⟩
    have hq5 := o5 _ _ (s4 _ _ hq3) (S4.ne_tup (s4 _ _ hq3))
    have hs5 := o5 _ _ (s4 _ _ hs3) nsl
    refine ⟨nz, rfl, nl, namesL.map V.str, rfl, SqL.of (o5 _ _ en nnl), fun q hq => ?_⟩
    obtain ⟨k0, rfl⟩ : ∃ k0 : Nat, nz = (k0 : Int) := ⟨nz.toNat, by omega⟩
    have hk12 : k0 ≤ 8 := by omega
    have ec : cutV (namesL.map V.str) none (some (k0 : Int)) = (namesL.take k0).map V.str := by
      rw [cut_to _ (by rw [List.length_map, names_len]; omega), List.map_take]
    rw [ec]
    have s6 := same_upd (o := .lst ((namesL.take k0).map V.str)) hq
    have S6 := S5.same s6
    have nqst : q ≠ st := S5.ne_new hq
    have nqs : q ≠ sl := (ne_of_none hs5 hq).symm
    have hqn : (upd H5 q (.lst ((namesL.take k0).map V.str))) q = some (.lst ((namesL.take k0).map V.str)) := upd_same
    have hq6 := s6 _ _ hq5
    have hs6 := s6 _ _ hs5
    generalize upd H5 q (.lst ((namesL.take k0).map V.str)) = H6 at S6 hqn hq6 hs6 ⊢
    refine ⟨q, rfl, ⟨_, SqL.of hqn⟩, ?_⟩
    refine for_list (K := K) (a := q) (xs := (namesL.take k0).map V.str) (fun i σ H' => ∃ (bs : List Bd) (as : List Addr) (x4 x5 x6 : Option V), σ = [some (.ref st), some (.int 8), some (.ref bq), some (.ref sl), x4, x5, x6, none] ∧ StreamAt H' st l ∧
        H' bq = some (.tup [.int bx, .int by']) ∧ H' q = some (.lst ((namesL.take k0).map V.str)) ∧ H' sl = some (.lst (as.map V.ref)) ∧ LAt H' bdT as bs ∧ GoodSp bs ∧ (∀ (j : Nat) (c : Bd), bs[j]? = some c → ∃ r, r < i ∧ namesL[r]? = some c.nm) ∧ bs.length ≤ i)
      ⟨[], [], none, none, none, rfl, S6, hq6, hqn, hs6, LAt.nil, GoodSp.nil, fun j c h => by simp at h, Nat.le_refl _⟩ (fun i σ H' _ ⟨_, _, _, _, _, _, _, _, e, _⟩ => SqL.of e) ?_ ?_
    · rintro i v σ H7 hi ⟨bs, as, x4, x5, x6, rfl, S7, hb7, hq7, hs7, L7, g, hnm, hlen⟩
      obtain ⟨nm, hnm0, rfl⟩ := get_of_map hi
      have hik := lt_of_get hnm0
      rw [List.length_take] at hik
      have hnmi : namesL[i]? = some nm := by
        rw [List.getElem?_take_of_lt (by omega)] at hnm0
        exact hnm0
      -- body = _law_body(..)
      refine ⟨_, rfl, _, rfl, _, rfl, st, l, bq, nm, bx, by', rfl, S7, hb7, fun H8 p b hp gb S8 o8 => ?_⟩
      have hb8 := o8 _ _ hb7 (S7.ne_tup hb7)
      have hq8 := o8 _ _ hq7 nqst
      have hs8 := o8 _ _ hs7 nsl
      have L8 : LAt H8 bdT as bs := ⟨L7.len, fun j a c ha hc => o8 _ _ (L7.get j a c ha hc) (S7.ne_tup (L7.get j a c ha hc))⟩
      have hz : bs.length < sizeLine := line12 (by omega)
      -- free = not any(..)
      refine ⟨_, rfl, sl, rfl, ⟨_, SqL.of hs8⟩, fun D hD => ?_⟩
      refine lc_at (walk_list (K := K) (a := sl) (xs := as.map V.ref)) (fun c => V.bl (ovl (box b) (box c))) L8 (fun H' s' => SqL.of (s' _ _ hs8)) hD hz (fun _ => rfl) (fun j a c H' Q' ha hc hac s' q' => ?_) (fun H9 s9 hD9 => ?_)
      · refine ⟨_, rfl, p, b, rfl, s' _ _ hp, fun u hu => ⟨_, rfl, a, c, rfl, same_upd hu _ _ hac, fun u' hu' => ?_⟩⟩
        have nuu : u ≠ u' := fun e => by
          rw [← e, upd_same] at hu'
          cases hu'
        exact ⟨u, u', box b, box c, rfl, by rw [upd_ne nuu]; exact upd_same, upd_same, q' _ ((same_upd hu).trans (same_upd hu'))⟩
      · refine ⟨D, bs.map fun c => ovl (box b) (box c), rfl, SqL.of (by rw [hD9, List.map_map]; rfl), _, rfl, ?_⟩
        have S9 := S8.same s9
        have L9 := L8.same s9
        refine ⟨_, rfl, _, rfl, ?_⟩
        have skip : ∀ H', Same H9 H' → ∃ (bs' : List Bd) (as' : List Addr) (y4 y5 y6 : Option V), [some (V.ref st), some (V.int 8), some (V.ref bq), some (V.ref sl), some (V.str nm), some (V.ref p), some (V.bl (!(bs.map fun c => ovl (box b) (box c)).any id)), none] =
            [some (.ref st), some (.int 8), some (.ref bq), some (.ref sl), y4, y5, y6, none] ∧ StreamAt H' st l ∧
            H' bq = some (.tup [.int bx, .int by']) ∧ H' q = some (.lst ((namesL.take k0).map V.str)) ∧ H' sl = some (.lst (as'.map V.ref)) ∧ LAt H' bdT as' bs' ∧ GoodSp bs' ∧ (∀ (j : Nat) (c : Bd), bs'[j]? = some c → ∃ r, r < i + 1 ∧ namesL[r]? = some c.nm) ∧ bs'.length ≤ i + 1 := fun H' s' =>
          ⟨bs, as, _, _, _, rfl, S9.same s', s' _ _ (s9 _ _ hb8), s' _ _ (s9 _ _ hq8), s' _ _ (s9 _ _ hs8), L9.same s', g, fun j c hc => let ⟨r, hr1, hr2⟩ := hnm j c hc; ⟨r, by omega, hr2⟩, by omega⟩
        cases hany : (bs.map fun c => ovl (box b) (box c)).any id with
        | true =>
          rw [hany] at skip
          exact iteF (iteF (skip H9 (Same.refl _)))
        | false =>
          rw [hany] at skip
          refine iteT ?_
          have hp9 := s9 _ _ hp
          refine ⟨_, rfl, p, b, rfl, hp9, fun u hu => ⟨u, box b, rfl, upd_same, fun H10 s10 => ⟨_, rfl, ?_⟩⟩⟩
          have s11 : Same H9 H10 := (same_upd hu).trans s10
          cases hw : inW (box b) with
          | false => exact iteF (skip H10 s11)
          | true =>
            refine iteT ?_
            have hs10 := s11 _ _ (s9 _ _ hs8)
            have las : as.length ≤ 12 := by rw [L7.len]; omega
            refine ⟨_, rfl, .inl ⟨rfl, _, SqL.of hs10⟩, _, rfl, sl, _, _, rfl, rfl, hs10, by rw [List.length_map]; exact line12 las, ?_⟩
            have hp10 := s11 _ _ hp9
            have nsp : sl ∉ as ++ [p] := fun hm => by
              rcases List.mem_append.mp hm with hm | hm
              · obtain ⟨j, hj⟩ := List.mem_iff_getElem?.mp hm
                obtain ⟨c, _, e⟩ := (L9.same s11).item hj
                rw [hs10] at e
                cases e
              · rw [List.mem_singleton.mp hm] at hs10
                rw [hs10] at hp10
                cases hp10
            obtain ⟨ns, c1, c2, h1, h2, h3⟩ := (S9.same s11).ex
            refine ⟨bs ++ [b], as ++ [p], _, _, _, rfl, ⟨ns, c1, c2, by rw [upd_ne nsl.symm]; exact h1, by rw [upd_ne nll.symm]; exact h2, h3⟩, ?_, ?_, ?_, ((L9.same s11).snoc hp10).off nsp, ?_, ?_, ?_⟩
            · have hbt := s11 _ _ (s9 _ _ hb8)
              have n : bq ≠ sl := ne_of hbt hs10 (by intro z; cases z)
              rw [upd_ne n]
              exact hbt
            · rw [upd_ne nqs]
              exact s11 _ _ (s9 _ _ hq8)
            · rw [upd_same, List.map_append]
              rfl
            · refine g.snoc (i := i) (by rw [gb.nm]; exact hnmi) (gb.good (names_ok _ (List.mem_of_getElem? hnmi)) hw) (by omega) hnm fun j c hc => ?_
              rw [List.any_eq_false] at hany
              have h := hany (ovl (box b) (box c)) (List.mem_map.mpr ⟨c, List.mem_of_getElem? hc, rfl⟩)
              cases ho : ovl (box b) (box c) with
              | false => rfl
              | true =>
                rw [ho] at h
                exact absurd rfl h
            · intro j c hc
              rcases snoc_get hc with ⟨_, hc⟩ | ⟨_, hc⟩
              · obtain ⟨r, hr1, hr2⟩ := hnm j c hc
                exact ⟨r, by omega, hr2⟩
              · exact ⟨i, by omega, by rw [hc, gb.nm]; exact hnmi⟩
            · rw [List.length_append, List.length_singleton]
              omega
    · rintro σ H7 ⟨bs, as, x4, x5, x6, rfl, S7, hb7, hq7, hs7, L7, g, _, _⟩
      refine ⟨_, rfl, sl, _, rfl, .inl ⟨SqL.of hs7, fun p hp => ?_⟩⟩
      have s8 := same_upd (o := .tup (as.map V.ref)) hp
      exact k _ p bs ⟨as, upd_same, L7.same s8⟩ g (S7.same s8)
end
end Km
/-! The law's look at the contacts. -/
namespace Km
open PySem L2
theorem iteIn {x : V} {xs : List V} {A B : Prop} (h : inV x xs = true) (q : B) : if (if true = true then !inV x xs else inV x xs) = true then A else B := by
  rw [if_pos rfl, h]
  exact iteF q
theorem in_strs {z : Str} {zs : List Str} (h : z ∈ zs) : inV (.str z) (zs.map V.str) = true := by
  unfold inV
  rw [List.any_eq_true]
  refine ⟨.str z, List.mem_map.mpr ⟨z, h, rfl⟩, ?_⟩
  show (z == z) = true
  exact beq_self_eq_true z
theorem not_in_strs {z : Str} {zs : List Str} (h : z ∉ zs) : inV (.str z) (zs.map V.str) = false := by
  unfold inV
  rw [List.any_eq_false]
  intro y hy
  obtain ⟨a, ha, rfl⟩ := List.mem_map.mp hy
  show ¬ (a == z) = true
  intro e
  rw [eq_of_beq e] at ha
  exact h ha
theorem strs_flat (zs : List Str) : (zs.map V.str).all flatV = true := by
  rw [List.all_eq_true]
  intro y hy
  obtain ⟨a, ha, rfl⟩ := List.mem_map.mp hy
  rfl
/-- what is listed as seen -/
abbrev prT (c : Ct) : HO := .tup [.str (axS c.ax), .str c.nm]
def prD' (c : Ct) : PyData := .tuple [.str (axS c.ax), .str c.nm]
theorem axS_inj {a b : Bool} (h : axS a = axS b) : a = b := by
  cases a <;> cases b
  · rfl
  · exact absurd h (by decide +kernel)
  · exact absurd h (by decide +kernel)
  · rfl
theorem pr_eqv {c d : Ct} (h : (c.ax, c.nm) ≠ (d.ax, d.nm)) : PyData.eqv (prD' c) (prD' d) = false := by
  have e : PyData.eqv (prD' c) (prD' d) = ((axS c.ax == axS d.ax) && ((c.nm == d.nm) && true)) := by simp only [prD', PyData.eqv, PyData.eqvAll]
  rw [e]
  by_cases h1 : axS c.ax = axS d.ax
  · have h2 : c.nm ≠ d.nm := fun q => h (by rw [axS_inj h1, q])
    rw [show (c.nm == d.nm) = false from beq_eq_false_iff_ne.mpr h2]
    simp
  · rw [show (axS c.ax == axS d.ax) = false from beq_eq_false_iff_ne.mpr h1]
    simp
theorem sign_lim : ∀ c, c ∈ lettersL ∨ c ∈ digitsL → c < 1114112 := fun c h => by
  have h1 : lettersL.all (fun c => decide (c < 1114112)) = true := by decide +kernel
  have h2 : digitsL.all (fun c => decide (c < 1114112)) = true := by decide +kernel
  rcases h with h | h
  · exact of_decide_eq_true (List.all_eq_true.mp h1 c h)
  · exact of_decide_eq_true (List.all_eq_true.mp h2 c h)
theorem OkN.txt {z : Str} (o : OkN z) : PyData.strOk z = true := by
  unfold PyData.strOk
  rw [← Array.all_toList, List.all_eq_true]
  intro c hc
  exact decide_eq_true (sign_lim c (o.al c hc))
theorem pr_lay {c : Ct} (o : OkN c.nm) : (prD' c).canLay0 = true := by
  have h1 : PyData.strOk (axS c.ax) = true := by cases c.ax <;> decide +kernel
  simp [prD', PyData.canLay0, PyData.canLayAll0, h1, o.txt]
theorem pr_depth (c : Ct) : (prD' c).depth = 1 := by simp [prD', PyData.depth, PyData.depthAll]
theorem prs_lay : ∀ {cs : List Ct}, (∀ c ∈ cs, OkN c.nm) → PyData.canLayAll0 (cs.map prD') = true
  | [], _ => by simp [PyData.canLayAll0]
  | c :: r, h => by simp [PyData.canLayAll0, pr_lay (h c (List.mem_cons_self ..)), prs_lay (cs := r) fun d hd => h d (List.mem_cons_of_mem _ hd)]
theorem prs_depth : ∀ cs : List Ct, PyData.depthAll (cs.map prD') ≤ 1
  | [] => by simp [PyData.depthAll]
  | c :: r => by
    have h1 := prs_depth r
    have h2 := pr_depth c
    simp only [List.map_cons, PyData.depthAll]
    omega
theorem pr_shaped {c : Ct} (o : OkN c.nm) : SeqAt.shaped (prD' c) = true := by
  have h := pr_depth c
  unfold SeqAt.shaped
  rw [Bool.and_eq_true]
  exact ⟨pr_lay o, decide_eq_true (by omega)⟩
theorem prs_shaped {cs : List Ct} (o : ∀ c ∈ cs, OkN c.nm) : SeqAt.shaped (.list (cs.map prD')) = true := by
  have h1 := prs_depth cs
  unfold SeqAt.shaped
  rw [Bool.and_eq_true]
  refine ⟨by simp only [PyData.canLay0]; exact prs_lay o, decide_eq_true ?_⟩
  simp only [PyData.depth]
  omega
theorem dp_pr {K : PySem.W.Frag} {H : Hp} {t : Addr} {c : Ct} (h : H t = some (prT c)) : Dp K H (.ref t) (prD' c) := .tup (SqT.of h) (.cons (.str _) (.cons (.str _) .nil))
theorem dp_prs {K : PySem.W.Frag} {H : Hp} : ∀ {ps : List Addr} {cs : List Ct}, LAt H prT ps cs → DpAll K H (ps.map V.ref) (cs.map prD')
  | [], [], _ => .nil
  | [], c :: r, h => by have := h.len; simp at this
  | p :: ps, [], h => by have := h.len; simp at this
  | p :: ps, c :: cs, h => .cons (dp_pr (h.get 0 p c rfl rfl)) (dp_prs (ps := ps) (cs := cs) ⟨by have := h.len; simpa using this, fun i a x ha hx => h.get (i + 1) a x ha hx⟩)
section
variable {P : Program} {w : World} {K : PySem.W.Frag} {mg : Str → Option Value} {base : Heap}
theorem scAre : FnScope ["_law_space_here", "_law_contacts", "_law_names", "_law_seen", "_law_one", "_law_body_here"] ["_law_space_here", "_law_contacts"] (defScope (tp 53)) := ⟨rfl, rfl, rfl, by decide +kernel, rfl, by decide +kernel, by decide +kernel⟩
def spAre : Sp := fun vs H Q _ => ∃ (sp c : Addr) (bs : List Bd) (cs : List Ct), vs = [.ref sp, .ref c] ∧ SpAt H sp bs ∧ GoodSp bs ∧ CtsAt H c cs ∧ cs.length ≤ 24 ∧ (∀ x ∈ cs, OkC x.ax (namesOf bs) x) ∧ (cs.map fun x => (x.ax, x.nm)).Nodup ∧ ∀ H', Same H H' → Q (.bl true) H'
theorem nd_take {α β : Type} [DecidableEq β] {f : α → β} : ∀ {l : List α} {i : Nat} {x : α}, (l.map f).Nodup → l[i]? = some x → ∀ y ∈ l.take i, f y ≠ f x
  | [], i, x, _, h, _, _ => by simp at h
  | a :: r, 0, x, _, _, y, hy => by simp at hy
  | a :: r, i + 1, x, hn, hx, y, hy => by
    rw [List.map_cons, List.nodup_cons] at hn
    have hx' : r[i]? = some x := hx
    rw [List.take_succ_cons, List.mem_cons] at hy
    rcases hy with rfl | hy
    · exact fun e => hn.1 (List.mem_map.mpr ⟨x, List.mem_of_getElem? hx', e.symm⟩)
    · exact nd_take hn.2 hx' y hy
theorem ok_are (D : Dx K mg "_law_are_contacts" (tp 53) ["_law_space_here", "_law_contacts"]) (B : Bt mg) (cI : Cal P w K mg base 1 "_law_is_integer" ["_law_actual"] spWhole) : Cal P w K mg base 2 "_law_are_contacts" ["_law_space_here", "_law_contacts"] spAre := D.cal fun f fd F => by
  refine F.ok scAre (fun vs H Q E h => ?_) (fun cdv A outer s H vs Q E hr h => ?_)
  · obtain ⟨sp, c, bs, cs, rfl, _⟩ := h
    rfl
  · obtain ⟨sp, c, bs, cs, rfl, ⟨as, hsp, hL⟩, g, hC, hl24, oks, nd, k⟩ := h
    have hu65 : (A.deeper (PyProof.Rows.envOfC ("_law_are_contacts" : Str) (defScope (tp 53)) s.heap.objs.size f cdv)).units + 65 < cLine := by
      have := hr.un
      omega
    refine ⟨_, pss_cons (ps_setLc (i := 2) (own := [("_law_body_here", 5)]) (g := gName 5) (tt := tYes) (te := tOp (rIxT K) (tVar 5) (tC (.int 0))) rfl scAre.nd rfl rfl (sw_true rfl rfl rfl (by decide +kernel)) (pi_tup (pv 0))
          (blkOk_by (own := [("_law_body_here", 5)]) (N := ["_law_space_here", "_law_contacts", "_law_names", "_law_seen", "_law_one", "_law_body_here"]) (sc := defScope (tp 53)) (by decide +kernel)) (fun _ _ _ _ _ => pg_name (i := 5) scAre.nd rfl (Or.inl rfl)) (fun _ _ _ _ _ => pts_nil)
          (fun _ _ _ _ _ => pe_ix ix_tup (pv 5) pe_int (fun _ _ => rfl)))
      (pss_cons (ps_set (i := 3) scAre.nd rfl (.inl rfl) (pe_lst pa_nil))
      (pss_cons (ps_if (pt_not (pt_val (pe_callB call_isi (by rfl) B.isinstance bt_isinstance (pa_cons (pv 1) (pa_cons (pe_ty B.list bt_list) pa_nil))))) (pss_one (ps_ret pe_bl)) pss_nil)
      (pss_cons (ps_for PassesOwn.never rfl (pi_list (pv 1)) (pg_name (i := 4) scAre.nd rfl (Or.inl rfl))
        (pss_cons (ps_if (PW.pt (pw_or (pt_not (pt_val (pe_callB call_isi (by rfl) B.isinstance bt_isinstance (pa_cons (pv 4) (pa_cons (pe_ty B.tuple bt_tuple) pa_nil)))))
          (pw_or (pt_cmpR op_ne (pe_callB call_len_seq (by rfl) B.len PySem.boot_len (pa_cons (pv 4) pa_nil)) pe_int (nomark _))
          (pw_or (pt_cmpR op_notIn_seq (pe_ix ix_tup (pv 4) pe_int (fun _ _ => rfl)) (pe_lst (pa_cons pe_str (pa_cons pe_str pa_nil))) (by rfl))
          (pw_or1 (pt_cmpR op_notIn_seq (pe_ix ix_tup (pv 4) pe_int (fun _ _ => rfl)) (pe_lst (pa_cons pe_int (pa_cons (pe_un un_neg pe_int) pa_nil))) (by rfl))))))) (pss_one (ps_ret pe_bl)) pss_nil)
        (pss_cons (ps_if (PW.pt (pw_or (pt_cmpR op_notIn_seq (pe_ix ix_tup (pv 4) pe_int (fun _ _ => rfl)) (pv 2) (by rfl))
          (pw_or (pt_cmpR op_notIn_seq (pe_ix ix_tup (pv 4) pe_int (fun _ _ => rfl)) (pe_op op_cat (pv 2) (pe_lst (pa_cons pe_str pa_nil))) (by rfl))
          (pw_or (pt_cmpR op_eq (pe_ix ix_tup (pv 4) pe_int (fun _ _ => rfl)) (pe_ix ix_tup (pv 4) pe_int (fun _ _ => rfl)) (nomark _))
          (pw_or1 (pt_cmpR (op_inD hu65) (pe_tup (pa_cons (pe_ix ix_tup (pv 4) pe_int (fun _ _ => rfl)) (pa_cons (pe_ix ix_tup (pv 4) pe_int (fun _ _ => rfl)) pa_nil))) (pv 3) (by rfl))))))) (pss_one (ps_ret pe_bl)) pss_nil)
        (pss_cons (ps_if (PW.pt (pw_or (pt_not (pt_val (pe_cal cI hr (pa_cons (pe_ix ix_tup (pv 4) pe_int (fun _ _ => rfl)) pa_nil)))) (pw_or1 (pt_cmpR op_lt (pe_ix ix_tup (pv 4) pe_int (fun _ _ => rfl)) pe_int (nomark _))))) (pss_one (ps_ret pe_bl)) pss_nil)
        (pss_one (ps_expr (pe_bm PySem.F.plainAttrs_list PySem.F.slot_list_append PySem.F.type_list_append mt_append (pv 3) (pa_cons (pe_tup (pa_cons (pe_ix ix_tup (pv 4) pe_int (fun _ _ => rfl)) (pa_cons (pe_ix ix_tup (pv 4) pe_int (fun _ _ => rfl)) pa_nil))) pa_nil))))))))
      (pss_one (ps_ret pe_bl))))), ?_⟩
    have hl12 := g.len
    have hz : bs.length < sizeLine := line12 hl12
    have okn : ∀ x ∈ cs, OkN x.nm := fun x hx => by
      obtain ⟨b, hb, e⟩ := List.mem_map.mp (oks x hx).nm
      obtain ⟨i, hi⟩ := List.mem_iff_getElem?.mp hb
      rw [← e]
      exact (g.all i b hi).nm
    -- the names
    refine ⟨_, rfl, sp, rfl, ⟨_, SqT.of hsp⟩, fun dn hdn => ?_⟩
    refine lc_at (walk_tup (K := K) (a := sp) (xs := as.map V.ref)) (fun b => V.str b.nm) hL (fun H' s' => SqT.of (s' _ _ hsp)) hdn hz (fun _ => rfl) (fun i q b H' Q' _ _ hqb _ q' => ?_) (fun H1 s1 hD1 => ?_)
    · exact ⟨_, rfl, q, _, _, .str b.nm, rfl, rfl, SqT.of hqb, rfl, q' _ (Same.refl _)⟩
    have en : (bs.map fun b => V.str b.nm) = (namesOf bs).map V.str := by
      unfold namesOf
      rw [List.map_map]
      rfl
    rw [en] at hD1
    -- seen = []
    refine ⟨Nat.zero_le _, fun sn hsn => ?_⟩
    have s2 := same_put (o := .lst []) s1 hsn
    have nds : dn ≠ sn := ne_of_none hD1 hsn
    have hsn0 : H sn = none := s1.free hsn
    have hD2 : (upd H1 sn (.lst [])) dn = some (.lst ((namesOf bs).map V.str)) := by
      rw [upd_ne nds]
      exact hD1
    have hs2 : (upd H1 sn (.lst [])) sn = some (.lst []) := upd_same
    generalize upd H1 sn (.lst []) = H2 at s2 hD2 hs2 ⊢
    obtain ⟨ts, hc, hT⟩ := hC.ex
    refine ⟨_, rfl, _, _, _, _, true, rfl, .ty _, .base (.lst (s2 _ _ hc)), kit_ty kb_ll, true, rfl, iteF ?_⟩
    -- for one in contacts
    refine ⟨_, rfl, c, rfl, ⟨_, SqL.of (s2 _ _ hc)⟩, ?_⟩
    refine for_list (K := K) (a := c) (xs := ts.map V.ref) (fun i σ H' => ∃ (ps : List Addr) (x4 : Option V), σ = [some (.ref sp), some (.ref c), some (.ref dn), some (.ref sn), x4, none] ∧ Same H H' ∧ H' dn = some (.lst ((namesOf bs).map V.str)) ∧
        H' sn = some (.lst (ps.map V.ref)) ∧ LAt H' prT ps (cs.take i)) ⟨[], none, rfl, s2, hD2, hs2, LAt.nil⟩ (fun i σ H' _ ⟨_, _, _, s', _⟩ => SqL.of (s' _ _ hc)) ?_ ?_
    · rintro i v σ H3 hi ⟨ps, x4, rfl, s3, hD3, hs3, L3⟩
      obtain ⟨t, ht, rfl⟩ := get_of_map hi
      obtain ⟨x, hx, htx⟩ := hT.item ht
      have hxm : x ∈ cs := List.mem_of_getElem? hx
      have ok := oks x hxm
      have ht3 := s3 _ _ htx
      have l2 : 2 ≤ sizeLine := by decide
      -- the form
      refine ⟨_, rfl, _, _, _, _, true, rfl, .ty _, .base (.tup ht3), kit_ty kb_tt, true, rfl, iteF ?_⟩
      refine ⟨_, rfl, t, _, rfl, .inr (SqT.of ht3), rfl, _, rfl, iteNS rfl ?_⟩
      refine ⟨_, rfl, t, _, _, .str (axS x.ax), rfl, rfl, SqT.of ht3, rfl, l2, fun p hp => ⟨p, _, rfl, .inl (SqL.of upd_same), rfl, rfl, _, rfl, ?_⟩⟩
      refine iteIn (by cases x.ax <;> decide +kernel) ?_
      have s4 := same_upd (o := .lst [V.str "x", V.str "y"]) hp
      generalize upd H3 p (.lst [V.str "x", V.str "y"]) = H4 at s4 ⊢
      refine ⟨_, rfl, t, _, _, .int x.sg, rfl, rfl, SqT.of (s4 _ _ ht3), rfl, _, rfl, l2, fun p' hp' => ⟨p', _, rfl, .inl (SqL.of upd_same), rfl, rfl, _, rfl, ?_⟩⟩
      refine iteIn (by rcases ok.sg with h | h <;> rw [h] <;> decide) ?_
      have s5 := s4.trans (same_upd (o := .lst [V.int 1, V.int (-1)]) hp')
      generalize upd H4 p' (.lst [V.int 1, V.int (-1)]) = H5 at s5 ⊢
      have ht5 := s5 _ _ ht3
      have hD5 := s5 _ _ hD3
      -- the names
      refine ⟨_, rfl, t, _, _, .str x.nm, rfl, rfl, SqT.of ht5, rfl, _, rfl, dn, _, rfl, .inl (SqL.of hD5), rfl, strs_flat _, _, rfl, iteIn (in_strs ok.nm) ?_⟩
      refine ⟨_, rfl, t, _, _, .str x.ot, rfl, rfl, SqT.of ht5, rfl, _, rfl, by decide, fun e he => ?_⟩
      have s6 := same_upd (o := .lst [V.str ""]) he
      have he6 : (upd H5 e (.lst [V.str ""])) e = some (.lst [V.str ""]) := upd_same
      generalize upd H5 e (.lst [V.str ""]) = H6 at s6 he6 ⊢
      have hlen : ((namesOf bs).map V.str).length + [V.str ""].length ≤ sizeLine := by
        rw [List.length_map, namesOf, List.length_map]
        show bs.length + 1 ≤ sizeLine
        exact Nat.le_trans (Nat.add_le_add_right hl12 1) (by decide)
      refine ⟨dn, e, _, _, rfl, rfl, s6 _ _ hD5, he6, hlen, fun p2 hp2 => ⟨p2, _, rfl, .inl (SqL.of upd_same), rfl, ?_, _, rfl, ?_⟩⟩
      · have := strs_flat (namesOf bs ++ [("" : Str)])
        rw [List.map_append] at this
        exact this
      have hot : x.ot ∈ namesOf bs ++ [("" : Str)] := by
        rw [List.mem_append, List.mem_singleton]
        rcases ok.ot with h | h
        · exact .inr h
        · exact .inl h
      have hin : inV (.str x.ot) ((namesOf bs).map V.str ++ [V.str ""]) = true := by
        have := in_strs hot
        rw [List.map_append] at this
        exact this
      refine iteIn hin ?_
      have s7 := s5.trans (s6.trans (same_upd (o := .lst ((namesOf bs).map V.str ++ [V.str ""])) hp2))
      generalize upd H6 p2 (.lst ((namesOf bs).map V.str ++ [V.str ""])) = H7 at s7 ⊢
      have ht7 := s7 _ _ ht3
      refine ⟨_, rfl, t, _, _, .str x.nm, rfl, rfl, SqT.of ht7, rfl, _, rfl, t, _, _, .str x.ot, rfl, rfl, SqT.of ht7, rfl, rfl, _, rfl, iteD (fun q => ok.ne (V.str.inj q)) ?_⟩
      -- not seen
      refine ⟨_, rfl, t, _, _, .str (axS x.ax), rfl, rfl, SqT.of ht7, rfl, _, rfl, t, _, _, .str x.nm, rfl, rfl, SqT.of ht7, rfl, l2, fun u hu => ?_⟩
      have s8 := s7.trans (same_upd (o := prT x) hu)
      have hu8 : (upd H7 u (prT x)) u = some (prT x) := upd_same
      change tVar _ _ (upd H7 u (prT x)) _
      generalize upd H7 u (prT x) = H8 at s8 hu8 ⊢
      refine ⟨_, rfl, prD' x, (cs.take i).map prD', dp_pr hu8, .lst (SqL.of (s8 _ _ hs3)) (dp_prs (L3.same s8)), pr_shaped (okn x hxm), prs_shaped (fun y hy => okn y (List.mem_of_mem_take hy)), false, ?_, iteF ?_⟩
      · have e : ((cs.take i).map prD').any (fun z => PyData.eqv z (prD' x)) = false := by
          rw [List.any_eq_false]
          intro z hz'
          obtain ⟨y, hy, rfl⟩ := List.mem_map.mp hz'
          rw [pr_eqv (nd_take (f := fun x : Ct => (x.ax, x.nm)) nd hx y hy)]
          decide
        rw [e]
      -- j
      have ht8 := s8 _ _ ht3
      have hj := ok.j
      refine ⟨_, rfl, t, _, _, .int x.j, rfl, rfl, SqT.of ht8, rfl, x.j, rfl, true, rfl, iteF ?_⟩
      refine ⟨_, rfl, t, _, _, .int x.j, rfl, rfl, SqT.of ht8, rfl, _, _, rfl, rfl, _, rfl, iteD (by omega) ?_⟩
      -- seen.append(..)
      have hs8 := s8 _ _ hs3
      refine ⟨_, rfl, .inl ⟨rfl, _, SqL.of hs8⟩, ?_⟩
      refine ⟨_, rfl, t, _, _, .str (axS x.ax), rfl, rfl, SqT.of ht8, rfl, _, rfl, t, _, _, .str x.nm, rfl, rfl, SqT.of ht8, rfl, l2, fun u2 hu2 => ?_⟩
      have s9 := same_upd (o := prT x) hu2
      have lps : ps.length ≤ 24 := by
        have h1 := L3.len
        rw [List.length_take] at h1
        omega
      refine ⟨sn, _, _, rfl, rfl, s9 _ _ hs8, by rw [List.length_map]; exact Nat.lt_of_le_of_lt lps (by decide), ?_⟩
      have nsu : sn ∉ ps ++ [u2] := fun hm => by
        rcases List.mem_append.mp hm with hm | hm
        · obtain ⟨j, hj'⟩ := List.mem_iff_getElem?.mp hm
          obtain ⟨y, _, e⟩ := (L3.same s8).item hj'
          rw [hs8] at e
          cases e
        · rw [List.mem_singleton.mp hm] at hs8
          rw [hs8] at hu2
          cases hu2
      refine ⟨ps ++ [u2], _, rfl, fun b o e => ?_, ?_, ?_, ?_⟩
      · rw [upd_ne (ne_of_none e hsn0)]
        exact s9 _ _ (s8 _ _ (s3 _ _ e))
      · rw [upd_ne nds]
        exact s9 _ _ (s8 _ _ hD3)
      · rw [upd_same, List.map_append]
        rfl
      · rw [List.take_add_one, hx]
        exact (((L3.same s8).same s9).snoc upd_same).off nsu
    · rintro σ H3 ⟨ps, x4, rfl, s3, _⟩
      exact k H3 s3
end
end Km
/-! The law. -/
namespace Km
open PySem L2
theorem iteYes {x : V} {xs : List V} {A B : Prop} (h : inV x xs = true) (q : A) : if (if false = true then !inV x xs else inV x xs) = true then A else B := by
  rw [if_neg Bool.false_ne_true, h]
  exact iteT q
theorem iteNo {x : V} {xs : List V} {A B : Prop} (h : inV x xs = false) (q : B) : if (if false = true then !inV x xs else inV x xs) = true then A else B := by
  rw [if_neg Bool.false_ne_true, h]
  exact iteF q
theorem SpAt.off {H H' : Hp} {st l p : Addr} {bs : List Bd} (h : SpAt H p bs) (S : StreamAt H st l) (o : Off st H H') : SpAt H' p bs := by
  obtain ⟨as, h1, h2⟩ := h.ex
  exact ⟨as, o _ _ h1 (S.ne_tup h1), h2.len, fun i a b ha hb => o _ _ (h2.get i a b ha hb) (S.ne_tup (h2.get i a b ha hb))⟩
theorem gvn_take {fx : List Str} {a : Bool} {cs : List Ct} {i : Nat} {c : Ct} (h : cs[i]? = some c) : gvn fx a (cs.take (i + 1)) = gvn fx a (cs.take i) + if c.ax = a ∧ c.ot ∈ fx then c.sg * c.j else 0 := by
  rw [List.take_add_one, h, show (some c).toList = [c] from rfl, gvn_append, gvn_one]
section
variable {P : Program} {w : World} {K : PySem.W.Frag} {mg : Str → Option Value} {base : Heap}
abbrev lawN : List Str := ["_law_script", "_law_stream_here", "_law_space_here", "_law_bounce_here", "_law_fixed", "_law_turn", "_law_behind", "_law_contacts", "_law_before", "_law_axis", "_law_given", "_law_word", "_law_s", "_law_name", "_law_other", "_law_j", "_law_body_here"]
theorem scLaw : FnScope lawN ["_law_script"] (defScope (tp 54)) := ⟨rfl, rfl, rfl, by decide +kernel, rfl, by decide +kernel, by decide +kernel⟩
def spLaw (K : PySem.W.Frag) : Sp := fun vs H Q _ => ∃ (a : Addr) (ns : List Int), vs = [.ref a] ∧ SqL K H a (ns.map V.int) ∧ ns.length ≤ 63 ∧ ∀ H', Q (.bl true) H'
theorem ok_law {f : Addr} {fd : FuncData} (F : Fun K "law" "law" (tp 54) f fd) (B : Bt mg) (cSt : Cal P w K mg base 1 "_law_stream" ["_law_script"] (spStream K)) (cSp : Cal P w K mg base 3 "_law_space" ["_law_stream_here", "_law_most"] spLSp)
    (cBn : Cal P w K mg base 2 "_law_bounce" ["_law_stream_here"] spLBn) (cN : Cal P w K mg base 1 "_law_next" ["_law_stream_here", "_law_many"] spNext) (cT : Cal P w K mg base 8 "tick" ["space", "bounce"] spTick)
    (cA : Cal P w K mg base 2 "_law_are_contacts" ["_law_space_here", "_law_contacts"] spAre) (cE : Cal P w K mg base 3 "_law_equal" ["_law_actual", "_law_due"] spEqT) (cM : Cal P w K mg base 8 "momentum" ["space"] spMomentum) :
    FnOk P w K mg base CX0 9 f fd ["_law_script"] (spLaw K) := by
  refine F.ok scLaw (fun vs H Q E h => ?_) (fun cdv A outer s H vs Q E hr h => ?_)
  · obtain ⟨a, ns, rfl, _⟩ := h
    rfl
  · obtain ⟨a0, ns, rfl, hS, hlen, k⟩ := h
    have r1 : Room 1 _ := hr.mono (by decide)
    have r2 : Room 2 _ := hr.mono (by decide)
    have r3 : Room 3 _ := hr.mono (by decide)
    refine ⟨_, pss_cons (ps_set (i := 1) scLaw.nd rfl (.inl rfl) (pe_cal cSt r1 (pa_cons (pv 0) pa_nil)))
      (pss_cons (ps_set (i := 2) scLaw.nd rfl (.inl rfl) (pe_cal cSp r3 (pa_cons (pv 1) (pa_cons pe_int pa_nil))))
      (pss_cons (ps_set (i := 3) scLaw.nd rfl (.inl rfl) (pe_cal cBn r2 (pa_cons (pv 1) pa_nil)))
      (pss_cons (ps_set (i := 4) scLaw.nd rfl (.inl rfl) (pe_op op_cat (pe_lc (own := [("_law_body_here", 16)]) (g := gName 16) (tt := tTest (tOp rEq (tOp (rIxT K) (tVar 16) (tC (.int 5))) (tC (.int 0)))) (te := tOp (rIxT K) (tVar 16) (tC (.int 0))) rfl scLaw.nd (pi_tup (pv 2))
          (blkOk_by (own := [("_law_body_here", 16)]) (N := lawN) (sc := defScope (tp 54)) (by decide +kernel)) (fun _ _ _ _ _ => pg_name (i := 16) scLaw.nd rfl (Or.inl rfl)) (fun _ _ _ _ _ => pts_one (pt_cmpR op_eq (pe_ix ix_tup (pv 16) pe_int (fun _ _ => rfl)) pe_int (nomark _)))
          (fun _ _ _ _ _ => pe_ix ix_tup (pv 16) pe_int (fun _ _ => rfl))) (pe_lst (pa_cons pe_str pa_nil))))
      (pss_cons (ps_for PassesOwn.never rfl (pi_range1 (by rfl) B.range (pa_cons (pe_op op_add pe_int (pe_cal cN r1 (pa_cons (pv 1) (pa_cons pe_int pa_nil)))) pa_nil)) (pg_name (i := 5) scLaw.nd rfl (Or.inl rfl))
        (pss_cons (ps_asg (pe_cal cT hr (pa_cons (pv 2) (pa_cons (pv 3) pa_nil))) (pg_tup rfl (pgs_cons (pg_name (i := 6) scLaw.nd rfl (Or.inl rfl)) (pgs_cons (pg_name (i := 7) scLaw.nd rfl (Or.inl rfl)) pgs_nil))))
        (pss_cons (ps_if (pt_not (pt_val (pe_cal cA r2 (pa_cons (pv 2) (pa_cons (pv 7) pa_nil))))) (pss_one (ps_ret pe_bl)) pss_nil)
        (pss_cons (ps_set (i := 8) scLaw.nd rfl (.inl rfl) (pe_tup (pa_cons (pe_callB (cr_sum rfl) (by rfl) B.sum bt_sum (pa_cons (pe_lc (own := [("_law_body_here", 16)]) (g := gName 16) (tt := tYes) (te := tOp (rIxT K) (tVar 16) (tC (.int 6))) rfl scLaw.nd (pi_tup (pv 2))
            (blkOk_by (own := [("_law_body_here", 16)]) (N := lawN) (sc := defScope (tp 54)) (by decide +kernel)) (fun _ _ _ _ _ => pg_name (i := 16) scLaw.nd rfl (Or.inl rfl)) (fun _ _ _ _ _ => pts_nil) (fun _ _ _ _ _ => pe_ix ix_tup (pv 16) pe_int (fun _ _ => rfl))) pa_nil))
          (pa_cons (pe_callB (cr_sum rfl) (by rfl) B.sum bt_sum (pa_cons (pe_lc (own := [("_law_body_here", 16)]) (g := gName 16) (tt := tYes) (te := tOp (rIxT K) (tVar 16) (tC (.int 7))) rfl scLaw.nd (pi_tup (pv 2))
            (blkOk_by (own := [("_law_body_here", 16)]) (N := lawN) (sc := defScope (tp 54)) (by decide +kernel)) (fun _ _ _ _ _ => pg_name (i := 16) scLaw.nd rfl (Or.inl rfl)) (fun _ _ _ _ _ => pts_nil) (fun _ _ _ _ _ => pe_ix ix_tup (pv 16) pe_int (fun _ _ => rfl))) pa_nil)) pa_nil))))
        (pss_cons (ps_for PassesOwn.never rfl (pi_range1 (by rfl) B.range (pa_cons pe_int pa_nil)) (pg_name (i := 9) scLaw.nd rfl (Or.inr rfl))
          (pss_cons (ps_set (i := 10) scLaw.nd rfl (.inl rfl) pe_int)
          (pss_cons (ps_for PassesOwn.never rfl (pi_list (pv 7)) (pg_tup rfl (pgs_cons (pg_name (i := 11) scLaw.nd rfl (Or.inl rfl)) (pgs_cons (pg_name (i := 12) scLaw.nd rfl (Or.inl rfl)) (pgs_cons (pg_name (i := 13) scLaw.nd rfl (Or.inl rfl)) (pgs_cons (pg_name (i := 14) scLaw.nd rfl (Or.inl rfl)) (pgs_cons (pg_name (i := 15) scLaw.nd rfl (Or.inl rfl)) pgs_nil))))))
            (pss_one (ps_if (PW.pt (pw_and (pt_cmpR op_eq (pv 11) (pe_ix ix_list (pe_lst (pa_cons pe_str (pa_cons pe_str pa_nil))) (pv 9) (fun _ _ => rfl)) (nomark _)) (pw_and1 (pt_cmpR op_in_seq (pv 14) (pv 4) (by rfl)))))
              (pss_one (ps_set (i := 10) scLaw.nd rfl (.inl rfl) (pe_op op_add (pv 10) (pe_op op_mul (pv 12) (pv 15))))) pss_nil)))
          (pss_one (ps_if (pt_cmpR op_ne (pe_op op_add (pe_callB (cr_sum rfl) (by rfl) B.sum bt_sum (pa_cons (pe_lc (own := [("_law_body_here", 16)]) (g := gName 16) (tt := tYes) (te := tOp (rIxT K) (tVar 16) (tOp (rI0 fun i j => V.int (i + j)) (tC (.int 6)) (tVar 9))) rfl scLaw.nd (pi_tup (pv 6))
            (blkOk_by (own := [("_law_body_here", 16)]) (N := lawN) (sc := defScope (tp 54)) (by decide +kernel)) (fun _ _ _ _ _ => pg_name (i := 16) scLaw.nd rfl (Or.inl rfl)) (fun _ _ _ _ _ => pts_nil) (fun _ _ _ _ _ => pe_ix ix_tup (pv 16) (pe_op op_add pe_int (pv 9)) (fun _ _ => rfl))) pa_nil)) (pv 10))
            (pe_ix ix_tup (pv 8) (pv 9) (fun _ _ => rfl)) (nomark _)) (pss_one (ps_ret pe_bl)) pss_nil)))))
        (pss_cons (ps_if (pt_not (pt_val (pe_cal cE r3 (pa_cons (pe_cal cM hr (pa_cons (pv 2) pa_nil)) (pa_cons (pv 8) pa_nil))))) (pss_one (ps_ret pe_bl)) pss_nil)
        (pss_one (ps_set (i := 2) scLaw.nd rfl (.inl rfl) (pv 6)))))))))
      (pss_one (ps_ret pe_bl)))))), ?_⟩
    -- what is built
    refine ⟨_, rfl, a0, ns, rfl, hS, fun H1 st l s1 S1 => ?_⟩
    refine ⟨_, rfl, st, l, rfl, S1, fun H2 sp bs hsp g S2 => ?_⟩
    refine ⟨_, rfl, st, l, rfl, S2, fun H3 bn n d hbn okb S3 o3 => ?_⟩
    have hsp3 := hsp.off S2 o3
    -- the names that are fixed
    obtain ⟨as, hp3, hL3⟩ := hsp3.ex
    have hz : bs.length < sizeLine := line12 g.len
    refine ⟨_, rfl, sp, rfl, ⟨_, SqT.of hp3⟩, fun D hD => ?_⟩
    refine lc_it (walk_tup (K := K) (a := sp) (xs := as.map V.ref)) (fun i H' => Same H3 H' ∧ H' D = some (.lst (((bs.take i).filter fun b => decide (b.m = 0)).map fun b => V.str b.nm))) ⟨same_upd hD, upd_same⟩ (fun i H' _ q => SqT.of (q.1 _ _ hp3)) (fun i v H4 H5 hi q y => ?_) (fun H4 q => ?_)
    · obtain ⟨rfl, hv⟩ := y
      obtain ⟨s4, h4⟩ := q
      obtain ⟨p, hp, rfl⟩ := get_of_map hv
      obtain ⟨b, hb, hpb⟩ := hL3.item hp
      have hpb4 := s4 _ _ hpb
      refine ⟨rfl, ?_⟩
      refine ⟨_, rfl, p, _, _, .int b.m, rfl, rfl, SqT.of hpb4, rfl, rfl, _, rfl, ite2 (fun e => ?_) (fun e => ?_)⟩
      · have em : b.m = 0 := V.int.inj (of_decide_eq_true e)
        refine ⟨_, rfl, p, _, _, .str b.nm, rfl, rfl, SqT.of hpb4, rfl, _, h4, ?_, fun c o ec => ?_, ?_⟩
        · rw [List.length_map]
          exact Nat.lt_of_le_of_lt (Nat.le_trans (List.length_filter_le _ _) (by rw [List.length_take]; exact Nat.min_le_right _ _)) hz
        · rw [upd_ne (ne_of_none ec hD)]
          exact s4 _ _ ec
        · rw [upd_same, List.take_add_one, hb, List.filter_append, List.map_append]
          show _ = some (HO.lst (_ ++ (([b].filter fun b => decide (b.m = 0)).map fun b => V.str b.nm)))
          rw [List.filter_cons, if_pos (decide_eq_true em)]
          rfl
      · have em : ¬ b.m = 0 := fun z => e (decide_eq_true (by rw [z]))
        refine ⟨s4, ?_⟩
        rw [h4, List.take_add_one, hb, List.filter_append, List.map_append]
        show _ = some (HO.lst (_ ++ (([b].filter fun b => decide (b.m = 0)).map fun b => V.str b.nm)))
        rw [List.filter_cons, if_neg (show ¬ decide (b.m = 0) = true from fun q => em (of_decide_eq_true q))]
        show _ = some (HO.lst (_ ++ []))
        rw [List.append_nil]
    obtain ⟨s4, h4⟩ := q
    rw [List.length_map, hL3.len, List.take_length] at h4
    refine ⟨by decide, fun e he => ?_⟩
    have s5 := s4.trans (same_upd (o := .lst [V.str ""]) he)
    have h5 := same_upd (o := .lst [V.str ""]) he _ _ h4
    have he5 : (upd H4 e (.lst [V.str ""])) e = some (.lst [V.str ""]) := upd_same
    generalize upd H4 e (.lst [V.str ""]) = H5 at s5 h5 he5 ⊢
    refine ⟨D, e, _, _, rfl, rfl, h5, he5, ?_, fun fx hfx => ?_⟩
    · rw [List.length_map]
      have h1 := List.length_filter_le (fun b : Bd => decide (b.m = 0)) bs
      have h2 := g.len
      show _ + 1 ≤ sizeLine
      exact Nat.le_trans (Nat.add_le_add_right (Nat.le_trans h1 h2) 1) (by decide)
    have efx : (((bs.filter fun b => decide (b.m = 0)).map fun b => V.str b.nm) ++ [V.str ""]) = (fixedOf bs).map V.str := by
      unfold fixedOf
      rw [List.map_append, List.map_map]
      rfl
    rw [efx]
    have s6 := s5.trans (same_upd (o := .lst ((fixedOf bs).map V.str)) hfx)
    have hfx6 : (upd H5 fx (.lst ((fixedOf bs).map V.str))) fx = some (.lst ((fixedOf bs).map V.str)) := upd_same
    have nfs : fx ≠ st := (S3.same s5).ne_new hfx
    generalize upd H5 fx (.lst ((fixedOf bs).map V.str)) = H6 at s6 hfx6 ⊢
    have S6 := S3.same s6
    have hsp6 := hsp3.same s6
    have hbn6 := s6 _ _ hbn
    -- the ticks
    refine ⟨_, rfl, st, l, 4, rfl, S6, by decide, by decide, fun H7 z z0 z1 S7 o7 => ⟨_, _, rfl, rfl, _, rfl, by omega, by omega, ?_⟩⟩
    have hsp7 := hsp6.off S6 o7
    have hbn7 := o7 _ _ hbn6 (S6.ne_tup hbn6)
    have hfx7 := o7 _ _ hfx6 nfs
    refine for_range (lo := 0) (fun i σ H' => ∃ (sp' : Addr) (bs' : List Bd) (x5 x6 x7 x8 x9 x10 x11 x12 x13 x14 x15 : Option V), σ = [some (.ref a0), some (.ref st), some (.ref sp'), some (.ref bn), some (.ref fx), x5, x6, x7, x8, x9, x10, x11, x12, x13, x14, x15, none] ∧
        SpAt H' sp' bs' ∧ GoodSp bs' ∧ bs'.map stat = bs.map stat ∧ H' bn = some (frT n d) ∧ H' fx = some (.lst ((fixedOf bs).map V.str)))
      ⟨sp, bs, _, _, _, _, _, _, _, _, _, _, _, rfl, hsp7, g, rfl, hbn7, hfx7⟩ ?_ ?_
    · rintro i σ H8 hi ⟨sp1, b1, x5, x6, x7, x8, x9, x10, x11, x12, x13, x14, x15, rfl, hsp8, g1, es, hbn8, hfx8⟩
      -- tick
      refine ⟨_, rfl, _, rfl, sp1, bn, b1, n, d, rfl, hsp8, g1, hbn8, okb, fun H9 t sp2 c b2 cs s9 ht9 hsp9 hc9 lcs R => ?_⟩
      refine ⟨t, _, rfl, SqT.of ht9, rfl, _, _, rfl, _, _, rfl, rfl, ?_⟩
      -- are contacts
      refine ⟨_, rfl, _, rfl, sp1, c, b1, cs, rfl, hsp8.same s9, g1, hc9, lcs, R.oks, R.nd, fun H10 s10 => ⟨true, rfl, iteF ?_⟩⟩
      have s810 := s9.trans s10
      obtain ⟨as1, hq, hL⟩ := (hsp8.same s810).ex
      have hz1 : b1.length < sizeLine := line12 g1.len
      -- before
      refine ⟨_, rfl, sp1, rfl, ⟨_, SqT.of hq⟩, fun D1 hD1 => ?_⟩
      refine lc_at (walk_tup (K := K) (a := sp1) (xs := as1.map V.ref)) (fun b => V.int (mom false b)) hL (fun H' s' => SqT.of (s' _ _ hq)) hD1 hz1 (fun _ => rfl) (fun j q b H' Q' _ _ hqb _ q' => ⟨_, rfl, q, _, _, .int b.px, rfl, rfl, SqT.of hqb, rfl, q' _ (Same.refl _)⟩) (fun H11 s11 hD11 => ?_)
      refine ⟨D1, b1.map (mom false), rfl, SqL.of (by rw [hD11, mom_int]), ?_⟩
      refine ⟨_, rfl, sp1, rfl, ⟨_, SqT.of (s11 _ _ hq)⟩, fun D2 hD2 => ?_⟩
      refine lc_at (walk_tup (K := K) (a := sp1) (xs := as1.map V.ref)) (fun b => V.int (mom true b)) (hL.same s11) (fun H' s' => SqT.of (s' _ _ (s11 _ _ hq))) hD2 hz1 (fun _ => rfl) (fun j q b H' Q' _ _ hqb _ q' => ⟨_, rfl, q, _, _, .int b.py, rfl, rfl, SqT.of hqb, rfl, q' _ (Same.refl _)⟩) (fun H12 s12 hD12 => ?_)
      refine ⟨D2, b1.map (mom true), rfl, SqL.of (by rw [hD12, mom_int]), ?_⟩
      refine ⟨by show 2 ≤ sizeLine; decide, fun bf hbf => ?_⟩
      have s1013 := s11.trans (s12.trans (same_upd (o := .tup [V.int (b1.map (mom false)).sum, V.int (b1.map (mom true)).sum]) hbf))
      have hbf13 : (upd H12 bf (.tup [V.int (b1.map (mom false)).sum, V.int (b1.map (mom true)).sum])) bf = some (.tup [V.int (momSum false b1), V.int (momSum true b1)]) := upd_same
      generalize upd H12 bf (.tup [V.int (b1.map (mom false)).sum, V.int (b1.map (mom true)).sum]) = H13 at s1013 hbf13 ⊢
      have s913 := s10.trans s1013
      have s813 := s9.trans s913
      have hc13 := hc9.same s913
      obtain ⟨ts, hcl, hT⟩ := hc13.ex
      have hfx13 := s813 _ _ hfx8
      have efx1 : fixedOf b1 = fixedOf bs := fixed_of_stat es
      -- each axis
      refine ⟨2, rfl, by decide, by decide, ?_⟩
      refine for_range (lo := 0) (fun i' σ H' => ∃ (y9 y10 y11 y12 y13 y14 y15 : Option V), σ = [some (.ref a0), some (.ref st), some (.ref sp1), some (.ref bn), some (.ref fx), some (.int (0 + (i : Int))), some (.ref sp2), some (.ref c), some (.ref bf), y9, y10, y11, y12, y13, y14, y15, none] ∧ Same H13 H')
        ⟨_, _, _, _, _, _, _, rfl, Same.refl _⟩ ?_ ?_
      · rintro i' σ H14 hi' ⟨y9, y10, y11, y12, y13, y14, y15, rfl, s14⟩
        obtain ⟨a, ha⟩ : ∃ a : Bool, (0 + (i' : Int)) = ax a := by
          have hi2 : i' < 2 := hi'
          have h : i' = 0 ∨ i' = 1 := by omega
          rcases h with rfl | rfl
          · exact ⟨false, rfl⟩
          · exact ⟨true, rfl⟩
        rw [ha]
        have hcl14 := s14 _ _ hcl
        have hT14 := hT.same s14
        -- the contacts
        refine ⟨_, rfl, c, rfl, ⟨_, SqL.of hcl14⟩, ?_⟩
        refine for_list (K := K) (a := c) (xs := ts.map V.ref) (fun j σ H' => ∃ (w11 w12 w13 w14 w15 : Option V), σ = [some (.ref a0), some (.ref st), some (.ref sp1), some (.ref bn), some (.ref fx), some (.int (0 + (i : Int))), some (.ref sp2), some (.ref c), some (.ref bf), some (.int (ax a)), some (.int (gvn (fixedOf bs) a (cs.take j))), w11, w12, w13, w14, w15, none] ∧ Same H14 H')
          ⟨_, _, _, _, _, rfl, Same.refl _⟩ (fun j σ H' _ ⟨_, _, _, _, _, _, s'⟩ => SqL.of (s' _ _ hcl14)) ?_ ?_
        · rintro j v σ H15 hj ⟨w11, w12, w13, w14, w15, rfl, s15⟩
          obtain ⟨p, hp, rfl⟩ := get_of_map hj
          obtain ⟨x, hx, hpx⟩ := hT14.item hp
          have hxm : x ∈ cs := List.mem_of_getElem? hx
          have okx := R.oks x hxm
          have hp15 := s15 _ _ hpx
          refine ⟨p, _, rfl, SqT.of hp15, rfl, _, _, rfl, _, _, rfl, _, _, rfl, _, _, rfl, _, _, rfl, rfl, ?_⟩
          refine ⟨_, rfl, by decide, fun e2 he2 => ?_⟩
          have s16 := s15.trans (same_upd (o := .lst [V.str "x", V.str "y"]) he2)
          have he16 : (upd H15 e2 (.lst [V.str "x", V.str "y"])) e2 = some (.lst [V.str "x", V.str "y"]) := upd_same
          generalize upd H15 e2 (.lst [V.str "x", V.str "y"]) = H16 at s16 he16 ⊢
          refine ⟨_, rfl, e2, _, _, .str (axS a), rfl, rfl, SqL.of he16, by cases a <;> rfl, rfl, _, rfl, ite2 (fun hax => ?_) (fun hax => ?_)⟩
          · have eax : x.ax = a := axS_inj (V.str.inj (of_decide_eq_true hax))
            refine ⟨_, rfl, _, rfl, fx, _, rfl, .inl (SqL.of (s16 _ _ (s14 _ _ hfx13))), rfl, strs_flat _, _, rfl, ?_⟩
            by_cases hin : x.ot ∈ fixedOf bs
            · refine iteYes (in_strs hin) ?_
              refine ⟨_, rfl, _, rfl, _, rfl, _, _, rfl, rfl, .inl (by rcases okx.sg with h | h <;> rw [h] <;> exact ⟨by decide, by decide⟩), _, _, rfl, rfl, ?_⟩
              refine ⟨some (.str (axS x.ax)), some (.int x.sg), some (.str x.nm), some (.str x.ot), some (.int x.j), ?_, s16⟩
              rw [gvn_take hx, if_pos ⟨eax, hin⟩]
              rfl
            · refine iteNo (not_in_strs hin) ?_
              refine ⟨some (.str (axS x.ax)), some (.int x.sg), some (.str x.nm), some (.str x.ot), some (.int x.j), ?_, s16⟩
              rw [gvn_take hx, if_neg (fun q => hin q.2), Int.add_zero]
              rfl
          · have eax : x.ax ≠ a := fun q => hax (by rw [q]; exact decide_eq_true rfl)
            refine iteF ?_
            refine ⟨some (.str (axS x.ax)), some (.int x.sg), some (.str x.nm), some (.str x.ot), some (.int x.j), ?_, s16⟩
            rw [gvn_take hx, if_neg (fun q => eax q.1), Int.add_zero]
            rfl
        · rintro σ H15 ⟨w11, w12, w13, w14, w15, rfl, s15⟩
          rw [List.length_map, hT.len, List.take_length]
          -- the sums
          obtain ⟨as2, hq2, hL2⟩ := (((hsp9.same s913).same s14).same s15).ex
          have hz2 : b2.length < sizeLine := line12 R.good.len
          refine ⟨_, rfl, sp2, rfl, ⟨_, SqT.of hq2⟩, fun D3 hD3 => ?_⟩
          refine lc_at (walk_tup (K := K) (a := sp2) (xs := as2.map V.ref)) (fun b => V.int (mom a b)) hL2 (fun H' s' => SqT.of (s' _ _ hq2)) hD3 hz2 (fun _ => rfl) (fun j q b H' Q' _ _ hqb _ q' => ⟨_, rfl, _, rfl, _, _, rfl, rfl, q, _, _, .int (mom a b), rfl, rfl, SqT.of hqb, at_mom a b, q' _ (Same.refl _)⟩) (fun H16 s16 hD16 => ?_)
          refine ⟨D3, b2.map (mom a), rfl, SqL.of (by rw [hD16, mom_int]), _, rfl, _, _, rfl, rfl, ?_⟩
          have hbf16 := s16 _ _ (s15 _ _ (s14 _ _ hbf13))
          refine ⟨_, rfl, _, rfl, bf, _, _, .int (momSum a b1), rfl, rfl, SqT.of hbf16, by cases a <;> rfl, rfl, _, rfl, ?_⟩
          refine iteNS ?_ ?_
          · have h := R.sum a
            rw [efx1] at h
            have h' : (b2.map (mom a)).sum + gvn (fixedOf bs) a cs = momSum a b1 := h
            show V.int ((b2.map (mom a)).sum + gvn (fixedOf bs) a cs) = V.int (momSum a b1)
            rw [h']
          · exact ⟨_, _, _, _, _, _, _, rfl, s14.trans (s15.trans s16)⟩
      · rintro σ H14 ⟨y9, y10, y11, y12, y13, y14, y15, rfl, s14⟩
        -- momentum
        refine ⟨_, rfl, sp1, b1, rfl, (hsp8.same s813).same s14, g1, fun H15 mo s15 hmo => ?_⟩
        refine ⟨_, rfl, mo, bf, _, _, rfl, hmo, s15 _ _ (s14 _ _ hbf13), fun H16 s16 => ⟨true, rfl, iteF ?_⟩⟩
        have sF : Same H9 H16 := s913.trans (s14.trans (s15.trans s16))
        refine ⟨_, rfl, sp2, b2, _, _, _, _, _, _, _, _, _, _, _, rfl, hsp9.same sF, R.good, R.stat.trans es, sF _ _ (s9 _ _ hbn8), sF _ _ (s9 _ _ hfx8)⟩
    · rintro σ H8 ⟨sp1, b1, x5, x6, x7, x8, x9, x10, x11, x12, x13, x14, x15, rfl, _⟩
      exact k H8
end
end Km
/-! What the top has left, and the end. -/
namespace Km
open PySem L2
theorem dx_mk {K : PySem.W.Frag} {h : Heap} {mg : Str → Option Value} {x : Str} {st : Stmt} {ps : List Str} {f : Addr} {od an : Option Addr} {sl : Array (Option Value)} {oc kV dc pm cd ct : Value} (X : K.In h) (G : h.Ns mainGlobals mg)
    (a : PySem.W.nsIn K mainGlobals x = some (some (.ref f))) (l : K.lookup f = some ⟨oc, od, .func (PySem.W.fnOf x x (defArgs st) (defBody st) (defScope st) .none kV dc pm an cd ct), sl⟩) (c : PySem.W.codeIn K cd x = true) (k : PySem.W.keepIn K (.ref f) = true)
    (b : ∀ (kV doc pm : Value) (an : Option Addr) (cdv ct : Value) (us : List Value), us.length = ps.length → bindArgs (PySem.W.fnOf x x (defArgs st) (defBody st) (defScope st) .none kV doc pm an cdv ct) ⟨us, []⟩ = pure (ps.zip us)) : Dx K mg x st ps :=
  ⟨f, _, fun_mk (st := st) l c k, (fun_mk (st := st) l c k).binds b, PySem.W.mg_of X G a⟩
theorem mx_mk {K : PySem.W.Frag} {C : Addr} {m qual : Str} {st : Stmt} {ps : List Str} {f : Addr} {od an : Option Addr} {sl : Array (Option Value)} {oc kV dc pm cd ct : Value}
    (a : PySem.W.findIn K (.ref C) m = some (some (.ref f))) (i : PySem.W.isFn K (.ref f) = true) (l : K.lookup f = some ⟨oc, od, .func (PySem.W.fnOf m qual (defArgs st) (defBody st) (defScope st) .none kV dc pm an cd ct), sl⟩) (c : PySem.W.codeIn K cd qual = true) (k : PySem.W.keepIn K (.ref f) = true)
    (b : ∀ (kV doc pm : Value) (an : Option Addr) (cdv ct : Value) (us : List Value), us.length = ps.length → bindArgs (PySem.W.fnOf m qual (defArgs st) (defBody st) (defScope st) .none kV doc pm an cdv ct) ⟨us, []⟩ = pure (ps.zip us)) : Mx K C m qual st ps :=
  ⟨f, _, fun_mk (st := st) l c k, (fun_mk (st := st) l c k).binds b, a, i, k⟩
theorem ct_mk {K : PySem.W.Frag} {h : Heap} {mg : Str → Option Value} {C : Addr} (X : K.In h) (G : h.Ns mainGlobals mg) (aC : PySem.W.nsIn K mainGlobals "Moving" = some (some (.ref C)))
    (pg : PySem.W.plainGet K C Str.empty = true) (hd : PySem.W.hasDictIn K C = true) (po : PySem.W.plainOver K C = true) (sa : PySem.W.findIn K (.ref C) "__setattr__" = some (some (.builtin "object.__setattr__")))
    (nB : PySem.W.findIn K (.ref C) "bodies" = some none) (nU : PySem.W.findIn K (.ref C) "bounce" = some none) (nC : PySem.W.findIn K (.ref C) "contacts" = some none) : CT K mg C :=
  ⟨⟨pg, hd, po, sa⟩, nB, nU, nC, PySem.W.mg_of X G aC⟩
theorem cs_mk {K : PySem.W.Frag} {h : Heap} {mg : Str → Option Value} {t0 t1 t2 t3 t4 t5 t6 t7 t8 : Tok} (X : K.In h) (G : h.Ns mainGlobals mg)
    (z0 : PySem.W.nsIn K mainGlobals "FARTHEST" = some (some (.int 20000 t0)))
    (z1 : PySem.W.nsIn K mainGlobals "LETTERS" = some (some (.str "abcdefghijklmnopqrstuvwxyz" t1)))
    (z2 : PySem.W.nsIn K mainGlobals "DIGITS" = some (some (.str "0123456789" t2)))
    (z3 : PySem.W.nsIn K mainGlobals "LONGEST" = some (some (.int 200 t3)))
    (z4 : PySem.W.nsIn K mainGlobals "HEAVIEST" = some (some (.int 100 t4)))
    (z5 : PySem.W.nsIn K mainGlobals "FASTEST" = some (some (.int 64 t5)))
    (z6 : PySem.W.nsIn K mainGlobals "MOST_BODIES" = some (some (.int 12 t6)))
    (z7 : PySem.W.nsIn K mainGlobals "FINEST" = some (some (.int 1000 t7)))
    (z8 : PySem.W.nsIn K mainGlobals "EDGE" = some (some (.str "" t8)))
    (zg : PySem.W.nsIn K mainGlobals "gcd" = some (some (.builtin "math.gcd"))) : Cs mg :=
  ⟨⟨_, PySem.W.mg_of X G z0⟩, ⟨_, PySem.W.mg_of X G z1⟩, ⟨_, PySem.W.mg_of X G z2⟩, ⟨_, PySem.W.mg_of X G z3⟩, ⟨_, PySem.W.mg_of X G z4⟩, ⟨_, PySem.W.mg_of X G z5⟩, ⟨_, PySem.W.mg_of X G z6⟩, ⟨_, PySem.W.mg_of X G z7⟩, ⟨_, PySem.W.mg_of X G z8⟩, PySem.W.mg_of X G zg⟩
theorem all_mk {l : PySem.W.OpenLaw} {w : World} {K : PySem.W.Frag} {h : Heap} {mg : Str → Option Value} {fa C fL : Addr} {od an : Option Addr} {sl : Array (Option Value)} {oc kV dc pm cd ct : Value} (X : K.In h) (G : h.Ns mainGlobals mg) (hfa : mg "law" = some (.ref fa))
    (aL : PySem.W.nsIn K mainGlobals "law" = some (some (.ref fL))) (lL : K.lookup fL = some ⟨oc, od, .func (PySem.W.fnOf "law" "law" (defArgs (tp 54)) (defBody (tp 54)) (defScope (tp 54)) .none kV dc pm an cd ct), sl⟩) (cL : PySem.W.codeIn K cd "law" = true) (kL : PySem.W.keepIn K (.ref fL) = true)
    (T : CT K mg C) (mk : PySem.W.makesIn K C = true) (kc : PySem.W.keepIn K (.ref C) = true) (B : Bt mg) (Z : Cs mg)
    (d0 : Dx K mg "is_whole" (tp 5) ["value"])
    (d1 : Dx K mg "is_between" (tp 6) ["value", "low", "high"])
    (d2 : Dx K mg "is_fraction" (tp 7) ["value"])
    (d3 : Dx K mg "is_coordinate" (tp 10) ["value"])
    (d4 : Dx K mg "is_box" (tp 11) ["value"])
    (d5 : Dx K mg "do_overlap" (tp 12) ["first", "second"])
    (d6 : Dx K mg "moved_by" (tp 13) ["box", "dx", "dy"])
    (d7 : Dx K mg "is_name" (tp 17) ["value"])
    (d8 : Dx K mg "raw_box" (tp 22) ["body"])
    (d9 : Dx K mg "is_body" (tp 23) ["value"])
    (d10 : Dx K mg "is_space" (tp 28) ["value"])
    (d11 : Dx K mg "check_space" (tp 29) ["value"])
    (d12 : Dx K mg "check_bounce" (tp 30) ["value"])
    (d13 : Dx K mg "limited" (tp 31) ["wish"])
    (d14 : Dx K mg "passed" (tp 32) ["bounce", "u", "mass", "v", "other"])
    (d15 : Dx K mg "tick" (tp 34) ["space", "bounce"])
    (d16 : Dx K mg "momentum" (tp 35) ["space"])
    (d17 : Dx K mg "_law_stream" (tp 37) ["_law_script"])
    (d18 : Dx K mg "_law_next" (tp 38) ["_law_stream_here", "_law_many"])
    (d19 : Dx K mg "_law_is_integer" (tp 39) ["_law_actual"])
    (d20 : Dx K mg "_law_equal" (tp 46) ["_law_actual", "_law_due"])
    (d21 : Dx K mg "_law_body" (tp 47) ["_law_stream_here", "_law_name", "_law_base"])
    (d22 : Dx K mg "_law_box" (tp 48) ["_law_body_here"])
    (d23 : Dx K mg "_law_overlap" (tp 49) ["_law_a", "_law_b"])
    (d24 : Dx K mg "_law_in_world" (tp 50) ["_law_box_here"])
    (d25 : Dx K mg "_law_space" (tp 51) ["_law_stream_here", "_law_most"])
    (d26 : Dx K mg "_law_bounce" (tp 52) ["_law_stream_here"])
    (d27 : Dx K mg "_law_are_contacts" (tp 53) ["_law_space_here", "_law_contacts"])
    (m0 : Mx K C "__init__" "Moving.__init__" sInit ["self", "space", "bounce"])
    (m1 : Mx K C "wishes" "Moving.wishes" sWish ["self", "axis"])
    (m2 : Mx K C "blocker" "Moving.blocker" sBlock ["self", "at", "box"])
    (m3 : Mx K C "meet" "Moving.meet" sMeet ["self", "axis", "sign", "at", "other"])
    (m4 : Mx K C "go" "Moving.go" sGo ["self", "axis", "wishes"]) :
    ∃ fd : FuncData, (∀ (s : Shared) (v : Value), BindsTo s fd ⟨[v], []⟩ [("_law_script", v)]) ∧ ∀ base : Heap, K.In base → base.Ns mainGlobals mg → FnOk l.prog w K mg base CX0 9 fa fd ["_law_script"] (spLaw K) := by
  have e := hfa.symm.trans (PySem.W.mg_of X G aL)
  cases e
  refine ⟨PySem.W.fnOf "law" "law" (defArgs (tp 54)) (defBody (tp 54)) (defScope (tp 54)) .none kV dc pm an cd ct, fun s v => .of_eq rfl, fun base _ _ => ?_⟩
  obtain ⟨fI, fdI, FI, bI, mI⟩ := m0.ex
  obtain ⟨fW, fdW, FW, bW, mW⟩ := m1.ex
  obtain ⟨fB, fdB, FB, bB, mB⟩ := m2.ex
  obtain ⟨fM, fdM, FM, bM, mM⟩ := m3.ex
  obtain ⟨fG, fdG, FG, bG, mG⟩ := m4.ex
  have cW := ok_whole (P := l.prog) (w := w) (base := base) d0 B
  have cT := ok_between (P := l.prog) (w := w) (base := base) d1 cW
  have cF := ok_fraction (P := l.prog) (w := w) (base := base) d2 B Z cW
  have cC := ok_coord (P := l.prog) (w := w) (base := base) d3 Z cT
  have cX := ok_isbox (P := l.prog) (w := w) (base := base) d4 B cC
  have cO := ok_overlap (P := l.prog) (w := w) (base := base) d5 
  have cV := ok_moved (P := l.prog) (w := w) (base := base) d6 
  have cN := ok_name (P := l.prog) (w := w) (base := base) d7 B Z
  have cR := ok_raw (P := l.prog) (w := w) (base := base) d8 
  have cBd := ok_isbody (P := l.prog) (w := w) (base := base) d9 B Z cW cT cC cX cN cR
  have cSp := ok_isspace (P := l.prog) (w := w) (base := base) d10 B Z cO cR cBd
  have cK := ok_ckspace (P := l.prog) (w := w) (base := base) d11 cSp
  have cKB := ok_ckbounce (P := l.prog) (w := w) (base := base) d12 Z cF
  have cLm := ok_limited (P := l.prog) (w := w) (base := base) d13 B Z
  have cP := ok_passed (P := l.prog) (w := w) (base := base) d14 
  have cMo := ok_momentum (P := l.prog) (w := w) (base := base) d16 B cK
  have GI := ok_init (P := l.prog) (w := w) (base := base) FI T B
  have GW := ok_wish (P := l.prog) (w := w) (base := base) FW T cLm
  have GB := ok_block (P := l.prog) (w := w) (base := base) FB T B cO cR cC
  have GM := ok_meet (P := l.prog) (w := w) (base := base) FM T Z cP
  have GG := ok_go (P := l.prog) (w := w) (base := base) FG T B cR cV GB bB mB GM bM mM
  have cTk := ok_tick (P := l.prog) (w := w) (base := base) d15 T B cK cKB ⟨mk, mI.at_, mI.fn, kc⟩ GI bI GW bW mW GG bG mG
  have cSt := ok_stream (P := l.prog) (w := w) (base := base) d17 B
  have cNx := ok_next (P := l.prog) (w := w) (base := base) d18 B
  have cIn := ok_int (P := l.prog) (w := w) (base := base) d19 B
  have cEI := ok_eqI (P := l.prog) (w := w) (base := base) d20 B cIn
  have cE := ok_eqT (P := l.prog) (w := w) (base := base) d20 B cEI
  have cY := ok_lbody (P := l.prog) (w := w) (base := base) d21 cNx
  have cLB := ok_lbox (P := l.prog) (w := w) (base := base) d22 
  have cLO := ok_lov (P := l.prog) (w := w) (base := base) d23 
  have cLI := ok_lin (P := l.prog) (w := w) (base := base) d24 B
  have cLS := ok_lsp (P := l.prog) (w := w) (base := base) d25 B cNx cY cLB cLO cLI
  have cBn := ok_lbn (P := l.prog) (w := w) (base := base) d26 cNx
  have cA := ok_are (P := l.prog) (w := w) (base := base) d27 B cIn
  exact ok_law (P := l.prog) (w := w) (base := base) (fun_mk (st := tp 54) lL cL kL) B cSt cLS cBn cNx cTk cA cE cMo

theorem walk {l : PySem.W.OpenLaw} {q : Program} {loose : List Str} {XP : (Str → Option Value) → Heap → Prop} {YP : World → Heap → Prop} {d : DefRec} {K : Params → PySem.W.Frag} (hn : l.most = some 63) (hdf : d.params.defaults = [])
    (hY : ∀ (w : World) (h : Heap), YP w h → (K w.params).In h)
    (F : ∀ (w : World) (mg : Str → Option Value) (fa : Addr) (h : Heap), (K w.params).In h → h.Ns mainGlobals mg → mg d.name = some (.ref fa) →
      ∃ fd : FuncData, (∀ (s : Shared) (u : Value), BindsTo s fd ⟨[u], []⟩ [("_law_script", u)]) ∧ ∀ base : Heap, (K w.params).In base → base.Ns mainGlobals mg → FnOk l.prog w (K w.params) mg base CX0 9 fa fd ["_law_script"] (spLaw (K w.params))) :
    PySem.W.WalkO q loose XP YP l.row.toRowW d [] (fun f vs => PySem.call f vs) :=
  L2.walk_of (n := 63) (k := 9) (x := "_law_script") (CX := fun _ => CX0) (sp := fun w => spLaw (K w.params)) hn (by decide) hdf ⟨rfl, by decide, by decide⟩ hY F (fun _ _ a ns hl _ hS => ⟨a, ns, rfl, hS, hl, fun _ => rfl⟩) fun _ _ _ _ _ z => z
end Km
open PySem PySem.W PyProof.Rows
set_option maxRecDepth 100000 in
set_option maxHeartbeats 0 in
theorem PySem.Challenge.cw_alikeplay_k15_whole_momentum_holds : PySem.Challenge.rw_alikeplay_k15_whole_momentum.Holds := by
  w_on; o_law; k_head; (case hw => w_witness2)
  k_fill
  refine Km.walk (l := PySem.Challenge.rw_alikeplay_k15_whole_momentum) rfl rfl (fun w h Y => PySem.W.kIn_of Y) ?F
  case F =>
    intro w mg fa h KX G hmg
    refine' Km.all_mk KX G hmg ?aL ?lL ?cL ?kL ?tt ?mk ?kc ?bb ?zz ?d0 ?d1 ?d2 ?d3 ?d4 ?d5 ?d6 ?d7 ?d8 ?d9 ?d10 ?d11 ?d12 ?d13 ?d14 ?d15 ?d16 ?d17 ?d18 ?d19 ?d20 ?d21 ?d22 ?d23 ?d24 ?d25 ?d26 ?d27 ?m0 ?m1 ?m2 ?m3 ?m4
    (case aL => k_is)
    (case lL => k_is)
    (case cL => k_is)
    (case kL => k_is)
    (case tt => refine' Km.ct_mk KX G ?aC ?pg ?hd ?po ?sa ?nB ?nU ?nC; (case aC => k_is); (case pg => k_is); (case hd => k_is); (case po => k_is); (case sa => k_is); (case nB => k_is); (case nU => k_is); (case nC => k_is))
    (case mk => k_is)
    (case kc => k_is)
    (case bb => refine' ⟨PySem.W.mg_none_of KX G ?b0, PySem.W.mg_none_of KX G ?b1, PySem.W.mg_none_of KX G ?b2, PySem.W.mg_none_of KX G ?b3, PySem.W.mg_none_of KX G ?b4, PySem.W.mg_none_of KX G ?b5, PySem.W.mg_none_of KX G ?b6, PySem.W.mg_none_of KX G ?b7, PySem.W.mg_none_of KX G ?b8, PySem.W.mg_none_of KX G ?b9, PySem.W.mg_none_of KX G ?b10, PySem.W.mg_none_of KX G ?b11, PySem.W.mg_none_of KX G ?b12, PySem.W.mg_none_of KX G ?b13, PySem.W.mg_none_of KX G ?b14⟩; (case b0 => k_is); (case b1 => k_is); (case b2 => k_is); (case b3 => k_is); (case b4 => k_is); (case b5 => k_is); (case b6 => k_is); (case b7 => k_is); (case b8 => k_is); (case b9 => k_is); (case b10 => k_is); (case b11 => k_is); (case b12 => k_is); (case b13 => k_is); (case b14 => k_is))
    (case zz => refine' Km.cs_mk KX G ?z0 ?z1 ?z2 ?z3 ?z4 ?z5 ?z6 ?z7 ?z8 ?zg; (case z0 => k_is); (case z1 => k_is); (case z2 => k_is); (case z3 => k_is); (case z4 => k_is); (case z5 => k_is); (case z6 => k_is); (case z7 => k_is); (case z8 => k_is); (case zg => k_is))
    (case d0 => refine' Km.dx_mk KX G ?a ?l ?c ?k (fun _ _ _ _ _ _ us hl => match us, hl with | [_], _ => rfl); (case a => k_is); (case l => k_is); (case c => k_is); (case k => k_is))
    (case d1 => refine' Km.dx_mk KX G ?a ?l ?c ?k (fun _ _ _ _ _ _ us hl => match us, hl with | [_, _, _], _ => rfl); (case a => k_is); (case l => k_is); (case c => k_is); (case k => k_is))
    (case d2 => refine' Km.dx_mk KX G ?a ?l ?c ?k (fun _ _ _ _ _ _ us hl => match us, hl with | [_], _ => rfl); (case a => k_is); (case l => k_is); (case c => k_is); (case k => k_is))
    (case d3 => refine' Km.dx_mk KX G ?a ?l ?c ?k (fun _ _ _ _ _ _ us hl => match us, hl with | [_], _ => rfl); (case a => k_is); (case l => k_is); (case c => k_is); (case k => k_is))
    (case d4 => refine' Km.dx_mk KX G ?a ?l ?c ?k (fun _ _ _ _ _ _ us hl => match us, hl with | [_], _ => rfl); (case a => k_is); (case l => k_is); (case c => k_is); (case k => k_is))
    (case d5 => refine' Km.dx_mk KX G ?a ?l ?c ?k (fun _ _ _ _ _ _ us hl => match us, hl with | [_, _], _ => rfl); (case a => k_is); (case l => k_is); (case c => k_is); (case k => k_is))
    (case d6 => refine' Km.dx_mk KX G ?a ?l ?c ?k (fun _ _ _ _ _ _ us hl => match us, hl with | [_, _, _], _ => rfl); (case a => k_is); (case l => k_is); (case c => k_is); (case k => k_is))
    (case d7 => refine' Km.dx_mk KX G ?a ?l ?c ?k (fun _ _ _ _ _ _ us hl => match us, hl with | [_], _ => rfl); (case a => k_is); (case l => k_is); (case c => k_is); (case k => k_is))
    (case d8 => refine' Km.dx_mk KX G ?a ?l ?c ?k (fun _ _ _ _ _ _ us hl => match us, hl with | [_], _ => rfl); (case a => k_is); (case l => k_is); (case c => k_is); (case k => k_is))
    (case d9 => refine' Km.dx_mk KX G ?a ?l ?c ?k (fun _ _ _ _ _ _ us hl => match us, hl with | [_], _ => rfl); (case a => k_is); (case l => k_is); (case c => k_is); (case k => k_is))
    (case d10 => refine' Km.dx_mk KX G ?a ?l ?c ?k (fun _ _ _ _ _ _ us hl => match us, hl with | [_], _ => rfl); (case a => k_is); (case l => k_is); (case c => k_is); (case k => k_is))
    (case d11 => refine' Km.dx_mk KX G ?a ?l ?c ?k (fun _ _ _ _ _ _ us hl => match us, hl with | [_], _ => rfl); (case a => k_is); (case l => k_is); (case c => k_is); (case k => k_is))
    (case d12 => refine' Km.dx_mk KX G ?a ?l ?c ?k (fun _ _ _ _ _ _ us hl => match us, hl with | [_], _ => rfl); (case a => k_is); (case l => k_is); (case c => k_is); (case k => k_is))
    (case d13 => refine' Km.dx_mk KX G ?a ?l ?c ?k (fun _ _ _ _ _ _ us hl => match us, hl with | [_], _ => rfl); (case a => k_is); (case l => k_is); (case c => k_is); (case k => k_is))
    (case d14 => refine' Km.dx_mk KX G ?a ?l ?c ?k (fun _ _ _ _ _ _ us hl => match us, hl with | [_, _, _, _, _], _ => rfl); (case a => k_is); (case l => k_is); (case c => k_is); (case k => k_is))
    (case d15 => refine' Km.dx_mk KX G ?a ?l ?c ?k (fun _ _ _ _ _ _ us hl => match us, hl with | [_, _], _ => rfl); (case a => k_is); (case l => k_is); (case c => k_is); (case k => k_is))
    (case d16 => refine' Km.dx_mk KX G ?a ?l ?c ?k (fun _ _ _ _ _ _ us hl => match us, hl with | [_], _ => rfl); (case a => k_is); (case l => k_is); (case c => k_is); (case k => k_is))
    (case d17 => refine' Km.dx_mk KX G ?a ?l ?c ?k (fun _ _ _ _ _ _ us hl => match us, hl with | [_], _ => rfl); (case a => k_is); (case l => k_is); (case c => k_is); (case k => k_is))
    (case d18 => refine' Km.dx_mk KX G ?a ?l ?c ?k (fun _ _ _ _ _ _ us hl => match us, hl with | [_, _], _ => rfl); (case a => k_is); (case l => k_is); (case c => k_is); (case k => k_is))
    (case d19 => refine' Km.dx_mk KX G ?a ?l ?c ?k (fun _ _ _ _ _ _ us hl => match us, hl with | [_], _ => rfl); (case a => k_is); (case l => k_is); (case c => k_is); (case k => k_is))
    (case d20 => refine' Km.dx_mk KX G ?a ?l ?c ?k (fun _ _ _ _ _ _ us hl => match us, hl with | [_, _], _ => rfl); (case a => k_is); (case l => k_is); (case c => k_is); (case k => k_is))
    (case d21 => refine' Km.dx_mk KX G ?a ?l ?c ?k (fun _ _ _ _ _ _ us hl => match us, hl with | [_, _, _], _ => rfl); (case a => k_is); (case l => k_is); (case c => k_is); (case k => k_is))
    (case d22 => refine' Km.dx_mk KX G ?a ?l ?c ?k (fun _ _ _ _ _ _ us hl => match us, hl with | [_], _ => rfl); (case a => k_is); (case l => k_is); (case c => k_is); (case k => k_is))
    (case d23 => refine' Km.dx_mk KX G ?a ?l ?c ?k (fun _ _ _ _ _ _ us hl => match us, hl with | [_, _], _ => rfl); (case a => k_is); (case l => k_is); (case c => k_is); (case k => k_is))
    (case d24 => refine' Km.dx_mk KX G ?a ?l ?c ?k (fun _ _ _ _ _ _ us hl => match us, hl with | [_], _ => rfl); (case a => k_is); (case l => k_is); (case c => k_is); (case k => k_is))
    (case d25 => refine' Km.dx_mk KX G ?a ?l ?c ?k (fun _ _ _ _ _ _ us hl => match us, hl with | [_, _], _ => rfl); (case a => k_is); (case l => k_is); (case c => k_is); (case k => k_is))
    (case d26 => refine' Km.dx_mk KX G ?a ?l ?c ?k (fun _ _ _ _ _ _ us hl => match us, hl with | [_], _ => rfl); (case a => k_is); (case l => k_is); (case c => k_is); (case k => k_is))
    (case d27 => refine' Km.dx_mk KX G ?a ?l ?c ?k (fun _ _ _ _ _ _ us hl => match us, hl with | [_, _], _ => rfl); (case a => k_is); (case l => k_is); (case c => k_is); (case k => k_is))
    (case m0 => refine' Km.mx_mk ?a ?i ?l ?c ?k (fun _ _ _ _ _ _ us hl => match us, hl with | [_, _, _], _ => rfl); (case a => k_is); (case i => k_is); (case l => k_is); (case c => k_is); (case k => k_is))
    (case m1 => refine' Km.mx_mk ?a ?i ?l ?c ?k (fun _ _ _ _ _ _ us hl => match us, hl with | [_, _], _ => rfl); (case a => k_is); (case i => k_is); (case l => k_is); (case c => k_is); (case k => k_is))
    (case m2 => refine' Km.mx_mk ?a ?i ?l ?c ?k (fun _ _ _ _ _ _ us hl => match us, hl with | [_, _, _], _ => rfl); (case a => k_is); (case i => k_is); (case l => k_is); (case c => k_is); (case k => k_is))
    (case m3 => refine' Km.mx_mk ?a ?i ?l ?c ?k (fun _ _ _ _ _ _ us hl => match us, hl with | [_, _, _, _, _], _ => rfl); (case a => k_is); (case i => k_is); (case l => k_is); (case c => k_is); (case k => k_is))
    (case m4 => refine' Km.mx_mk ?a ?i ?l ?c ?k (fun _ _ _ _ _ _ us hl => match us, hl with | [_, _, _], _ => rfl); (case a => k_is); (case i => k_is); (case l => k_is); (case c => k_is); (case k => k_is))
