import PyProof.Rows.All
import Wide.All
import OpenK.AllK
import Wide.FinOn
import HandS.ForMost
import HandS.ForExc
import HandS.Conv
import HandS.Style
import HandS.IsInst
import HandS.TupAny
import HandS.Wide
import HandS.RaiseMore
import HandS.Flow
import HandS.ExcInit
import HandS.ExcField
import HandS.CallSlots
import HandS.SortInts
import KE.KExcSuper
import KE.GoesEnum
import PySem.Challenge.RW_batchnumbers_k40_whole_far_counts
set_option Elab.async false
set_option linter.all false
set_option maxRecDepth 100000
set_option maxHeartbeats 4000000
namespace BN
/-! ## 1. a small theory of groups -/
class Grp (G : Type) where
  mul : G → G → G
  one : G
  inv : G → G
  assoc : ∀ a b c : G, mul (mul a b) c = mul a (mul b c)
  one_mul : ∀ a : G, mul one a = a
  mul_one : ∀ a : G, mul a one = a
  inv_mul : ∀ a : G, mul (inv a) a = one
  mul_inv : ∀ a : G, mul a (inv a) = one
section
variable {G : Type} [Grp G]
def one' : G := Grp.one
theorem cancel_r {a b c : G} (h : Grp.mul a c = Grp.mul b c) : a = b := by
  have e : Grp.mul (Grp.mul a c) (Grp.inv c) = Grp.mul (Grp.mul b c) (Grp.inv c) := by rw [h]
  rw [Grp.assoc, Grp.assoc, Grp.mul_inv, Grp.mul_one, Grp.mul_one] at e
  exact e
theorem cancel_l {a b c : G} (h : Grp.mul c a = Grp.mul c b) : a = b := by
  have e : Grp.mul (Grp.inv c) (Grp.mul c a) = Grp.mul (Grp.inv c) (Grp.mul c b) := by rw [h]
  rw [← Grp.assoc, ← Grp.assoc, Grp.inv_mul, Grp.one_mul, Grp.one_mul] at e
  exact e
/-- the power by a count from 0 on -/
def np (x : G) : Nat → G
  | 0 => Grp.one
  | k + 1 => Grp.mul (np x k) x
theorem np_add (x : G) (a : Nat) : ∀ b : Nat, np x (a + b) = Grp.mul (np x a) (np x b)
  | 0 => (Grp.mul_one _).symm
  | b + 1 => by
    show Grp.mul (np x (a + b)) x = Grp.mul (np x a) (Grp.mul (np x b) x)
    rw [np_add x a b, Grp.assoc]
theorem np_one (x : G) : np x 1 = x := Grp.one_mul x
theorem np_succ' (x : G) (k : Nat) : np x (k + 1) = Grp.mul x (np x k) := by
  rw [Nat.add_comm, np_add, np_one]
theorem np_mul (x : G) (a : Nat) : ∀ b : Nat, np x (a * b) = np (np x a) b
  | 0 => rfl
  | b + 1 => by
    rw [Nat.mul_succ, np_add, np_mul x a b]
    rfl
theorem np_of_one : ∀ k : Nat, np (Grp.one : G) k = Grp.one
  | 0 => rfl
  | k + 1 => by
    show Grp.mul (np Grp.one k) Grp.one = Grp.one
    rw [np_of_one k, Grp.mul_one]
/-- commuting -/
def Com (a b : G) : Prop := Grp.mul a b = Grp.mul b a
theorem Com.symm {a b : G} (h : Com a b) : Com b a := Eq.symm h
theorem Com.mul {a b c : G} (h : Com a c) (k : Com b c) : Com (Grp.mul a b) c := by
  show Grp.mul (Grp.mul a b) c = Grp.mul c (Grp.mul a b)
  rw [Grp.assoc, show Grp.mul b c = Grp.mul c b from k, ← Grp.assoc, show Grp.mul a c = Grp.mul c a from h, Grp.assoc]
theorem Com.one (a : G) : Com Grp.one a := by
  show Grp.mul Grp.one a = Grp.mul a Grp.one
  rw [Grp.one_mul, Grp.mul_one]
theorem Com.np {a c : G} (h : Com a c) : ∀ k : Nat, Com (np a k) c
  | 0 => Com.one c
  | k + 1 => (Com.np h k).mul h
theorem Com.inv {a c : G} (h : Com a c) : Com (Grp.inv a) c := by
  apply cancel_l (c := a)
  show Grp.mul a (Grp.mul (Grp.inv a) c) = Grp.mul a (Grp.mul c (Grp.inv a))
  rw [← Grp.assoc, Grp.mul_inv, Grp.one_mul, ← Grp.assoc, show Grp.mul a c = Grp.mul c a from h, Grp.assoc, Grp.mul_inv, Grp.mul_one]
/-- the power by any count -/
def zp (x : G) (i : Int) : G := if i < 0 then np (Grp.inv x) (-i).toNat else np x i.toNat
theorem zp_nat (x : G) (k : Nat) : zp x (k : Int) = np x k := by
  unfold zp
  rw [if_neg (by omega)]
  rfl
theorem zp_neg (x : G) (k : Nat) : zp x (-(k : Int)) = np (Grp.inv x) k := by
  unfold zp
  by_cases h : k = 0
  · subst h
    rfl
  · rw [if_pos (by omega)]
    congr 1
    omega
theorem zp_zero (x : G) : zp x 0 = Grp.one := rfl
theorem np_inv (x : G) : ∀ k : Nat, Grp.mul (np (Grp.inv x) k) (np x k) = Grp.one
  | 0 => Grp.one_mul _
  | k + 1 => by
    rw [np_succ' x k]
    show Grp.mul (Grp.mul (np (Grp.inv x) k) (Grp.inv x)) (Grp.mul x (np x k)) = Grp.one
    rw [Grp.assoc, ← Grp.assoc (Grp.inv x) x, Grp.inv_mul, Grp.one_mul, np_inv x k]
theorem np_inv' (x : G) : ∀ k : Nat, Grp.mul (np x k) (np (Grp.inv x) k) = Grp.one
  | 0 => Grp.one_mul _
  | k + 1 => by
    rw [np_succ' (Grp.inv x) k]
    show Grp.mul (Grp.mul (np x k) x) (Grp.mul (Grp.inv x) (np (Grp.inv x) k)) = Grp.one
    rw [Grp.assoc, ← Grp.assoc x (Grp.inv x), Grp.mul_inv, Grp.one_mul, np_inv' x k]
/-- one more -/
theorem zp_succ (x : G) (i : Int) : zp x (i + 1) = Grp.mul (zp x i) x := by
  by_cases h : 0 ≤ i
  · obtain ⟨k, rfl⟩ : ∃ k : Nat, i = k := ⟨i.toNat, by omega⟩
    rw [show (k : Int) + 1 = ((k + 1 : Nat) : Int) from rfl, zp_nat, zp_nat]
    rfl
  · obtain ⟨k, rfl⟩ : ∃ k : Nat, i = -((k + 1 : Nat) : Int) := ⟨(-i - 1).toNat, by omega⟩
    rw [show -((k + 1 : Nat) : Int) + 1 = -(k : Int) by omega, zp_neg, zp_neg]
    show np (Grp.inv x) k = Grp.mul (Grp.mul (np (Grp.inv x) k) (Grp.inv x)) x
    rw [Grp.assoc, Grp.inv_mul, Grp.mul_one]
theorem zp_pred (x : G) (i : Int) : zp x (i - 1) = Grp.mul (zp x i) (Grp.inv x) := by
  have e := zp_succ x (i - 1)
  rw [show i - 1 + 1 = i by omega] at e
  rw [e, Grp.assoc, Grp.mul_inv, Grp.mul_one]
theorem zp_add_nat (x : G) (i : Int) : ∀ k : Nat, zp x (i + k) = Grp.mul (zp x i) (zp x k)
  | 0 => by
    rw [show i + ((0 : Nat) : Int) = i by omega, show ((0 : Nat) : Int) = 0 from rfl, zp_zero, Grp.mul_one]
  | k + 1 => by
    rw [show i + ((k + 1 : Nat) : Int) = (i + k) + 1 by omega, zp_succ, zp_add_nat x i k, show ((k + 1 : Nat) : Int) = (k : Int) + 1 from rfl, zp_succ, Grp.assoc]
theorem Com.zp {a c : G} (h : Com a c) (i : Int) : Com (zp a i) c := by
  unfold BN.zp
  split
  · exact (h.inv).np _
  · exact h.np _
/-- a count suits -/
def Su (x y : G) (i : Int) : Prop := zp (Grp.mul x y) i = Grp.mul (zp x i) (zp y i)
/-- it does, and the power of the one changes places with the other -/
def Rd (x y : G) (d : Nat) : Prop := Su x y d ∧ Com (zp x d) y
theorem Su.zero (x y : G) : Su x y 0 := by
  show Grp.one = Grp.mul Grp.one Grp.one
  rw [Grp.one_mul]
theorem su_shift {x y : G} {d : Nat} (h : Rd x y d) (i : Int) : Su x y (i + d) ↔ Su x y i := by
  obtain ⟨h1, h2⟩ := h
  have c : Com (zp y i) (zp x (d : Int)) := (h2.symm.zp i)
  have e : Grp.mul (zp x (i + d)) (zp y (i + d)) = Grp.mul (Grp.mul (zp x i) (zp y i)) (Grp.mul (zp x (d : Int)) (zp y (d : Int))) := by
    rw [zp_add_nat, zp_add_nat, Grp.assoc, ← Grp.assoc (zp x (d : Int)), show Grp.mul (zp x (d : Int)) (zp y i) = Grp.mul (zp y i) (zp x (d : Int)) from c.symm, Grp.assoc, Grp.assoc]
  unfold Su
  rw [e, zp_add_nat, show zp (Grp.mul x y) (d : Int) = Grp.mul (zp x (d : Int)) (zp y (d : Int)) from h1]
  constructor
  · intro q
    exact cancel_r q
  · intro q
    rw [q]
/-- all powers are idle -/
def Idle (x y : G) (m : Nat) : Prop := np (Grp.mul x y) m = Grp.one ∧ np x m = Grp.one ∧ np y m = Grp.one
theorem Idle.rd {x y : G} {m : Nat} (h : Idle x y m) : Rd x y m := by
  obtain ⟨h1, h2, h3⟩ := h
  refine ⟨?_, ?_⟩
  · show zp _ _ = _
    rw [zp_nat, zp_nat, zp_nat, h1, h2, h3, Grp.one_mul]
  · rw [zp_nat, h2]
    exact Com.one y
/-- what a thing's order is -/
def IsOrd (x : G) (k : Nat) : Prop := 1 ≤ k ∧ np x k = Grp.one ∧ ∀ m : Nat, np x m = Grp.one → k ∣ m
theorem IsOrd.uniq {x : G} {j k : Nat} (a : IsOrd x j) (b : IsOrd x k) : j = k := Nat.dvd_antisymm (a.2.2 _ b.2.1) (b.2.2 _ a.2.1)
open Classical in
noncomputable def ord (x : G) : Nat := if h : ∃ k, IsOrd x k then Classical.choose h else 0
theorem IsOrd.eq {x : G} {k : Nat} (a : IsOrd x k) : ord x = k := by
  have h : ∃ k, IsOrd x k := ⟨k, a⟩
  unfold ord
  rw [dif_pos h]
  exact (Classical.choose_spec h).uniq a
theorem np_dvd {x : G} {k m : Nat} (h : np x k = Grp.one) (d : k ∣ m) : np x m = Grp.one := by
  obtain ⟨q, rfl⟩ := d
  rw [np_mul, h, np_of_one]
end
/-! ## 2. changes: lists of numbers -/
def P (n : Nat) (l : List Nat) : Prop := l.Perm (List.range n)
def Pm (n : Nat) : Type := { l : List Nat // P n l }
theorem P.len {n : Nat} {l : List Nat} (h : P n l) : l.length = n := by
  rw [List.Perm.length_eq h, List.length_range]
theorem P.lt {n : Nat} {l : List Nat} (h : P n l) {i : Nat} (hi : i ∈ l) : i < n := List.mem_range.mp ((List.Perm.mem_iff h).mp hi)
theorem P.mem {n : Nat} {l : List Nat} (h : P n l) {i : Nat} (hi : i < n) : i ∈ l := (List.Perm.mem_iff h).mpr (List.mem_range.mpr hi)
theorem P.nodup {n : Nat} {l : List Nat} (h : P n l) : l.Nodup := (List.Perm.nodup_iff h).mpr List.nodup_range
def aft (p q : List Nat) : List Nat := p.map fun i => q.getD i 0
def und (p : List Nat) : List Nat := (List.range p.length).map fun j => p.idxOf j
theorem map_getD_range : ∀ (l : List Nat), (List.range l.length).map (fun i => l.getD i 0) = l := by
  intro l
  apply List.ext_getElem
  · simp
  · intro i h1 h2
    simp
    rw [List.getElem?_eq_getElem h2]
    rfl
theorem P.aft {n : Nat} {p q : List Nat} (hp : P n p) (hq : P n q) : P n (aft p q) := by
  have e : (List.range n).map (fun i => q.getD i 0) = q := by
    have := map_getD_range q
    rwa [hq.len] at this
  have a : (BN.aft p q).Perm ((List.range n).map (fun i => q.getD i 0)) := List.Perm.map _ hp
  rw [e] at a
  exact a.trans hq
theorem idxOf_getElem {l : List Nat} (hn : l.Nodup) {i : Nat} (hi : i < l.length) : l.idxOf l[i] = i := by
  have h := List.idxOf_lt_length_of_mem (List.getElem_mem hi)
  have e : l[l.idxOf l[i]] = l[i] := List.getElem_idxOf h
  exact (List.getElem_inj hn).mp e
theorem P.und {n : Nat} {p : List Nat} (hp : P n p) : P n (und p) := by
  have e : p.map (fun j => p.idxOf j) = List.range n := by
    apply List.ext_getElem
    · simp [hp.len]
    · intro i h1 h2
      simp only [List.getElem_map, List.getElem_range]
      exact idxOf_getElem hp.nodup _
  have a : (p.map (fun j => p.idxOf j)).Perm ((List.range n).map fun j => p.idxOf j) := List.Perm.map _ hp
  rw [e] at a
  unfold BN.und
  rw [hp.len]
  exact a.symm
theorem aft_get {p q : List Nat} {i : Nat} (hi : i < p.length) : (aft p q).getD i 0 = q.getD (p.getD i 0) 0 := by
  unfold aft
  rw [List.getD_eq_getElem?_getD, List.getElem?_map, List.getElem?_eq_getElem hi]
  simp [List.getElem?_eq_getElem hi]
theorem ext_getD {n : Nat} {p q : List Nat} (hp : p.length = n) (hq : q.length = n) (h : ∀ i, i < n → p.getD i 0 = q.getD i 0) : p = q := by
  apply List.ext_getElem (by rw [hp, hq])
  intro i h1 h2
  have e := h i (by omega)
  simpa [List.getElem?_eq_getElem h1, List.getElem?_eq_getElem h2] using e
theorem aft_len (p q : List Nat) : (aft p q).length = p.length := by
  unfold aft
  rw [List.length_map]
theorem P.getD_lt {n : Nat} {l : List Nat} (h : P n l) {i : Nat} (hi : i < n) : l.getD i 0 < n := by
  have hi' : i < l.length := by rw [h.len]; exact hi
  rw [List.getD_eq_getElem?_getD, List.getElem?_eq_getElem hi']
  exact h.lt (List.getElem_mem hi')
theorem P.inj {n : Nat} {l : List Nat} (h : P n l) {i j : Nat} (hi : i < n) (hj : j < n) (e : l.getD i 0 = l.getD j 0) : i = j := by
  have hi' : i < l.length := by rw [h.len]; exact hi
  have hj' : j < l.length := by rw [h.len]; exact hj
  rw [List.getD_eq_getElem?_getD, List.getD_eq_getElem?_getD, List.getElem?_eq_getElem hi', List.getElem?_eq_getElem hj'] at e
  exact (List.getElem_inj h.nodup).mp e
theorem P.surj {n : Nat} {l : List Nat} (h : P n l) {j : Nat} (hj : j < n) : ∃ i, i < n ∧ l.getD i 0 = j := by
  obtain ⟨i, hi, e⟩ := List.getElem_of_mem (h.mem hj)
  refine ⟨i, by rw [← h.len]; exact hi, ?_⟩
  rw [List.getD_eq_getElem?_getD, List.getElem?_eq_getElem hi]
  exact e
theorem range_getD {n i : Nat} (hi : i < n) : (List.range n).getD i 0 = i := by
  rw [List.getD_eq_getElem?_getD, List.getElem?_range hi]
  rfl
theorem und_getD {n : Nat} {p : List Nat} (hp : P n p) {i : Nat} (hi : i < n) : (und p).getD (p.getD i 0) 0 = i := by
  have hl : p.getD i 0 < p.length := by rw [hp.len]; exact hp.getD_lt hi
  have hi' : i < p.length := by rw [hp.len]; exact hi
  unfold und
  rw [List.getD_eq_getElem?_getD (l := List.map _ _), List.getElem?_map, List.getElem?_range hl]
  show p.idxOf (p.getD i 0) = i
  rw [List.getD_eq_getElem?_getD, List.getElem?_eq_getElem hi']
  exact idxOf_getElem hp.nodup hi'
instance grpPm (n : Nat) : Grp (Pm n) where
  mul a b := ⟨aft a.1 b.1, a.2.aft b.2⟩
  one := ⟨List.range n, List.Perm.refl _⟩
  inv a := ⟨und a.1, a.2.und⟩
  assoc a b c := Subtype.ext <| by
    refine ext_getD (n := n) (by rw [aft_len, aft_len, a.2.len]) (by rw [aft_len, a.2.len]) fun i hi => ?_
    have ha : i < a.1.length := by rw [a.2.len]; exact hi
    have hb : a.1.getD i 0 < b.1.length := by rw [b.2.len]; exact a.2.getD_lt hi
    show (aft (aft a.1 b.1) c.1).getD i 0 = (aft a.1 (aft b.1 c.1)).getD i 0
    rw [aft_get (by rw [aft_len]; exact ha), aft_get ha, aft_get ha, aft_get hb]
  one_mul a := Subtype.ext <| by
    refine ext_getD (n := n) (by rw [aft_len, List.length_range]) a.2.len fun i hi => ?_
    show (aft (List.range n) a.1).getD i 0 = a.1.getD i 0
    rw [aft_get (by rw [List.length_range]; exact hi), range_getD hi]
  mul_one a := Subtype.ext <| by
    refine ext_getD (n := n) (by rw [aft_len, a.2.len]) a.2.len fun i hi => ?_
    show (aft a.1 (List.range n)).getD i 0 = a.1.getD i 0
    rw [aft_get (by rw [a.2.len]; exact hi), range_getD (a.2.getD_lt hi)]
  inv_mul a := Subtype.ext <| by
    refine ext_getD (n := n) (by rw [aft_len, a.2.und.len]) List.length_range fun i hi => ?_
    show (aft (und a.1) a.1).getD i 0 = (List.range n).getD i 0
    obtain ⟨j, hj, e⟩ := a.2.surj hi
    rw [aft_get (by rw [a.2.und.len]; exact hi), range_getD hi, ← e, und_getD a.2 hj]
  mul_inv a := Subtype.ext <| by
    refine ext_getD (n := n) (by rw [aft_len, a.2.len]) List.length_range fun i hi => ?_
    show (aft a.1 (und a.1)).getD i 0 = (List.range n).getD i 0
    rw [aft_get (by rw [a.2.len]; exact hi), range_getD hi, und_getD a.2 hi]
instance (n : Nat) : DecidableEq (Pm n) := inferInstanceAs (DecidableEq { l : List Nat // P n l })
/-- where a state goes -/
def Pm.at {n : Nat} (x : Pm n) (i : Nat) : Nat := x.1.getD i 0
theorem Pm.ext {n : Nat} {x y : Pm n} (h : ∀ i, i < n → x.at i = y.at i) : x = y := Subtype.ext (ext_getD x.2.len y.2.len h)
theorem Pm.at_lt {n : Nat} (x : Pm n) {i : Nat} (hi : i < n) : x.at i < n := x.2.getD_lt hi
theorem Pm.inj {n : Nat} (x : Pm n) {i j : Nat} (hi : i < n) (hj : j < n) (e : x.at i = x.at j) : i = j := x.2.inj hi hj e
theorem Pm.at_mul {n : Nat} (x y : Pm n) {i : Nat} (hi : i < n) : (Grp.mul x y).at i = y.at (x.at i) := aft_get (by rw [x.2.len]; exact hi)
theorem Pm.at_one {n : Nat} {i : Nat} (hi : i < n) : (Grp.one : Pm n).at i = i := range_getD hi
theorem Pm.at_np_succ {n : Nat} (x : Pm n) (k : Nat) {i : Nat} (hi : i < n) : (np x (k + 1)).at i = x.at ((np x k).at i) := Pm.at_mul _ _ hi
theorem Pm.at_np_add {n : Nat} (x : Pm n) (a b : Nat) {i : Nat} (hi : i < n) : (np x (a + b)).at i = (np x b).at ((np x a).at i) := by
  rw [np_add]
  exact Pm.at_mul _ _ hi
end BN
namespace BN
/-! ## 3. counts that suit, by a period -/
/-- how many of 0 .. k - 1 have the mark -/
def cnt (s : Int → Bool) : Nat → Nat
  | 0 => 0
  | k + 1 => cnt s k + (if s k then 1 else 0)
theorem cnt_le (s : Int → Bool) : ∀ k, cnt s k ≤ k
  | 0 => Nat.le_refl _
  | k + 1 => by
    have := cnt_le s k
    show cnt s k + (if s k then 1 else 0) ≤ k + 1
    split <;> omega
def Per (s : Int → Bool) (T : Nat) : Prop := ∀ i : Int, s (i + T) = s i
theorem Per.mul {s : Int → Bool} {T : Nat} (h : Per s T) (i : Int) : ∀ k : Nat, s (i + k * T) = s i
  | 0 => by rw [show i + ((0 : Nat) : Int) * T = i by simp]
  | k + 1 => by
    rw [show i + ((k + 1 : Nat) : Int) * T = (i + k * T) + T by
      rw [show ((k + 1 : Nat) : Int) = (k : Int) + 1 from rfl, Int.add_mul, Int.one_mul]
      omega]
    rw [h, Per.mul h i k]
theorem Per.shift {s : Int → Bool} {T : Nat} (h : Per s T) (i q : Int) : s (i + q * T) = s i := by
  by_cases hq : 0 ≤ q
  · obtain ⟨k, rfl⟩ : ∃ k : Nat, q = k := ⟨q.toNat, by omega⟩
    exact h.mul i k
  · obtain ⟨k, rfl⟩ : ∃ k : Nat, q = -(k : Int) := ⟨(-q).toNat, by omega⟩
    have e := h.mul (i + -(k : Int) * T) k
    rw [show i + -(k : Int) * T + k * T = i by
      rw [Int.neg_mul]
      omega] at e
    exact e.symm
theorem Per.rest {s : Int → Bool} {T : Nat} (h : Per s T) (i : Int) : s (i % T) = s i := by
  have e := h.shift (i % T) (i / T)
  rw [show i % T + i / T * T = i by
    rw [Int.mul_comm]
    exact Int.emod_add_mul_ediv i T] at e
  exact e.symm
/-- how many of the integers from 0 on, but less than i, have the mark; below 0 so many less -/
def far (s : Int → Bool) (T : Nat) (i : Int) : Int := i / T * cnt s T + cnt s (i % T).toNat
theorem far_zero (s : Int → Bool) (T : Nat) : far s T 0 = 0 := by
  unfold far
  simp [cnt]
theorem far_succ {s : Int → Bool} {T : Nat} (hT : 0 < T) (h : Per s T) (i : Int) : far s T (i + 1) = far s T i + (if s i then 1 else 0) := by
  have hT' : (0 : Int) < T := by omega
  have h1 := Int.emod_nonneg i (show (T : Int) ≠ 0 by omega)
  have h2 := Int.emod_lt_of_pos i hT'
  have hd : (T : Int) * (i / T) + i % T = i := by
    have := Int.emod_add_mul_ediv i T
    omega
  obtain ⟨r, hr⟩ : ∃ r : Nat, i % T = r := ⟨(i % T).toNat, by omega⟩
  have hs : s i = s (r : Int) := by rw [← hr, h.rest]
  unfold far
  by_cases c : r + 1 < T
  · have e1 : (i + 1) / T = i / T := by
      have : i + 1 = (r + 1 : Int) + T * (i / T) := by omega
      rw [this, Int.add_mul_ediv_left _ _ (by omega), Int.ediv_eq_zero_of_lt (by omega) (by omega)]
      omega
    have e2 : (i + 1) % T = ((r + 1 : Nat) : Int) := by
      have : i + 1 = ((r + 1 : Nat) : Int) + T * (i / T) := by omega
      rw [this, Int.add_mul_emod_self_left, Int.emod_eq_of_lt (by omega) (by omega)]
    rw [e1, e2, hr, hs]
    show _ + ((cnt s r + if s r then 1 else 0 : Nat) : Int) = _
    rw [show ((r : Int)).toNat = r from rfl]
    split <;> simp <;> omega
  · have hrT : r + 1 = T := by omega
    have e1 : (i + 1) / T = i / T + 1 := by
      have : i + 1 = 0 + T * (i / T + 1) := by rw [Int.mul_add, Int.mul_one]; omega
      rw [this, Int.add_mul_ediv_left _ _ (by omega), Int.zero_ediv]
      omega
    have e2 : (i + 1) % T = 0 := by
      have : i + 1 = 0 + T * (i / T + 1) := by rw [Int.mul_add, Int.mul_one]; omega
      rw [this, Int.add_mul_emod_self_left]
      rfl
    have e3 : cnt s T = cnt s r + (if s r then 1 else 0) := by rw [← hrT]; rfl
    rw [e1, e2, hr, hs, Int.add_mul, Int.one_mul]
    show i / T * (cnt s T : Int) + (cnt s T : Int) + ((cnt s 0 : Nat) : Int) = _
    rw [show ((r : Int)).toNat = r from rfl, show cnt s 0 = 0 from rfl]
    rw [e3]
    split <;> simp <;> omega
/-- it is the same by every period -/
theorem far_eq {s : Int → Bool} {T U : Nat} (hT : 0 < T) (hU : 0 < U) (h : Per s T) (k : Per s U) (i : Int) : far s T i = far s U i := by
  have up : ∀ n : Nat, far s T n = far s U n := by
    intro n
    induction n with
    | zero => rw [show ((0 : Nat) : Int) = 0 from rfl, far_zero, far_zero]
    | succ n ih => rw [show ((n + 1 : Nat) : Int) = (n : Int) + 1 from rfl, far_succ hT h, far_succ hU k, ih]
  have dn : ∀ n : Nat, far s T (-(n : Int)) = far s U (-(n : Int)) := by
    intro n
    induction n with
    | zero => rw [show -((0 : Nat) : Int) = 0 from rfl, far_zero, far_zero]
    | succ n ih =>
      have a := far_succ hT h (-((n + 1 : Nat) : Int))
      have b := far_succ hU k (-((n + 1 : Nat) : Int))
      rw [show -((n + 1 : Nat) : Int) + 1 = -(n : Int) by omega] at a b
      rw [a, b] at ih
      omega
  by_cases hi : 0 ≤ i
  · have := up i.toNat
    rwa [show ((i.toNat : Nat) : Int) = i by omega] at this
  · have := dn (-i).toNat
    rwa [show -(((-i).toNat : Nat) : Int) = i by omega] at this
/-- the least one from i on that has the mark -/
def Nxt (s : Int → Bool) (i m : Int) : Prop := i ≤ m ∧ s m = true ∧ ∀ j, i ≤ j → j < m → s j = false
theorem Nxt.uniq {s : Int → Bool} {i m n : Int} (a : Nxt s i m) (b : Nxt s i n) : m = n := by
  obtain ⟨a1, a2, a3⟩ := a
  obtain ⟨b1, b2, b3⟩ := b
  rcases Int.lt_trichotomy m n with c | c | c
  · rw [b3 m a1 c] at a2
    cases a2
  · exact c
  · rw [a3 n b1 c] at b2
    cases b2
/-- the first of a list's filtered items -/
theorem filter_head {p : Nat → Bool} : ∀ {l : List Nat} {k : Nat} {r : List Nat}, l.filter p = k :: r → k ∈ l ∧ p k = true
  | l, k, r, h => by
    have : k ∈ l.filter p := by rw [h]; exact List.mem_cons_self
    exact List.mem_filter.mp this
theorem range_filter_first {p : Nat → Bool} : ∀ {n k : Nat} {r : List Nat}, (List.range n).filter p = k :: r → k < n ∧ p k = true ∧ ∀ j, j < k → p j = false := by
  intro n k r h
  obtain ⟨h1, h2⟩ := filter_head h
  refine ⟨List.mem_range.mp h1, h2, fun j hj => ?_⟩
  cases e : p j with
  | false => rfl
  | true =>
    have hm : j ∈ (List.range n).filter p := List.mem_filter.mpr ⟨List.mem_range.mpr (Nat.lt_trans hj (List.mem_range.mp h1)), e⟩
    have hs : ((List.range n).filter p).Pairwise (· < ·) := List.Pairwise.filter _ List.pairwise_lt_range
    rw [h] at hs hm
    rcases List.mem_cons.mp hm with z | z
    · omega
    · have := (List.pairwise_cons.mp hs).1 j z
      omega
theorem range_filter_none {p : Nat → Bool} {n : Nat} (h : (List.range n).filter p = []) : ∀ j, j < n → p j = false := by
  intro j hj
  cases e : p j with
  | false => rfl
  | true =>
    have hm : j ∈ (List.range n).filter p := List.mem_filter.mpr ⟨List.mem_range.mpr hj, e⟩
    rw [h] at hm
    cases hm
theorem cnt_filter (s : Int → Bool) : ∀ n : Nat, ((List.range n).filter fun j => s (j : Nat)).length = cnt s n
  | 0 => rfl
  | n + 1 => by
    rw [List.range_succ, List.filter_append, List.length_append, cnt_filter s n]
    show _ = cnt s n + _
    congr 1
    rw [List.filter_cons]
    split <;> rfl
theorem cnt_filter_lt (s : Int → Bool) {n r : Nat} (h : r ≤ n) : (((List.range n).filter fun j => s (j : Nat)).filter fun j => decide (j < r)).length = cnt s r := by
  rw [← cnt_filter s r, List.filter_filter]
  congr 1
  obtain ⟨d, rfl⟩ : ∃ d, n = r + d := ⟨n - r, by omega⟩
  rw [List.range_add, List.filter_append]
  have e1 : (List.range r).filter (fun j => decide (j < r) && s (j : Nat)) = (List.range r).filter fun j => s (j : Nat) := by
    apply List.filter_congr
    intro x hx
    rw [decide_eq_true (List.mem_range.mp hx), Bool.true_and]
  have e2 : (List.map (fun x => r + x) (List.range d)).filter (fun j => decide (j < r) && s (j : Nat)) = [] := by
    rw [List.filter_eq_nil_iff]
    intro x hx
    obtain ⟨y, _, rfl⟩ := List.mem_map.mp hx
    rw [decide_eq_false (by omega), Bool.false_and]
    exact Bool.false_ne_true
  rw [e1, e2, List.append_nil]
/-- what the law reckons -/
theorem nxt_law {s : Int → Bool} {L : Nat} (h : Per s L) {i : Int} {k : Nat} {r : List Nat} (e : (List.range L).filter (fun j => s ((i + (j : Nat)) % L)) = k :: r) : Nxt s i (i + k) := by
  obtain ⟨h1, h2, h3⟩ := range_filter_first e
  refine ⟨by omega, by rw [← h.rest]; exact h2, fun j a b => ?_⟩
  have q := h3 (j - i).toNat (by omega)
  rw [h.rest] at q
  rwa [show i + (((j - i).toNat : Nat) : Int) = j by omega] at q
theorem law_some {s : Int → Bool} {L : Nat} (hL : 0 < L) (h0 : s 0 = true) (i : Int) : ∃ k r, (List.range L).filter (fun j => s ((i + (j : Nat)) % L)) = k :: r := by
  cases e : (List.range L).filter (fun j => s ((i + (j : Nat)) % L)) with
  | cons k r => exact ⟨k, r, rfl⟩
  | nil =>
    exfalso
    have hL' : (L : Int) ≠ 0 := by omega
    have m0 := Int.emod_nonneg (-i) hL'
    have m1 := Int.emod_lt_of_pos (-i) (show (0 : Int) < L by omega)
    have q := range_filter_none e ((-i) % L).toNat (by omega)
    rw [show ((((-i) % L).toNat : Nat) : Int) = (-i) % L by omega, Int.add_emod_emod, show i + -i = 0 by omega, Int.zero_emod] at q
    rw [h0] at q
    cases q
/-- what the program reckons -/
theorem nxt_prog {s : Int → Bool} {T : Nat} (hT : 0 < T) (h : Per s T) (h0 : s 0 = true) (i : Int) :
    Nxt s i (i - i % T + (match ((List.range T).filter fun j => s (j : Nat)).filter fun j => decide ((i % T) ≤ (j : Nat)) with | [] => (T : Int) | k :: _ => (k : Nat))) := by
  have hT' : (T : Int) ≠ 0 := by omega
  have m0 := Int.emod_nonneg i hT'
  have m1 := Int.emod_lt_of_pos i (show (0 : Int) < T by omega)
  obtain ⟨q, hq⟩ : ∃ q, q = i / T := ⟨_, rfl⟩
  have hd : i - i % T = q * T := by
    have := Int.emod_add_mul_ediv i T
    rw [hq, Int.mul_comm]
    omega
  have sh : ∀ j : Int, s (i - i % T + j) = s j := fun j => by
    rw [hd, Int.add_comm]
    exact h.shift j q
  rw [List.filter_filter]
  split
  · rename_i e
    have ne := range_filter_none e
    refine ⟨by omega, ?_, fun j a b => ?_⟩
    · have e1 := sh T
      have e2 := h 0
      rw [Int.zero_add] at e2
      rw [e1, e2]
      exact h0
    · obtain ⟨d, hd'⟩ : ∃ d : Nat, j = i - i % T + d := ⟨(j - (i - i % T)).toNat, by omega⟩
      have z := ne d (by omega)
      rw [decide_eq_true (by omega), Bool.true_and] at z
      rw [hd', sh]
      exact z
  · rename_i k r e
    obtain ⟨h1, h2, h3⟩ := range_filter_first e
    rw [Bool.and_eq_true, decide_eq_true_eq] at h2
    refine ⟨by omega, by rw [sh]; exact h2.2, fun j a b => ?_⟩
    obtain ⟨d, hd'⟩ : ∃ d : Nat, j = i - i % T + d := ⟨(j - (i - i % T)).toNat, by omega⟩
    have z := h3 d (by omega)
    rw [decide_eq_true (by omega), Bool.true_and] at z
    rw [hd', sh]
    exact z
/-! ## 4. the round, as the program finds it -/
/-- the first divisor from one on -/
def fpr : Nat → Nat → Nat → Nat
  | 0, _, f => f
  | k + 1, n, f => if n % f = 0 then f else fpr k n (f + 1)
theorem fpr_le : ∀ (k n f : Nat), f ≤ fpr k n f
  | 0, _, f => Nat.le_refl _
  | k + 1, n, f => by
    unfold fpr
    split
    · exact Nat.le_refl _
    · exact Nat.le_trans (Nat.le_succ f) (fpr_le k n (f + 1))
def fprime (n : Nat) : Nat := fpr (n - 2) n 2
/-- a prime divided out -/
def strip : Nat → Nat → Nat → Nat → Nat × Nat
  | 0, n, _, w => (n, w)
  | k + 1, n, p, w => if n % p = 0 then strip k (n / p) p (w * p) else (n, w)
/-- the greatest powers of primes -/
def ppw : Nat → Nat → Nat → List Nat → List Nat
  | 0, _, _, acc => acc
  | k + 1, n, p, acc => if 1 < n then ppw k (strip n n p 1).1 (p + 1) (if 1 < (strip n n p 1).2 then acc ++ [(strip n n p 1).2] else acc) else acc
def ppows (n : Nat) : List Nat := ppw n n 2 []
/-- a count made less as long as it goes -/
def redu (r : Nat → Bool) (p : Nat) : Nat → Nat → Nat
  | 0, f => f
  | k + 1, f => if f % p = 0 ∧ r (f / p) = true then redu r p k (f / p) else f
theorem redu_ok {r : Nat → Bool} {p : Nat} (hp : 2 ≤ p) : ∀ {k f : Nat}, 1 ≤ f → r f = true → 1 ≤ redu r p k f ∧ redu r p k f ≤ f ∧ r (redu r p k f) = true
  | 0, f, h, hr => ⟨h, Nat.le_refl _, hr⟩
  | k + 1, f, h, hr => by
    unfold redu
    split
    · rename_i c
      have h1 : 1 ≤ f / p := by
        have hm : f = p * (f / p) := by
          have := Nat.div_add_mod f p
          omega
        rcases Nat.eq_zero_or_pos (f / p) with z | z
        · rw [z] at hm
          omega
        · exact z
      obtain ⟨a, b, d⟩ := redu_ok (k := k) hp h1 c.2
      exact ⟨a, Nat.le_trans b (Nat.div_le_self f p), d⟩
    · exact ⟨h, Nat.le_refl _, hr⟩
def cro (r : Nat → Bool) (L : Nat) : Nat := (ppows L).foldl (fun f part => redu r (fprime part) f f) L
theorem fold_ok {r : Nat → Bool} : ∀ (ps : List Nat) {L : Nat}, 1 ≤ L → r L = true → 1 ≤ ps.foldl (fun f part => redu r (fprime part) f f) L ∧ ps.foldl (fun f part => redu r (fprime part) f f) L ≤ L ∧ r (ps.foldl (fun f part => redu r (fprime part) f f) L) = true
  | [], L, h, hr => ⟨h, Nat.le_refl _, hr⟩
  | q :: ps, L, h, hr => by
    have hp : 2 ≤ fprime q := fpr_le _ _ _
    obtain ⟨a, b, d⟩ := redu_ok (k := L) hp h hr
    obtain ⟨a', b', d'⟩ := fold_ok ps a d
    exact ⟨a', Nat.le_trans b' b, d'⟩
theorem cro_ok {r : Nat → Bool} {L : Nat} (h : 1 ≤ L) (hr : r L = true) : 1 ≤ cro r L ∧ cro r L ≤ L ∧ r (cro r L) = true := fold_ok _ h hr
end BN
namespace BN
open PySem PySem.Spec PyProof.Rows L2
/-! ## 5. the text by places -/
def top (i : Nat) : Stmt := PySem.Challenge.pw_batchnumbers_k40_whole_far_counts.main.body.getD i (.Pass ⟨0, 0, 0, 0⟩)
abbrev sIsInteger : Stmt := top 4
abbrev sIsNumber : Stmt := top 5
abbrev sIsIndex : Stmt := top 6
abbrev sDivisor : Stmt := top 7
abbrev sMultiple : Stmt := top 8
abbrev sPowers : Stmt := top 9
abbrev sChecked : Stmt := top 11
abbrev sIdle : Stmt := top 12
abbrev sAfter : Stmt := top 13
abbrev sUndone : Stmt := top 14
abbrev sRaised : Stmt := top 15
abbrev sSizeOf : Stmt := top 16
abbrev sFollowed : Stmt := top 17
abbrev sOrder : Stmt := top 18
abbrev sOrderOf : Stmt := top 19
abbrev sPlaces : Stmt := top 20
abbrev sLoop : Stmt := top 21
abbrev sSplitLoop : Stmt := top 22
abbrev sFirstPrime : Stmt := top 24
abbrev sSuits : Stmt := top 26
abbrev sIsRound : Stmt := top 27
abbrev sRound : Stmt := top 28
abbrev sRests : Stmt := top 29
abbrev sNext : Stmt := top 30
abbrev sBelow : Stmt := top 31
abbrev sBetween : Stmt := top 32
abbrev sLDraw : Stmt := top 34
abbrev sLAny : Stmt := top 35
abbrev sLOf : Stmt := top 36
abbrev sLMixed : Stmt := top 37
abbrev sLThen : Stmt := top 38
abbrev sLPiece : Stmt := top 39
abbrev sLMarks : Stmt := top 40
abbrev sLCouple : Stmt := top 41
abbrev sLBelow : Stmt := top 42
abbrev sLWrong : Stmt := top 43
abbrev sLAsked : Stmt := top 44
abbrev sLCount : Stmt := top 45
abbrev sLaw : Stmt := top 46
/-! ## 6. words -/
/-- what the built-in names hold -/
structure Tx (mg : Str → Option Value) : Prop where
  len : mg "len" = none
  tup : mg "tuple" = none
  lst : mg "list" = none
  rng : mg "range" = none
  srt : mg "sorted" = none
  all : mg "all" = none
  isi : mg "isinstance" = none
  int : mg "int" = none
  bool : mg "bool" = none
  enum : mg "enumerate" = none
  max : mg "max" = none
  abs : mg "abs" = none
  repr : mg "repr" = none
/-- a def that stands at a module's name and keeps a promise -/
structure Def (P : Program) (w : World) (K : PySem.W.Frag) (mg : Str → Option Value) (base : Heap) (CX : CXT) (k : Nat) (x : Str) (ps : List Str) (sp : Sp) : Prop where
  ex : ∃ (f : Addr) (fd : FuncData), mg x = some (.ref f) ∧ PySem.W.keepIn K (.ref f) = true ∧ Binds K fd ps [] ∧ FnOk P w K mg base CX k f fd ps sp
section
variable {X : Cx} {CX : CXT} {k : Nat} {x : Str} {ps : List Str} {sp : Sp} {E : XK} {p pos : Pos} {e : Expr} {es : List Expr} {t : TA}
theorem pe_callD (D : Def X.prog X.w X.K X.mg X.base CX k x ps sp) (hr : Room k X.A) (hg : Gl X x) (hx : Passes CX X E) (ha : PA X (e :: es) t) (hdb : (x == ("__debug__" : Str)) = false := by decide)
    (he : starEach (e :: es) X.env = (false, eval e X.env) :: starEach es X.env := by rfl) (hpl : (backTo pos (starEach es X.env)).any (·.1) = false := by rfl) :
    PE X (.Call (.Name x p) (e :: es) [] pos) (tCall sp [] E t) := by
  obtain ⟨f, fd, hm, hk, hb, F⟩ := D.ex
  exact pe_call F hr hg hm hk hb .nil hx ha hdb he hpl
theorem Def.mono {P : Program} {w : World} {K : PySem.W.Frag} {mg : Str → Option Value} {base : Heap} {j : Nat} (D : Def P w K mg base CX j x ps sp) (h : j ≤ k) : Def P w K mg base CX k x ps sp := by
  obtain ⟨f, fd, hm, hk, hb, F⟩ := D.ex
  exact ⟨f, fd, hm, hk, hb, F.mono h⟩
theorem PE.weak {t t' : TE} (h : PE X e t) (i : ∀ σ H Q, t' σ H Q → t σ H Q) : PE X e t' := ⟨fun pins s σ H Q I q => h.run pins s σ H Q I (i σ H Q q)⟩
end
/-- a change as a tuple's items -/
def tv (l : List Nat) : List V := l.map fun i => V.int (i : Nat)
theorem tv_len (l : List Nat) : (tv l).length = l.length := List.length_map _
theorem tv_get {l : List Nat} {i : Nat} (hi : i < l.length) : (tv l)[i]? = some (V.int ((l.getD i 0 : Nat) : Int)) := by
  unfold tv
  rw [List.getElem?_map, List.getElem?_eq_getElem hi, List.getD_eq_getElem?_getD, List.getElem?_eq_getElem hi]
  rfl
/-- a tuple of these items stands at a -/
def TA' (H : Hp) (a : Addr) (l : List Nat) : Prop := H a = some (.tup (tv l))
theorem same_upd {H : Hp} {p : Addr} {o : HO} (h : H p = none) : Same H (upd H p o) := fun b x e => by
  rw [upd_ne (ne_of_none e h)]
  exact e
theorem same_updw {H H' : Hp} {p : Addr} {o : HO} (s : Same H H') (h : H p = none) : Same H (L2.upd H' p o) := fun b x e => by
  rw [upd_ne (ne_of_none e h)]
  exact s b x e
theorem sl9 {n : Nat} (h : n ≤ 1000) : n ≤ sizeLine := Nat.le_trans h (by decide)
theorem map_len_lt {n : Nat} (h : n ≤ 1000) : n < sizeLine := small1000 h
end BN
namespace BN
open PySem PySem.Spec PyProof.Rows L2
section
variable {P : Program} {w : World} {K : PySem.W.Frag} {mg : Str → Option Value} {base : Heap}
/-! ### after, _law_then: one change, then another one -/
def spAfter : Sp := fun vs H Q _ => ∃ (n : Nat) (x y : Pm n) (a b : Addr), vs = [.ref a, .ref b] ∧ TA' H a x.1 ∧ TA' H b y.1 ∧ n ≤ 16 ∧
  ∀ (H' : Hp) (c : Addr), Same H H' → TA' H' c (Grp.mul x y).1 → Q (.ref c) H'
theorem after_turn {n : Nat} (x y : Pm n) {i : Nat} (hi : i < n) : tv ((aft x.1 y.1).take (i + 1)) = tv ((aft x.1 y.1).take i) ++ [V.int ((y.at (x.at i) : Nat) : Int)] := by
  have hl : i < (aft x.1 y.1).length := by rw [aft_len, x.2.len]; exact hi
  unfold tv
  rw [List.take_add_one, List.getElem?_eq_getElem hl, Option.toList_some, List.map_append, List.map_singleton]
  congr 3
  have e : (aft x.1 y.1).getD i 0 = y.1.getD (x.1.getD i 0) 0 := aft_get (by rw [x.2.len]; exact hi)
  rw [List.getD_eq_getElem?_getD, List.getElem?_eq_getElem hl] at e
  exact congrArg _ e
theorem scAfter : FnScope ["one", "other", "state"] ["one", "other"] (defScope sAfter) := ⟨rfl, rfl, rfl, by decide +kernel, rfl, by decide +kernel, by decide +kernel⟩
theorem ok_after {f : Addr} {fd : FuncData} (F : Fun K "after" "after" sAfter f fd) (T : Tx mg) : FnOk P w K mg base CX0 1 f fd ["one", "other"] spAfter := by
  refine F.ok scAfter (fun vs H Q E h => ?_) (fun cdv A outer s H vs Q E hr h => ?_)
  · obtain ⟨n, x, y, a, b, rfl, _⟩ := h
    rfl
  · obtain ⟨n, x, y, a, b, rfl, ha, hb, hn, k⟩ := h
    refine ⟨_, pss_one (ps_ret (pe_callTy call_tuple_of (by rfl) T.tup boot_tuple (pa_cons (pe_lc (own := [("state", 2)]) (g := gName 2) rfl scAfter.nd (pi_tup (pv 0))
      (blkOk_by (N := ["one", "other", "state"]) (sc := defScope sAfter) (by decide +kernel)) (fun _ _ _ _ _ => pg_name (i := 2) scAfter.nd rfl (Or.inl rfl)) (fun _ _ _ _ _ => pts_nil)
      (fun _ _ _ _ _ => pe_ix (r := rIxT K) ix_tup (pv 1) (pv 2) (fun _ _ => rfl))) pa_nil))), ?_⟩
    refine ⟨_, rfl, a, rfl, ⟨_, SqT.of ha⟩, fun D hD => ?_⟩
    refine lc_tup (K := K) (a := a) (xs := tv x.1) (fun i H' => Same H H' ∧ H' D = some (.lst (tv ((aft x.1 y.1).take i)))) ⟨same_upd hD, upd_same⟩ (fun i H' _ h => SqT.of (h.1 _ _ ha)) ?_ ?_
    · rintro i v H1 hi ⟨s1, hl⟩
      have hin : i < n := by
        have q := (List.getElem?_eq_some_iff.mp hi).1
        rwa [tv_len, x.2.len] at q
      rw [tv_get (by rw [x.2.len]; exact hin)] at hi
      cases hi
      refine ⟨rfl, ?_⟩
      refine ⟨_, rfl, _, rfl, b, _, _, _, rfl, rfl, SqT.of (s1 _ _ hb), atI_nat (j := x.1.getD i 0) (tv_get (by rw [y.2.len]; exact x.at_lt hin)), ?_⟩
      refine ⟨_, hl, ?_, same_updw s1 hD, ?_⟩
      · rw [tv_len, List.length_take, aft_len, x.2.len]
        exact map_len_lt (by omega)
      · rw [upd_same, after_turn x y hin]
        rfl
    · rintro H1 ⟨s1, hl⟩
      rw [tv_len, List.take_of_length_le (by rw [aft_len]; exact Nat.le_refl _)] at hl
      refine ⟨D, _, rfl, .inl ⟨SqL.of hl, fun c hc => ?_⟩⟩
      exact k _ _ (s1.trans (same_upd hc)) upd_same
end
end BN
namespace BN
open PySem PySem.Spec PyProof.Rows L2
/-- a value that is None, a bool, an int or a text -/
inductive Scal : V → Prop where
  | non : Scal .non
  | bl (b : Bool) : Scal (.bl b)
  | int (i : Int) : Scal (.int i)
  | str (x : Str) : Scal (.str x)
def isI : V → Bool
  | .int _ => true
  | _ => false
def isN : V → Bool
  | .int i => decide (0 ≤ i)
  | _ => false
def isX (m : Int) : V → Bool
  | .int i => decide (0 ≤ i) && decide (i < m)
  | _ => false
section
variable {P : Program} {w : World} {K : PySem.W.Frag} {mg : Str → Option Value} {base : Heap}
/-! ### is_integer, is_number, is_index -/
def spIsInteger : Sp := fun vs H Q _ => ∃ v, vs = [v] ∧ Scal v ∧ Q (.bl (isI v)) H
theorem scIsInteger : FnScope ["value"] ["value"] (defScope sIsInteger) := ⟨rfl, rfl, rfl, by decide +kernel, rfl, by decide +kernel, by decide +kernel⟩
theorem ok_is_integer {f : Addr} {fd : FuncData} (F : Fun K "is_integer" "is_integer" sIsInteger f fd) (T : Tx mg) : FnOk P w K mg base CX0 1 f fd ["value"] spIsInteger := by
  refine F.ok scIsInteger (fun vs H Q E h => ?_) (fun cdv A outer s H vs Q E hr h => ?_)
  · obtain ⟨v, rfl, _⟩ := h
    rfl
  · obtain ⟨v, rfl, sc, k⟩ := h
    refine ⟨_, pss_one (ps_ret (pe_and (pe_callB call_isi (by rfl) T.isi (by decide +kernel) (pa_cons (pv 0) (pa_cons (pe_bltn (v := .ty "int") (by rfl) T.int boot_int rfl) pa_nil)))
      (pe_one (pe_not (pe_callB call_isi (by rfl) T.isi (by decide +kernel) (pa_cons (pv 0) (pa_cons (pe_bltn (v := .ty "bool") (by rfl) T.bool (by decide +kernel) rfl) pa_nil))))))), ?_⟩
    cases sc with
    | non => exact ⟨_, rfl, _, _, _, _, _, rfl, .ty _, .base .non, kit_ty (r := false) (by decide +kernel), _, rfl, k⟩
    | bl b => exact ⟨_, rfl, _, _, _, _, _, rfl, .ty _, .base (.bl b), kit_ty (r := true) (by decide +kernel), _, rfl, _, rfl, _, _, _, _, _, rfl, .ty _, .base (.bl b), kit_ty (r := true) (by decide +kernel), _, rfl, k⟩
    | int i => exact ⟨_, rfl, _, _, _, _, _, rfl, .ty _, .base (.int i), kit_ty (r := true) (by decide +kernel), _, rfl, _, rfl, _, _, _, _, _, rfl, .ty _, .base (.int i), kit_ty (r := false) (by decide +kernel), _, rfl, k⟩
    | str x => exact ⟨_, rfl, _, _, _, _, _, rfl, .ty _, .base (.str x), kit_ty (r := false) (by decide +kernel), _, rfl, k⟩
def spIsNumber : Sp := fun vs H Q _ => ∃ v, vs = [v] ∧ Scal v ∧ Q (.bl (isN v)) H
theorem scIsNumber : FnScope ["value"] ["value"] (defScope sIsNumber) := ⟨rfl, rfl, rfl, by decide +kernel, rfl, by decide +kernel, by decide +kernel⟩
theorem ok_is_number {f : Addr} {fd : FuncData} (F : Fun K "is_number" "is_number" sIsNumber f fd) (D : Def P w K mg base CX0 1 "is_integer" ["value"] spIsInteger) : FnOk P w K mg base CX0 2 f fd ["value"] spIsNumber := by
  refine F.ok scIsNumber (fun vs H Q E h => ?_) (fun cdv A outer s H vs Q E hr h => ?_)
  · obtain ⟨v, rfl, _⟩ := h
    rfl
  · obtain ⟨v, rfl, sc, k⟩ := h
    refine ⟨_, pss_one (ps_ret (pe_and (pe_callD D hr (by rfl) pass0 (pa_cons (pv 0) pa_nil)) (pe_one (pe_cmpR op_ge (pv 0) pe_int (nomark _))))), ?_⟩
    refine ⟨_, rfl, v, rfl, sc, ?_⟩
    cases sc with
    | int i => exact ⟨_, rfl, _, rfl, _, _, rfl, rfl, k⟩
    | non => exact ⟨_, rfl, k⟩
    | bl b => exact ⟨_, rfl, k⟩
    | str x => exact ⟨_, rfl, k⟩
def spIsIndex : Sp := fun vs H Q _ => ∃ v m, vs = [v, .int m] ∧ Scal v ∧ Q (.bl (isX m v)) H
theorem scIsIndex : FnScope ["value", "many"] ["value", "many"] (defScope sIsIndex) := ⟨rfl, rfl, rfl, by decide +kernel, rfl, by decide +kernel, by decide +kernel⟩
theorem ok_is_index {f : Addr} {fd : FuncData} (F : Fun K "is_index" "is_index" sIsIndex f fd) (D : Def P w K mg base CX0 2 "is_number" ["value"] spIsNumber) : FnOk P w K mg base CX0 3 f fd ["value", "many"] spIsIndex := by
  refine F.ok scIsIndex (fun vs H Q E h => ?_) (fun cdv A outer s H vs Q E hr h => ?_)
  · obtain ⟨v, m, rfl, _⟩ := h
    rfl
  · obtain ⟨v, m, rfl, sc, k⟩ := h
    refine ⟨_, pss_one (ps_ret (pe_and (pe_callD D hr (by rfl) pass0 (pa_cons (pv 0) pa_nil)) (pe_one (pe_cmpR op_lt (pv 0) (pv 1) (nomark _))))), ?_⟩
    refine ⟨_, rfl, v, rfl, sc, ?_⟩
    cases sc with
    | int i =>
      by_cases c : 0 ≤ i
      · refine ⟨true, congrArg V.bl (decide_eq_true c), _, rfl, _, rfl, _, _, rfl, rfl, ?_⟩
        have e : isX m (.int i) = decide (i < m) := by
          show (decide (0 ≤ i) && decide (i < m)) = _
          rw [decide_eq_true c, Bool.true_and]
        rw [e] at k
        exact k
      · refine ⟨false, congrArg V.bl (decide_eq_false c), ?_⟩
        have e : isX m (.int i) = false := by
          show (decide (0 ≤ i) && decide (i < m)) = _
          rw [decide_eq_false c, Bool.false_and]
        rw [e] at k
        exact k
    | non => exact ⟨_, rfl, k⟩
    | bl b => exact ⟨_, rfl, k⟩
    | str x => exact ⟨_, rfl, k⟩
/-! ### common_divisor, common_multiple -/
def spDivisor : Sp := fun vs H Q _ => ∃ a b : Nat, vs = [.int a, .int b] ∧ Q (.int (Nat.gcd a b : Nat)) H
theorem scDivisor : FnScope ["one", "other"] ["one", "other"] (defScope sDivisor) := ⟨rfl, rfl, rfl, by decide +kernel, rfl, by decide +kernel, by decide +kernel⟩
theorem ok_divisor {f : Addr} {fd : FuncData} (F : Fun K "common_divisor" "common_divisor" sDivisor f fd) : FnOk P w K mg base CX0 1 f fd ["one", "other"] spDivisor := by
  refine F.ok scDivisor (fun vs H Q E h => ?_) (fun cdv A outer s H vs Q E hr h => ?_)
  · obtain ⟨a, b, rfl, _⟩ := h
    rfl
  · obtain ⟨a, b, rfl, k⟩ := h
    refine ⟨_, pss_cons (ps_while PassesOwn.never (pt_cmpR op_ne (pv 1) pe_int (nomark _))
      (pss_one (ps_par (i := 0) (j := 1) (by rfl) scDivisor.nd rfl rfl (by decide) rfl rfl (pa_cons (pv 1) (pa_cons (pe_op op_mod (pv 0) (pv 1)) pa_nil)) (by rfl))))
      (pss_one (ps_ret (pv 0))), ?_⟩
    refine ⟨fun m σ H' => ∃ c d : Nat, σ = [some (.int c), some (.int d)] ∧ H' = H ∧ Nat.gcd c d = Nat.gcd a b ∧ d = m, ⟨b, a, b, rfl, rfl, rfl, rfl⟩, ?_⟩
    rintro m σ H' ⟨c, d, rfl, rfl, e, rfl⟩
    refine ⟨_, rfl, rfl, _, rfl, ite2 (fun hc => ?_) (fun hc => ?_)⟩
    · have hd : d ≠ 0 := by
        rintro rfl
        simp at hc
      refine ⟨fun σ' H'' => σ' = [some (.int d), some (.int ((c % d : Nat) : Int))] ∧ H'' = H', ?_, ?_⟩
      · rintro σ' H'' ⟨rfl, rfl⟩
        refine ⟨c % d, Nat.mod_lt _ (by omega), d, c % d, rfl, rfl, ?_, rfl⟩
        rw [← e, Nat.gcd_comm d, ← Nat.gcd_rec, Nat.gcd_comm]
      · exact ⟨_, rfl, _, rfl, _, rfl, _, _, rfl, rfl, (by show (0 : Int) < d; omega), _, _, rfl, rfl, rfl⟩
    · have hd : d = 0 := by
        by_cases z : d = 0
        · exact z
        · exfalso
          apply hc
          simpa using z
      subst hd
      rw [Nat.gcd_zero_right] at e
      refine ⟨_, rfl, ?_⟩
      rw [e]
      exact k
def spMultiple : Sp := fun vs H Q _ => ∃ a b : Nat, vs = [.int a, .int b] ∧ 1 ≤ a ∧ a ≤ 100000 ∧ Q (.int (Nat.lcm a b : Nat)) H
theorem scMultiple : FnScope ["one", "other"] ["one", "other"] (defScope sMultiple) := ⟨rfl, rfl, rfl, by decide +kernel, rfl, by decide +kernel, by decide +kernel⟩
theorem ok_multiple {f : Addr} {fd : FuncData} (F : Fun K "common_multiple" "common_multiple" sMultiple f fd) (D : Def P w K mg base CX0 1 "common_divisor" ["one", "other"] spDivisor) : FnOk P w K mg base CX0 2 f fd ["one", "other"] spMultiple := by
  refine F.ok scMultiple (fun vs H Q E h => ?_) (fun cdv A outer s H vs Q E hr h => ?_)
  · obtain ⟨a, b, rfl, _⟩ := h
    rfl
  · obtain ⟨a, b, rfl, h1, h2, k⟩ := h
    refine ⟨_, pss_one (ps_ret (pe_op op_mul (pe_op op_fdiv (pv 0) (pe_callD D hr (by rfl) pass0 (pa_cons (pv 0) (pa_cons (pv 1) pa_nil)))) (pv 1))), ?_⟩
    have g1 : 0 < Nat.gcd a b := Nat.gcd_pos_of_pos_left b (by omega)
    have g2 : Nat.gcd a b ≤ a := Nat.gcd_le_left b (by omega)
    have g3 : a / Nat.gcd a b ≤ a := Nat.div_le_self _ _
    refine ⟨_, rfl, _, rfl, _, rfl, a, b, rfl, _, _, rfl, rfl, ⟨by omega, by omega⟩, _, rfl, _, _, rfl, rfl, .inl ⟨?_, ?_⟩, ?_⟩
    · show -(2 ^ 64 : Int) < ((a / Nat.gcd a b : Nat) : Int)
      exact Int.lt_of_lt_of_le (by decide) (Int.natCast_nonneg _)
    · show ((a / Nat.gcd a b : Nat) : Int) < 2 ^ 64
      exact Int.lt_of_le_of_lt (Int.ofNat_le.mpr g3) (by omega)
    · have e : Nat.lcm a b = a / Nat.gcd a b * b := by
        unfold Nat.lcm
        rw [Nat.mul_comm, Nat.mul_div_assoc _ (Nat.gcd_dvd_left a b), Nat.mul_comm]
      rw [e] at k
      exact k
end
end BN
namespace BN
open PySem PySem.Spec PyProof.Rows L2
theorem fpr_stop {n f : Nat} (h : n % f = 0) : ∀ k, fpr k n f = f
  | 0 => rfl
  | k + 1 => by
    unfold fpr
    rw [if_pos h]
theorem fpr_go {n f k : Nat} (h : ¬ n % f = 0) : fpr (k + 1) n f = fpr k n (f + 1) := by
  rw [fpr, if_neg h]
theorem strip_stop {n p w : Nat} (h : ¬ n % p = 0) : ∀ k, strip k n p w = (n, w)
  | 0 => rfl
  | k + 1 => by
    rw [strip, if_neg h]
theorem strip_go {n p w k : Nat} (h : n % p = 0) : strip (k + 1) n p w = strip k (n / p) p (w * p) := by
  rw [strip, if_pos h]
theorem ppw_stop {n p : Nat} {acc : List Nat} (h : ¬ 1 < n) : ∀ k, ppw k n p acc = acc
  | 0 => rfl
  | k + 1 => by
    rw [ppw, if_neg h]
theorem ppw_go {n p k : Nat} {acc : List Nat} (h : 1 < n) : ppw (k + 1) n p acc = ppw k (strip n n p 1).1 (p + 1) (if 1 < (strip n n p 1).2 then acc ++ [(strip n n p 1).2] else acc) := by
  rw [ppw, if_pos h]
theorem dvi {a b : Nat} : ((a : Int) / (b : Int)) = ((a / b : Nat) : Int) := rfl
theorem mdi {a b : Nat} : ((a : Int) % (b : Int)) = ((a % b : Nat) : Int) := rfl
theorem mli {a b : Nat} : ((a : Int) * (b : Int)) = ((a * b : Nat) : Int) := rfl
section
variable {P : Program} {w : World} {K : PySem.W.Frag} {mg : Str → Option Value} {base : Heap}
/-! ### first_prime -/
def spFirst : Sp := fun vs H Q _ => ∃ n : Nat, vs = [.int n] ∧ 2 ≤ n ∧ n ≤ 1000 ∧ Q (.int (fprime n : Nat)) H
theorem scFirst : FnScope ["number", "found"] ["number"] (defScope sFirstPrime) := ⟨rfl, rfl, rfl, by decide +kernel, rfl, by decide +kernel, by decide +kernel⟩
theorem ok_first {f : Addr} {fd : FuncData} (F : Fun K "first_prime" "first_prime" sFirstPrime f fd) : FnOk P w K mg base CX0 1 f fd ["number"] spFirst := by
  refine F.ok scFirst (fun vs H Q E h => ?_) (fun cdv A outer s H vs Q E hr h => ?_)
  · obtain ⟨n, rfl, _⟩ := h
    rfl
  · obtain ⟨n, rfl, h2, h3, k⟩ := h
    refine ⟨_, pss_cons (ps_set (i := 1) scFirst.nd rfl (.inl rfl) pe_int)
      (pss_cons (ps_while PassesOwn.never (pt_cmpR op_gt (pe_op op_mod (pv 0) (pv 1)) pe_int (nomark _)) (pss_one (ps_set (i := 1) scFirst.nd rfl (.inl rfl) (pe_op op_add (pv 1) pe_int))))
      (pss_one (ps_ret (pv 1)))), ?_⟩
    refine ⟨fun m σ H' => ∃ f : Nat, σ = [some (.int n), some (.int f)] ∧ H' = H ∧ 2 ≤ f ∧ f + m = n ∧ fpr m n f = fprime n, ⟨n - 2, 2, rfl, rfl, Nat.le_refl _, by omega, rfl⟩, ?_⟩
    rintro m σ H' ⟨f, rfl, rfl, f2, fm, e⟩
    refine ⟨_, rfl, _, rfl, _, _, rfl, rfl, (by show (0 : Int) < f; omega), _, _, rfl, rfl, _, rfl, ite2 (fun hc => ?_) (fun hc => ?_)⟩
    · have hc' : ¬ n % f = 0 := by
        have q : (0 : Int) < ((n % f : Nat) : Int) := of_decide_eq_true hc
        omega
      have hm : m ≠ 0 := by
        rintro rfl
        apply hc'
        have : f = n := by omega
        rw [this, Nat.mod_self]
      obtain ⟨m', rfl⟩ : ∃ m', m = m' + 1 := ⟨m - 1, by omega⟩
      refine ⟨fun σ' H'' => σ' = [some (.int n), some (.int ((f + 1 : Nat) : Int))] ∧ H'' = H', ?_, ?_⟩
      · rintro σ' H'' ⟨rfl, rfl⟩
        exact ⟨m', Nat.lt_succ_self _, f + 1, rfl, rfl, by omega, by omega, by rw [← e, fpr_go hc']⟩
      · exact ⟨_, rfl, _, _, rfl, rfl, rfl, rfl⟩
    · have hc' : n % f = 0 := by
        have q : ¬ (0 : Int) < ((n % f : Nat) : Int) := fun z => hc (decide_eq_true z)
        omega
      refine ⟨_, rfl, ?_⟩
      rw [fpr_stop hc'] at e
      rw [e]
      exact k
/-! ### prime_powers -/
def spPowers : Sp := fun vs H Q _ => ∃ n : Nat, vs = [.int n] ∧ 1 ≤ n ∧ n ≤ 1000 ∧ ∀ (H' : Hp) (l : Addr), Same H H' → H' l = some (.lst (tv (ppows n))) → Q (.ref l) H'
theorem scPowers : FnScope ["number", "found", "prime", "whole"] ["number"] (defScope sPowers) := ⟨rfl, rfl, rfl, by decide +kernel, rfl, by decide +kernel, by decide +kernel⟩
theorem ok_powers {f : Addr} {fd : FuncData} (F : Fun K "prime_powers" "prime_powers" sPowers f fd) : FnOk P w K mg base CX0 1 f fd ["number"] spPowers := by
  refine F.ok scPowers (fun vs H Q E h => ?_) (fun cdv A outer s H vs Q E hr h => ?_)
  · obtain ⟨n, rfl, _⟩ := h
    rfl
  · obtain ⟨n, rfl, h1, h3, k⟩ := h
    refine ⟨_, pss_cons (ps_par (i := 1) (j := 2) (by rfl) scPowers.nd rfl rfl (by decide) rfl rfl (pa_cons (pe_lst pa_nil) (pa_cons pe_int pa_nil)) (by rfl))
      (pss_cons (ps_while PassesOwn.never (pt_cmpR op_gt (pv 0) pe_int (nomark _))
        (pss_cons (ps_set (i := 3) scPowers.nd rfl (.inl rfl) pe_int)
        (pss_cons (ps_while PassesOwn.never (pt_cmpR op_eq (pe_op op_mod (pv 0) (pv 2)) pe_int (nomark _))
          (pss_one (ps_par (i := 0) (j := 3) (by rfl) scPowers.nd rfl rfl (by decide) rfl rfl (pa_cons (pe_op op_fdiv (pv 0) (pv 2)) (pa_cons (pe_op op_mul (pv 3) (pv 2)) pa_nil)) (by rfl))))
        (pss_cons (ps_if (pt_cmpR op_gt (pv 3) pe_int (nomark _)) (pss_one (ps_expr (pe_bm PySem.F.plainAttrs_list PySem.F.slot_list_append PySem.F.type_list_append mt_append (pv 1) (pa_cons (pv 3) pa_nil)))) pss_nil)
        (pss_one (ps_set (i := 2) scPowers.nd rfl (.inl rfl) (pe_op op_add (pv 2) pe_int)))))))
      (pss_one (ps_ret (pv 1)))), ?_⟩
    refine ⟨Nat.zero_le _, fun l hl => ⟨_, _, rfl, ?_⟩⟩
    refine ⟨fun m σ H' => ∃ (z p : Nat) (acc : List Nat) (v : Option V), σ = [some (.int z), some (.ref l), some (.int p), v] ∧ Same H H' ∧ H' l = some (.lst (tv acc)) ∧ ppw m z p acc = ppows n ∧ z + 2 ≤ m + p ∧ (∀ q, 2 ≤ q → q < p → ¬ q ∣ z) ∧ 1 ≤ z ∧ z ≤ 1000 ∧ 2 ≤ p ∧ p ≤ 1001 ∧ acc.length ≤ p,
      ⟨n, n, 2, [], none, rfl, same_upd hl, upd_same, rfl, Nat.le_refl _, fun q a b => absurd a (by omega), h1, h3, Nat.le_refl _, by omega, Nat.zero_le _⟩, ?_⟩
    rintro m σ H1 ⟨z, p, acc, v, rfl, s1, eL, e, hm, nd, z1, z3, p2, p3, la⟩
    refine ⟨_, rfl, _, _, rfl, rfl, _, rfl, ite2 (fun hc => ?_) (fun hc => ?_)⟩
    · have hz : 1 < z := by
        have q : (1 : Int) < (z : Int) := of_decide_eq_true hc
        omega
      have hpz : p ≤ z := by
        by_cases c : p ≤ z
        · exact c
        · exact absurd (Nat.dvd_refl z) (nd z (by omega) (by omega))
      obtain ⟨m', rfl⟩ : ∃ m', m = m' + 1 := ⟨m - 1, by omega⟩
      rw [ppw_go hz] at e
      refine ⟨fun σ' H'' => ∃ (z' p' : Nat) (acc' : List Nat) (v' : Option V), σ' = [some (.int z'), some (.ref l), some (.int p'), v'] ∧ Same H H'' ∧ H'' l = some (.lst (tv acc')) ∧ ppw m' z' p' acc' = ppows n ∧ z' + 2 ≤ m' + p' ∧ (∀ q, 2 ≤ q → q < p' → ¬ q ∣ z') ∧ 1 ≤ z' ∧ z' ≤ 1000 ∧ 2 ≤ p' ∧ p' ≤ 1001 ∧ acc'.length ≤ p', ?_, ?_⟩
      · rintro σ' H'' q
        exact ⟨m', Nat.lt_succ_self _, q⟩
      · refine ⟨fun mm σ' H'' => ∃ (z' w' : Nat), σ' = [some (.int z'), some (.ref l), some (.int p), some (.int w')] ∧ H'' = H1 ∧ strip mm z' p w' = strip z z p 1 ∧ z' ≤ mm ∧ 1 ≤ z' ∧ w' * z' = z, ⟨z, z, 1, rfl, rfl, rfl, Nat.le_refl _, z1, Nat.one_mul _⟩, ?_⟩
        rintro mm σ' H'' ⟨z', w', rfl, rfl, e', hzm, z1', ew⟩
        have w1 : 1 ≤ w' := by
          rcases Nat.eq_zero_or_pos w' with q | q
          · rw [q, Nat.zero_mul] at ew
            omega
          · exact q
        have wz : w' ≤ z := by
          rw [← ew]
          exact Nat.le_mul_of_pos_right _ z1'
        have zz : z' ≤ z := by
          rw [← ew]
          exact Nat.le_mul_of_pos_left _ w1
        refine ⟨_, rfl, _, rfl, _, _, rfl, rfl, (by show (0 : Int) < p; omega), rfl, _, rfl, ite2 (fun hc' => ?_) (fun hc' => ?_)⟩
        · have hd : z' % p = 0 := by
            have q : V.int ((z' % p : Nat) : Int) = V.int 0 := of_decide_eq_true hc'
            have q' := V.int.inj q
            omega
          obtain ⟨mm', rfl⟩ : ∃ mm', mm = mm' + 1 := ⟨mm - 1, by omega⟩
          have hdv : p * (z' / p) = z' := Nat.mul_div_cancel' (Nat.dvd_of_mod_eq_zero hd)
          have hdl : z' / p < z' := Nat.div_lt_self (by omega) (by omega)
          have hd1 : 1 ≤ z' / p := by
            rcases Nat.eq_zero_or_pos (z' / p) with q | q
            · rw [q] at hdv
              omega
            · exact q
          refine ⟨fun σ2 H2 => σ2 = [some (.int ((z' / p : Nat) : Int)), some (.ref l), some (.int p), some (.int ((w' * p : Nat) : Int))] ∧ H2 = H'', ?_, ?_⟩
          · rintro σ2 H2 ⟨rfl, rfl⟩
            refine ⟨mm', Nat.lt_succ_self _, z' / p, w' * p, rfl, rfl, ?_, by omega, hd1, ?_⟩
            · rw [← e', strip_go hd]
            · rw [Nat.mul_assoc, hdv, ew]
          · refine ⟨_, rfl, _, rfl, _, _, rfl, rfl, ⟨(by show (0 : Int) < p; omega), (by show (p : Int) < 1073741824; omega)⟩, _, rfl, _, rfl, _, _, rfl, rfl, .inl ⟨?_, ?_⟩, _, _, rfl, rfl, rfl⟩
            · show -(2 ^ 64 : Int) < (w' : Int)
              omega
            · show (w' : Int) < 2 ^ 64
              omega
        · have hd : ¬ z' % p = 0 := fun q => hc' (decide_eq_true (by
            show V.int ((z' % p : Nat) : Int) = V.int 0
            rw [q]
            rfl))
          rw [strip_stop hd] at e'
          rw [← e'] at e
          have nd' : ∀ q, 2 ≤ q → q < p + 1 → ¬ q ∣ z' := fun q a b d => by
            by_cases c : q = p
            · rw [c] at d
              exact hd (Nat.mod_eq_zero_of_dvd d)
            · exact nd q a (by omega) (Nat.dvd_trans d ⟨w', by rw [← ew, Nat.mul_comm]⟩)
          refine ⟨_, rfl, _, _, rfl, rfl, _, rfl, ite2 (fun hw => ?_) (fun hw => ?_)⟩
          · have hw' : 1 < w' := by
              have q : (1 : Int) < (w' : Int) := of_decide_eq_true hw
              omega
            have e2 : ppw m' z' (p + 1) (acc ++ [w']) = ppows n := by
              rw [← e]
              show _ = ppw m' z' (p + 1) (if 1 < w' then acc ++ [w'] else acc)
              rw [if_pos hw']
            refine ⟨_, rfl, .inl ⟨rfl, _, SqL.of eL⟩, _, rfl, l, _, _, rfl, rfl, eL, ?_, ?_⟩
            · rw [tv_len]
              exact map_len_lt (by omega)
            · refine ⟨_, rfl, _, _, rfl, rfl, z', p + 1, acc ++ [w'], _, rfl, ?_, ?_, e2, by omega, nd', z1', by omega, by omega, by omega, ?_⟩
              · exact same_updw s1 hl
              · rw [upd_same]
                unfold tv
                rw [List.map_append]
                rfl
              · rw [List.length_append, List.length_singleton]
                omega
          · have hw' : ¬ 1 < w' := fun q => hw (decide_eq_true (by
              show (1 : Int) < (w' : Int)
              omega))
            have e2 : ppw m' z' (p + 1) acc = ppows n := by
              rw [← e]
              show _ = ppw m' z' (p + 1) (if 1 < w' then acc ++ [w'] else acc)
              rw [if_neg hw']
            exact ⟨_, rfl, _, _, rfl, rfl, z', p + 1, acc, _, rfl, s1, eL, e2, by omega, nd', z1', by omega, by omega, by omega, by omega⟩
    · have hz : ¬ 1 < z := fun q => hc (decide_eq_true (by
        show (1 : Int) < (z : Int)
        omega))
      rw [ppw_stop hz] at e
      rw [e] at eL
      exact ⟨_, rfl, k _ _ s1 eL⟩
end
end BN
/-! rules that the layer lacks: enumerate of a tuple; sorted of a tuple -/
namespace BN
open PySem PySem.Spec PyProof.Rows L2
section
open PySem
theorem enum_new1 {v : Value} {o : Obj} {H : Heap → Prop} (B : Begins v o H) :
    Meets (Builtin.«enumerate.__new__» ⟨[.type "enumerate", v], []⟩) (fun _ R s => H s.heap ∧
      R (.ok (.ret (.ref (s.heap.push o).objs.size))) { s with heap := (s.heap.push o).push { cls := .type "enumerate", data := .fields #[.none, .bool false, .ref s.heap.objs.size, rawInt 0, .none, .none] } }) :=
  .of_wp fun prog w A R s h => by
    obtain ⟨hp, g, d, tk, os⟩ := s; obtain ⟨h1, h⟩ := h
    have hsub := sub_enumerate
    have q1 : ∀ {A' : Around} {E : Value → Shared → Prop} {Q : Value → Shared → Prop}, Q (.ref hp.objs.size) ⟨hp.push o, g, d, tk, os⟩ → wpAny (model prog w) A' (pyIter v) Q E ⟨hp, g, d, tk, os⟩ :=
      fun q => B.iter prog w _ _ ⟨hp, g, d, tk, os⟩ _ h1 q
    wp_walk using q1
    refine wpAny_stack_any fun st => wpAny_pure ?_
    split
    · rename_i c _ _ _ _ _
      cases (c == Value.type "enumerate")
      · wp_walk using q1
        exact ⟨_, rfl, h⟩
      · wp_walk using q1
        exact ⟨_, rfl, h⟩
    · wp_walk using q1
      exact ⟨_, rfl, h⟩
variable {prog : Program} {w : World} {A : Around} {E : Value → Shared → Prop} {s : Shared}
theorem enum_begins1 {v : Value} {o : Obj} {H : Heap → Prop} {Q : Value → Shared → Prop} (B : Begins v o H) (h1 : H s.heap)
    (h : ∀ h', IsEnum h' (s.heap.objs.size + 1) s.heap.objs.size 0 .none → h'.get? s.heap.objs.size = some o → h'.objs.size = s.heap.objs.size + 2 →
      (∀ b o, s.heap.get? b = some o → h'.get? b = some o) → Q (.ref (s.heap.objs.size + 1)) { s with heap := h' }) :
    wpAny (model prog w) A (call (.type "enumerate") [v]) Q E s := by
  refine callType_new F.called_enumerate (by decide) (F.typeCall_enumerate_1 _) (F.newCall_enumerate_1 _) (fun obj => F.args_object_init_2 obj _) F.entry_enumerate_new
    (enum_new1 B) ⟨h1, ?_⟩
  have hz : (s.heap.push o).objs.size = s.heap.objs.size + 1 := Heap.size_push ..
  show _ ∧ _
  rw [hz]
  have he : IsEnum ((s.heap.push o).push { cls := .type "enumerate", data := .fields #[.none, .bool false, .ref s.heap.objs.size, rawInt 0, .none, .none] }) (s.heap.objs.size + 1) s.heap.objs.size 0 .none := by
    have := Heap.get?_push_size (s.heap.push o) (o := { cls := .type "enumerate", data := .fields #[.none, .bool false, .ref s.heap.objs.size, rawInt 0, .none, .none] }) rfl
    rw [hz] at this; exact this
  exact ⟨⟨_, he, rfl⟩, h _ he (Heap.get?_push_of_some _ (Heap.get?_push_size _ B.free)) (by rw [Heap.size_push, hz]) fun b o x => Heap.get?_push_of_some _ (Heap.get?_push_of_some _ x)⟩
end
/-- the tuple at a, each item in a new pair -/
def ItET (K : PySem.W.Frag) (a : Addr) : It :=
  ⟨fun i H => ∃ (xs : List V) (x : V), SqT K H a xs ∧ xs[i]? = some x, fun i H v H' => ∃ T x, v = .ref T ∧ H T = none ∧ H' = upd H T (.tup [.int (i : Nat), x]) ∧ ∀ xs, SqT K H a xs → xs[i]? = some x, fun i H => ∃ xs : List V, SqT K H a xs ∧ xs.length ≤ i⟩
theorem enum_ne_tup {h : Heap} {e it a : Addr} {i : Int} {old : Value} {its : Array Value} (he : IsEnum h e it i old) (ht : IsTup h a its) : e ≠ a := by
  rintro rfl
  obtain ⟨o, ho, hc, _⟩ := ht
  have he' : h.get? e = some _ := he
  rw [ho] at he'
  have q := Option.some.inj he'
  subst q
  exact absurd (Value.type.inj hc) (by decide)
theorem iter_ne_tup {h : Heap} {it a : Addr} {i : Nat} {its : Array Value} (hi : h.IsTupleIter it a i) (ht : IsTup h a its) : a ≠ it := by
  rintro rfl
  obtain ⟨o, ho, hc, _⟩ := ht
  obtain ⟨o', ho', hc', _⟩ := hi
  rw [ho] at ho'
  have q := Option.some.inj ho'
  subst q
  rw [hc] at hc'
  exact absurd (Value.type.inj hc') (by decide)
theorem turn_enumT {P : Program} {w : World} {K : PySem.W.Frag} {elts : List Expr} {kk : Nat} {tpos : Pos} (a e it : Addr) :
    Turn P w K (.Tuple elts kk tpos) (ItET K a) [e, it] e (fun i h => (∃ old, IsEnum h e it ((i : Nat) : Int) old) ∧ h.IsTupleIter it a i ∧ e ≠ it) where
  mem := by simp
  obj := fun i h st b hb => by
    obtain ⟨⟨old, he⟩, ⟨o, ho, hc, hd⟩, _⟩ := st
    have e' : b = e ∨ b = it := by simpa using hb
    rcases e' with z | z
    · rw [z]; exact ⟨_, he, fun v q => nomatch q⟩
    · rw [z]; exact ⟨o, ho, fun v q => by rw [hd] at q; cases q⟩
  keep := fun i h h' st k => let ⟨⟨old, he⟩, hi, hne⟩ := st; ⟨⟨old, k e (by simp) _ he⟩, hi.at fun o q => k it (by simp) o q, hne⟩
  item := by
    intro X hP hw hK hc i pins s σ H E I hf st hg
    subst hP hw hK
    obtain ⟨⟨old, he⟩, hit, hne⟩ := st
    obtain ⟨xs, x, hq, hx⟩ := hg
    obtain ⟨its, rv, p, hz⟩ := I.tuple hq
    obtain ⟨u, hu, ru⟩ := rv.get hx
    have hel : e < s.heap.objs.size := Heap.lt_size he
    have hil : it < s.heap.objs.size := by obtain ⟨_, q, _⟩ := hit; exact Heap.lt_size q
    have p' : s.heap.IsTuple a its.toArray := p
    have nea : e ≠ a := enum_ne_tup he p
    have nia : a ≠ it := iter_ne_tup hit p
    have hlt : i < its.toArray.size := by
      have q := (List.getElem?_eq_some_iff.mp hu).1
      simpa using q
    have D := Draws.tuple (prog := X.prog) (w := X.w) (A := X.A.in1) (I.ok.hd hc) it a nia its.toArray
    refine wpAny_pyNext_enum_itemC D he ⟨hit, p'⟩ hlt hne (by simp [hne, nea]) fun y h' tk hy ho hit' hT hsz hk => ?_
    have ey : y = u := by
      have q : its.toArray[i]? = some u := by simpa using hu
      rw [q] at hy
      exact (Option.some.inj hy).symm
    subst ey
    refine ⟨_, rfl, wpAny_letOwnedTupleGo_enum (s := { s with heap := h', toks := tk + 1 }) ho fun h'' he' sb => ?_⟩
    have hT2 : h''.get? s.heap.objs.size = some { cls := .type "tuple", data := .seq #[.int i tk, y] } := (sb.2 _ (Nat.ne_of_gt hel)).trans hT
    have new : ObjOk X.prog X.w (upd H s.heap.objs.size (.tup [.int (i : Nat), x])) h'' s.heap.objs.size (.tup [.int (i : Nat), x]) :=
      ⟨by show 2 ≤ sizeLine; decide, [.int i tk, y], .cons ⟨_, rfl⟩ (.cons ru .nil), ⟨_, hT2, rfl, _, rfl⟩⟩
    have I1 : Inv X pins σ (upd H s.heap.objs.size (.tup [.int (i : Nat), x])) { s with heap := h'', toks := tk + 1 } :=
      I.turnedNew (ch := [e, it]) (fun b ob hb q => (sb.2 b (fun z => hb (by simp [z]))).trans (hk b ob (fun z => hb (by simp [z])) (fun z => hb (by simp [z])) q)) hf (Nat.le_refl _) new
    refine ⟨.ref s.heap.objs.size, _, I1, rfl, ⟨_, x, rfl, I.hok.fresh (Nat.le_refl _), rfl, fun ys hy => by rw [I.tuple_inj hy hq]; exact hx⟩, ⟨⟨y, ?_⟩, hit'.1.at fun o q => (sb.2 it (Ne.symm hne)).trans q, hne⟩, fun b hb => ?_⟩
    · have e1 : ((i + 1 : Nat) : Int) = (i : Int) + 1 := by omega
      rw [e1]; exact he'
    · have hb' : b < s.heap.objs.size := by
        have e' : b = e ∨ b = it := by simpa using hb
        rcases e' with z | z
        · rw [z]; exact hel
        · rw [z]; exact hil
      rw [upd_ne (Nat.ne_of_lt hb')]
      exact (hf b hb).1
  done := by
    intro X hP hw hK hc i pins s σ H E I hf st hg
    subst hP hw hK
    obtain ⟨⟨old, he⟩, hit, hne⟩ := st
    obtain ⟨xs, hq, hx⟩ := hg
    obtain ⟨its, rv, p, hz⟩ := I.tuple hq
    obtain ⟨f0, f1, f2, f3, f4, f5⟩ := hf it (by simp)
    have hl := rv.length
    have p' : s.heap.IsTuple a its.toArray := p
    have hnx : its.toArray[i]? = none := by
      simp
      omega
    unfold pyNext
    refine wpAny_bind (wpAny_attempt (wpAny_callSpecial?_slot (name := Str.ofString "__next__") ⟨_, he, rfl⟩ F.slot_enumerate_next
      (wpAny_call_entry F.slot_enumerate_next ⟨_, he, rfl⟩ F.entry_enumerate_next ?_ (F.args_enumerate_next_1 _))))
    show wpAny _ _ (field (.ref e) 2 >>= _) _ _ _
    refine wpAny_bind (wpAny_field he rfl (x := .ref it) rfl ?_)
    refine wpAny_bind (wpAny_nextOf_tuple_end (I.ok.hd hc) hit p' hnx fun h' z he' hx' => ?_)
    obtain ⟨o, ho, hc'⟩ := hx'
    refine wpAny_bind (wpAny_isInstance (T := "StopIteration") (b := true) ⟨o, ho, hc'⟩ isSubtype_stop ?_)
    exact wpAny_pure ⟨rfl, I.turned (t' := s.toks) (fun b o hb q => he' b o hb q) f0 f1 f3 f4 f5⟩
  self := fun A i s Q E st h => let ⟨⟨_, he⟩, _⟩ := st; wpAny_pyIter_enum he h
def iEnumT (K : PySem.W.Frag) (ta : TA) : TI := fun σ H R => ta σ H fun vs H1 => ∃ a xs, vs = [.ref a] ∧ SqT K H1 a xs ∧ R (ItET K a) H1
theorem pi_enumT {X : Cx} {e : Expr} {ta : TA} {p pos tpos : Pos} {elts : List Expr} {kk : Nat} (hg : Gl X "enumerate") (hm : X.mg "enumerate" = none) (ha : PA X [e] ta) (hs : starEach [e] X.env = [(false, eval e X.env)] := by rfl) :
    PI X (.Tuple elts kk tpos) (.Call (.Name "enumerate" p) [e] [] pos) (iEnumT X.K ta) := by
  refine ⟨fun pins s σ H R I h => ?_⟩
  refine Call_ (ld_blt I hg hm boot_enumerate (PyProof.Rows.callWith_type1 (thn (ha.run pos pins s σ H _ I h) fun us s1 ⟨vs, H1, I1, r1, q1⟩ => ?_) hs rfl))
  obtain ⟨a, xs, ex, hq, q⟩ := q1
  subst ex
  cases r1 with
  | cons r rr =>
    cases rr
    cases r
    obtain ⟨its, rv, p', hz⟩ := I1.tuple hq
    refine enum_begins1 (begins_tuple a its.toArray) (show s1.heap.IsTuple a its.toArray from p') fun h' he hit hsz hk => wpAny_pyIter_enum he ?_
    have I2 : Inv X pins σ H1 { s1 with heap := h' } := I1.kept (t' := s1.toks) hk
    refine ⟨s1.heap.objs.size + 1, [s1.heap.objs.size + 1, s1.heap.objs.size], _, _, H1, rfl, I2, turn_enumT a (s1.heap.objs.size + 1) s1.heap.objs.size, ⟨⟨.none, he⟩, ⟨_, hit, rfl, rfl⟩, Nat.succ_ne_self _⟩, fun b hb => ?_, q⟩
    have e' : b = s1.heap.objs.size + 1 ∨ b = s1.heap.objs.size := by simpa using hb
    have hle : s1.heap.objs.size ≤ b := by
      rcases e' with z | z
      · rw [z]; exact Nat.le_add_right _ _
      · rw [z]; exact Nat.le_refl _
    exact I1.fpOk hle (I1.hok.fresh hle)
/-- over such pairs -/
theorem for_enumT {K : PySem.W.Frag} {a : Addr} {xs : List V} {g : TG} {tb : TS} {D : Ends} {σ : L2.St} {H : Hp} (Pv : Nat → L2.St → Hp → Prop) (h0 : Pv 0 σ H) (hl : ∀ i σ H, i ≤ xs.length → Pv i σ H → SqT K H a xs)
    (hs : ∀ i x T σ H, xs[i]? = some x → Pv i σ H → H T = none → g (.ref T) σ (upd H T (.tup [.int (i : Nat), x])) fun σ2 H2 => tb { D with nx := Pv (i + 1), ct := Pv (i + 1), bk := D.nx } σ2 H2) (hd : ∀ σ H, Pv xs.length σ H → D.nx σ H) :
    ∃ W : Nat → Nat → L2.St → Hp → Prop, (∃ m, W 0 m σ H) ∧ ∀ i m σ H, W i m σ H →
      ((ItET K a).stop i H ∧ D.nx σ H) ∨ ((ItET K a).go i H ∧ ∃ N : L2.St → Hp → Prop, (∀ σ' H', N σ' H' → ∃ m', m' < m ∧ W (i + 1) m' σ' H') ∧ ∀ x H', (ItET K a).yld i H x H' → g x σ H' fun σ2 H2 => tb { D with nx := N, ct := N, bk := D.nx } σ2 H2) := by
  refine ⟨fun i m σ H => m = xs.length - i ∧ i ≤ xs.length ∧ Pv i σ H, ⟨xs.length, by simp, Nat.zero_le _, h0⟩, ?_⟩
  rintro i m σ H ⟨rfl, hi, p⟩
  have q := hl i σ H hi p
  by_cases hlt : i < xs.length
  · refine .inr ⟨⟨xs, xs[i], q, by simp [hlt]⟩, Pv (i + 1), fun σ' H' p' => ⟨xs.length - (i + 1), by omega, rfl, hlt, p'⟩, fun v H' y => ?_⟩
    obtain ⟨T, x, rfl, hT, rfl, y⟩ := y
    exact hs i x T σ H (y xs q) p hT
  · have e : i = xs.length := by omega
    subst e
    exact .inl ⟨⟨xs, q, Nat.le_refl _⟩, hd σ H p⟩
end BN
namespace BN
open PySem PySem.Spec PyProof.Rows L2
/-- sorted(t), t a tuple of ints -/
def rSortedT (K : PySem.W.Frag) : List V → Hp → VK → Prop := fun vs H Q => ∃ (a : Addr) (ns : List Int), vs = [V.ref a] ∧ SqT K H a (ns.map V.int) ∧
  ∀ (ns' : List Int) (p : Addr), ns'.Perm ns → ns'.Pairwise (· ≤ ·) → H p = none → Q (.ref p) (upd H p (.lst (ns'.map V.int)))
theorem cr_sortedT {X : Cx} : CallR X (.builtin "sorted") (rSortedT X.K) := by
  intro pins s σ H vs us Q I r h
  obtain ⟨a, ns, rfl, hs, q⟩ := h
  obtain ⟨its, rv, pt, hz⟩ := I.tuple hs
  rw [Vals.ref1 r]
  have hi := rv.ints
  have hzl : its.length ≤ sizeLine := by rw [← rv.length]; exact hz
  obtain ⟨o, ho, hc, n, hd⟩ := pt
  obtain ⟨hp, g, d, tk, os⟩ := s
  refine Calls.call_function_entry kind_sorted plain_sorted entry_sorted (args_sorted1 _) ?_
  unfold Builtin.«sorted»
  refine wpAny_bind (m := checkCount "sorted" 1 1 _) (wpAny_pure ?_)
  refine wpAny_bind (wpAny_collect_seq a (.inr rfl) ho hc hd (fun h' hk => ?_) (by simpa using hzl))
  refine wpAny_bind (wpAny_newList ?_ (by simpa using hzl))
  have hoL : (h'.push (seqObj "list" its.toArray 0)).get? h'.objs.size = some (seqObj "list" its.toArray 0) := Heap.get?_push_size _ rfl
  show wpAny _ _ _ _ _ ⟨h'.push (seqObj "list" its.toArray 0), g, d, tk, os⟩
  refine wpAny_bind (wpAny_holding (wpAny_call_entry slot_list_sort ⟨_, hoL, rfl⟩ entry_list_sort (SrtO.list_sort_ord SrtO.swo_int hoL hzl (fun h2 => SrtO.ints_sortable hi h2) fun out h1 h2 => ⟨_, rfl, ?_⟩) (args_list_sort _)))
  refine wpAny_pure ⟨_, rfl, ?_⟩
  obtain ⟨k1, k2, k3⟩ := SrtO.ints_out hi h1 h2
  obtain ⟨ep, he'⟩ := PyProof.Rows.sortedHeap_at (vs := its) (out := out.toArray) hoL
  have hlen : ((out.map SrtO.iv).map V.int).length ≤ sizeLine := by
    rw [List.length_map, k2.length_eq]
    rw [List.length_map] at hz
    exact hz
  have I1 : Inv X pins σ H ⟨h', g, d, tk, os⟩ := I.kept (t' := tk) hk
  have I2 := I1.laid (t' := tk) (a := h'.objs.size) (o := .lst ((out.map SrtO.iv).map V.int)) (fun b u hu => by
    rw [PyProof.Rows.sortedHeap_old (Nat.ne_of_lt (Heap.lt_size hu)) (Heap.lt_size (Heap.get?_push_of_some _ hu))]
    exact Heap.get?_push_of_some _ hu) (Nat.le_refl _) (show ObjOk X.prog X.w _ _ _ (.lst ((out.map SrtO.iv).map V.int)) from ⟨hlen, out, ep, vals_of_ints k1, he'⟩)
  exact ⟨.ref h'.objs.size, _, I2, rfl, q _ _ k2 k3 (I1.hok.fresh (Nat.le_refl _))⟩
end BN
namespace BN
open PySem PySem.Spec PyProof.Rows L2
/-! ### == and != of tuples and of lists of ints -/
theorem eqvAll_int : ∀ (p q : List Int), PyData.eqvAll (p.map PyData.int) (q.map PyData.int) = decide (p = q)
  | [], [] => by simp [PyData.eqvAll]
  | [], y :: q => by simp [PyData.eqvAll]
  | x :: p, [] => by simp [PyData.eqvAll]
  | x :: p, y :: q => by
    rw [List.map_cons, List.map_cons, PyData.eqvAll, eqvAll_int p q, PyData.eqv]
    by_cases e : x = y
    · subst e
      by_cases e2 : p = q
      · subst e2
        simp
      · simp [e2]
    · simp [e]
theorem canLay_int : ∀ p : List Int, PyData.canLayAll0 (p.map PyData.int) = true
  | [] => rfl
  | x :: p => by
    rw [List.map_cons, PyData.canLayAll0, canLay_int p]
    rfl
theorem depth_int : ∀ p : List Int, PyData.depthAll (p.map PyData.int) = 0
  | [] => rfl
  | x :: p => by
    rw [List.map_cons, PyData.depthAll, depth_int p]
    rfl
theorem shaped_tup (p : List Int) : SeqAt.shaped (.tuple (p.map PyData.int)) = true := by
  unfold SeqAt.shaped
  rw [PyData.canLay0, PyData.depth, canLay_int, depth_int]
  rfl
theorem shaped_lst (p : List Int) : SeqAt.shaped (.list (p.map PyData.int)) = true := by
  unfold SeqAt.shaped
  rw [PyData.canLay0, PyData.depth, canLay_int, depth_int]
  rfl
theorem dpAll_int {K : PySem.W.Frag} {H : Hp} : ∀ p : List Int, DpAll K H (p.map V.int) (p.map PyData.int)
  | [] => .nil
  | x :: p => .cons (.int x) (dpAll_int p)
theorem tv_ints (l : List Nat) : tv l = (l.map fun i => ((i : Nat) : Int)).map V.int := by
  unfold tv
  rw [List.map_map]
  rfl
theorem natInt_inj : ∀ {p q : List Nat}, (p.map fun i => ((i : Nat) : Int)) = (q.map fun i => ((i : Nat) : Int)) → p = q
  | [], [], _ => rfl
  | [], _ :: _, h => by cases h
  | _ :: _, [], h => by cases h
  | x :: p, y :: q, h => by
    rw [List.map_cons, List.map_cons] at h
    injection h with h1 h2
    rw [Int.ofNat.inj h1, natInt_inj h2]
section
variable {X : Cx}
def rEqT (K : PySem.W.Frag) : R2 := fun x y H Q => ∃ (a b : Addr) (p q : List Nat), x = .ref a ∧ y = .ref b ∧ SqT K H a (tv p) ∧ SqT K H b (tv q) ∧ Q (.bl (decide (p = q))) H
theorem op_eqT (hu : X.A.units + 64 < cLine) : OpR X (compareOp .Eq) (rEqT X.K) := by
  intro pins s σ H x y v u Q I rx ry h
  obtain ⟨a, b, p, q, rfl, rfl, ha, hb, k⟩ := h
  rw [tv_ints] at ha hb
  refine op_eqD hu pins s σ H _ _ v u Q I rx ry ⟨.tuple _, .tuple _, .tup ha (dpAll_int _), .tup hb (dpAll_int _), shaped_tup _, shaped_tup _, ?_⟩
  rw [PyData.eqv, eqvAll_int]
  by_cases e : p = q
  · rw [decide_eq_true (by rw [e])]
    rw [decide_eq_true e] at k
    exact k
  · rw [decide_eq_false (fun z => e (natInt_inj z))]
    rw [decide_eq_false e] at k
    exact k
def rNeL (K : PySem.W.Frag) : R2 := fun x y H Q => ∃ (a b : Addr) (p q : List Int), x = .ref a ∧ y = .ref b ∧ SqL K H a (p.map V.int) ∧ SqL K H b (q.map V.int) ∧ Q (.bl (!decide (p = q))) H
theorem op_neL (hu : X.A.units + 64 < cLine) : OpR X (compareOp .NotEq) (rNeL X.K) := by
  intro pins s σ H x y v u Q I rx ry h
  obtain ⟨a, b, p, q, rfl, rfl, ha, hb, k⟩ := h
  refine op_neD hu pins s σ H _ _ v u Q I rx ry ⟨.list _, .list _, .lst ha (dpAll_int _), .lst hb (dpAll_int _), shaped_lst _, shaped_lst _, ?_⟩
  rw [PyData.eqv, eqvAll_int]
  exact k
end
end BN
/-! InvalidChange(at): an own error over an own error over ValueError, whose __init__ says super().__init__(..) and keeps a field -/
namespace BN
open PySem PySem.W PySem.Calls PyProof.Rows PySem.HandSPX
abbrev sIC : Stmt := L2.inClass (top 2) 0
def icA : Arguments := { posonlyargs := [], args := [{ arg := "self", annotation := none, pos := ⟨6, 17, 6, 21⟩ }, { arg := "at", annotation := none, pos := ⟨6, 23, 6, 25⟩ }], vararg := none, kwonlyargs := [], kw_defaults := [], kwarg := none, defaults := [] }
def icB1 : Expr := .Call (.Attribute (.Call (.Name "super" ⟨7, 8, 7, 13⟩) [] [] ⟨7, 8, 7, 15⟩) "__init__" ⟨7, 8, 7, 24⟩) [.Constant (.str "invalid change") 0 ⟨7, 25, 7, 41⟩] [] ⟨7, 8, 7, 42⟩
def icB2 : Stmt := .Assign [.Attribute (.Name "self" ⟨8, 8, 8, 12⟩) "at" ⟨8, 8, 8, 15⟩] (.Name "at" ⟨8, 18, 8, 20⟩) ⟨8, 8, 8, 20⟩
def icB : List Stmt := [.Expr icB1 ⟨7, 8, 7, 42⟩, icB2]
def icS : Scope := { kind := .function, names := [(PySem.Str.ofString "self", .local), (PySem.Str.ofString "at", .local), (PySem.Str.ofString "__class__", .free), (PySem.Str.ofString "super", .globalImplicit)], isGenerator := false, isCoroutine := false, more := [] }
theorem icA_eq : L2.defArgs sIC = icA := rfl
theorem icB_eq : L2.defBody sIC = icB := rfl
theorem icS_eq : L2.defScope sIC = icS := rfl
/-- what the written part says of InvalidChange, at C, and of its __init__, at fI -/
structure IcTxt (prog : Program) (K : Frag) (mg : Str → Option Value) (C fI : Addr) : Prop where
  gC : mg "InvalidChange" = some (.ref C)
  cls : ∃ nm q N bs bm sn sub ab col dd k0 k1 k2 k3 k5, K.lookup C = some (excClassObj nm q C N bs bm true sn sub ab col dd k0 k1 k2 k3 k5 "ValueError.__new__") ∧ refsVE bm = true
  sa : findIn K (.ref C) "__setattr__" = some (some (.builtin "object.__setattr__"))
  ga : findIn K (.ref C) "__getattribute__" = some (some (.builtin "BaseException.__getattribute__"))
  gg : findIn K (.ref C) "__getattr__" = some none
  noN : findIn K (.ref C) "at" = some none
  iC : findIn K (.ref C) "__init__" = some (some (.ref fI))
  tC : typeIn K (.ref fI) = some (.type "function")
  kC : keepIn K (.ref C) = true
  exC : subIn K (.ref C) (.type "BaseException") = some true
  tyC : typeIn K (.ref C) = some (.type "type")
  hdC : hasDictIn K C = true
  te : exmOne K (.ref C) (.ref C) = some true
  sup : ks_superIn K C C "__init__" = some (some (.builtin "ValueError.__init__"))
  subVE : subIn K (.ref C) (.type "ValueError") = some true
  mroC : mroIn K C (.ref C) = some true
  third : nsIn K cStatics "thirdparty.any" = some none
  gsup : mg "super" = none
  ntop : (prog.main.scope.names.lookup ("super" : Str)).isSome = false
  fn : ∃ (oc : Value) (od : Option Addr) (kV doc pm : Value) (an : Option Addr) (cda : Addr) (ct : Value) (osl : Array (Option Value)) (cc : Addr) (ccl : Value) (cdd : Option Addr) (vs : Array Value) (ccs : Array (Option Value)) (file : Str) (tf : Tok) (cl : Value) (cld : Option Addr) (csl : Array (Option Value)),
    K.lookup fI = some ⟨oc, od, .func (ksFn "__init__" "InvalidChange.__init__" icA icB icS .none kV doc pm an (.ref cda) ct cc), osl⟩ ∧ codeIn K (.ref cda) "InvalidChange.__init__" = true ∧
    K.lookup cda = some ⟨ccl, cdd, .fields vs, ccs⟩ ∧ vs[2]? = some (.str file tf) ∧ ((prog.main.file : Str) == file) = true ∧ K.lookup cc = some ⟨cl, cld, .cell (some (.ref C)), csl⟩
/-- what __init__ leaves of a fresh exception at x -/
structure IcEnd (h h' : Heap) (x C dx t1 : Addr) (v : Value) : Prop where
  keep : ∀ b o, b ≠ x → h.get? b = some o → h'.get? b = some o
  obj : h'.get? x = some { cls := .ref C, dict := some dx, data := .fields #[.ref t1, .none, .none, .none, .bool false, .none] }
  dbig : h.objs.size ≤ dx
  dne : dx ≠ x
  ns : h'.Ns1 dx (fun y => if y = "at" then some v else none)
/-- a made InvalidChange -/
structure IcMade (h h' : Heap) (e C d : Addr) (v : Value) : Prop where
  keep : ∀ b o, h.get? b = some o → h'.get? b = some o
  new : h.objs.size ≤ e
  obj : ∃ oe vs, h'.get? e = some oe ∧ oe.cls = .ref C ∧ oe.dict = some d ∧ oe.data = .fields vs ∧ vs[1]? = some .none
  dbig : h.objs.size ≤ d
  dne : d ≠ e
  ns : h'.Ns1 d (fun y => if y = "at" then some v else none)
section
variable {prog : Program} {w : World} {A : Around} {E : Value → Shared → Prop} {h : Heap} {g : Array GenState} {d : Drawn} {t : Nat} {os : OsState}
variable {nm q : Str} {C N : Addr} {bs bm : List Value} {hdct : Bool} {sn : List Str} {sub : List Value} {ab : Bool} {col : Option Bool} {dd : Option Addr} {k0 k1 k2 k3 k5 : Option Value}
theorem spliced_one {M : Model} {s : Shared} {pos : Pos} {env : Env} {e : Expr} {Q : List Value → Shared → Prop} (he : starEach [e] env = (false, eval e env) :: starEach [] env) (he2 : backTo pos (starEach [] env) = [])
    (h : wpAny M A (eval e env) (fun v s₁ => Q [v] s₁) E s) : wpAny M A (spliced (backTo pos (starEach [e] env))) Q E s := by
  rw [he]
  show wpAny _ _ (spliced ((false, eval e env) :: backTo pos (starEach [] env))) _ _ s
  rw [he2]
  exact Calls.spliced_cons (wpAny_mono h (fun v s₁ q => Calls.spliced_nil q) fun _ _ x => x)
theorem callWith_mw {M : Model} {i : String} {s : Shared} {pos : Pos} {u x : Addr} {first : List Value} {env : Env} {e : Expr} {rest : List Expr} {Q : Value → Shared → Prop}
    (h : wpAny M A (spliced (backTo pos (starEach (e :: rest) env))) (fun vs s₁ => KxsAt i u x s₁.heap ∧ wpAny M A (call (.ref u) (first ++ vs)) Q E s₁) E s)
    (he : starEach (e :: rest) env = (false, eval e env) :: starEach rest env) (hplain : (backTo pos (starEach rest env)).any (·.1) = false) :
    wpAny M A (callWith pos (.ref u) first (backTo pos (starEach (e :: rest) env)) []) Q E s := by
  rw [he] at h ⊢
  refine kxs_callWith (i := i) (x := x) (by show (false || (backTo pos (starEach rest env)).any (·.1)) = false; rw [hplain]; rfl) ?_
  exact evalArgs_plain h
/-- the bound ValueError.__init__ called -/
theorem call_mw {u e t0 : Addr} {rest : List Value} {Q : Value → Shared → Prop}
    (hC : h.get? C = some (excClassObj nm q C N bs bm hdct sn sub ab col dd k0 k1 k2 k3 k5 "ValueError.__new__")) (he : h.get? e = some (excO C t0)) (hu : h.get? u = some (kxs_mw "ValueError.__init__" e)) (hrest : rest.length ≤ sizeLine)
    (hq : ∀ h' t1, (∀ b o, b ≠ e → h.get? b = some o → h'.get? b = some o) → h'.get? e = some (excO C t1) → Q .none ⟨h', g, d, t, os⟩) :
    wpAny (model prog w) A (call (.ref u) rest) Q E ⟨h, g, d, t, os⟩ := by
  refine wpAny_call (codeAny_of_tree ?_)
  show wpAny _ A.in1 (callAny (.ref u) ⟨rest, []⟩) _ _ _
  simp only [callAny]
  refine wpAny_bind (wpAny_load hu ?_)
  simp only [kxs_mw, show (Value.type "method-wrapper" == Value.type "method" || Value.type "method-wrapper" == Value.type "builtin_function_or_method" || Value.type "method-wrapper" == Value.type "method-wrapper") = true by decide, if_true]
  refine W.KFB.if_so (by decide) ?_
  refine wpAny_bind (check_bound_init F.excBase_ValueError.toExcCallFacts hC he rfl ?_)
  refine wpAny_bind (wpAny_pure (wpAny_pure ?_))
  refine ⟨Code.quiet_builtin _ (by decide +kernel), codeAny_builtin F.excBase_ValueError.initEntry ?_⟩
  rw [Around.under_plainId F.excBase_ValueError.init.plain _]
  wp_walk
  refine hq _ h.objs.size (fun b o hb ho => ?_) ?_
  · rw [Heap.get?_update_other _ _ (Ne.symm hb)]
    exact Heap.get?_push_of_some _ ho
  · rw [Heap.get?_update_self _ (Heap.get?_push_of_some _ he) rfl]
    rfl
end
section
variable {prog : Program} {w : World} {A : Around} {E : Value → Shared → Prop} {R : Result → Shared → Prop} {s : Shared} {K : Frag} {mg mb : Str → Option Value} {C fI : Addr}
theorem ic_init (T : IcTxt prog K mg C fI) {x t0 : Addr} {v : Value} (X : K.In s.heap) (hlim : s.heap.NoLimit) (hglob : s.heap.Ns mainGlobals mg) (hblt : s.heap.Ns builtinsNs mb) (hb : ∀ x : Str, x ≠ "__name__" → mb x = bootBuiltins x)
    (hx : s.heap.get? x = some (excO C t0)) (hnx : K.lookup x = none) (hroom : A.depth < recursionLimit)
    (hq : ∀ h' tk dx t1, IcEnd s.heap h' x C dx t1 v → R (.ok (.ret .none)) { s with heap := h', toks := tk }) :
    codeAny (model prog w) A (.call (.ref fI) ⟨[.ref x, v], []⟩) R s := by
  obtain ⟨oc, od, kV, doc, pm, an, cda, ct, osl, cc, ccl, cdd, vs, ccs, file, tf, cl, cld, csl, ho, hcd, hcode, hvs, hfile, hcell⟩ := T.fn
  obtain ⟨nm, q, N, bs, bm, sn, sub, ab, col, dd, k0, k1, k2, k3, k5, hC, hbm⟩ := T.cls
  have hcl : clsIn K C = some { name := nm, bases := bs, mro := .ref C :: bm, ns := N, qualname := q, hasDict := true, slotNames := sn, subclasses := sub, abstract := ab, collection := col, hasDel := false } := by unfold clsIn; rw [hC] <;> rfl
  refine ks_codeAny_call_defAt (fd := ksFn "__init__" "InvalidChange.__init__" icA icB icS .none kV doc pm an (.ref cda) ct cc) (body := icB) (binds := [("self", .ref x), ("at", v)]) hroom (X _ _ ho) rfl hlim (codeRec_of X hcd) rfl
    (BindsTo.of_eq (by first | rfl | with_unfolding_all rfl)) (show ∀ y ∈ icS.names, y.2 ≠ .cell by decide +kernel) (fun y hy => ?_) (fun h₀ hns hk => ?_) rfl rfl rfl
  · rcases List.mem_cons.mp hy with rfl | hy
    · rfl
    · obtain rfl := List.mem_singleton.mp hy
      rfl
  have hxL : s.heap.objs.size ≠ x := Nat.ne_of_gt (Heap.lt_size hx)
  have X₁ : K.In h₀ := X.keeps hk
  have hx₁ := hk _ _ hx
  obtain ⟨hp, g, dr, tk, os⟩ := s
  -- super().__init__('invalid change')
  refine ks_wpAt_execs_cons (ks_wpAt_Expr_any (ks_wpAt_MethodCall ?_))
  have I₀ : PySem.W.InstAt h₀ x (excO C t0) C none := ⟨hx₁, rfl, rfl, trivial⟩
  refine ks_wpAt_super_base (env := ksEnv "InvalidChange.__init__" icS hp.objs.size fI (.ref cda) cc) rfl rfl (by decide) rfl (X₁ _ _ ho) rfl (ar := { arg := "self", annotation := none, pos := ⟨6, 17, 6, 21⟩ }) rfl rfl (X₁ _ _ hcode) rfl hvs hfile T.ntop ?_
  refine ks_loadName_global rfl rfl (loadGlobal_builtin (env := ksEnv "InvalidChange.__init__" icS hp.objs.size fI (.ref cda) cc) (hglob.keeps hk) T.gsup (hblt.keeps hk) ((hb _ (by decide +kernel)).trans (by decide +kernel)) ⟨rfl, ?_⟩)
  refine wpAny_loadName_free rfl rfl rfl ⟨_, X₁ _ _ hcell, rfl⟩ ?_
  refine wpAny_loadName_local rfl rfl hns (show _ = some (Value.ref x) from rfl) ?_
  refine ks_wpAny_isType_cls (X₁ _ _ hC) rfl ⟨rfl, ?_⟩
  refine ks_wpAny_call_super (X₁ _ _ hC) rfl hx₁ rfl (fun c e => by cases e) (looks_mroIn X₁ T.mroC) (fun h₁ hso k₁ => ?_)
  have X₂ : K.In h₁ := X₁.keeps k₁
  have hx₂ := k₁ _ _ hx₁
  have I₂ : PySem.W.InstAt h₁ x (excO C t0) C none := ⟨hx₂, rfl, rfl, trivial⟩
  have hm := T.sup
  unfold ks_superIn at hm
  rw [hcl] at hm
  refine kxs_getMethod kxs_ValueError hso (looks_opaque X₂ T.third) (l₀ := .ref C :: bm) (fun A Q E s k q => wpAny_bind ((looks_clsIn X₂ hcl) A _ E s k (wpAny_pure q))) rfl X₂ hm (I₂.type.andThen (looks_subIn X₂ T.subVE)) (ks_ne X₂ I₂ hcl) (by decide) ?_
  -- the call of the bound method
  have hso₂ : h₁.objs.size ≠ x := Nat.ne_of_gt (Heap.lt_size hx₂)
  refine callWith_mw (i := "ValueError.__init__") (x := x) ?_ rfl rfl
  refine spliced_one (by rfl) (by rfl) (Calls.Constant_str ⟨Heap.get?_push_size _ rfl, ?_⟩)
  have k₂ : ∀ y o, h₁.get? y = some o → (h₁.push (kxs_mw "ValueError.__init__" x)).get? y = some o := fun y o e => Heap.get?_push_of_some _ e
  refine call_mw ((X₂.keeps k₂) _ _ hC) (k₂ _ _ hx₂) (Heap.get?_push_size _ rfl) (by show 1 ≤ sizeLine; decide) (fun h₃ t1 k₃ hx₃ => ?_)
  have hx₂' := k₂ _ _ hx₂
  have X₂' : K.In (h₁.push (kxs_mw "ValueError.__init__" x)) := X₂.keeps k₂
  have X₃ : K.In h₃ := fun a o e => k₃ a o (fun z => by rw [z, hnx] at e; cases e) (X₂' a o e)
  have lift : ∀ b o, b ≠ x → h₀.get? b = some o → h₃.get? b = some o := fun b o hb e => k₃ b o hb (k₂ b o (k₁ b o e))
  have hns₃ : h₃.Ns hp.objs.size (fun y => List.lookup y [(PySem.Str.ofString "self", Value.ref x), (PySem.Str.ofString "at", v)].reverse) := by
    obtain ⟨o, es, ep, ho', r⟩ := hns
    exact ⟨o, es, ep, lift _ _ hxL ho', r⟩
  -- self.at = at
  refine ks_wpAt_execs_cons (ks_wpAt_Assign_Attr (wpAt_of_wpAny ?_))
  refine wpAny_Name (wpAny_loadName_local rfl rfl hns₃ (show _ = some v from rfl) ?_) (by decide)
  refine wpAny_Name (wpAny_loadName_local rfl rfl hns₃ (show _ = some (Value.ref x) from rfl) ?_) (by decide)
  refine set_plain X₃ (ox := excO C t1) (od := none) ⟨hx₃, rfl, rfl, trivial⟩ T.sa ?_
  refine exc_osa X₃ hx₃ hcl (show refsVE (.ref C :: bm) = true from hbm) rfl T.noN (fun h₄ tk₄ dx k₄ dn dne hx₄ hn₄ => ?_)
  have big : hp.objs.size ≤ h₃.objs.size := by
    obtain ⟨o, es, ep, ho', r⟩ := hns₃
    exact Nat.le_of_lt (Heap.lt_size ho')
  refine wpAt_of_wpAny (wpAny_execs_nil (hq h₄ tk₄ dx t1 ⟨fun b o hb e => k₄ b o hb (lift b o hb (hk b o e)), hx₄, Nat.le_trans big dn, dne, hn₄⟩))
theorem ic_made (T : IcTxt prog K mg C fI) {v : Value} {s : Shared} (X : K.In s.heap) (hlim : s.heap.NoLimit) (hglob : s.heap.Ns mainGlobals mg) (hblt : s.heap.Ns builtinsNs mb) (hb : ∀ x : Str, x ≠ "__name__" → mb x = bootBuiltins x) (hroom : A.depth + 1 < recursionLimit)
    (hq : ∀ h' tk e d, IcMade s.heap h' e C d v → R (.ok (.ret (.ref e))) { s with heap := h', toks := tk }) :
    codeAny (model prog w) A (.call (.ref C) ⟨[v], []⟩) R s := by
  obtain ⟨nm, q, N, bs, bm, sn, sub, ab, col, dd, k0, k1, k2, k3, k5, hC, hbm⟩ := T.cls
  obtain ⟨hp, g, dr, tk, os⟩ := s
  have k : ∀ b o, hp.get? b = some o → ((hp.push (kdv_tup [v])).push (excO C hp.objs.size)).get? b = some o := fun b o e => Heap.get?_push_of_some _ (Heap.get?_push_of_some _ e)
  have hget : ((hp.push (kdv_tup [v])).push (excO C hp.objs.size)).get? (hp.objs.size + 1) = some (excO C hp.objs.size) := by heap_get
  have hnx : K.lookup (hp.objs.size + 1) = none := by
    cases e : K.lookup (hp.objs.size + 1) with
    | none => rfl
    | some o =>
      have z : hp.get? (hp.objs.size + 1) = some o := X _ _ e
      exact absurd (Nat.lt_of_succ_lt (Heap.lt_size z)) (Nat.lt_irrefl _)
  refine call_own F.excBase_ValueError (fun X => refsVE_contains X bm hbm) (X _ _ hC) (looks_findIn X T.iC) (fun self => bind_fn X self T.tC) (by show 1 ≤ sizeLine; decide) ?_
  refine ic_init (s := ⟨(hp.push (kdv_tup [v])).push (excO C hp.objs.size), g, dr, tk, os⟩) T (X.keeps k) (hlim.keeps k) (hglob.keeps k) (hblt.keeps k) hb hget hnx ?_ fun h' tk' dx t1 M => ?_
  · show A.depth + 1 < recursionLimit
    exact hroom
  · have old : ∀ b o, hp.get? b = some o → h'.get? b = some o := fun b o e => M.keep b o (Nat.ne_of_lt (Nat.lt_succ_of_lt (Heap.lt_size e))) (k b o e)
    have z : hp.objs.size + 1 + 1 ≤ dx := by
      have dn := M.dbig
      first
        | (simpa only [Heap.size_push] using dn)
        | exact dn
        | (have q := dn; rw [Heap.size_push, Heap.size_push] at q; exact q)
    exact ⟨rfl, hq h' tk' (hp.objs.size + 1) dx ⟨old, Nat.le_succ _, ⟨_, _, M.obj, rfl, rfl, rfl, rfl⟩, Nat.le_trans (Nat.le_trans (Nat.le_succ _) (Nat.le_succ _)) z, M.dne, M.ns⟩⟩
end
end BN
namespace BN
open PySem PySem.Spec PyProof.Rows L2
theorem relO_at {v : V} {v' : Value} (r : RelV v v') (f : Str) : RelO (List.lookup f [(("at" : Str), v)]) (if f = "at" then some v' else none) := by
  by_cases hw : f = "at"
  · subst hw
    rw [if_pos rfl]
    have q : List.lookup ("at" : Str) [(("at" : Str), v)] = some v := by simp [List.lookup]
    rw [q]
    exact r
  · rw [if_neg hw]
    have qw : (f == ("at" : Str)) = false := by simpa using hw
    have q2 : List.lookup f [(("at" : Str), v)] = none := by simp [List.lookup, qw]
    rw [q2]
    trivial
section
variable {X : Cx} {C fI : Addr}
/-- InvalidChange(e) -/
def tMkIc (C : Addr) (ta : TA) : L2.St → Hp → XK → Prop := fun σ H Q => ta σ H fun vs H1 => ∃ v, vs = [v] ∧ ∀ d, H1 d = none → Q (.ref C) (some d) (upd H1 d (.xd [(("at" : Str), v)]))
theorem pmk_ic {a : Expr} {ta : TA} {p pos : Pos} {k : Nat} (T : IcTxt X.prog X.K X.mg C fI) (hr : Room k X.A) (ha : PA X [a] ta) (hg : Gl X "InvalidChange" := by rfl)
    (he : starEach (a :: []) X.env = (false, eval a X.env) :: starEach [] X.env := by rfl) (hpl : (backTo pos (starEach [] X.env)).any (·.1) = false := by rfl) :
    PMk X (.Call (.Name "InvalidChange" p) [a] [] pos) (tMkIc C ta) := by
  intro pins s σ H Q I h
  refine wpAny_Call_Name_kw (ld_glob I hg T.gC ?_)
  refine PySem.W.callWith_K (h₀ := X.base) I.ok.mod.kin T.kC (thn (ha.run pos pins s σ H _ I h) fun us s1 hh => ?_) he hpl
  obtain ⟨vs, H1, I1, r1, v, ev, q1⟩ := hh
  subst ev
  refine ⟨I1.kIn, ?_⟩
  cases r1 with
  | cons rv rn =>
    rename_i v' us'
    cases rn
    show wpAny _ _ (call (.ref C) [v']) _ _ _
    have hlim := I1.nolimit
    obtain ⟨mb, hb1, hb2⟩ := I1.ok.mod.blt
    have gl := I1.ok.mod.glob.keeps I1.bk
    have bl := hb1.keeps I1.bk
    obtain ⟨hp, g, dr, tk, os⟩ := s1
    refine wpAny_call (ic_made T I1.kIn hlim gl bl hb2 (by have := hr.dp; omega) fun h' tk' e d M => ?_)
    show MkP X pins σ Q (.ref e) ⟨h', g, dr, tk', os⟩
    obtain ⟨oe, fv, hoe, hc, hd, hdat, h1⟩ := M.obj
    have hns := M.ns
    obtain ⟨G', g1, g2⟩ := restrict h' fun b => decide (b ≠ e)
    have gk : ∀ b, b ≠ e → G'.get? b = h'.get? b := fun b hb => g1 b (decide_eq_true hb)
    have ge : G'.get? e = none := g2 e (by simp)
    have old : ∀ b o, hp.get? b = some o → G'.get? b = some o := fun b o q => (gk b (Nat.ne_of_lt (Nat.lt_of_lt_of_le (Heap.lt_size q) M.new))).trans (M.keep b o q)
    have ob : ObjOk X.prog X.w (upd H1 d (.xd [(("at" : Str), v)])) G' d (.xd [(("at" : Str), v)]) :=
      ⟨_, hns.at (fun o q => (gk d M.dne).trans q), fun f => relO_at rv f⟩
    have J : Inv X pins σ (upd H1 d (.xd [(("at" : Str), v)])) ⟨G', g, dr, tk', os⟩ := I1.laid (t' := tk') old M.dbig ob
    refine ⟨e, oe, fv, ⟨G', g, dr, tk', os⟩, _, .ref C, some d, rfl, J, fun b o q => ?_, ge, hoe, ⟨hc, hd⟩, hdat, h1, ?_, rfl, I1.bare, raises_own T.exC T.tyC, q1 d (I1.hok.fresh M.dbig)⟩
    · by_cases hb : b = e
      · have q' : G'.get? b = some o := q
        rw [hb, ge] at q'; cases q'
      · exact (gk b hb).symm.trans q
    · rw [upd_ne (Ne.symm M.dne)]
      exact I1.hok.fresh M.new
/-- raise InvalidChange(e) -/
def tRaiseIc (C : Addr) (W : WX) (ta : TA) : TS := fun _ σ H => tMkIc C ta σ H fun cls d H' => W cls d σ H'
theorem ps_raiseIc {a : Expr} {ta : TA} {W : WX} {p pos pos2 : Pos} {k : Nat} (hc : X.calm = true) (T : IcTxt X.prog X.K X.mg C fI) (hr : Room k X.A) (tk : Takes X W) (ha : PA X [a] ta) (hg : Gl X "InvalidChange" := by rfl)
    (he : starEach (a :: []) X.env = (false, eval a X.env) :: starEach [] X.env := by rfl) (hpl : (backTo pos (starEach [] X.env)).any (·.1) = false := by rfl) :
    PS X (.Raise (some (.Call (.Name "InvalidChange" p) [a] [] pos)) none pos2) (tRaiseIc C W ta) := ps_raise hc tk (pmk_ic T hr ha hg he hpl)
theorem IcTxt.xf {prog : Program} {K : PySem.W.Frag} {mg : Str → Option Value} (T : IcTxt prog K mg C fI) : XfC K C := ⟨T.ga, T.gg, T.exC, T.hdC⟩
end
end BN
namespace BN
open PySem PySem.Spec PyProof.Rows L2
theorem rgV_nat (n : Nat) : rgV 0 n = tv (List.range n) := by
  unfold rgV tv
  rw [show ((n : Int) - 0).toNat = n by omega]
  apply List.map_congr_left
  intro i _
  rw [Int.zero_add]
section
variable {P : Program} {w : World} {K : PySem.W.Frag} {mg : Str → Option Value} {base : Heap}
theorem scThen : FnScope ["_law_one", "_law_other", "_law_state"] ["_law_one", "_law_other"] (defScope sLThen) := ⟨rfl, rfl, rfl, by decide +kernel, rfl, by decide +kernel, by decide +kernel⟩
theorem ok_then {f : Addr} {fd : FuncData} (F : Fun K "_law_then" "_law_then" sLThen f fd) (T : Tx mg) : FnOk P w K mg base CX0 1 f fd ["_law_one", "_law_other"] spAfter := by
  refine F.ok scThen (fun vs H Q E h => ?_) (fun cdv A outer s H vs Q E hr h => ?_)
  · obtain ⟨n, x, y, a, b, rfl, _⟩ := h
    rfl
  · obtain ⟨n, x, y, a, b, rfl, ha, hb, hn, k⟩ := h
    refine ⟨_, pss_one (ps_ret (pe_callTy call_tuple_of (by rfl) T.tup boot_tuple (pa_cons (pe_lc (own := [("_law_state", 2)]) (g := gName 2) rfl scThen.nd (pi_tup (pv 0))
      (blkOk_by (N := ["_law_one", "_law_other", "_law_state"]) (sc := defScope sLThen) (by decide +kernel)) (fun _ _ _ _ _ => pg_name (i := 2) scThen.nd rfl (Or.inl rfl)) (fun _ _ _ _ _ => pts_nil)
      (fun _ _ _ _ _ => pe_ix (r := rIxT K) ix_tup (pv 1) (pv 2) (fun _ _ => rfl))) pa_nil))), ?_⟩
    refine ⟨_, rfl, a, rfl, ⟨_, SqT.of ha⟩, fun D hD => ?_⟩
    refine lc_tup (K := K) (a := a) (xs := tv x.1) (fun i H' => Same H H' ∧ H' D = some (.lst (tv ((aft x.1 y.1).take i)))) ⟨same_upd hD, upd_same⟩ (fun i H' _ h => SqT.of (h.1 _ _ ha)) ?_ ?_
    · rintro i v H1 hi ⟨s1, hl⟩
      have hin : i < n := by
        have q := (List.getElem?_eq_some_iff.mp hi).1
        rwa [tv_len, x.2.len] at q
      rw [tv_get (by rw [x.2.len]; exact hin)] at hi
      cases hi
      refine ⟨rfl, ?_⟩
      refine ⟨_, rfl, _, rfl, b, _, _, _, rfl, rfl, SqT.of (s1 _ _ hb), atI_nat (j := x.1.getD i 0) (tv_get (by rw [y.2.len]; exact x.at_lt hin)), ?_⟩
      refine ⟨_, hl, ?_, same_updw s1 hD, ?_⟩
      · rw [tv_len, List.length_take, aft_len, x.2.len]
        exact map_len_lt (by omega)
      · rw [upd_same, after_turn x y hin]
        rfl
    · rintro H1 ⟨s1, hl⟩
      rw [tv_len, List.take_of_length_le (by rw [aft_len]; exact Nat.le_refl _)] at hl
      refine ⟨D, _, rfl, .inl ⟨SqL.of hl, fun c hc => ?_⟩⟩
      exact k _ _ (s1.trans (same_upd hc)) upd_same
/-! ### idle -/
def spIdle : Sp := fun vs H Q _ => ∃ n : Nat, vs = [.int n] ∧ n ≤ 1000 ∧ ∀ (H' : Hp) (c : Addr), Same H H' → TA' H' c (List.range n) → Q (.ref c) H'
theorem scIdle : FnScope ["states"] ["states"] (defScope sIdle) := ⟨rfl, rfl, rfl, by decide +kernel, rfl, by decide +kernel, by decide +kernel⟩
theorem ok_idle {f : Addr} {fd : FuncData} (F : Fun K "idle" "idle" sIdle f fd) (T : Tx mg) : FnOk P w K mg base CX0 1 f fd ["states"] spIdle := by
  refine F.ok scIdle (fun vs H Q E h => ?_) (fun cdv A outer s H vs Q E hr h => ?_)
  · obtain ⟨n, rfl, _⟩ := h
    rfl
  · obtain ⟨n, rfl, hn, k⟩ := h
    refine ⟨_, pss_one (ps_ret (pe_tupRg rfl (by rfl) T.tup (prg_1 (by rfl) T.rng (pv 0)))), ?_⟩
    refine ⟨_, rfl, n, rfl, RgOk.of_le (by omega) (by omega) (by omega) (by omega), fun q hq => ?_⟩
    rw [rgV_nat]
    exact k _ _ (same_upd hq) upd_same
/-! ### undone -/
def spUndone : Sp := fun vs H Q _ => ∃ (n : Nat) (x : Pm n) (a : Addr), vs = [.ref a] ∧ TA' H a x.1 ∧ n ≤ 16 ∧ ∀ (H' : Hp) (c : Addr), Same H H' → TA' H' c (Grp.inv x).1 → Q (.ref c) H'
theorem scUndone : FnScope ["change", "found", "state", "to"] ["change"] (defScope sUndone) := ⟨rfl, rfl, rfl, by decide +kernel, rfl, by decide +kernel, by decide +kernel⟩
theorem tv_set (l : List Nat) (j z : Nat) : (tv l).set j (V.int (z : Nat)) = tv (l.set j z) := by
  unfold tv
  rw [List.map_set]
theorem getD_set {l : List Nat} {j i z : Nat} (hj : j < l.length) : (l.set j z).getD i 0 = if i = j then z else l.getD i 0 := by
  rw [List.getD_eq_getElem?_getD, List.getD_eq_getElem?_getD]
  by_cases e : i = j
  · subst e
    rw [if_pos rfl, List.getElem?_set_self hj]
    rfl
  · rw [if_neg e, List.getElem?_set_ne (fun q => e q.symm)]
theorem ixN_nat {n j : Nat} (h : j < n) : ixN n (j : Int) = some j := by
  unfold ixN
  rw [if_pos (by omega), if_pos (by omega)]
  rfl
theorem ok_undone {f : Addr} {fd : FuncData} (F : Fun K "undone" "undone" sUndone f fd) (T : Tx mg) : FnOk P w K mg base CX0 1 f fd ["change"] spUndone := by
  refine F.ok scUndone (fun vs H Q E h => ?_) (fun cdv A outer s H vs Q E hr h => ?_)
  · obtain ⟨n, x, a, rfl, _⟩ := h
    rfl
  · obtain ⟨n, x, a, rfl, ha, hn, k⟩ := h
    refine ⟨_, pss_cons (ps_set (i := 1) scUndone.nd rfl (.inl rfl) (pe_op op_rep (pe_lst (pa_cons pe_int pa_nil)) (pe_callB call_len_seq (by rfl) T.len boot_len (pa_cons (pv 0) pa_nil))))
      (pss_cons (ps_for PassesOwn.never rfl (pi_enumT (by rfl) T.enum (pa_cons (pv 0) pa_nil)) (pg_tup rfl (pgs_cons (pg_name (i := 2) scUndone.nd rfl (.inl rfl)) (pgs_cons (pg_name (i := 3) scUndone.nd rfl (.inl rfl)) pgs_nil)))
        (pss_one (ps_asg (pv 2) (pg_sub (pv 1) (pv 3) set_list))))
      (pss_one (ps_ret (pe_callTy call_tuple_of (by rfl) T.tup boot_tuple (pa_cons (pv 1) pa_nil))))), ?_⟩
    refine ⟨(by show 1 ≤ sizeLine; decide), fun p hp => ?_⟩
    have s1 := same_upd (o := .lst [V.int 0]) hp
    have hx : (tv x.1).length = n := by rw [tv_len, x.2.len]
    refine ⟨_, rfl, a, tv x.1, rfl, .inr (SqT.of (s1 _ _ ha)), p, _, [V.int 0], rfl, rfl, upd_same, by omega, by omega, ?_, fun l hl => ?_⟩
    · rw [hx]
      show 1 * _ ≤ sizeLine
      exact sl9 (by omega)
    · have er : (List.replicate ((((tv x.1).length : Nat) : Int)).toNat [V.int 0]).flatten = tv (List.replicate n 0) := by
        rw [hx, show ((n : Nat) : Int).toNat = n from rfl]
        unfold tv
        rw [List.map_replicate]
        generalize hn' : n = m
        clear hn' hn
        induction m with
        | zero => rfl
        | succ m ih =>
          rw [List.replicate_succ, List.replicate_succ, List.flatten_cons, ih]
          rfl
      rw [er]
      have s2 := s1.trans (same_upd (o := .lst (tv (List.replicate n 0))) hl)
      have hlH : H l = Option.none := Same.free s1 hl
      refine ⟨_, rfl, a, tv x.1, rfl, SqT.of (s2 _ _ ha), ?_⟩
      refine for_enumT (K := K) (a := a) (xs := tv x.1) (fun i σ H' => ∃ (u v : Option V) (fl : List Nat), σ = [some (.ref a), some (.ref l), u, v] ∧ Same H H' ∧ H' l = some (.lst (tv fl)) ∧ fl.length = n ∧ ∀ j, j < i → fl.getD (x.at j) 0 = j)
        ⟨none, none, List.replicate n 0, rfl, s2, upd_same, List.length_replicate, fun j h => absurd h (Nat.not_lt_zero _)⟩ (fun i σ H' _ h => by obtain ⟨_, _, _, _, s, _⟩ := h; exact SqT.of (s _ _ ha)) ?_ ?_
      · rintro i v T' σ H1 hi ⟨u, v', fl, rfl, s3, el, fn, hfl⟩ hT
        have hin : i < n := by
          have q := (List.getElem?_eq_some_iff.mp hi).1
          rwa [hx] at q
        rw [tv_get (by rw [x.2.len]; exact hin)] at hi
        cases hi
        have nlT : l ≠ T' := ne_of_none el hT
        refine ⟨T', _, rfl, SqT.of upd_same, rfl, _, _, rfl, _, _, rfl, rfl, ?_⟩
        have hj : x.at i < fl.length := by rw [fn]; exact x.at_lt hin
        refine ⟨_, rfl, _, rfl, _, rfl, l, tv fl, _, x.at i, rfl, rfl, ?_, ?_, ?_⟩
        · rw [upd_ne nlT]
          exact el
        · rw [tv_len]
          exact ixN_nat hj
        · refine ⟨_, _, fl.set (x.at i) i, rfl, same_updw (same_updw s3 (s3.free hT)) hlH, ?_, ?_, fun j hj' => ?_⟩
          · rw [upd_same, ← tv_set]
          · rw [List.length_set]
            exact fn
          · rw [getD_set hj]
            by_cases e : j = i
            · rw [e, if_pos rfl]
            · rw [if_neg (fun q => e (x.inj (by omega) hin q))]
              exact hfl j (by omega)
      · rintro σ H1 ⟨u, v', fl, rfl, s3, el, fn, hfl⟩
        rw [hx] at hfl
        have e : fl = (Grp.inv x).1 := by
          refine ext_getD fn (Grp.inv x).2.len fun i hi => ?_
          obtain ⟨j, hj, e⟩ := x.2.surj hi
          have e' : x.at j = i := e
          rw [← e', hfl j hj]
          exact (und_getD x.2 hj).symm
        rw [e] at el
        refine ⟨_, rfl, l, _, rfl, .inl ⟨SqL.of el, fun c hc => ?_⟩⟩
        exact k _ _ (s3.trans (same_upd hc)) upd_same
/-! ### raised -/
def spRaised : Sp := fun vs H Q _ => ∃ (n : Nat) (x : Pm n) (a : Addr) (i : Int), vs = [.ref a, .int i] ∧ TA' H a x.1 ∧ n ≤ 16 ∧ ∀ (H' : Hp) (c : Addr), Same H H' → TA' H' c (zp x i).1 → Q (.ref c) H'
theorem scRaised : FnScope ["change", "count", "step", "left", "found"] ["change", "count"] (defScope sRaised) := ⟨rfl, rfl, rfl, by decide +kernel, rfl, by decide +kernel, by decide +kernel⟩
theorem ok_raised {f : Addr} {fd : FuncData} (F : Fun K "raised" "raised" sRaised f fd) (T : Tx mg) (DU : Def P w K mg base CX0 1 "undone" ["change"] spUndone) (DI : Def P w K mg base CX0 1 "idle" ["states"] spIdle)
    (DA : Def P w K mg base CX0 1 "after" ["one", "other"] spAfter) : FnOk P w K mg base CX0 2 f fd ["change", "count"] spRaised := by
  refine F.ok scRaised (fun vs H Q E h => ?_) (fun cdv A outer s H vs Q E hr h => ?_)
  · obtain ⟨n, x, a, i, rfl, _⟩ := h
    rfl
  · obtain ⟨n, x, a, i, rfl, ha, hn, k⟩ := h
    refine ⟨_, pss_cons (ps_asg (pe_ifExp (pt_cmpR op_lt (pv 1) pe_int (nomark _)) (pe_tup (pa_cons (pe_callD DU hr (by rfl) pass0 (pa_cons (pv 0) pa_nil)) (pa_cons (pe_un un_neg (pv 1)) pa_nil))) (pe_tup (pa_cons (pv 0) (pa_cons (pv 1) pa_nil))))
        (pg_tup rfl (pgs_cons (pg_name (i := 2) scRaised.nd rfl (.inl rfl)) (pgs_cons (pg_name (i := 3) scRaised.nd rfl (.inl rfl)) pgs_nil))))
      (pss_cons (ps_set (i := 4) scRaised.nd rfl (.inl rfl) (pe_callD DI hr (by rfl) pass0 (pa_cons (pe_callB call_len_seq (by rfl) T.len boot_len (pa_cons (pv 0) pa_nil)) pa_nil)))
      (pss_cons (ps_while PassesOwn.never (pt_cmpR op_gt (pv 3) pe_int (nomark _))
        (pss_cons (ps_if (pt_cmpR op_eq (pe_op op_mod (pv 3) pe_int) pe_int (nomark _)) (pss_one (ps_set (i := 4) scRaised.nd rfl (.inl rfl) (pe_callD DA hr (by rfl) pass0 (pa_cons (pv 4) (pa_cons (pv 2) pa_nil))))) pss_nil)
        (pss_one (ps_par (i := 2) (j := 3) (by rfl) scRaised.nd rfl rfl (by decide) rfl rfl (pa_cons (pe_callD DA hr (by rfl) pass0 (pa_cons (pv 2) (pa_cons (pv 2) pa_nil))) (pa_cons (pe_op op_fdiv (pv 3) pe_int) pa_nil)) (by rfl)))))
      (pss_one (ps_ret (pv 4))))), ?_⟩
    -- what follows the first statement
    have main : ∀ (y : Pm n) (c : Addr) (z0 : Int) (m : Nat) (H1 : Hp), z0 = m → Same H H1 → TA' H1 c y.1 → np y m = zp x i → tSeq (tAsg (tCall spIdle [] E0 (tCons (tCB (fun xs H Q => ∃ p ys, xs = [.ref p] ∧ (SqL K H p ys ∨ SqT K H p ys) ∧ Q (.int ys.length) H) (tCons (tVar 0) tNil)) tNil)) (gName 4))
        (tSeq (tWhile (tTest (tOp (rI0 fun i j => .bl (decide (j < i))) (tVar 3) (tC (.int 0)))) (tSeq (tIfS (tTest (tOp rEq (tOp (rI (fun _ j => 0 < j) fun i j => .int (i % j)) (tVar 3) (tC (.int 2))) (tC (.int 1))))
          (tAsg (tCall spAfter [] E0 (tCons (tVar 4) (tCons (tVar 2) tNil))) (gName 4)) tNext) (tPar 2 3 (tCons (tCall spAfter [] E0 (tCons (tVar 2) (tCons (tVar 2) tNil))) (tCons (tOp (rI CDiv fun i j => .int (i / j)) (tVar 3) (tC (.int 2))) tNil)))))
        (tRet (tVar 4))) { nx := fun _ H' => Q .non H', rt := Q } [some (.ref a), some (.int i), some (.ref c), some (.int z0), none] H1 := by
      intro y c z0 m H1 ez s1 hc e
      subst ez
      have hx : (tv x.1).length = n := by rw [tv_len, x.2.len]
      refine ⟨_, rfl, a, tv x.1, rfl, .inr (SqT.of (s1 _ _ ha)), n, by rw [hx]; rfl, by omega, fun H2 g s2 hg => ?_⟩
      refine ⟨fun mm σ H' => ∃ (z g' : Pm n) (c' d : Addr), σ = [some (.ref a), some (.int i), some (.ref c'), some (.int (mm : Nat)), some (.ref d)] ∧ Same H H' ∧ TA' H' c' z.1 ∧ TA' H' d g'.1 ∧ Grp.mul g' (np z mm) = zp x i,
        ⟨m, y, Grp.one, c, g, rfl, s1.trans s2, s2 _ _ hc, hg, by rw [Grp.one_mul]; exact e⟩, ?_⟩
      rintro mm σ H' ⟨z, g', c', d, rfl, s3, hz, hg', e'⟩
      refine ⟨_, rfl, _, _, rfl, rfl, _, rfl, ite2 (fun hc' => ?_) (fun hc' => ?_)⟩
      · have hm : 0 < mm := by
          have q : (0 : Int) < (mm : Int) := of_decide_eq_true hc'
          omega
        have hdiv : mm = 2 * (mm / 2) + mm % 2 := (Nat.div_add_mod mm 2).symm
        refine ⟨fun σ' H'' => ∃ (z2 g2 : Pm n) (c2 d2 : Addr), σ' = [some (.ref a), some (.int i), some (.ref c2), some (.int ((mm / 2 : Nat) : Int)), some (.ref d2)] ∧ Same H H'' ∧ TA' H'' c2 z2.1 ∧ TA' H'' d2 g2.1 ∧ Grp.mul g2 (np z2 (mm / 2)) = zp x i, ?_, ?_⟩
        · rintro σ' H'' ⟨z2, g2, c2, d2, q⟩
          exact ⟨mm / 2, Nat.div_lt_self hm (by decide), z2, g2, c2, d2, q⟩
        · have tail : ∀ (g2 : Pm n) (d2 : Addr) (H2 : Hp), Same H H2 → TA' H2 c' z.1 → TA' H2 d2 g2.1 → Grp.mul g2 (np (Grp.mul z z) (mm / 2)) = zp x i →
              tPar 2 3 (tCons (tCall spAfter [] E0 (tCons (tVar 2) (tCons (tVar 2) tNil))) (tCons (tOp (rI CDiv fun i j => .int (i / j)) (tVar 3) (tC (.int 2))) tNil))
                { nx := fun σ' H'' => ∃ (z2 g2 : Pm n) (c2 d2 : Addr), σ' = [some (.ref a), some (.int i), some (.ref c2), some (.int ((mm / 2 : Nat) : Int)), some (.ref d2)] ∧ Same H H'' ∧ TA' H'' c2 z2.1 ∧ TA' H'' d2 g2.1 ∧ Grp.mul g2 (np z2 (mm / 2)) = zp x i, rt := Q,
                  ct := fun σ' H'' => ∃ (z2 g2 : Pm n) (c2 d2 : Addr), σ' = [some (.ref a), some (.int i), some (.ref c2), some (.int ((mm / 2 : Nat) : Int)), some (.ref d2)] ∧ Same H H'' ∧ TA' H'' c2 z2.1 ∧ TA' H'' d2 g2.1 ∧ Grp.mul g2 (np z2 (mm / 2)) = zp x i,
                  bk := fun σ H => tRet (tVar 4) { nx := fun _ H' => Q .non H', rt := Q } σ H } [some (.ref a), some (.int i), some (.ref c'), some (.int (mm : Nat)), some (.ref d2)] H2 := by
            intro g2 d2 H2 s4 h1 h2 e2
            refine ⟨_, rfl, _, rfl, n, z, z, c', c', rfl, h1, h1, hn, fun H3 c3 s5 h3 => ?_⟩
            exact ⟨_, rfl, _, _, rfl, rfl, ⟨by decide, by decide⟩, _, _, rfl, Grp.mul z z, g2, c3, d2, rfl, s4.trans s5, h3, s5 _ _ h2, e2⟩
          have e2 : np z mm = Grp.mul (np z (mm % 2)) (np (Grp.mul z z) (mm / 2)) := by
            have q : np z 2 = Grp.mul z z := by
              show Grp.mul (np z 1) z = _
              rw [np_one]
            rw [← q, ← np_mul, ← np_add, Nat.add_comm, ← hdiv]
          refine ⟨_, rfl, _, _, rfl, rfl, (by show (0 : Int) < 2; decide), rfl, _, rfl, ite2 (fun hp => ?_) (fun hp => ?_)⟩
          · have h1 : mm % 2 = 1 := by
              have q : V.int ((mm % 2 : Nat) : Int) = V.int 1 := of_decide_eq_true hp
              have q' := V.int.inj q
              omega
            rw [h1, np_one] at e2
            refine ⟨_, rfl, _, rfl, n, g', z, d, c', rfl, hg', hz, hn, fun H3 c3 s4 h3 => ?_⟩
            refine tail (Grp.mul g' z) c3 H3 (s3.trans s4) (s4 _ _ hz) h3 ?_
            rw [Grp.assoc, ← e2]
            exact e'
          · have h1 : mm % 2 = 0 := by
              have q : ¬ mm % 2 = 1 := fun q => hp (decide_eq_true (by
                show V.int ((mm % 2 : Nat) : Int) = V.int 1
                rw [q]
                rfl))
              omega
            rw [h1, show np z 0 = Grp.one from rfl, Grp.one_mul] at e2
            refine tail g' d H' s3 hz hg' ?_
            rw [← e2]
            exact e'
      · have hm : mm = 0 := by
          have q : ¬ (0 : Int) < (mm : Int) := fun z => hc' (decide_eq_true z)
          omega
        subst hm
        rw [show np z 0 = Grp.one from rfl, Grp.mul_one] at e'
        rw [e'] at hg'
        exact ⟨_, rfl, k _ _ s3 hg'⟩
    refine ⟨_, rfl, _, _, rfl, rfl, _, rfl, ite2 (fun hc => ?_) (fun hc => ?_)⟩
    · have hi : i < 0 := of_decide_eq_true hc
      refine ⟨_, rfl, n, x, a, rfl, ha, hn, fun H1 c s1 h1 => ?_⟩
      refine ⟨_, rfl, _, rfl, (by show 2 ≤ sizeLine; decide), fun p hp => ?_⟩
      refine ⟨p, _, rfl, SqT.of upd_same, rfl, _, _, rfl, _, _, rfl, rfl, ?_⟩
      refine main (Grp.inv x) c (-i) (-i).toNat _ (by omega) (s1.trans (same_upd hp)) (same_upd hp _ _ h1) ?_
      unfold zp
      rw [if_pos hi]
    · have hi : ¬ i < 0 := fun z => hc (decide_eq_true z)
      refine ⟨_, rfl, _, rfl, (by show 2 ≤ sizeLine; decide), fun p hp => ?_⟩
      refine ⟨p, _, rfl, SqT.of upd_same, rfl, _, _, rfl, _, _, rfl, rfl, ?_⟩
      refine main x a i i.toNat _ (by omega) (same_upd hp) (same_upd hp _ _ ha) ?_
      unfold zp
      rw [if_neg hi]
end
end BN
namespace BN
open PySem PySem.Spec PyProof.Rows L2
/-- what is no change of n states (as far as the law draws such) -/
inductive Wrong (H : Hp) (n : Nat) : V → Prop where
  | non : Wrong H n .non
  | int (i : Int) : Wrong H n (.int i)
  | str (x : Str) : Wrong H n (.str x)
  | lst {a : Addr} {xs : List V} (h : H a = some (.lst xs)) : Wrong H n (.ref a)
  | len {a : Addr} {xs : List V} (h : H a = some (.tup xs)) (ne : xs.length ≠ n) : Wrong H n (.ref a)
  | item {a : Addr} {xs : List V} (h : H a = some (.tup xs)) (e : xs.length = n) (sc : ∀ v ∈ xs, Scal v) (bad : ∃ v ∈ xs, isX n v = false) : Wrong H n (.ref a)
theorem Wrong.same {H H' : Hp} {n : Nat} {v : V} (w : Wrong H n v) (s : Same H H') : Wrong H' n v := by
  cases w with
  | non => exact .non
  | int i => exact .int i
  | str x => exact .str x
  | lst h => exact .lst (s _ _ h)
  | len h ne => exact .len (s _ _ h) ne
  | item h e sc bad => exact .item (s _ _ h) e sc bad
/-- the error as it is let out -/
def Bad (C : Addr) (H : Hp) (E : XK) : Prop := ∀ (H' : Hp) (d : Addr), Same H H' → H' d = some (.xd [(("at" : Str), .int 0)]) → E (.ref C) (some d) H'
theorem Bad.same {C : Addr} {H H1 : Hp} {E : XK} (b : Bad C H E) (s : Same H H1) : Bad C H1 E := fun H' d s' h => b H' d (s.trans s') h
theorem all_idx {n : Nat} {p : List Nat} (h : ∀ i ∈ p, i < n) : ((tv p).map (isX n)).all id = true := by
  rw [List.all_eq_true]
  intro b hb
  obtain ⟨v, hv, rfl⟩ := List.mem_map.mp hb
  unfold tv at hv
  obtain ⟨i, hi, rfl⟩ := List.mem_map.mp hv
  show (decide ((0 : Int) ≤ i) && decide ((i : Int) < n)) = true
  rw [decide_eq_true (by omega), decide_eq_true (by have := h i hi; omega)]
  rfl
theorem some_bad {n : Nat} {xs : List V} (h : ∃ v ∈ xs, isX n v = false) : (xs.map (isX n)).all id = false := by
  obtain ⟨v, hv, e⟩ := h
  cases q : (xs.map (isX n)).all id with
  | false => rfl
  | true =>
    have z := List.all_eq_true.mp q (isX n v) (List.mem_map.mpr ⟨v, hv, rfl⟩)
    rw [e] at z
    cases z
theorem sorted_range {n : Nat} {p : List Nat} (hp : P n p) {ns : List Int} (a : ns.Perm (p.map fun i => ((i : Nat) : Int))) (b : ns.Pairwise (· ≤ ·)) : ns = (List.range n).map fun i => ((i : Nat) : Int) := by
  have c : ns.Perm ((List.range n).map fun i => ((i : Nat) : Int)) := a.trans (hp.map _)
  have d : ((List.range n).map fun i => ((i : Nat) : Int)).Pairwise (· ≤ ·) := by
    rw [List.pairwise_map]
    exact List.pairwise_lt_range.imp fun {i j} h => by omega
  exact c.eq_of_pairwise (fun x y _ _ h1 h2 => Int.le_antisymm h1 h2) b d
theorem rgV_nat' (n : Nat) : rgV 0 n = tv (List.range n) := by
  unfold rgV tv
  rw [show ((n : Int) - 0).toNat = n by omega]
  apply List.map_congr_left
  intro i _
  rw [Int.zero_add]
theorem tv_scal {p : List Nat} : ∀ v ∈ tv p, Scal v := fun v hv => by
  unfold tv at hv
  obtain ⟨i, _, rfl⟩ := List.mem_map.mp hv
  exact .int _
section
variable {P' : Program} {w : World} {K : PySem.W.Frag} {mg : Str → Option Value} {base : Heap}
/-! ### size_of -/
def spSizeOf : Sp := fun vs H Q _ => ∃ (a : Addr) (xs : List V), vs = [.ref a] ∧ H a = some (.tup xs) ∧ Q (.int xs.length) H
theorem scSizeOf : FnScope ["change"] ["change"] (defScope sSizeOf) := ⟨rfl, rfl, rfl, by decide +kernel, rfl, by decide +kernel, by decide +kernel⟩
theorem ok_size_of {f : Addr} {fd : FuncData} (F : Fun K "size_of" "size_of" sSizeOf f fd) (T : Tx mg) : FnOk P' w K mg base CX0 1 f fd ["change"] spSizeOf := by
  refine F.ok scSizeOf (fun vs H Q E h => ?_) (fun cdv A outer s H vs Q E hr h => ?_)
  · obtain ⟨a, xs, rfl, _⟩ := h
    rfl
  · obtain ⟨a, xs, rfl, ha, k⟩ := h
    refine ⟨_, pss_one (ps_ret (pe_ifExp (pt_val (pe_callB call_isi (by rfl) T.isi (by decide +kernel) (pa_cons (pv 0) (pa_cons (pe_bltn (v := .ty "tuple") (by rfl) T.tup boot_tuple rfl) pa_nil)))) (pe_callB call_len_seq (by rfl) T.len boot_len (pa_cons (pv 0) pa_nil)) pe_int)), ?_⟩
    exact ⟨_, rfl, _, _, _, _, _, rfl, .ty _, .base (.tup ha), kit_ty (r := true) (by decide +kernel), _, rfl, _, rfl, a, xs, rfl, .inr (SqT.of ha), k⟩
/-! ### checked_change -/
def spChecked (C : Addr) : Sp := fun vs H Q E => ∃ (n : Nat) (v : V), vs = [.int n, v] ∧ 1 ≤ n ∧ n ≤ 16 ∧
  ((∃ (x : Pm n) (a : Addr), v = .ref a ∧ TA' H a x.1 ∧ ∀ H', Same H H' → Q v H') ∨ (Wrong H n v ∧ Bad C H E))
theorem scChecked : FnScope ["states", "value", "state"] ["states", "value"] (defScope sChecked) := ⟨rfl, rfl, rfl, by decide +kernel, rfl, by decide +kernel, by decide +kernel⟩
theorem ok_checked {f C fI : Addr} {fd : FuncData} (F : Fun K "checked_change" "checked_change" sChecked f fd) (T : Tx mg) (I : IcTxt P' K mg C fI) (D : Def P' w K mg base CX0 3 "is_index" ["value", "many"] spIsIndex) : FnOk P' w K mg base (L2.CX P' w) 4 f fd ["states", "value"] (spChecked C) := by
  refine F.okX scChecked (fun vs H Q E h => ?_) (fun cdv A outer s H vs Q E hr h => ?_)
  · obtain ⟨n, v, rfl, _⟩ := h
    rfl
  · obtain ⟨n, v, rfl, h1, h16, h⟩ := h
    refine ⟨_, pss_cons (ps_if (pw_or (pt_not (pt_val (pe_callB call_isi (by rfl) T.isi (by decide +kernel) (pa_cons (pv 1) (pa_cons (pe_bltn (v := .ty "tuple") (by rfl) T.tup boot_tuple rfl) pa_nil)))))
          (pw_or (pt_cmpR op_ne (pe_callB call_len_seq (by rfl) T.len boot_len (pa_cons (pv 1) pa_nil)) (pv 0) (nomark _)) (pw_or1 (pt_cmpR op_eq (pv 0) pe_int (nomark _))))).pt
        (pss_one (ps_raiseIc rfl I hr (takes_of rfl rfl rfl rfl) (by exact (pa_cons pe_int pa_nil)))) pss_nil)
      (pss_cons (ps_if (pt_not (pt_val (pe_callB (cr_all rfl) (by rfl) T.all (by decide +kernel) (pa_cons (pe_lc (own := [("state", 2)]) (g := gName 2) rfl scChecked.nd (pi_tup (pv 1))
          (blkOk_by (N := ["states", "value", "state"]) (sc := defScope sChecked) (by decide +kernel)) (fun _ _ _ _ _ => pg_name (i := 2) scChecked.nd rfl (Or.inl rfl)) (fun _ _ _ _ _ => pts_nil)
          (fun _ _ _ _ _ => pe_callD D hr (by rfl) pass0 (pa_cons (pv 2) (pa_cons (pv 0) pa_nil)))) pa_nil))))
        (pss_one (ps_raiseIc rfl I hr (takes_of rfl rfl rfl rfl) (by exact (pa_cons pe_int pa_nil)))) pss_nil)
      (pss_cons (ps_if (pt_cmpR (op_neL hr.units) (pe_callB cr_sortedT (by rfl) T.srt (by decide +kernel) (pa_cons (pv 1) pa_nil)) (pe_listRg rfl (by rfl) T.lst (prg_1 (by rfl) T.rng (pv 0))) (nomark _))
        (pss_one (ps_raiseIc rfl I hr (takes_of rfl rfl rfl rfl) (by exact (pa_cons pe_int pa_nil)))) pss_nil)
      (pss_one (ps_ret (pv 1))))), ?_⟩
    -- a raise
    have out : ∀ (σ : L2.St) (H1 : Hp), Same H H1 → Bad C H E → tRaiseIc C (fun cls d _ H => E cls d H) (tCons (tC (.int 0)) tNil) { nx := fun _ H' => Q .non H', rt := Q } σ H1 := fun σ H1 s1 b => ⟨_, rfl, fun d hd => b _ d (s1.trans (same_upd hd)) upd_same⟩
    -- a tuple of n items
    have tupn : ∀ (a : Addr) (xs : List V), v = .ref a → H a = some (.tup xs) → xs.length = n → (∀ v ∈ xs, Scal v) → (∀ H1 : Hp, Same H H1 → tSeq (tIfS (tNot (tB (tCB (rAll K) (tCons (tLc (iTup K (tVar 1)) (gName 2) tYes (tCall spIsIndex [] E0 (tCons (tVar 2) (tCons (tVar 0) tNil))) [2]) tNil)))) (tRaiseIc C (fun cls d _ H => E cls d H) (tCons (tC (.int 0)) tNil)) tNext)
        (tSeq (tIfS (tTest (tOp (rNeL K) (tCB (rSortedT K) (tCons (tVar 1) tNil)) (tLstRg (tRg1 (tVar 0))))) (tRaiseIc C (fun cls d _ H => E cls d H) (tCons (tC (.int 0)) tNil)) tNext) (tRet (tVar 1)))
        { nx := fun _ H' => Q .non H', rt := Q } [some (.int n), some v, none] H1) →
        tSeq (tIfS (tOr (tNot (tB (tCB (rIsi K) (tCons (tVar 1) (tCons (tC (.ty "tuple")) tNil))))) (tOr (tTest (tOp rNe (tCB (fun xs H Q => ∃ p ys, xs = [.ref p] ∧ (SqL K H p ys ∨ SqT K H p ys) ∧ Q (.int ys.length) H) (tCons (tVar 1) tNil)) (tVar 0))) (tTest (tOp rEq (tVar 0) (tC (.int 0))))))
          (tRaiseIc C (fun cls d _ H => E cls d H) (tCons (tC (.int 0)) tNil)) tNext)
          (tSeq (tIfS (tNot (tB (tCB (rAll K) (tCons (tLc (iTup K (tVar 1)) (gName 2) tYes (tCall spIsIndex [] E0 (tCons (tVar 2) (tCons (tVar 0) tNil))) [2]) tNil)))) (tRaiseIc C (fun cls d _ H => E cls d H) (tCons (tC (.int 0)) tNil)) tNext)
        (tSeq (tIfS (tTest (tOp (rNeL K) (tCB (rSortedT K) (tCons (tVar 1) tNil)) (tLstRg (tRg1 (tVar 0))))) (tRaiseIc C (fun cls d _ H => E cls d H) (tCons (tC (.int 0)) tNil)) tNext) (tRet (tVar 1))))
        { nx := fun _ H' => Q .non H', rt := Q } [some (.int n), some v, none] H := by
      rintro a xs rfl ha hn sc rest
      refine ⟨_, rfl, _, _, _, _, _, rfl, .ty _, .base (.tup ha), kit_ty (r := true) (by decide +kernel), _, rfl, ?_⟩
      refine ⟨_, rfl, a, xs, rfl, .inr (SqT.of ha), _, rfl, rfl, _, rfl, ?_⟩
      rw [show (!decide (V.int ((xs.length : Nat) : Int) = V.int (n : Nat))) = false by rw [decide_eq_true (by rw [hn])]; rfl]
      refine ⟨_, rfl, rfl, _, rfl, ?_⟩
      rw [show decide (V.int (n : Nat) = V.int 0) = false from decide_eq_false (fun z => by
        have z' := V.int.inj z
        omega)]
      exact rest H (Same.refl H)
    -- all([..])
    have alls : ∀ (a : Addr) (xs : List V), v = .ref a → H a = some (.tup xs) → xs.length = n → (∀ v ∈ xs, Scal v) → (∀ H1 : Hp, Same H H1 → (if (!((xs.map (isX n)).all id)) = true then tRaiseIc C (fun cls d _ H => E cls d H) (tCons (tC (.int 0)) tNil)
          { nx := (tSeq (tIfS (tTest (tOp (rNeL K) (tCB (rSortedT K) (tCons (tVar 1) tNil)) (tLstRg (tRg1 (tVar 0))))) (tRaiseIc C (fun cls d _ H => E cls d H) (tCons (tC (.int 0)) tNil)) tNext) (tRet (tVar 1))) { nx := fun _ H' => Q .non H', rt := Q }, rt := Q } [some (.int n), some v, none] H1
          else (tSeq (tIfS (tTest (tOp (rNeL K) (tCB (rSortedT K) (tCons (tVar 1) tNil)) (tLstRg (tRg1 (tVar 0))))) (tRaiseIc C (fun cls d _ H => E cls d H) (tCons (tC (.int 0)) tNil)) tNext) (tRet (tVar 1))) { nx := fun _ H' => Q .non H', rt := Q } [some (.int n), some v, none] H1)) →
        ∀ H1 : Hp, Same H H1 → tSeq (tIfS (tNot (tB (tCB (rAll K) (tCons (tLc (iTup K (tVar 1)) (gName 2) tYes (tCall spIsIndex [] E0 (tCons (tVar 2) (tCons (tVar 0) tNil))) [2]) tNil)))) (tRaiseIc C (fun cls d _ H => E cls d H) (tCons (tC (.int 0)) tNil)) tNext)
        (tSeq (tIfS (tTest (tOp (rNeL K) (tCB (rSortedT K) (tCons (tVar 1) tNil)) (tLstRg (tRg1 (tVar 0))))) (tRaiseIc C (fun cls d _ H => E cls d H) (tCons (tC (.int 0)) tNil)) tNext) (tRet (tVar 1)))
        { nx := fun _ H' => Q .non H', rt := Q } [some (.int n), some v, none] H1 := by
      rintro a xs rfl ha hn sc rest H1 s1
      refine ⟨_, rfl, a, rfl, ⟨_, SqT.of (s1 _ _ ha)⟩, fun D' hD => ?_⟩
      refine lc_tup (K := K) (a := a) (xs := xs) (fun i H' => Same H1 H' ∧ H' D' = some (.lst (((xs.map (isX n)).take i).map V.bl))) ⟨same_upd hD, upd_same⟩ (fun i H' _ h => SqT.of (h.1 _ _ (s1 _ _ ha))) ?_ ?_
      · rintro i x H2 hi ⟨s2, hl⟩
        have hix : i < xs.length := (List.getElem?_eq_some_iff.mp hi).1
        refine ⟨rfl, ?_⟩
        refine ⟨_, rfl, _, rfl, x, n, rfl, sc x (List.mem_of_getElem? hi), ?_⟩
        refine ⟨_, hl, ?_, same_updw s2 hD, ?_⟩
        · rw [List.length_map, List.length_take, List.length_map]
          exact map_len_lt (by omega)
        · rw [upd_same, List.take_add_one, List.getElem?_map, hi, List.map_append]
          rfl
      · rintro H2 ⟨s2, hl⟩
        rw [List.take_of_length_le (by rw [List.length_map]; exact Nat.le_refl _)] at hl
        refine ⟨D', _, rfl, SqL.of hl, _, rfl, ?_⟩
        exact rest H2 (s1.trans s2)
    rcases h with ⟨x, a, rfl, ha, k⟩ | ⟨wr, bad⟩
    · refine tupn a _ rfl ha (by rw [tv_len, x.2.len]) tv_scal (alls a _ rfl ha (by rw [tv_len, x.2.len]) tv_scal fun H1 s1 => ?_)
      rw [all_idx fun i hi => x.2.lt hi]
      refine ⟨_, rfl, a, x.1.map fun i => ((i : Nat) : Int), rfl, (by rw [← tv_ints]; exact SqT.of (s1 _ _ ha)), fun ns p pm pw hp => ?_⟩
      have e := sorted_range x.2 pm pw
      refine ⟨_, rfl, n, rfl, RgOk.of_le (by omega) (by omega) (by omega) (by omega), fun q hq => ?_⟩
      have npq : p ≠ q := ne_of_none upd_same hq
      refine ⟨p, q, ns, ns, rfl, rfl, SqL.of (by rw [upd_ne npq, upd_same]), SqL.of ?_, _, rfl, ?_⟩
      · rw [upd_same, rgV_nat', e, tv_ints]
      · rw [decide_eq_true rfl]
        exact ⟨_, rfl, k _ ((s1.trans (same_upd hp)).trans (same_upd hq))⟩
    · cases wr with
      | non => exact ⟨_, rfl, _, _, _, _, _, rfl, .ty _, .base .non, kit_ty (r := false) (by decide +kernel), _, rfl, out [] H (Same.refl _) bad⟩
      | int i => exact ⟨_, rfl, _, _, _, _, _, rfl, .ty _, .base (.int i), kit_ty (r := false) (by decide +kernel), _, rfl, out [] H (Same.refl _) bad⟩
      | str z => exact ⟨_, rfl, _, _, _, _, _, rfl, .ty _, .base (.str z), kit_ty (r := false) (by decide +kernel), _, rfl, out [] H (Same.refl _) bad⟩
      | lst h => exact ⟨_, rfl, _, _, _, _, _, rfl, .ty _, .base (.lst h), kit_ty (r := false) (by decide +kernel), _, rfl, out [] H (Same.refl _) bad⟩
      | @len a xs h ne =>
        refine ⟨_, rfl, _, _, _, _, _, rfl, .ty _, .base (.tup h), kit_ty (r := true) (by decide +kernel), _, rfl, ?_⟩
        refine ⟨_, rfl, a, xs, rfl, .inr (SqT.of h), _, rfl, rfl, _, rfl, ?_⟩
        rw [show (!decide (V.int ((xs.length : Nat) : Int) = V.int (n : Nat))) = true by
          rw [decide_eq_false (fun z => ne (by
            have z' := V.int.inj z
            omega))]
          rfl]
        exact out [] H (Same.refl _) bad
      | @item a xs h e sc b =>
        refine tupn a _ rfl h e sc (alls a _ rfl h e sc fun H1 s1 => ?_)
        rw [some_bad b]
        exact out [] H1 s1 bad
end
end BN
namespace BN
open PySem PySem.Spec PyProof.Rows L2
theorem TA'.same {H H' : Hp} {a : Addr} {l : List Nat} (h : TA' H a l) (s : Same H H') : TA' H' a l := s _ _ h
instance suDec {n : Nat} (x y : Pm n) (i : Int) : Decidable (Su x y i) := inferInstanceAs (Decidable (zp (Grp.mul x y) i = Grp.mul (zp x i) (zp y i)))
instance comDec {n : Nat} (x y : Pm n) : Decidable (Com x y) := inferInstanceAs (Decidable (Grp.mul x y = Grp.mul y x))
instance rdDec {n : Nat} (x y : Pm n) (d : Nat) : Decidable (Rd x y d) := inferInstanceAs (Decidable (_ ∧ _))
/-- does a count suit, as a mark -/
def sub {n : Nat} (x y : Pm n) (i : Int) : Bool := decide (Su x y i)
def rdb {n : Nat} (x y : Pm n) (d : Nat) : Bool := decide (Rd x y d)
theorem pm_eq {n : Nat} (x y : Pm n) : decide (x.1 = y.1) = decide (x = y) := by
  by_cases e : x = y
  · subst e
    rw [decide_eq_true rfl, decide_eq_true rfl]
  · rw [decide_eq_false e, decide_eq_false (fun z => e (Subtype.ext z))]
section
variable {P' : Program} {w : World} {K : PySem.W.Frag} {mg : Str → Option Value} {base : Heap} {C : Addr}
/-! ### followed -/
def spFollowed (C : Addr) : Sp := fun vs H Q E => ∃ (n : Nat) (x : Pm n) (a : Addr) (v : V), vs = [.ref a, v] ∧ TA' H a x.1 ∧ 1 ≤ n ∧ n ≤ 16 ∧
  ((∃ (y : Pm n) (b : Addr), v = .ref b ∧ TA' H b y.1 ∧ ∀ (H' : Hp) (c : Addr), Same H H' → TA' H' c (Grp.mul x y).1 → Q (.ref c) H') ∨ (Wrong H n v ∧ Bad C H E))
theorem scFollowed : FnScope ["one", "other", "first"] ["one", "other"] (defScope sFollowed) := ⟨rfl, rfl, rfl, by decide +kernel, rfl, by decide +kernel, by decide +kernel⟩
theorem ok_followed {f : Addr} {fd : FuncData} (F : Fun K "followed" "followed" sFollowed f fd) (T : Tx mg) (DS : Def P' w K mg base CX0 1 "size_of" ["change"] spSizeOf) (DC : Def P' w K mg base (L2.CX P' w) 4 "checked_change" ["states", "value"] (spChecked C))
    (DA : Def P' w K mg base CX0 1 "after" ["one", "other"] spAfter) : FnOk P' w K mg base (L2.CX P' w) 5 f fd ["one", "other"] (spFollowed C) := by
  refine F.okX scFollowed (fun vs H Q E h => ?_) (fun cdv A outer s H vs Q E hr h => ?_)
  · obtain ⟨n, x, a, v, rfl, _⟩ := h
    rfl
  · obtain ⟨n, x, a, v, rfl, ha, h1, h16, h⟩ := h
    have hr1 : Room 1 _ := hr.mono (by decide)
    refine ⟨_, pss_cons (ps_set (i := 2) scFollowed.nd rfl (.inl rfl) (by exact pe_callD (E := E) DC hr (by rfl) (passes_call (takes_of rfl rfl rfl rfl) (fun _ _ _ _ h => h)) (pa_cons (pe_callD DS hr1 (by rfl) pass0 (pa_cons (pv 0) pa_nil)) (pa_cons (pv 0) pa_nil))))
      (pss_one (ps_ret (by exact pe_callD DA hr1 (by rfl) pass0 (pa_cons (pv 2) (pa_cons (pe_callD (E := E) DC hr (by rfl) (passes_call (takes_of rfl rfl rfl rfl) (fun _ _ _ _ h => h)) (pa_cons (pe_callB call_len_seq (by rfl) T.len boot_len (pa_cons (pv 2) pa_nil)) (pa_cons (pv 1) pa_nil))) pa_nil))))), ?_⟩
    have hx : (tv x.1).length = n := by rw [tv_len, x.2.len]
    refine ⟨_, rfl, a, _, rfl, ha, _, rfl, n, .ref a, by rw [hx]; rfl, h1, h16, .inl ⟨x, a, rfl, ha, fun H1 s1 => ?_⟩⟩
    refine ⟨_, rfl, _, rfl, a, _, rfl, .inr (SqT.of (ha.same s1)), _, rfl, n, v, by rw [hx]; rfl, h1, h16, ?_⟩
    rcases h with ⟨y, b, rfl, hb, k⟩ | ⟨wr, bad⟩
    · refine .inl ⟨y, b, rfl, hb.same s1, fun H2 s2 => ?_⟩
      exact ⟨n, x, y, a, b, rfl, ha.same (s1.trans s2), hb.same (s1.trans s2), h16, fun H3 c s3 h3 => k _ _ ((s1.trans s2).trans s3) h3⟩
    · exact .inr ⟨wr.same s1, bad.same s1⟩
/-! ### change_places -/
def spPlaces : Sp := fun vs H Q _ => ∃ (n : Nat) (x y : Pm n) (a b : Addr), vs = [.ref a, .ref b] ∧ TA' H a x.1 ∧ TA' H b y.1 ∧ 1 ≤ n ∧ n ≤ 16 ∧ ∀ H', Same H H' → Q (.bl (decide (Com x y))) H'
theorem scPlaces : FnScope ["one", "other", "first", "second"] ["one", "other"] (defScope sPlaces) := ⟨rfl, rfl, rfl, by decide +kernel, rfl, by decide +kernel, by decide +kernel⟩
theorem ok_places {f : Addr} {fd : FuncData} (F : Fun K "change_places" "change_places" sPlaces f fd) (T : Tx mg) (DS : Def P' w K mg base CX0 1 "size_of" ["change"] spSizeOf) (DC : Def P' w K mg base (L2.CX P' w) 4 "checked_change" ["states", "value"] (spChecked C))
    (DA : Def P' w K mg base CX0 1 "after" ["one", "other"] spAfter) : FnOk P' w K mg base CX0 5 f fd ["one", "other"] spPlaces := by
  refine F.ok scPlaces (fun vs H Q E h => ?_) (fun cdv A outer s H vs Q E hr h => ?_)
  · obtain ⟨n, x, y, a, b, rfl, _⟩ := h
    rfl
  · obtain ⟨n, x, y, a, b, rfl, ha, hb, h1, h16, k⟩ := h
    have hr1 : Room 1 _ := hr.mono (by decide)
    refine ⟨_, pss_cons (ps_set (i := 2) scPlaces.nd rfl (.inl rfl) (pe_callD DC hr (by rfl) passL (pa_cons (pe_callD DS hr1 (by rfl) pass0 (pa_cons (pv 0) pa_nil)) (pa_cons (pv 0) pa_nil))))
      (pss_cons (ps_set (i := 3) scPlaces.nd rfl (.inl rfl) (pe_callD DC hr (by rfl) passL (pa_cons (pe_callB call_len_seq (by rfl) T.len boot_len (pa_cons (pv 2) pa_nil)) (pa_cons (pv 1) pa_nil))))
      (pss_one (ps_ret (pe_cmpR (op_eqT hr.units) (pe_callD DA hr1 (by rfl) pass0 (pa_cons (pv 2) (pa_cons (pv 3) pa_nil))) (pe_callD DA hr1 (by rfl) pass0 (pa_cons (pv 3) (pa_cons (pv 2) pa_nil))) (nomark _))))), ?_⟩
    have hx : (tv x.1).length = n := by rw [tv_len, x.2.len]
    refine ⟨_, rfl, a, _, rfl, ha, _, rfl, n, .ref a, by rw [hx]; rfl, h1, h16, .inl ⟨x, a, rfl, ha, fun H1 s1 => ?_⟩⟩
    refine ⟨_, rfl, a, _, rfl, .inr (SqT.of (ha.same s1)), _, rfl, n, .ref b, by rw [hx]; rfl, h1, h16, .inl ⟨y, b, rfl, hb.same s1, fun H2 s2 => ?_⟩⟩
    have s12 := s1.trans s2
    refine ⟨_, rfl, _, rfl, n, x, y, a, b, rfl, ha.same s12, hb.same s12, h16, fun H3 c s3 h3 => ?_⟩
    have s13 := s12.trans s3
    refine ⟨_, rfl, _, rfl, n, y, x, b, a, rfl, hb.same s13, ha.same s13, h16, fun H4 d s4 h4 => ?_⟩
    refine ⟨c, d, _, _, rfl, rfl, SqT.of (h3.same s4), SqT.of h4, ?_⟩
    rw [pm_eq]
    exact k _ (s13.trans s4)
/-! ### loop, split_loop -/
def spLoop : Sp := fun vs H Q _ => ∃ (n : Nat) (x y : Pm n) (a b : Addr) (i : Int), vs = [.ref a, .ref b, .int i] ∧ TA' H a x.1 ∧ TA' H b y.1 ∧ 1 ≤ n ∧ n ≤ 16 ∧ ∀ H' c, Same H H' → TA' H' c (zp (Grp.mul x y) i).1 → Q (.ref c) H'
theorem scLoop : FnScope ["one", "other", "count"] ["one", "other", "count"] (defScope sLoop) := ⟨rfl, rfl, rfl, by decide +kernel, rfl, by decide +kernel, by decide +kernel⟩
theorem ok_loop {f : Addr} {fd : FuncData} (F : Fun K "loop" "loop" sLoop f fd) (DF : Def P' w K mg base (L2.CX P' w) 5 "followed" ["one", "other"] (spFollowed C)) (DR : Def P' w K mg base CX0 2 "raised" ["change", "count"] spRaised) : FnOk P' w K mg base CX0 6 f fd ["one", "other", "count"] spLoop := by
  refine F.ok scLoop (fun vs H Q E h => ?_) (fun cdv A outer s H vs Q E hr h => ?_)
  · obtain ⟨n, x, y, a, b, i, rfl, _⟩ := h
    rfl
  · obtain ⟨n, x, y, a, b, i, rfl, ha, hb, h1, h16, k⟩ := h
    have hr2 : Room 2 _ := hr.mono (by decide)
    refine ⟨_, pss_one (ps_ret (pe_callD DR hr2 (by rfl) pass0 (pa_cons (pe_callD DF hr (by rfl) passL (pa_cons (pv 0) (pa_cons (pv 1) pa_nil))) (pa_cons (pv 2) pa_nil)))), ?_⟩
    refine ⟨_, rfl, _, rfl, n, x, a, .ref b, rfl, ha, h1, h16, .inl ⟨y, b, rfl, hb, fun H1 c s1 hc => ?_⟩⟩
    exact ⟨_, rfl, n, Grp.mul x y, c, i, rfl, hc, h16, fun H2 d s2 h2 => k _ _ (s1.trans s2) h2⟩
def spSplit : Sp := fun vs H Q _ => ∃ (n : Nat) (x y : Pm n) (a b : Addr) (i : Int), vs = [.ref a, .ref b, .int i] ∧ TA' H a x.1 ∧ TA' H b y.1 ∧ 1 ≤ n ∧ n ≤ 16 ∧ ∀ H' c, Same H H' → TA' H' c (Grp.mul (zp x i) (zp y i)).1 → Q (.ref c) H'
theorem scSplit : FnScope ["one", "other", "count"] ["one", "other", "count"] (defScope sSplitLoop) := ⟨rfl, rfl, rfl, by decide +kernel, rfl, by decide +kernel, by decide +kernel⟩
theorem ok_split {f : Addr} {fd : FuncData} (F : Fun K "split_loop" "split_loop" sSplitLoop f fd) (DF : Def P' w K mg base (L2.CX P' w) 5 "followed" ["one", "other"] (spFollowed C)) (DR : Def P' w K mg base CX0 2 "raised" ["change", "count"] spRaised)
    (DA : Def P' w K mg base CX0 1 "after" ["one", "other"] spAfter) : FnOk P' w K mg base CX0 6 f fd ["one", "other", "count"] spSplit := by
  refine F.ok scSplit (fun vs H Q E h => ?_) (fun cdv A outer s H vs Q E hr h => ?_)
  · obtain ⟨n, x, y, a, b, i, rfl, _⟩ := h
    rfl
  · obtain ⟨n, x, y, a, b, i, rfl, ha, hb, h1, h16, k⟩ := h
    have hr2 : Room 2 _ := hr.mono (by decide)
    have hr1 : Room 1 _ := hr.mono (by decide)
    refine ⟨_, pss_cons (ps_expr (pe_callD DF hr (by rfl) passL (pa_cons (pv 0) (pa_cons (pv 1) pa_nil))))
      (pss_one (ps_ret (pe_callD DA hr1 (by rfl) pass0 (pa_cons (pe_callD DR hr2 (by rfl) pass0 (pa_cons (pv 0) (pa_cons (pv 2) pa_nil))) (pa_cons (pe_callD DR hr2 (by rfl) pass0 (pa_cons (pv 1) (pa_cons (pv 2) pa_nil))) pa_nil))))), ?_⟩
    refine ⟨_, rfl, _, rfl, n, x, a, .ref b, rfl, ha, h1, h16, .inl ⟨y, b, rfl, hb, fun H1 c s1 hc => ?_⟩⟩
    refine ⟨_, rfl, _, rfl, n, x, a, i, rfl, ha.same s1, h16, fun H2 d s2 h2 => ?_⟩
    have s12 := s1.trans s2
    refine ⟨_, rfl, _, rfl, n, y, b, i, rfl, hb.same s12, h16, fun H3 e s3 h3 => ?_⟩
    exact ⟨n, _, _, d, e, rfl, h2.same s3, h3, h16, fun H4 g s4 h4 => k _ _ ((s12.trans s3).trans s4) h4⟩
/-! ### suits, is_round -/
def spSuits : Sp := fun vs H Q _ => ∃ (n : Nat) (x y : Pm n) (a b : Addr) (i : Int), vs = [.ref a, .ref b, .int i] ∧ TA' H a x.1 ∧ TA' H b y.1 ∧ 1 ≤ n ∧ n ≤ 16 ∧ ∀ H', Same H H' → Q (.bl (sub x y i)) H'
theorem scSuits : FnScope ["one", "other", "count"] ["one", "other", "count"] (defScope sSuits) := ⟨rfl, rfl, rfl, by decide +kernel, rfl, by decide +kernel, by decide +kernel⟩
theorem ok_suits {f : Addr} {fd : FuncData} (F : Fun K "suits" "suits" sSuits f fd) (DL : Def P' w K mg base CX0 6 "loop" ["one", "other", "count"] spLoop) (DP : Def P' w K mg base CX0 6 "split_loop" ["one", "other", "count"] spSplit) : FnOk P' w K mg base CX0 7 f fd ["one", "other", "count"] spSuits := by
  refine F.ok scSuits (fun vs H Q E h => ?_) (fun cdv A outer s H vs Q E hr h => ?_)
  · obtain ⟨n, x, y, a, b, i, rfl, _⟩ := h
    rfl
  · obtain ⟨n, x, y, a, b, i, rfl, ha, hb, h1, h16, k⟩ := h
    refine ⟨_, pss_one (ps_ret (pe_cmpR (op_eqT hr.units) (pe_callD DL hr (by rfl) pass0 (pa_cons (pv 0) (pa_cons (pv 1) (pa_cons (pv 2) pa_nil)))) (pe_callD DP hr (by rfl) pass0 (pa_cons (pv 0) (pa_cons (pv 1) (pa_cons (pv 2) pa_nil)))) (nomark _))), ?_⟩
    refine ⟨_, rfl, _, rfl, _, rfl, n, x, y, a, b, i, rfl, ha, hb, h1, h16, fun H1 c s1 hc => ?_⟩
    refine ⟨_, rfl, _, rfl, _, rfl, n, x, y, a, b, i, rfl, ha.same s1, hb.same s1, h1, h16, fun H2 d s2 hd => ?_⟩
    refine ⟨c, d, _, _, rfl, rfl, SqT.of (hc.same s2), SqT.of hd, ?_⟩
    rw [pm_eq]
    exact k _ (s1.trans s2)
def spIsRound : Sp := fun vs H Q _ => ∃ (n : Nat) (x y : Pm n) (a b : Addr) (d : Nat), vs = [.ref a, .ref b, .int d] ∧ TA' H a x.1 ∧ TA' H b y.1 ∧ 1 ≤ n ∧ n ≤ 16 ∧ ∀ H', Same H H' → Q (.bl (rdb x y d)) H'
theorem scIsRound : FnScope ["one", "other", "count"] ["one", "other", "count"] (defScope sIsRound) := ⟨rfl, rfl, rfl, by decide +kernel, rfl, by decide +kernel, by decide +kernel⟩
theorem ok_is_round {f : Addr} {fd : FuncData} (F : Fun K "is_round" "is_round" sIsRound f fd) (DS : Def P' w K mg base CX0 7 "suits" ["one", "other", "count"] spSuits) (DP : Def P' w K mg base CX0 5 "change_places" ["one", "other"] spPlaces)
    (DR : Def P' w K mg base CX0 2 "raised" ["change", "count"] spRaised) : FnOk P' w K mg base CX0 8 f fd ["one", "other", "count"] spIsRound := by
  refine F.ok scIsRound (fun vs H Q E h => ?_) (fun cdv A outer s H vs Q E hr h => ?_)
  · obtain ⟨n, x, y, a, b, d, rfl, _⟩ := h
    rfl
  · obtain ⟨n, x, y, a, b, d, rfl, ha, hb, h1, h16, k⟩ := h
    have hr5 : Room 5 _ := hr.mono (by decide)
    have hr2 : Room 2 _ := hr.mono (by decide)
    refine ⟨_, pss_one (ps_ret (pe_and (pe_callD DS hr (by rfl) pass0 (pa_cons (pv 0) (pa_cons (pv 1) (pa_cons (pv 2) pa_nil)))) (pe_one (pe_callD DP hr5 (by rfl) pass0 (pa_cons (pe_callD DR hr2 (by rfl) pass0 (pa_cons (pv 0) (pa_cons (pv 2) pa_nil))) (pa_cons (pv 1) pa_nil)))))), ?_⟩
    refine ⟨_, rfl, _, rfl, _, rfl, n, x, y, a, b, d, rfl, ha, hb, h1, h16, fun H1 s1 => ⟨_, rfl, ?_⟩⟩
    by_cases c : Su x y d
    · rw [show sub x y d = true from decide_eq_true c]
      refine iteT ?_
      refine ⟨_, rfl, _, rfl, n, x, a, d, rfl, ha.same s1, h16, fun H2 c' s2 hc => ?_⟩
      have s12 := s1.trans s2
      refine ⟨_, rfl, n, zp x d, y, c', b, rfl, hc, hb.same s12, h1, h16, fun H3 s3 => ?_⟩
      have e : rdb x y d = decide (Com (zp x d) y) := by
        unfold rdb
        by_cases e : Com (zp x d) y
        · rw [decide_eq_true e, decide_eq_true (show Rd x y d from ⟨c, e⟩)]
        · rw [decide_eq_false e, decide_eq_false (fun z : Rd x y d => e z.2)]
      have q := k H3 (s12.trans s3)
      rw [e] at q
      exact q
    · rw [show sub x y d = false from decide_eq_false c]
      refine iteF ?_
      have q := k H1 s1
      rw [show rdb x y d = false from decide_eq_false (fun z : Rd x y d => c z.1)] at q
      exact q
end
end BN
namespace BN
/-! ## the order of a change, by its rounds -/
structure Cyc {n : Nat} (x : Pm n) (S : Nat → Prop) (found : Nat) : Prop where
  fwd : ∀ j, j < n → S j → S (x.at j)
  bwd : ∀ j, j < n → S (x.at j) → S j
  pos : 1 ≤ found
  fix : ∀ j, j < n → S j → (np x found).at j = j
  dvd : ∀ m, np x m = Grp.one → found ∣ m
structure Run {n : Nat} (x : Pm n) (S : Nat → Prop) (s0 l : Nat) (S' : Nat → Prop) : Prop where
  st : ∀ j, j < n → (S' j ↔ S j ∨ ∃ i, i < l ∧ (np x i).at s0 = j)
  new : ∀ i, i < l → ¬ S ((np x i).at s0)
  dis : ∀ i, i < l → ∀ i', i' < i → (np x i).at s0 ≠ (np x i').at s0
section
variable {n : Nat} {x : Pm n} {S S' : Nat → Prop} {s0 l found : Nat}
theorem Run.start : Run x S s0 0 S := ⟨fun j _ => ⟨fun h => .inl h, fun h => h.elim id fun ⟨_, h, _⟩ => absurd h (Nat.not_lt_zero _)⟩, fun _ h => absurd h (Nat.not_lt_zero _), fun _ h => absurd h (Nat.not_lt_zero _)⟩
theorem Run.step (r : Run x S s0 l S') (hs : s0 < n) (hn : ¬ S' ((np x l).at s0)) {S'' : Nat → Prop} (h : ∀ j, j < n → (S'' j ↔ j = (np x l).at s0 ∨ S' j)) : Run x S s0 (l + 1) S'' := by
  have hl := (np x l).at_lt hs
  have hno := fun z => hn ((r.st _ hl).mpr z)
  refine ⟨fun j hj => ?_, fun i hi => ?_, fun i hi i' hi' => ?_⟩
  · rw [h j hj, r.st j hj]
    constructor
    · rintro (rfl | h | ⟨i, hi, e⟩)
      · exact .inr ⟨l, Nat.lt_succ_self _, rfl⟩
      · exact .inl h
      · exact .inr ⟨i, by omega, e⟩
    · rintro (h | ⟨i, hi, e⟩)
      · exact .inr (.inl h)
      · by_cases c : i = l
        · subst c
          exact .inl e.symm
        · exact .inr (.inr ⟨i, by omega, e⟩)
  · by_cases c : i = l
    · subst c
      exact fun z => hno (.inl z)
    · exact r.new i (by omega)
  · by_cases c : i = l
    · subst c
      exact fun z => hno (.inr ⟨i', hi', z.symm⟩)
    · exact r.dis i (by omega) i' hi'
theorem Run.zero (r : Run x S s0 0 S') (hs : s0 < n) : ∀ j, j < n → (S' j ↔ S j) := fun j hj => by
  rw [r.st j hj]
  exact ⟨fun h => h.elim id fun ⟨_, h, _⟩ => absurd h (Nat.not_lt_zero _), .inl⟩
/-- it comes back to its beginning -/
theorem Run.back (r : Run x S s0 l S') (c : Cyc x S found) (hs : s0 < n) (hl : 0 < l) (he : S' ((np x l).at s0)) : (np x l).at s0 = s0 := by
  obtain ⟨k, rfl⟩ : ∃ k, l = k + 1 := ⟨l - 1, by omega⟩
  have hk := (np x k).at_lt hs
  rw [Pm.at_np_succ x k hs] at he ⊢
  rcases (r.st _ (x.at_lt hk)).mp he with h | ⟨i, hi, e⟩
  · exact absurd (c.bwd _ hk h) (r.new k (Nat.lt_succ_self _))
  · cases i with
    | zero =>
      rw [← e]
      exact Pm.at_one hs
    | succ i =>
      rw [Pm.at_np_succ x i hs] at e
      have e' := x.inj ((np x i).at_lt hs) hk e
      exact absurd e'.symm (r.dis k (Nat.lt_succ_self _) i (by omega))
theorem at_mul_fix {k : Nat} {j : Nat} (hj : j < n) (h : (np x k).at j = j) : ∀ q, (np x (k * q)).at j = j
  | 0 => Pm.at_one hj
  | q + 1 => by
    rw [Nat.mul_succ, Pm.at_np_add x _ _ hj, at_mul_fix hj h q, h]
theorem at_dvd_fix {k m j : Nat} (hj : j < n) (h : (np x k).at j = j) (d : k ∣ m) : (np x m).at j = j := by
  obtain ⟨q, rfl⟩ := d
  exact at_mul_fix hj h q
theorem Run.close (r : Run x S s0 l S') (c : Cyc x S found) (hs : s0 < n) (hl : 0 < l) (he : S' ((np x l).at s0)) : Cyc x S' (Nat.lcm found l) ∧ S' s0 := by
  have hb := r.back c hs hl he
  have h0 : S' s0 := (r.st s0 hs).mpr (.inr ⟨0, hl, Pm.at_one hs⟩)
  refine ⟨⟨fun j hj h => ?_, fun j hj h => ?_, ?_, fun j hj h => ?_, fun m hm => ?_⟩, h0⟩
  · rcases (r.st j hj).mp h with h | ⟨i, hi, e⟩
    · exact (r.st _ (x.at_lt hj)).mpr (.inl (c.fwd j hj h))
    · subst e
      refine (r.st _ (x.at_lt hj)).mpr (.inr ?_)
      by_cases q : i + 1 = l
      · refine ⟨0, hl, ?_⟩
        rw [← Pm.at_np_succ x i hs, q, hb]
        exact Pm.at_one hs
      · exact ⟨i + 1, by omega, Pm.at_np_succ x i hs⟩
  · rcases (r.st _ (x.at_lt hj)).mp h with h | ⟨i, hi, e⟩
    · exact (r.st j hj).mpr (.inl (c.bwd j hj h))
    · refine (r.st j hj).mpr (.inr ?_)
      cases i with
      | zero =>
        obtain ⟨k, rfl⟩ : ∃ k, l = k + 1 := ⟨l - 1, by omega⟩
        refine ⟨k, Nat.lt_succ_self _, ?_⟩
        have e0 : (np x 0).at s0 = s0 := Pm.at_one hs
        rw [e0] at e
        rw [Pm.at_np_succ x k hs] at hb
        exact x.inj ((np x k).at_lt hs) hj (hb.trans e)
      | succ i =>
        rw [Pm.at_np_succ x i hs] at e
        exact ⟨i, by omega, x.inj ((np x i).at_lt hs) hj e⟩
  · exact Nat.lcm_pos (Nat.lt_of_lt_of_le (by decide) c.pos) hl
  · rcases (r.st j hj).mp h with h | ⟨i, hi, e⟩
    · exact at_dvd_fix hj (c.fix j hj h) (Nat.dvd_lcm_left _ _)
    · subst e
      refine at_dvd_fix hj ?_ (Nat.dvd_lcm_right _ _)
      rw [← Pm.at_np_add x _ _ hs, Nat.add_comm, Pm.at_np_add x _ _ hs, hb]
  · refine Nat.lcm_dvd (c.dvd m hm) ?_
    have e1 : (np x m).at s0 = s0 := by
      rw [hm]
      exact Pm.at_one hs
    have e2 : m = l * (m / l) + m % l := (Nat.div_add_mod m l).symm
    rw [e2, Pm.at_np_add x _ _ hs, at_mul_fix hs hb] at e1
    have hr := Nat.mod_lt m hl
    by_cases q : m % l = 0
    · exact Nat.dvd_of_mod_eq_zero q
    · have d := r.dis (m % l) hr 0 (by omega)
      rw [e1] at d
      exact absurd (Pm.at_one hs).symm d
theorem Cyc.ord (c : Cyc x S found) (h : ∀ j, j < n → S j) : IsOrd x found := by
  refine ⟨c.pos, Pm.ext fun i hi => ?_, c.dvd⟩
  rw [c.fix i hi (h i hi)]
  exact (Pm.at_one hi).symm
theorem Cyc.start : Cyc x (fun _ => False) 1 := ⟨fun _ _ h => h, fun _ _ h => h, Nat.le_refl _, fun _ _ h => h.elim, fun m _ => Nat.one_dvd m⟩
theorem Cyc.congr (c : Cyc x S found) (h : ∀ j, j < n → (S' j ↔ S j)) : Cyc x S' found :=
  ⟨fun j hj z => (h _ (x.at_lt hj)).mpr (c.fwd j hj ((h j hj).mp z)), fun j hj z => (h j hj).mpr (c.bwd j hj ((h _ (x.at_lt hj)).mp z)), c.pos, fun j hj z => c.fix j hj ((h j hj).mp z), c.dvd⟩
end
/-! marks in a list -/
def SB (bs : List Bool) (j : Nat) : Prop := bs.getD j false = true
def cF (bs : List Bool) : Nat := bs.countP (fun b => !b)
theorem cF_set : ∀ {bs : List Bool} {j : Nat}, bs[j]? = some false → cF (bs.set j true) + 1 = cF bs
  | [], j, h => by simp at h
  | b :: bs, 0, h => by
    have e : b = false := Option.some.inj h
    subst e
    simp [cF]
  | b :: bs, j + 1, h => by
    have ih := cF_set (bs := bs) (j := j) h
    unfold cF at ih ⊢
    rw [List.set_cons_succ, List.countP_cons, List.countP_cons]
    omega
theorem SB_set {bs : List Bool} {k : Nat} (hk : k < bs.length) (j : Nat) : SB (bs.set k true) j ↔ j = k ∨ SB bs j := by
  unfold SB
  rw [List.getD_eq_getElem?_getD, List.getD_eq_getElem?_getD]
  by_cases e : j = k
  · subst e
    rw [List.getElem?_set_self hk]
    simp
  · rw [List.getElem?_set_ne (fun q => e q.symm)]
    simp [e]
theorem SB_get {bs : List Bool} {j : Nat} (hj : j < bs.length) : bs[j]? = some (bs.getD j false) := by
  rw [List.getElem?_eq_getElem hj, List.getD_eq_getElem?_getD, List.getElem?_eq_getElem hj]
  rfl
theorem SB_rep {n j : Nat} : ¬ SB (List.replicate n false) j := by
  unfold SB
  rw [List.getD_eq_getElem?_getD, List.getElem?_replicate]
  split <;> simp
end BN
namespace BN
open PySem PySem.Spec PyProof.Rows L2
def bv (bs : List Bool) : List V := bs.map V.bl
theorem bv_len (bs : List Bool) : (bv bs).length = bs.length := List.length_map _
theorem bv_get {bs : List Bool} {j : Nat} (hj : j < bs.length) : (bv bs)[j]? = some (V.bl (bs.getD j false)) := by
  unfold bv
  rw [List.getElem?_map, SB_get hj]
  rfl
theorem bv_set (bs : List Bool) (j : Nat) (b : Bool) : (bv bs).set j (V.bl b) = bv (bs.set j b) := by
  unfold bv
  rw [List.map_set]
section
variable {P' : Program} {w : World} {K : PySem.W.Frag} {mg : Str → Option Value} {base : Heap} {C : Addr}
/-! ### order_of, order -/
def spOrder : Sp := fun vs H Q _ => ∃ (n : Nat) (x : Pm n) (a : Addr) (M : Nat), vs = [.ref a] ∧ TA' H a x.1 ∧ 1 ≤ n ∧ n ≤ 16 ∧ 1 ≤ M ∧ M ≤ 1000 ∧ np x M = Grp.one ∧ ∀ (H' : Hp) (k : Nat), Same H H' → IsOrd x k → Q (.int k) H'
theorem scOrderOf : FnScope ["change", "found", "seen", "state", "length"] ["change"] (defScope sOrderOf) := ⟨rfl, rfl, rfl, by decide +kernel, rfl, by decide +kernel, by decide +kernel⟩
theorem ok_order_of {f : Addr} {fd : FuncData} (F : Fun K "order_of" "order_of" sOrderOf f fd) (T : Tx mg) (DM : Def P' w K mg base CX0 2 "common_multiple" ["one", "other"] spMultiple) : FnOk P' w K mg base CX0 3 f fd ["change"] spOrder := by
  refine F.ok scOrderOf (fun vs H Q E h => ?_) (fun cdv A outer s H vs Q E hr h => ?_)
  · obtain ⟨n, x, a, M, rfl, _⟩ := h
    rfl
  · obtain ⟨n, x, a, M, rfl, ha, h1, h16, m1, m2, hM, k⟩ := h
    refine ⟨_, pss_cons (ps_par (i := 1) (j := 2) (by rfl) scOrderOf.nd rfl rfl (by decide) rfl rfl (pa_cons pe_int (pa_cons (pe_op op_rep (pe_lst (pa_cons pe_bl pa_nil)) (pe_callB call_len_seq (by rfl) T.len boot_len (pa_cons (pv 0) pa_nil))) pa_nil)) (by rfl))
      (pss_cons (ps_for PassesOwn.never rfl (pi_range1 (by rfl) T.rng (pa_cons (pe_callB call_len_seq (by rfl) T.len boot_len (pa_cons (pv 0) pa_nil)) pa_nil)) (pg_name (i := 3) scOrderOf.nd rfl (.inl rfl))
        (pss_cons (ps_set (i := 4) scOrderOf.nd rfl (.inl rfl) pe_int)
        (pss_cons (ps_while PassesOwn.never (pt_not (pt_val (pe_ix ix_list (pv 2) (pv 3) (fun _ _ => rfl))))
          (pss_one (ps_asg (pe_tup (pa_cons pe_bl (pa_cons (pe_ix ix_tup (pv 0) (pv 3) (fun _ _ => rfl)) (pa_cons (pe_op op_add (pv 4) pe_int) pa_nil))))
            (pg_tup rfl (pgs_cons (pg_sub (pv 2) (pv 3) set_list) (pgs_cons (pg_name (i := 3) scOrderOf.nd rfl (.inl rfl)) (pgs_cons (pg_name (i := 4) scOrderOf.nd rfl (.inl rfl)) pgs_nil)))))))
        (pss_one (ps_if (pt_cmpR op_gt (pv 4) pe_int (nomark _)) (pss_one (ps_set (i := 1) scOrderOf.nd rfl (.inl rfl) (pe_callD DM hr (by rfl) pass0 (pa_cons (pv 1) (pa_cons (pv 4) pa_nil))))) pss_nil)))))
      (pss_one (ps_ret (pv 1)))), ?_⟩
    have hx : (tv x.1).length = n := by rw [tv_len, x.2.len]
    -- found, seen = 1, [False] * len(change)
    refine ⟨(by show 1 ≤ sizeLine; decide), fun p hp => ?_⟩
    have s1 := same_upd (o := .lst [V.bl false]) hp
    refine ⟨_, rfl, a, tv x.1, rfl, .inr (SqT.of (ha.same s1)), p, _, [V.bl false], rfl, rfl, upd_same, by omega, by omega, ?_, fun l hl => ?_⟩
    · rw [hx]
      show 1 * _ ≤ sizeLine
      exact sl9 (by omega)
    have er : (List.replicate ((((tv x.1).length : Nat) : Int)).toNat [V.bl false]).flatten = bv (List.replicate n false) := by
      rw [hx, show ((n : Nat) : Int).toNat = n from rfl]
      unfold bv
      rw [List.map_replicate]
      generalize n = m
      induction m with
      | zero => rfl
      | succ m ih =>
        rw [List.replicate_succ, List.replicate_succ, List.flatten_cons, ih]
        rfl
    rw [er]
    have s2 := s1.trans (same_upd (o := .lst (bv (List.replicate n false))) hl)
    have hlH : H l = Option.none := Same.free s1 hl
    refine ⟨_, _, rfl, ?_⟩
    refine ⟨_, rfl, a, tv x.1, rfl, .inr (SqT.of (ha.same s2)), (n : Int), by rw [hx], by omega, by omega, ?_⟩
    refine for_range (lo := 0) (n := ((n : Nat) : Int).toNat) (fun i σ H' => ∃ (u v : Option V) (fnd : Nat) (bs : List Bool), σ = [some (.ref a), some (.int fnd), some (.ref l), u, v] ∧ Same H H' ∧ H' l = some (.lst (bv bs)) ∧ bs.length = n ∧ Cyc x (SB bs) fnd ∧ ∀ j, j < i → SB bs j)
      ⟨none, none, 1, List.replicate n false, rfl, s2, upd_same, List.length_replicate, Cyc.start.congr (fun j _ => ⟨fun h => SB_rep h, fun h => h.elim⟩), fun j h => absurd h (Nat.not_lt_zero _)⟩ ?_ ?_
    · rintro i σ H1 hi ⟨u, v, fnd, bs, rfl, s3, el, bn, cy, hs⟩
      have hin : i < n := hi
      have f1 := cy.pos
      have fM : fnd ≤ 1000 := Nat.le_trans (Nat.le_of_dvd (by omega) (cy.dvd M hM)) m2
      refine ⟨fun m σ H' => ∃ (bs' : List Bool) (ln : Nat), σ = [some (.ref a), some (.int fnd), some (.ref l), some (.int ((np x ln).at i : Nat)), some (.int ln)] ∧ Same H H' ∧ H' l = some (.lst (bv bs')) ∧ bs'.length = n ∧ Run x (SB bs) i ln (SB bs') ∧ cF bs' = m,
        ⟨cF bs, bs, 0, ?_, s3, el, bn, Run.start, rfl⟩, ?_⟩
      · have e0 : (np x 0).at i = i := Pm.at_one hin
        rw [e0]
        show [some (V.ref a), some (V.int fnd), some (V.ref l), some (V.int (0 + (i : Nat))), some (V.int 0)] = _
        rw [Int.zero_add]
        rfl
      rintro m σ H2 ⟨bs', ln, rfl, s4, el', bn', rn, rfl⟩
      have hat := (np x ln).at_lt hin
      refine ⟨_, rfl, _, rfl, l, _, _, _, rfl, rfl, SqL.of el', atI_nat (bv_get (by rw [bn']; exact hat)), _, rfl, ?_⟩
      by_cases c : SB bs' ((np x ln).at i)
      · -- seen
        rw [show bs'.getD ((np x ln).at i) false = true from c]
        refine iteF ?_
        refine ⟨_, rfl, _, _, rfl, rfl, _, rfl, ite2 (fun hc => ?_) (fun hc => ?_)⟩
        · have hln : 0 < ln := by
            have q : (0 : Int) < (ln : Int) := of_decide_eq_true hc
            omega
          obtain ⟨cy', hi'⟩ := rn.close cy hin hln c
          refine ⟨_, rfl, _, rfl, fnd, ln, rfl, f1, by omega, ?_⟩
          refine ⟨_, _, Nat.lcm fnd ln, bs', rfl, s4, el', bn', cy', fun j hj => ?_⟩
          by_cases q : j = i
          · rw [q]
            exact hi'
          · exact (rn.st j (by omega)).mpr (.inl (hs j (by omega)))
        · have hln : ln = 0 := by
            have q : ¬ (0 : Int) < (ln : Int) := fun z => hc (decide_eq_true z)
            omega
          subst hln
          have z := rn.zero hin
          refine ⟨_, _, fnd, bs', rfl, s4, el', bn', cy.congr z, fun j hj => ?_⟩
          by_cases q : j = i
          · rw [q]
            have e0 : (np x 0).at i = i := Pm.at_one hin
            rw [e0] at c
            exact c
          · exact (z j (by omega)).mpr (hs j (by omega))
      · -- not seen
        have cf : bs'.getD ((np x ln).at i) false = false := by
          cases q : bs'.getD ((np x ln).at i) false with
          | false => rfl
          | true => exact absurd q c
        rw [cf]
        refine iteT ?_
        refine ⟨fun σ' H' => ∃ (bs2 : List Bool), σ' = [some (.ref a), some (.int fnd), some (.ref l), some (.int ((np x (ln + 1)).at i : Nat)), some (.int ((ln + 1 : Nat) : Int))] ∧ Same H H' ∧ H' l = some (.lst (bv bs2)) ∧ bs2.length = n ∧ Run x (SB bs) i (ln + 1) (SB bs2) ∧ cF bs2 + 1 = cF bs', ?_, ?_⟩
        · rintro σ' H' ⟨bs2, rfl, a1, a2, a3, a4, a5⟩
          exact ⟨cF bs2, by omega, bs2, ln + 1, rfl, a1, a2, a3, a4, rfl⟩
        · refine ⟨_, rfl, _, rfl, a, tv x.1, _, _, rfl, rfl, SqT.of (ha.same s4), atI_nat (j := (np x ln).at i) (tv_get (by rw [x.2.len]; exact hat)), ?_⟩
          refine ⟨_, rfl, _, _, rfl, rfl, (by show 3 ≤ sizeLine; decide), fun t ht => ?_⟩
          have nlt : l ≠ t := ne_of_none el' ht
          refine ⟨t, _, rfl, SqT.of upd_same, rfl, _, _, rfl, _, rfl, _, rfl, l, bv bs', _, (np x ln).at i, rfl, rfl, ?_, ?_, ?_⟩
          · rw [upd_ne nlt]
            exact el'
          · rw [bv_len]
            exact ixN_nat (by rw [bn']; exact hat)
          · refine ⟨_, _, rfl, _, _, rfl, rfl, bs'.set ((np x ln).at i) true, ?_, ?_, ?_, ?_, ?_, ?_⟩
            · rw [Pm.at_np_succ x ln hin]
              rfl
            · exact same_updw (same_updw s4 (s4.free ht)) hlH
            · rw [upd_same, bv_set]
            · rw [List.length_set]
              exact bn'
            · exact rn.step hin c (fun j _ => SB_set (by rw [bn']; exact hat) j)
            · exact cF_set (by rw [SB_get (by rw [bn']; exact hat), cf])
    · rintro σ H1 ⟨u, v, fnd, bs, rfl, s3, el, bn, cy, hs⟩
      exact ⟨_, rfl, k _ _ s3 (cy.ord fun j hj => hs j hj)⟩
theorem scOrder : FnScope ["change"] ["change"] (defScope sOrder) := ⟨rfl, rfl, rfl, by decide +kernel, rfl, by decide +kernel, by decide +kernel⟩
theorem ok_order {f : Addr} {fd : FuncData} (F : Fun K "order" "order" sOrder f fd) (DO : Def P' w K mg base CX0 3 "order_of" ["change"] spOrder) (DS : Def P' w K mg base CX0 1 "size_of" ["change"] spSizeOf) (DC : Def P' w K mg base (L2.CX P' w) 4 "checked_change" ["states", "value"] (spChecked C)) : FnOk P' w K mg base CX0 5 f fd ["change"] spOrder := by
  refine F.ok scOrder (fun vs H Q E h => ?_) (fun cdv A outer s H vs Q E hr h => ?_)
  · obtain ⟨n, x, a, M, rfl, _⟩ := h
    rfl
  · obtain ⟨n, x, a, M, rfl, ha, h1, h16, m1, m2, hM, k⟩ := h
    have hr1 : Room 1 _ := hr.mono (by decide)
    have hr3 : Room 3 _ := hr.mono (by decide)
    have hx : (tv x.1).length = n := by rw [tv_len, x.2.len]
    refine ⟨_, pss_one (ps_ret (pe_callD DO hr3 (by rfl) pass0 (pa_cons (pe_callD DC hr (by rfl) passL (pa_cons (pe_callD DS hr1 (by rfl) pass0 (pa_cons (pv 0) pa_nil)) (pa_cons (pv 0) pa_nil))) pa_nil))), ?_⟩
    refine ⟨_, rfl, a, _, rfl, ha, _, rfl, n, .ref a, by rw [hx]; rfl, h1, h16, .inl ⟨x, a, rfl, ha, fun H1 s1 => ?_⟩⟩
    exact ⟨n, x, a, M, rfl, ha.same s1, h1, h16, m1, m2, hM, fun H2 j s2 hj => k _ _ (s1.trans s2) hj⟩
end
end BN
namespace BN
/-! ## the round, its parts' sizes -/
theorem fpr_up : ∀ (k n f : Nat), fpr k n f ≤ f + k
  | 0, _, _ => Nat.le_refl _
  | k + 1, n, f => by
    unfold fpr
    split
    · omega
    · have := fpr_up k n (f + 1)
      omega
theorem fprime_le {n : Nat} (h : 2 ≤ n) : fprime n ≤ n := by
  have := fpr_up (n - 2) n 2
  unfold fprime
  omega
theorem fprime_ge (n : Nat) : 2 ≤ fprime n := fpr_le _ _ _
theorem strip_mul {p : Nat} (hp : 1 ≤ p) : ∀ (k n w : Nat), 1 ≤ n → (strip k n p w).2 * (strip k n p w).1 = w * n ∧ 1 ≤ (strip k n p w).1
  | 0, n, w, h => ⟨rfl, h⟩
  | k + 1, n, w, h => by
    by_cases c : n % p = 0
    · have e : strip (k + 1) n p w = strip k (n / p) p (w * p) := by rw [strip, if_pos c]
      have hd : p * (n / p) = n := Nat.mul_div_cancel' (Nat.dvd_of_mod_eq_zero c)
      have h1 : 1 ≤ n / p := by
        rcases Nat.eq_zero_or_pos (n / p) with z | z
        · rw [z] at hd
          omega
        · exact z
      obtain ⟨a, b⟩ := strip_mul hp k (n / p) (w * p) h1
      rw [e]
      refine ⟨?_, b⟩
      rw [a, Nat.mul_assoc, hd]
    · have e : strip (k + 1) n p w = (n, w) := by rw [strip, if_neg c]
      rw [e]
      exact ⟨rfl, h⟩
theorem strip_le {k n p : Nat} (hp : 1 ≤ p) (h : 1 ≤ n) : (strip k n p 1).2 ≤ n ∧ (strip k n p 1).1 ≤ n ∧ 1 ≤ (strip k n p 1).1 := by
  obtain ⟨a, b⟩ := strip_mul hp k n 1 h
  rw [Nat.one_mul] at a
  refine ⟨?_, ?_, b⟩
  · calc (strip k n p 1).2 = (strip k n p 1).2 * 1 := (Nat.mul_one _).symm
      _ ≤ (strip k n p 1).2 * (strip k n p 1).1 := Nat.mul_le_mul_left _ b
      _ = n := a
  · rcases Nat.eq_zero_or_pos (strip k n p 1).2 with z | z
    · rw [z, Nat.zero_mul] at a
      omega
    · calc (strip k n p 1).1 = 1 * (strip k n p 1).1 := (Nat.one_mul _).symm
        _ ≤ (strip k n p 1).2 * (strip k n p 1).1 := Nat.mul_le_mul_right _ z
        _ = n := a
theorem ppw_mem : ∀ (k n p : Nat) (acc : List Nat) (q : Nat), 1 ≤ n → 1 ≤ p → q ∈ ppw k n p acc → q ∈ acc ∨ (2 ≤ q ∧ q ≤ n)
  | 0, _, _, _, _, _, _, h => .inl h
  | k + 1, n, p, acc, q, hn, hp, h => by
    by_cases c : 1 < n
    · rw [ppw, if_pos c] at h
      obtain ⟨a, b, d⟩ := strip_le (k := n) hp hn
      rcases ppw_mem k _ _ _ q d (by omega) h with h | ⟨h1, h2⟩
      · split at h
        · rcases List.mem_append.mp h with h | h
          · exact .inl h
          · have e := List.mem_singleton.mp h
            subst e
            exact .inr ⟨by omega, a⟩
        · exact .inl h
      · exact .inr ⟨h1, by omega⟩
    · rw [ppw, if_neg c] at h
      exact .inl h
theorem ppows_mem {n q : Nat} (hn : 1 ≤ n) (h : q ∈ ppows n) : 2 ≤ q ∧ q ≤ n := by
  rcases ppw_mem n n 2 [] q hn (by omega) h with h | h
  · cases h
  · exact h
theorem ppw_len : ∀ (k n p : Nat) (acc : List Nat), (ppw k n p acc).length ≤ acc.length + k
  | 0, _, _, _ => Nat.le_refl _
  | k + 1, n, p, acc => by
    rw [ppw]
    split
    · have := ppw_len k (strip n n p 1).1 (p + 1) (if 1 < (strip n n p 1).2 then acc ++ [(strip n n p 1).2] else acc)
      split at this
      · rw [List.length_append, List.length_singleton] at this
        rename_i h
        rw [if_pos h]
        omega
      · rename_i h
        rw [if_neg h]
        omega
    · omega
theorem redu_stop {r : Nat → Bool} {p f : Nat} (h : ¬ (f % p = 0 ∧ r (f / p) = true)) : ∀ k, redu r p k f = f
  | 0 => rfl
  | k + 1 => by rw [redu, if_neg h]
theorem redu_go {r : Nat → Bool} {p f k : Nat} (h : f % p = 0 ∧ r (f / p) = true) : redu r p (k + 1) f = redu r p k (f / p) := by rw [redu, if_pos h]
/-- as far as i parts -/
def croI (r : Nat → Bool) (L i : Nat) : Nat := ((ppows L).take i).foldl (fun f part => redu r (fprime part) f f) L
theorem croI_zero (r : Nat → Bool) (L : Nat) : croI r L 0 = L := rfl
theorem croI_end (r : Nat → Bool) (L : Nat) : croI r L (ppows L).length = cro r L := by
  unfold croI cro
  rw [List.take_length]
theorem croI_succ {r : Nat → Bool} {L i q : Nat} (h : (ppows L)[i]? = some q) : croI r L (i + 1) = redu r (fprime q) (croI r L i) (croI r L i) := by
  unfold croI
  rw [List.take_add_one, h, List.foldl_append]
  rfl
theorem croI_ok {r : Nat → Bool} {L : Nat} (h : 1 ≤ L) (hr : r L = true) (i : Nat) : 1 ≤ croI r L i ∧ croI r L i ≤ L ∧ r (croI r L i) = true := fold_ok _ h hr
end BN
namespace BN
open PySem PySem.Spec PyProof.Rows L2
/-- the round of a couple, as the program finds it -/
noncomputable def lcO {n : Nat} (x y : Pm n) : Nat := Nat.lcm (Nat.lcm (ord x) (ord y)) (ord (Grp.mul x y))
noncomputable def cR {n : Nat} (x y : Pm n) : Nat := cro (rdb x y) (lcO x y)
theorem lcO_ok {n : Nat} {x y : Pm n} {M a b c : Nat} (hM : 1 ≤ M) (h : Idle x y M) (ha : IsOrd x a) (hb : IsOrd y b) (hc : IsOrd (Grp.mul x y) c) :
    Nat.lcm (Nat.lcm a b) c = lcO x y ∧ Nat.lcm a b ∣ M ∧ lcO x y ∣ M ∧ 1 ≤ lcO x y ∧ rdb x y (lcO x y) = true := by
  obtain ⟨h1, h2, h3⟩ := h
  have e : Nat.lcm (Nat.lcm a b) c = lcO x y := by
    unfold lcO
    rw [ha.eq, hb.eq, hc.eq]
  have d1 : Nat.lcm a b ∣ M := Nat.lcm_dvd (ha.2.2 M h2) (hb.2.2 M h3)
  have d2 : lcO x y ∣ M := by
    rw [← e]
    exact Nat.lcm_dvd d1 (hc.2.2 M h1)
  have p : 1 ≤ lcO x y := Nat.pos_of_dvd_of_pos d2 hM
  refine ⟨e, d1, d2, p, decide_eq_true (Idle.rd ⟨?_, ?_, ?_⟩)⟩
  · exact np_dvd hc.2.1 (by rw [← e]; exact Nat.dvd_lcm_right _ _)
  · exact np_dvd ha.2.1 (by rw [← e]; exact Nat.dvd_trans (Nat.dvd_lcm_left a b) (Nat.dvd_lcm_left _ _))
  · exact np_dvd hb.2.1 (by rw [← e]; exact Nat.dvd_trans (Nat.dvd_lcm_right a b) (Nat.dvd_lcm_left _ _))
section
variable {P' : Program} {w : World} {K : PySem.W.Frag} {mg : Str → Option Value} {base : Heap} {C : Addr}
/-! ### couple_round -/
def spRound : Sp := fun vs H Q _ => ∃ (n : Nat) (x y : Pm n) (a b : Addr) (M : Nat), vs = [.ref a, .ref b] ∧ TA' H a x.1 ∧ TA' H b y.1 ∧ 1 ≤ n ∧ n ≤ 16 ∧ 1 ≤ M ∧ M ≤ 1000 ∧ Idle x y M ∧
  ∀ H', Same H H' → 1 ≤ cR x y → cR x y ≤ M → Rd x y (cR x y) → Q (.int (cR x y : Nat)) H'
theorem scRound : FnScope ["one", "other", "both", "found", "part", "prime"] ["one", "other"] (defScope sRound) := ⟨rfl, rfl, rfl, by decide +kernel, rfl, by decide +kernel, by decide +kernel⟩
theorem ok_round {f : Addr} {fd : FuncData} (F : Fun K "couple_round" "couple_round" sRound f fd) (DF : Def P' w K mg base (L2.CX P' w) 5 "followed" ["one", "other"] (spFollowed C)) (DM : Def P' w K mg base CX0 2 "common_multiple" ["one", "other"] spMultiple)
    (DO : Def P' w K mg base CX0 5 "order" ["change"] spOrder) (DP : Def P' w K mg base CX0 1 "prime_powers" ["number"] spPowers) (D1 : Def P' w K mg base CX0 1 "first_prime" ["number"] spFirst) (DR : Def P' w K mg base CX0 8 "is_round" ["one", "other", "count"] spIsRound) :
    FnOk P' w K mg base CX0 9 f fd ["one", "other"] spRound := by
  refine F.ok scRound (fun vs H Q E h => ?_) (fun cdv A outer s H vs Q E hr h => ?_)
  · obtain ⟨n, x, y, a, b, M, rfl, _⟩ := h
    rfl
  · obtain ⟨n, x, y, a, b, M, rfl, ha, hb, h1, h16, m1, m2, hM, k⟩ := h
    have hr1 : Room 1 _ := hr.mono (by decide)
    have hr2 : Room 2 _ := hr.mono (by decide)
    have hr5 : Room 5 _ := hr.mono (by decide)
    refine ⟨_, pss_cons (ps_set (i := 2) scRound.nd rfl (.inl rfl) (pe_callD DF hr5 (by rfl) passL (pa_cons (pv 0) (pa_cons (pv 1) pa_nil))))
      (pss_cons (ps_set (i := 3) scRound.nd rfl (.inl rfl) (pe_callD DM hr2 (by rfl) pass0 (pa_cons (pe_callD DM hr2 (by rfl) pass0 (pa_cons (pe_callD DO hr5 (by rfl) pass0 (pa_cons (pv 0) pa_nil)) (pa_cons (pe_callD DO hr5 (by rfl) pass0 (pa_cons (pv 1) pa_nil)) pa_nil)))
          (pa_cons (pe_callD DO hr5 (by rfl) pass0 (pa_cons (pv 2) pa_nil)) pa_nil))))
      (pss_cons (ps_for PassesOwn.never rfl (pi_list (pe_callD DP hr1 (by rfl) pass0 (pa_cons (pv 3) pa_nil))) (pg_name (i := 4) scRound.nd rfl (.inl rfl))
        (pss_cons (ps_set (i := 5) scRound.nd rfl (.inl rfl) (pe_callD D1 hr1 (by rfl) pass0 (pa_cons (pv 4) pa_nil)))
        (pss_one (ps_while PassesOwn.never (pw_and (pt_cmpR op_eq (pe_op op_mod (pv 3) (pv 5)) pe_int (nomark _)) (pw_and1 (pt_val (pe_callD DR hr (by rfl) pass0 (pa_cons (pv 0) (pa_cons (pv 1) (pa_cons (pe_op op_fdiv (pv 3) (pv 5)) pa_nil))))))).pt
          (pss_one (ps_set (i := 3) scRound.nd rfl (.inl rfl) (pe_op op_fdiv (pv 3) (pv 5))))))))
      (pss_one (ps_ret (pv 3))))), ?_⟩
    obtain ⟨i1, i2, i3⟩ := id hM
    refine ⟨_, rfl, _, rfl, n, x, a, .ref b, rfl, ha, h1, h16, .inl ⟨y, b, rfl, hb, fun H1 c s1 hc => ?_⟩⟩
    refine ⟨_, rfl, n, x, a, M, rfl, ha.same s1, h1, h16, m1, m2, i2, fun H2 o1 s2 q1 => ?_⟩
    have s12 := s1.trans s2
    refine ⟨_, rfl, n, y, b, M, rfl, hb.same s12, h1, h16, m1, m2, i3, fun H3 o2 s3 q2 => ?_⟩
    have s13 := s12.trans s3
    have o1M : o1 ≤ M := Nat.le_of_dvd m1 (q1.2.2 M i2)
    refine ⟨o1, o2, rfl, q1.1, by omega, ?_⟩
    refine ⟨_, rfl, n, Grp.mul x y, c, M, rfl, hc.same (s2.trans s3), h1, h16, m1, m2, i1, fun H4 o3 s4 q3 => ?_⟩
    have s14 := s13.trans s4
    obtain ⟨e, d1, d2, p1, rt⟩ := lcO_ok m1 hM q1 q2 q3
    have lM : Nat.lcm o1 o2 ≤ M := Nat.le_of_dvd m1 d1
    have LM : lcO x y ≤ M := Nat.le_of_dvd m1 d2
    refine ⟨Nat.lcm o1 o2, o3, rfl, Nat.pos_of_dvd_of_pos d1 m1, by omega, ?_⟩
    rw [e]
    -- the loop over the parts
    refine ⟨_, rfl, lcO x y, rfl, p1, by omega, fun H5 l s5 hl => ?_⟩
    have s15 := s14.trans s5
    refine ⟨l, rfl, ⟨_, SqL.of hl⟩, for_list (K := K) (a := l) (xs := tv (ppows (lcO x y))) (fun i σ H' => ∃ (u v : Option V), σ = [some (.ref a), some (.ref b), some (.ref c), some (.int (croI (rdb x y) (lcO x y) i : Nat)), u, v] ∧ Same H5 H')
      ⟨none, none, rfl, Same.refl _⟩ (fun i σ H' _ h => by obtain ⟨_, _, _, s⟩ := h; exact SqL.of (s _ _ hl)) ?_ ?_⟩
    · rintro i v σ H6 hi ⟨u, v', rfl, s6⟩
      have hil : i < (ppows (lcO x y)).length := by
        have q := (List.getElem?_eq_some_iff.mp hi).1
        rwa [tv_len] at q
      rw [tv_get hil] at hi
      cases hi
      have hq : (ppows (lcO x y))[i]? = some ((ppows (lcO x y)).getD i 0) := by
        rw [List.getElem?_eq_getElem hil, List.getD_eq_getElem?_getD, List.getElem?_eq_getElem hil]
        rfl
      generalize (ppows (lcO x y)).getD i 0 = part at hq ⊢
      obtain ⟨g2, gL⟩ := ppows_mem p1 (List.mem_of_getElem? hq)
      have hp2 := fprime_ge part
      have hpl := fprime_le g2
      have e1 := croI_succ (r := rdb x y) hq
      obtain ⟨c1, cL, cr⟩ := croI_ok p1 rt i
      generalize hp : fprime part = p at hp2 hpl e1
      generalize hf0 : croI (rdb x y) (lcO x y) i = f0 at e1 c1 cL cr ⊢
      refine ⟨_, rfl, part, rfl, g2, by omega, ?_⟩
      rw [hp]
      refine ⟨fun mm σ H' => ∃ f : Nat, σ = [some (.ref a), some (.ref b), some (.ref c), some (.int (f : Nat)), some (.int (part : Nat)), some (.int (p : Nat))] ∧ Same H5 H' ∧ redu (rdb x y) p mm f = redu (rdb x y) p f0 f0 ∧ f ≤ mm ∧ 1 ≤ f ∧ f ≤ 1000,
        ⟨f0, f0, rfl, s6, rfl, Nat.le_refl _, c1, by omega⟩, ?_⟩
      rintro mm σ H7 ⟨f, rfl, s7, e2, fm, f1, f1000⟩
      have s17 := s15.trans s7
      have stop : ¬ (f % p = 0 ∧ rdb x y (f / p) = true) → ∀ H8, Same H5 H8 → ∃ (u v : Option V), ([some (V.ref a), some (V.ref b), some (V.ref c), some (V.int (f : Nat)), some (V.int (part : Nat)), some (V.int (p : Nat))] : L2.St) = [some (.ref a), some (.ref b), some (.ref c), some (.int (croI (rdb x y) (lcO x y) (i + 1) : Nat)), u, v] ∧ Same H5 H8 := fun hn H8 s8 => by
        rw [redu_stop hn] at e2
        rw [e1, ← e2]
        exact ⟨_, _, rfl, s8⟩
      refine ⟨_, rfl, _, rfl, _, _, rfl, rfl, (by show (0 : Int) < p; omega), rfl, _, rfl, ?_⟩
      by_cases hd : f % p = 0
      · rw [show decide (V.int ((f : Int) % (p : Int)) = V.int 0) = true from decide_eq_true (by
          show V.int ((f % p : Nat) : Int) = V.int 0
          rw [hd]
          rfl)]
        refine iteT ?_
        refine ⟨_, rfl, _, rfl, _, rfl, _, rfl, _, _, rfl, rfl, ⟨(by show (0 : Int) < p; omega), (by show (p : Int) < 1073741824; omega)⟩, ?_⟩
        refine ⟨n, x, y, a, b, f / p, rfl, ha.same s17, hb.same s17, h1, h16, fun H8 s8 => ⟨_, rfl, ?_⟩⟩
        have s78 := s7.trans s8
        by_cases hrd : rdb x y (f / p) = true
        · rw [hrd]
          refine iteT ?_
          have hdv : p * (f / p) = f := Nat.mul_div_cancel' (Nat.dvd_of_mod_eq_zero hd)
          have hdl : f / p < f := Nat.div_lt_self (by omega) (by omega)
          have hd1 : 1 ≤ f / p := by
            rcases Nat.eq_zero_or_pos (f / p) with q | q
            · rw [q] at hdv
              omega
            · exact q
          obtain ⟨mm', rfl⟩ : ∃ mm', mm = mm' + 1 := ⟨mm - 1, by omega⟩
          refine ⟨fun σ' H' => σ' = [some (.ref a), some (.ref b), some (.ref c), some (.int ((f / p : Nat) : Int)), some (.int (part : Nat)), some (.int (p : Nat))] ∧ Same H5 H', ?_, ?_⟩
          · rintro σ' H' ⟨rfl, s9⟩
            refine ⟨mm', Nat.lt_succ_self _, f / p, rfl, s9, ?_, by omega, hd1, by omega⟩
            rw [← e2, redu_go ⟨hd, hrd⟩]
          · exact ⟨_, rfl, _, rfl, _, _, rfl, rfl, ⟨(by show (0 : Int) < p; omega), (by show (p : Int) < 1073741824; omega)⟩, rfl, s78⟩
        · rw [show rdb x y (f / p) = false by
            cases q : rdb x y (f / p) with
            | false => rfl
            | true => exact absurd q hrd]
          refine iteF ?_
          exact stop (fun z => hrd z.2) H8 s78
      · rw [show decide (V.int ((f : Int) % (p : Int)) = V.int 0) = false from decide_eq_false (fun z => hd (by
          have z' : V.int ((f % p : Nat) : Int) = V.int 0 := z
          have z2 := V.int.inj z'
          omega))]
        refine iteF ?_
        exact stop (fun z => hd z.1) H7 s7
    · rintro σ H6 ⟨u, v', rfl, s6⟩
      rw [tv_len, croI_end]
      obtain ⟨c1, cL, cr⟩ := cro_ok p1 rt
      exact ⟨_, rfl, k H6 (s15.trans s6) c1 (Nat.le_trans cL LM) (of_decide_eq_true cr)⟩
end
end BN
namespace BN
open PySem PySem.Spec PyProof.Rows L2
/-- the numbers below the round that suit -/
noncomputable def rl {n : Nat} (x y : Pm n) : List Nat := (List.range (cR x y)).filter fun j => sub x y (j : Nat)
theorem rd_per {n : Nat} {x y : Pm n} {d : Nat} (h : Rd x y d) : Per (sub x y) d := fun i => by
  unfold sub
  by_cases e : Su x y i
  · rw [decide_eq_true e, decide_eq_true ((su_shift h i).mpr e)]
  · rw [decide_eq_false e, decide_eq_false fun z => e ((su_shift h i).mp z)]
theorem sub_zero {n : Nat} (x y : Pm n) : sub x y 0 = true := decide_eq_true (Su.zero x y)
theorem sub_nat {n : Nat} (x y : Pm n) (i : Nat) : sub x y i = decide (np (Grp.mul x y) i = Grp.mul (np x i) (np y i)) := by
  unfold sub
  have e : Su x y i ↔ np (Grp.mul x y) i = Grp.mul (np x i) (np y i) := by
    unfold Su
    rw [zp_nat, zp_nat, zp_nat]
  by_cases h : Su x y i
  · rw [decide_eq_true h, decide_eq_true (e.mp h)]
  · rw [decide_eq_false h, decide_eq_false fun z => h (e.mpr z)]
theorem filter_range_succ (p : Nat → Bool) (i : Nat) : (List.range (i + 1)).filter p = (List.range i).filter p ++ (if p i = true then [i] else []) := by
  rw [List.range_succ, List.filter_append, List.filter_cons]
  split <;> rfl
theorem tv_snoc (l : List Nat) (i : Nat) : tv (l ++ [i]) = tv l ++ [V.int (i : Nat)] := by
  unfold tv
  rw [List.map_append]
  rfl
theorem filter_take_succ {l : List Nat} {p : Nat → Bool} {i j : Nat} (h : l[i]? = some j) : (l.take (i + 1)).filter p = (l.take i).filter p ++ (if p j = true then [j] else []) := by
  rw [List.take_add_one, h, List.filter_append]
  congr 1
  show List.filter p [j] = _
  rw [List.filter_cons]
  split <;> rfl
/-- none, or more -/
def mx (z : Int) : Int := if z > 0 then z else 0
section
variable {P' : Program} {w : World} {K : PySem.W.Frag} {mg : Str → Option Value} {base : Heap} {C : Addr}
/-! ### couple_rests -/
def spRests (C : Addr) : Sp := fun vs H Q E => ∃ (n : Nat) (x : Pm n) (a : Addr) (v : V), vs = [.ref a, v] ∧ TA' H a x.1 ∧ 1 ≤ n ∧ n ≤ 16 ∧
  ((∃ (y : Pm n) (b : Addr) (M : Nat), v = .ref b ∧ TA' H b y.1 ∧ 1 ≤ M ∧ M ≤ 1000 ∧ Idle x y M ∧ ∀ (H' : Hp) (c : Addr), Same H H' → TA' H' c (rl x y) → Q (.ref c) H') ∨ (Wrong H n v ∧ Bad C H E))
theorem scRests : FnScope ["one", "other", "found", "both", "whole", "first", "second", "count"] ["one", "other"] (defScope sRests) := ⟨rfl, rfl, rfl, by decide +kernel, rfl, by decide +kernel, by decide +kernel⟩
theorem ok_rests {f : Addr} {fd : FuncData} (F : Fun K "couple_rests" "couple_rests" sRests f fd) (T : Tx mg) (DF : Def P' w K mg base (L2.CX P' w) 5 "followed" ["one", "other"] (spFollowed C)) (DR : Def P' w K mg base CX0 2 "raised" ["change", "count"] spRaised)
    (DN : Def P' w K mg base CX0 9 "couple_round" ["one", "other"] spRound) (DA : Def P' w K mg base CX0 1 "after" ["one", "other"] spAfter) : FnOk P' w K mg base (L2.CX P' w) 10 f fd ["one", "other"] (spRests C) := by
  refine F.okX scRests (fun vs H Q E h => ?_) (fun cdv A outer s H vs Q E hr h => ?_)
  · obtain ⟨n, x, a, v, rfl, _⟩ := h
    rfl
  · obtain ⟨n, x, a, v, rfl, ha, h1, h16, h⟩ := h
    have hr1 : Room 1 _ := hr.mono (by decide)
    have hr2 : Room 2 _ := hr.mono (by decide)
    have hr5 : Room 5 _ := hr.mono (by decide)
    refine ⟨_, pss_cons (ps_par (i := 2) (j := 3) (by rfl) scRests.nd rfl rfl (by decide) rfl rfl (by exact pa_cons (pe_lst pa_nil) (pa_cons (pe_callD (E := E) DF hr5 (by rfl) (passes_call (takes_of rfl rfl rfl rfl) (fun _ _ _ _ h => h)) (pa_cons (pv 0) (pa_cons (pv 1) pa_nil))) pa_nil)) (by rfl))
      (PSs.nox (pss_cons (ps_asg3 (pe_callD DR hr2 (by rfl) pass0 (pa_cons (pv 0) (pa_cons pe_int pa_nil))) (pg_name (i := 4) scRests.nd rfl (.inl rfl)) (pg_name (i := 5) scRests.nd rfl (.inl rfl)) (pg_name (i := 6) scRests.nd rfl (.inl rfl)))
      (pss_cons (ps_for PassesOwn.never rfl (pi_range1 (by rfl) T.rng (pa_cons (pe_callD DN hr (by rfl) pass0 (pa_cons (pv 0) (pa_cons (pv 1) pa_nil))) pa_nil)) (pg_name (i := 7) scRests.nd rfl (.inl rfl))
        (pss_cons (ps_if (pt_cmpR (op_eqT hr.units) (pv 4) (pe_callD DA hr1 (by rfl) pass0 (pa_cons (pv 5) (pa_cons (pv 6) pa_nil))) (nomark _))
            (pss_one (ps_expr (pe_bm PySem.F.plainAttrs_list PySem.F.slot_list_append PySem.F.type_list_append mt_append (pv 2) (pa_cons (pv 7) pa_nil)))) pss_nil)
        (pss_one (ps_par3 (i := 4) (j := 5) (l := 6) (by rfl) scRests.nd rfl rfl rfl (by decide) (by decide) (by decide) rfl rfl rfl
          (pa_cons (pe_callD DA hr1 (by rfl) pass0 (pa_cons (pv 4) (pa_cons (pv 3) pa_nil))) (pa_cons (pe_callD DA hr1 (by rfl) pass0 (pa_cons (pv 5) (pa_cons (pv 0) pa_nil))) (pa_cons (pe_callD DA hr1 (by rfl) pass0 (pa_cons (pv 6) (pa_cons (pv 1) pa_nil))) pa_nil))) (by rfl)))))
      (pss_one (ps_ret (pe_callTy call_tuple_of (by rfl) T.tup boot_tuple (pa_cons (pv 2) pa_nil))))))), ?_⟩
    refine ⟨Nat.zero_le _, fun l hl => ?_⟩
    have s0 := same_upd (o := .lst []) hl
    refine ⟨_, rfl, _, rfl, n, x, a, v, rfl, ha.same s0, h1, h16, ?_⟩
    rcases h with ⟨y, b, M, rfl, hb, m1, m2, hM, k⟩ | ⟨wr, bad⟩
    · refine .inl ⟨y, b, rfl, hb.same s0, fun H1 c s1 hc => ?_⟩
      have el1 : H1 l = some (.lst []) := s1 _ _ upd_same
      have s01 := s0.trans s1
      refine ⟨_, _, rfl, ?_⟩
      refine ⟨_, rfl, n, x, a, 0, rfl, ha.same s01, h16, fun H2 g s2 hg => ?_⟩
      have s02 := s01.trans s2
      refine ⟨_, rfl, _, rfl, n, x, y, a, b, M, rfl, ha.same s02, hb.same s02, h1, h16, m1, m2, hM, fun H3 s3 r1 rM rR => ?_⟩
      have s03 := s02.trans s3
      have hg3 : TA' H3 g (Grp.one : Pm n).1 := hg.same s3
      refine ⟨(cR x y : Nat), rfl, by omega, by omega, ?_⟩
      refine for_range (lo := 0) (n := ((cR x y : Nat) : Int).toNat) (fun i σ H' => ∃ (u : Option V) (p1 p2 p3 : Addr), σ = [some (.ref a), some (.ref b), some (.ref l), some (.ref c), some (.ref p1), some (.ref p2), some (.ref p3), u] ∧ Same H H' ∧ TA' H' c (Grp.mul x y).1 ∧
          TA' H' p1 (np (Grp.mul x y) i).1 ∧ TA' H' p2 (np x i).1 ∧ TA' H' p3 (np y i).1 ∧ H' l = some (.lst (tv ((List.range i).filter fun j => sub x y (j : Nat)))))
        ⟨none, g, g, g, rfl, s03, hc.same (s2.trans s3), hg3, hg3, hg3, s3 _ _ (s2 _ _ el1)⟩ ?_ ?_
      · rintro i σ H4 hi ⟨u, p1, p2, p3, rfl, s4, hc4, q1, q2, q3, el⟩
        have hiR : i < cR x y := hi
        refine ⟨_, rfl, _, rfl, _, rfl, n, np x i, np y i, p2, p3, rfl, q2, q3, h16, fun H5 d s5 hd => ?_⟩
        refine ⟨p1, d, _, _, rfl, rfl, SqT.of (q1.same s5), SqT.of hd, _, rfl, ?_⟩
        rw [pm_eq, ← sub_nat]
        have el5 := s5 _ _ el
        have tail : ∀ H6, Same H H6 → TA' H6 c (Grp.mul x y).1 → TA' H6 p1 (np (Grp.mul x y) i).1 → TA' H6 p2 (np x i).1 → TA' H6 p3 (np y i).1 → H6 l = some (.lst (tv ((List.range (i + 1)).filter fun j => sub x y (j : Nat)))) →
            tPar3 4 5 6 (tCons (tCall spAfter [] E0 (tCons (tVar 4) (tCons (tVar 3) tNil))) (tCons (tCall spAfter [] E0 (tCons (tVar 5) (tCons (tVar 0) tNil))) (tCons (tCall spAfter [] E0 (tCons (tVar 6) (tCons (tVar 1) tNil))) tNil)))
              { nx := fun σ H' => ∃ (u : Option V) (p1 p2 p3 : Addr), σ = [some (.ref a), some (.ref b), some (.ref l), some (.ref c), some (.ref p1), some (.ref p2), some (.ref p3), u] ∧ Same H H' ∧ TA' H' c (Grp.mul x y).1 ∧
                  TA' H' p1 (np (Grp.mul x y) (i + 1)).1 ∧ TA' H' p2 (np x (i + 1)).1 ∧ TA' H' p3 (np y (i + 1)).1 ∧ H' l = some (.lst (tv ((List.range (i + 1)).filter fun j => sub x y (j : Nat)))), rt := Q }
              [some (.ref a), some (.ref b), some (.ref l), some (.ref c), some (.ref p1), some (.ref p2), some (.ref p3), some (.int (0 + (i : Nat)))] H6 := by
          intro H6 s6 c6 w1 w2 w3 el6
          refine ⟨_, rfl, _, rfl, n, np (Grp.mul x y) i, Grp.mul x y, p1, c, rfl, w1, c6, h16, fun H7 d1 s7 t1 => ?_⟩
          refine ⟨_, rfl, _, rfl, n, np x i, x, p2, a, rfl, w2.same s7, ha.same (s6.trans s7), h16, fun H8 d2 s8 t2 => ?_⟩
          have s78 := s7.trans s8
          refine ⟨_, rfl, _, rfl, n, np y i, y, p3, b, rfl, w3.same s78, hb.same (s6.trans s78), h16, fun H9 d3 s9 t3 => ?_⟩
          have s79 := s78.trans s9
          exact ⟨_, _, _, rfl, _, d1, d2, d3, rfl, s6.trans s79, c6.same s79, t1.same (s8.trans s9), t2.same s9, t3, s79 _ _ el6⟩
        have s45 := s4.trans s5
        have e0 : (0 : Int) + (i : Nat) = (i : Nat) := Int.zero_add _
        refine ite2 (fun hs => ?_) (fun hs => ?_)
        · have nl : ∀ {q : Addr} {z : List Nat}, TA' H5 q z → TA' (upd H5 l (.lst (tv ((List.range i).filter fun j => sub x y (j : Nat)) ++ [V.int (0 + (i : Nat))]))) q z := fun {q z} hq => by
            show upd _ _ _ _ = _
            rw [upd_ne (ne_of hq el5 (by intro e; cases e))]
            exact hq
          refine ⟨_, rfl, .inl ⟨rfl, _, SqL.of el5⟩, _, rfl, l, _, _, rfl, rfl, el5, ?_, ?_⟩
          · rw [tv_len]
            exact map_len_lt (Nat.le_trans (List.length_filter_le _ _) (by rw [List.length_range]; omega))
          · refine tail _ (same_updw s45 hl) (nl (hc4.same s5)) (nl (q1.same s5)) (nl (q2.same s5)) (nl (q3.same s5)) ?_
            rw [upd_same, filter_range_succ, if_pos hs, tv_snoc, e0]
        · refine tail _ s45 (hc4.same s5) (q1.same s5) (q2.same s5) (q3.same s5) ?_
          rw [filter_range_succ, if_neg hs, List.append_nil]
          exact el5
      · rintro σ H4 ⟨u, p1, p2, p3, rfl, s4, hc4, q1, q2, q3, el⟩
        refine ⟨_, rfl, l, _, rfl, .inl ⟨SqL.of el, fun e he => ?_⟩⟩
        exact k _ _ (s4.trans (same_upd he)) upd_same
    · exact .inr ⟨wr.same s0, bad.same s0⟩
end
end BN
namespace BN
open PySem PySem.Spec PyProof.Rows L2
section
variable {P' : Program} {w : World} {K : PySem.W.Frag} {mg : Str → Option Value} {base : Heap} {C : Addr}
/-! ### next_suiting -/
def spNext (C : Addr) : Sp := fun vs H Q E => ∃ (n : Nat) (x : Pm n) (a : Addr) (v : V) (i : Int), vs = [.ref a, v, .int i] ∧ TA' H a x.1 ∧ 1 ≤ n ∧ n ≤ 16 ∧
  ((∃ (y : Pm n) (b : Addr) (M : Nat), v = .ref b ∧ TA' H b y.1 ∧ 1 ≤ M ∧ M ≤ 1000 ∧ Idle x y M ∧ ∀ (H' : Hp) (m : Int), Same H H' → Nxt (sub x y) i m → Q (.int m) H') ∨ (Wrong H n v ∧ Bad C H E))
theorem scNext : FnScope ["one", "other", "count", "rests", "turn", "rest", "later", "some"] ["one", "other", "count"] (defScope sNext) := ⟨rfl, rfl, rfl, by decide +kernel, rfl, by decide +kernel, by decide +kernel⟩
theorem rl_len {n : Nat} {x y : Pm n} {M : Nat} (h : cR x y ≤ M) (p : Nat → Bool) : ((rl x y).filter p).length ≤ M ∧ (rl x y).length ≤ M := by
  have a : (rl x y).length ≤ cR x y := by
    unfold rl
    exact Nat.le_trans (List.length_filter_le _ _) (by rw [List.length_range]; exact Nat.le_refl _)
  exact ⟨Nat.le_trans (List.length_filter_le _ _) (Nat.le_trans a h), Nat.le_trans a h⟩
theorem ok_next {f : Addr} {fd : FuncData} (F : Fun K "next_suiting" "next_suiting" sNext f fd) (T : Tx mg) (DR : Def P' w K mg base (L2.CX P' w) 10 "couple_rests" ["one", "other"] (spRests C)) (DN : Def P' w K mg base CX0 9 "couple_round" ["one", "other"] spRound) :
    FnOk P' w K mg base (L2.CX P' w) 11 f fd ["one", "other", "count"] (spNext C) := by
  refine F.okX scNext (fun vs H Q E h => ?_) (fun cdv A outer s H vs Q E hr h => ?_)
  · obtain ⟨n, x, a, v, i, rfl, _⟩ := h
    rfl
  · obtain ⟨n, x, a, v, i, rfl, ha, h1, h16, h⟩ := h
    have hr9 : Room 9 _ := hr.mono (by decide)
    refine ⟨_, pss_cons (ps_par (i := 3) (j := 4) (by rfl) scNext.nd rfl rfl (by decide) rfl rfl (by exact pa_cons (pe_callD (E := E) DR hr (by rfl) (passes_call (takes_of rfl rfl rfl rfl) (fun _ _ _ _ h => h)) (pa_cons (pv 0) (pa_cons (pv 1) pa_nil))) (pa_cons (pe_callD DN hr9 (by rfl) pass0 (pa_cons (pv 0) (pa_cons (pv 1) pa_nil))) pa_nil)) (by rfl))
      (PSs.nox (pss_cons (ps_set (i := 5) scNext.nd rfl (.inr rfl) (pe_op op_mod (pv 2) (pv 4)))
      (pss_cons (ps_setLc (i := 6) (own := [("some", 7)]) (g := gName 7) rfl scNext.nd rfl rfl (sw_true rfl rfl rfl (by decide +kernel)) (pi_tup (pv 3)) (blkOk_by (N := ["one", "other", "count", "rests", "turn", "rest", "later", "some"]) (sc := defScope sNext) (by decide +kernel))
          (fun _ _ _ _ _ => pg_name (i := 7) scNext.nd rfl (Or.inl rfl)) (fun _ _ _ _ _ => pts_one (pt_cmpR op_ge (pv 7) (pv 5) (nomark _))) (fun _ _ _ _ _ => pv 7))
      (pss_one (ps_ret (pe_op op_add (pe_op op_sub (pv 2) (pv 5)) (pe_ifExp (pt_cmpR op_gt (pe_callB call_len_seq (by rfl) T.len boot_len (pa_cons (pv 6) pa_nil)) pe_int (nomark _)) (pe_ix ix_list (pv 6) pe_int (fun _ _ => rfl)) (pv 4)))))))), ?_⟩
    refine ⟨_, rfl, _, rfl, n, x, a, v, rfl, ha, h1, h16, ?_⟩
    rcases h with ⟨y, b, M, rfl, hb, m1, m2, hM, k⟩ | ⟨wr, bad⟩
    · refine .inl ⟨y, b, M, rfl, hb, m1, m2, hM, fun H1 c s1 hc => ?_⟩
      refine ⟨_, rfl, _, rfl, n, x, y, a, b, M, rfl, ha.same s1, hb.same s1, h1, h16, m1, m2, hM, fun H2 s2 r1 rM rR => ?_⟩
      have s12 := s1.trans s2
      have hc2 := hc.same s2
      refine ⟨_, _, rfl, ?_⟩
      refine ⟨_, rfl, _, rfl, _, _, rfl, rfl, (by show (0 : Int) < (cR x y : Nat); omega), ?_⟩
      refine ⟨_, rfl, c, rfl, ⟨_, SqT.of hc2⟩, fun D hD => ?_⟩
      have per := rd_per rR
      obtain ⟨len1, len2⟩ := rl_len rM (fun j => decide (i % ((cR x y : Nat) : Int) ≤ ((j : Nat) : Int)))
      have nx := nxt_prog (by omega) per (sub_zero x y) i
      generalize hT : cR x y = T' at *
      have hrl : rl x y = (List.range T').filter fun j => sub x y (j : Nat) := by
        unfold rl
        rw [hT]
      rw [← hrl] at nx
      refine lc_tup (K := K) (a := c) (xs := tv (rl x y)) (fun j H' => Same H2 H' ∧ H' D = some (.lst (tv (((rl x y).take j).filter fun j => decide (i % (T' : Int) ≤ ((j : Nat) : Int)))))) ⟨same_upd hD, upd_same⟩ (fun j H' _ h => SqT.of (hc2.same h.1)) ?_ ?_
      · rintro j z H3 hj ⟨s3, el⟩
        have hjl : j < (rl x y).length := by
          have q := (List.getElem?_eq_some_iff.mp hj).1
          rwa [tv_len] at q
        rw [tv_get hjl] at hj
        cases hj
        have hq : (rl x y)[j]? = some ((rl x y).getD j 0) := by
          rw [List.getElem?_eq_getElem hjl, List.getD_eq_getElem?_getD, List.getElem?_eq_getElem hjl]
          rfl
        rw [filter_take_succ hq]
        generalize (rl x y).getD j 0 = e at hq ⊢
        refine ⟨rfl, ?_⟩
        refine ⟨_, rfl, _, rfl, _, _, rfl, rfl, _, rfl, ite2 (fun hs => ?_) (fun hs => ?_)⟩
        · refine ⟨_, rfl, _, el, ?_, same_updw s3 hD, ?_⟩
          · rw [tv_len]
            exact map_len_lt (Nat.le_trans (List.length_filter_le _ _) (by rw [List.length_take]; omega))
          · rw [upd_same, if_pos hs, tv_snoc]
        · refine ⟨s3, ?_⟩
          rw [if_neg hs, List.append_nil]
          exact el
      · rintro H3 ⟨s3, el⟩
        rw [tv_len, List.take_length] at el
        have s13 := s12.trans s3
        refine ⟨_, rfl, _, rfl, _, _, rfl, rfl, ?_⟩
        refine ⟨_, rfl, D, _, rfl, .inl (SqL.of el), _, _, rfl, rfl, _, rfl, ?_⟩
        rw [tv_len]
        cases hl : (rl x y).filter fun j => decide (i % (T' : Int) ≤ ((j : Nat) : Int)) with
        | nil =>
          rw [hl] at nx
          exact ⟨_, rfl, _, _, rfl, rfl, k _ _ s13 nx⟩
        | cons e r =>
          rw [hl] at nx el
          rw [show decide ((0 : Int) < (((e :: r).length : Nat) : Int)) = true from decide_eq_true (by rw [List.length_cons]; omega)]
          refine iteT ?_
          exact ⟨_, rfl, D, _, 0, _, rfl, rfl, SqL.of el, atI_nat (j := 0) rfl, _, _, rfl, rfl, k _ _ s13 nx⟩
    · exact .inr ⟨wr, bad⟩
/-! ### suiting_below -/
def spBelow : Sp := fun vs H Q _ => ∃ (a : Addr) (l : List Nat) (T : Nat) (c : Int), vs = [.ref a, .int T, .int c] ∧ TA' H a l ∧ l.length ≤ 1000 ∧ 1 ≤ T ∧ T ≤ 1000 ∧
  ∀ H', Same H H' → Q (.int (c / T * l.length + ((l.filter fun j => decide (((j : Nat) : Int) < c % T)).length : Nat))) H'
theorem scBelow : FnScope ["rests", "turn", "count", "some"] ["rests", "turn", "count"] (defScope sBelow) := ⟨rfl, rfl, rfl, by decide +kernel, rfl, by decide +kernel, by decide +kernel⟩
theorem ok_below {f : Addr} {fd : FuncData} (F : Fun K "suiting_below" "suiting_below" sBelow f fd) (T : Tx mg) : FnOk P' w K mg base CX0 1 f fd ["rests", "turn", "count"] spBelow := by
  refine F.ok scBelow (fun vs H Q E h => ?_) (fun cdv A outer s H vs Q E hr h => ?_)
  · obtain ⟨a, l, T, c, rfl, _⟩ := h
    rfl
  · obtain ⟨a, l, T', c, rfl, ha, hl, t1, t2, k⟩ := h
    refine ⟨_, pss_one (ps_ret (pe_op op_add (pe_op op_mul (pe_op op_fdiv (pv 2) (pv 1)) (pe_callB call_len_seq (by rfl) T.len boot_len (pa_cons (pv 0) pa_nil)))
      (pe_callB call_len_seq (by rfl) T.len boot_len (pa_cons (pe_lc (own := [("some", 3)]) (g := gName 3) rfl scBelow.nd (pi_tup (pv 0)) (blkOk_by (N := ["rests", "turn", "count", "some"]) (sc := defScope sBelow) (by decide +kernel))
          (fun _ _ _ _ _ => pg_name (i := 3) scBelow.nd rfl (Or.inl rfl)) (fun _ _ _ _ _ => pts_one (pt_cmpR op_lt (pv 3) (pe_op op_mod (pv 2) (pv 1)) (nomark _))) (fun _ _ _ _ _ => pv 3)) pa_nil)))), ?_⟩
    refine ⟨_, rfl, _, rfl, _, _, rfl, rfl, ⟨(by show (0 : Int) < (T' : Nat); omega), (by show ((T' : Nat) : Int) < 1073741824; omega)⟩, ?_⟩
    refine ⟨_, rfl, a, _, rfl, .inr (SqT.of ha), _, _, rfl, rfl, .inr ⟨?_, ?_⟩, ?_⟩
    · rw [tv_len]
      omega
    · rw [tv_len]
      omega
    refine ⟨_, rfl, a, rfl, ⟨_, SqT.of ha⟩, fun D hD => ?_⟩
    refine lc_tup (K := K) (a := a) (xs := tv l) (fun j H' => Same H H' ∧ H' D = some (.lst (tv ((l.take j).filter fun j => decide (((j : Nat) : Int) < c % T'))))) ⟨same_upd hD, upd_same⟩ (fun j H' _ h => SqT.of (ha.same h.1)) ?_ ?_
    · rintro j z H3 hj ⟨s3, el⟩
      have hjl : j < l.length := by
        have q := (List.getElem?_eq_some_iff.mp hj).1
        rwa [tv_len] at q
      rw [tv_get hjl] at hj
      cases hj
      have hq : l[j]? = some (l.getD j 0) := by
        rw [List.getElem?_eq_getElem hjl, List.getD_eq_getElem?_getD, List.getElem?_eq_getElem hjl]
        rfl
      rw [filter_take_succ hq]
      generalize l.getD j 0 = e at hq ⊢
      refine ⟨rfl, ?_⟩
      refine ⟨_, rfl, _, rfl, _, rfl, _, _, rfl, rfl, (by show (0 : Int) < (T' : Nat); omega), _, _, rfl, rfl, _, rfl, ite2 (fun hs => ?_) (fun hs => ?_)⟩
      · refine ⟨_, rfl, _, el, ?_, same_updw s3 hD, ?_⟩
        · rw [tv_len]
          exact map_len_lt (Nat.le_trans (List.length_filter_le _ _) (by rw [List.length_take]; omega))
        · rw [upd_same, if_pos hs, tv_snoc]
      · refine ⟨s3, ?_⟩
        rw [if_neg hs, List.append_nil]
        exact el
    · rintro H3 ⟨s3, el⟩
      rw [tv_len, List.take_length] at el
      refine ⟨D, _, rfl, .inl (SqL.of el), _, _, rfl, rfl, ?_⟩
      rw [tv_len, tv_len]
      exact k _ s3
/-! ### suiting_between -/
def spBetween (C : Addr) : Sp := fun vs H Q E => ∃ (n : Nat) (x : Pm n) (a : Addr) (v : V) (lo hi : Int), vs = [.ref a, v, .int lo, .int hi] ∧ TA' H a x.1 ∧ 1 ≤ n ∧ n ≤ 16 ∧
  ((∃ (y : Pm n) (b : Addr) (M : Nat), v = .ref b ∧ TA' H b y.1 ∧ 1 ≤ M ∧ M ≤ 1000 ∧ Idle x y M ∧ ∀ (H' : Hp), Same H H' → Q (.int (mx (far (sub x y) M hi - far (sub x y) M lo))) H') ∨ (Wrong H n v ∧ Bad C H E))
theorem scBetween : FnScope ["one", "other", "low", "high", "rests", "turn"] ["one", "other", "low", "high"] (defScope sBetween) := ⟨rfl, rfl, rfl, by decide +kernel, rfl, by decide +kernel, by decide +kernel⟩
theorem below_far {n : Nat} {x y : Pm n} {M : Nat} (hM : 1 ≤ M) (h : Idle x y M) (r1 : 1 ≤ cR x y) (rR : Rd x y (cR x y)) (c : Int) :
    c / (cR x y : Nat) * ((rl x y).length : Nat) + (((rl x y).filter fun j => decide (((j : Nat) : Int) < c % (cR x y : Nat))).length : Nat) = far (sub x y) M c := by
  rw [← far_eq (T := cR x y) (by omega) (by omega) (rd_per rR) (rd_per h.rd) c]
  unfold far
  have m0 := Int.emod_nonneg c (show ((cR x y : Nat) : Int) ≠ 0 by omega)
  have m1 := Int.emod_lt_of_pos c (show (0 : Int) < (cR x y : Nat) by omega)
  have e1 : (rl x y).length = cnt (sub x y) (cR x y) := cnt_filter _ _
  have e2 : ((rl x y).filter fun j => decide (((j : Nat) : Int) < c % (cR x y : Nat))).length = cnt (sub x y) (c % (cR x y : Nat)).toNat := by
    rw [← cnt_filter_lt (sub x y) (n := cR x y) (r := (c % (cR x y : Nat)).toNat) (by omega)]
    congr 1
    apply List.filter_congr
    intro j _
    by_cases q : ((j : Nat) : Int) < c % (cR x y : Nat)
    · rw [decide_eq_true q, decide_eq_true (by omega)]
    · rw [decide_eq_false q, decide_eq_false (by omega)]
  rw [e1, e2]
theorem ok_between {f : Addr} {fd : FuncData} (F : Fun K "suiting_between" "suiting_between" sBetween f fd) (T : Tx mg) (DR : Def P' w K mg base (L2.CX P' w) 10 "couple_rests" ["one", "other"] (spRests C)) (DN : Def P' w K mg base CX0 9 "couple_round" ["one", "other"] spRound)
    (DB : Def P' w K mg base CX0 1 "suiting_below" ["rests", "turn", "count"] spBelow) : FnOk P' w K mg base (L2.CX P' w) 11 f fd ["one", "other", "low", "high"] (spBetween C) := by
  refine F.okX scBetween (fun vs H Q E h => ?_) (fun cdv A outer s H vs Q E hr h => ?_)
  · obtain ⟨n, x, a, v, lo, hi, rfl, _⟩ := h
    rfl
  · obtain ⟨n, x, a, v, lo, hi, rfl, ha, h1, h16, h⟩ := h
    have hr9 : Room 9 _ := hr.mono (by decide)
    have hr1 : Room 1 _ := hr.mono (by decide)
    refine ⟨_, pss_cons (ps_par (i := 4) (j := 5) (by rfl) scBetween.nd rfl rfl (by decide) rfl rfl (by exact pa_cons (pe_callD (E := E) DR hr (by rfl) (passes_call (takes_of rfl rfl rfl rfl) (fun _ _ _ _ h => h)) (pa_cons (pv 0) (pa_cons (pv 1) pa_nil))) (pa_cons (pe_callD DN hr9 (by rfl) pass0 (pa_cons (pv 0) (pa_cons (pv 1) pa_nil))) pa_nil)) (by rfl))
      (PSs.nox (pss_one (ps_ret (pe_callB (call_max2 rfl) (by rfl) T.max (by decide +kernel) (pa_cons pe_int (pa_cons (pe_op op_sub (pe_callD DB hr1 (by rfl) pass0 (pa_cons (pv 4) (pa_cons (pv 5) (pa_cons (pv 3) pa_nil)))) (pe_callD DB hr1 (by rfl) pass0 (pa_cons (pv 4) (pa_cons (pv 5) (pa_cons (pv 2) pa_nil))))) pa_nil)))))), ?_⟩
    refine ⟨_, rfl, _, rfl, n, x, a, v, rfl, ha, h1, h16, ?_⟩
    rcases h with ⟨y, b, M, rfl, hb, m1, m2, hM, k⟩ | ⟨wr, bad⟩
    · refine .inl ⟨y, b, M, rfl, hb, m1, m2, hM, fun H1 c s1 hc => ?_⟩
      refine ⟨_, rfl, _, rfl, n, x, y, a, b, M, rfl, ha.same s1, hb.same s1, h1, h16, m1, m2, hM, fun H2 s2 r1 rM rR => ?_⟩
      have s12 := s1.trans s2
      have hc2 := hc.same s2
      obtain ⟨_, len2⟩ := rl_len rM (fun _ => true)
      refine ⟨_, _, rfl, ?_⟩
      refine ⟨_, rfl, _, rfl, _, rfl, c, rl x y, cR x y, hi, rfl, hc2, by omega, r1, by omega, fun H3 s3 => ?_⟩
      refine ⟨_, rfl, _, rfl, _, rfl, c, rl x y, cR x y, lo, rfl, hc2.same s3, by omega, r1, by omega, fun H4 s4 => ?_⟩
      rw [below_far m1 hM r1 rR, below_far m1 hM r1 rR]
      exact ⟨_, _, rfl, rfl, 0, _, rfl, k _ ((s12.trans s3).trans s4)⟩
    · exact .inr ⟨wr, bad⟩
end
end BN
namespace BN
open PySem PySem.Spec PyProof.Rows L2
/-- one statement, then another one, by what holds in between -/
theorem seq_by {a b : TS} {D : Ends} {σ : L2.St} {H : Hp} (Z : L2.St → Hp → Prop) (h : ∀ nx : L2.St → Hp → Prop, (∀ σ H, Z σ H → nx σ H) → a { D with nx := nx } σ H) (hz : ∀ σ H, Z σ H → b D σ H) : tSeq a b D σ H := h _ hz
/-! ### the deal: a list of a list of ints and of an int -/
def Dl (H : Hp) (d b : Addr) (z : Int) (ns : List Int) : Prop := H d = some (.lst [.ref b, .int z]) ∧ H b = some (.lst (ns.map V.int)) ∧ d ≠ b ∧ ns.length ≤ 63
def Deal (H : Hp) (d b : Addr) : Prop := ∃ z ns, Dl H d b z ns
/-- all but the deal stands as it did -/
def Sm (d b : Addr) (H H' : Hp) : Prop := ∀ q o, q ≠ d → q ≠ b → H q = some o → H' q = some o
theorem Sm.refl {d b : Addr} (H : Hp) : Sm d b H H := fun _ _ _ _ h => h
theorem Sm.trans {d b : Addr} {H H1 H2 : Hp} (s : Sm d b H H1) (t : Sm d b H1 H2) : Sm d b H H2 := fun q o n1 n2 h => t q o n1 n2 (s q o n1 n2 h)
theorem sm_same {d b : Addr} {H H' : Hp} (s : Same H H') : Sm d b H H' := fun q o _ _ h => s q o h
theorem Dl.same {H H' : Hp} {d b : Addr} {z : Int} {ns : List Int} (h : Dl H d b z ns) (s : Same H H') : Dl H' d b z ns := ⟨s _ _ h.1, s _ _ h.2.1, h.2.2⟩
theorem Deal.same {H H' : Hp} {d b : Addr} (h : Deal H d b) (s : Same H H') : Deal H' d b := by
  obtain ⟨z, ns, h⟩ := h
  exact ⟨z, ns, h.same s⟩
theorem Sm.tup {H H' : Hp} {d b a : Addr} {l : List Nat} (s : Sm d b H H') (h : Deal H d b) (t : TA' H a l) : TA' H' a l := by
  obtain ⟨z, ns, h1, h2, _⟩ := h
  refine s _ _ ?_ ?_ t
  · rintro rfl
    rw [show H a = _ from t] at h1
    cases h1
  · rintro rfl
    rw [show H a = _ from t] at h2
    cases h2
theorem Deal.ne {H : Hp} {d b p : Addr} (h : Deal H d b) (hp : H p = none) : p ≠ d ∧ p ≠ b := by
  obtain ⟨z, ns, h1, h2, _⟩ := h
  refine ⟨?_, ?_⟩
  · rintro rfl
    rw [hp] at h1
    cases h1
  · rintro rfl
    rw [hp] at h2
    cases h2
theorem tv_erase : ∀ (l : List Nat) (j : Nat), (tv l).eraseIdx j = tv (l.eraseIdx j)
  | [], _ => rfl
  | _ :: _, 0 => rfl
  | x :: l, j + 1 => by
    show V.int (x : Nat) :: (tv l).eraseIdx j = V.int (x : Nat) :: tv (l.eraseIdx j)
    rw [tv_erase l j]
theorem erase_perm : ∀ (l : List Nat) (j : Nat), j < l.length → (l.getD j 0 :: l.eraseIdx j).Perm l
  | [], _, h => absurd h (Nat.not_lt_zero _)
  | x :: l, 0, _ => List.Perm.refl _
  | x :: l, j + 1, h => by
    have q := erase_perm l j (Nat.lt_of_succ_lt_succ h)
    show (l.getD j 0 :: x :: l.eraseIdx j).Perm (x :: l)
    exact (List.Perm.swap _ _ _).trans (List.Perm.cons x q)
theorem nil_or_snoc (ns : List Int) : ns = [] ∨ ∃ l x, ns = l ++ [x] := by
  rcases List.eq_nil_or_concat ns with h | ⟨l, x, h⟩
  · exact .inl h
  · exact .inr ⟨l, x, by rw [h, List.concat_eq_append]⟩
theorem last_int (l : List Int) (x : Int) : (l ++ [x]).map V.int = l.map V.int ++ [V.int x] := List.map_append
section
variable {P' : Program} {w : World} {K : PySem.W.Frag} {mg : Str → Option Value} {base : Heap} {C : Addr}
/-! ### _law_any -/
def spAny : Sp := fun vs H Q _ => ∃ (d b : Addr) (m : Int), vs = [.ref d, .int m] ∧ Deal H d b ∧ 0 < m ∧ m.natAbs.log2 < 9000 ∧ ∀ (H' : Hp) (r : Int), Deal H' d b → Sm d b H H' → 0 ≤ r → r < m → Q (.int r) H'
theorem scAny : FnScope ["_law_deal", "_law_bound", "_law_rest"] ["_law_deal", "_law_bound"] (defScope sLAny) := ⟨rfl, rfl, rfl, by decide +kernel, rfl, by decide +kernel, by decide +kernel⟩
theorem ok_any {f : Addr} {fd : FuncData} (F : Fun K "_law_any" "_law_any" sLAny f fd) (T : Tx mg) : FnOk P' w K mg base CX0 1 f fd ["_law_deal", "_law_bound"] spAny := by
  refine F.ok scAny (fun vs H Q E h => ?_) (fun cdv A outer s H vs Q E hr h => ?_)
  · obtain ⟨d, b, m, rfl, _⟩ := h
    rfl
  · obtain ⟨d, b, m, rfl, hd, m0, m9, k⟩ := h
    refine ⟨_, pss_cons (ps_while PassesOwn.never (pw_and (pt_cmpR (op_neL hr.units) (pe_ix ix_list (pv 0) pe_int (fun _ _ => rfl)) (pe_lst pa_nil) (nomark _))
          (pw_and1 (pt_cmpR op_eq (pe_ix ix_list (pe_ix ix_list (pv 0) pe_int (fun _ _ => rfl)) (pe_un un_neg pe_int) (fun _ _ => rfl)) pe_int (nomark _)))).pt
        (pss_one (ps_expr (pe_bm0 PySem.F.plainAttrs_list PySem.F.slot_list_pop PySem.F.type_list_pop mt_pop (pe_ix ix_list (pv 0) pe_int (fun _ _ => rfl))))))
      (pss_cons (ps_if (pt_cmpR (op_neL hr.units) (pe_ix ix_list (pv 0) pe_int (fun _ _ => rfl)) (pe_lst pa_nil) (nomark _))
        (pss_cons (ps_set (i := 2) scAny.nd rfl (.inl rfl) (pe_callTy call_int1 (by rfl) T.int boot_int (pa_cons (pe_bm0 PySem.F.plainAttrs_list PySem.F.slot_list_pop PySem.F.type_list_pop mt_pop (pe_ix ix_list (pv 0) pe_int (fun _ _ => rfl))) pa_nil)))
        (pss_cons (ps_expr (pe_bm PySem.F.plainAttrs_list PySem.F.slot_list_append PySem.F.type_list_append mt_append (pe_ix ix_list (pv 0) pe_int (fun _ _ => rfl)) (pa_cons (pe_op op_fdivW (pv 2) (pv 1)) pa_nil)))
        (pss_one (ps_ret (pe_op op_mod (pv 2) (pv 1)))))) pss_nil)
      (pss_cons (ps_asg (pe_op op_mod (pe_callTy call_int1 (by rfl) T.int boot_int (pa_cons (pe_op op_add (pe_op op_mul (pe_ix ix_list (pv 0) pe_int (fun _ _ => rfl)) pe_int) pe_int) pa_nil)) pe_int) (pg_sub (pv 0) pe_int set_list))
      (pss_one (ps_ret (pe_op op_mod (pe_callTy call_int1 (by rfl) T.int boot_int (pa_cons (pe_op op_fdiv (pe_ix ix_list (pv 0) pe_int (fun _ _ => rfl)) pe_int) pa_nil)) (pv 1)))))), ?_⟩
    refine seq_by (fun σ H' => σ = [some (.ref d), some (.int m), none] ∧ ∃ z ns, Dl H' d b z ns ∧ Sm d b H H') (fun nx hn => ?_) ?_
    · obtain ⟨z0, ns0, hd0⟩ := hd
      refine ⟨fun mm σ H' => σ = [some (.ref d), some (.int m), none] ∧ ∃ z ns, Dl H' d b z ns ∧ Sm d b H H' ∧ ns.length = mm, ⟨_, rfl, z0, ns0, hd0, Sm.refl _, rfl⟩, ?_⟩
      rintro mm σ H1 ⟨rfl, z, ns, hD, sm, rfl⟩
      refine ⟨_, rfl, d, _, 0, _, rfl, rfl, SqL.of hD.1, atI_nat (j := 0) rfl, Nat.zero_le _, fun p hp => ?_⟩
      have s1 := same_upd (o := .lst []) hp
      have hD1 := hD.same s1
      have sm1 : Sm d b H (L2.upd H1 p (.lst [])) := sm.trans (sm_same s1)
      refine ⟨b, p, ns, [], rfl, rfl, SqL.of hD1.2.1, SqL.of upd_same, _, rfl, ?_⟩
      generalize L2.upd H1 p (.lst []) = H2 at hD1 sm1 ⊢
      rcases nil_or_snoc ns with rfl | ⟨l, x, rfl⟩
      · exact hn _ _ ⟨rfl, z, [], hD1, sm1⟩
      · rw [show (!decide (l ++ [x] = [])) = true by simp]
        refine iteT ?_
        obtain ⟨e1, e2, e3, e4⟩ := id hD1
        rw [last_int] at e2
        refine ⟨_, rfl, d, _, 0, _, rfl, rfl, SqL.of e1, atI_nat (j := 0) rfl, 1, rfl, b, _, -1, _, rfl, rfl, SqL.of e2, atI_last _ _, rfl, _, rfl, ite2 (fun hx => ?_) (fun hx => ?_)⟩
        · refine ⟨fun σ' H' => σ' = [some (.ref d), some (.int m), none] ∧ ∃ z ns, Dl H' d b z ns ∧ Sm d b H H' ∧ ns.length = l.length, ?_, ?_⟩
          · rintro σ' H' ⟨rfl, z', ns', a1, a2, a3⟩
            refine ⟨l.length, ?_, rfl, z', ns', a1, a2, a3⟩
            rw [List.length_append]
            exact Nat.lt_succ_self _
          · refine ⟨_, rfl, d, _, 0, _, rfl, rfl, SqL.of e1, atI_nat (j := 0) rfl, .inl ⟨rfl, _, SqL.of e2⟩, b, _, V.int x, rfl, rfl, e2, ?_, rfl, z, l, ⟨?_, ?_, e3, ?_⟩, ?_, rfl⟩
            · simp
            · rw [upd_ne e3]
              exact e1
            · rw [upd_same, List.dropLast_concat]
            · rw [List.length_append] at e4
              omega
            · intro q o n1 n2 hq
              rw [upd_ne n2]
              exact sm1 q o n1 n2 hq
        · exact hn _ _ ⟨rfl, z, _, hD1, sm1⟩
    · rintro σ H1 ⟨rfl, z, ns, hD, sm⟩
      refine ⟨_, rfl, d, _, 0, _, rfl, rfl, SqL.of hD.1, atI_nat (j := 0) rfl, Nat.zero_le _, fun p hp => ?_⟩
      have s1 := same_upd (o := .lst []) hp
      have hD1 := hD.same s1
      have sm1 : Sm d b H (L2.upd H1 p (.lst [])) := sm.trans (sm_same s1)
      refine ⟨b, p, ns, [], rfl, rfl, SqL.of hD1.2.1, SqL.of upd_same, _, rfl, ?_⟩
      generalize L2.upd H1 p (.lst []) = H2 at hD1 sm1 ⊢
      rcases nil_or_snoc ns with rfl | ⟨l, x, rfl⟩
      · rw [show (!decide (([] : List Int) = [])) = false from rfl]
        refine iteF ?_
        obtain ⟨e1, e2, e3, e4⟩ := id hD1
        refine ⟨_, rfl, d, _, 1, _, rfl, rfl, SqL.of e1, atI_nat (j := 1) rfl, _, _, rfl, rfl, .inr ⟨by decide, by decide⟩, _, _, rfl, rfl, .inl ⟨_, rfl, _, _, rfl, rfl, (by show (0 : Int) < 2147483647; decide), ?_⟩⟩
        refine ⟨_, rfl, d, _, 1, 1, rfl, rfl, e1, rfl, ?_⟩
        refine ⟨_, rfl, d, _, 1, _, rfl, rfl, SqL.of upd_same, atI_nat (j := 1) rfl, _, _, rfl, rfl, ⟨by decide, by decide⟩, .inl ⟨_, rfl, _, rfl, _, _, rfl, rfl, m0, ?_⟩⟩
        refine k _ _ ⟨_, [], upd_same, ?_, e3, e4⟩ ?_ (Int.emod_nonneg _ (by omega)) (Int.emod_lt_of_pos _ m0)
        · rw [upd_ne (Ne.symm e3)]
          exact e2
        · intro q o n1 n2 hq
          rw [upd_ne n1]
          exact sm1 q o n1 n2 hq
      · rw [show (!decide (l ++ [x] = [])) = true by simp]
        refine iteT ?_
        obtain ⟨e1, e2, e3, e4⟩ := id hD1
        rw [last_int] at e2
        have e1' : L2.upd H2 b (.lst (l.map V.int ++ [V.int x]).dropLast) d = some (.lst [.ref b, .int z]) := by
          rw [upd_ne e3]
          exact e1
        have e2' : L2.upd H2 b (.lst (l.map V.int ++ [V.int x]).dropLast) b = some (.lst (l.map V.int)) := by
          rw [upd_same, List.dropLast_concat]
        refine ⟨_, rfl, d, _, 0, _, rfl, rfl, SqL.of e1, atI_nat (j := 0) rfl, .inl ⟨rfl, _, SqL.of e2⟩, b, _, V.int x, rfl, rfl, e2, by simp, .inl ⟨x, rfl, ?_⟩⟩
        refine ⟨_, rfl, d, _, 0, _, rfl, rfl, SqL.of e1', atI_nat (j := 0) rfl, .inl ⟨rfl, _, SqL.of e2'⟩, _, rfl, _, rfl, _, _, rfl, rfl, ⟨m0, m9⟩, b, _, _, rfl, rfl, e2', ?_, ?_⟩
        · rw [List.length_map]
          rw [List.length_append] at e4
          exact map_len_lt (by omega)
        · refine ⟨_, rfl, _, rfl, _, _, rfl, rfl, m0, k _ _ ⟨z, l ++ [x / m], ?_, ?_, e3, ?_⟩ ?_ (Int.emod_nonneg _ (by omega)) (Int.emod_lt_of_pos _ m0)⟩
          · rw [upd_ne e3]
            exact e1'
          · rw [upd_same, last_int]
          · rw [List.length_append] at e4 ⊢
            exact e4
          · intro q o n1 n2 hq
            rw [upd_ne n2, upd_ne n2]
            exact sm1 q o n1 n2 hq
/-! ### _law_of -/
def spOf : Sp := fun vs H Q _ => ∃ (d b l : Addr) (xs : List V), vs = [.ref d, .ref l] ∧ Deal H d b ∧ H l = some (.lst xs) ∧ l ≠ d ∧ l ≠ b ∧ 1 ≤ xs.length ∧ xs.length ≤ 1000 ∧ ∀ (H' : Hp) (j : Nat) (v : V), xs[j]? = some v → Deal H' d b → Sm d b H H' → Q v H'
theorem scOf : FnScope ["_law_deal", "_law_some"] ["_law_deal", "_law_some"] (defScope sLOf) := ⟨rfl, rfl, rfl, by decide +kernel, rfl, by decide +kernel, by decide +kernel⟩
theorem log_lt {m : Nat} (h : m ≤ 1000) : ((m : Nat) : Int).natAbs.log2 < 9000 := by
  rw [Int.natAbs_natCast]
  exact Nat.lt_of_le_of_lt (Nat.log2_le_self m) (by omega)
theorem ok_of {f : Addr} {fd : FuncData} (F : Fun K "_law_of" "_law_of" sLOf f fd) (T : Tx mg) (DA : Def P' w K mg base CX0 1 "_law_any" ["_law_deal", "_law_bound"] spAny) : FnOk P' w K mg base CX0 2 f fd ["_law_deal", "_law_some"] spOf := by
  refine F.ok scOf (fun vs H Q E h => ?_) (fun cdv A outer s H vs Q E hr h => ?_)
  · obtain ⟨d, b, l, xs, rfl, _⟩ := h
    rfl
  · obtain ⟨d, b, l, xs, rfl, hd, hl, n1, n2, l1, l2, k⟩ := h
    refine ⟨_, pss_one (ps_ret (pe_ix ix_list (pv 1) (pe_callD DA hr (by rfl) pass0 (pa_cons (pv 0) (pa_cons (pe_callB call_len_seq (by rfl) T.len boot_len (pa_cons (pv 1) pa_nil)) pa_nil))) (fun _ _ => rfl))), ?_⟩
    refine ⟨_, rfl, _, rfl, _, rfl, l, xs, rfl, .inl (SqL.of hl), d, b, _, rfl, hd, by omega, log_lt l2, fun H1 r hd1 sm r0 r1 => ?_⟩
    obtain ⟨j, rfl⟩ : ∃ j : Nat, r = j := ⟨r.toNat, by omega⟩
    have hj : j < xs.length := by omega
    have e := List.getElem?_eq_getElem hj
    exact ⟨l, xs, _, _, rfl, rfl, SqL.of (sm _ _ n1 n2 hl), atI_nat e, k _ j _ e hd1 sm⟩
/-! ### _law_mixed -/
def spMixed : Sp := fun vs H Q _ => ∃ (d b l : Addr) (xs : List Nat), vs = [.ref d, .ref l] ∧ Deal H d b ∧ H l = some (.lst (tv xs)) ∧ xs.length ≤ 16 ∧
  ∀ (H' : Hp) (q : Addr) (ys : List Nat), ys.Perm xs → H' q = some (.lst (tv ys)) → q ≠ d → q ≠ b → H q = none → Deal H' d b → Sm d b H H' → Q (.ref q) H'
theorem scMixed : FnScope ["_law_deal", "_law_some", "_law_left", "_law_found"] ["_law_deal", "_law_some"] (defScope sLMixed) := ⟨rfl, rfl, rfl, by decide +kernel, rfl, by decide +kernel, by decide +kernel⟩
theorem ok_mixed {f : Addr} {fd : FuncData} (F : Fun K "_law_mixed" "_law_mixed" sLMixed f fd) (T : Tx mg) (DA : Def P' w K mg base CX0 1 "_law_any" ["_law_deal", "_law_bound"] spAny) : FnOk P' w K mg base CX0 2 f fd ["_law_deal", "_law_some"] spMixed := by
  refine F.ok scMixed (fun vs H Q E h => ?_) (fun cdv A outer s H vs Q E hr h => ?_)
  · obtain ⟨d, b, l, xs, rfl, _⟩ := h
    rfl
  · obtain ⟨d, b, l, xs, rfl, hd, hl, l16, k⟩ := h
    refine ⟨_, pss_cons (ps_par (i := 2) (j := 3) (by rfl) scMixed.nd rfl rfl (by decide) rfl rfl (pa_cons (pe_callTy call_list_of (by rfl) T.lst boot_list (pa_cons (pv 1) pa_nil)) (pa_cons (pe_lst pa_nil) pa_nil)) (by rfl))
      (pss_cons (ps_while PassesOwn.never (pt_cmpR (op_neL hr.units) (pv 2) (pe_lst pa_nil) (nomark _))
        (pss_one (ps_expr (pe_bm PySem.F.plainAttrs_list PySem.F.slot_list_append PySem.F.type_list_append mt_append (pv 3) (pa_cons (pe_bm PySem.F.plainAttrs_list PySem.F.slot_list_pop PySem.F.type_list_pop mt_popAt (pv 2)
          (pa_cons (pe_callD DA hr (by rfl) pass0 (pa_cons (pv 0) (pa_cons (pe_callB call_len_seq (by rfl) T.len boot_len (pa_cons (pv 2) pa_nil)) pa_nil))) pa_nil)) pa_nil)))))
      (pss_one (ps_ret (pv 3)))), ?_⟩
    refine ⟨_, rfl, l, _, rfl, .inl (SqL.of hl), fun a ha => ⟨Nat.zero_le _, fun c hc => ?_⟩⟩
    have s1 := same_upd (o := .lst (tv xs)) ha
    have s2 := s1.trans (same_upd (o := .lst []) hc)
    have nca : a ≠ c := ne_of_none upd_same hc
    obtain ⟨ad, ab⟩ := hd.ne ha
    obtain ⟨cd, cb⟩ := hd.ne (s1.free hc)
    have hcH : H c = Option.none := s1.free hc
    refine ⟨_, _, rfl, ?_⟩
    refine ⟨fun mm σ H' => σ = [some (.ref d), some (.ref l), some (.ref a), some (.ref c)] ∧ ∃ ls fs, H' a = some (.lst (tv ls)) ∧ H' c = some (.lst (tv fs)) ∧ (fs ++ ls).Perm xs ∧ Deal H' d b ∧ Sm d b H H' ∧ ls.length = mm,
      ⟨xs.length, rfl, xs, [], ?_, upd_same, List.Perm.refl _, hd.same s2, sm_same s2, rfl⟩, ?_⟩
    · rw [upd_ne nca]
      exact upd_same
    · rintro mm σ H1 ⟨rfl, ls, fs, ea, ec, pm, dl, sm, rfl⟩
      refine ⟨_, rfl, Nat.zero_le _, fun p hp => ?_⟩
      have s3 := same_upd (o := .lst []) hp
      have ea1 := s3 _ _ ea
      have ec1 := s3 _ _ ec
      have dl1 := dl.same s3
      have sm1 := sm.trans (sm_same (d := d) (b := b) s3)
      refine ⟨a, p, ls.map fun i => ((i : Nat) : Int), [], rfl, rfl, (by rw [← tv_ints]; exact SqL.of ea1), SqL.of upd_same, _, rfl, ?_⟩
      generalize L2.upd H1 p (.lst []) = H2 at ea1 ec1 dl1 sm1 ⊢
      by_cases e : ls = []
      · subst e
        rw [List.append_nil] at pm
        exact ⟨_, rfl, k _ _ _ pm ec1 cd cb hcH dl1 sm1⟩
      · have h0 : 0 < ls.length := List.length_pos_iff.mpr e
        have hle : (fs ++ ls).length = xs.length := pm.length_eq
        rw [List.length_append] at hle
        rw [show (!decide ((ls.map fun i => ((i : Nat) : Int)) = [])) = true by simp [e]]
        refine iteT ?_
        refine ⟨fun σ' H' => σ' = [some (.ref d), some (.ref l), some (.ref a), some (.ref c)] ∧ ∃ ls' fs, H' a = some (.lst (tv ls')) ∧ H' c = some (.lst (tv fs)) ∧ (fs ++ ls').Perm xs ∧ Deal H' d b ∧ Sm d b H H' ∧ ls'.length + 1 = ls.length, ?_, ?_⟩
        · rintro σ' H' ⟨rfl, ls', fs', a1, a2, a3, a4, a5, a6⟩
          exact ⟨ls'.length, by omega, rfl, ls', fs', a1, a2, a3, a4, a5, rfl⟩
        · refine ⟨_, rfl, .inl ⟨rfl, _, SqL.of ec1⟩, _, rfl, .inl ⟨rfl, _, SqL.of ea1⟩, _, rfl, _, rfl, a, tv ls, rfl, .inl (SqL.of ea1), d, b, _, rfl, dl1, ?_, ?_, fun H3 r dl3 sm3 r0 r1 => ?_⟩
          · rw [tv_len]
            omega
          · rw [tv_len]
            exact log_lt (by omega)
          · rw [tv_len] at r1
            obtain ⟨j, rfl⟩ : ∃ j : Nat, r = j := ⟨r.toNat, by omega⟩
            have hj : j < ls.length := by omega
            have ea3 := sm3 _ _ ad ab ea1
            have ec3 := sm3 _ _ cd cb ec1
            refine ⟨a, tv ls, _, j, _, rfl, rfl, ea3, by omega, by omega, (seqIndex_of (by omega) (by rw [tv_len]; omega)), tv_get hj, ?_⟩
            have ec4 : L2.upd H3 a (.lst ((tv ls).eraseIdx j)) c = some (.lst (tv fs)) := by
              rw [upd_ne (Ne.symm nca)]
              exact ec3
            refine ⟨c, tv fs, _, rfl, rfl, ec4, ?_, rfl, ls.eraseIdx j, fs ++ [ls.getD j 0], ?_, ?_, ?_, ?_, ?_, ?_⟩
            · rw [tv_len]
              exact map_len_lt (by omega)
            · rw [upd_ne nca, upd_same]
              rw [tv_erase]
            · rw [upd_same, tv_snoc]
            · have q := erase_perm ls j hj
              rw [List.append_assoc]
              exact (List.Perm.append_left fs q).trans pm
            · obtain ⟨z, ns, d1, d2, d3, d4⟩ := dl3
              refine ⟨z, ns, ?_, ?_, d3, d4⟩
              · rw [upd_ne (Ne.symm cd), upd_ne (Ne.symm ad)]
                exact d1
              · rw [upd_ne (Ne.symm cb), upd_ne (Ne.symm ab)]
                exact d2
            · intro q o n1 n2 hq
              have q1 : q ≠ a := ne_of_none hq ha
              have q2 : q ≠ c := ne_of_none hq hcH
              rw [upd_ne q2, upd_ne q1]
              exact sm3 _ _ n1 n2 (sm1 _ _ n1 n2 hq)
            · rw [List.length_eraseIdx_of_lt hj]
              omega
end
end BN
namespace BN
open PySem PySem.Spec PyProof.Rows L2
def iv (l : List Int) : List V := l.map V.int
theorem iv_len (l : List Int) : (iv l).length = l.length := List.length_map _
theorem iv_snoc (l : List Int) (x : Int) : iv l ++ [V.int x] = iv (l ++ [x]) := by
  unfold iv
  rw [List.map_append]
  rfl
theorem iv_get {l : List Int} {i : Nat} {v : V} (h : (iv l)[i]? = some v) : ∃ x, v = V.int x ∧ i < l.length := by
  unfold iv at h
  rw [List.getElem?_map] at h
  cases e : l[i]? with
  | none =>
    rw [e] at h
    cases h
  | some x =>
    rw [e] at h
    exact ⟨x, (Option.some.inj h).symm, (List.getElem?_eq_some_iff.mp e).1⟩
section
variable {P' : Program} {w : World} {K : PySem.W.Frag} {mg : Str → Option Value} {base : Heap} {C : Addr}
/-! ### _law_draw -/
def spDraw (K : PySem.W.Frag) : Sp := fun vs H Q _ => ∃ (a : Addr) (ns : List Int) (z : Int), vs = [.ref a, .int z] ∧ SqL K H a (ns.map V.int) ∧ ns.length ≤ 63 ∧ -1000 < z ∧ z < 1000 ∧ ∀ (H' : Hp) (d b : Addr), Same H H' → Deal H' d b → Q (.ref d) H'
theorem scDraw : FnScope ["_law_script", "_law_salt", "_law_cells", "_law_blend", "_law_cell"] ["_law_script", "_law_salt"] (defScope sLDraw) := ⟨rfl, rfl, rfl, by decide +kernel, rfl, by decide +kernel, by decide +kernel⟩
theorem ok_draw {f : Addr} {fd : FuncData} (F : Fun K "_law_draw" "_law_draw" sLDraw f fd) (T : Tx mg) : FnOk P' w K mg base CX0 1 f fd ["_law_script", "_law_salt"] (spDraw K) := by
  refine F.ok scDraw (fun vs H Q E h => ?_) (fun cdv A outer s H vs Q E hr h => ?_)
  · obtain ⟨a, ns, z, rfl, _⟩ := h
    rfl
  · obtain ⟨a, ns, z, rfl, hs, l63, z1, z2, k⟩ := h
    refine ⟨_, pss_cons (ps_setLc (i := 2) (own := [("_law_cell", 4)]) (g := gName 4) rfl scDraw.nd rfl rfl (sw_true rfl rfl rfl (by decide +kernel)) (pi_list (pe_slice sl_list (pv 0) po_none (po_some pe_int)))
          (blkOk_by (N := ["_law_script", "_law_salt", "_law_cells", "_law_blend", "_law_cell"]) (sc := defScope sLDraw) (by decide +kernel))
          (fun _ _ _ _ _ => pg_name (i := 4) scDraw.nd rfl (Or.inl rfl)) (fun _ _ _ _ _ => pts_nil) (fun _ _ _ _ _ => pe_callB call_abs (by rfl) T.abs (by decide +kernel) (pa_cons (pe_callTy call_int1 (by rfl) T.int boot_int (pa_cons (pv 4) pa_nil)) pa_nil)))
      (pss_cons (ps_set (i := 3) scDraw.nd rfl (.inl rfl) (pe_op op_add pe_int (pe_op op_mul pe_int (pv 1))))
      (pss_cons (ps_for PassesOwn.never rfl (pi_list (pv 2)) (pg_name (i := 4) scDraw.nd rfl (.inl rfl))
        (pss_one (ps_set (i := 3) scDraw.nd rfl (.inl rfl) (pe_op op_mod (pe_callTy call_int1 (by rfl) T.int boot_int (pa_cons (pe_op op_add (pe_op op_add (pe_op op_mul (pv 3) pe_int) (pe_op op_mod (pv 4) pe_int)) pe_int) pa_nil)) pe_int))))
      (pss_one (ps_ret (pe_lst (pa_cons (pe_revL (pe_lc (own := [("_law_cell", 4)]) (g := gName 4) rfl scDraw.nd (pi_list (pv 2))
          (blkOk_by (N := ["_law_script", "_law_salt", "_law_cells", "_law_blend", "_law_cell"]) (sc := defScope sLDraw) (by decide +kernel))
          (fun _ _ _ _ _ => pg_name (i := 4) scDraw.nd rfl (Or.inl rfl)) (fun _ _ _ _ _ => pts_one (pt_cmpR op_ge (pv 4) (pe_op op_pow pe_int pe_int) (nomark _))) (fun _ _ _ _ _ => pv 4))) (pa_cons (pv 3) pa_nil))))))), ?_⟩
    -- the numbers of the script
    refine ⟨_, rfl, _, rfl, a, _, rfl, hs, fun p hp => ?_⟩
    generalize hcut : cutV (ns.map V.int) none (some 48) = cs
    have hlc : cs.length ≤ 63 := by
      rw [← hcut]
      exact Nat.le_trans (cutV_length _ _ _) (by rw [List.length_map]; exact l63)
    have hci : ∀ (i : Nat) (v : V), cs[i]? = some v → ∃ x, v = V.int x := by
      intro i v hi
      have hm : v ∈ cs := List.mem_of_getElem? hi
      rw [← hcut] at hm
      unfold cutV at hm
      obtain ⟨x, _, e⟩ := List.mem_map.mp (List.mem_of_mem_drop (List.mem_of_mem_take hm))
      exact ⟨x, e.symm⟩
    have s1 := same_upd (o := .lst cs) hp
    refine ⟨p, rfl, ⟨_, SqL.of upd_same⟩, fun D hD => ?_⟩
    have npD : p ≠ D := ne_of_none upd_same hD
    refine lc_list (K := K) (a := p) (xs := cs) (fun i H' => Same H H' ∧ H' p = some (.lst cs) ∧ ∃ ms : List Int, H' D = some (.lst (iv ms)) ∧ ms.length = i) ⟨s1.trans (same_upd hD), ?_, [], upd_same, rfl⟩ (fun i H' _ h => SqL.of h.2.1) ?_ ?_
    · rw [upd_ne npD]
      exact upd_same
    · rintro i v H1 hi ⟨s2, ep, ms, eD, ml⟩
      have hil := (List.getElem?_eq_some_iff.mp hi).1
      obtain ⟨x, rfl⟩ := hci i v hi
      refine ⟨rfl, ?_⟩
      refine ⟨_, rfl, .inl ⟨x, rfl, x, rfl, iv ms, eD, ?_, same_updw s2 (s1.free hD), ?_, ms ++ [if x < 0 then -x else x], ?_, ?_⟩⟩
      · rw [iv_len]
        exact map_len_lt (by omega)
      · rw [upd_ne npD]
        exact ep
      · rw [upd_same, iv_snoc]
      · rw [List.length_append, ml]
        rfl
    · rintro H1 ⟨s2, ep, ms, eD, ml⟩
      refine ⟨_, rfl, _, _, rfl, rfl, .inl ⟨by decide, by decide⟩, _, _, rfl, rfl, ?_⟩
      refine ⟨_, rfl, D, rfl, ⟨_, SqL.of eD⟩, for_list (K := K) (a := D) (xs := iv ms) (fun i σ H' => H' = H1 ∧ ∃ (u : Option V) (bl : Int), σ = [some (.ref a), some (.int z), some (.ref D), some (.int bl), u]) ⟨rfl, none, _, rfl⟩ (fun i σ H' _ h => by obtain ⟨rfl, _⟩ := h; exact SqL.of eD) ?_ ?_⟩
      · rintro i v σ H2 hi ⟨rfl, u, bl, rfl⟩
        obtain ⟨x, rfl, _⟩ := iv_get hi
        refine ⟨_, rfl, _, _, rfl, rfl, .inr ⟨by decide, by decide⟩, _, rfl, _, _, rfl, rfl, (by show (0 : Int) < 2147483549; decide), _, _, rfl, rfl, _, _, rfl, rfl, .inl ⟨_, rfl, _, _, rfl, rfl, (by show (0 : Int) < 2147483647; decide), rfl, _, _, rfl⟩⟩
      · rintro σ H2 ⟨rfl, u, bl, rfl⟩
        refine ⟨_, rfl, D, rfl, ⟨_, SqL.of eD⟩, fun G hG => ?_⟩
        refine lc_list (K := K) (a := D) (xs := iv ms) (fun i H' => Same H2 H' ∧ ∃ gs : List Int, H' G = some (.lst (iv gs)) ∧ gs.length ≤ i) ⟨same_upd hG, [], upd_same, Nat.le_refl _⟩ (fun i H' _ h => SqL.of (h.1 _ _ eD)) ?_ ?_
        · rintro i v H3 hi ⟨s3, gs, eG, gl⟩
          obtain ⟨x, rfl, hil⟩ := iv_get hi
          rw [ml] at hil
          refine ⟨rfl, ?_⟩
          refine ⟨_, rfl, _, _, rfl, rfl, ⟨by decide, by decide, by decide⟩, _, _, rfl, rfl, _, rfl, ite2 (fun hx => ?_) (fun hx => ?_)⟩
          · refine ⟨_, rfl, iv gs, eG, ?_, same_updw s3 hG, gs ++ [x], ?_, ?_⟩
            · rw [iv_len]
              exact map_len_lt (by omega)
            · rw [upd_same, iv_snoc]
            · rw [List.length_append]
              exact Nat.succ_le_succ gl
          · exact ⟨s3, gs, eG, by omega⟩
        · rintro H3 ⟨s3, gs, eG, gl⟩
          rw [iv_len] at gl
          refine ⟨G, _, rfl, SqL.of eG, fun r hr' => ⟨_, rfl, (by show 2 ≤ sizeLine; decide), fun t ht => ?_⟩⟩
          have nrt : t ≠ r := (ne_of_none upd_same ht).symm
          refine k _ t r ((s2.trans s3).trans ((same_upd hr').trans (same_upd ht))) ⟨bl, gs.reverse, upd_same, ?_, nrt, ?_⟩
          · rw [upd_ne (Ne.symm nrt), upd_same]
            unfold iv
            rw [List.map_reverse]
          · rw [List.length_reverse]
            omega
end
end BN
namespace BN
open PySem PySem.Spec PyProof.Rows L2
instance pDec (n : Nat) (l : List Nat) : Decidable (P n l) := inferInstanceAs (Decidable (l.Perm (List.range n)))
/-- a comprehension over a range whose items are counts -/
theorem lc_nat {n j : Nat} {te : TE} {vs : List Nat} {σ : L2.St} {H1 : Hp} {D : Addr} {Qd : Hp → Prop} (g : Nat → Nat) (hn : n ≤ 1000) (hD : H1 D = none) (hw : ∀ x, wipe ((wipe σ vs).set j x) vs = wipe σ vs)
    (hv : ∀ (i : Nat) (H : Hp) (k : VK), i < n → Same H1 H → k (.int (g i : Nat)) H → te ((wipe σ vs).set j (some (.int (i : Nat)))) H k)
    (hd : ∀ H, Same H1 H → H D = some (.lst (tv ((List.range n).map g))) → Qd H) :
    ∃ W : Nat → Nat → Hp → Prop, (∃ m, W 0 m (upd H1 D (.lst []))) ∧ ∀ i m H, W i m H →
      ((Itr 0 n).stop i H ∧ Qd H) ∨ ((Itr 0 n).go i H ∧ ∃ Nx : Hp → Prop, (∀ H', Nx H' → ∃ m', m' < m ∧ W (i + 1) m' H') ∧ ∀ x H', (Itr 0 n).yld i H x H' → gName j x (wipe σ vs) H' fun σ2 H2 => wipe σ2 vs = wipe σ vs ∧ tYes σ2 H2 fun b H3 =>
        if b = true then te σ2 H3 fun y H4 => ∃ acc, H4 D = some (.lst acc) ∧ acc.length < sizeLine ∧ Nx (upd H4 D (.lst (acc ++ [y]))) else Nx H3) := by
  refine lc_range (lo := 0) (n := n) (g := gName j) (tt := tYes) (te := te) (fun i H => Same H1 H ∧ H D = some (.lst (tv ((List.range i).map g)))) ⟨same_upd hD, upd_same⟩ ?_ ?_
  · rintro i H hi ⟨s, e⟩
    refine ⟨hw _, ?_⟩
    show te ((wipe σ vs).set j (some (.int (0 + (i : Nat))))) H _
    rw [Int.zero_add]
    refine hv i H _ hi s ⟨_, e, ?_, same_updw s hD, ?_⟩
    · rw [tv_len, List.length_map, List.length_range]
      exact map_len_lt (by omega)
    · rw [upd_same, List.range_succ, List.map_append, List.map_singleton, tv_snoc]
  · rintro H ⟨s, e⟩
    exact hd H s e
section
variable {P' : Program} {w : World} {K : PySem.W.Frag} {mg : Str → Option Value} {base : Heap} {C : Addr}
/-! ### _law_piece -/
def spPiece : Sp := fun vs H Q _ => ∃ f : Int, vs = [.int f] ∧ 3 ≤ f ∧ f ≤ 9 ∧ ∀ (H' : Hp) (l : Addr) (n : Nat) (x y : Pm n) (a b : Addr), Same H H' → H l = none → 1 ≤ n → n ≤ 9 → H' l = some (.lst [.ref a, .ref b]) → TA' H' a x.1 → TA' H' b y.1 → Q (.ref l) H'
theorem scPiece : FnScope ["_law_form", "_law_many", "_law_state", "_law_s"] ["_law_form"] (defScope sLPiece) := ⟨rfl, rfl, rfl, by decide +kernel, rfl, by decide +kernel, by decide +kernel⟩
theorem ok_piece {f : Addr} {fd : FuncData} (F : Fun K "_law_piece" "_law_piece" sLPiece f fd) (T : Tx mg) : FnOk P' w K mg base CX0 1 f fd ["_law_form"] spPiece := by
  refine F.ok scPiece (fun vs H Q E h => ?_) (fun cdv A outer s H vs Q E hr h => ?_)
  · obtain ⟨f, rfl, _⟩ := h
    rfl
  · obtain ⟨f, rfl, f3, f9, k⟩ := h
    refine ⟨_, pss_cons (ps_if (pt_cmpR op_lt (pv 0) pe_int (nomark _)) (pss_one (ps_ret (pe_ifExp (pt_cmpR op_eq (pv 0) pe_int (nomark _)) (pe_lst (pa_cons (pe_tup (pa_cons pe_int pa_nil)) pa_nil)) (pe_ifExp (pt_cmpR op_eq (pv 0) pe_int (nomark _)) (pe_lst (pa_cons (pe_tup (pa_cons pe_int (pa_cons pe_int pa_nil))) pa_nil)) (pe_lst (pa_cons (pe_tup (pa_cons pe_int (pa_cons pe_int (pa_cons pe_int pa_nil)))) pa_nil)))))) pss_nil)
      (pss_cons (ps_if (pt_cmpR op_lt (pv 0) pe_int (nomark _)) (pss_cons (ps_set (i := 1) scPiece.nd rfl (.inr rfl) (pe_ifExp (pt_cmpR op_lt (pv 0) pe_int (nomark _)) (pv 0) pe_int))
        (pss_one (ps_ret (pe_lst (pa_cons (pe_callTy call_tuple_of (by rfl) T.tup boot_tuple (pa_cons (pe_lc (own := [("_law_state", 2)]) (g := gName 2) rfl scPiece.nd (pi_range1 (by rfl) T.rng (pa_cons (pv 1) pa_nil)) (blkOk_by (N := ["_law_form", "_law_many", "_law_state", "_law_s"]) (sc := defScope sLPiece) (by decide +kernel)) (fun _ _ _ _ _ => pg_name (i := 2) scPiece.nd rfl (Or.inl rfl)) (fun _ _ _ _ _ => pts_nil)
          (fun _ _ _ _ _ => pe_op op_mod (pe_callTy call_int1 (by rfl) T.int boot_int (pa_cons (pe_op op_add (pv 2) pe_int) pa_nil)) (pv 1))) pa_nil)) (pa_cons (pe_callTy call_tuple_of (by rfl) T.tup boot_tuple (pa_cons (pe_lc (own := [("_law_state", 2)]) (g := gName 2) rfl scPiece.nd (pi_range1 (by rfl) T.rng (pa_cons (pv 1) pa_nil)) (blkOk_by (N := ["_law_form", "_law_many", "_law_state", "_law_s"]) (sc := defScope sLPiece) (by decide +kernel)) (fun _ _ _ _ _ => pg_name (i := 2) scPiece.nd rfl (Or.inl rfl)) (fun _ _ _ _ _ => pts_nil)
          (fun _ _ _ _ _ => pe_op op_mod (pe_callTy call_int1 (by rfl) T.int boot_int (pa_cons (pe_op op_sub pe_int (pv 2)) pa_nil)) (pv 1))) pa_nil)) pa_nil)))))) pss_nil)
      (pss_cons (ps_if (pt_cmpR op_eq (pv 0) pe_int (nomark _)) (pss_one (ps_ret (pe_lst (pa_cons (pe_tup (pa_cons pe_int (pa_cons pe_int (pa_cons pe_int (pa_cons pe_int pa_nil))))) (pa_cons (pe_tup (pa_cons pe_int (pa_cons pe_int (pa_cons pe_int (pa_cons pe_int pa_nil))))) pa_nil))))) pss_nil)
      (pss_cons (ps_if (pt_cmpR op_eq (pv 0) pe_int (nomark _)) (pss_one (ps_ret (pe_lst (pa_cons (pe_callTy call_tuple_of (by rfl) T.tup boot_tuple (pa_cons (pe_lc (own := [("_law_state", 2)]) (g := gName 2) rfl scPiece.nd (pi_range1 (by rfl) T.rng (pa_cons pe_int pa_nil)) (blkOk_by (N := ["_law_form", "_law_many", "_law_state", "_law_s"]) (sc := defScope sLPiece) (by decide +kernel)) (fun _ _ _ _ _ => pg_name (i := 2) scPiece.nd rfl (Or.inl rfl)) (fun _ _ _ _ _ => pts_nil)
          (fun _ _ _ _ _ => pe_op op_mod (pe_callTy call_int1 (by rfl) T.int boot_int (pa_cons (pe_op op_add (pv 2) pe_int) pa_nil)) pe_int)) pa_nil)) (pa_cons (pe_callTy call_tuple_of (by rfl) T.tup boot_tuple (pa_cons (pe_lc (own := [("_law_state", 2)]) (g := gName 2) rfl scPiece.nd (pi_range1 (by rfl) T.rng (pa_cons pe_int pa_nil)) (blkOk_by (N := ["_law_form", "_law_many", "_law_state", "_law_s"]) (sc := defScope sLPiece) (by decide +kernel)) (fun _ _ _ _ _ => pg_name (i := 2) scPiece.nd rfl (Or.inl rfl)) (fun _ _ _ _ _ => pts_nil)
          (fun _ _ _ _ _ => pe_op op_mod (pe_callTy call_int1 (by rfl) T.int boot_int (pa_cons (pe_op op_mul pe_int (pv 2)) pa_nil)) pe_int)) pa_nil)) pa_nil))))) pss_nil)
      (pss_cons (ps_if (pt_cmpR op_eq (pv 0) pe_int (nomark _)) (pss_one (ps_ret (pe_lst (pa_cons (pe_callTy call_tuple_of (by rfl) T.tup boot_tuple (pa_cons (pe_lc (own := [("_law_s", 3)]) (g := gName 3) rfl scPiece.nd (pi_range1 (by rfl) T.rng (pa_cons pe_int pa_nil)) (blkOk_by (N := ["_law_form", "_law_many", "_law_state", "_law_s"]) (sc := defScope sLPiece) (by decide +kernel)) (fun _ _ _ _ _ => pg_name (i := 3) scPiece.nd rfl (Or.inl rfl)) (fun _ _ _ _ _ => pts_nil)
          (fun _ _ _ _ _ => pe_op op_add (pe_op op_mul pe_int (pe_op op_mod (pe_callTy call_int1 (by rfl) T.int boot_int (pa_cons (pe_op op_add (pe_op op_fdiv (pv 3) pe_int) pe_int) pa_nil)) pe_int)) (pe_op op_mod (pv 3) pe_int))) pa_nil)) (pa_cons (pe_callTy call_tuple_of (by rfl) T.tup boot_tuple (pa_cons (pe_lc (own := [("_law_s", 3)]) (g := gName 3) rfl scPiece.nd (pi_range1 (by rfl) T.rng (pa_cons pe_int pa_nil)) (blkOk_by (N := ["_law_form", "_law_many", "_law_state", "_law_s"]) (sc := defScope sLPiece) (by decide +kernel)) (fun _ _ _ _ _ => pg_name (i := 3) scPiece.nd rfl (Or.inl rfl)) (fun _ _ _ _ _ => pts_nil)
          (fun _ _ _ _ _ => pe_op op_add (pe_op op_mul pe_int (pe_op op_fdiv (pv 3) pe_int)) (pe_op op_mod (pe_callTy call_int1 (by rfl) T.int boot_int (pa_cons (pe_op op_add (pe_op op_mod (pv 3) pe_int) (pe_op op_fdiv (pv 3) pe_int)) pa_nil)) pe_int))) pa_nil)) pa_nil))))) pss_nil)
      (pss_cons (ps_if (pt_cmpR op_eq (pv 0) pe_int (nomark _)) (pss_one (ps_ret (pe_lst (pa_cons (pe_tup (pa_cons pe_int (pa_cons pe_int (pa_cons pe_int (pa_cons pe_int pa_nil))))) (pa_cons (pe_tup (pa_cons pe_int (pa_cons pe_int (pa_cons pe_int (pa_cons pe_int pa_nil))))) pa_nil))))) pss_nil)
      (pss_cons (ps_if (pt_cmpR op_eq (pv 0) pe_int (nomark _)) (pss_one (ps_ret (pe_lst (pa_cons (pe_tup (pa_cons pe_int (pa_cons pe_int (pa_cons pe_int (pa_cons pe_int pa_nil))))) pa_nil)))) pss_nil)
      (pss_one (ps_ret (pe_lst (pa_cons (pe_tup (pa_cons pe_int (pa_cons pe_int (pa_cons pe_int (pa_cons pe_int (pa_cons pe_int (pa_cons pe_int (pa_cons pe_int (pa_cons pe_int pa_nil))))))))) (pa_cons (pe_tup (pa_cons pe_int (pa_cons pe_int (pa_cons pe_int (pa_cons pe_int (pa_cons pe_int (pa_cons pe_int (pa_cons pe_int (pa_cons pe_int pa_nil))))))))) pa_nil))))))))))), ?_⟩
    have fin : ∀ (H2 : Hp) (n : Nat) (x y : Pm n) (a b l : Addr), Same H H2 → 1 ≤ n → n ≤ 9 → TA' H2 a x.1 → TA' H2 b y.1 → H2 l = none → Q (.ref l) (L2.upd H2 l (.lst [.ref a, .ref b])) := fun H2 n x y a b l s n1 n9 ha hb hl =>
      k _ l n x y a b (s.trans (same_upd hl)) (s.free hl) n1 n9 upd_same (ha.same (same_upd hl)) (hb.same (same_upd hl))
    have cs : f = 3 ∨ f = 4 ∨ f = 5 ∨ f = 6 ∨ f = 7 ∨ f = 8 ∨ f = 9 := by omega
    rcases cs with rfl | rfl | rfl | rfl | rfl | rfl | rfl
    · skip
      refine ⟨_, rfl, _, _, rfl, rfl, _, rfl, iteF ?_⟩
      refine ⟨_, rfl, _, _, rfl, rfl, _, rfl, iteT ?_⟩
      refine ⟨_, rfl, _, _, rfl, rfl, _, rfl, ?_⟩
      refine iteT ⟨_, rfl, ?_⟩
      refine ⟨_, rfl, (3 : Int), rfl, by decide, by decide, fun D hD => ?_⟩
      refine lc_nat (n := 3) (j := 2) (fun i => (i + 1) % 3) (by decide) hD (fun _ => rfl) (fun i H3 q hi s3 hq => ?_) (fun H3 s3 e3 => ?_)
      · exact ⟨_, rfl, _, _, rfl, rfl, .inl ⟨_, rfl, _, rfl, _, _, rfl, rfl, (by show (0 : Int) < 3; decide), hq⟩⟩
      refine ⟨D, _, rfl, .inl ⟨SqL.of e3, fun a ha => ?_⟩⟩
      have s4 := s3.trans (same_upd (o := .tup (tv ((List.range 3).map (fun i => (i + 1) % 3)))) ha)
      refine ⟨_, rfl, (3 : Int), rfl, by decide, by decide, fun G hG => ?_⟩
      refine lc_nat (n := 3) (j := 2) (fun i => (3 - i) % 3) (by decide) hG (fun _ => rfl) (fun i H5 q hi s5 hq => ?_) (fun H5 s5 e5 => ?_)
      · refine ⟨_, rfl, _, _, rfl, rfl, .inl ⟨_, rfl, _, rfl, _, _, rfl, rfl, (by show (0 : Int) < 3; decide), ?_⟩⟩
        show q (.int ((0 - (i : Int)) % 3)) H5
        rw [show (0 - (i : Int)) % 3 = (((3 - i) % 3 : Nat) : Int) by omega]
        exact hq
      refine ⟨G, _, rfl, .inl ⟨SqL.of e5, fun b hb => ?_⟩⟩
      refine ⟨(by show 2 ≤ sizeLine; decide), fun l hl => ?_⟩
      exact fin _ 3 ⟨(List.range 3).map (fun i => (i + 1) % 3), by decide +kernel⟩ ⟨(List.range 3).map (fun i => (3 - i) % 3), by decide +kernel⟩ a b l ((s4.trans s5).trans (same_upd hb)) (by decide) (by decide) ((show TA' _ a _ from upd_same).same (s5.trans (same_upd hb))) upd_same hl
    · skip
      refine ⟨_, rfl, _, _, rfl, rfl, _, rfl, iteF ?_⟩
      refine ⟨_, rfl, _, _, rfl, rfl, _, rfl, iteT ?_⟩
      refine ⟨_, rfl, _, _, rfl, rfl, _, rfl, ?_⟩
      refine iteT ⟨_, rfl, ?_⟩
      refine ⟨_, rfl, (4 : Int), rfl, by decide, by decide, fun D hD => ?_⟩
      refine lc_nat (n := 4) (j := 2) (fun i => (i + 1) % 4) (by decide) hD (fun _ => rfl) (fun i H3 q hi s3 hq => ?_) (fun H3 s3 e3 => ?_)
      · exact ⟨_, rfl, _, _, rfl, rfl, .inl ⟨_, rfl, _, rfl, _, _, rfl, rfl, (by show (0 : Int) < 4; decide), hq⟩⟩
      refine ⟨D, _, rfl, .inl ⟨SqL.of e3, fun a ha => ?_⟩⟩
      have s4 := s3.trans (same_upd (o := .tup (tv ((List.range 4).map (fun i => (i + 1) % 4)))) ha)
      refine ⟨_, rfl, (4 : Int), rfl, by decide, by decide, fun G hG => ?_⟩
      refine lc_nat (n := 4) (j := 2) (fun i => (4 - i) % 4) (by decide) hG (fun _ => rfl) (fun i H5 q hi s5 hq => ?_) (fun H5 s5 e5 => ?_)
      · refine ⟨_, rfl, _, _, rfl, rfl, .inl ⟨_, rfl, _, rfl, _, _, rfl, rfl, (by show (0 : Int) < 4; decide), ?_⟩⟩
        show q (.int ((0 - (i : Int)) % 4)) H5
        rw [show (0 - (i : Int)) % 4 = (((4 - i) % 4 : Nat) : Int) by omega]
        exact hq
      refine ⟨G, _, rfl, .inl ⟨SqL.of e5, fun b hb => ?_⟩⟩
      refine ⟨(by show 2 ≤ sizeLine; decide), fun l hl => ?_⟩
      exact fin _ 4 ⟨(List.range 4).map (fun i => (i + 1) % 4), by decide +kernel⟩ ⟨(List.range 4).map (fun i => (4 - i) % 4), by decide +kernel⟩ a b l ((s4.trans s5).trans (same_upd hb)) (by decide) (by decide) ((show TA' _ a _ from upd_same).same (s5.trans (same_upd hb))) upd_same hl
    · skip
      refine ⟨_, rfl, _, _, rfl, rfl, _, rfl, iteF ?_⟩
      refine ⟨_, rfl, _, _, rfl, rfl, _, rfl, iteT ?_⟩
      refine ⟨_, rfl, _, _, rfl, rfl, _, rfl, ?_⟩
      refine iteF ?_
      refine ⟨_, rfl, (5 : Int), rfl, by decide, by decide, fun D hD => ?_⟩
      refine lc_nat (n := 5) (j := 2) (fun i => (i + 1) % 5) (by decide) hD (fun _ => rfl) (fun i H3 q hi s3 hq => ?_) (fun H3 s3 e3 => ?_)
      · exact ⟨_, rfl, _, _, rfl, rfl, .inl ⟨_, rfl, _, rfl, _, _, rfl, rfl, (by show (0 : Int) < 5; decide), hq⟩⟩
      refine ⟨D, _, rfl, .inl ⟨SqL.of e3, fun a ha => ?_⟩⟩
      have s4 := s3.trans (same_upd (o := .tup (tv ((List.range 5).map (fun i => (i + 1) % 5)))) ha)
      refine ⟨_, rfl, (5 : Int), rfl, by decide, by decide, fun G hG => ?_⟩
      refine lc_nat (n := 5) (j := 2) (fun i => (5 - i) % 5) (by decide) hG (fun _ => rfl) (fun i H5 q hi s5 hq => ?_) (fun H5 s5 e5 => ?_)
      · refine ⟨_, rfl, _, _, rfl, rfl, .inl ⟨_, rfl, _, rfl, _, _, rfl, rfl, (by show (0 : Int) < 5; decide), ?_⟩⟩
        show q (.int ((0 - (i : Int)) % 5)) H5
        rw [show (0 - (i : Int)) % 5 = (((5 - i) % 5 : Nat) : Int) by omega]
        exact hq
      refine ⟨G, _, rfl, .inl ⟨SqL.of e5, fun b hb => ?_⟩⟩
      refine ⟨(by show 2 ≤ sizeLine; decide), fun l hl => ?_⟩
      exact fin _ 5 ⟨(List.range 5).map (fun i => (i + 1) % 5), by decide +kernel⟩ ⟨(List.range 5).map (fun i => (5 - i) % 5), by decide +kernel⟩ a b l ((s4.trans s5).trans (same_upd hb)) (by decide) (by decide) ((show TA' _ a _ from upd_same).same (s5.trans (same_upd hb))) upd_same hl
    · skip
      refine ⟨_, rfl, _, _, rfl, rfl, _, rfl, iteF ?_⟩
      refine ⟨_, rfl, _, _, rfl, rfl, _, rfl, iteF ?_⟩
      refine ⟨_, rfl, rfl, _, rfl, iteT ?_⟩
      refine ⟨(by show 4 ≤ sizeLine; decide), fun a ha => ⟨(by show 4 ≤ sizeLine; decide), fun b hb => ⟨(by show 2 ≤ sizeLine; decide), fun l hl => ?_⟩⟩⟩
      exact fin _ 4 ⟨[1, 2, 0, 3], by decide +kernel⟩ ⟨[1, 0, 3, 2], by decide +kernel⟩ a b l ((same_upd ha).trans (same_upd hb)) (by decide) (by decide) ((show TA' _ a _ from upd_same).same (same_upd hb)) upd_same hl
    · skip
      refine ⟨_, rfl, _, _, rfl, rfl, _, rfl, iteF ?_⟩
      refine ⟨_, rfl, _, _, rfl, rfl, _, rfl, iteF ?_⟩
      refine ⟨_, rfl, rfl, _, rfl, iteF ?_⟩
      refine ⟨_, rfl, rfl, _, rfl, iteT ?_⟩
      refine ⟨(7 : Int), rfl, by decide, by decide, fun D hD => ?_⟩
      refine lc_nat (n := 7) (j := 2) (fun i => (i + 1) % 7) (by decide) hD (fun _ => rfl) (fun i H3 q hi s3 hq => ?_) (fun H3 s3 e3 => ?_)
      · exact ⟨_, rfl, _, _, rfl, rfl, .inl ⟨_, rfl, _, _, rfl, rfl, (by show (0 : Int) < 7; decide), hq⟩⟩
      refine ⟨D, _, rfl, .inl ⟨SqL.of e3, fun a ha => ?_⟩⟩
      have s4 := s3.trans (same_upd (o := .tup (tv ((List.range 7).map (fun i => (i + 1) % 7)))) ha)
      refine ⟨(7 : Int), rfl, by decide, by decide, fun G hG => ?_⟩
      refine lc_nat (n := 7) (j := 2) (fun i => (2 * i) % 7) (by decide) hG (fun _ => rfl) (fun i H5 q hi s5 hq => ?_) (fun H5 s5 e5 => ?_)
      · exact ⟨_, rfl, _, _, rfl, rfl, .inl ⟨by decide, by decide⟩, .inl ⟨_, rfl, _, _, rfl, rfl, (by show (0 : Int) < 7; decide), hq⟩⟩
      refine ⟨G, _, rfl, .inl ⟨SqL.of e5, fun b hb => ?_⟩⟩
      refine ⟨(by show 2 ≤ sizeLine; decide), fun l hl => ?_⟩
      exact fin _ 7 ⟨(List.range 7).map (fun i => (i + 1) % 7), by decide +kernel⟩ ⟨(List.range 7).map (fun i => (2 * i) % 7), by decide +kernel⟩ a b l ((s4.trans s5).trans (same_upd hb)) (by decide) (by decide) ((show TA' _ a _ from upd_same).same (s5.trans (same_upd hb))) upd_same hl
    · skip
      refine ⟨_, rfl, _, _, rfl, rfl, _, rfl, iteF ?_⟩
      refine ⟨_, rfl, _, _, rfl, rfl, _, rfl, iteF ?_⟩
      refine ⟨_, rfl, rfl, _, rfl, iteF ?_⟩
      refine ⟨_, rfl, rfl, _, rfl, iteF ?_⟩
      refine ⟨_, rfl, rfl, _, rfl, iteT ?_⟩
      refine ⟨(9 : Int), rfl, by decide, by decide, fun D hD => ?_⟩
      refine lc_nat (n := 9) (j := 3) (fun i => 3 * ((i / 3 + 1) % 3) + i % 3) (by decide) hD (fun _ => rfl) (fun i H3 q hi s3 hq => ?_) (fun H3 s3 e3 => ?_)
      · exact ⟨_, rfl, _, _, rfl, rfl, ⟨by decide, by decide⟩, _, _, rfl, rfl, .inl ⟨_, rfl, _, _, rfl, rfl, (by show (0 : Int) < 3; decide), _, _, rfl, rfl, .inl ⟨by decide, by decide⟩, _, rfl, _, _, rfl, rfl, (by show (0 : Int) < 3; decide), _, _, rfl, rfl, hq⟩⟩
      refine ⟨D, _, rfl, .inl ⟨SqL.of e3, fun a ha => ?_⟩⟩
      have s4 := s3.trans (same_upd (o := .tup (tv ((List.range 9).map (fun i => 3 * ((i / 3 + 1) % 3) + i % 3)))) ha)
      refine ⟨(9 : Int), rfl, by decide, by decide, fun G hG => ?_⟩
      refine lc_nat (n := 9) (j := 3) (fun i => 3 * (i / 3) + (i % 3 + i / 3) % 3) (by decide) hG (fun _ => rfl) (fun i H5 q hi s5 hq => ?_) (fun H5 s5 e5 => ?_)
      · exact ⟨_, rfl, _, _, rfl, rfl, ⟨by decide, by decide⟩, _, _, rfl, rfl, .inl ⟨by decide, by decide⟩, _, rfl, _, _, rfl, rfl, (by show (0 : Int) < 3; decide), _, rfl, _, _, rfl, rfl, ⟨by decide, by decide⟩, _, _, rfl, rfl, .inl ⟨_, rfl, _, _, rfl, rfl, (by show (0 : Int) < 3; decide), _, _, rfl, rfl, hq⟩⟩
      refine ⟨G, _, rfl, .inl ⟨SqL.of e5, fun b hb => ?_⟩⟩
      refine ⟨(by show 2 ≤ sizeLine; decide), fun l hl => ?_⟩
      exact fin _ 9 ⟨(List.range 9).map (fun i => 3 * ((i / 3 + 1) % 3) + i % 3), by decide +kernel⟩ ⟨(List.range 9).map (fun i => 3 * (i / 3) + (i % 3 + i / 3) % 3), by decide +kernel⟩ a b l ((s4.trans s5).trans (same_upd hb)) (by decide) (by decide) ((show TA' _ a _ from upd_same).same (s5.trans (same_upd hb))) upd_same hl
    · skip
      refine ⟨_, rfl, _, _, rfl, rfl, _, rfl, iteF ?_⟩
      refine ⟨_, rfl, _, _, rfl, rfl, _, rfl, iteF ?_⟩
      refine ⟨_, rfl, rfl, _, rfl, iteF ?_⟩
      refine ⟨_, rfl, rfl, _, rfl, iteF ?_⟩
      refine ⟨_, rfl, rfl, _, rfl, iteF ?_⟩
      refine ⟨_, rfl, rfl, _, rfl, iteT ?_⟩
      refine ⟨(by show 4 ≤ sizeLine; decide), fun a ha => ⟨(by show 4 ≤ sizeLine; decide), fun b hb => ⟨(by show 2 ≤ sizeLine; decide), fun l hl => ?_⟩⟩⟩
      exact fin _ 4 ⟨[1, 2, 3, 0], by decide +kernel⟩ ⟨[1, 0, 2, 3], by decide +kernel⟩ a b l ((same_upd ha).trans (same_upd hb)) (by decide) (by decide) ((show TA' _ a _ from upd_same).same (same_upd hb)) upd_same hl
end
end BN
namespace BN
open PySem PySem.Spec PyProof.Rows L2
/-- the pairs of powers, one pair for each count -/
def Prs {n : Nat} (H : Hp) (x y : Pm n) (ps : List Addr) : Prop := ∀ (m : Nat) (q : Addr), ps[m]? = some q → ∃ u v : Addr, H q = some (.tup [.ref u, .ref v]) ∧ TA' H u (np (Grp.mul x y) m).1 ∧ TA' H v (Grp.mul (np x m) (np y m)).1
theorem Prs.keep {n : Nat} {H H' : Hp} {x y : Pm n} {ps : List Addr} (h : Prs H x y ps) (k : ∀ (q : Addr) (zs : List V), H q = some (.tup zs) → H' q = some (.tup zs)) : Prs H' x y ps := fun m q e => by
  obtain ⟨u, v, h1, h2, h3⟩ := h m q e
  exact ⟨u, v, k _ _ h1, k _ _ h2, k _ _ h3⟩
theorem Prs.same {n : Nat} {H H' : Hp} {x y : Pm n} {ps : List Addr} (h : Prs H x y ps) (s : Same H H') : Prs H' x y ps := h.keep fun q zs e => s _ _ e
theorem Prs.snoc {n : Nat} {H : Hp} {x y : Pm n} {ps : List Addr} {q u v : Addr} {i : Nat} (h : Prs H x y ps) (hi : ps.length = i) (h1 : H q = some (.tup [.ref u, .ref v])) (h2 : TA' H u (np (Grp.mul x y) i).1) (h3 : TA' H v (Grp.mul (np x i) (np y i)).1) : Prs H x y (ps ++ [q]) := fun m r e => by
  by_cases c : m < ps.length
  · rw [List.getElem?_append_left c] at e
    exact h m r e
  · have hm : m = i := by
      have := (List.getElem?_eq_some_iff.mp e).1
      rw [List.length_append, List.length_singleton] at this
      omega
    subst hm
    rw [List.getElem?_append_right (by omega), hi, Nat.sub_self] at e
    have e' := Option.some.inj e
    subst e'
    exact ⟨u, v, h1, h2, h3⟩
section
variable {P' : Program} {w : World} {K : PySem.W.Frag} {mg : Str → Option Value} {base : Heap} {C : Addr}
/-! ### _law_marks -/
def spMarks : Sp := fun vs H Q _ => ∃ (n : Nat) (x y : Pm n) (a b : Addr), vs = [.ref a, .ref b, .int 300] ∧ TA' H a x.1 ∧ TA' H b y.1 ∧ n ≤ 16 ∧
  ∀ (H' : Hp) (l : Addr) (ps : List Addr), Same H H' → H l = none → H' l = some (.lst (ps.map V.ref)) → ps.length ≤ 301 → Prs H' x y ps → (∀ m, 1 ≤ m → m < ps.length → ¬ Idle x y m) → (ps.length ≤ 300 → 1 ≤ ps.length ∧ Idle x y ps.length) → Q (.ref l) H'
theorem scMarks : FnScope ["_law_one", "_law_other", "_law_most", "_law_begin", "_law_both", "_law_found", "_law_whole", "_law_first", "_law_second", "_law_n"] ["_law_one", "_law_other", "_law_most"] (defScope sLMarks) := ⟨rfl, rfl, rfl, by decide +kernel, rfl, by decide +kernel, by decide +kernel⟩
theorem ok_marks {f : Addr} {fd : FuncData} (F : Fun K "_law_marks" "_law_marks" sLMarks f fd) (T : Tx mg) (DT : Def P' w K mg base CX0 1 "_law_then" ["_law_one", "_law_other"] spAfter) : FnOk P' w K mg base CX0 2 f fd ["_law_one", "_law_other", "_law_most"] spMarks := by
  refine F.ok scMarks (fun vs H Q E h => ?_) (fun cdv A outer s H vs Q E hr h => ?_)
  · obtain ⟨n, x, y, a, b, rfl, _⟩ := h
    rfl
  · obtain ⟨n, x, y, a, b, rfl, ha, hb, h16, k⟩ := h
    refine ⟨_, pss_cons (ps_par3 (i := 3) (j := 4) (l := 5) (by rfl) scMarks.nd rfl rfl rfl (by decide) (by decide) (by decide) rfl rfl rfl
        (pa_cons (pe_callTy call_tuple_of (by rfl) T.tup boot_tuple (pa_cons (pe_listRg rfl (by rfl) T.lst (prg_1 (by rfl) T.rng (pe_callB call_len_seq (by rfl) T.len boot_len (pa_cons (pv 0) pa_nil)))) pa_nil))
        (pa_cons (pe_callD DT hr (by rfl) pass0 (pa_cons (pv 0) (pa_cons (pv 1) pa_nil))) (pa_cons (pe_lst pa_nil) pa_nil))) (by rfl))
      (pss_cons (ps_par3 (i := 6) (j := 7) (l := 8) (by rfl) scMarks.nd rfl rfl rfl (by decide) (by decide) (by decide) rfl rfl rfl (pa_cons (pv 3) (pa_cons (pv 3) (pa_cons (pv 3) pa_nil))) (by rfl))
      (pss_cons (ps_for PassesOwn.never rfl (pi_range1 (by rfl) T.rng (pa_cons (pe_op op_add (pv 2) pe_int) pa_nil)) (pg_name (i := 9) scMarks.nd rfl (.inl rfl))
        (pss_cons (ps_if (pw_and (pt_cmpR op_gt (pv 9) pe_int (nomark _)) (pw_and (pt_cmpR (op_eqT hr.units) (pv 6) (pv 3) (nomark _)) (pw_and (pt_cmpR (op_eqT hr.units) (pv 7) (pv 3) (nomark _)) (pw_and1 (pt_cmpR (op_eqT hr.units) (pv 8) (pv 3) (nomark _)))))).pt
            (pss_one ps_break) pss_nil)
        (pss_cons (ps_expr (pe_bm PySem.F.plainAttrs_list PySem.F.slot_list_append PySem.F.type_list_append mt_append (pv 5) (pa_cons (pe_tup (pa_cons (pv 6) (pa_cons (pe_callD DT hr (by rfl) pass0 (pa_cons (pv 7) (pa_cons (pv 8) pa_nil))) pa_nil))) pa_nil)))
        (pss_one (ps_par3 (i := 6) (j := 7) (l := 8) (by rfl) scMarks.nd rfl rfl rfl (by decide) (by decide) (by decide) rfl rfl rfl
          (pa_cons (pe_callD DT hr (by rfl) pass0 (pa_cons (pv 6) (pa_cons (pv 4) pa_nil))) (pa_cons (pe_callD DT hr (by rfl) pass0 (pa_cons (pv 7) (pa_cons (pv 0) pa_nil))) (pa_cons (pe_callD DT hr (by rfl) pass0 (pa_cons (pv 8) (pa_cons (pv 1) pa_nil))) pa_nil))) (by rfl))))))
      (pss_one (ps_ret (pv 5))))), ?_⟩
    have hx : (tv x.1).length = n := by rw [tv_len, x.2.len]
    refine ⟨_, rfl, a, _, rfl, .inr (SqT.of ha), (n : Int), by rw [hx], RgOk.of_le (by omega) (by omega) (by omega) (by omega), fun p hp => ?_⟩
    have s1 := same_upd (o := .lst (rgV 0 (n : Nat))) hp
    refine ⟨p, _, rfl, .inl ⟨SqL.of upd_same, fun g hg => ?_⟩⟩
    have s2 := s1.trans (same_upd (o := .tup (rgV 0 (n : Nat))) hg)
    refine ⟨_, rfl, _, rfl, n, x, y, a, b, rfl, ha.same s2, hb.same s2, h16, fun H3 c s3 hc => ?_⟩
    have s03 := s2.trans s3
    refine ⟨Nat.zero_le _, fun l hl => ?_⟩
    have s4 := s03.trans (same_upd (o := .lst []) hl)
    have hlH : H l = Option.none := s03.free hl
    have hg4 : TA' (L2.upd H3 l (.lst [])) g (Grp.one : Pm n).1 := by
      refine same_upd hl _ _ (s3 _ _ ?_)
      rw [upd_same, rgV_nat]
      rfl
    have hc4 : TA' (L2.upd H3 l (.lst [])) c (Grp.mul x y).1 := hc.same (same_upd hl)
    have el4 : L2.upd H3 l (.lst []) l = some (.lst []) := upd_same
    generalize L2.upd H3 l (.lst []) = H4 at s4 hg4 hc4 el4 ⊢
    refine ⟨_, _, _, rfl, ?_⟩
    refine ⟨_, rfl, _, rfl, _, rfl, _, _, _, rfl, ?_⟩
    dsimp only
    refine seq_by (fun σ H' => ∃ (w1 w2 w3 : Addr) (u : Option V) (ps : List Addr), σ = [some (.ref a), some (.ref b), some (.int 300), some (.ref g), some (.ref c), some (.ref l), some (.ref w1), some (.ref w2), some (.ref w3), u] ∧ Same H H' ∧
        H' l = some (.lst (ps.map V.ref)) ∧ ps.length ≤ 301 ∧ Prs H' x y ps ∧ (∀ m, 1 ≤ m → m < ps.length → ¬ Idle x y m) ∧ (ps.length ≤ 300 → 1 ≤ ps.length ∧ Idle x y ps.length)) (fun nx hn => ?_) ?_
    · refine ⟨_, rfl, _, _, rfl, rfl, (301 : Int), rfl, by decide, by decide, ?_⟩
      refine for_range (lo := 0) (n := 301) (fun i σ H' => ∃ (w1 w2 w3 : Addr) (u : Option V) (ps : List Addr), σ = [some (.ref a), some (.ref b), some (.int 300), some (.ref g), some (.ref c), some (.ref l), some (.ref w1), some (.ref w2), some (.ref w3), u] ∧ Same H H' ∧
          TA' H' g (Grp.one : Pm n).1 ∧ TA' H' c (Grp.mul x y).1 ∧ TA' H' w1 (np (Grp.mul x y) i).1 ∧ TA' H' w2 (np x i).1 ∧ TA' H' w3 (np y i).1 ∧ H' l = some (.lst (ps.map V.ref)) ∧ ps.length = i ∧ Prs H' x y ps ∧ (∀ m, 1 ≤ m → m < i → ¬ Idle x y m))
        ⟨g, g, g, none, [], rfl, s4, hg4, hc4, hg4, hg4, hg4, el4, rfl, fun m q e => (by cases e), fun m a1 a2 => absurd a2 (Nat.not_lt_zero _)⟩ ?_ ?_
      · rintro i σ H5 hi ⟨w1, w2, w3, u, ps, rfl, s5, hg5, hc5, q1, q2, q3, el, pl, pr, nid⟩
        refine seq_by (fun σ' H' => σ' = [some (.ref a), some (.ref b), some (.int 300), some (.ref g), some (.ref c), some (.ref l), some (.ref w1), some (.ref w2), some (.ref w3), some (.int (0 + (i : Nat)))] ∧ H' = H5 ∧ (1 ≤ i → ¬ Idle x y i)) (fun nx2 hn2 => ?_) ?_
        · refine ⟨_, rfl, _, _, rfl, rfl, _, rfl, ite2 (fun c0 => ?_) (fun c0 => ?_)⟩
          · refine ⟨_, rfl, _, rfl, w1, g, _, _, rfl, rfl, SqT.of q1, SqT.of hg5, _, rfl, ite2 (fun c1 => ?_) (fun c1 => ?_)⟩
            · refine ⟨_, rfl, _, rfl, w2, g, _, _, rfl, rfl, SqT.of q2, SqT.of hg5, _, rfl, ite2 (fun c2 => ?_) (fun c2 => ?_)⟩
              · refine ⟨_, rfl, _, rfl, w3, g, _, _, rfl, rfl, SqT.of q3, SqT.of hg5, _, rfl, ite2 (fun c3 => ?_) (fun c3 => ?_)⟩
                · refine hn _ _ ⟨w1, w2, w3, _, ps, rfl, s5, el, by omega, pr, by rw [pl]; exact nid, fun _ => ⟨?_, ?_⟩⟩
                  · have q : (0 : Int) < 0 + (i : Nat) := of_decide_eq_true c0
                    omega
                  · rw [pl]
                    exact ⟨Subtype.ext (of_decide_eq_true c1), Subtype.ext (of_decide_eq_true c2), Subtype.ext (of_decide_eq_true c3)⟩
                · exact hn2 _ _ ⟨rfl, rfl, fun _ z => c3 (decide_eq_true (congrArg Subtype.val z.2.2))⟩
              · exact hn2 _ _ ⟨rfl, rfl, fun _ z => c2 (decide_eq_true (congrArg Subtype.val z.2.1))⟩
            · exact hn2 _ _ ⟨rfl, rfl, fun _ z => c1 (decide_eq_true (congrArg Subtype.val z.1))⟩
          · exact hn2 _ _ ⟨rfl, rfl, fun z _ => c0 (decide_eq_true (by omega))⟩
        · rintro σ' H' ⟨rfl, rfl, nidi⟩
          refine ⟨_, rfl, .inl ⟨rfl, _, SqL.of el⟩, _, rfl, _, rfl, _, rfl, n, np x i, np y i, w2, w3, rfl, q2, q3, h16, fun H6 v s6 hv => ⟨(by show 2 ≤ sizeLine; decide), fun t ht => ?_⟩⟩
          have s7 := s6.trans (same_upd (o := .tup [.ref w1, .ref v]) ht)
          have el7 := s7 _ _ el
          have hv7 : TA' (L2.upd H6 t (.tup [.ref w1, .ref v])) v (Grp.mul (np x i) (np y i)).1 := hv.same (same_upd ht)
          have ht7 : L2.upd H6 t (.tup [.ref w1, .ref v]) t = some (.tup [.ref w1, .ref v]) := upd_same
          have s57 := s5.trans s7
          generalize L2.upd H6 t (.tup [.ref w1, .ref v]) = H7 at s7 el7 hv7 ht7 s57
          have kp : ∀ (q : Addr) (zs : List V), H7 q = some (.tup zs) → L2.upd H7 l (.lst (ps.map V.ref ++ [V.ref t])) q = some (.tup zs) := fun q zs e => by
            rw [upd_ne (ne_of e el7 (by intro z; cases z))]
            exact e
          have up : ∀ {q : Addr} {z : List Nat}, TA' H' q z → TA' (L2.upd H7 l (.lst (ps.map V.ref ++ [V.ref t]))) q z := fun {q z} hq => kp q _ (s7 _ _ hq)
          have pr8 : Prs (L2.upd H7 l (.lst (ps.map V.ref ++ [V.ref t]))) x y (ps ++ [t]) := ((pr.same s7).keep kp).snoc pl (kp _ _ ht7) (up q1) (kp _ _ hv7)
          have el8 : L2.upd H7 l (.lst (ps.map V.ref ++ [V.ref t])) l = some (.lst ((ps ++ [t]).map V.ref)) := by
            rw [upd_same, List.map_append]
            rfl
          have s8 : Same H (L2.upd H7 l (.lst (ps.map V.ref ++ [V.ref t]))) := same_updw s57 hlH
          refine ⟨l, _, _, rfl, rfl, el7, ?_, ?_⟩
          · rw [List.length_map]
            exact map_len_lt (by omega)
          have g8 := up hg5
          have c8 := up hc5
          have r1 := up q1
          have r2 := up q2
          have r3 := up q3
          generalize L2.upd H7 l (.lst (ps.map V.ref ++ [V.ref t])) = H8 at pr8 el8 s8 g8 c8 r1 r2 r3 ⊢
          refine ⟨_, rfl, _, rfl, n, np (Grp.mul x y) i, Grp.mul x y, w1, c, rfl, r1, c8, h16, fun H9 d1 s9 t1 => ?_⟩
          refine ⟨_, rfl, _, rfl, n, np x i, x, w2, a, rfl, r2.same s9, ha.same (s8.trans s9), h16, fun H10 d2 s10 t2 => ?_⟩
          have s90 := s9.trans s10
          refine ⟨_, rfl, _, rfl, n, np y i, y, w3, b, rfl, r3.same s90, hb.same (s8.trans s90), h16, fun H11 d3 s11 t3 => ?_⟩
          have s91 := s90.trans s11
          refine ⟨_, _, _, rfl, d1, d2, d3, _, ps ++ [t], rfl, s8.trans s91, g8.same s91, c8.same s91, t1.same (s10.trans s11), t2.same s11, t3, s91 _ _ el8, ?_, pr8.same s91, fun m m1 m2 => ?_⟩
          · rw [List.length_append, pl]
            rfl
          · by_cases z : m = i
            · subst z
              exact nidi m1
            · exact nid m m1 (by omega)
      · rintro σ H5 ⟨w1, w2, w3, u, ps, rfl, s5, hg5, hc5, q1, q2, q3, el, pl, pr, nid⟩
        exact hn _ _ ⟨w1, w2, w3, u, ps, rfl, s5, el, by omega, pr, by rw [pl]; exact nid, fun z => absurd z (by omega)⟩
    · rintro σ H5 ⟨w1, w2, w3, u, ps, rfl, s5, el, pl, pr, nid, idl⟩
      exact ⟨_, rfl, k H5 l ps s5 hlH el pl pr nid idl⟩
end
end BN
namespace BN
open PySem PySem.Spec PyProof.Rows L2
theorem lg {m : Int} (h0 : 0 ≤ m) (h : m ≤ 1000) : m.natAbs.log2 < 9000 := Nat.lt_of_le_of_lt (Nat.log2_le_self _) (by omega)
/-! ### pairs of tuples of counts, written out -/
def tInts : List Nat → TA
  | [] => tNil
  | i :: r => tCons (tC (.int (i : Nat))) (tInts r)
def tPr (p : List Nat × List Nat) : TE := tTup (tCons (tTup (tInts p.1)) (tCons (tTup (tInts p.2)) tNil))
def tPrs : List (List Nat × List Nat) → TA
  | [] => tNil
  | p :: r => tCons (tPr p) (tPrs r)
theorem ints_ok : ∀ (l : List Nat) {σ : L2.St} {H : Hp} {R : List V → Hp → Prop}, R (tv l) H → tInts l σ H R
  | [], _, _, _, h => h
  | i :: l, σ, H, R, h => ints_ok l (R := fun vs H2 => R (V.int (i : Nat) :: vs) H2) h
theorem pr_ok {p : List Nat × List Nat} {σ : L2.St} {H : Hp} {Q : VK} (h1 : p.1.length ≤ 1000) (h2 : p.2.length ≤ 1000) (h : ∀ (H' : Hp) (t a c : Addr), Same H H' → H' t = some (.tup [.ref a, .ref c]) → TA' H' a p.1 → TA' H' c p.2 → Q (.ref t) H') : tPr p σ H Q := by
  show tInts p.1 σ H _
  refine ints_ok _ ⟨by rw [tv_len]; exact sl9 h1, fun a ha => ?_⟩
  show tInts p.2 σ _ _
  refine ints_ok _ ⟨by rw [tv_len]; exact sl9 h2, fun c hc => ⟨(by show 2 ≤ sizeLine; decide), fun t ht => ?_⟩⟩
  have s3 := same_upd (o := .tup [.ref a, .ref c]) ht
  exact h _ t a c (((same_upd ha).trans (same_upd hc)).trans s3) upd_same ((show TA' _ a p.1 from upd_same).same ((same_upd hc).trans s3)) ((show TA' _ c p.2 from upd_same).same s3)
theorem prs_ok : ∀ (L : List (List Nat × List Nat)) {σ : L2.St} {H : Hp} {R : List V → Hp → Prop}, (∀ p ∈ L, p.1.length ≤ 1000 ∧ p.2.length ≤ 1000) →
    (∀ (H' : Hp) (vs : List V), Same H H' → vs.length = L.length → (∀ (j : Nat) (v : V), vs[j]? = some v → ∃ p ∈ L, ∃ t a c : Addr, v = .ref t ∧ H' t = some (.tup [.ref a, .ref c]) ∧ TA' H' a p.1 ∧ TA' H' c p.2) → R vs H') → tPrs L σ H R
  | [], _, H, _, _, h => h H [] (Same.refl _) rfl fun j v e => by cases e
  | p :: L, σ, H, R, hl, h => by
    have hp := hl p List.mem_cons_self
    show tPr p σ H (fun v H1 => tPrs L σ H1 fun vs H2 => R (v :: vs) H2)
    refine pr_ok hp.1 hp.2 fun H1 t a c s1 ht ha hc => ?_
    refine prs_ok L (fun q hq => hl q (List.mem_cons_of_mem _ hq)) fun H2 vs s2 hv hm => ?_
    refine h H2 (.ref t :: vs) (s1.trans s2) (by rw [List.length_cons, List.length_cons, hv]) fun j v e => ?_
    cases j with
    | zero =>
      refine ⟨p, List.mem_cons_self, t, a, c, (Option.some.inj e).symm, s2 _ _ ht, ha.same s2, hc.same s2⟩
    | succ j =>
      obtain ⟨q, hq, z⟩ := hm j v e
      exact ⟨q, List.mem_cons_of_mem _ hq, z⟩
/-- the couples that the law keeps in store -/
def L6 : List (List Nat × List Nat) := [([0, 3, 6, 2, 5, 7, 4, 1], [7, 6, 0, 3, 5, 1, 2, 4]), ([2, 0, 1, 3, 5, 6, 7, 4], [1, 3, 2, 0, 7, 6, 5, 4]), ([4, 3, 0, 5, 6, 1, 8, 7, 2], [3, 5, 0, 4, 6, 7, 8, 2, 1]), ([4, 3, 2, 0, 1, 5], [1, 3, 4, 2, 0, 5]), ([3, 1, 0, 4, 2], [1, 4, 0, 2, 3]), ([0, 3, 6, 5, 2, 1, 4], [6, 2, 5, 0, 4, 1, 3])]
theorem L6_ok : ∀ p ∈ L6, P p.1.length p.1 ∧ P p.1.length p.2 ∧ 1 ≤ p.1.length ∧ p.1.length ≤ 9 ∧ p.2.length ≤ 9 := by decide +kernel
def tSix : TE := fun σ H Q => ∀ (H' : Hp) (l : Addr) (vs : List V), Same H H' → H l = none → H' l = some (.lst vs) → vs.length = 6 →
  (∀ (j : Nat) (v : V), vs[j]? = some v → ∃ p ∈ L6, ∃ t a c : Addr, v = .ref t ∧ H' t = some (.tup [.ref a, .ref c]) ∧ TA' H' a p.1 ∧ TA' H' c p.2) → Q (.ref l) H'
theorem six_ok {σ : L2.St} {H : Hp} {Q : VK} (h : tSix σ H Q) : tLst (tPrs L6) σ H Q := by
  refine prs_ok L6 (fun p hp => ⟨by have := L6_ok p hp; omega, by have := L6_ok p hp; omega⟩) fun H' vs s hv hm => ⟨by rw [hv]; decide, fun l hl => ?_⟩
  refine h _ l vs (s.trans (same_upd hl)) (s.free hl) upd_same hv fun j v e => ?_
  obtain ⟨p, hp, t, a, c, e1, e2, e3, e4⟩ := hm j v e
  have s2 := same_upd (o := .lst vs) hl
  exact ⟨p, hp, t, a, c, e1, s2 _ _ e2, e3.same s2, e4.same s2⟩
/-! ### states renamed -/
theorem conj_at {n : Nat} (x p : Pm n) {s : Nat} (hs : s < n) : (Grp.mul (Grp.inv p) (Grp.mul x p)).at (p.at s) = p.at (x.at s) := by
  have e : (Grp.inv p).at (p.at s) = s := und_getD p.2 hs
  rw [Pm.at_mul _ _ (p.at_lt hs), e, Pm.at_mul _ _ hs]
theorem conj_eq {n : Nat} (x p : Pm n) {fl : List Nat} (hl : fl.length = n) (h : ∀ s, s < n → fl.getD (p.at s) 0 = p.at (x.at s)) : fl = (Grp.mul (Grp.inv p) (Grp.mul x p)).1 := by
  refine ext_getD hl (Grp.mul (Grp.inv p) (Grp.mul x p) : Pm n).2.len fun i hi => ?_
  obtain ⟨s, hs, e⟩ := p.2.surj hi
  have e' : p.at s = i := e
  have q := conj_at x p hs
  rw [e'] at q
  rw [← e', h s hs, ← q, e']
  rfl
end BN
namespace BN
open PySem PySem.Spec PyProof.Rows L2
section
variable {P' : Program} {w : World} {K : PySem.W.Frag} {mg : Str → Option Value} {base : Heap} {C : Addr}
/-! ### _law_couple -/
def spCouple : Sp := fun vs H Q _ => ∃ (d b : Addr), vs = [.ref d] ∧ Deal H d b ∧
  ∀ (H' : Hp) (t a c : Addr) (n M : Nat) (x y : Pm n), Deal H' d b → Sm d b H H' → 1 ≤ n → n ≤ 9 → 1 ≤ M → M ≤ 300 → Idle x y M → H' t = some (.tup [.ref a, .ref c]) → TA' H' a x.1 → TA' H' c y.1 → Q (.ref t) H'
theorem scCouple : FnScope ["_law_deal", "_law_turn", "_law_form", "_law_one", "_law_other", "_law_some", "_law_again", "_law_many", "_law_names", "_law_first", "_law_second", "_law_state"] ["_law_deal"] (defScope sLCouple) := ⟨rfl, rfl, rfl, by decide +kernel, rfl, by decide +kernel, by decide +kernel⟩
theorem rep0 (n : Nat) : (List.replicate n [V.int 0]).flatten = tv (List.replicate n 0) := by
  unfold tv
  rw [List.map_replicate]
  induction n with
  | zero => rfl
  | succ m ih =>
    rw [List.replicate_succ, List.replicate_succ, List.flatten_cons, ih]
    rfl
def pA : Pm 3 := ⟨[1, 2, 0], by decide +kernel⟩
def pB : Pm 3 := ⟨[0, 2, 1], by decide +kernel⟩
theorem pAB : Idle pA pB 6 := by
  refine ⟨?_, ?_, ?_⟩ <;> exact Subtype.ext (by decide +kernel)
theorem ok_couple {f : Addr} {fd : FuncData} (F : Fun K "_law_couple" "_law_couple" sLCouple f fd) (T : Tx mg) (DA : Def P' w K mg base CX0 1 "_law_any" ["_law_deal", "_law_bound"] spAny) (DO : Def P' w K mg base CX0 2 "_law_of" ["_law_deal", "_law_some"] spOf)
    (DM : Def P' w K mg base CX0 2 "_law_mixed" ["_law_deal", "_law_some"] spMixed) (DT : Def P' w K mg base CX0 1 "_law_then" ["_law_one", "_law_other"] spAfter) (DP : Def P' w K mg base CX0 1 "_law_piece" ["_law_form"] spPiece)
    (DK : Def P' w K mg base CX0 2 "_law_marks" ["_law_one", "_law_other", "_law_most"] spMarks) : FnOk P' w K mg base CX0 3 f fd ["_law_deal"] spCouple := by
  refine F.ok scCouple (fun vs H Q E h => ?_) (fun cdv A outer s H vs Q E hr h => ?_)
  · obtain ⟨d, b, rfl, _⟩ := h
    rfl
  · obtain ⟨d, b, rfl, hd, k⟩ := h
    have hr1 : Room 1 _ := hr.mono (by decide)
    have hr2 : Room 2 _ := hr.mono (by decide)
    refine ⟨_, pss_cons (ps_for PassesOwn.never rfl (pi_range1 (by rfl) T.rng (pa_cons pe_int pa_nil)) (pg_name (i := 1) scCouple.nd rfl (.inl rfl))
        (pss_cons (ps_set (i := 2) scCouple.nd rfl (.inl rfl) (pe_callD DA hr1 (by rfl) pass0 (pa_cons (pv 0) (pa_cons pe_int pa_nil))))
        (pss_cons (ps_if (pt_cmpR op_eq (pv 2) pe_int (nomark _)) (pss_one (ps_asg (pe_callD DO hr2 (by rfl) pass0 (pa_cons (pv 0) (pa_cons (PE.weak (pe_lst (pa_cons (pe_tup (pa_cons (pe_tup (pa_cons pe_int (pa_cons pe_int (pa_cons pe_int (pa_cons pe_int (pa_cons pe_int (pa_cons pe_int (pa_cons pe_int (pa_cons pe_int pa_nil))))))))) (pa_cons (pe_tup (pa_cons pe_int (pa_cons pe_int (pa_cons pe_int (pa_cons pe_int (pa_cons pe_int (pa_cons pe_int (pa_cons pe_int (pa_cons pe_int pa_nil))))))))) pa_nil))) (pa_cons (pe_tup (pa_cons (pe_tup (pa_cons pe_int (pa_cons pe_int (pa_cons pe_int (pa_cons pe_int (pa_cons pe_int (pa_cons pe_int (pa_cons pe_int (pa_cons pe_int pa_nil))))))))) (pa_cons (pe_tup (pa_cons pe_int (pa_cons pe_int (pa_cons pe_int (pa_cons pe_int (pa_cons pe_int (pa_cons pe_int (pa_cons pe_int (pa_cons pe_int pa_nil))))))))) pa_nil))) (pa_cons (pe_tup (pa_cons (pe_tup (pa_cons pe_int (pa_cons pe_int (pa_cons pe_int (pa_cons pe_int (pa_cons pe_int (pa_cons pe_int (pa_cons pe_int (pa_cons pe_int (pa_cons pe_int pa_nil)))))))))) (pa_cons (pe_tup (pa_cons pe_int (pa_cons pe_int (pa_cons pe_int (pa_cons pe_int (pa_cons pe_int (pa_cons pe_int (pa_cons pe_int (pa_cons pe_int (pa_cons pe_int pa_nil)))))))))) pa_nil))) (pa_cons (pe_tup (pa_cons (pe_tup (pa_cons pe_int (pa_cons pe_int (pa_cons pe_int (pa_cons pe_int (pa_cons pe_int (pa_cons pe_int pa_nil))))))) (pa_cons (pe_tup (pa_cons pe_int (pa_cons pe_int (pa_cons pe_int (pa_cons pe_int (pa_cons pe_int (pa_cons pe_int pa_nil))))))) pa_nil))) (pa_cons (pe_tup (pa_cons (pe_tup (pa_cons pe_int (pa_cons pe_int (pa_cons pe_int (pa_cons pe_int (pa_cons pe_int pa_nil)))))) (pa_cons (pe_tup (pa_cons pe_int (pa_cons pe_int (pa_cons pe_int (pa_cons pe_int (pa_cons pe_int pa_nil)))))) pa_nil))) (pa_cons (pe_tup (pa_cons (pe_tup (pa_cons pe_int (pa_cons pe_int (pa_cons pe_int (pa_cons pe_int (pa_cons pe_int (pa_cons pe_int (pa_cons pe_int pa_nil)))))))) (pa_cons (pe_tup (pa_cons pe_int (pa_cons pe_int (pa_cons pe_int (pa_cons pe_int (pa_cons pe_int (pa_cons pe_int (pa_cons pe_int pa_nil)))))))) pa_nil))) pa_nil))))))) (fun _ _ _ h => six_ok h)) pa_nil))) (pg_tup rfl (pgs_cons (pg_name (i := 3) scCouple.nd rfl (.inl rfl)) (pgs_cons (pg_name (i := 4) scCouple.nd rfl (.inl rfl)) pgs_nil)))))
          (pss_one (ps_if (pt_cmpR op_eq (pv 2) pe_int (nomark _)) (pss_cons (ps_set (i := 5) scCouple.nd rfl (.inl rfl) (pe_callD DP hr1 (by rfl) pass0 (pa_cons (pe_op op_add pe_int (pe_callD DA hr1 (by rfl) pass0 (pa_cons (pv 0) (pa_cons pe_int pa_nil)))) pa_nil)))
            (pss_cons (ps_par (i := 3) (j := 4) (by rfl) scCouple.nd rfl rfl (by decide) rfl rfl (pa_cons (pe_ix ix_list (pv 5) (pe_callD DA hr1 (by rfl) pass0 (pa_cons (pv 0) (pa_cons (pe_callB call_len_seq (by rfl) T.len boot_len (pa_cons (pv 5) pa_nil)) pa_nil))) (fun _ _ => rfl)) (pa_cons (pe_ix ix_list (pv 5) (pe_callD DA hr1 (by rfl) pass0 (pa_cons (pv 0) (pa_cons (pe_callB call_len_seq (by rfl) T.len boot_len (pa_cons (pv 5) pa_nil)) pa_nil))) (fun _ _ => rfl)) pa_nil)) (by rfl))
            (pss_one (ps_for PassesOwn.never rfl (pi_range1 (by rfl) T.rng (pa_cons (pe_callD DA hr1 (by rfl) pass0 (pa_cons (pv 0) (pa_cons pe_int pa_nil))) pa_nil)) (pg_name (i := 6) scCouple.nd rfl (.inl rfl))
              (pss_one (ps_par (i := 3) (j := 4) (by rfl) scCouple.nd rfl rfl (by decide) rfl rfl (pa_cons (pe_callD DT hr1 (by rfl) pass0 (pa_cons (pv 3) (pa_cons (pv 4) pa_nil))) (pa_cons (pe_callD DT hr1 (by rfl) pass0 (pa_cons (pe_callD DO hr2 (by rfl) pass0 (pa_cons (pv 0) (pa_cons (pv 5) pa_nil))) (pa_cons (pv 4) pa_nil))) pa_nil)) (by rfl)))))))
            (pss_cons (ps_set (i := 7) scCouple.nd rfl (.inl rfl) (pe_op op_add pe_int (pe_callD DA hr1 (by rfl) pass0 (pa_cons (pv 0) (pa_cons pe_int pa_nil)))))
            (pss_one (ps_par (i := 3) (j := 4) (by rfl) scCouple.nd rfl rfl (by decide) rfl rfl (pa_cons (pe_callTy call_tuple_of (by rfl) T.tup boot_tuple (pa_cons (pe_callD DM hr2 (by rfl) pass0 (pa_cons (pv 0) (pa_cons (pe_listRg rfl (by rfl) T.lst (prg_1 (by rfl) T.rng (pv 7))) pa_nil))) pa_nil)) (pa_cons (pe_callTy call_tuple_of (by rfl) T.tup boot_tuple (pa_cons (pe_callD DM hr2 (by rfl) pass0 (pa_cons (pv 0) (pa_cons (pe_listRg rfl (by rfl) T.lst (prg_1 (by rfl) T.rng (pv 7))) pa_nil))) pa_nil)) pa_nil)) (by rfl)))))))
        (pss_cons (ps_set (i := 8) scCouple.nd rfl (.inl rfl) (pe_callD DM hr2 (by rfl) pass0 (pa_cons (pv 0) (pa_cons (pe_listRg rfl (by rfl) T.lst (prg_1 (by rfl) T.rng (pe_callB call_len_seq (by rfl) T.len boot_len (pa_cons (pv 3) pa_nil)))) pa_nil))))
        (pss_cons (ps_par (i := 9) (j := 10) (by rfl) scCouple.nd rfl rfl (by decide) rfl rfl (pa_cons (pe_op op_rep (pe_lst (pa_cons pe_int pa_nil)) (pe_callB call_len_seq (by rfl) T.len boot_len (pa_cons (pv 8) pa_nil))) (pa_cons (pe_op op_rep (pe_lst (pa_cons pe_int pa_nil)) (pe_callB call_len_seq (by rfl) T.len boot_len (pa_cons (pv 8) pa_nil))) pa_nil)) (by rfl))
        (pss_cons (ps_for PassesOwn.never rfl (pi_range1 (by rfl) T.rng (pa_cons (pe_callB call_len_seq (by rfl) T.len boot_len (pa_cons (pv 8) pa_nil)) pa_nil)) (pg_name (i := 11) scCouple.nd rfl (.inl rfl))
          (pss_one (ps_asg (pe_tup (pa_cons (pe_ix ix_list (pv 8) (pe_ix ix_tup (pv 3) (pv 11) (fun _ _ => rfl)) (fun _ _ => rfl)) (pa_cons (pe_ix ix_list (pv 8) (pe_ix ix_tup (pv 4) (pv 11) (fun _ _ => rfl)) (fun _ _ => rfl)) pa_nil)))
            (pg_tup rfl (pgs_cons (pg_sub (pv 9) (pe_ix ix_list (pv 8) (pv 11) (fun _ _ => rfl)) set_list) (pgs_cons (pg_sub (pv 10) (pe_ix ix_list (pv 8) (pv 11) (fun _ _ => rfl)) set_list) pgs_nil))))))
        (pss_one (ps_if (pt_cmpR op_le (pe_callB call_len_seq (by rfl) T.len boot_len (pa_cons (pe_callD DK hr2 (by rfl) pass0 (pa_cons (pe_callTy call_tuple_of (by rfl) T.tup boot_tuple (pa_cons (pv 9) pa_nil)) (pa_cons (pe_callTy call_tuple_of (by rfl) T.tup boot_tuple (pa_cons (pv 10) pa_nil)) (pa_cons pe_int pa_nil)))) pa_nil)) pe_int (nomark _))
          (pss_one (ps_ret (pe_tup (pa_cons (pe_callTy call_tuple_of (by rfl) T.tup boot_tuple (pa_cons (pv 9) pa_nil)) (pa_cons (pe_callTy call_tuple_of (by rfl) T.tup boot_tuple (pa_cons (pv 10) pa_nil)) pa_nil))))) pss_nil))))))))
      (pss_one (ps_ret (pe_tup (pa_cons (pe_tup (pa_cons pe_int (pa_cons pe_int (pa_cons pe_int pa_nil)))) (pa_cons (pe_tup (pa_cons pe_int (pa_cons pe_int (pa_cons pe_int pa_nil)))) pa_nil))))), ?_⟩
    refine ⟨(6 : Int), rfl, by decide, by decide, ?_⟩
    refine for_range (lo := 0) (n := 6) (fun i σ H' => ∃ u1 u2 u3 u4 u5 u6 u7 u8 u9 u10 u11 : Option V, σ = [some (.ref d), u1, u2, u3, u4, u5, u6, u7, u8, u9, u10, u11] ∧ Deal H' d b ∧ Sm d b H H') ⟨_, _, _, _, _, _, _, _, _, _, _, rfl, hd, Sm.refl _⟩ ?_ ?_
    · rintro i σ H1 hi ⟨u1, u2, u3, u4, u5, u6, u7, u8, u9, u10, u11, rfl, dl1, sm1⟩
      refine ⟨_, rfl, d, b, 5, rfl, dl1, by decide, lg (by decide) (by decide), fun H2 r dl2 sm2 r0 r5 => ?_⟩
      have sm02 := sm1.trans sm2
      generalize hu1 : V.int (0 + (i : Nat)) = u1v
      clear hu1
      dsimp only
      -- the couple
      refine seq_by (fun σ' H' => ∃ (n : Nat) (x y : Pm n) (a c : Addr) (u5 u6 u7 : Option V), σ' = [some (.ref d), some u1v, some (.int r), some (.ref a), some (.ref c), u5, u6, u7, u8, u9, u10, u11] ∧ 1 ≤ n ∧ n ≤ 9 ∧ TA' H' a x.1 ∧ TA' H' c y.1 ∧ Deal H' d b ∧ Sm d b H H') (fun nx hn => ?_) ?_
      · refine ⟨_, rfl, rfl, _, rfl, ite2 (fun c0 => ?_) (fun c0 => ?_)⟩
        · -- from the store
          refine ⟨_, rfl, fun H3 l vs s3 hl el vl hv => ?_⟩
          obtain ⟨ld, lb⟩ := dl2.ne hl
          refine ⟨d, b, l, vs, rfl, dl2.same s3, el, ld, lb, by omega, by omega, fun H4 j v hj dl4 sm4 => ?_⟩
          obtain ⟨p, hp, t, a, c, rfl, e1, e2, e3⟩ := hv j v hj
          obtain ⟨p1, p2, p3, p4, p5⟩ := L6_ok p hp
          have td : t ≠ d ∧ t ≠ b := by
            obtain ⟨z, ns, d1, d2, _⟩ := dl2.same s3
            refine ⟨?_, ?_⟩
            · rintro rfl
              rw [e1] at d1
              cases d1
            · rintro rfl
              rw [e1] at d2
              cases d2
          refine ⟨t, _, rfl, SqT.of (sm4 _ _ td.1 td.2 e1), rfl, _, _, rfl, _, _, rfl, rfl, ?_⟩
          exact hn _ _ ⟨p.1.length, ⟨p.1, p1⟩, ⟨p.2, p2⟩, a, c, _, _, _, rfl, p3, p4, sm4.tup (dl2.same s3) e2, sm4.tup (dl2.same s3) e3, dl4, (sm02.trans (sm_same s3)).trans sm4⟩
        · refine ⟨_, rfl, rfl, _, rfl, ite2 (fun c1 => ?_) (fun c1 => ?_)⟩
          · -- of small pieces
            refine ⟨_, rfl, d, b, 7, rfl, dl2, by decide, lg (by decide) (by decide), fun H3 q dl3 sm3 q0 q7 => ⟨_, _, rfl, rfl, 3 + q, rfl, by omega, by omega, fun H4 l n x0 y0 a0 c0' s4 hl n1 n9 el ea ec => ?_⟩⟩
            obtain ⟨ld, lb⟩ := dl3.ne hl
            have dl4 := dl3.same s4
            have sm04 := (sm02.trans sm3).trans (sm_same s4)
            -- what stays
            have pick : ∀ (H' : Hp) (j : Nat) (v : V), [V.ref a0, V.ref c0'][j]? = some v → Sm d b H4 H' → ∃ (z : Pm n) (e : Addr), v = .ref e ∧ TA' H' e z.1 := fun H' j v hj sm => by
              match j, hj with
              | 0, hj => exact ⟨x0, a0, (Option.some.inj hj).symm, sm.tup dl4 ea⟩
              | 1, hj => exact ⟨y0, c0', (Option.some.inj hj).symm, sm.tup dl4 ec⟩
            refine ⟨_, rfl, _, rfl, _, rfl, l, _, rfl, .inl (SqL.of el), d, b, 2, rfl, dl4, by decide, lg (by decide) (by decide), fun H5 j1 dl5 sm5 j10 j12 => ?_⟩
            obtain ⟨j1, rfl⟩ : ∃ j : Nat, j1 = j := ⟨j1.toNat, by omega⟩
            have hj1 : j1 < [V.ref a0, V.ref c0'].length := (by show j1 < 2; omega)
            obtain ⟨x, a, ea1, ea2⟩ := pick H5 j1 _ (List.getElem?_eq_getElem hj1) sm5
            refine ⟨l, _, _, _, rfl, rfl, SqL.of (sm5 _ _ ld lb el), atI_nat (List.getElem?_eq_getElem hj1), ?_⟩
            rw [ea1]
            refine ⟨_, rfl, _, rfl, _, rfl, l, _, rfl, .inl (SqL.of (sm5 _ _ ld lb el)), d, b, 2, rfl, dl5, by decide, lg (by decide) (by decide), fun H6 j2 dl6 sm6 j20 j22 => ?_⟩
            obtain ⟨j2, rfl⟩ : ∃ j : Nat, j2 = j := ⟨j2.toNat, by omega⟩
            have hj2 : j2 < [V.ref a0, V.ref c0'].length := (by show j2 < 2; omega)
            have sm46 := sm5.trans sm6
            obtain ⟨y, c, ec1, ec2⟩ := pick H6 j2 _ (List.getElem?_eq_getElem hj2) sm46
            refine ⟨l, _, _, _, rfl, rfl, SqL.of (sm46 _ _ ld lb el), atI_nat (List.getElem?_eq_getElem hj2), ?_⟩
            rw [ec1]
            refine ⟨_, _, rfl, ?_⟩
            refine ⟨_, rfl, d, b, 3, rfl, dl6, by decide, lg (by decide) (by decide), fun H7 m dl7 sm7 m0 m3 => ⟨m, rfl, by omega, by omega, ?_⟩⟩
            have sm47 := sm46.trans sm7
            refine for_range (lo := 0) (n := m.toNat) (fun _ σ H' => ∃ (x y : Pm n) (a c : Addr) (u6 : Option V), σ = [some (.ref d), some u1v, some (.int r), some (.ref a), some (.ref c), some (.ref l), u6, u7, u8, u9, u10, u11] ∧ TA' H' a x.1 ∧ TA' H' c y.1 ∧ Deal H' d b ∧ Sm d b H4 H')
              ⟨x, y, a, c, _, rfl, (sm6.trans sm7).tup dl5 ea2, sm7.tup dl6 ec2, dl7, sm47⟩ ?_ ?_
            · rintro i σ H8 hi ⟨x, y, a, c, u6, rfl, ha, hc, dl8, sm8⟩
              refine ⟨_, rfl, _, rfl, n, x, y, a, c, rfl, ha, hc, by omega, fun H9 a' s9 ha' => ?_⟩
              have el9 := s9 _ _ (sm8 _ _ ld lb el)
              have dl9 := dl8.same s9
              refine ⟨_, rfl, _, rfl, d, b, l, _, rfl, dl9, el9, ld, lb, (by show 1 ≤ 2; decide), (by show 2 ≤ 1000; decide), fun H10 j v hj dl10 sm10 => ?_⟩
              have sm410 := (sm8.trans (sm_same s9)).trans sm10
              obtain ⟨z, e, rfl, he⟩ := pick H10 j v hj sm410
              refine ⟨_, rfl, n, z, y, e, c, rfl, he, sm10.tup dl9 (hc.same s9), by omega, fun H11 c' s11 hc' => ?_⟩
              exact ⟨_, _, rfl, Grp.mul x y, Grp.mul z y, a', c', _, rfl, (sm10.tup dl9 ha').same s11, hc', dl10.same s11, sm410.trans (sm_same s11)⟩
            · rintro σ H8 ⟨x, y, a, c, u6, rfl, ha, hc, dl8, sm8⟩
              exact hn _ _ ⟨n, x, y, a, c, _, _, _, rfl, n1, n9, ha, hc, dl8, sm04.trans sm8⟩
          · -- any two
            refine ⟨_, rfl, d, b, 6, rfl, dl2, by decide, lg (by decide) (by decide), fun H3 q dl3 sm3 q0 q6 => ⟨_, _, rfl, rfl, ?_⟩⟩
            obtain ⟨n, hnq⟩ : ∃ n : Nat, 1 + q = n := ⟨(1 + q).toNat, by omega⟩
            dsimp only
            rw [hnq]
            have n9 : 1 ≤ n ∧ n ≤ 6 := by omega
            refine ⟨_, rfl, _, rfl, n, rfl, RgOk.of_le (by omega) (by omega) (by omega) (by omega), fun p hp => ?_⟩
            have s4 := same_upd (o := .lst (rgV 0 (n : Nat))) hp
            refine ⟨d, b, p, List.range n, rfl, dl3.same s4, by rw [upd_same, rgV_nat], by rw [List.length_range]; omega, fun H5 q1 ys p1 e1 _ _ _ dl5 sm5 => ?_⟩
            refine ⟨q1, _, rfl, .inl ⟨SqL.of e1, fun a ha => ?_⟩⟩
            have s6 := same_upd (o := .tup (tv ys)) ha
            have dl6 := dl5.same s6
            have ea : TA' (L2.upd H5 a (.tup (tv ys))) a ys := upd_same
            have sm06 := ((sm02.trans sm3).trans (sm_same s4)).trans (sm5.trans (sm_same s6))
            generalize L2.upd H5 a (.tup (tv ys)) = H6 at s6 dl6 ea sm06 ⊢
            refine ⟨_, rfl, _, rfl, n, rfl, RgOk.of_le (by omega) (by omega) (by omega) (by omega), fun p' hp' => ?_⟩
            have s7 := same_upd (o := .lst (rgV 0 (n : Nat))) hp'
            refine ⟨d, b, p', List.range n, rfl, dl6.same s7, by rw [upd_same, rgV_nat], by rw [List.length_range]; omega, fun H8 q2 zs p2 e2 _ _ _ dl8 sm8 => ?_⟩
            refine ⟨q2, _, rfl, .inl ⟨SqL.of e2, fun c hc => ?_⟩⟩
            have s9 := same_upd (o := .tup (tv zs)) hc
            refine ⟨_, _, rfl, ?_⟩
            exact hn _ _ ⟨n, ⟨ys, p1⟩, ⟨zs, p2⟩, a, c, _, _, _, rfl, n9.1, by omega, (sm8.tup (dl6.same s7) (ea.same s7)).same s9, upd_same, dl8.same s9, (sm06.trans (sm_same s7)).trans (sm8.trans (sm_same s9))⟩
      · -- the states renamed
        clear dl2 sm2 sm02 sm1 dl1
        rintro σ H2 ⟨n, x, y, a, c, u5, u6, u7, rfl, n1, n9, ha, hc, dl2, sm2⟩
        have hx : (tv x.1).length = n := by rw [tv_len, x.2.len]
        refine ⟨_, rfl, _, rfl, a, _, rfl, .inr (SqT.of ha), n, by rw [hx], RgOk.of_le (by omega) (by omega) (by omega) (by omega), fun p hp => ?_⟩
        have s3 := same_upd (o := .lst (rgV 0 (n : Nat))) hp
        refine ⟨d, b, p, List.range n, rfl, dl2.same s3, by rw [upd_same, rgV_nat], by rw [List.length_range]; omega, fun H4 nm ys p1 e1 nd nb _ dl4 sm4 => ?_⟩
        have ha4 := sm4.tup (dl2.same s3) (ha.same s3)
        have hc4 := sm4.tup (dl2.same s3) (hc.same s3)
        have sm04 := (sm2.trans (sm_same s3)).trans sm4
        obtain ⟨pi, hpi⟩ : ∃ pi : Pm n, pi.1 = ys := ⟨⟨ys, p1⟩, rfl⟩
        have yl : (tv ys).length = n := by rw [tv_len, ← hpi, pi.2.len]
        -- [0] * len(names), twice
        refine ⟨(by show 1 ≤ sizeLine; decide), fun w1 hw1 => ?_⟩
        have s5 := same_upd (o := .lst [V.int 0]) hw1
        refine ⟨_, rfl, nm, _, rfl, .inl (SqL.of (s5 _ _ e1)), w1, _, [V.int 0], rfl, rfl, upd_same, by omega, by omega, ?_, fun f1 hf1 => ?_⟩
        · rw [yl]
          show 1 * _ ≤ sizeLine
          exact sl9 (by omega)
        have s6 := s5.trans (same_upd (o := .lst (List.replicate (((tv ys).length : Nat) : Int).toNat [V.int 0]).flatten) hf1)
        have ef1 : L2.upd (L2.upd H4 w1 (.lst [V.int 0])) f1 (.lst (List.replicate (((tv ys).length : Nat) : Int).toNat [V.int 0]).flatten) f1 = some (.lst (tv (List.replicate n 0))) := by
          rw [upd_same, yl, show ((n : Nat) : Int).toNat = n from rfl, rep0]
        have hf14 : H4 f1 = Option.none := s5.free hf1
        generalize L2.upd (L2.upd H4 w1 (.lst [V.int 0])) f1 (.lst (List.replicate (((tv ys).length : Nat) : Int).toNat [V.int 0]).flatten) = H6 at s6 ef1 ⊢
        refine ⟨(by show 1 ≤ sizeLine; decide), fun w2 hw2 => ?_⟩
        have s7 := same_upd (o := .lst [V.int 0]) hw2
        refine ⟨_, rfl, nm, _, rfl, .inl (SqL.of (s7 _ _ (s6 _ _ e1))), w2, _, [V.int 0], rfl, rfl, upd_same, by omega, by omega, ?_, fun f2 hf2 => ?_⟩
        · rw [yl]
          show 1 * _ ≤ sizeLine
          exact sl9 (by omega)
        have s8 := s7.trans (same_upd (o := .lst (List.replicate (((tv ys).length : Nat) : Int).toNat [V.int 0]).flatten) hf2)
        have ef2 : L2.upd (L2.upd H6 w2 (.lst [V.int 0])) f2 (.lst (List.replicate (((tv ys).length : Nat) : Int).toNat [V.int 0]).flatten) f2 = some (.lst (tv (List.replicate n 0))) := by
          rw [upd_same, yl, show ((n : Nat) : Int).toNat = n from rfl, rep0]
        have hf26 : H6 f2 = Option.none := s7.free hf2
        generalize L2.upd (L2.upd H6 w2 (.lst [V.int 0])) f2 (.lst (List.replicate (((tv ys).length : Nat) : Int).toNat [V.int 0]).flatten) = H8 at s8 ef2 ⊢
        have n12 : f1 ≠ f2 := ne_of_none ef1 hf26
        have s48 := s6.trans s8
        have hf24 : H4 f2 = Option.none := s6.free hf26
        refine ⟨_, _, rfl, ?_⟩
        dsimp only
        refine seq_by (fun σ' H' => ∃ (u11 : Option V), σ' = [some (.ref d), some u1v, some (.int r), some (.ref a), some (.ref c), u5, u6, u7, some (.ref nm), some (.ref f1), some (.ref f2), u11] ∧ Same H4 H' ∧ H' f1 = some (.lst (tv (Grp.mul (Grp.inv pi) (Grp.mul x pi)).1)) ∧ H' f2 = some (.lst (tv (Grp.mul (Grp.inv pi) (Grp.mul y pi)).1))) (fun nx hn => ?_) ?_
        · refine ⟨_, rfl, nm, _, rfl, .inl (SqL.of (s48 _ _ e1)), (n : Int), by rw [yl], by omega, by omega, ?_⟩
          refine for_range (lo := 0) (n := ((n : Nat) : Int).toNat) (fun i σ' H' => ∃ (u11 : Option V) (fl gl : List Nat), σ' = [some (.ref d), some u1v, some (.int r), some (.ref a), some (.ref c), u5, u6, u7, some (.ref nm), some (.ref f1), some (.ref f2), u11] ∧ Same H4 H' ∧ H' f1 = some (.lst (tv fl)) ∧ H' f2 = some (.lst (tv gl)) ∧
              fl.length = n ∧ gl.length = n ∧ (∀ s, s < i → fl.getD (pi.at s) 0 = pi.at (x.at s)) ∧ (∀ s, s < i → gl.getD (pi.at s) 0 = pi.at (y.at s)))
            ⟨_, _, _, rfl, s48, s8 _ _ ef1, ef2, List.length_replicate, List.length_replicate, fun s h => absurd h (Nat.not_lt_zero _), fun s h => absurd h (Nat.not_lt_zero _)⟩ ?_ ?_
          · rintro j σ' H9 hj ⟨u11, fl, gl, rfl, s9, e1', e2', fn, gn, hfl, hgl⟩
            have hjn : j < n := hj
            rw [Int.zero_add]
            have ha9 := ha4.same s9
            have hc9 := hc4.same s9
            have en := s9 _ _ e1
            have hxj := x.at_lt hjn
            have hyj := y.at_lt hjn
            have hpl : ys.length = n := by rw [← tv_len, yl]
            have gx : ∀ {i : Nat}, i < n → (tv ys)[i]? = some (V.int ((pi.at i : Nat) : Int)) := fun {i} hi => by
              have q := tv_get (l := ys) (i := i) (by rw [hpl]; exact hi)
              rw [q]
              unfold Pm.at
              rw [hpi]
            refine ⟨_, rfl, _, rfl, _, rfl, a, _, _, _, rfl, rfl, SqT.of ha9, atI_nat (j := j) (tv_get (by rw [x.2.len]; exact hjn)), nm, _, _, _, rfl, rfl, SqL.of en, atI_nat (j := x.at j) (gx hxj), ?_⟩
            refine ⟨_, rfl, _, rfl, _, rfl, c, _, _, _, rfl, rfl, SqT.of hc9, atI_nat (j := j) (tv_get (by rw [y.2.len]; exact hjn)), nm, _, _, _, rfl, rfl, SqL.of en, atI_nat (j := y.at j) (gx hyj), ?_⟩
            refine ⟨(by show 2 ≤ sizeLine; decide), fun t ht => ?_⟩
            have s10 := same_upd (o := .tup [V.int ((pi.at (x.at j) : Nat) : Int), V.int ((pi.at (y.at j) : Nat) : Int)]) ht
            have hpj := pi.at_lt hjn
            refine ⟨t, _, rfl, SqT.of upd_same, rfl, _, _, rfl, _, rfl, _, rfl, _, rfl, nm, _, _, _, rfl, rfl, SqL.of (s10 _ _ en), atI_nat (j := j) (gx hjn), f1, tv fl, _, pi.at j, rfl, rfl, s10 _ _ e1', ?_, ?_⟩
            · rw [tv_len]
              exact ixN_nat (by omega)
            have s11 := same_updw (o := .lst ((tv fl).set (pi.at j) (V.int ((pi.at (x.at j) : Nat) : Int)))) (s9.trans s10) hf14
            have e2'' : L2.upd (L2.upd H9 t (.tup [V.int ((pi.at (x.at j) : Nat) : Int), V.int ((pi.at (y.at j) : Nat) : Int)])) f1 (.lst ((tv fl).set (pi.at j) (V.int ((pi.at (x.at j) : Nat) : Int)))) f2 = some (.lst (tv gl)) := by
              rw [upd_ne (Ne.symm n12)]
              exact s10 _ _ e2'
            refine ⟨_, _, rfl, _, rfl, _, rfl, _, rfl, nm, _, _, _, rfl, rfl, SqL.of (s11 _ _ e1), atI_nat (j := j) (gx hjn), f2, tv gl, _, pi.at j, rfl, rfl, e2'', ?_, ?_⟩
            · rw [tv_len]
              exact ixN_nat (by omega)
            refine ⟨rfl, _, fl.set (pi.at j) (pi.at (x.at j)), gl.set (pi.at j) (pi.at (y.at j)), rfl, same_updw s11 hf24, ?_, ?_, ?_, ?_, fun s hs => ?_, fun s hs => ?_⟩
            · rw [upd_ne n12, upd_same, tv_set]
            · rw [upd_same, tv_set]
            · rw [List.length_set]
              exact fn
            · rw [List.length_set]
              exact gn
            · rw [getD_set (by omega)]
              by_cases e : s = j
              · rw [e, if_pos rfl]
              · rw [if_neg (fun q => e (pi.inj (by omega) hjn q))]
                exact hfl s (by omega)
            · rw [getD_set (by omega)]
              by_cases e : s = j
              · rw [e, if_pos rfl]
              · rw [if_neg (fun q => e (pi.inj (by omega) hjn q))]
                exact hgl s (by omega)
          · rintro σ' H9 ⟨u11, fl, gl, rfl, s9, e1', e2', fn, gn, hfl, hgl⟩
            refine hn _ _ ⟨_, rfl, s9, ?_, ?_⟩
            · rw [e1', conj_eq x pi fn hfl]
            · rw [e2', conj_eq y pi gn hgl]
        · rintro σ' H9 ⟨u11, rfl, s9, e1', e2'⟩
          generalize Grp.mul (Grp.inv pi) (Grp.mul x pi) = X at e1'
          generalize Grp.mul (Grp.inv pi) (Grp.mul y pi) = Y at e2'
          have dl9 := dl4.same s9
          have sm9 := sm04.trans (sm_same s9)
          refine ⟨_, rfl, f1, _, rfl, .inl ⟨SqL.of e1', fun g1 hg1 => ?_⟩⟩
          have s10 := same_upd (o := .tup (tv X.1)) hg1
          refine ⟨_, rfl, f2, _, rfl, .inl ⟨SqL.of (s10 _ _ e2'), fun g2 hg2 => ?_⟩⟩
          have s11 := s10.trans (same_upd (o := .tup (tv Y.1)) hg2)
          refine ⟨n, X, Y, g1, g2, rfl, (show TA' _ g1 X.1 from upd_same).same (same_upd hg2), upd_same, by omega, fun H12 l ps s12 hl el pl _ _ idl => ?_⟩
          have s912 := s11.trans s12
          refine ⟨l, _, rfl, .inl (SqL.of el), _, _, rfl, rfl, _, rfl, ite2 (fun hle => ?_) (fun hle => ?_)⟩
          · have hle' : ps.length ≤ 300 := by
              have q : ((ps.map V.ref).length : Int) ≤ 300 := of_decide_eq_true hle
              rw [List.length_map] at q
              omega
            obtain ⟨m1, hI⟩ := idl hle'
            refine ⟨_, rfl, f1, _, rfl, .inl ⟨SqL.of (s912 _ _ e1'), fun g3 hg3 => ?_⟩⟩
            have s13 := s912.trans (same_upd (o := .tup (tv X.1)) hg3)
            refine ⟨_, rfl, f2, _, rfl, .inl ⟨SqL.of (s13 _ _ e2'), fun g4 hg4 => ?_⟩⟩
            have s14 := s13.trans (same_upd (o := .tup (tv Y.1)) hg4)
            refine ⟨(by show 2 ≤ sizeLine; decide), fun t ht => ?_⟩
            have s15 := same_upd (o := .tup [V.ref g3, V.ref g4]) ht
            exact k _ t g3 g4 n ps.length X Y (dl9.same (s14.trans s15)) (sm9.trans (sm_same (s14.trans s15))) n1 n9 m1 hle' hI upd_same ((show TA' _ g3 X.1 from upd_same).same ((same_upd hg4).trans s15)) ((show TA' _ g4 Y.1 from upd_same).same s15)
          · exact ⟨_, _, _, _, _, _, _, _, _, _, _, rfl, dl9.same s912, sm9.trans (sm_same s912)⟩
    · rintro σ H1 ⟨u1, u2, u3, u4, u5, u6, u7, u8, u9, u10, u11, rfl, dl1, sm1⟩
      refine ⟨(by show 3 ≤ sizeLine; decide), fun g3 hg3 => ⟨(by show 3 ≤ sizeLine; decide), fun g4 hg4 => ⟨(by show 2 ≤ sizeLine; decide), fun t ht => ?_⟩⟩⟩
      have s1 := same_upd (o := .tup (tv pA.1)) hg3
      have s2 := s1.trans (same_upd (o := .tup (tv pB.1)) hg4)
      have s15 := same_upd (o := .tup [V.ref g3, V.ref g4]) ht
      exact k _ t g3 g4 3 6 pA pB (dl1.same (s2.trans s15)) (sm1.trans (sm_same (s2.trans s15))) (by decide) (by decide) (by decide) (by decide) pAB upd_same ((show TA' _ g3 pA.1 from upd_same).same ((same_upd hg4).trans s15)) ((show TA' _ g4 pB.1 from upd_same).same s15)
end
end BN
namespace BN
open PySem PySem.Spec PyProof.Rows L2
section
variable {X : Cx}
/-- '0' times a small count -/
def rMulS : R2 := fun x y H Q => ∃ k : Int, x = .str "0" ∧ y = .int k ∧ 1 ≤ k ∧ k ≤ 9 ∧ ∀ r : Str, Q (.str r) H
theorem op_mulS : OpR X (binaryOp .Mult) rMulS := by
  intro pins s σ H x y v u Q I rx ry h
  obtain ⟨k, rfl, rfl, h1, h9, q⟩ := h
  obtain ⟨t, rfl⟩ := rx
  obtain ⟨t', rfl⟩ := ry
  have cs : k = 1 ∨ k = 2 ∨ k = 3 ∨ k = 4 ∨ k = 5 ∨ k = 6 ∨ k = 7 ∨ k = 8 ∨ k = 9 := by omega
  rcases cs with rfl | rfl | rfl | rfl | rfl | rfl | rfl | rfl | rfl
  · exact PySem.P.mul_str (by decide) (fun _ _ => by decide) (fun _ _ => by decide) ⟨.str _, H, I, ⟨_, rfl⟩, q _⟩
  all_goals exact PySem.P.mul_str (by decide) (fun _ _ => by decide) (fun _ _ => by decide) ⟨by decide, .str _, H, I.tok _, ⟨_, rfl⟩, q _⟩
end
theorem catA_ok {K : PySem.W.Frag} {H : Hp} {a b : Addr} {xs ys : List V} {Q : VK} (ha : H a = some (.tup xs)) (hb : H b = some (.tup ys)) (hz : xs.length + ys.length ≤ 1000) (h : ∀ (H' : Hp) (r : Addr), Same H H' → H' r = some (.tup (xs ++ ys)) → Q (.ref r) H') : rCatA K (.ref a) (.ref b) H Q := by
  refine ⟨a, b, xs, ys, rfl, rfl, SqT.of ha, SqT.of hb, sl9 hz, fun e => ?_, fun _ e => ?_, fun _ _ p hp => h _ p (same_upd hp) upd_same⟩
  · subst e
    exact h H b (Same.refl _) hb
  · subst e
    refine h H a (Same.refl _) ?_
    rw [List.append_nil]
    exact ha
theorem cut_lo {xs : List V} {j : Nat} (h : j ≤ xs.length) : cutV xs none (some (j : Int)) = xs.take j := by
  unfold cutV
  rw [HT.sIx_none, HT.sIx_nat, List.drop_zero, Nat.min_eq_left h, Nat.sub_zero]
theorem cut_hi {xs : List V} {j : Nat} (h : j ≤ xs.length) : cutV xs (some (j : Int)) none = xs.drop j := by
  unfold cutV
  rw [HT.sIx_none, HT.sIx_nat, Nat.min_eq_left h, List.take_of_length_le (by rw [List.length_drop]; exact Nat.le_refl _)]
section
variable {P' : Program} {w : World} {K : PySem.W.Frag} {mg : Str → Option Value} {base : Heap} {C : Addr}
/-! ### _law_below -/
def marks (s : Int → Bool) (L : Nat) : List Bool := (List.range L).map fun j => s (j : Nat)
theorem marks_len (s : Int → Bool) (L : Nat) : (marks s L).length = L := by
  unfold marks
  rw [List.length_map, List.length_range]
theorem marks_cnt (s : Int → Bool) : ∀ L : Nat, ((marks s L).filter id).length = cnt s L
  | 0 => rfl
  | L + 1 => by
    have ih := marks_cnt s L
    unfold marks at ih ⊢
    rw [List.range_succ, List.map_append, List.filter_append, List.length_append, ih]
    show _ = cnt s L + _
    congr 1
    show (List.filter id [s (L : Nat)]).length = _
    cases s (L : Nat) <;> rfl
theorem marks_take (s : Int → Bool) {r L : Nat} (h : r ≤ L) : (marks s L).take r = marks s r := by
  unfold marks
  rw [← List.map_take, List.take_range, Nat.min_eq_left h]
theorem bv_take (bs : List Bool) (r : Nat) : (bv bs).take r = bv (bs.take r) := by
  unfold bv
  rw [List.map_take]
theorem bv_snoc (bs : List Bool) (b : Bool) : bv (bs ++ [b]) = bv bs ++ [V.bl b] := by
  unfold bv
  rw [List.map_append]
  rfl
theorem filter_id_succ {bs : List Bool} {i : Nat} (h : i < bs.length) : (bs.take (i + 1)).filter id = (bs.take i).filter id ++ (if bs.getD i false = true then [bs.getD i false] else []) := by
  rw [List.take_add_one, SB_get h, List.filter_append]
  congr 1
  cases bs.getD i false <;> rfl
def spLBelow : Sp := fun vs H Q _ => ∃ (l : Addr) (s : Int → Bool) (L : Nat) (c : Int), vs = [.ref l, .int c] ∧ H l = some (.lst (bv (marks s L))) ∧ 1 ≤ L ∧ L ≤ 301 ∧ ∀ H', Same H H' → Q (.int (far s L c)) H'
theorem scLBelow : FnScope ["_law_marks_here", "_law_n", "_law_rounds", "_law_rest", "_law_mark"] ["_law_marks_here", "_law_n"] (defScope sLBelow) := ⟨rfl, rfl, rfl, by decide +kernel, rfl, by decide +kernel, by decide +kernel⟩
theorem lc_marks {K : PySem.W.Frag} {a : Addr} {bs : List Bool} {σ : L2.St} {H1 : Hp} {D : Addr} {Qd : Hp → Prop} (hl : bs.length ≤ 301) (ha : H1 a = some (.lst (bv bs))) (hD : H1 D = none) (hw : ∀ x, wipe ((wipe σ [4]).set 4 x) [4] = wipe σ [4]) (hg : ∀ x, ((wipe σ [4]).set 4 x)[4]? = some x)
    (hd : ∀ H, Same H1 H → H D = some (.lst (bv (bs.filter id))) → Qd H) :
    ∃ W : Nat → Nat → Hp → Prop, (∃ m, W 0 m (upd H1 D (.lst []))) ∧ ∀ i m H, W i m H →
      ((Itl K a).stop i H ∧ Qd H) ∨ ((Itl K a).go i H ∧ ∃ Nx : Hp → Prop, (∀ H', Nx H' → ∃ m', m' < m ∧ W (i + 1) m' H') ∧ ∀ x H', (Itl K a).yld i H x H' → gName 4 x (wipe σ [4]) H' fun σ2 H2 => wipe σ2 [4] = wipe σ [4] ∧ tB (tVar 4) σ2 H2 fun b H3 =>
        if b = true then tVar 4 σ2 H3 fun y H4 => ∃ acc, H4 D = some (.lst acc) ∧ acc.length < sizeLine ∧ Nx (upd H4 D (.lst (acc ++ [y]))) else Nx H3) := by
  refine lc_list (K := K) (a := a) (xs := bv bs) (g := gName 4) (tt := tB (tVar 4)) (te := tVar 4) (fun i H' => Same H1 H' ∧ H' D = some (.lst (bv ((bs.take i).filter id)))) ⟨same_upd hD, upd_same⟩ (fun i H' _ h => SqL.of (h.1 _ _ ha)) ?_ ?_
  · rintro i v H2 hi ⟨s2, el⟩
    have hil : i < bs.length := by
      have q := (List.getElem?_eq_some_iff.mp hi).1
      rwa [bv_len] at q
    rw [bv_get hil] at hi
    cases hi
    rw [filter_id_succ hil]
    refine ⟨hw _, _, hg _, _, rfl, ite2 (fun hb => ?_) (fun hb => ?_)⟩
    · refine ⟨_, hg _, _, el, ?_, same_updw s2 hD, ?_⟩
      · rw [bv_len]
        exact map_len_lt (Nat.le_trans (List.length_filter_le _ _) (by rw [List.length_take]; omega))
      · rw [upd_same, if_pos hb, bv_snoc]
    · refine ⟨s2, ?_⟩
      rw [if_neg hb, List.append_nil]
      exact el
  · rintro H2 ⟨s2, el⟩
    rw [bv_len, List.take_length] at el
    exact hd H2 s2 el
theorem ok_lbelow {f : Addr} {fd : FuncData} (F : Fun K "_law_below" "_law_below" sLBelow f fd) (T : Tx mg) : FnOk P' w K mg base CX0 1 f fd ["_law_marks_here", "_law_n"] spLBelow := by
  refine F.ok scLBelow (fun vs H Q E h => ?_) (fun cdv A outer s H vs Q E hr h => ?_)
  · obtain ⟨l, s, L, c, rfl, _⟩ := h
    rfl
  · obtain ⟨l, sp, L, c, rfl, el, h1, h2, k⟩ := h
    refine ⟨_, pss_cons (ps_set (i := 2) scLBelow.nd rfl (.inl rfl) (pe_op op_fdiv (pv 1) (pe_callB call_len_seq (by rfl) T.len boot_len (pa_cons (pv 0) pa_nil))))
      (pss_cons (ps_set (i := 3) scLBelow.nd rfl (.inl rfl) (pe_op op_sub (pv 1) (pe_op op_mul (pv 2) (pe_callB call_len_seq (by rfl) T.len boot_len (pa_cons (pv 0) pa_nil)))))
      (pss_one (ps_ret (pe_op op_add (pe_op op_mul (pv 2) (pe_callB call_len_seq (by rfl) T.len boot_len (pa_cons (pe_lc (own := [("_law_mark", 4)]) (g := gName 4) rfl scLBelow.nd (pi_list (pv 0))
            (blkOk_by (N := ["_law_marks_here", "_law_n", "_law_rounds", "_law_rest", "_law_mark"]) (sc := defScope sLBelow) (by decide +kernel)) (fun _ _ _ _ _ => pg_name (i := 4) scLBelow.nd rfl (Or.inl rfl)) (fun _ _ _ _ _ => pts_one (pt_val (pv 4))) (fun _ _ _ _ _ => pv 4)) pa_nil)))
          (pe_callB call_len_seq (by rfl) T.len boot_len (pa_cons (pe_lc (own := [("_law_mark", 4)]) (g := gName 4) rfl scLBelow.nd (pi_list (pe_slice sl_list (pv 0) po_none (po_some (pv 3))))
            (blkOk_by (N := ["_law_marks_here", "_law_n", "_law_rounds", "_law_rest", "_law_mark"]) (sc := defScope sLBelow) (by decide +kernel)) (fun _ _ _ _ _ => pg_name (i := 4) scLBelow.nd rfl (Or.inl rfl)) (fun _ _ _ _ _ => pts_one (pt_val (pv 4))) (fun _ _ _ _ _ => pv 4)) pa_nil)))))), ?_⟩
    have bl : ((bv (marks sp L)).length : Int) = (L : Nat) := by rw [bv_len, marks_len]
    have hL : ((L : Nat) : Int) ≠ 0 := by omega
    have m0 := Int.emod_nonneg c hL
    have m1 := Int.emod_lt_of_pos c (show (0 : Int) < (L : Nat) by omega)
    refine ⟨_, rfl, _, rfl, l, _, rfl, .inl (SqL.of el), _, _, rfl, rfl, ⟨by rw [bl]; omega, by rw [bl]; omega⟩, ?_⟩
    rw [bl]
    refine ⟨_, rfl, _, rfl, _, rfl, l, _, rfl, .inl (SqL.of el), _, _, rfl, rfl, .inr ⟨by rw [bl]; omega, by rw [bl]; omega⟩, _, _, rfl, rfl, ?_⟩
    rw [bl]
    have er : c - c / (L : Nat) * (L : Nat) = (((c % (L : Nat)).toNat : Nat) : Int) := by
      have := Int.emod_add_mul_ediv c (L : Nat)
      rw [Int.mul_comm]
      omega
    dsimp only
    rw [er]
    have hrl : (c % (L : Nat)).toNat ≤ L := by omega
    unfold far at k
    generalize c / (L : Nat) = q at k ⊢
    generalize (c % (L : Nat)).toNat = r at k hrl ⊢
    refine ⟨_, rfl, _, rfl, l, rfl, ⟨_, SqL.of el⟩, fun D hD => ?_⟩
    refine lc_marks (by rw [marks_len]; exact h2) el hD (fun _ => rfl) (fun _ => rfl) (fun H2 s2 e2 => ?_)
    refine ⟨D, _, rfl, .inl (SqL.of e2), ?_⟩
    have c1 := cnt_le sp L
    rw [bv_len, marks_cnt]
    refine ⟨_, _, rfl, rfl, .inr ⟨by omega, by omega⟩, ?_⟩
    refine ⟨_, rfl, _, rfl, _, rfl, l, _, rfl, SqL.of (s2 _ _ el), fun p hp => ?_⟩
    rw [cut_lo (by rw [bv_len, marks_len]; exact hrl), bv_take, marks_take sp hrl]
    have s3 := s2.trans (same_upd (o := .lst (bv (marks sp r))) hp)
    refine ⟨p, rfl, ⟨_, SqL.of upd_same⟩, fun G hG => ?_⟩
    refine lc_marks (by rw [marks_len]; omega) upd_same hG (fun _ => rfl) (fun _ => rfl) (fun H4 s4 e4 => ?_)
    refine ⟨G, _, rfl, .inl (SqL.of e4), ?_⟩
    rw [bv_len, marks_cnt]
    exact ⟨_, _, rfl, rfl, k _ (s3.trans s4)⟩
/-! ### _law_count -/
def spCount : Sp := fun vs H Q _ => ∃ (d b : Addr) (L : Nat), vs = [.ref d, .int L] ∧ Deal H d b ∧ L ≤ 301 ∧ ∀ (H' : Hp) (i : Int), Deal H' d b → Sm d b H H' → -(10 ^ 29) ≤ i → i ≤ 10 ^ 29 → Q (.int i) H'
theorem scCount : FnScope ["_law_deal", "_law_many", "_law_form"] ["_law_deal", "_law_many"] (defScope sLCount) := ⟨rfl, rfl, rfl, by decide +kernel, rfl, by decide +kernel, by decide +kernel⟩
theorem ok_count {f : Addr} {fd : FuncData} (F : Fun K "_law_count" "_law_count" sLCount f fd) (T : Tx mg) (DA : Def P' w K mg base CX0 1 "_law_any" ["_law_deal", "_law_bound"] spAny) (DO : Def P' w K mg base CX0 2 "_law_of" ["_law_deal", "_law_some"] spOf) :
    FnOk P' w K mg base CX0 3 f fd ["_law_deal", "_law_many"] spCount := by
  refine F.ok scCount (fun vs H Q E h => ?_) (fun cdv A outer s H vs Q E hr h => ?_)
  · obtain ⟨d, b, L, rfl, _⟩ := h
    rfl
  · obtain ⟨d, b, L, rfl, dl, hL, k⟩ := h
    have hr1 : Room 1 _ := hr.mono (by decide)
    refine ⟨_, pss_cons (ps_set (i := 2) scCount.nd rfl (.inl rfl) (pe_callD DA hr1 (by rfl) pass0 (pa_cons (pv 0) (pa_cons pe_int pa_nil))))
      (pss_cons (ps_if (pt_cmpR op_eq (pv 2) pe_int (nomark _)) (pss_one (ps_ret (pe_op op_sub (pe_callD DA hr1 (by rfl) pass0 (pa_cons (pv 0) (pa_cons pe_int pa_nil))) pe_int))) pss_nil)
      (pss_cons (ps_if (pt_cmpR op_eq (pv 2) pe_int (nomark _)) (pss_one (ps_ret (pe_op op_sub (pe_op op_add (pe_op op_mul (pv 1) (pe_op op_sub (pe_callD DA hr1 (by rfl) pass0 (pa_cons (pv 0) (pa_cons pe_int pa_nil))) pe_int)) (pe_callD DA hr1 (by rfl) pass0 (pa_cons (pv 0) (pa_cons pe_int pa_nil)))) pe_int))) pss_nil)
      (pss_one (ps_ret (pe_op op_mul (pe_callD DO hr (by rfl) pass0 (pa_cons (pv 0) (pa_cons (pe_lst (pa_cons pe_int (pa_cons (pe_un un_neg pe_int) pa_nil))) pa_nil)))
        (pe_callD DA hr1 (by rfl) pass0 (pa_cons (pv 0) (pa_cons (pe_op op_pow pe_int pe_int) pa_nil)))))))), ?_⟩
    refine ⟨_, rfl, d, b, 3, rfl, dl, by decide, lg (by decide) (by decide), fun H1 r dl1 sm1 r0 r3 => ?_⟩
    refine ⟨_, rfl, rfl, _, rfl, ite2 (fun c0 => ?_) (fun c0 => ?_)⟩
    · refine ⟨_, rfl, d, b, 121, rfl, dl1, by decide, lg (by decide) (by decide), fun H2 q dl2 sm2 q0 q1 => ⟨_, _, rfl, rfl, k _ _ dl2 (sm1.trans sm2) (by omega) (by omega)⟩⟩
    · refine ⟨_, rfl, rfl, _, rfl, ite2 (fun c1 => ?_) (fun c1 => ?_)⟩
      · refine ⟨_, rfl, _, rfl, d, b, 7, rfl, dl1, by decide, lg (by decide) (by decide), fun H2 q dl2 sm2 q0 q1 => ⟨_, _, rfl, rfl, _, _, rfl, rfl, .inl ⟨by omega, by omega⟩, ?_⟩⟩
        refine ⟨_, rfl, d, b, 5, rfl, dl2, by decide, lg (by decide) (by decide), fun H3 z dl3 sm3 z0 z1 => ⟨_, _, rfl, rfl, _, _, rfl, rfl, ?_⟩⟩
        have b1 : ((L : Nat) : Int) * (q - 3) ≤ 301 * 3 := by
          by_cases hq : 0 ≤ q - 3
          · exact Int.mul_le_mul (by omega) (by omega) hq (by omega)
          · have : ((L : Nat) : Int) * (q - 3) ≤ 0 := Int.mul_nonpos_of_nonneg_of_nonpos (by omega) (by omega)
            omega
        have b2 : -(301 * 3) ≤ ((L : Nat) : Int) * (q - 3) := by
          by_cases hq : 0 ≤ q - 3
          · have : 0 ≤ ((L : Nat) : Int) * (q - 3) := Int.mul_nonneg (by omega) hq
            omega
          · have : ((L : Nat) : Int) * (3 - q) ≤ 301 * 3 := Int.mul_le_mul (by omega) (by omega) (by omega) (by omega)
            have e : ((L : Nat) : Int) * (q - 3) = -(((L : Nat) : Int) * (3 - q)) := by
              rw [← Int.mul_neg]
              congr 1
              omega
            omega
        exact k _ _ dl3 ((sm1.trans sm2).trans sm3) (by omega) (by omega)
      · refine ⟨_, rfl, _, rfl, (by show 2 ≤ sizeLine; decide), fun l hl => ?_⟩
        obtain ⟨ld, lb⟩ := dl1.ne hl
        have s2 := same_upd (o := .lst [V.int 1, V.int (-1)]) hl
        refine ⟨d, b, l, _, rfl, dl1.same s2, upd_same, ld, lb, (by show 1 ≤ 2; decide), (by show 2 ≤ 1000; decide), fun H3 j v hj dl3 sm3 => ?_⟩
        refine ⟨_, rfl, _, _, rfl, rfl, ⟨by decide, by decide, by decide⟩, ?_⟩
        refine ⟨d, b, 10 ^ 29, rfl, dl3, by decide, ?_, fun H4 q dl4 sm4 q0 q1 => ?_⟩
        · exact Nat.lt_of_lt_of_le (PySem.Flt.log2_lt_of (k := 100) (by decide) (by decide)) (by decide)
        have sm04 := (sm1.trans (sm_same s2)).trans (sm3.trans sm4)
        match j, hj with
        | 0, hj =>
          obtain rfl := Option.some.inj hj
          refine ⟨_, _, rfl, rfl, .inl ⟨by decide, by decide⟩, k _ _ dl4 sm04 ?_ ?_⟩
          · omega
          · omega
        | 1, hj =>
          obtain rfl := Option.some.inj hj
          refine ⟨_, _, rfl, rfl, .inl ⟨by decide, by decide⟩, k _ _ dl4 sm04 ?_ ?_⟩
          · omega
          · omega
end
end BN
namespace BN
open PySem PySem.Spec PyProof.Rows L2
theorem Sm.tupV {H H' : Hp} {d b a : Addr} {xs : List V} (s : Sm d b H H') (h : Deal H d b) (t : H a = some (.tup xs)) : H' a = some (.tup xs) := by
  obtain ⟨z, ns, h1, h2, _⟩ := h
  refine s _ _ ?_ ?_ t
  · rintro rfl
    rw [t] at h1
    cases h1
  · rintro rfl
    rw [t] at h2
    cases h2
theorem take_scal {l : List V} (h : ∀ v ∈ l, Scal v) (i : Nat) : ∀ v ∈ l.take i, Scal v := fun v hv => h v (List.mem_of_mem_take hv)
theorem drop_scal {l : List V} (h : ∀ v ∈ l, Scal v) (i : Nat) : ∀ v ∈ l.drop i, Scal v := fun v hv => h v (List.mem_of_mem_drop hv)
section
variable {P' : Program} {w : World} {K : PySem.W.Frag} {mg : Str → Option Value} {base : Heap} {C : Addr}
/-! ### _law_wrong -/
def spWrong : Sp := fun vs H Q _ => ∃ (d b : Addr) (n : Nat) (x : Pm n) (a : Addr), vs = [.ref d, .ref a] ∧ Deal H d b ∧ TA' H a x.1 ∧ 1 ≤ n ∧ n ≤ 9 ∧ ∀ (H' : Hp) (v : V), Deal H' d b → Sm d b H H' → Wrong H' n v → Q v H'
theorem scWrong : FnScope ["_law_deal", "_law_one", "_law_form", "_law_at"] ["_law_deal", "_law_one"] (defScope sLWrong) := ⟨rfl, rfl, rfl, by decide +kernel, rfl, by decide +kernel, by decide +kernel⟩
theorem ok_wrong {f : Addr} {fd : FuncData} (F : Fun K "_law_wrong" "_law_wrong" sLWrong f fd) (T : Tx mg) (DA : Def P' w K mg base CX0 1 "_law_any" ["_law_deal", "_law_bound"] spAny) (DO : Def P' w K mg base CX0 2 "_law_of" ["_law_deal", "_law_some"] spOf) :
    FnOk P' w K mg base CX0 3 f fd ["_law_deal", "_law_one"] spWrong := by
  refine F.ok scWrong (fun vs H Q E h => ?_) (fun cdv A outer s H vs Q E hr h => ?_)
  · obtain ⟨d, b, n, x, a, rfl, _⟩ := h
    rfl
  · obtain ⟨d, b, n, x, a, rfl, dl, ha, h1, h9, k⟩ := h
    have hr1 : Room 1 _ := hr.mono (by decide)
    refine ⟨_, pss_cons (ps_par (i := 2) (j := 3) (by rfl) scWrong.nd rfl rfl (by decide) rfl rfl (pa_cons (pe_callD DA hr1 (by rfl) pass0 (pa_cons (pv 0) (pa_cons pe_int pa_nil)))
          (pa_cons (pe_callD DA hr1 (by rfl) pass0 (pa_cons (pv 0) (pa_cons (pe_callB call_len_seq (by rfl) T.len boot_len (pa_cons (pv 1) pa_nil)) pa_nil))) pa_nil)) (by rfl))
      (pss_cons (ps_if (pt_cmpR op_eq (pv 2) pe_int (nomark _)) (pss_one (ps_ret (pe_callD DO hr (by rfl) pass0 (pa_cons (pv 0) (pa_cons (pe_lst (pa_cons pe_non (pa_cons (pe_callTy call_list_of (by rfl) T.lst boot_list (pa_cons (pv 1) pa_nil))
          (pa_cons pe_int (pa_cons (pe_op op_mulS pe_str (pe_callB call_len_seq (by rfl) T.len boot_len (pa_cons (pv 1) pa_nil))) pa_nil))))) pa_nil))))) pss_nil)
      (pss_cons (ps_if (pt_cmpR op_eq (pv 2) pe_int (nomark _)) (pss_one (ps_ret (pe_op op_catA (pe_op op_catA (pe_slice sl_tup (pv 1) po_none (po_some (pv 3)))
          (pe_tup (pa_cons (pe_callD DO hr (by rfl) pass0 (pa_cons (pv 0) (pa_cons (pe_lst (pa_cons (pe_un un_neg pe_int) (pa_cons (pe_callB call_len_seq (by rfl) T.len boot_len (pa_cons (pv 1) pa_nil)) (pa_cons pe_non (pa_cons pe_bl (pa_cons pe_bl (pa_cons pe_str pa_nil))))))) pa_nil))) pa_nil)))
          (pe_slice sl_tup (pv 1) (po_some (pe_op op_add (pv 3) pe_int)) po_none)))) pss_nil)
      (pss_one (ps_ret (pe_op op_catA (pv 1) (pe_tup (pa_cons (pe_callD DA hr1 (by rfl) pass0 (pa_cons (pv 0) (pa_cons (pe_callB call_len_seq (by rfl) T.len boot_len (pa_cons (pv 1) pa_nil)) pa_nil))) pa_nil))))))), ?_⟩
    have hx : (tv x.1).length = n := by rw [tv_len, x.2.len]
    have hxi : ((tv x.1).length : Int) = (n : Nat) := by rw [hx]
    refine ⟨_, rfl, d, b, 3, rfl, dl, by decide, lg (by decide) (by decide), fun H1 r dl1 sm1 r0 r3 => ?_⟩
    have ha1 : TA' H1 a x.1 := sm1.tup dl ha
    refine ⟨_, rfl, _, rfl, a, _, rfl, .inr (SqT.of ha1), d, b, (n : Nat), congrArg (fun z => [V.ref d, V.int z]) hxi, dl1, by omega, log_lt (by omega), fun H2 q dl2 sm2 q0 q1 => ?_⟩
    have ha2 : TA' H2 a x.1 := sm2.tup dl1 ha1
    have sm02 := sm1.trans sm2
    obtain ⟨j, rfl⟩ : ∃ j : Nat, q = j := ⟨q.toNat, by omega⟩
    have hj : j < n := by omega
    refine ⟨_, _, rfl, ?_⟩
    refine ⟨_, rfl, rfl, _, rfl, ite2 (fun c0 => ?_) (fun c0 => ?_)⟩
    · refine ⟨_, rfl, _, rfl, a, _, rfl, .inr (SqT.of ha2), fun p hp => ?_⟩
      have s3 := same_upd (o := .lst (tv x.1)) hp
      obtain ⟨pd, pb⟩ := dl2.ne hp
      refine ⟨_, rfl, a, _, rfl, .inr (SqT.of (ha2.same s3)), n, rfl, by rw [hxi], by omega, by omega, fun z => ⟨(by show 4 ≤ sizeLine; decide), fun l hl => ?_⟩⟩
      have s4 := s3.trans (same_upd (o := .lst [V.non, V.ref p, V.int 0, V.str z]) hl)
      obtain ⟨ld, lb⟩ := dl2.ne (s3.free hl)
      have ep : L2.upd (L2.upd H2 p (.lst (tv x.1))) l (.lst [V.non, V.ref p, V.int 0, V.str z]) p = some (.lst (tv x.1)) := by
        rw [upd_ne (ne_of_none upd_same hl)]
        exact upd_same
      refine ⟨d, b, l, _, rfl, dl2.same s4, upd_same, ld, lb, (by show 1 ≤ 4; decide), (by show 4 ≤ 1000; decide), fun H5 i v hi dl5 sm5 => ?_⟩
      refine k H5 v dl5 ((sm02.trans (sm_same s4)).trans sm5) ?_
      match i, hi with
      | 0, hi =>
        obtain rfl := Option.some.inj hi
        exact .non
      | 1, hi =>
        obtain rfl := Option.some.inj hi
        exact .lst (sm5 _ _ pd pb ep)
      | 2, hi =>
        obtain rfl := Option.some.inj hi
        exact .int 0
      | 3, hi =>
        obtain rfl := Option.some.inj hi
        exact .str z
    · refine ⟨_, rfl, rfl, _, rfl, ite2 (fun c1 => ?_) (fun c1 => ?_)⟩
      · refine ⟨_, rfl, _, rfl, _, rfl, a, _, rfl, SqT.of ha2, ?_, fun p hp => ?_⟩
        · rw [hx, HT.sIx_nat, HT.sIx_none]
          omega
        rw [cut_lo (by rw [hx]; omega)]
        have s3 := same_upd (o := .tup ((tv x.1).take j)) hp
        have dl3 := dl2.same s3
        have ha3 := ha2.same s3
        refine ⟨_, rfl, 1, rfl, _, rfl, a, _, rfl, .inr (SqT.of ha3), ?_⟩
        rw [hx]
        refine ⟨(by show 6 ≤ sizeLine; decide), fun l hl => ?_⟩
        have s4 := same_upd (o := .lst [V.int (-1), V.int (n : Nat), V.non, V.bl true, V.bl false, V.str "0"]) hl
        obtain ⟨ld, lb⟩ := dl3.ne hl
        refine ⟨d, b, l, _, rfl, dl3.same s4, upd_same, ld, lb, (by show 1 ≤ 6; decide), (by show 6 ≤ 1000; decide), fun H5 i v hi dl5 sm5 => ?_⟩
        have bad : Scal v ∧ isX n v = false := by
          match i, hi with
          | 0, hi =>
            obtain rfl := Option.some.inj hi
            exact ⟨.int _, rfl⟩
          | 1, hi =>
            obtain rfl := Option.some.inj hi
            refine ⟨.int _, ?_⟩
            show (decide ((0 : Int) ≤ (n : Nat)) && decide (((n : Nat) : Int) < (n : Nat))) = false
            rw [decide_eq_false (Int.lt_irrefl _), Bool.and_false]
          | 2, hi =>
            obtain rfl := Option.some.inj hi
            exact ⟨.non, rfl⟩
          | 3, hi =>
            obtain rfl := Option.some.inj hi
            exact ⟨.bl _, rfl⟩
          | 4, hi =>
            obtain rfl := Option.some.inj hi
            exact ⟨.bl _, rfl⟩
          | 5, hi =>
            obtain rfl := Option.some.inj hi
            exact ⟨.str _, rfl⟩
        have ep : H5 p = some (.tup ((tv x.1).take j)) := sm5.tupV (dl3.same s4) (s4 _ _ upd_same)
        have ha5 : TA' H5 a x.1 := sm5.tup (dl3.same s4) (ha3.same s4)
        have sm05 := (sm02.trans (sm_same (s3.trans s4))).trans sm5
        refine ⟨(by show 1 ≤ sizeLine; decide), fun t ht => ?_⟩
        have s6 := same_upd (o := .tup [v]) ht
        refine catA_ok (s6 _ _ ep) upd_same ?_ (fun H7 u s7 eu => ?_)
        · rw [List.length_take, hx]
          show min j n + 1 ≤ 1000
          omega
        have s67 := s6.trans s7
        refine ⟨_, rfl, _, rfl, _, _, rfl, rfl, ((j + 1 : Nat) : Int), rfl, a, _, rfl, SqT.of (ha5.same s67), ?_, fun p' hp' => ?_⟩
        · rw [hx, HT.sIx_nat, HT.sIx_none]
          omega
        have ec : cutV (tv x.1) (some ((j + 1 : Nat) : Int)) none = (tv x.1).drop (j + 1) := cut_hi (by rw [hx]; omega)
        rw [ec]
        have s8 := same_upd (o := .tup ((tv x.1).drop (j + 1))) hp'
        refine catA_ok (s8 _ _ eu) upd_same ?_ (fun H9 g s9 eg => ?_)
        · rw [List.length_append, List.length_take, List.length_drop, hx]
          show min j n + 1 + (n - (j + 1)) ≤ 1000
          omega
        have s59 := (s67.trans s8).trans s9
        refine k H9 _ (dl5.same s59) (sm05.trans (sm_same s59)) (.item eg ?_ ?_ ⟨v, ?_, bad.2⟩)
        · rw [List.length_append, List.length_append, List.length_take, List.length_drop, hx]
          show min j n + 1 + (n - (j + 1)) = n
          omega
        · intro z hz
          rcases List.mem_append.mp hz with hz | hz
          · rcases List.mem_append.mp hz with hz | hz
            · exact take_scal tv_scal j z hz
            · rw [List.mem_singleton.mp hz]
              exact bad.1
          · exact drop_scal tv_scal (j + 1) z hz
        · exact List.mem_append.mpr (.inl (List.mem_append.mpr (.inr (List.mem_singleton.mpr rfl))))
      · refine ⟨_, rfl, _, rfl, _, rfl, a, _, rfl, .inr (SqT.of ha2), d, b, (n : Nat), congrArg (fun z => [V.ref d, V.int z]) hxi, dl2, by omega, log_lt (by omega), fun H3 i dl3 sm3 i0 i1 => ?_⟩
        refine ⟨(by show 1 ≤ sizeLine; decide), fun t ht => ?_⟩
        have s4 := same_upd (o := .tup [V.int i]) ht
        refine catA_ok (s4 _ _ (sm3.tup dl2 ha2)) upd_same ?_ (fun H5 g s5 eg => ?_)
        · rw [hx]
          show n + 1 ≤ 1000
          omega
        have s45 := s4.trans s5
        refine k H5 _ (dl3.same s45) ((sm02.trans sm3).trans (sm_same s45)) (.len eg ?_)
        rw [List.length_append, hx]
        show n + 1 ≠ n
        omega
end
end BN
namespace BN
open PySem PySem.Spec PyProof.Rows L2
section
variable {X : Cx} {CX : CXT} {k : Nat} {x : Str} {ps : List Str} {sp : Sp} {E : L2.St → XK} {p pos : Pos} {e : Expr} {es : List Expr} {t : TA}
theorem pe_callDS (D : Def X.prog X.w X.K X.mg X.base CX k x ps sp) (hr : Room k X.A) (hg : Gl X x) (hx : ∀ σ, PassesAt CX X σ (E σ)) (ha : PA X (e :: es) t) (hdb : (x == ("__debug__" : Str)) = false := by decide)
    (he : starEach (e :: es) X.env = (false, eval e X.env) :: starEach es X.env := by rfl) (hpl : (backTo pos (starEach es X.env)).any (·.1) = false := by rfl) :
    PE X (.Call (.Name x p) (e :: es) [] pos) (tCallS sp E t) := by
  obtain ⟨f, fd, hm, hk, hb, F⟩ := D.ex
  exact pe_callS F hr hg hm hk hb hx ha hdb he hpl
end
section
variable {P' : Program} {w : World} {K : PySem.W.Frag} {mg : Str → Option Value} {base : Heap} {C fI : Addr}
/-! ### _law_asked -/
def spAsked : Sp := fun vs H Q _ => ∃ (n : Nat) (x : Pm n) (a : Addr) (v : V), vs = [.ref a, v] ∧ TA' H a x.1 ∧ 1 ≤ n ∧ n ≤ 9 ∧ Wrong H n v ∧ ∀ (H' : Hp) (l : Addr), Same H H' → H' l = some (.lst [.int 0, .int 0]) → Q (.ref l) H'
def tb1 (C : Addr) (W : WX) : TS := tDrop (tCallS (spNext C) (WE W) (tCons (tVar 0) (tCons (tVar 1) (tCons (tC (.int 5)) tNil))))
def tb2 (C : Addr) (W : WX) : TS := tDrop (tCallS (spBetween C) (WE W) (tCons (tVar 0) (tCons (tVar 1) (tCons (tC (.int 0)) (tCons (tC (.int 5)) tNil)))))
def ts1 (K : PySem.W.Frag) (C : Addr) (i : Nat) (a : Addr) (cls : Value) (d : Option Addr) : TS := tDrop (tBM K "list" rAppend (tVar 2) (tCons (tXf a cls d C "at" (tVar i)) tNil))
theorem scAsked : FnScope ["_law_one", "_law_other", "_law_found", "e", "how"] ["_law_one", "_law_other"] (defScope sLAsked) := ⟨rfl, rfl, rfl, by decide +kernel, rfl, by decide +kernel, by decide +kernel⟩
theorem ok_asked {f : Addr} {fd : FuncData} (F : Fun K "_law_asked" "_law_asked" sLAsked f fd) (IC : IcTxt P' K mg C fI) (DN : Def P' w K mg base (L2.CX P' w) 11 "next_suiting" ["one", "other", "count"] (spNext C))
    (DB : Def P' w K mg base (L2.CX P' w) 11 "suiting_between" ["one", "other", "low", "high"] (spBetween C)) : FnOk P' w K mg base CX0 12 f fd ["_law_one", "_law_other"] spAsked := by
  refine F.ok scAsked (fun vs H Q E h => ?_) (fun cdv A outer s H vs Q E hr h => ?_)
  · obtain ⟨n, x, a, v, rfl, _⟩ := h
    rfl
  · obtain ⟨n, x, a, v, rfl, ha, h1, h9, wr, k⟩ := h
    refine ⟨_, pss_cons (ps_set (i := 2) scAsked.nd rfl (.inl rfl) (pe_lst pa_nil))
      (pss_cons (ps_try_as (i := 3) (tb := tb1 C) (ts := ts1 K C 3) (Wout := fun _ _ _ _ => False) rfl rfl scAsked.nd rfl rfl ⟨rfl, by decide, .inl IC.gC⟩ takes0
        (fun W pn xe tk _ => pss_one (ps_expr (by exact (pe_callDS DN hr (by rfl) (fun σ => passAt tk σ) (by exact (pa_cons (pv 0) (pa_cons (pv 1) (pa_cons pe_int pa_nil))))))))
        (fun z oe cls d pn hz hf => pss_one (ps_expr (by exact pe_bm PySem.F.plainAttrs_list PySem.F.slot_list_append PySem.F.type_list_append mt_append (pv 2) (by exact pa_cons (pe_xf IC.xf IC.noN hz hf (pv 3)) pa_nil)))))
      (pss_cons (ps_try_as (i := 4) (tb := tb2 C) (ts := ts1 K C 4) (Wout := fun _ _ _ _ => False) rfl rfl scAsked.nd rfl rfl ⟨rfl, by decide, .inl IC.gC⟩ takes0
        (fun W pn xe tk _ => pss_one (ps_expr (by exact (pe_callDS DB hr (by rfl) (fun σ => passAt tk σ) (by exact (pa_cons (pv 0) (pa_cons (pv 1) (pa_cons pe_int (pa_cons pe_int pa_nil)))))))))
        (fun z oe cls d pn hz hf => pss_one (ps_expr (by exact pe_bm PySem.F.plainAttrs_list PySem.F.slot_list_append PySem.F.type_list_append mt_append (pv 2) (by exact pa_cons (pe_xf IC.xf IC.noN hz hf (pv 4)) pa_nil)))))
      (pss_one (ps_ret (pv 2))))), ?_⟩
    refine ⟨Nat.zero_le _, fun l hl => ?_⟩
    have s0 := same_upd (o := .lst []) hl
    have e0 : L2.upd H l (.lst []) l = some (.lst []) := upd_same
    generalize L2.upd H l (.lst []) = H0 at s0 e0 ⊢
    refine ⟨_, rfl, _, rfl, n, x, a, v, 5, rfl, ha.same s0, h1, by omega, .inr ⟨wr.same s0, fun H1 d s1 hd => ?_⟩⟩
    refine ⟨true, IC.te, fun _ z hz => ?_, fun q => Bool.noConfusion q⟩
    have e1 := s1 _ _ e0
    refine ⟨_, rfl, .inl ⟨rfl, _, SqL.of e1⟩, _, rfl, rfl, rfl, d, _, _, rfl, hd, rfl, l, _, _, rfl, rfl, e1, (by show 0 < sizeLine; decide), ?_⟩
    have s2 : Same H (L2.upd H1 l (.lst ([] ++ [V.int 0]))) := same_updw (s0.trans s1) hl
    have e2 : L2.upd H1 l (.lst ([] ++ [V.int 0])) l = some (.lst [.int 0]) := upd_same
    generalize L2.upd H1 l (.lst ([] ++ [V.int 0])) = H2 at s2 e2 ⊢
    refine ⟨_, rfl, _, rfl, n, x, a, v, 0, 5, rfl, ha.same s2, h1, by omega, .inr ⟨wr.same s2, fun H3 d' s3 hd' => ?_⟩⟩
    refine ⟨true, IC.te, fun _ z2 hz2 => ?_, fun q => Bool.noConfusion q⟩
    have e3 := s3 _ _ e2
    refine ⟨_, rfl, .inl ⟨rfl, _, SqL.of e3⟩, _, rfl, rfl, rfl, d', _, _, rfl, hd', rfl, l, _, _, rfl, rfl, e3, (by show 1 < sizeLine; decide), ?_⟩
    exact ⟨_, rfl, k _ l (same_updw (s2.trans s3) hl) upd_same⟩
end
end BN
namespace BN
open PySem PySem.Spec PyProof.Rows L2
/-! ### calls by keywords alone, in the turned order of the parameters -/
def gN : List Value → List Value → List Value
  | [], ws => ws.reverse
  | _ :: _, _ => []
def gV : List V → List V → List V
  | [], zs => zs.reverse
  | _ :: _, _ => []
theorem g_rel {vs : List V} {us : List Value} {zs : List V} {ws : List Value} (r : Vals vs us) (q : Vals zs ws) : Vals (gV vs zs) (gN us ws) := by
  cases r with
  | nil => exact q.reverse
  | cons a b => exact .nil
/-- a def that stands at a module's name, is called by keywords and keeps a promise -/
structure DefK (P : Program) (w : World) (K : PySem.W.Frag) (mg : Str → Option Value) (base : Heap) (CX : CXT) (k : Nat) (x : Str) (ps : List Str) (sp : Sp) : Prop where
  ex : ∃ (f : Addr) (fd : FuncData), mg x = some (.ref f) ∧ PySem.W.keepIn K (.ref f) = true ∧ KBinds K fd ps ps.reverse gN gV ∧ FnOk P w K mg base CX k f fd ps sp
section
variable {X : Cx} {CX : CXT} {k : Nat} {f : Addr} {fd : FuncData} {ps ks : List Str} {sp : Sp} {E : XK} {x : Str} {p pos : Pos} {kws : List Keyword} {tk : TA} {g : List Value → List Value → List Value} {gv : List V → List V → List V}
theorem pe_callK0 (F : FnOk X.prog X.w X.K X.mg X.base CX k f fd ps sp) (hr : Room k X.A) (hg : Gl X x) (hm : X.mg x = some (.ref f)) (hk : PySem.W.keepIn X.K (.ref f) = true) (hb : KBinds X.K fd ps ks g gv) (hx : Passes CX X E)
    (hkw : PK X kws tk) (hall : (backToKw pos (keywordEach kws X.env)).all (·.1.isSome) = true) (hks : (backToKw pos (keywordEach kws X.env)).filterMap (·.1) = ks) (hdb : (x == ("__debug__" : Str)) = false)
    (hpl : ((backTo pos (starEach [] X.env)).any (·.1) || (backToKw pos (keywordEach kws X.env)).any (·.1.isNone)) = false) :
    PE X (.Call (.Name x p) [] kws pos) (fun σ H Q => tk σ H fun zs H2 => sp (gv [] zs) H2 Q E) := by
  refine ⟨fun pins s σ H Q I h => ?_⟩
  refine wpAny_Call_Name_kw (ld_glob I hg hm ?_ hdb)
  refine PySem.W.callWith_KW0 (h₀ := X.base) I.ok.mod.kin hk hall (thn (hkw.run pos pins s σ H _ I h) fun ws s2 ⟨zs, H2, I2, rz, q2⟩ => ⟨I2.kIn, ?_⟩) hpl
  rw [hks]
  exact run_fnk F hr hb hx I2 .nil rz q2
theorem pe_callDK (D : DefK X.prog X.w X.K X.mg X.base CX k x ps sp) (hr : Room k X.A) (hg : Gl X x) (hx : Passes CX X E)
    (hkw : PK X kws tk) (hall : (backToKw pos (keywordEach kws X.env)).all (·.1.isSome) = true := by rfl) (hks : (backToKw pos (keywordEach kws X.env)).filterMap (·.1) = ps.reverse := by rfl) (hdb : (x == ("__debug__" : Str)) = false := by decide)
    (hpl : ((backTo pos (starEach [] X.env)).any (·.1) || (backToKw pos (keywordEach kws X.env)).any (·.1.isNone)) = false := by rfl) :
    PE X (.Call (.Name x p) [] kws pos) (fun σ H Q => tk σ H fun zs H2 => sp (gV [] zs) H2 Q E) := by
  obtain ⟨f, fd, hm, hk, hb, F⟩ := D.ex
  exact pe_callK0 F hr hg hm hk hb hx hkw hall hks hdb hpl
end
section
variable {P' : Program} {w : World} {K : PySem.W.Frag} {mg : Str → Option Value} {base : Heap} {C fI : Addr}
theorem kb_next {f : Addr} {fd : FuncData} (F : Fun K "next_suiting" "next_suiting" sNext f fd) : KBinds K fd ["one", "other", "count"] (["one", "other", "count"] : List Str).reverse gN gV := by
  obtain ⟨oc, od, kV, doc, pm, an, cdv, ct, osl, rfl, lk, hcd⟩ := F.ex
  refine ⟨fun s us ws _ hl => ?_, g_rel⟩
  cases us with
  | cons _ _ => cases hl
  | nil =>
    have hl' : ws.length = 3 := by
      rw [← List.length_reverse]
      exact hl
    match ws, hl' with
    | [a, b, c], _ => exact .of_eq rfl
theorem kb_between {f : Addr} {fd : FuncData} (F : Fun K "suiting_between" "suiting_between" sBetween f fd) : KBinds K fd ["one", "other", "low", "high"] (["one", "other", "low", "high"] : List Str).reverse gN gV := by
  obtain ⟨oc, od, kV, doc, pm, an, cdv, ct, osl, rfl, lk, hcd⟩ := F.ex
  refine ⟨fun s us ws _ hl => ?_, g_rel⟩
  cases us with
  | cons _ _ => cases hl
  | nil =>
    have hl' : ws.length = 4 := by
      rw [← List.length_reverse]
      exact hl
    match ws, hl' with
    | [a, b, c, d], _ => exact .of_eq rfl
end
/-! ### what the law reckons -/
theorem marks_succ (s : Int → Bool) (i : Nat) : marks s (i + 1) = marks s i ++ [s (i : Nat)] := by
  unfold marks
  rw [List.range_succ, List.map_append]
  rfl
theorem marks_get (s : Int → Bool) {r L : Nat} (h : r < L) : (marks s L).getD r false = s (r : Nat) := by
  unfold marks
  rw [List.getD_eq_getElem?_getD, List.getElem?_map, List.getElem?_range h]
  rfl
theorem lgr {i : Int} (h1 : -(10 ^ 40) < i) (h2 : i < 10 ^ 40) : i.natAbs.log2 < 1920 := Nat.lt_of_lt_of_le (PySem.Flt.log2_lt_of (k := 200) (by decide) (by omega)) (by decide)
theorem far_bd (s : Int → Bool) {L : Nat} (h1 : 1 ≤ L) (hL : L ≤ 301) {i : Int} (a : -(10 ^ 29) ≤ i) (b : i ≤ 10 ^ 29) : -(10 ^ 32) ≤ far s L i ∧ far s L i ≤ 10 ^ 32 := by
  unfold far
  have hL' : (0 : Int) < (L : Nat) := by omega
  have d1 : i / (L : Nat) ≤ 10 ^ 29 := by
    by_cases hi : 0 ≤ i
    · exact Int.le_trans (Int.ediv_le_self _ hi) b
    · have : i / (L : Nat) < 0 := Int.ediv_neg_of_neg_of_pos (by omega) hL'
      omega
  have d2 : -(10 ^ 29) ≤ i / (L : Nat) := by
    rw [Int.le_ediv_iff_mul_le hL']
    have : -(10 ^ 29 : Int) * (L : Nat) ≤ -(10 ^ 29) * 1 := by omega
    omega
  have c1 := cnt_le s L
  have m0 := Int.emod_nonneg i (show ((L : Nat) : Int) ≠ 0 by omega)
  have m1 := Int.emod_lt_of_pos i hL'
  have c2 := cnt_le s (i % (L : Nat)).toNat
  generalize i / (L : Nat) = q at d1 d2 ⊢
  generalize cnt s (i % (L : Nat)).toNat = e at c2 ⊢
  generalize cnt s L = c at c1 ⊢
  have p1 : q * (c : Nat) ≤ 10 ^ 29 * 301 := by
    by_cases hq : 0 ≤ q
    · exact Int.mul_le_mul d1 (by omega) (by omega) (by omega)
    · have : q * (c : Nat) ≤ 0 := Int.mul_nonpos_of_nonpos_of_nonneg (by omega) (by omega)
      omega
  have p2 : -(10 ^ 29 * 301) ≤ q * (c : Nat) := by
    by_cases hq : 0 ≤ q
    · have : 0 ≤ q * (c : Nat) := Int.mul_nonneg hq (by omega)
      omega
    · have : (-q) * (c : Nat) ≤ 10 ^ 29 * 301 := Int.mul_le_mul (by omega) (by omega) (by omega) (by omega)
      rw [Int.neg_mul] at this
      omega
  omega
theorem nxt_m1 {s : Int → Bool} {L : Nat} (h1 : 1 ≤ L) (h : Per s L) (h0 : s 0 = true) {m : Int} (hm : Nxt s (-1) m) : m = if s ((L - 1 : Nat) : Int) = true then -1 else 0 := by
  have e : s ((L - 1 : Nat) : Int) = s (-1) := by
    rw [← h (-1)]
    congr 1
    omega
  rw [e]
  split
  · rename_i c
    exact hm.uniq ⟨Int.le_refl _, c, fun j a b => absurd b (by omega)⟩
  · rename_i c
    refine hm.uniq ⟨by omega, h0, fun j a b => ?_⟩
    have : j = -1 := by omega
    rw [this]
    cases q : s (-1) with
    | false => rfl
    | true => exact absurd q c
end BN
namespace BN
open PySem PySem.Spec PyProof.Rows L2
section
variable {P' : Program} {w : World} {K : PySem.W.Frag} {mg : Str → Option Value} {base : Heap} {C fI : Addr}
/-! ### the law -/
def spLaw (K : PySem.W.Frag) : Sp := fun vs H Q _ => ∃ (a : Addr) (ns : List Int), vs = [.ref a] ∧ SqL K H a (ns.map V.int) ∧ ns.length ≤ 63 ∧ ∀ H', Q (.bl true) H'
theorem scLaw : FnScope ["_law_script", "_law_deal", "_law_turn", "_law_one", "_law_other", "_law_marks_here", "_law_many", "_law_again", "_law_n", "_law_m", "_law_later", "_law_told", "_law_due", "_law_pair", "_law_k"] ["_law_script"] (defScope sLaw) := ⟨rfl, rfl, rfl, by decide +kernel, rfl, by decide +kernel, by decide +kernel⟩
theorem ok_law {f : Addr} {fd : FuncData} (F : Fun K "law" "law" sLaw f fd) (T : Tx mg) (DD : Def P' w K mg base CX0 1 "_law_draw" ["_law_script", "_law_salt"] (spDraw K)) (DP : Def P' w K mg base CX0 3 "_law_couple" ["_law_deal"] spCouple)
    (DK : Def P' w K mg base CX0 2 "_law_marks" ["_law_one", "_law_other", "_law_most"] spMarks) (DC : Def P' w K mg base CX0 3 "_law_count" ["_law_deal", "_law_many"] spCount) (DNK : DefK P' w K mg base (L2.CX P' w) 11 "next_suiting" ["one", "other", "count"] (spNext C))
    (DTK : DefK P' w K mg base (L2.CX P' w) 11 "suiting_between" ["one", "other", "low", "high"] (spBetween C)) (DN : Def P' w K mg base (L2.CX P' w) 11 "next_suiting" ["one", "other", "count"] (spNext C)) (DT : Def P' w K mg base (L2.CX P' w) 11 "suiting_between" ["one", "other", "low", "high"] (spBetween C))
    (DS : Def P' w K mg base CX0 7 "suits" ["one", "other", "count"] spSuits) (DB : Def P' w K mg base CX0 1 "_law_below" ["_law_marks_here", "_law_n"] spLBelow) (DQ : Def P' w K mg base CX0 12 "_law_asked" ["_law_one", "_law_other"] spAsked)
    (DW : Def P' w K mg base CX0 3 "_law_wrong" ["_law_deal", "_law_one"] spWrong) : FnOk P' w K mg base CX0 13 f fd ["_law_script"] (spLaw K) := by
  refine F.ok scLaw (fun vs H Q E h => ?_) (fun cdv A outer s H vs Q E hr h => ?_)
  · obtain ⟨a, ns, rfl, _⟩ := h
    rfl
  · obtain ⟨a, ns, rfl, hs, l63, k⟩ := h
    have hr1 : Room 1 _ := hr.mono (by decide)
    have hr2 : Room 2 _ := hr.mono (by decide)
    have hr3 : Room 3 _ := hr.mono (by decide)
    have hr7 : Room 7 _ := hr.mono (by decide)
    have hr11 : Room 11 _ := hr.mono (by decide)
    refine ⟨_, pss_cons (ps_set (i := 1) scLaw.nd rfl (.inl rfl) (pe_callD DD hr1 (by rfl) pass0 (pa_cons (pv 0) (pa_cons pe_int pa_nil))))
      (pss_cons (ps_for PassesOwn.never rfl (pi_range1 (by rfl) T.rng (pa_cons pe_int pa_nil)) (pg_name (i := 2) scLaw.nd rfl (.inl rfl))
        (pss_cons (ps_asg (pe_callD DP hr3 (by rfl) pass0 (pa_cons (pv 1) pa_nil)) (pg_tup rfl (pgs_cons (pg_name (i := 3) scLaw.nd rfl (.inl rfl)) (pgs_cons (pg_name (i := 4) scLaw.nd rfl (.inl rfl)) pgs_nil))))
        (pss_cons (ps_set (i := 5) scLaw.nd rfl (.inr rfl) (pe_lc (own := [("_law_pair", 13)]) (g := gName 13) rfl scLaw.nd (pi_list (pe_callD DK hr2 (by rfl) pass0 (pa_cons (pv 3) (pa_cons (pv 4) (pa_cons pe_int pa_nil))))) (blkOk_by (N := ["_law_script", "_law_deal", "_law_turn", "_law_one", "_law_other", "_law_marks_here", "_law_many", "_law_again", "_law_n", "_law_m", "_law_later", "_law_told", "_law_due", "_law_pair", "_law_k"]) (sc := defScope sLaw) (by decide +kernel)) (fun _ _ _ _ _ => pg_name (i := 13) scLaw.nd rfl (Or.inl rfl)) (fun _ _ _ _ _ => pts_nil) (fun _ _ _ _ _ => pe_cmpR (r := rEqT K) (by exact op_eqT hr.units) (pe_ix (r := rIxT K) ix_tup (pv 13) pe_int (fun _ _ => rfl)) (pe_ix (r := rIxT K) ix_tup (pv 13) pe_int (fun _ _ => rfl)) (nomark _))))
        (pss_cons (ps_set (i := 6) scLaw.nd rfl (.inr rfl) (pe_callB call_len_seq (by rfl) T.len boot_len (pa_cons (pv 5) pa_nil)))
        (pss_cons (ps_for PassesOwn.never rfl (pi_range1 (by rfl) T.rng (pa_cons pe_int pa_nil)) (pg_name (i := 7) scLaw.nd rfl (.inl rfl))
          (pss_cons (ps_asg (pe_tup (pa_cons (pe_callD DC hr3 (by rfl) pass0 (pa_cons (pv 1) (pa_cons (pv 6) pa_nil))) (pa_cons (pe_callD DC hr3 (by rfl) pass0 (pa_cons (pv 1) (pa_cons (pv 6) pa_nil))) pa_nil))) (pg_tup rfl (pgs_cons (pg_name (i := 8) scLaw.nd rfl (.inr rfl)) (pgs_cons (pg_name (i := 9) scLaw.nd rfl (.inl rfl)) pgs_nil))))
          (pss_cons (ps_setLc (i := 10) (own := [("_law_k", 14)]) (g := gName 14) rfl scLaw.nd rfl rfl (sw_true rfl rfl rfl (by decide +kernel)) (pi_range1 (by rfl) T.rng (pa_cons (pv 6) pa_nil)) (blkOk_by (N := ["_law_script", "_law_deal", "_law_turn", "_law_one", "_law_other", "_law_marks_here", "_law_many", "_law_again", "_law_n", "_law_m", "_law_later", "_law_told", "_law_due", "_law_pair", "_law_k"]) (sc := defScope sLaw) (by decide +kernel)) (fun _ _ _ _ _ => pg_name (i := 14) scLaw.nd rfl (Or.inl rfl)) (fun _ _ _ _ _ => pts_one (pt_val (pe_ix (r := rIxL K) ix_list (pv 5) (pe_op op_mod (pe_callTy call_int1 (by rfl) T.int boot_int (pa_cons (pe_op op_add (pv 8) (pv 14)) pa_nil)) (pv 6)) (fun _ _ => rfl)))) (fun _ _ _ _ _ => pv 14))
          (pss_cons (ps_set (i := 11) scLaw.nd rfl (.inl rfl) (pe_callDK DNK hr11 (by rfl) passL (pk_cons (pv 8) (pk_cons (pv 4) (pk_cons (pv 3) pk_nil)))))
          (pss_cons (ps_if (pw_or (pt_cmpR op_ne (pe_callB SkE.call_repr_int (by rfl) T.repr (by decide +kernel) (pa_cons (pv 11) pa_nil)) (pe_callB SkE.call_repr_int (by rfl) T.repr (by decide +kernel) (pa_cons (pe_op op_add (pv 8) (pe_ix ix_list (pv 10) pe_int (fun _ _ => rfl))) pa_nil)) (nomark _)) (pw_or1 (pt_cmpR op_notBl (pe_callD DS hr7 (by rfl) pass0 (pa_cons (pv 3) (pa_cons (pv 4) (pa_cons (pv 11) pa_nil)))) pe_bl (nomark _)))).pt (pss_one (ps_ret pe_bl)) pss_nil)
          (pss_cons (ps_set (i := 12) scLaw.nd rfl (.inl rfl) (pe_callB (call_max2 rfl) (by rfl) T.max (by decide +kernel) (pa_cons pe_int (pa_cons (pe_op op_sub (pe_callD DB hr1 (by rfl) pass0 (pa_cons (pv 5) (pa_cons (pv 9) pa_nil))) (pe_callD DB hr1 (by rfl) pass0 (pa_cons (pv 5) (pa_cons (pv 8) pa_nil)))) pa_nil))))
          (pss_one (ps_if (pt_cmpR op_ne (pe_callB SkE.call_repr_int (by rfl) T.repr (by decide +kernel) (pa_cons (pe_callDK DTK hr11 (by rfl) passL (pk_cons (pv 9) (pk_cons (pv 8) (pk_cons (pv 4) (pk_cons (pv 3) pk_nil))))) pa_nil)) (pe_callB SkE.call_repr_int (by rfl) T.repr (by decide +kernel) (pa_cons (pv 12) pa_nil)) (nomark _)) (pss_one (ps_ret pe_bl)) pss_nil))))))))
        (pss_cons (ps_if (pt_cmpR (op_neL hr.units) (pe_callD DQ hr (by rfl) pass0 (pa_cons (pv 3) (pa_cons (pe_callD DW hr3 (by rfl) pass0 (pa_cons (pv 1) (pa_cons (pv 3) pa_nil))) pa_nil))) (pe_lst (pa_cons pe_int (pa_cons pe_int pa_nil))) (nomark _)) (pss_one (ps_ret pe_bl)) pss_nil)
        (pss_one (ps_if (pw_or (pt_cmpR op_ne (pe_callD DT hr11 (by rfl) passL (pa_cons (pv 3) (pa_cons (pv 4) (pa_cons (pv 8) (pa_cons (pv 8) pa_nil))))) pe_int (nomark _)) (pw_or1 (pt_cmpR op_ne (pe_callB SkE.call_repr_int (by rfl) T.repr (by decide +kernel) (pa_cons (pe_callD DN hr11 (by rfl) passL (pa_cons (pv 3) (pa_cons (pv 4) (pa_cons (pe_un un_neg pe_int) pa_nil)))) pa_nil)) (pe_callB SkE.call_repr_int (by rfl) T.repr (by decide +kernel) (pa_cons (pe_ifExp (pt_val (pe_ix ix_list (pv 5) (pe_un un_neg pe_int) (fun _ _ => rfl))) (pe_un un_neg pe_int) pe_int) pa_nil)) (nomark _)))).pt (pss_one (ps_ret pe_bl)) pss_nil))))))))
      (pss_one (ps_ret pe_bl))), ?_⟩
    refine ⟨_, rfl, a, ns, 40, rfl, hs, l63, by decide, by decide, fun H1 d b s1 dl1 => ?_⟩
    refine ⟨(2 : Int), rfl, by decide, by decide, ?_⟩
    refine for_range (lo := 0) (n := 2) (fun _ σ H' => ∃ u2 u3 u4 u5 u6 u7 u8 u9 u10 u11 u12 u13 u14 : Option V, σ = [some (.ref a), some (.ref d), u2, u3, u4, u5, u6, u7, u8, u9, u10, u11, u12, u13, u14] ∧ Deal H' d b) ⟨_, _, _, _, _, _, _, _, _, _, _, _, _, rfl, dl1⟩ ?_ ?_
    · rintro i σ H2 hi ⟨u2, u3, u4, u5, u6, u7, u8, u9, u10, u11, u12, u13, u14, rfl, dl2⟩
      generalize hu2 : V.int (0 + (i : Nat)) = v2
      clear hu2
      -- the couple
      refine ⟨_, rfl, d, b, rfl, dl2, fun H3 t p q n M0 x y dl3 sm3 n1 n9 m1 m300 hM et ex ey => ?_⟩
      have tnb : t ≠ d ∧ t ≠ b := by
        obtain ⟨z, zs, d1, d2, _⟩ := dl3
        refine ⟨?_, ?_⟩
        · rintro rfl
          rw [et] at d1
          cases d1
        · rintro rfl
          rw [et] at d2
          cases d2
      refine ⟨t, _, rfl, SqT.of et, rfl, _, _, rfl, _, _, rfl, rfl, ?_⟩
      -- its marks
      refine ⟨_, rfl, _, rfl, n, x, y, p, q, rfl, ex, ey, by omega, fun H4 l ps s4 hl el pl pr nid idl => ?_⟩
      have hL : ps.length ≤ 300 := by
        by_cases c : ps.length ≤ 300
        · exact c
        · exact absurd hM (nid M0 m1 (by omega))
      obtain ⟨L1, hI⟩ := idl hL
      have dl4 := dl3.same s4
      have ex4 := ex.same s4
      have ey4 := ey.same s4
      clear nid idl hM m1 m300 s4 hl
      refine ⟨l, rfl, ⟨_, SqL.of el⟩, fun D hD => ?_⟩
      obtain ⟨Dd, Db⟩ := dl4.ne hD
      refine lc_list (K := K) (a := l) (xs := ps.map V.ref) (fun i H' => Same H4 H' ∧ H' D = some (.lst (bv (marks (sub x y) i)))) ⟨same_upd hD, upd_same⟩ (fun i H' _ h => SqL.of (h.1 _ _ el)) ?_ ?_
      · rintro j v H5 hj ⟨s5, eD⟩
        rw [List.getElem?_map] at hj
        cases hq : ps[j]? with
        | none =>
          rw [hq] at hj
          cases hj
        | some r =>
          rw [hq] at hj
          obtain rfl := Option.some.inj hj
          have hjl := (List.getElem?_eq_some_iff.mp hq).1
          obtain ⟨e1, e2, h0, h1, h2⟩ := pr.same s5 j r hq
          refine ⟨rfl, ?_⟩
          refine ⟨_, rfl, r, _, 0, _, rfl, rfl, SqT.of h0, atI_nat (j := 0) rfl, _, rfl, r, _, 1, _, rfl, rfl, SqT.of h0, atI_nat (j := 1) rfl, e1, e2, _, _, rfl, rfl, SqT.of h1, SqT.of h2, ?_⟩
          refine ⟨_, eD, ?_, same_updw s5 hD, ?_⟩
          · rw [bv_len, marks_len]
            exact map_len_lt (by omega)
          · rw [upd_same, marks_succ, bv_snoc, pm_eq, sub_nat]
      · rintro H5 ⟨s5, eD⟩
        rw [List.length_map] at eD
        have dl5 := dl4.same s5
        have ex5 := ex4.same s5
        have ey5 := ey4.same s5
        clear pr el pl
        generalize hLp : ps.length = L at eD hL L1 hI
        have per : Per (sub x y) L := rd_per hI.rd
        have lenD : ((bv (marks (sub x y) L)).length : Int) = (L : Nat) := by rw [bv_len, marks_len]
        refine ⟨_, rfl, D, _, rfl, .inl (SqL.of eD), ?_⟩
        rw [lenD]
        dsimp only
        -- the counts
        refine seq_by (fun σ H' => ∃ (u7 : Option V) (z : Int) (u9 u10 u11 u12 u13 u14 : Option V), σ = [some (.ref a), some (.ref d), some v2, some (.ref p), some (.ref q), some (.ref D), some (.int (L : Nat)), u7, some (.int z), u9, u10, u11, u12, u13, u14] ∧ Deal H' d b ∧ Sm d b H5 H') (fun nx hn => ?_) ?_
        · refine ⟨(4 : Int), rfl, by decide, by decide, ?_⟩
          refine for_range (lo := 0) (n := 4) (fun i σ H' => ∃ u7 u8 u9 u10 u11 u12 u13 u14 : Option V, σ = [some (.ref a), some (.ref d), some v2, some (.ref p), some (.ref q), some (.ref D), some (.int (L : Nat)), u7, u8, u9, u10, u11, u12, u13, u14] ∧ Deal H' d b ∧ Sm d b H5 H' ∧ (1 ≤ i → ∃ z : Int, u8 = some (.int z)))
            ⟨_, _, _, _, _, _, _, _, rfl, dl5, Sm.refl _, fun z => absurd z (by decide)⟩ ?_ ?_
          · rintro i' σ H6 hi' ⟨u7, u8, u9, u10, u11, u12, u13, u14, rfl, dl6, sm6, _⟩
            generalize hu7 : V.int (0 + (i' : Nat)) = v7
            clear hu7
            refine ⟨_, rfl, _, rfl, d, b, L, rfl, dl6, by omega, fun H7 nn dl7 sm7 a1 a2 => ?_⟩
            refine ⟨_, rfl, _, rfl, d, b, L, rfl, dl7, by omega, fun H8 mm dl8 sm8 b1 b2 => ?_⟩
            refine ⟨(by show 2 ≤ sizeLine; decide), fun t' ht' => ?_⟩
            have sm08 := sm6.trans (sm7.trans sm8)
            have s9 := same_upd (o := .tup [V.int nn, V.int mm]) ht'
            refine ⟨t', _, rfl, SqT.of upd_same, rfl, _, _, rfl, _, _, rfl, rfl, ?_⟩
            have dl9 := dl8.same s9
            have sm9 := sm08.trans (sm_same s9)
            generalize L2.upd H8 t' (.tup [V.int nn, V.int mm]) = H9 at s9 dl9 sm9 ⊢
            have ex9 := sm9.tup dl5 ex5
            have ey9 := sm9.tup dl5 ey5
            have eD9 := sm9 _ _ Dd Db eD
            clear sm08 sm7 sm8 dl6 dl7 dl8 sm6 s9 ht'
            -- later
            refine ⟨_, rfl, ((L : Nat) : Int), rfl, by omega, by omega, fun G hG => ?_⟩
            refine lc_range (lo := 0) (n := ((L : Nat) : Int).toNat) (fun j H' => Same H9 H' ∧ H' G = some (.lst (tv ((List.range j).filter fun k => sub x y ((nn + (k : Nat)) % (L : Nat)))))) ⟨same_upd hG, upd_same⟩ ?_ ?_
            · rintro j H10 hj ⟨s10, eG⟩
              have hjL : j < L := hj
              have m0 := Int.emod_nonneg (nn + (j : Nat)) (show ((L : Nat) : Int) ≠ 0 by omega)
              have m2 := Int.emod_lt_of_pos (nn + (j : Nat)) (show (0 : Int) < (L : Nat) by omega)
              obtain ⟨r, hr'⟩ : ∃ r : Nat, (nn + (j : Nat)) % (L : Nat) = r := ⟨((nn + (j : Nat)) % (L : Nat)).toNat, by omega⟩
              have hrL : r < L := by omega
              rw [Int.zero_add]
              refine ⟨rfl, ?_⟩
              refine ⟨_, rfl, _, rfl, _, rfl, _, _, rfl, rfl, .inl ⟨_, rfl, _, rfl, _, _, rfl, rfl, (by show (0 : Int) < (L : Nat); omega), D, _, (r : Nat), _, rfl, congrArg V.int hr', SqL.of (s10 _ _ eD9), atI_nat (bv_get (by rw [marks_len]; exact hrL)), _, rfl, ?_⟩⟩
              rw [marks_get _ hrL, ← hr', filter_range_succ]
              refine ite2 (fun hc => ?_) (fun hc => ?_)
              · refine ⟨_, rfl, _, eG, ?_, same_updw s10 hG, ?_⟩
                · rw [tv_len]
                  exact map_len_lt (Nat.le_trans (List.length_filter_le _ _) (by rw [List.length_range]; omega))
                · rw [upd_same, if_pos hc, tv_snoc]
              · refine ⟨s10, ?_⟩
                rw [if_neg hc, List.append_nil]
                exact eG
            · rintro H10 ⟨s10, eG⟩
              rw [show ((L : Nat) : Int).toNat = L from rfl] at eG
              obtain ⟨k0, kr, hk⟩ := law_some (s := sub x y) (L := L) (by omega) (sub_zero x y) nn
              rw [hk] at eG
              have nl := nxt_law per hk
              have k0L : k0 < L := (range_filter_first hk).1
              -- the next one
              refine ⟨_, rfl, _, rfl, _, rfl, n, x, p, .ref q, nn, rfl, ex9.same s10, n1, by omega, .inl ⟨y, q, L, rfl, ey9.same s10, L1, by omega, hI, fun H11 m s11 nm => ?_⟩⟩
              obtain rfl := nm.uniq nl
              have s911 := s10.trans s11
              refine ⟨_, rfl, _, rfl, lgr (by omega) (by omega), _, rfl, _, rfl, G, _, 0, _, rfl, rfl, SqL.of (s11 _ _ eG), atI_nat (j := 0) rfl, _, _, rfl, rfl, _, rfl, lgr (by omega) (by omega), rfl, _, rfl, ?_⟩
              rw [decide_eq_true (rfl : V.str (toString (nn + (k0 : Nat))) = V.str (toString (nn + (k0 : Nat))))]
              refine ⟨_, rfl, _, rfl, _, rfl, n, x, y, p, q, _, rfl, ex9.same s911, ey9.same s911, n1, by omega, fun H12 s12 => ⟨_, _, rfl, rfl, _, rfl, ?_⟩⟩
              rw [nl.2.1]
              have s912 := s911.trans s12
              -- how many between
              refine ⟨_, rfl, _, rfl, D, sub x y, L, mm, rfl, s912 _ _ eD9, L1, by omega, fun H13 s13 => ?_⟩
              have s913 := s912.trans s13
              refine ⟨_, rfl, _, rfl, D, sub x y, L, nn, rfl, s913 _ _ eD9, L1, by omega, fun H14 s14 => ?_⟩
              have s914 := s913.trans s14
              obtain ⟨f1, f2⟩ := far_bd (sub x y) L1 (by omega) b1 b2
              obtain ⟨f3, f4⟩ := far_bd (sub x y) L1 (by omega) a1 a2
              have mb : -(10 ^ 40) < mx (far (sub x y) L mm - far (sub x y) L nn) ∧ mx (far (sub x y) L mm - far (sub x y) L nn) < 10 ^ 40 := by
                unfold mx
                split <;> omega
              refine ⟨_, _, rfl, rfl, 0, _, rfl, ?_⟩
              refine ⟨_, rfl, _, rfl, _, rfl, _, rfl, n, x, p, .ref q, nn, mm, rfl, ex9.same s914, n1, by omega, .inl ⟨y, q, L, rfl, ey9.same s914, L1, by omega, hI, fun H15 s15 => ?_⟩⟩
              refine ⟨_, rfl, lgr mb.1 mb.2, _, rfl, _, rfl, lgr mb.1 mb.2, rfl, _, rfl, ?_⟩
              rw [show decide (V.str (toString (mx (far (sub x y) L mm - far (sub x y) L nn))) = V.str (toString (if far (sub x y) L mm - far (sub x y) L nn > 0 then far (sub x y) L mm - far (sub x y) L nn else 0))) = true from decide_eq_true rfl]
              have s915 := s914.trans s15
              exact ⟨_, _, _, _, _, _, _, _, rfl, dl9.same s915, sm9.trans (sm_same s915), fun _ => ⟨_, rfl⟩⟩
          · rintro σ H6 ⟨u7, u8, u9, u10, u11, u12, u13, u14, rfl, dl6, sm6, hz⟩
            obtain ⟨z, rfl⟩ := hz (by decide)
            exact hn _ _ ⟨_, z, _, _, _, _, _, _, rfl, dl6, sm6⟩
        · rintro σ H6 ⟨u7, z, u9, u10, u11, u12, u13, u14, rfl, dl6, sm6⟩
          have ex6 := sm6.tup dl5 ex5
          have ey6 := sm6.tup dl5 ey5
          have eD6 := sm6 _ _ Dd Db eD
          -- refusals
          refine ⟨_, rfl, _, rfl, _, rfl, d, b, n, x, p, rfl, dl6, ex6, n1, n9, fun H7 v dl7 sm7 wr => ?_⟩
          have ex7 := sm7.tup dl6 ex6
          refine ⟨n, x, p, v, rfl, ex7, n1, n9, wr, fun H8 l' s8 el' => ⟨(by show 2 ≤ sizeLine; decide), fun t' ht' => ?_⟩⟩
          have s9 := same_upd (o := .lst [V.int 0, V.int 0]) ht'
          refine ⟨l', t', [0, 0], [0, 0], rfl, rfl, SqL.of (s9 _ _ el'), SqL.of upd_same, _, rfl, ?_⟩
          rw [decide_eq_true (rfl : ([0, 0] : List Int) = [0, 0])]
          have s79 := s8.trans s9
          have dl9 := dl7.same s79
          have ex9 := ex7.same s79
          have ey9 := (sm7.tup dl6 ey6).same s79
          have eD9 := s79 _ _ (sm7 _ _ Dd Db eD6)
          generalize L2.upd H8 t' (.lst [V.int 0, V.int 0]) = H9 at dl9 ex9 ey9 eD9 ⊢
          -- none between, and the next one from -1 on
          refine ⟨_, rfl, _, rfl, _, rfl, _, rfl, n, x, p, .ref q, z, z, rfl, ex9, n1, by omega, .inl ⟨y, q, L, rfl, ey9, L1, by omega, hI, fun H10 s10 => ⟨rfl, _, rfl, ?_⟩⟩⟩
          rw [show mx (far (sub x y) L z - far (sub x y) L z) = 0 by rw [Int.sub_self]; rfl, decide_eq_true (rfl : V.int 0 = V.int 0)]
          refine ⟨_, rfl, _, rfl, 1, rfl, n, x, p, .ref q, -1, rfl, ex9.same s10, n1, by omega, .inl ⟨y, q, L, rfl, ey9.same s10, L1, by omega, hI, fun H11 m s11 nm => ?_⟩⟩
          have em := nxt_m1 L1 per (sub_zero x y) nm
          obtain ⟨L', rfl⟩ : ∃ L', L = L' + 1 := ⟨L - 1, by omega⟩
          rw [show L' + 1 - 1 = L' from rfl] at em
          have eD11 := s11 _ _ (s10 _ _ eD9)
          rw [marks_succ, bv_snoc] at eD11
          have mlog : m.natAbs.log2 < 1920 := lgr (by rw [em]; split <;> decide) (by rw [em]; split <;> decide)
          refine ⟨m, rfl, mlog, ?_⟩
          refine ⟨_, rfl, 1, rfl, D, _, -1, _, rfl, rfl, SqL.of eD11, atI_last _ _, _, rfl, ?_⟩
          have fin : ∀ (H' : Hp), Same H9 H' → ∃ u2 u3 u4 u5 u6 u7 u8 u9 u10 u11 u12 u13 u14 : Option V, _ = [some (V.ref a), some (V.ref d), u2, u3, u4, u5, u6, u7, u8, u9, u10, u11, u12, u13, u14] ∧ Deal H' d b := fun H' s' => ⟨some v2, some (.ref p), some (.ref q), some (.ref D), some (.int ((L' + 1 : Nat) : Int)), u7, some (.int z), u9, u10, u11, u12, u13, u14, rfl, dl9.same s'⟩
          have s911 := s10.trans s11
          by_cases c : sub x y ((L' : Nat) : Int) = true
          · rw [c]
            rw [if_pos c] at em
            subst em
            refine iteT ?_
            refine ⟨1, rfl, _, rfl, lgr (by decide) (by decide), rfl, _, rfl, ?_⟩
            exact fin _ s911
          · rw [show sub x y ((L' : Nat) : Int) = false by
              cases e : sub x y ((L' : Nat) : Int) with
              | false => rfl
              | true => exact absurd e c]
            rw [if_neg c] at em
            subst em
            refine iteF ?_
            refine ⟨_, rfl, lgr (by decide) (by decide), rfl, _, rfl, ?_⟩
            exact fin _ s911
    · rintro σ H2 ⟨u2, u3, u4, u5, u6, u7, u8, u9, u10, u11, u12, u13, u14, rfl, dl2⟩
      exact k H2
end
end BN
namespace BN
open PySem PySem.Spec PyProof.Rows L2
/-! ### where the defs stand -/
def Here (K : PySem.W.Frag) (mg : Str → Option Value) (x : Str) (st : Stmt) : Prop := ∃ (f : Addr) (fd : FuncData), mg x = some (.ref f) ∧ Fun K x x st f fd
theorem here_mk {K : PySem.W.Frag} {h : Heap} {mg : Str → Option Value} {x : Str} {st : Stmt} {f : Addr} {oc : Value} {od an : Option Addr} {osl : Array (Option Value)} {kV doc pm cdv ct : Value} (X : K.In h) (G : h.Ns mainGlobals mg) (a : PySem.W.nsIn K mainGlobals x = some (some (.ref f)))
    (l : K.lookup f = some ⟨oc, od, .func (PySem.W.fnOf x x (defArgs st) (defBody st) (defScope st) .none kV doc pm an cdv ct), osl⟩) (c : PySem.W.codeIn K cdv x = true) (k : PySem.W.keepIn K (.ref f) = true) : Here K mg x st :=
  ⟨f, _, PySem.W.mg_of X G a, fun_mk l c k⟩
theorem tx_mk {K : PySem.W.Frag} {h : Heap} {mg : Str → Option Value} (X : K.In h) (G : h.Ns mainGlobals mg)
    (z0 : PySem.W.nsIn K mainGlobals "len" = some none)
    (z1 : PySem.W.nsIn K mainGlobals "tuple" = some none)
    (z2 : PySem.W.nsIn K mainGlobals "list" = some none)
    (z3 : PySem.W.nsIn K mainGlobals "range" = some none)
    (z4 : PySem.W.nsIn K mainGlobals "sorted" = some none)
    (z5 : PySem.W.nsIn K mainGlobals "all" = some none)
    (z6 : PySem.W.nsIn K mainGlobals "isinstance" = some none)
    (z7 : PySem.W.nsIn K mainGlobals "int" = some none)
    (z8 : PySem.W.nsIn K mainGlobals "bool" = some none)
    (z9 : PySem.W.nsIn K mainGlobals "enumerate" = some none)
    (z10 : PySem.W.nsIn K mainGlobals "max" = some none)
    (z11 : PySem.W.nsIn K mainGlobals "abs" = some none)
    (z12 : PySem.W.nsIn K mainGlobals "repr" = some none)
    : Tx mg := ⟨PySem.W.mg_none_of X G z0, PySem.W.mg_none_of X G z1, PySem.W.mg_none_of X G z2, PySem.W.mg_none_of X G z3, PySem.W.mg_none_of X G z4, PySem.W.mg_none_of X G z5, PySem.W.mg_none_of X G z6, PySem.W.mg_none_of X G z7, PySem.W.mg_none_of X G z8, PySem.W.mg_none_of X G z9, PySem.W.mg_none_of X G z10, PySem.W.mg_none_of X G z11, PySem.W.mg_none_of X G z12⟩
/-- what a clause names it takes -/
theorem te_of {K : PySem.W.Frag} {C : Addr} (h1 : PySem.W.subIn K (.ref C) (.type "BaseException") = some true) (h2 : PySem.W.isClsIn K C = true) (h3 : PySem.W.typeIn K (.ref C) = some (.type "type")) (h4 : PySem.W.subIn K (.ref C) (.ref C) = some true) : PySem.W.exmOne K (.ref C) (.ref C) = some true := by
  have h2' : (PySem.W.clsIn K C).isSome = true := h2
  have e1 : (PySem.W.subIn K (.ref C) (.type "BaseException") == some true) = true := by
    rw [h1]
    rfl
  have e2 : ((PySem.W.clsIn K C).isSome && PySem.W.typeIn K (.ref C) == some (.type "type")) = true := by
    rw [h2', h3]
    rfl
  show (if (PySem.W.subIn K (.ref C) (.type "BaseException") == some true) = true then (if ((PySem.W.clsIn K C).isSome && PySem.W.typeIn K (.ref C) == some (.type "type")) = true then PySem.W.subIn K (.ref C) (.ref C) else none) else none) = some true
  rw [if_pos e1, if_pos e2, h4]
theorem ic_mk {prog : Program} {K : PySem.W.Frag} {h : Heap} {mg : Str → Option Value} {C CB fI : Addr} (X : K.In h) (G : h.Ns mainGlobals mg)
    {nm q : Str} {N : Addr} {bs : List Value} {sn : List Str} {sub : List Value} {ab : Bool} {col : Option Bool} {dd : Option Addr} {k0 k1 k2 k3 k5 : Option Value}
    {oc : Value} {od : Option Addr} {kV doc pm : Value} {an : Option Addr} {cda : Addr} {ct : Value} {osl : Array (Option Value)} {cc : Addr} {ccl : Value} {cdd : Option Addr} {vs : Array Value} {ccs : Array (Option Value)} {file : Str} {tf : Tok} {cl : Value} {cld : Option Addr} {csl : Array (Option Value)}
    (aC : PySem.W.nsIn K mainGlobals "InvalidChange" = some (some (.ref C)))
    (xC : K.lookup C = some (excClassObj nm q C N bs [.ref CB, .type "ValueError", .type "Exception", .type "BaseException", .type "object"] true sn sub ab col dd k0 k1 k2 k3 k5 "ValueError.__new__"))
    (sa : PySem.W.findIn K (.ref C) "__setattr__" = some (some (.builtin "object.__setattr__")))
    (ga : PySem.W.findIn K (.ref C) "__getattribute__" = some (some (.builtin "BaseException.__getattribute__")))
    (gg : PySem.W.findIn K (.ref C) "__getattr__" = some none)
    (noN : PySem.W.findIn K (.ref C) "at" = some none)
    (iC : PySem.W.findIn K (.ref C) "__init__" = some (some (.ref fI)))
    (tC : PySem.W.typeIn K (.ref fI) = some (.type "function"))
    (kC : PySem.W.keepIn K (.ref C) = true)
    (exC : PySem.W.subIn K (.ref C) (.type "BaseException") = some true)
    (tyC : PySem.W.typeIn K (.ref C) = some (.type "type"))
    (hdC : PySem.W.hasDictIn K C = true)
    (clC : PySem.W.isClsIn K C = true)
    (sC : PySem.W.subIn K (.ref C) (.ref C) = some true)
    (sup : PySem.W.ks_superIn K C C "__init__" = some (some (.builtin "ValueError.__init__")))
    (subVE : PySem.W.subIn K (.ref C) (.type "ValueError") = some true)
    (mroC : PySem.W.mroIn K C (.ref C) = some true)
    (third : PySem.W.nsIn K cStatics "thirdparty.any" = some none)
    (zS : PySem.W.nsIn K mainGlobals "super" = some none)
    (ntop : (prog.main.scope.names.lookup ("super" : Str)).isSome = false)
    (lI : K.lookup fI = some ⟨oc, od, .func (PySem.W.ksFn "__init__" "InvalidChange.__init__" icA icB icS .none kV doc pm an (.ref cda) ct cc), osl⟩)
    (cI : PySem.W.codeIn K (.ref cda) "InvalidChange.__init__" = true)
    (lc : K.lookup cda = some ⟨ccl, cdd, .fields vs, ccs⟩)
    (v2 : vs[2]? = some (.str file tf))
    (hf : ((prog.main.file : Str) == file) = true)
    (lcc : K.lookup cc = some ⟨cl, cld, .cell (some (.ref C)), csl⟩) : ∃ C fI, IcTxt prog K mg C fI :=
  ⟨C, fI, { gC := PySem.W.mg_of X G aC, cls := ⟨nm, q, N, bs, _, sn, sub, ab, col, dd, k0, k1, k2, k3, k5, xC, (show PySem.HandSPX.refsVE [.type "ValueError", .type "Exception", .type "BaseException", .type "object"] = true by decide +kernel)⟩, sa := sa, ga := ga, gg := gg, noN := noN, iC := iC, tC := tC, kC := kC, exC := exC, tyC := tyC, hdC := hdC, te := te_of exC clC tyC sC, sup := sup, subVE := subVE, mroC := mroC, third := third, gsup := PySem.W.mg_none_of X G zS, ntop := ntop, fn := ⟨_, _, _, _, _, _, _, _, _, _, _, _, _, _, _, _, _, _, _, lI, cI, lc, v2, hf, lcc⟩ }⟩
/-! ### all together -/
theorem all_ok {l : PySem.W.OpenLaw} {w : World} {K : PySem.W.Frag} {mg : Str → Option Value} {fa : Addr} (hfa : mg "law" = some (.ref fa)) (T : Tx mg) (I : ∃ C fI, IcTxt l.prog K mg C fI)
    (h0 : Here K mg "is_integer" sIsInteger)
    (h1 : Here K mg "is_number" sIsNumber)
    (h2 : Here K mg "is_index" sIsIndex)
    (h3 : Here K mg "common_divisor" sDivisor)
    (h4 : Here K mg "common_multiple" sMultiple)
    (h5 : Here K mg "prime_powers" sPowers)
    (h6 : Here K mg "checked_change" sChecked)
    (h7 : Here K mg "idle" sIdle)
    (h8 : Here K mg "after" sAfter)
    (h9 : Here K mg "undone" sUndone)
    (h10 : Here K mg "raised" sRaised)
    (h11 : Here K mg "size_of" sSizeOf)
    (h12 : Here K mg "followed" sFollowed)
    (h13 : Here K mg "order" sOrder)
    (h14 : Here K mg "order_of" sOrderOf)
    (h15 : Here K mg "change_places" sPlaces)
    (h16 : Here K mg "loop" sLoop)
    (h17 : Here K mg "split_loop" sSplitLoop)
    (h18 : Here K mg "first_prime" sFirstPrime)
    (h19 : Here K mg "suits" sSuits)
    (h20 : Here K mg "is_round" sIsRound)
    (h21 : Here K mg "couple_round" sRound)
    (h22 : Here K mg "couple_rests" sRests)
    (h23 : Here K mg "next_suiting" sNext)
    (h24 : Here K mg "suiting_below" sBelow)
    (h25 : Here K mg "suiting_between" sBetween)
    (h26 : Here K mg "_law_draw" sLDraw)
    (h27 : Here K mg "_law_any" sLAny)
    (h28 : Here K mg "_law_of" sLOf)
    (h29 : Here K mg "_law_mixed" sLMixed)
    (h30 : Here K mg "_law_then" sLThen)
    (h31 : Here K mg "_law_piece" sLPiece)
    (h32 : Here K mg "_law_marks" sLMarks)
    (h33 : Here K mg "_law_couple" sLCouple)
    (h34 : Here K mg "_law_below" sLBelow)
    (h35 : Here K mg "_law_wrong" sLWrong)
    (h36 : Here K mg "_law_asked" sLAsked)
    (h37 : Here K mg "_law_count" sLCount)
    (h38 : Here K mg "law" sLaw)
    : ∃ fd : FuncData, (∀ (s : Shared) (v : Value), BindsTo s fd ⟨[v], []⟩ [("_law_script", v)]) ∧ ∀ base : Heap, K.In base → base.Ns mainGlobals mg → FnOk l.prog w K mg base CX0 13 fa fd ["_law_script"] (spLaw K) := by
  obtain ⟨C, fI, IC⟩ := I
  obtain ⟨f0, fd0, m0, F0⟩ := h0
  obtain ⟨f1, fd1, m1, F1⟩ := h1
  obtain ⟨f2, fd2, m2, F2⟩ := h2
  obtain ⟨f3, fd3, m3, F3⟩ := h3
  obtain ⟨f4, fd4, m4, F4⟩ := h4
  obtain ⟨f5, fd5, m5, F5⟩ := h5
  obtain ⟨f6, fd6, m6, F6⟩ := h6
  obtain ⟨f7, fd7, m7, F7⟩ := h7
  obtain ⟨f8, fd8, m8, F8⟩ := h8
  obtain ⟨f9, fd9, m9, F9⟩ := h9
  obtain ⟨f10, fd10, m10, F10⟩ := h10
  obtain ⟨f11, fd11, m11, F11⟩ := h11
  obtain ⟨f12, fd12, m12, F12⟩ := h12
  obtain ⟨f13, fd13, m13, F13⟩ := h13
  obtain ⟨f14, fd14, m14, F14⟩ := h14
  obtain ⟨f15, fd15, m15, F15⟩ := h15
  obtain ⟨f16, fd16, m16, F16⟩ := h16
  obtain ⟨f17, fd17, m17, F17⟩ := h17
  obtain ⟨f18, fd18, m18, F18⟩ := h18
  obtain ⟨f19, fd19, m19, F19⟩ := h19
  obtain ⟨f20, fd20, m20, F20⟩ := h20
  obtain ⟨f21, fd21, m21, F21⟩ := h21
  obtain ⟨f22, fd22, m22, F22⟩ := h22
  obtain ⟨f23, fd23, m23, F23⟩ := h23
  obtain ⟨f24, fd24, m24, F24⟩ := h24
  obtain ⟨f25, fd25, m25, F25⟩ := h25
  obtain ⟨f26, fd26, m26, F26⟩ := h26
  obtain ⟨f27, fd27, m27, F27⟩ := h27
  obtain ⟨f28, fd28, m28, F28⟩ := h28
  obtain ⟨f29, fd29, m29, F29⟩ := h29
  obtain ⟨f30, fd30, m30, F30⟩ := h30
  obtain ⟨f31, fd31, m31, F31⟩ := h31
  obtain ⟨f32, fd32, m32, F32⟩ := h32
  obtain ⟨f33, fd33, m33, F33⟩ := h33
  obtain ⟨f34, fd34, m34, F34⟩ := h34
  obtain ⟨f35, fd35, m35, F35⟩ := h35
  obtain ⟨f36, fd36, m36, F36⟩ := h36
  obtain ⟨f37, fd37, m37, F37⟩ := h37
  obtain ⟨f38, fd38, m38, F38⟩ := h38
  have b0 := F0.binds (ps := ["value"]) fun _ _ _ _ _ _ us hl => match us, hl with | [_], _ => rfl
  have b1 := F1.binds (ps := ["value"]) fun _ _ _ _ _ _ us hl => match us, hl with | [_], _ => rfl
  have b2 := F2.binds (ps := ["value", "many"]) fun _ _ _ _ _ _ us hl => match us, hl with | [_, _], _ => rfl
  have b3 := F3.binds (ps := ["one", "other"]) fun _ _ _ _ _ _ us hl => match us, hl with | [_, _], _ => rfl
  have b4 := F4.binds (ps := ["one", "other"]) fun _ _ _ _ _ _ us hl => match us, hl with | [_, _], _ => rfl
  have b5 := F5.binds (ps := ["number"]) fun _ _ _ _ _ _ us hl => match us, hl with | [_], _ => rfl
  have b6 := F6.binds (ps := ["states", "value"]) fun _ _ _ _ _ _ us hl => match us, hl with | [_, _], _ => rfl
  have b7 := F7.binds (ps := ["states"]) fun _ _ _ _ _ _ us hl => match us, hl with | [_], _ => rfl
  have b8 := F8.binds (ps := ["one", "other"]) fun _ _ _ _ _ _ us hl => match us, hl with | [_, _], _ => rfl
  have b9 := F9.binds (ps := ["change"]) fun _ _ _ _ _ _ us hl => match us, hl with | [_], _ => rfl
  have b10 := F10.binds (ps := ["change", "count"]) fun _ _ _ _ _ _ us hl => match us, hl with | [_, _], _ => rfl
  have b11 := F11.binds (ps := ["change"]) fun _ _ _ _ _ _ us hl => match us, hl with | [_], _ => rfl
  have b12 := F12.binds (ps := ["one", "other"]) fun _ _ _ _ _ _ us hl => match us, hl with | [_, _], _ => rfl
  have b13 := F13.binds (ps := ["change"]) fun _ _ _ _ _ _ us hl => match us, hl with | [_], _ => rfl
  have b14 := F14.binds (ps := ["change"]) fun _ _ _ _ _ _ us hl => match us, hl with | [_], _ => rfl
  have b15 := F15.binds (ps := ["one", "other"]) fun _ _ _ _ _ _ us hl => match us, hl with | [_, _], _ => rfl
  have b16 := F16.binds (ps := ["one", "other", "count"]) fun _ _ _ _ _ _ us hl => match us, hl with | [_, _, _], _ => rfl
  have b17 := F17.binds (ps := ["one", "other", "count"]) fun _ _ _ _ _ _ us hl => match us, hl with | [_, _, _], _ => rfl
  have b18 := F18.binds (ps := ["number"]) fun _ _ _ _ _ _ us hl => match us, hl with | [_], _ => rfl
  have b19 := F19.binds (ps := ["one", "other", "count"]) fun _ _ _ _ _ _ us hl => match us, hl with | [_, _, _], _ => rfl
  have b20 := F20.binds (ps := ["one", "other", "count"]) fun _ _ _ _ _ _ us hl => match us, hl with | [_, _, _], _ => rfl
  have b21 := F21.binds (ps := ["one", "other"]) fun _ _ _ _ _ _ us hl => match us, hl with | [_, _], _ => rfl
  have b22 := F22.binds (ps := ["one", "other"]) fun _ _ _ _ _ _ us hl => match us, hl with | [_, _], _ => rfl
  have b23 := F23.binds (ps := ["one", "other", "count"]) fun _ _ _ _ _ _ us hl => match us, hl with | [_, _, _], _ => rfl
  have b24 := F24.binds (ps := ["rests", "turn", "count"]) fun _ _ _ _ _ _ us hl => match us, hl with | [_, _, _], _ => rfl
  have b25 := F25.binds (ps := ["one", "other", "low", "high"]) fun _ _ _ _ _ _ us hl => match us, hl with | [_, _, _, _], _ => rfl
  have b26 := F26.binds (ps := ["_law_script", "_law_salt"]) fun _ _ _ _ _ _ us hl => match us, hl with | [_, _], _ => rfl
  have b27 := F27.binds (ps := ["_law_deal", "_law_bound"]) fun _ _ _ _ _ _ us hl => match us, hl with | [_, _], _ => rfl
  have b28 := F28.binds (ps := ["_law_deal", "_law_some"]) fun _ _ _ _ _ _ us hl => match us, hl with | [_, _], _ => rfl
  have b29 := F29.binds (ps := ["_law_deal", "_law_some"]) fun _ _ _ _ _ _ us hl => match us, hl with | [_, _], _ => rfl
  have b30 := F30.binds (ps := ["_law_one", "_law_other"]) fun _ _ _ _ _ _ us hl => match us, hl with | [_, _], _ => rfl
  have b31 := F31.binds (ps := ["_law_form"]) fun _ _ _ _ _ _ us hl => match us, hl with | [_], _ => rfl
  have b32 := F32.binds (ps := ["_law_one", "_law_other", "_law_most"]) fun _ _ _ _ _ _ us hl => match us, hl with | [_, _, _], _ => rfl
  have b33 := F33.binds (ps := ["_law_deal"]) fun _ _ _ _ _ _ us hl => match us, hl with | [_], _ => rfl
  have b34 := F34.binds (ps := ["_law_marks_here", "_law_n"]) fun _ _ _ _ _ _ us hl => match us, hl with | [_, _], _ => rfl
  have b35 := F35.binds (ps := ["_law_deal", "_law_one"]) fun _ _ _ _ _ _ us hl => match us, hl with | [_, _], _ => rfl
  have b36 := F36.binds (ps := ["_law_one", "_law_other"]) fun _ _ _ _ _ _ us hl => match us, hl with | [_, _], _ => rfl
  have b37 := F37.binds (ps := ["_law_deal", "_law_many"]) fun _ _ _ _ _ _ us hl => match us, hl with | [_, _], _ => rfl
  have e := hfa.symm.trans m38
  cases e
  refine ⟨fd38, fun s v => ?_, fun base _ _ => ?_⟩
  · obtain ⟨oc, od, kV, doc, pm, an, cdv, ct, osl, rfl, lk, hcd⟩ := F38.ex
    exact .of_eq rfl
  have D0 : Def l.prog w K mg base CX0 1 "is_integer" ["value"] spIsInteger := ⟨f0, fd0, m0, F0.kp, b0, ok_is_integer F0 T⟩
  have D1 : Def l.prog w K mg base CX0 2 "is_number" ["value"] spIsNumber := ⟨f1, fd1, m1, F1.kp, b1, ok_is_number F1 D0⟩
  have D2 : Def l.prog w K mg base CX0 3 "is_index" ["value", "many"] spIsIndex := ⟨f2, fd2, m2, F2.kp, b2, ok_is_index F2 D1⟩
  have D3 : Def l.prog w K mg base CX0 1 "common_divisor" ["one", "other"] spDivisor := ⟨f3, fd3, m3, F3.kp, b3, ok_divisor F3⟩
  have D4 : Def l.prog w K mg base CX0 2 "common_multiple" ["one", "other"] spMultiple := ⟨f4, fd4, m4, F4.kp, b4, ok_multiple F4 D3⟩
  have D5 : Def l.prog w K mg base CX0 1 "prime_powers" ["number"] spPowers := ⟨f5, fd5, m5, F5.kp, b5, ok_powers F5⟩
  have D6 : Def l.prog w K mg base (L2.CX l.prog w) 4 "checked_change" ["states", "value"] (spChecked C) := ⟨f6, fd6, m6, F6.kp, b6, ok_checked F6 T IC D2⟩
  have D7 : Def l.prog w K mg base CX0 1 "idle" ["states"] spIdle := ⟨f7, fd7, m7, F7.kp, b7, ok_idle F7 T⟩
  have D8 : Def l.prog w K mg base CX0 1 "after" ["one", "other"] spAfter := ⟨f8, fd8, m8, F8.kp, b8, ok_after F8 T⟩
  have D30 : Def l.prog w K mg base CX0 1 "_law_then" ["_law_one", "_law_other"] spAfter := ⟨f30, fd30, m30, F30.kp, b30, ok_then F30 T⟩
  have D9 : Def l.prog w K mg base CX0 1 "undone" ["change"] spUndone := ⟨f9, fd9, m9, F9.kp, b9, ok_undone F9 T⟩
  have D10 : Def l.prog w K mg base CX0 2 "raised" ["change", "count"] spRaised := ⟨f10, fd10, m10, F10.kp, b10, ok_raised F10 T D9 D7 D8⟩
  have D11 : Def l.prog w K mg base CX0 1 "size_of" ["change"] spSizeOf := ⟨f11, fd11, m11, F11.kp, b11, ok_size_of F11 T⟩
  have D12 : Def l.prog w K mg base (L2.CX l.prog w) 5 "followed" ["one", "other"] (spFollowed C) := ⟨f12, fd12, m12, F12.kp, b12, ok_followed F12 T D11 D6 D8⟩
  have D14 : Def l.prog w K mg base CX0 3 "order_of" ["change"] spOrder := ⟨f14, fd14, m14, F14.kp, b14, ok_order_of F14 T D4⟩
  have D13 : Def l.prog w K mg base CX0 5 "order" ["change"] spOrder := ⟨f13, fd13, m13, F13.kp, b13, ok_order F13 D14 D11 D6⟩
  have D15 : Def l.prog w K mg base CX0 5 "change_places" ["one", "other"] spPlaces := ⟨f15, fd15, m15, F15.kp, b15, ok_places F15 T D11 D6 D8⟩
  have D16 : Def l.prog w K mg base CX0 6 "loop" ["one", "other", "count"] spLoop := ⟨f16, fd16, m16, F16.kp, b16, ok_loop F16 D12 D10⟩
  have D17 : Def l.prog w K mg base CX0 6 "split_loop" ["one", "other", "count"] spSplit := ⟨f17, fd17, m17, F17.kp, b17, ok_split F17 D12 D10 D8⟩
  have D18 : Def l.prog w K mg base CX0 1 "first_prime" ["number"] spFirst := ⟨f18, fd18, m18, F18.kp, b18, ok_first F18⟩
  have D19 : Def l.prog w K mg base CX0 7 "suits" ["one", "other", "count"] spSuits := ⟨f19, fd19, m19, F19.kp, b19, ok_suits F19 D16 D17⟩
  have D20 : Def l.prog w K mg base CX0 8 "is_round" ["one", "other", "count"] spIsRound := ⟨f20, fd20, m20, F20.kp, b20, ok_is_round F20 D19 D15 D10⟩
  have D21 : Def l.prog w K mg base CX0 9 "couple_round" ["one", "other"] spRound := ⟨f21, fd21, m21, F21.kp, b21, ok_round F21 D12 D4 D13 D5 D18 D20⟩
  have D22 : Def l.prog w K mg base (L2.CX l.prog w) 10 "couple_rests" ["one", "other"] (spRests C) := ⟨f22, fd22, m22, F22.kp, b22, ok_rests F22 T D12 D10 D21 D8⟩
  have D23 : Def l.prog w K mg base (L2.CX l.prog w) 11 "next_suiting" ["one", "other", "count"] (spNext C) := ⟨f23, fd23, m23, F23.kp, b23, ok_next F23 T D22 D21⟩
  have D24 : Def l.prog w K mg base CX0 1 "suiting_below" ["rests", "turn", "count"] spBelow := ⟨f24, fd24, m24, F24.kp, b24, ok_below F24 T⟩
  have D25 : Def l.prog w K mg base (L2.CX l.prog w) 11 "suiting_between" ["one", "other", "low", "high"] (spBetween C) := ⟨f25, fd25, m25, F25.kp, b25, ok_between F25 T D22 D21 D24⟩
  have D26 : Def l.prog w K mg base CX0 1 "_law_draw" ["_law_script", "_law_salt"] (spDraw K) := ⟨f26, fd26, m26, F26.kp, b26, ok_draw F26 T⟩
  have D27 : Def l.prog w K mg base CX0 1 "_law_any" ["_law_deal", "_law_bound"] spAny := ⟨f27, fd27, m27, F27.kp, b27, ok_any F27 T⟩
  have D28 : Def l.prog w K mg base CX0 2 "_law_of" ["_law_deal", "_law_some"] spOf := ⟨f28, fd28, m28, F28.kp, b28, ok_of F28 T D27⟩
  have D29 : Def l.prog w K mg base CX0 2 "_law_mixed" ["_law_deal", "_law_some"] spMixed := ⟨f29, fd29, m29, F29.kp, b29, ok_mixed F29 T D27⟩
  have D31 : Def l.prog w K mg base CX0 1 "_law_piece" ["_law_form"] spPiece := ⟨f31, fd31, m31, F31.kp, b31, ok_piece F31 T⟩
  have D32 : Def l.prog w K mg base CX0 2 "_law_marks" ["_law_one", "_law_other", "_law_most"] spMarks := ⟨f32, fd32, m32, F32.kp, b32, ok_marks F32 T D30⟩
  have D33 : Def l.prog w K mg base CX0 3 "_law_couple" ["_law_deal"] spCouple := ⟨f33, fd33, m33, F33.kp, b33, ok_couple F33 T D27 D28 D29 D30 D31 D32⟩
  have D34 : Def l.prog w K mg base CX0 1 "_law_below" ["_law_marks_here", "_law_n"] spLBelow := ⟨f34, fd34, m34, F34.kp, b34, ok_lbelow F34 T⟩
  have D37 : Def l.prog w K mg base CX0 3 "_law_count" ["_law_deal", "_law_many"] spCount := ⟨f37, fd37, m37, F37.kp, b37, ok_count F37 T D27 D28⟩
  have D35 : Def l.prog w K mg base CX0 3 "_law_wrong" ["_law_deal", "_law_one"] spWrong := ⟨f35, fd35, m35, F35.kp, b35, ok_wrong F35 T D27 D28⟩
  have D36 : Def l.prog w K mg base CX0 12 "_law_asked" ["_law_one", "_law_other"] spAsked := ⟨f36, fd36, m36, F36.kp, b36, ok_asked F36 IC D23 D25⟩
  have DNK : DefK l.prog w K mg base (L2.CX l.prog w) 11 "next_suiting" ["one", "other", "count"] (spNext C) := ⟨f23, fd23, m23, F23.kp, kb_next F23, ok_next F23 T D22 D21⟩
  have DTK : DefK l.prog w K mg base (L2.CX l.prog w) 11 "suiting_between" ["one", "other", "low", "high"] (spBetween C) := ⟨f25, fd25, m25, F25.kp, kb_between F25, ok_between F25 T D22 D21 D24⟩
  exact ok_law F38 T D26 D33 D32 D37 DNK DTK D23 D25 D19 D34 D36 D35
theorem walk {l : PySem.W.OpenLaw} {q : Program} {loose : List Str} {XP : (Str → Option Value) → Heap → Prop} {YP : World → Heap → Prop} {d : DefRec} {K : Params → PySem.W.Frag} (hn : l.most = some 63) (hdf : d.params.defaults = [])
    (hY : ∀ (w : World) (h : Heap), YP w h → (K w.params).In h)
    (F : ∀ (w : World) (mg : Str → Option Value) (fa : Addr) (h : Heap), (K w.params).In h → h.Ns mainGlobals mg → mg d.name = some (.ref fa) →
      ∃ fd : FuncData, (∀ (s : Shared) (u : Value), BindsTo s fd ⟨[u], []⟩ [("_law_script", u)]) ∧ ∀ base : Heap, (K w.params).In base → base.Ns mainGlobals mg → FnOk l.prog w (K w.params) mg base CX0 13 fa fd ["_law_script"] (spLaw (K w.params))) :
    PySem.W.WalkO q loose XP YP l.row.toRowW d [] (fun f vs => PySem.call f vs) :=
  L2.walk_of (n := 63) (k := 13) (x := "_law_script") (CX := fun _ => CX0) (sp := fun w => spLaw (K w.params)) hn (by decide) hdf ⟨rfl, by decide, by decide⟩ hY F (fun _ _ a ns hl _ hS => ⟨a, ns, rfl, hS, hl, fun _ => rfl⟩) fun _ _ _ _ _ z => z
end BN
open PySem PySem.W PyProof.Rows
set_option maxRecDepth 100000 in
set_option maxHeartbeats 0 in
theorem PySem.Challenge.cw_batchnumbers_k40_whole_far_counts_holds : PySem.Challenge.rw_batchnumbers_k40_whole_far_counts.Holds := by
  w_on; o_law; k_head; (case hw => w_witness2)
  k_fill
  refine BN.walk (l := PySem.Challenge.rw_batchnumbers_k40_whole_far_counts) rfl rfl (fun w h Y => PySem.W.kIn_of Y) ?F
  case F =>
    intro w mg fa h KX G hmg
    have T := BN.tx_mk KX G (by k_is) (by k_is) (by k_is) (by k_is) (by k_is) (by k_is) (by k_is) (by k_is) (by k_is) (by k_is) (by k_is) (by k_is) (by k_is)
    have I := BN.ic_mk (prog := PySem.Challenge.rw_batchnumbers_k40_whole_far_counts.prog) KX G (by k_is) (by k_is) (by k_is) (by k_is) (by k_is) (by k_is) (by k_is) (by k_is) (by k_is) (by k_is) (by k_is) (by k_is) (by k_is) (by k_is) (by ks_is) (by k_is) (by k_is) (by k_is) (by k_is) (by decide +kernel) (by k_is) (by k_is) (by k_is) (by rfl) (by decide +kernel) (by k_is)
    have h0 := BN.here_mk (x := "is_integer") (st := BN.sIsInteger) KX G (by k_is) (by k_is) (by k_is) (by k_is)
    have h1 := BN.here_mk (x := "is_number") (st := BN.sIsNumber) KX G (by k_is) (by k_is) (by k_is) (by k_is)
    have h2 := BN.here_mk (x := "is_index") (st := BN.sIsIndex) KX G (by k_is) (by k_is) (by k_is) (by k_is)
    have h3 := BN.here_mk (x := "common_divisor") (st := BN.sDivisor) KX G (by k_is) (by k_is) (by k_is) (by k_is)
    have h4 := BN.here_mk (x := "common_multiple") (st := BN.sMultiple) KX G (by k_is) (by k_is) (by k_is) (by k_is)
    have h5 := BN.here_mk (x := "prime_powers") (st := BN.sPowers) KX G (by k_is) (by k_is) (by k_is) (by k_is)
    have h6 := BN.here_mk (x := "checked_change") (st := BN.sChecked) KX G (by k_is) (by k_is) (by k_is) (by k_is)
    have h7 := BN.here_mk (x := "idle") (st := BN.sIdle) KX G (by k_is) (by k_is) (by k_is) (by k_is)
    have h8 := BN.here_mk (x := "after") (st := BN.sAfter) KX G (by k_is) (by k_is) (by k_is) (by k_is)
    have h9 := BN.here_mk (x := "undone") (st := BN.sUndone) KX G (by k_is) (by k_is) (by k_is) (by k_is)
    have h10 := BN.here_mk (x := "raised") (st := BN.sRaised) KX G (by k_is) (by k_is) (by k_is) (by k_is)
    have h11 := BN.here_mk (x := "size_of") (st := BN.sSizeOf) KX G (by k_is) (by k_is) (by k_is) (by k_is)
    have h12 := BN.here_mk (x := "followed") (st := BN.sFollowed) KX G (by k_is) (by k_is) (by k_is) (by k_is)
    have h13 := BN.here_mk (x := "order") (st := BN.sOrder) KX G (by k_is) (by k_is) (by k_is) (by k_is)
    have h14 := BN.here_mk (x := "order_of") (st := BN.sOrderOf) KX G (by k_is) (by k_is) (by k_is) (by k_is)
    have h15 := BN.here_mk (x := "change_places") (st := BN.sPlaces) KX G (by k_is) (by k_is) (by k_is) (by k_is)
    have h16 := BN.here_mk (x := "loop") (st := BN.sLoop) KX G (by k_is) (by k_is) (by k_is) (by k_is)
    have h17 := BN.here_mk (x := "split_loop") (st := BN.sSplitLoop) KX G (by k_is) (by k_is) (by k_is) (by k_is)
    have h18 := BN.here_mk (x := "first_prime") (st := BN.sFirstPrime) KX G (by k_is) (by k_is) (by k_is) (by k_is)
    have h19 := BN.here_mk (x := "suits") (st := BN.sSuits) KX G (by k_is) (by k_is) (by k_is) (by k_is)
    have h20 := BN.here_mk (x := "is_round") (st := BN.sIsRound) KX G (by k_is) (by k_is) (by k_is) (by k_is)
    have h21 := BN.here_mk (x := "couple_round") (st := BN.sRound) KX G (by k_is) (by k_is) (by k_is) (by k_is)
    have h22 := BN.here_mk (x := "couple_rests") (st := BN.sRests) KX G (by k_is) (by k_is) (by k_is) (by k_is)
    have h23 := BN.here_mk (x := "next_suiting") (st := BN.sNext) KX G (by k_is) (by k_is) (by k_is) (by k_is)
    have h24 := BN.here_mk (x := "suiting_below") (st := BN.sBelow) KX G (by k_is) (by k_is) (by k_is) (by k_is)
    have h25 := BN.here_mk (x := "suiting_between") (st := BN.sBetween) KX G (by k_is) (by k_is) (by k_is) (by k_is)
    have h26 := BN.here_mk (x := "_law_draw") (st := BN.sLDraw) KX G (by k_is) (by k_is) (by k_is) (by k_is)
    have h27 := BN.here_mk (x := "_law_any") (st := BN.sLAny) KX G (by k_is) (by k_is) (by k_is) (by k_is)
    have h28 := BN.here_mk (x := "_law_of") (st := BN.sLOf) KX G (by k_is) (by k_is) (by k_is) (by k_is)
    have h29 := BN.here_mk (x := "_law_mixed") (st := BN.sLMixed) KX G (by k_is) (by k_is) (by k_is) (by k_is)
    have h30 := BN.here_mk (x := "_law_then") (st := BN.sLThen) KX G (by k_is) (by k_is) (by k_is) (by k_is)
    have h31 := BN.here_mk (x := "_law_piece") (st := BN.sLPiece) KX G (by k_is) (by k_is) (by k_is) (by k_is)
    have h32 := BN.here_mk (x := "_law_marks") (st := BN.sLMarks) KX G (by k_is) (by k_is) (by k_is) (by k_is)
    have h33 := BN.here_mk (x := "_law_couple") (st := BN.sLCouple) KX G (by k_is) (by k_is) (by k_is) (by k_is)
    have h34 := BN.here_mk (x := "_law_below") (st := BN.sLBelow) KX G (by k_is) (by k_is) (by k_is) (by k_is)
    have h35 := BN.here_mk (x := "_law_wrong") (st := BN.sLWrong) KX G (by k_is) (by k_is) (by k_is) (by k_is)
    have h36 := BN.here_mk (x := "_law_asked") (st := BN.sLAsked) KX G (by k_is) (by k_is) (by k_is) (by k_is)
    have h37 := BN.here_mk (x := "_law_count") (st := BN.sLCount) KX G (by k_is) (by k_is) (by k_is) (by k_is)
    have h38 := BN.here_mk (x := "law") (st := BN.sLaw) KX G (by k_is) (by k_is) (by k_is) (by k_is)
    exact BN.all_ok hmg T I h0 h1 h2 h3 h4 h5 h6 h7 h8 h9 h10 h11 h12 h13 h14 h15 h16 h17 h18 h19 h20 h21 h22 h23 h24 h25 h26 h27 h28 h29 h30 h31 h32 h33 h34 h35 h36 h37 h38
