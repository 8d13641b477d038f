import PyProof.Rows.All
import Wide.All
import OpenK.AllK
import Wide.FinOn
import HandS.ForMost
import HandS.Codes
import HandS.Defaults
import HandS.Walk
import HandS.Zip
import HandS.IsInst
import HandS.TupAny
import HandS.TupMul
import HandS.Wide
import HandS.Flow
import HandS.More
import HandS.Sort
import HandS.HeadHook2
import PySem.Challenge.RW_lengthcounts_k80_whole_counts_of_all_way
import PyProof.EnumMake
import PyProof.Draws
import PyProof.SeqRoads2
import KE.GoesMore
import KE.SortData
import KE.DataFind
import HandS.Dict
import HandS.Conv
import KE.KDictPairs
import KE.KDictKeyed
import KE.KDictCopyH
import KE.DatumOrd
import KE.KEqSeq
import KE.KStateDown
import HandS.Head0
import HandS.Head1
import HandS.Head2
import HandS.HeadEnd
import HandS.HeadHook1
set_option Elab.async false
set_option linter.all false
set_option maxRecDepth 100000
set_option maxHeartbeats 0
set_option exponentiation.threshold 10000
/-! Fractions as rationals: sizes. Core Lean alone. -/
namespace Lc
/-- both parts below 2 ^ n -/
structure Sz (n : Nat) (q : Rat) : Prop where
  num : q.num.natAbs < 2 ^ n
  den : q.den < 2 ^ n
theorem Sz.mono {n m : Nat} {q : Rat} (h : Sz n q) (hm : n ≤ m) : Sz m q := ⟨Nat.lt_of_lt_of_le h.num (Nat.pow_le_pow_right (by decide) hm), Nat.lt_of_lt_of_le h.den (Nat.pow_le_pow_right (by decide) hm)⟩
theorem divInt_sz {t b : Int} {n : Nat} (hb : 0 < b) (ht : t.natAbs < 2 ^ n) (hb2 : b.natAbs < 2 ^ n) : Sz n (Rat.divInt t b) := by
  have e1 := Rat.num_divInt t b
  have e2 := Rat.den_divInt t b
  constructor
  · rw [e1, Int.sign_eq_one_of_pos hb, Int.one_mul]
    refine Nat.lt_of_le_of_lt ?_ ht
    have hd : ((Int.gcd b t : Nat) : Int) ∣ t := Int.gcd_dvd_right ..
    rw [Int.natAbs_ediv_of_dvd hd]
    exact Nat.div_le_self _ _
  · rw [e2, if_neg (by omega)]
    exact Nat.lt_of_le_of_lt (Nat.div_le_self _ _) hb2
theorem divInt_self (q : Rat) : Rat.divInt q.num q.den = q := Rat.num_divInt_den q
theorem den_pos (q : Rat) : 0 < (q.den : Int) := by have := q.den_pos; omega
/-! ### the four operations by parts -/
theorem add_parts (p q : Rat) : Rat.divInt (p.num * q.den + q.num * p.den) (p.den * q.den) = p + q := by
  conv => rhs; rw [← divInt_self p, ← divInt_self q]
  rw [Rat.divInt_add_divInt _ _ (by have := den_pos p; omega) (by have := den_pos q; omega)]
theorem sub_parts (p q : Rat) : Rat.divInt (p.num * q.den - q.num * p.den) (p.den * q.den) = p - q := by
  conv => rhs; rw [← divInt_self p, ← divInt_self q]
  rw [Rat.divInt_sub_divInt _ _ (by have := den_pos p; omega) (by have := den_pos q; omega)]
theorem mul_parts (p q : Rat) : Rat.divInt (p.num * q.num) (p.den * q.den) = p * q := by
  conv => rhs; rw [← divInt_self p, ← divInt_self q]
  rw [Rat.divInt_mul_divInt]
theorem div_parts (p q : Rat) : Rat.divInt (p.num * q.den) (p.den * q.num) = p / q := by
  conv => rhs; rw [← divInt_self p, ← divInt_self q]
  rw [Rat.div_def, Rat.inv_divInt, Rat.divInt_mul_divInt]
theorem lt_parts (p q : Rat) : (p.num * q.den < q.num * p.den) ↔ p < q := (Rat.lt_iff p q).symm
theorem pow_mul_lt {a b n m : Nat} (ha : a < 2 ^ n) (hb : b < 2 ^ m) : a * b < 2 ^ (n + m) := by
  rw [Nat.pow_add]
  exact Nat.mul_lt_mul'' ha hb
theorem pow_add_lt {a b n : Nat} (ha : a < 2 ^ n) (hb : b < 2 ^ n) : a + b < 2 ^ (n + 1) := by
  rw [Nat.pow_succ]
  omega
theorem Sz.addI {n m : Nat} {p q : Rat} (a : Sz n p) (b : Sz m q) : (p.num * q.den + q.num * p.den).natAbs < 2 ^ (n + m + 1) := by
  have h1 := pow_mul_lt a.num b.den
  have h2 := pow_mul_lt b.num a.den
  rw [Nat.add_comm m n] at h2
  have h3 := pow_add_lt h1 h2
  refine Nat.lt_of_le_of_lt (Int.natAbs_add_le _ _) ?_
  rw [Int.natAbs_mul, Int.natAbs_mul]
  exact h3
theorem Sz.subI {n m : Nat} {p q : Rat} (a : Sz n p) (b : Sz m q) : (p.num * q.den - q.num * p.den).natAbs < 2 ^ (n + m + 1) := by
  have h1 := pow_mul_lt a.num b.den
  have h2 := pow_mul_lt b.num a.den
  rw [Nat.add_comm m n] at h2
  have h3 := pow_add_lt h1 h2
  refine Nat.lt_of_le_of_lt (Int.natAbs_sub_le _ _) ?_
  rw [Int.natAbs_mul, Int.natAbs_mul]
  exact h3
theorem Sz.denI {n m : Nat} {p q : Rat} (a : Sz n p) (b : Sz m q) : ((p.den : Int) * (q.den : Int)).natAbs < 2 ^ (n + m) := by
  rw [Int.natAbs_mul]
  exact pow_mul_lt a.den b.den
theorem denI_pos (p q : Rat) : 0 < (p.den : Int) * (q.den : Int) := Int.mul_pos (den_pos p) (den_pos q)
theorem Sz.add {n m : Nat} {p q : Rat} (a : Sz n p) (b : Sz m q) : Sz (n + m + 1) (p + q) := by
  rw [← add_parts]
  exact divInt_sz (denI_pos p q) (a.addI b) (Nat.lt_of_lt_of_le (a.denI b) (Nat.pow_le_pow_right (by decide) (by omega)))
theorem Sz.sub {n m : Nat} {p q : Rat} (a : Sz n p) (b : Sz m q) : Sz (n + m + 1) (p - q) := by
  rw [← sub_parts]
  exact divInt_sz (denI_pos p q) (a.subI b) (Nat.lt_of_lt_of_le (a.denI b) (Nat.pow_le_pow_right (by decide) (by omega)))
theorem Sz.mulI {n m : Nat} {p q : Rat} (a : Sz n p) (b : Sz m q) : (p.num * q.num).natAbs < 2 ^ (n + m) := by
  rw [Int.natAbs_mul]
  exact pow_mul_lt a.num b.num
theorem Sz.mul {n m : Nat} {p q : Rat} (a : Sz n p) (b : Sz m q) : Sz (n + m) (p * q) := by
  rw [← mul_parts]
  exact divInt_sz (denI_pos p q) (a.mulI b) (a.denI b)
theorem num_pos {q : Rat} (h : 0 < q) : 0 < q.num := by
  have h1 : 0 ≤ q.num := Rat.num_nonneg.mpr (Rat.le_of_lt h)
  have h2 : q.num ≠ 0 := fun e => by
    rw [Rat.num_eq_zero] at e
    rw [e] at h
    exact absurd h (Rat.lt_irrefl)
  omega
theorem Sz.div {n m : Nat} {p q : Rat} (a : Sz n p) (b : Sz m q) (h : 0 < q) : Sz (n + m) (p / q) := by
  rw [← div_parts]
  have hn : 0 < q.num := num_pos h
  refine divInt_sz (Int.mul_pos (den_pos p) hn) ?_ ?_
  · rw [Int.natAbs_mul]
    exact pow_mul_lt a.num b.den
  · rw [Int.natAbs_mul]
    exact pow_mul_lt a.den b.num
theorem Sz.int {n : Nat} {i : Int} (h : i.natAbs < 2 ^ n) (h0 : 0 < n) : Sz n (i : Rat) := ⟨h, Nat.lt_of_lt_of_le (by decide : (1 : Nat) < 2 ^ 1) (Nat.pow_le_pow_right (by decide) h0)⟩
theorem Sz.zero {n : Nat} (h0 : 0 < n) : Sz n (0 : Rat) := ⟨by show 0 < 2 ^ n; exact Nat.two_pow_pos n, Nat.lt_of_lt_of_le (by decide : (1 : Nat) < 2 ^ 1) (Nat.pow_le_pow_right (by decide) h0)⟩
/-! ### whole roots -/
def sq : Nat → Nat
  | 0 => 0
  | n + 1 => if (sq n + 1) * (sq n + 1) ≤ n + 1 then sq n + 1 else sq n
theorem sq_spec : ∀ n, sq n * sq n ≤ n ∧ n < (sq n + 1) * (sq n + 1)
  | 0 => by decide
  | n + 1 => by
    obtain ⟨h1, h2⟩ := sq_spec n
    unfold sq
    split
    · rename_i h
      refine ⟨h, ?_⟩
      have e : (sq n + 1 + 1) * (sq n + 1 + 1) = (sq n + 1) * (sq n + 1) + 2 * (sq n + 1) + 1 := by grind
      omega
    · rename_i h
      exact ⟨by omega, by omega⟩
/-- the greatest whole number whose square is no more than n; 0 below nought -/
def rt (n : Int) : Int := (sq n.toNat : Nat)
theorem rt_nonneg (n : Int) : 0 ≤ rt n := by unfold rt; omega
theorem rt_neg {n : Int} (h : n ≤ 0) : rt n = 0 := by
  unfold rt
  rw [show n.toNat = 0 by omega]
  rfl
theorem rt_le {n : Int} (h : 0 ≤ n) : rt n * rt n ≤ n := by
  have := (sq_spec n.toNat).1
  unfold rt
  have e : ((sq n.toNat : Nat) : Int) * (sq n.toNat : Nat) = ((sq n.toNat * sq n.toNat : Nat) : Int) := by simp
  rw [e]
  omega
theorem rt_lt (n : Int) : n < (rt n + 1) * (rt n + 1) := by
  have := (sq_spec n.toNat).2
  unfold rt
  have e : (((sq n.toNat : Nat) : Int) + 1) * ((sq n.toNat : Nat) + 1) = (((sq n.toNat + 1) * (sq n.toNat + 1) : Nat) : Int) := by simp
  rw [e]
  omega
theorem sq_lt {a b : Int} (ha : 0 ≤ a) (h : a * a < b * b) (hb : 0 ≤ b) : a < b := by
  rcases Int.lt_or_le a b with h1 | h1
  · exact h1
  · have := Int.mul_le_mul h1 h1 hb ha
    omega
theorem rt_uniq {n r : Int} (h0 : 0 ≤ r) (h1 : r * r ≤ n) (h2 : n < (r + 1) * (r + 1)) : rt n = r := by
  have hn : 0 ≤ n := Int.le_trans (Int.mul_nonneg h0 h0) h1
  have a := rt_le hn
  have b := rt_lt n
  have c := rt_nonneg n
  have d1 : rt n < r + 1 := sq_lt c (by omega) (by omega)
  have d2 : r < rt n + 1 := sq_lt h0 (by omega) (by omega)
  omega
end Lc

/-! The data layer of this claim: what a reading evaluates to, as plain data, in a part G of the heap that never changes. -/
namespace Lc
open PySem PySem.Spec PyProof.Rows L2
abbrev PD := PyData
/-- the list at p, which may change -/
def adr (p : Addr) : PD := .str ⟨#[p]⟩
/-- a dict of tuples of ints to lists that may change -/
def dctD (ks : List (List Int)) (ps : List Addr) : PD := .dict [(.list (ks.map fun k => .list (k.map .int)), .list (ps.map adr))]
/-- a tuple of ints that may be a key -/
def keyD (k : List Int) : PD := .dict [(.none, .list (k.map .int))]
/-- a dict of tuples of ints to lists of ints that change no more -/
def dcfD (ks cs : List (List Int)) : PD := .dict [(.int 0, .list (ks.map fun k => .list (k.map .int))), (.int 1, .list (cs.map fun c => .list (c.map .int)))]
/-- the law's script: a list of ints that nobody changes -/
def scrD (ns : List Int) : PD := .dict [(.bool true, .list (ns.map .int))]
/-! ### data -/
mutual
inductive Dq (K : PySem.W.Frag) (G : Hp) : V → PD → Prop
  | non : Dq K G .non .none
  | bl (b : Bool) : Dq K G (.bl b) (.bool b)
  | int (i : Int) : Dq K G (.int i) (.int i)
  | lst {a : Addr} {xs : List V} {ds : List PD} : G a = some (.lst xs) → DqA K G xs ds → Dq K G (.ref a) (.list ds)
  | tup {a : Addr} {xs : List V} {ds : List PD} : SqT K G a xs → DqA K G xs ds → Dq K G (.ref a) (.tuple ds)
  | adr (p : Addr) : Dq K G (.ref p) (adr p)
  | dct {a : Addr} (ks : List (List Int)) (ps : List Addr) : G a = some (.dT (List.zipWith (fun k p => (k.map Sum.inl, V.ref p)) ks ps)) → Dq K G (.ref a) (dctD ks ps)
  | key {a : Addr} (k : List Int) : G a = some (.tup (k.map V.int)) → Dq K G (.ref a) (keyD k)
  | dcf {a : Addr} (ks : List (List Int)) (ps : List Addr) (cs : List (List Int)) : G a = some (.dT (List.zipWith (fun k p => (k.map Sum.inl, V.ref p)) ks ps)) → Paired (fun p c => G p = some (.lst (List.map V.int c))) ps cs → Dq K G (.ref a) (dcfD ks cs)
  | scr {a : Addr} (ns : List Int) : SqL K G a (ns.map V.int) → Dq K G (.ref a) (scrD ns)
inductive DqA (K : PySem.W.Frag) (G : Hp) : List V → List PD → Prop
  | nil : DqA K G [] []
  | cons {v : V} {vs : List V} {d : PD} {ds : List PD} : Dq K G v d → DqA K G vs ds → DqA K G (v :: vs) (d :: ds)
end
theorem same_t {K : PySem.W.Frag} {H H' : Hp} {a : Addr} {xs : List V} (e : Same H H') (h : SqT K H a xs) : SqT K H' a xs := by
  rcases h with (h | ⟨o, h⟩) | h
  · exact .inl (.inl (e _ _ h))
  · exact .inl (.inr ⟨o, e _ _ h⟩)
  · exact .inr h
theorem same_l {K : PySem.W.Frag} {H H' : Hp} {a : Addr} {xs : List V} (e : Same H H') (h : SqL K H a xs) : SqL K H' a xs := by
  rcases h with (h | ⟨o, h⟩) | h
  · exact .inl (.inl (e _ _ h))
  · exact .inl (.inr ⟨o, e _ _ h⟩)
  · exact .inr h
section
variable {K : PySem.W.Frag} {G H G2 H2 : Hp}
mutual
theorem Dq.same (e : Same G H) : ∀ (d : PD) (v : V), Dq K G v d → Dq K H v d
  | .none, _, h => by cases h; exact .non
  | .bool b, _, h => by cases h; exact .bl _
  | .int i, _, h => by cases h; exact .int _
  | .str x, _, h => by cases h; exact .adr _
  | .list ds, _, h => by
    cases h with
    | lst hs ha => exact .lst (e _ _ hs) (DqA.same e ds _ ha)
  | .tuple ds, _, h => by
    cases h with
    | tup hs ha => exact .tup (same_t e hs) (DqA.same e ds _ ha)
  | .dict _, _, h => by
    cases h with
    | dct ks ps h1 => exact .dct ks ps (e _ _ h1)
    | key k h1 => exact .key k (e _ _ h1)
    | dcf ks ps cs h1 h2 => exact .dcf ks ps cs (e _ _ h1) (Paired.mapP h2 fun _ _ z => e _ _ z)
    | scr ns h1 => exact .scr ns (same_l e h1)
theorem DqA.same (e : Same G H) : ∀ (ds : List PD) (vs : List V), DqA K G vs ds → DqA K H vs ds
  | [], _, h => by cases h; exact .nil
  | d :: ds, _, h => by
    cases h with
    | cons h1 h2 => exact .cons (Dq.same e d _ h1) (DqA.same e ds _ h2)
end
/-- data of numbers, truths, lists, tuples alone -/
def Dpo (d : PD) : Prop := ∀ (K : PySem.W.Frag) (G : Hp) (v : V), Dq K G v d → Dp K G v d
theorem dpo_int (i : Int) : Dpo (.int i) := fun K G v h => by cases h; exact .int _
theorem dpo_bl (b : Bool) : Dpo (.bool b) := fun K G v h => by cases h; exact .bl _
theorem dpo_non : Dpo .none := fun K G v h => by cases h; exact .non
theorem DqA.dp : ∀ (ds : List PD) (vs : List V), (∀ d ∈ ds, Dpo d) → DqA K G vs ds → DpAll K G vs ds
  | [], _, _, h => by cases h; exact .nil
  | d :: ds, _, hd, h => by
    cases h with
    | cons h1 h2 => exact .cons (hd d List.mem_cons_self K G _ h1) (DqA.dp ds _ (fun x hx => hd x (List.mem_cons_of_mem _ hx)) h2)
theorem dpo_lst {ds : List PD} (hd : ∀ d ∈ ds, Dpo d) : Dpo (.list ds) := fun K G v h => by
  cases h with
  | lst hs ha => exact .lst (.inl (.inl hs)) (DqA.dp ds _ hd ha)
theorem dpo_tup {ds : List PD} (hd : ∀ d ∈ ds, Dpo d) : Dpo (.tuple ds) := fun K G v h => by
  cases h with
  | tup hs ha => exact .tup hs (DqA.dp ds _ hd ha)
theorem dpo_ints {ns : List Int} : Dpo (.tuple (ns.map .int)) := dpo_tup fun d hd => by
  obtain ⟨i, _, rfl⟩ := List.mem_map.mp hd
  exact dpo_int i
theorem DqA.len : ∀ {ds : List PD} {vs : List V}, DqA K G vs ds → vs.length = ds.length
  | [], _, h => by cases h; rfl
  | d :: ds, _, h => by
    cases h with
    | cons h1 h2 => rw [List.length_cons, List.length_cons, DqA.len h2]
theorem DqA.get : ∀ {ds : List PD} {vs : List V} {i : Nat} {d : PD}, DqA K G vs ds → ds[i]? = some d → ∃ v, vs[i]? = some v ∧ Dq K G v d
  | [], _, _, _, _, e => by simp at e
  | d :: ds, _, 0, _, .cons h1 _, e => by
    simp at e
    subst e
    exact ⟨_, rfl, h1⟩
  | d :: ds, _, i + 1, x, .cons _ h2, e => by
    obtain ⟨v, h3, h4⟩ := DqA.get (i := i) (d := x) h2 (by simpa using e)
    exact ⟨v, by simpa using h3, h4⟩
theorem DqA.get' : ∀ {ds : List PD} {vs : List V} {i : Nat} {v : V}, DqA K G vs ds → vs[i]? = some v → ∃ d, ds[i]? = some d ∧ Dq K G v d
  | [], _, _, _, .nil, e => by simp at e
  | d :: ds, _, 0, _, .cons h1 _, e => by
    simp at e
    subst e
    exact ⟨_, rfl, h1⟩
  | d :: ds, _, i + 1, x, .cons _ h2, e => by
    obtain ⟨v, h3, h4⟩ := DqA.get' (i := i) (v := x) h2 (by simpa using e)
    exact ⟨v, by simpa using h3, h4⟩
theorem DqA.app : ∀ {ds es : List PD} {vs ws : List V}, DqA K G vs ds → DqA K G ws es → DqA K G (vs ++ ws) (ds ++ es)
  | [], _, _, _, .nil, h => h
  | _ :: _, _, _, _, .cons h1 h2, h => .cons h1 (DqA.app h2 h)
theorem DqA.take : ∀ {ds : List PD} {vs : List V} (n : Nat), DqA K G vs ds → DqA K G (vs.take n) (ds.take n)
  | _, _, 0, _ => .nil
  | _, _, _ + 1, .nil => .nil
  | _, _, n + 1, .cons h1 h2 => .cons h1 (DqA.take n h2)
theorem DqA.drop : ∀ {ds : List PD} {vs : List V} (n : Nat), DqA K G vs ds → DqA K G (vs.drop n) (ds.drop n)
  | _, _, 0, h => h
  | _, _, _ + 1, .nil => .nil
  | _, _, n + 1, .cons _ h2 => DqA.drop n h2
theorem DqA.set : ∀ {ds : List PD} {vs : List V} {v : V} {d : PD} (n : Nat), Dq K G v d → DqA K G vs ds → DqA K G (vs.set n v) (ds.set n d)
  | _, _, _, _, _, _, .nil => .nil
  | _, _, _, _, 0, h, .cons _ h2 => .cons h h2
  | _, _, _, _, n + 1, h, .cons h1 h2 => .cons h1 (DqA.set n h h2)
theorem DqA.ints : ∀ {ns : List Int} {vs : List V}, DqA K G vs (ns.map PyData.int) → vs = ns.map V.int
  | [], _, .nil => rfl
  | n :: ns, _, .cons h1 h2 => by
    cases h1
    rw [DqA.ints h2]
    rfl
theorem DqA.of_ints : ∀ (ns : List Int), DqA K G (ns.map V.int) (ns.map PyData.int)
  | [] => .nil
  | n :: ns => .cons (.int n) (DqA.of_ints ns)
theorem DqA.bls : ∀ {bs : List Bool} {vs : List V}, DqA K G vs (bs.map PyData.bool) → vs = bs.map V.bl
  | [], _, .nil => rfl
  | n :: ns, _, .cons h1 h2 => by
    cases h1
    rw [DqA.bls h2]
    rfl
theorem Dq.list_inv {v : V} {ds : List PD} (h : Dq K G v (.list ds)) : ∃ a xs, v = .ref a ∧ G a = some (.lst xs) ∧ DqA K G xs ds := by
  cases h with
  | lst hs ha => exact ⟨_, _, rfl, hs, ha⟩
theorem Dq.tup_inv {v : V} {ds : List PD} (h : Dq K G v (.tuple ds)) : ∃ a xs, v = .ref a ∧ SqT K G a xs ∧ DqA K G xs ds := by
  cases h with
  | tup hs ha => exact ⟨_, _, rfl, hs, ha⟩
theorem Dq.adr_inv {v : V} {p : Addr} (h : Dq K G v (Lc.adr p)) : v = .ref p := by
  generalize hd : Lc.adr p = d at h
  cases h with
  | adr q =>
    have e : p = q := by
      have := PyData.str.inj hd
      simpa using this
    rw [e]
  | dct ks ps _ => exact nomatch hd
  | key k _ => exact nomatch hd
  | dcf ks ps cs _ _ => exact nomatch hd
  | scr ns _ => exact nomatch hd
  | non => exact nomatch hd
  | bl _ => exact nomatch hd
  | int _ => exact nomatch hd
  | lst _ _ => exact nomatch hd
  | tup _ _ => exact nomatch hd
theorem Dq.int_inv {v : V} {i : Int} (h : Dq K G v (.int i)) : v = .int i := by cases h; rfl
theorem Dq.bl_inv {v : V} {b : Bool} (h : Dq K G v (.bool b)) : v = .bl b := by cases h; rfl
theorem same_sq {a : Addr} {xs : List V} (e : Same G H) (h : G a = some (.lst xs)) : SqL K H a xs := .inl (.inl (e _ _ h))
theorem sqT_len_ok {n : Nat} (h : n ≤ 10000000) : n ≤ sizeLine := Nat.le_trans h (by decide)
theorem sz_lt {n : Nat} (h : n ≤ 10000000) : n < sizeLine := Nat.lt_of_le_of_lt h (by decide)
/-! ### steps of a pure evaluation -/
structure Stp (G H G2 H2 : Hp) : Prop where
  g : Same G G2
  h : Same H H2
  gh : Same G2 H2
  own : ∀ (a : Addr) (xs : List V), H a = some (.lst xs) → G a = none → G2 a = none
theorem Stp.refl (e : Same G H) : Stp G H G H := ⟨Same.refl _, Same.refl _, e, fun _ _ _ h => h⟩
theorem Stp.trans {G1 H1 : Hp} (a : Stp G H G1 H1) (b : Stp G1 H1 G2 H2) : Stp G H G2 H2 :=
  ⟨a.g.trans b.g, a.h.trans b.h, b.gh, fun x o h n => b.own x o (a.h x _ h) (a.own x o h n)⟩
theorem same_new {p : Addr} {o : HO} (h : H p = none) : Same H (upd H p o) := fun b x e => by
  rw [upd_ne (ne_of_none e h)]
  exact e
theorem none_of_same {p : Addr} (e : Same G H) (h : H p = none) : G p = none := Same.free e h
/-- a new object that stays as it is -/
theorem Stp.new {p : Addr} {o : HO} (e : Same G H) (h : H p = none) : Stp G H (upd G p o) (upd H p o) := by
  have hg := none_of_same e h
  refine ⟨same_new hg, same_new h, fun b x q => ?_, fun a u q n => ?_⟩
  · by_cases hb : b = p
    · subst hb
      rw [upd_same] at q ⊢
      exact q
    · rw [upd_ne hb] at q ⊢
      exact e b x q
  · rw [upd_ne (ne_of_none q h)]
    exact n
/-- a new object that may change -/
theorem Stp.newM {p : Addr} {o : HO} (e : Same G H) (h : H p = none) : Stp G H G (upd H p o) :=
  ⟨Same.refl _, same_new h, e.trans (same_new h), fun a u q n => n⟩
/-- a new object that will not change any more -/
theorem Stp.frz {p : Addr} {o : HO} (s : Stp G H G2 H2) (hp : H p = none) (h2 : H2 p = some o) (hg : G2 p = none) : Stp G H (upd G2 p o) H2 := by
  refine ⟨fun b x q => ?_, s.h, fun b x q => ?_, fun a u q n => ?_⟩
  · have h3 := s.g b x q
    rw [upd_ne (ne_of_none h3 hg)]
    exact h3
  · by_cases hb : b = p
    · subst hb
      rw [upd_same] at q
      cases q
      exact h2
    · rw [upd_ne hb] at q
      exact s.gh b x q
  · rw [upd_ne (ne_of_none q hp)]
    exact s.own a u q n
end
/-! ### slots -/
inductive Sl where
  | no
  | d (d : PD)
  | r (p : Addr)
def SlOk (K : PySem.W.Frag) (G : Hp) (o : Option V) : Sl → Prop
  | .no => True
  | .d d => ∃ v, o = some v ∧ Dq K G v d
  | .r p => o = some (.ref p)
abbrev Mt := List (Addr × List PD)
structure Now (K : PySem.W.Frag) (ρ : List Sl) (M : Mt) (σ : L2.St) (G H : Hp) : Prop where
  gh : Same G H
  env : Paired (SlOk K G) σ ρ
  mm : ∀ q ∈ M, G q.1 = none ∧ ∃ vs, H q.1 = some (.lst vs) ∧ DqA K G vs q.2
section
variable {K : PySem.W.Frag} {G H G2 H2 : Hp} {ρ ρ' : List Sl} {M : Mt} {σ : L2.St}
theorem SlOk.same (e : Same G G2) {o : Option V} : ∀ {x : Sl}, SlOk K G o x → SlOk K G2 o x
  | .no, _ => True.intro
  | .d d, ⟨v, h1, h2⟩ => ⟨v, h1, Dq.same e _ _ h2⟩
  | .r p, h => h
theorem env_same (e : Same G G2) : ∀ {σ : L2.St} {ρ : List Sl}, Paired (SlOk K G) σ ρ → Paired (SlOk K G2) σ ρ
  | _, _, .nil => .nil
  | _, _, .cons a b => .cons (a.same e) (env_same e b)
theorem Now.stp (n : Now K ρ M σ G H) (s : Stp G H G2 H2) : Now K ρ M σ G2 H2 :=
  ⟨s.gh, env_same s.g n.env, fun q hq => by
    obtain ⟨h1, vs, h2, h3⟩ := n.mm q hq
    exact ⟨s.own _ _ h2 h1, vs, s.h _ _ h2, DqA.same s.g _ _ h3⟩⟩
theorem env_get : ∀ {σ : L2.St} {ρ : List Sl} {i : Nat} {x : Sl}, Paired (SlOk K G) σ ρ → ρ[i]? = some x → ∃ o, σ[i]? = some o ∧ SlOk K G o x
  | _, _, _, _, .nil, e => by simp at e
  | _, _, 0, _, .cons a _, e => by simp at e; subst e; exact ⟨_, rfl, a⟩
  | _, _, i + 1, x, .cons _ b, e => by
    obtain ⟨o, h1, h2⟩ := env_get (i := i) (x := x) b (by simpa using e)
    exact ⟨o, by simpa using h1, h2⟩
theorem env_set {o : Option V} {x : Sl} (h : SlOk K G o x) : ∀ {σ : L2.St} {ρ : List Sl} (i : Nat), Paired (SlOk K G) σ ρ → Paired (SlOk K G) (σ.set i o) (ρ.set i x)
  | _, _, _, .nil => .nil
  | _, _, 0, .cons _ b => .cons h b
  | _, _, i + 1, .cons a b => .cons a (env_set h i b)
/-! ### what evaluates to what -/
def EvD (K : PySem.W.Frag) (te : TE) (ρ : List Sl) (M : Mt) (d : PD) : Prop :=
  ∀ σ G H, Now K ρ M σ G H → ∀ Q : VK, (∀ v G2 H2, Stp G H G2 H2 → Dq K G2 v d → Q v H2) → te σ H Q
def EvT (K : PySem.W.Frag) (tt : TT) (ρ : List Sl) (M : Mt) (b : Bool) : Prop :=
  ∀ σ G H, Now K ρ M σ G H → ∀ Q : Bool → Hp → Prop, (∀ G2 H2, Stp G H G2 H2 → Q b H2) → tt σ H Q
def EvA (K : PySem.W.Frag) (ta : TA) (ρ : List Sl) (M : Mt) (ds : List PD) : Prop :=
  ∀ σ G H, Now K ρ M σ G H → ∀ Q : List V → Hp → Prop, (∀ vs G2 H2, Stp G H G2 H2 → DqA K G2 vs ds → Q vs H2) → ta σ H Q
/-- a new list -/
def EvL (K : PySem.W.Frag) (te : TE) (ρ : List Sl) (M : Mt) (ds : List PD) : Prop :=
  ∀ σ G H, Now K ρ M σ G H → ∀ Q : VK, (∀ p vs G2 H2, Stp G H G2 H2 → H p = none → G2 p = none → H2 p = some (.lst vs) → DqA K G2 vs ds → Q (.ref p) H2) → te σ H Q
/-- a slice's part -/
def EvO (K : PySem.W.Frag) (to : TO) (ρ : List Sl) (M : Mt) (o : Option Int) : Prop :=
  ∀ σ G H, Now K ρ M σ G H → ∀ Q : Option Int → Hp → Prop, (∀ G2 H2, Stp G H G2 H2 → Q o H2) → to σ H Q
def RvD (K : PySem.W.Frag) (r : R2) (d1 d2 d : PD) : Prop :=
  ∀ G H x y, Same G H → Dq K G x d1 → Dq K G y d2 → ∀ Q : VK, (∀ v G2 H2, Stp G H G2 H2 → Dq K G2 v d → Q v H2) → r x y H Q
def RcD (K : PySem.W.Frag) (r : List V → Hp → VK → Prop) (ds : List PD) (d : PD) : Prop :=
  ∀ G H vs, Same G H → DqA K G vs ds → ∀ Q : VK, (∀ v G2 H2, Stp G H G2 H2 → Dq K G2 v d → Q v H2) → r vs H Q
/-- a new list -/
def RvL (K : PySem.W.Frag) (r : R2) (d1 d2 : PD) (ds : List PD) : Prop :=
  ∀ G H x y, Same G H → Dq K G x d1 → Dq K G y d2 → ∀ Q : VK, (∀ p vs G2 H2, Stp G H G2 H2 → H p = none → G2 p = none → H2 p = some (.lst vs) → DqA K G2 vs ds → Q (.ref p) H2) → r x y H Q
def RcL (K : PySem.W.Frag) (r : List V → Hp → VK → Prop) (es ds : List PD) : Prop :=
  ∀ G H vs, Same G H → DqA K G vs es → ∀ Q : VK, (∀ p vs G2 H2, Stp G H G2 H2 → H p = none → G2 p = none → H2 p = some (.lst vs) → DqA K G2 vs ds → Q (.ref p) H2) → r vs H Q

variable {ta tb te tc : TE} {tt uu : TT} {d d1 d2 : PD} {ds es : List PD} {r r' : R2}
theorem EvL.toD (h : EvL K te ρ M ds) : EvD K te ρ M (.list ds) := fun σ G H n Q q => h σ G H n Q fun p vs G2 H2 s hp hg h2 hd =>
  q _ _ _ (s.frz hp h2 hg) (.lst upd_same (DqA.same (same_new hg) _ _ hd))
theorem RvL.toD (h : RvL K r d1 d2 ds) : RvD K r d1 d2 (.list ds) := fun G H x y e hx hy Q q => h G H x y e hx hy Q fun p vs G2 H2 s hp hg h2 hd =>
  q _ _ _ (s.frz hp h2 hg) (.lst upd_same (DqA.same (same_new hg) _ _ hd))
theorem RcL.toD {rc : List V → Hp → VK → Prop} (h : RcL K rc es ds) : RcD K rc es (.list ds) := fun G H vs e hx Q q => h G H vs e hx Q fun p vs G2 H2 s hp hg h2 hd =>
  q _ _ _ (s.frz hp h2 hg) (.lst upd_same (DqA.same (same_new hg) _ _ hd))
theorem EvD.is (h : EvD K te ρ M d) (e : d = d1) : EvD K te ρ M d1 := by rw [← e]; exact h
theorem EvL.is (h : EvL K te ρ M ds) (e : ds = es) : EvL K te ρ M es := by rw [← e]; exact h
theorem EvT.is {a b : Bool} (h : EvT K tt ρ M a) (e : a = b) : EvT K tt ρ M b := by rw [← e]; exact h
theorem EvA.is {ta : TA} (h : EvA K ta ρ M ds) (e : ds = es) : EvA K ta ρ M es := by rw [← e]; exact h
theorem ev_var {i : Nat} (h : ρ[i]? = some (.d d)) : EvD K (tVar i) ρ M d := fun σ G H n Q q => by
  obtain ⟨o, h1, v, h2, h3⟩ := env_get n.env h
  subst h2
  exact ⟨v, h1, q _ _ _ (Stp.refl n.gh) h3⟩
theorem ev_int {i : Int} : EvD K (tC (.int i)) ρ M (.int i) := fun σ G H n Q q => q _ _ _ (Stp.refl n.gh) (.int i)
theorem ev_bl {b : Bool} : EvD K (tC (.bl b)) ρ M (.bool b) := fun σ G H n Q q => q _ _ _ (Stp.refl n.gh) (.bl b)
theorem ev_non : EvD K (tC .non) ρ M .none := fun σ G H n Q q => q _ _ _ (Stp.refl n.gh) .non
theorem ev_cst {v : V} (h : ∀ G, Dq K G v d) : EvD K (tC v) ρ M d := fun σ G H n Q q => q _ _ _ (Stp.refl n.gh) (h G)
theorem ev_op (ha : EvD K ta ρ M d1) (hb : EvD K tb ρ M d2) (hr : RvD K r d1 d2 d) : EvD K (tOp r ta tb) ρ M d := fun σ G H n Q q =>
  ha σ G H n _ fun x G1 H1 s1 h1 => hb σ G1 H1 (n.stp s1) _ fun y G2 H2 s2 h2 => hr G2 H2 x y s2.gh (Dq.same s2.g _ _ h1) h2 Q fun v G3 H3 s3 h3 => q v G3 H3 ((s1.trans s2).trans s3) h3
theorem ev_opL (ha : EvD K ta ρ M d1) (hb : EvD K tb ρ M d2) (hr : RvL K r d1 d2 ds) : EvL K (tOp r ta tb) ρ M ds := fun σ G H n Q q =>
  ha σ G H n _ fun x G1 H1 s1 h1 => hb σ G1 H1 (n.stp s1) _ fun y G2 H2 s2 h2 => hr G2 H2 x y s2.gh (Dq.same s2.g _ _ h1) h2 Q fun p vs G3 H3 s3 hp hg h3 hd =>
    q p vs G3 H3 ((s1.trans s2).trans s3) (none_of_same (s1.h.trans s2.h) hp) hg h3 hd
theorem ev_un {ru : V → Hp → VK → Prop} (ha : EvD K ta ρ M d1) (hr : ∀ G H x, Same G H → Dq K G x d1 → ∀ Q : VK, (∀ v G2 H2, Stp G H G2 H2 → Dq K G2 v d → Q v H2) → ru x H Q) : EvD K (tUn ru ta) ρ M d := fun σ G H n Q q =>
  ha σ G H n _ fun x G1 H1 s1 h1 => hr G1 H1 x s1.gh h1 Q fun v G3 H3 s3 h3 => q v G3 H3 (s1.trans s3) h3
theorem ea_nil : EvA K tNil ρ M [] := fun σ G H n Q q => q _ _ _ (Stp.refl n.gh) .nil
theorem ea_cons {tr : TA} (ha : EvD K ta ρ M d) (hb : EvA K tr ρ M ds) : EvA K (tCons ta tr) ρ M (d :: ds) := fun σ G H n Q q =>
  ha σ G H n _ fun x G1 H1 s1 h1 => hb σ G1 H1 (n.stp s1) _ fun xs G2 H2 s2 h2 => q _ G2 H2 (s1.trans s2) (.cons (Dq.same s2.g _ _ h1) h2)
theorem ev_cb {rc : List V → Hp → VK → Prop} {tA : TA} (ha : EvA K tA ρ M ds) (hr : RcD K rc ds d) : EvD K (tCB rc tA) ρ M d := fun σ G H n Q q =>
  ha σ G H n _ fun xs G1 H1 s1 h1 => hr G1 H1 xs s1.gh h1 Q fun v G3 H3 s3 h3 => q v G3 H3 (s1.trans s3) h3
theorem ev_cbL {rc : List V → Hp → VK → Prop} {tA : TA} (ha : EvA K tA ρ M es) (hr : RcL K rc es ds) : EvL K (tCB rc tA) ρ M ds := fun σ G H n Q q =>
  ha σ G H n _ fun xs G1 H1 s1 h1 => hr G1 H1 xs s1.gh h1 Q fun p vs G3 H3 s3 hp hg h3 hd => q p vs G3 H3 (s1.trans s3) (none_of_same s1.h hp) hg h3 hd
theorem ev_tup {tA : TA} (ha : EvA K tA ρ M ds) (hl : ds.length ≤ 10000000) : EvD K (tTup tA) ρ M (.tuple ds) := fun σ G H n Q q =>
  ha σ G H n _ fun xs G1 H1 s1 h1 => ⟨by rw [h1.len]; exact sqT_len_ok hl, fun p hp => q _ _ _ (s1.trans (Stp.new s1.gh hp)) (.tup (.inl (.inl upd_same)) (DqA.same (same_new (none_of_same s1.gh hp)) _ _ h1))⟩
theorem ev_lst {tA : TA} (ha : EvA K tA ρ M ds) (hl : ds.length ≤ 10000000) : EvL K (tLst tA) ρ M ds := fun σ G H n Q q =>
  ha σ G H n _ fun xs G1 H1 s1 h1 => ⟨by rw [h1.len]; exact sqT_len_ok hl, fun p hp => q p xs G1 _ (s1.trans (Stp.newM s1.gh hp)) (none_of_same s1.h hp) (none_of_same s1.gh hp) upd_same h1⟩
/-! ### tests -/
theorem et_test {b : Bool} (h : EvD K te ρ M (.bool b)) : EvT K (tTest te) ρ M b := fun σ G H n Q q => h σ G H n _ fun v G2 H2 s hv => ⟨b, hv.bl_inv, q G2 H2 s⟩
theorem et_B {b : Bool} (h : EvD K te ρ M (.bool b)) : EvT K (tB te) ρ M b := fun σ G H n Q q => h σ G H n _ fun v G2 H2 s hv => ⟨b, hv.bl_inv, q G2 H2 s⟩
theorem et_and {a b : Bool} (h1 : EvT K tt ρ M a) (h2 : a = true → EvT K uu ρ M b) : EvT K (tAnd tt uu) ρ M (a && b) := fun σ G H n Q q => h1 σ G H n _ fun G2 H2 s => by
  cases a with
  | true => exact h2 rfl σ G2 H2 (n.stp s) Q fun G3 H3 s3 => q G3 H3 (s.trans s3)
  | false => exact q G2 H2 s
theorem et_or {a b : Bool} (h1 : EvT K tt ρ M a) (h2 : a = false → EvT K uu ρ M b) : EvT K (tOr tt uu) ρ M (a || b) := fun σ G H n Q q => h1 σ G H n _ fun G2 H2 s => by
  cases a with
  | true => exact q G2 H2 s
  | false => exact h2 rfl σ G2 H2 (n.stp s) Q fun G3 H3 s3 => q G3 H3 (s.trans s3)
theorem et_not {a : Bool} (h1 : EvT K tt ρ M a) : EvT K (tNot tt) ρ M (!a) := fun σ G H n Q q => h1 σ G H n _ fun G2 H2 s => q G2 H2 s
theorem ev_andV {a b : Bool} (h1 : EvD K ta ρ M (.bool a)) (h2 : a = true → EvD K tb ρ M (.bool b)) : EvD K (tAndV ta tb) ρ M (.bool (a && b)) := fun σ G H n Q q => h1 σ G H n _ fun v G2 H2 s hv => ⟨a, hv.bl_inv, by
  cases a with
  | true => exact h2 rfl σ G2 H2 (n.stp s) Q fun v G3 H3 s3 h3 => q v G3 H3 (s.trans s3) h3
  | false => exact q _ G2 H2 s (.bl false)⟩
theorem ev_orV {a b : Bool} (h1 : EvD K ta ρ M (.bool a)) (h2 : a = false → EvD K tb ρ M (.bool b)) : EvD K (tOrV ta tb) ρ M (.bool (a || b)) := fun σ G H n Q q => h1 σ G H n _ fun v G2 H2 s hv => ⟨a, hv.bl_inv, by
  cases a with
  | true => exact q _ G2 H2 s (.bl true)
  | false => exact h2 rfl σ G2 H2 (n.stp s) Q fun v G3 H3 s3 h3 => q v G3 H3 (s.trans s3) h3⟩
theorem ev_notV {a : Bool} (h1 : EvD K ta ρ M (.bool a)) : EvD K (tNotV ta) ρ M (.bool (!a)) := fun σ G H n Q q => h1 σ G H n _ fun v G2 H2 s hv => ⟨a, hv.bl_inv, q _ G2 H2 s (.bl _)⟩
theorem ev_if {a : Bool} (h : EvT K tt ρ M a) (h1 : a = true → EvD K ta ρ M d) (h2 : a = false → EvD K tb ρ M d) : EvD K (tIf tt ta tb) ρ M d := fun σ G H n Q q => h σ G H n _ fun G2 H2 s => by
  cases a with
  | true => exact h1 rfl σ G2 H2 (n.stp s) Q fun v G3 H3 s3 h3 => q v G3 H3 (s.trans s3) h3
  | false => exact h2 rfl σ G2 H2 (n.stp s) Q fun v G3 H3 s3 h3 => q v G3 H3 (s.trans s3) h3
/-- a < b < c -/
theorem ev_chain {k1 k2 : Bool} {d3 : PD} (ha : EvD K ta ρ M d1) (hb : EvD K tb ρ M d2) (hc : EvD K tc ρ M d3) (h1 : RvD K r d1 d2 (.bool k1)) (h2 : k1 = true → RvD K r' d2 d3 (.bool k2)) : EvD K (tChain r r' ta tb tc) ρ M (.bool (k1 && k2)) := fun σ G H n Q q =>
  ha σ G H n _ fun x G1 H1 s1 q1 => hb σ G1 H1 (n.stp s1) _ fun y G2 H2 s2 q2 => h1 G2 H2 x y s2.gh (Dq.same s2.g _ _ q1) q2 _ fun v G3 H3 s3 h3 => ⟨k1, h3.bl_inv, by
    cases k1 with
    | true => exact hc σ G3 H3 (n.stp ((s1.trans s2).trans s3)) _ fun z G4 H4 s4 q4 => h2 rfl G4 H4 y z s4.gh (Dq.same (s3.g.trans s4.g) _ _ q2) q4 Q fun v G5 H5 s5 h5 => q v G5 H5 (((s1.trans s2).trans s3).trans (s4.trans s5)) h5
    | false => exact q _ G3 H3 ((s1.trans s2).trans s3) (.bl false)⟩
/-! ### operators on ints and truths -/
theorem rv_I0 {g : Int → Int → V} {i j : Int} (h : ∀ G, Dq K G (g i j) d) : RvD K (rI0 g) (.int i) (.int j) d := fun G H x y e hx hy Q q => ⟨i, j, hx.int_inv, hy.int_inv, q _ _ _ (Stp.refl e) (h G)⟩
theorem rv_II {f : Int → Int → Int} {i j : Int} : RvD K (rI0 fun i j => .int (f i j)) (.int i) (.int j) (.int (f i j)) := rv_I0 fun _ => .int _
theorem rv_IB {f : Int → Int → Bool} {i j : Int} : RvD K (rI0 fun i j => .bl (f i j)) (.int i) (.int j) (.bool (f i j)) := rv_I0 fun _ => .bl _
theorem rv_IC {C : Int → Int → Prop} {f : Int → Int → Int} {i j : Int} (hc : C i j) : RvD K (rI C fun i j => .int (f i j)) (.int i) (.int j) (.int (f i j)) := fun G H x y e hx hy Q q => ⟨i, j, hx.int_inv, hy.int_inv, hc, q _ _ _ (Stp.refl e) (.int _)⟩
theorem dec_int (i j : Int) : decide (V.int i = V.int j) = decide (i = j) := by
  by_cases h : i = j
  · subst h; simp
  · rw [decide_eq_false h, decide_eq_false (fun e => h (V.int.inj e))]
theorem rv_eq {i j : Int} : RvD K rEq (.int i) (.int j) (.bool (decide (i = j))) := fun G H x y e hx hy Q q => by
  rw [hx.int_inv, hy.int_inv]
  refine ⟨rfl, q _ _ _ (Stp.refl e) ?_⟩
  rw [dec_int]
  exact .bl _
theorem rv_ne {i j : Int} : RvD K rNe (.int i) (.int j) (.bool (!decide (i = j))) := fun G H x y e hx hy Q q => by
  rw [hx.int_inv, hy.int_inv]
  refine ⟨rfl, q _ _ _ (Stp.refl e) ?_⟩
  rw [dec_int]
  exact .bl _
theorem rv_eqD (o1 : Dpo d1) (o2 : Dpo d2) (h1 : SeqAt.shaped d1 = true) (h2 : SeqAt.shaped d2 = true) : RvD K (rEqD K) d1 d2 (.bool (PyData.eqv d1 d2)) := fun G H x y e hx hy Q q =>
  ⟨d1, d2, o1 _ _ _ (Dq.same e _ _ hx), o2 _ _ _ (Dq.same e _ _ hy), h1, h2, q _ _ _ (Stp.refl e) (.bl _)⟩
theorem rv_neD (o1 : Dpo d1) (o2 : Dpo d2) (h1 : SeqAt.shaped d1 = true) (h2 : SeqAt.shaped d2 = true) : RvD K (rNeD K) d1 d2 (.bool (!PyData.eqv d1 d2)) := fun G H x y e hx hy Q q =>
  ⟨d1, d2, o1 _ _ _ (Dq.same e _ _ hx), o2 _ _ _ (Dq.same e _ _ hy), h1, h2, q _ _ _ (Stp.refl e) (.bl _)⟩
/-! ### subscripts -/
theorem atI_map {vs : List V} {i : Int} (h : DqA K G vs ds) (e : atI ds i = some d) : ∃ v, atI vs i = some v ∧ Dq K G v d := by
  unfold atI at e ⊢
  rw [h.len]
  cases q : ixN ds.length i with
  | none => rw [q] at e; cases e
  | some j =>
    rw [q] at e
    exact h.get e
theorem rv_ixT {i : Int} (h : atI ds i = some d) : RvD K (rIxT K) (.tuple ds) (.int i) d := fun G H x y e hx hy Q q => by
  obtain ⟨a, xs, rfl, h1, h2⟩ := hx.tup_inv
  rw [hy.int_inv]
  obtain ⟨v, h3, h4⟩ := atI_map h2 h
  exact ⟨a, xs, i, v, rfl, rfl, same_t e h1, h3, q _ _ _ (Stp.refl e) h4⟩
theorem rv_ixL {i : Int} (h : atI ds i = some d) : RvD K (rIxL K) (.list ds) (.int i) d := fun G H x y e hx hy Q q => by
  obtain ⟨a, xs, rfl, h1, h2⟩ := hx.list_inv
  rw [hy.int_inv]
  obtain ⟨v, h3, h4⟩ := atI_map h2 h
  exact ⟨a, xs, i, v, rfl, rfl, same_sq e h1, h3, q _ _ _ (Stp.refl e) h4⟩
/-! ### slices -/
theorem eo_none : EvO K tNoPart ρ M none := fun σ G H n Q q => q _ _ (Stp.refl n.gh)
theorem eo_some {i : Int} (h : EvD K te ρ M (.int i)) : EvO K (tPart te) ρ M (some i) := fun σ G H n Q q => h σ G H n _ fun v G2 H2 s hv => ⟨i, hv.int_inv, q _ _ s⟩
def cutD (ds : List PD) (lo hi : Option Int) : List PD := (ds.drop (HT.sIx ds.length 0 lo)).take (HT.sIx ds.length ds.length hi - HT.sIx ds.length 0 lo)
theorem DqA.cut {vs : List V} (h : DqA K G vs ds) (lo hi : Option Int) : DqA K G (cutV vs lo hi) (cutD ds lo hi) := by
  unfold cutV cutD
  rw [h.len]
  exact (h.drop _).take _
theorem ev_slL {tl th : TO} {lo hi : Option Int} (h : EvD K te ρ M (.list ds)) (hl : EvO K tl ρ M lo) (hh : EvO K th ρ M hi) : EvL K (tSl (rSlL K) te tl th) ρ M (cutD ds lo hi) := fun σ G H n Q q =>
  h σ G H n _ fun v G1 H1 s1 hv => hl σ G1 H1 (n.stp s1) _ fun G2 H2 s2 => hh σ G2 H2 (n.stp (s1.trans s2)) _ fun G3 H3 s3 => by
    obtain ⟨a, xs, rfl, h1, h2⟩ := hv.list_inv
    have hd := DqA.same (s2.trans s3).g _ _ (h2.cut lo hi)
    exact ⟨a, xs, rfl, .inl (.inl ((s2.trans s3).h _ _ (s1.gh _ _ h1))), fun p hp => q p _ _ _ (((s1.trans s2).trans s3).trans (Stp.newM s3.gh hp)) (none_of_same ((s1.trans s2).trans s3).h hp) (none_of_same s3.gh hp) upd_same hd⟩
theorem ev_slT {tl th : TO} {lo hi : Option Int} (h : EvD K te ρ M (.tuple ds)) (hl : EvO K tl ρ M lo) (hh : EvO K th ρ M hi) : EvD K (tSl (rSlA K) te tl th) ρ M (.tuple (cutD ds lo hi)) := fun σ G H n Q q =>
  h σ G H n _ fun v G1 H1 s1 hv => hl σ G1 H1 (n.stp s1) _ fun G2 H2 s2 => hh σ G2 H2 (n.stp (s1.trans s2)) _ fun G3 H3 s3 => by
    obtain ⟨a, xs, rfl, h1, h2⟩ := hv.tup_inv
    have hd := DqA.same (s2.trans s3).g _ _ (h2.cut lo hi)
    have ht := same_t (s2.trans s3).g h1
    refine ⟨a, xs, rfl, same_t s3.gh ht, fun e => q _ _ _ ((s1.trans s2).trans s3) ?_, fun _ p hp => q _ _ _ (((s1.trans s2).trans s3).trans (Stp.new s3.gh hp)) (.tup (.inl (.inl upd_same)) (DqA.same (same_new (none_of_same s3.gh hp)) _ _ hd))⟩
    have e2 : cutV xs lo hi = xs := by
      unfold cutV
      rw [e.1, e.2, List.drop_zero, Nat.sub_zero, List.take_length]
    rw [e2] at hd
    exact .tup ht hd
/-! ### tuple + tuple, list + list, list * int -/
theorem rv_catT (hl : ds.length + es.length ≤ 10000000) : RvD K (rCatA K) (.tuple ds) (.tuple es) (.tuple (ds ++ es)) := fun G H x y e hx hy Q q => by
  obtain ⟨a, xs, rfl, h1, h2⟩ := hx.tup_inv
  obtain ⟨b, ys, rfl, h3, h4⟩ := hy.tup_inv
  have hd := h2.app h4
  refine ⟨a, b, xs, ys, rfl, rfl, same_t e h1, same_t e h3, by rw [h2.len, h4.len]; exact sqT_len_ok hl, fun z => ?_, fun _ z => ?_, fun _ _ p hp => ?_⟩
  · subst z
    exact q _ _ _ (Stp.refl e) (.tup h3 hd)
  · subst z
    rw [List.append_nil] at hd
    exact q _ _ _ (Stp.refl e) (.tup h1 hd)
  · exact q _ _ _ (Stp.new e hp) (.tup (.inl (.inl upd_same)) (DqA.same (same_new (none_of_same e hp)) _ _ hd))
theorem rv_catL (hl : ds.length + es.length ≤ 10000000) : RvL K rCat (.list ds) (.list es) (ds ++ es) := fun G H x y e hx hy Q q => by
  obtain ⟨a, xs, rfl, h1, h2⟩ := hx.list_inv
  obtain ⟨b, ys, rfl, h3, h4⟩ := hy.list_inv
  exact ⟨a, b, xs, ys, rfl, rfl, e _ _ h1, e _ _ h3, by rw [h2.len, h4.len]; exact sqT_len_ok hl, fun p hp => q p _ _ _ (Stp.newM e hp) hp (none_of_same e hp) upd_same (h2.app h4)⟩
theorem DqA.rep {vs : List V} (h : DqA K G vs ds) : ∀ n : Nat, DqA K G (List.replicate n vs).flatten (List.replicate n ds).flatten
  | 0 => .nil
  | n + 1 => by
    rw [List.replicate_succ, List.replicate_succ, List.flatten_cons, List.flatten_cons]
    exact h.app (h.rep n)
theorem rv_repL {k : Int} (h0 : 0 ≤ k) (hl : ds.length * k.toNat ≤ 10000000) (h1 : k ≤ 10000000) : RvL K rRep (.list ds) (.int k) (List.replicate k.toNat ds).flatten := fun G H x y e hx hy Q q => by
  obtain ⟨a, xs, rfl, h1, h2⟩ := hx.list_inv
  rw [hy.int_inv]
  exact ⟨a, k, xs, rfl, rfl, e _ _ h1, by omega, by omega, by rw [h2.len]; exact sqT_len_ok hl, fun p hp => q p _ _ _ (Stp.newM e hp) hp (none_of_same e hp) upd_same (h2.rep _)⟩
end
end Lc

/-! Statements, loops, comprehensions over the data layer. -/
namespace Lc
open PySem PySem.Spec PyProof.Rows L2 RZ
structure Bs where
  A : Hp
  G0 : Hp
  H0 : Hp
def Bs.an (B : Bs) (A : Hp) : Bs := ⟨A, B.G0, B.H0⟩
structure At (K : PySem.W.Frag) (B : Bs) (ρ : List Sl) (M : Mt) (σ : L2.St) (G H : Hp) : Prop where
  st : Stp B.G0 B.H0 G H
  an : Same B.A G
  now : Now K ρ M σ G H
  fr : ∀ q ∈ M, B.H0 q.1 = none
  nd : (M.map (·.1)).Nodup
def Nx (K : PySem.W.Frag) (B : Bs) (P : L2.St → Hp → Prop) (ρ : List Sl) (M : Mt) : Prop := ∀ σ G H, At K B ρ M σ G H → P σ H
def RtOk (K : PySem.W.Frag) (B : Bs) (rt : VK) (R : PD → Prop) : Prop := ∀ v G H d, Stp B.G0 B.H0 G H → Dq K G v d → R d → rt v H
section
variable {K : PySem.W.Frag} {B : Bs} {G H G2 H2 : Hp} {ρ ρ' ρ1 : List Sl} {M M' : Mt} {σ : L2.St} {P : L2.St → Hp → Prop} {D : Ends} {R : PD → Prop}
variable {ta tb te tc : TE} {tt uu : TT} {t u : TS} {d d1 d2 : PD} {ds es : List PD} {g : TG}
theorem RtOk.an {rt : VK} (h : RtOk K B rt R) (A : Hp) : RtOk K (B.an A) rt R := h
theorem At.stp (a : At K B ρ M σ G H) (s : Stp G H G2 H2) : At K B ρ M σ G2 H2 := ⟨a.st.trans s, a.an.trans s.g, a.now.stp s, a.fr, a.nd⟩
theorem At.env (a : At K B ρ M σ G H) {σ' : L2.St} (e : Paired (SlOk K G) σ' ρ') : At K B ρ' M σ' G H := ⟨a.st, a.an, ⟨a.now.gh, e, a.now.mm⟩, a.fr, a.nd⟩
theorem At.setA (a : At K B ρ M σ G H) {A : Hp} (h : Same A G) : At K (B.an A) ρ M σ G H := ⟨a.st, h, a.now, a.fr, a.nd⟩
theorem At.back {A : Hp} (a : At K (B.an A) ρ M σ G H) (h : Same B.A A) : At K B ρ M σ G H := ⟨a.st, h.trans a.an, a.now, a.fr, a.nd⟩
/-- p is not among the others -/
theorem At.ne {p : Addr} (a : At K B ρ ((p, ds) :: M) σ G H) {q : Addr × List PD} (h : q ∈ M) : q.1 ≠ p := fun e => by
  have n := a.nd
  rw [List.map_cons, List.nodup_cons] at n
  exact n.1 (List.mem_map.mpr ⟨q, h, e⟩)
/-- the list at p gets new items -/
theorem At.mut {p : Addr} {vs : List V} (a : At K B ρ ((p, ds) :: M) σ G H) (h : DqA K G vs es) : At K B ρ ((p, es) :: M) σ G (upd H p (.lst vs)) := by
  obtain ⟨hg, ws, hl, hd⟩ := a.now.mm (p, ds) List.mem_cons_self
  have h0 := a.fr (p, ds) List.mem_cons_self
  have gh : Same G (upd H p (.lst vs)) := fun b x q => by
    rw [upd_ne (ne_of_none q hg)]
    exact a.now.gh b x q
  refine ⟨⟨a.st.g, fun b x q => ?_, gh, a.st.own⟩, a.an, ⟨gh, a.now.env, fun q hq => ?_⟩, fun q hq => ?_, ?_⟩
  · rw [upd_ne (ne_of_none q h0)]
    exact a.st.h b x q
  · rcases List.mem_cons.mp hq with e | hq
    · subst e
      exact ⟨hg, vs, upd_same, h⟩
    · obtain ⟨g1, ws1, l1, d1⟩ := a.now.mm q (List.mem_cons_of_mem _ hq)
      exact ⟨g1, ws1, by rw [upd_ne (a.ne hq)]; exact l1, d1⟩
  · rcases List.mem_cons.mp hq with e | hq
    · subst e
      exact h0
    · exact a.fr q (List.mem_cons_of_mem _ hq)
  · exact a.nd
/-- a new list that may change -/
theorem At.newM {p : Addr} {vs : List V} {G' H' : Hp} (a : At K B ρ M σ G H) (s : Stp G H G' H') (hp : H p = none) (hg : G' p = none) (h2 : H' p = some (.lst vs)) (hd : DqA K G' vs ds) : At K B ρ ((p, ds) :: M) σ G' H' := by
  have a2 := a.stp s
  refine ⟨a2.st, a2.an, ⟨a2.now.gh, a2.now.env, fun q hq => ?_⟩, fun q hq => ?_, ?_⟩
  · rcases List.mem_cons.mp hq with e | hq
    · subst e
      exact ⟨hg, vs, h2, hd⟩
    · exact a2.now.mm q hq
  · rcases List.mem_cons.mp hq with e | hq
    · subst e
      exact none_of_same a.st.h hp
    · exact a2.fr q hq
  · rw [List.map_cons, List.nodup_cons]
    refine ⟨fun hm => ?_, a.nd⟩
    obtain ⟨q, hq, e⟩ := List.mem_map.mp hm
    obtain ⟨_, ws, l, _⟩ := a.now.mm q hq
    rw [show q.1 = p from e, hp] at l
    cases l
/-- a list that changes no more -/
theorem At.frz {p : Addr} {i : Nat} (a : At K B ρ ((p, ds) :: M) σ G H) (hi : ρ[i]? = some (.r p)) : ∃ G', At K B (ρ.set i (.d (.list ds))) M σ G' H := by
  obtain ⟨hg, vs, hl, hd⟩ := a.now.mm (p, ds) List.mem_cons_self
  have h0 := a.fr (p, ds) List.mem_cons_self
  have sg : Same G (upd G p (.lst vs)) := same_new hg
  have st := a.st.frz h0 hl hg
  refine ⟨upd G p (.lst vs), st, a.an.trans sg, ⟨st.gh, ?_, fun q hq => ?_⟩, fun q hq => a.fr q (List.mem_cons_of_mem _ hq), ?_⟩
  · obtain ⟨o, h1, h2⟩ := env_get a.now.env hi
    have e2 : o = some (.ref p) := h2
    have e3 : σ = σ.set i o := by
      apply List.ext_getElem?
      intro j
      by_cases hj : i = j
      · subst hj
        rw [List.getElem?_set_self (List.getElem?_eq_some_iff.mp h1).1, h1]
      · rw [List.getElem?_set_ne hj]
    rw [e3]
    refine env_set ?_ i (env_same sg a.now.env)
    exact ⟨_, e2, .lst upd_same (DqA.same sg _ _ hd)⟩
  · obtain ⟨g1, ws1, l1, d1⟩ := a.now.mm q (List.mem_cons_of_mem _ hq)
    exact ⟨by rw [upd_ne (a.ne hq)]; exact g1, ws1, l1, DqA.same sg _ _ d1⟩
  · have n := a.nd
    rw [List.map_cons, List.nodup_cons] at n
    exact n.2
/-! ### weakening -/
def Wkn : List Sl → List Sl → Prop
  | [], [] => True
  | x :: r, y :: s => (x = .no ∨ x = y) ∧ Wkn r s
  | _, _ => False
theorem Wkn.rfl : ∀ {ρ : List Sl}, Wkn ρ ρ
  | [] => True.intro
  | _ :: _ => ⟨.inr (Eq.refl _), Wkn.rfl⟩
theorem env_wkn : ∀ {ρ ρ' : List Sl} {σ : L2.St}, Wkn ρ' ρ → Paired (SlOk K G) σ ρ → Paired (SlOk K G) σ ρ'
  | [], [], _, _, h => h
  | [], _ :: _, _, w, _ => w.elim
  | _ :: _, [], _, w, _ => w.elim
  | y :: s, x :: r, _, ⟨e, w⟩, .cons a b => .cons (by
      rcases e with e | e
      · subst e; exact True.intro
      · subst e; exact a) (env_wkn w b)
theorem Nx.wkn (w : Wkn ρ' ρ) (h : Nx K B P ρ' M) : Nx K B P ρ M := fun σ G H a => h σ G H (a.env (env_wkn w a.now.env))
theorem Nx.sub (w : M'.Sublist M) (h : Nx K B P ρ M') : Nx K B P ρ M := fun σ G H a =>
  h σ G H ⟨a.st, a.an, ⟨a.now.gh, a.now.env, fun q hq => a.now.mm q (w.subset hq)⟩, fun q hq => a.fr q (w.subset hq), a.nd.sublist (w.map _)⟩
theorem Nx.perm (w : M.Perm M') (h : Nx K B P ρ M') : Nx K B P ρ M := fun σ G H a =>
  h σ G H ⟨a.st, a.an, ⟨a.now.gh, a.now.env, fun q hq => a.now.mm q (w.mem_iff.mpr hq)⟩, fun q hq => a.fr q (w.mem_iff.mpr hq), (w.map (·.1)).nodup_iff.mp a.nd⟩
theorem Nx.frz {p : Addr} (i : Nat) (hi : ρ[i]? = some (.r p)) (h : Nx K B P (ρ.set i (.d (.list ds))) M) : Nx K B P ρ ((p, ds) :: M) := fun σ G H a => by
  obtain ⟨G', a2⟩ := a.frz hi
  exact h σ G' H a2
theorem Nx.setA {A : Hp} (h : Nx K (B.an A) P ρ M) (e : ∀ G, Same B.A G → Same A G) : Nx K B P ρ M := fun σ G H a => h σ G H (a.setA (e G a.an))
theorem Nx.ofA {A : Hp} (h : Nx K B P ρ M) (e : Same B.A A) : Nx K (B.an A) P ρ M := fun σ G H a => h σ G H (a.back e)
/-! ### targets -/
theorem wipe_get (σ : L2.St) (j : Nat) : ∀ vs : List Nat, (wipe σ vs)[j]? = if j ∈ vs ∧ j < σ.length then some none else σ[j]?
  | [] => by simp [wipe]
  | v :: vs => by
    show ((wipe σ vs).set v none)[j]? = _
    by_cases hv : v = j
    · subst hv
      by_cases hl : v < σ.length
      · rw [List.getElem?_set_self (by rw [wipe_length]; exact hl), if_pos ⟨List.mem_cons_self, hl⟩]
      · rw [if_neg (fun z => hl z.2), List.getElem?_eq_none (by rw [List.length_set, wipe_length]; omega), List.getElem?_eq_none (by omega)]
    · rw [List.getElem?_set_ne hv, wipe_get σ j vs]
      have e : (j ∈ v :: vs) ↔ j ∈ vs := by
        rw [List.mem_cons]
        exact ⟨fun z => z.resolve_left (fun q => hv q.symm), .inr⟩
      by_cases hm : j ∈ vs ∧ j < σ.length
      · rw [if_pos hm, if_pos ⟨e.mpr hm.1, hm.2⟩]
      · rw [if_neg hm, if_neg (fun z => hm ⟨e.mp z.1, z.2⟩)]
theorem wipe_set {σ : L2.St} {i : Nat} {o : Option V} {vs : List Nat} (h : i ∈ vs) : wipe (σ.set i o) vs = wipe σ vs := by
  apply List.ext_getElem?
  intro j
  rw [wipe_get, wipe_get, List.length_set]
  by_cases hj : j ∈ vs ∧ j < σ.length
  · rw [if_pos hj, if_pos hj]
  · rw [if_neg hj, if_neg hj]
    by_cases e : i = j
    · subst e
      have hl : ¬ i < σ.length := fun z => hj ⟨h, z⟩
      rw [List.getElem?_eq_none (by rw [List.length_set]; omega), List.getElem?_eq_none (by omega)]
    · rw [List.getElem?_set_ne e]
def Tg (K : PySem.W.Frag) (g : TG) (is : List Nat) (d : PD) (ρ ρ' : List Sl) : Prop :=
  ∀ σ G H v, Same G H → Paired (SlOk K G) σ ρ → Dq K G v d → ∀ Q : L2.St → Hp → Prop, (∀ σ', Paired (SlOk K G) σ' ρ' → (∀ vs, (∀ i ∈ is, i ∈ vs) → wipe σ' vs = wipe σ vs) → Q σ' H) → g v σ H Q
def Tgs (K : PySem.W.Frag) (g : TGs) (is : List Nat) (ds : List PD) (ρ ρ' : List Sl) : Prop :=
  ∀ σ G H vs, Same G H → Paired (SlOk K G) σ ρ → DqA K G vs ds → ∀ Q : L2.St → Hp → Prop, (∀ σ', Paired (SlOk K G) σ' ρ' → (∀ vs, (∀ i ∈ is, i ∈ vs) → wipe σ' vs = wipe σ vs) → Q σ' H) → g vs σ H Q
theorem slD {v : V} (h : Dq K G v d) : SlOk K G (some v) (.d d) := ⟨v, rfl, h⟩
theorem tg_name {i : Nat} : Tg K (gName i) [i] d ρ (ρ.set i (.d d)) := fun σ G H v e n h Q q =>
  q (σ.set i (some v)) (env_set (slD h) i n) fun vs hv => wipe_set (hv i List.mem_cons_self)
theorem tgs_nil : Tgs K gNil [] [] ρ ρ := fun σ G H v e n h Q q => by
  cases h
  exact ⟨rfl, q σ n fun _ _ => rfl⟩
theorem tgs_cons {gs : TGs} {is js : List Nat} (a : Tg K g is d ρ ρ1) (b : Tgs K gs js ds ρ1 ρ') : Tgs K (gCons g gs) (is ++ js) (d :: ds) ρ ρ' := fun σ G H v e n h Q q => by
  cases h with
  | cons h1 h2 =>
    refine ⟨_, _, rfl, a σ G H _ e n h1 _ fun σ1 n1 w1 => b σ1 G H _ e n1 h2 _ fun σ2 n2 w2 => q σ2 n2 fun vs hv => ?_⟩
    rw [w2 vs fun i hi => hv i (List.mem_append_right _ hi), w1 vs fun i hi => hv i (List.mem_append_left _ hi)]
theorem tg_tup {gs : TGs} {is : List Nat} {n : Nat} (b : Tgs K gs is ds ρ ρ') (hl : ds.length = n) : Tg K (gTup K n gs) is (.tuple ds) ρ ρ' := fun σ G H v e m h Q q => by
  obtain ⟨a, xs, rfl, h1, h2⟩ := h.tup_inv
  exact ⟨a, xs, rfl, same_t e h1, h2.len.trans hl, b σ G H xs e m h2 Q q⟩
/-! ### statements -/
theorem st_asg {is : List Nat} (h : EvD K te ρ M d) (hg : Tg K g is d ρ ρ') (q : Nx K B D.nx ρ' M) : Nx K B (tAsg te g D) ρ M := fun σ G H a =>
  h σ G H a.now _ fun v G2 H2 s hv => hg σ G2 H2 v s.gh (a.now.stp s).env hv _ fun σ' e _ => q σ' G2 H2 ((a.stp s).env e)
theorem st_set {i : Nat} (h : EvD K te ρ M d) (q : Nx K B D.nx (ρ.set i (.d d)) M) : Nx K B (tAsg te (gName i) D) ρ M := st_asg h tg_name q
theorem st_newM {i : Nat} (h : EvL K te ρ M ds) (q : ∀ p, Nx K B D.nx (ρ.set i (.r p)) ((p, ds) :: M)) : Nx K B (tAsg te (gName i) D) ρ M := fun σ G H a =>
  h σ G H a.now _ fun p vs G2 H2 s hp hg h2 hd => q p _ G2 H2 ((a.newM s hp hg h2 hd).env (env_set (show SlOk K G2 (some (.ref p)) (.r p) from rfl) i (a.now.stp s).env))
theorem st_par {i j : Nat} {tA : TA} (h : EvA K tA ρ M [d1, d2]) (q : Nx K B D.nx ((ρ.set i (.d d1)).set j (.d d2)) M) : Nx K B (tPar i j tA D) ρ M := fun σ G H a =>
  h σ G H a.now _ fun vs G2 H2 s hv => by
    cases hv with
    | cons h1 h2 =>
      cases h2 with
      | cons h3 h4 =>
        cases h4
        exact ⟨_, _, rfl, q _ G2 H2 ((a.stp s).env (env_set (slD h3) j (env_set (slD h1) i (a.now.stp s).env)))⟩
theorem st_if {b : Bool} (h : EvT K tt ρ M b) (h1 : b = true → Nx K B (t D) ρ M) (h2 : b = false → Nx K B (u D) ρ M) : Nx K B (tIfS tt t u D) ρ M := fun σ G H a =>
  h σ G H a.now _ fun G2 H2 s => by
    cases b with
    | true => exact h1 rfl σ G2 H2 (a.stp s)
    | false => exact h2 rfl σ G2 H2 (a.stp s)
theorem st_ret (h : EvD K te ρ M d) (q : RtOk K B D.rt R) (r : R d) : Nx K B (tRet te D) ρ M := fun σ G H a =>
  h σ G H a.now _ fun v G2 H2 s hv => q v G2 H2 d (a.stp s).st hv r
theorem st_retN (q : RtOk K B D.rt R) (r : R .none) : Nx K B (tRetN D) ρ M := fun σ G H a => q _ G H _ a.st .non r
theorem st_drop (h : EvD K te ρ M d) (q : Nx K B D.nx ρ M) : Nx K B (tDrop te D) ρ M := fun σ G H a =>
  h σ G H a.now _ fun v G2 H2 s hv => q σ G2 H2 (a.stp s)
theorem st_seq (h : Nx K B (t { D with nx := u D }) ρ M) : Nx K B (tSeq t u D) ρ M := h
theorem st_nil (h : Nx K B D.nx ρ M) : Nx K B (tNext D) ρ M := h
/-! ### a list that changes -/
theorem now_r {i : Nat} {p : Addr} (n : Now K ρ M σ G H) (h : ρ[i]? = some (.r p)) : σ[i]? = some (some (.ref p)) := by
  obtain ⟨o, h1, h2⟩ := env_get n.env h
  rw [h1, show o = some (.ref p) from h2]
theorem st_append {i : Nat} {p : Addr} (hi : ρ[i]? = some (.r p)) (h : EvD K te ρ ((p, ds) :: M) d) (hl : ds.length ≤ 10000000) (q : Nx K B D.nx ρ ((p, ds ++ [d]) :: M)) :
    Nx K B (tDrop (tBM K "list" rAppend (tVar i) (tCons te tNil)) D) ρ ((p, ds) :: M) := fun σ G H a => by
  obtain ⟨hg, vs, hp, hd⟩ := a.now.mm (p, ds) List.mem_cons_self
  refine ⟨.ref p, now_r a.now hi, .inl ⟨rfl, _, .inl (.inl hp)⟩, h σ G H a.now _ fun v G2 H2 s hv => ⟨p, vs, v, rfl, rfl, s.h _ _ hp, by rw [hd.len]; exact sz_lt hl, ?_⟩⟩
  exact q σ G2 _ ((a.stp s).mut ((DqA.same s.g _ _ hd).app (.cons hv .nil)))
theorem st_setI {i : Nat} {p : Addr} {k : Int} {j : Nat} {ti : TE} (hi : ρ[i]? = some (.r p)) (h : EvD K te ρ ((p, ds) :: M) d) (hk : EvD K ti ρ ((p, ds) :: M) (.int k)) (hj : ixN ds.length k = some j) (q : Nx K B D.nx ρ ((p, ds.set j d) :: M)) :
    Nx K B (tAsg te (gSub (tVar i) ti rSetL) D) ρ ((p, ds) :: M) := fun σ G H a => by
  obtain ⟨hg, vs, hp, hd⟩ := a.now.mm (p, ds) List.mem_cons_self
  refine h σ G H a.now _ fun v G2 H2 s hv => ⟨.ref p, now_r a.now hi, hk σ G2 H2 (a.now.stp s) _ fun y G3 H3 s3 hy => ⟨p, vs, k, j, rfl, hy.int_inv, s3.h _ _ (s.h _ _ hp), by rw [hd.len]; exact hj, ?_⟩⟩
  exact q σ G3 _ ((a.stp (s.trans s3)).mut ((DqA.same (s.trans s3).g _ _ hd).set j (Dq.same s3.g _ _ hv)))
def rIns : V → List V → Hp → VK → Prop := fun x vs H Q => ∃ (l : Addr) (xs : List V) (i : Int) (y : V), x = .ref l ∧ vs = [.int i, y] ∧ H l = some (.lst xs) ∧ xs.length < sizeLine ∧ 0 ≤ i ∧ i < 2 ^ 63 ∧ Q .non (upd H l (.lst (xs.take i.toNat ++ [y] ++ xs.drop i.toNat)))
theorem mt_ins {X : Cx} : MtR X "list.insert" rIns := mt_insert
theorem st_insert {i : Nat} {p : Addr} {k : Int} {ti : TE} (hi : ρ[i]? = some (.r p)) (hk : EvD K ti ρ ((p, ds) :: M) (.int k)) (h : EvD K te ρ ((p, ds) :: M) d) (hl : ds.length ≤ 10000000) (h0 : 0 ≤ k) (h1 : k < 2 ^ 63) (q : Nx K B D.nx ρ ((p, ds.take k.toNat ++ [d] ++ ds.drop k.toNat) :: M)) :
    Nx K B (tDrop (tBM K "list" rIns (tVar i) (tCons ti (tCons te tNil))) D) ρ ((p, ds) :: M) := fun σ G H a => by
  obtain ⟨hg, vs, hp, hd⟩ := a.now.mm (p, ds) List.mem_cons_self
  refine ⟨.ref p, now_r a.now hi, .inl ⟨rfl, _, .inl (.inl hp)⟩, hk σ G H a.now _ fun y G2 H2 s hy => h σ G2 H2 (a.now.stp s) _ fun v G3 H3 s3 hv => ⟨p, vs, k, v, rfl, by rw [hy.int_inv], s3.h _ _ (s.h _ _ hp), by rw [hd.len]; exact sz_lt hl, h0, h1, ?_⟩⟩
  have hd2 := DqA.same (s.trans s3).g _ _ hd
  exact q σ G3 _ ((a.stp (s.trans s3)).mut (((hd2.take _).app (.cons hv .nil)).app (hd2.drop _)))
theorem ev_ixM {i : Nat} {p : Addr} {k : Int} {ti : TE} (hi : ρ[i]? = some (.r p)) (hm : (p, ds) ∈ M) (hk : EvD K ti ρ M (.int k)) (h : atI ds k = some d) : EvD K (tOp (rIxL K) (tVar i) ti) ρ M d := fun σ G H n Q q =>
  ⟨.ref p, now_r n hi, hk σ G H n _ fun y G2 H2 s hy => by
    obtain ⟨hg, vs, hp, hd⟩ := n.mm (p, ds) hm
    rw [hy.int_inv]
    obtain ⟨v, h3, h4⟩ := atI_map (DqA.same s.g _ _ hd) h
    exact ⟨p, vs, k, v, rfl, rfl, .inl (.inl (s.h _ _ hp)), h3, q _ _ _ s h4⟩⟩
abbrev rLenQ (K : PySem.W.Frag) : List V → Hp → VK → Prop := fun xs H Q => ∃ p ys, xs = [.ref p] ∧ (SqL K H p ys ∨ SqT K H p ys) ∧ Q (.int ys.length) H
theorem ev_lenM {i : Nat} {p : Addr} (hi : ρ[i]? = some (.r p)) (hm : (p, ds) ∈ M) : EvD K (tCB (rLenQ K) (tCons (tVar i) tNil)) ρ M (.int ds.length) := fun σ G H n Q q =>
  ⟨.ref p, now_r n hi, by
    obtain ⟨hg, vs, hp, hd⟩ := n.mm (p, ds) hm
    refine ⟨p, vs, rfl, .inl (.inl (.inl hp)), q _ _ _ (Stp.refl n.gh) ?_⟩
    rw [hd.len]
    exact .int _⟩
theorem rc_lenL : RcD K (rLenQ K) [.list ds] (.int ds.length) := fun G H vs e hv Q q => by
  cases hv with
  | cons h1 h2 =>
    cases h2
    obtain ⟨a, xs, rfl, h3, h4⟩ := h1.list_inv
    refine ⟨a, xs, rfl, .inl (same_sq e h3), q _ _ _ (Stp.refl e) ?_⟩
    rw [h4.len]
    exact .int _
theorem rc_lenT : RcD K (rLenQ K) [.tuple ds] (.int ds.length) := fun G H vs e hv Q q => by
  cases hv with
  | cons h1 h2 =>
    cases h2
    obtain ⟨a, xs, rfl, h3, h4⟩ := h1.tup_inv
    refine ⟨a, xs, rfl, .inr (same_t e h3), q _ _ _ (Stp.refl e) ?_⟩
    rw [h4.len]
    exact .int _
/-! ### what a for walks -/
structure Wk (K : PySem.W.Frag) (J : It) (G0 : Hp) (items : List PD) : Prop where
  go : ∀ i G H, Same G0 G → Same G H → i < items.length → J.go i H
  stop : ∀ G H, Same G0 G → Same G H → J.stop items.length H
  yld : ∀ i G H x H' d, Same G0 G → Same G H → items[i]? = some d → J.yld i H x H' → ∃ G2, Stp G H G2 H' ∧ Dq K G2 x d
def EvI (K : PySem.W.Frag) (ti : TI) (ρ : List Sl) (M : Mt) (items : List PD) : Prop :=
  ∀ σ G H, Now K ρ M σ G H → ∀ R : It → Hp → Prop, (∀ J G2 H2, Stp G H G2 H2 → Wk K J G2 items → R J H2) → ti σ H R
theorem ei_list (h : EvD K te ρ M (.list ds)) : EvI K (iList K te) ρ M ds := fun σ G H n R q => h σ G H n _ fun v G2 H2 s hv => by
  obtain ⟨a, xs, rfl, h1, h2⟩ := hv.list_inv
  refine ⟨a, rfl, ⟨xs, same_sq s.gh h1⟩, q _ G2 H2 s ⟨fun i G3 H3 e1 e2 hi => ?_, fun G3 H3 e1 e2 => ?_, fun i G3 H3 x H4 d e1 e2 hd hy => ?_⟩⟩
  · exact ⟨xs, xs[i]'(by rw [h2.len]; exact hi), same_sq (e1.trans e2) h1, by simp [h2.len, hi]⟩
  · exact ⟨xs, same_sq (e1.trans e2) h1, Nat.le_of_eq h2.len⟩
  · obtain ⟨rfl, hx⟩ := hy
    have e3 := hx xs (same_sq (e1.trans e2) h1)
    obtain ⟨v, h3, h4⟩ := h2.get hd
    rw [e3] at h3
    cases h3
    exact ⟨G3, Stp.refl e2, Dq.same e1 _ _ h4⟩
theorem ei_tup (h : EvD K te ρ M (.tuple ds)) : EvI K (iTup K te) ρ M ds := fun σ G H n R q => h σ G H n _ fun v G2 H2 s hv => by
  obtain ⟨a, xs, rfl, h1, h2⟩ := hv.tup_inv
  refine ⟨a, rfl, ⟨xs, same_t s.gh h1⟩, q _ G2 H2 s ⟨fun i G3 H3 e1 e2 hi => ?_, fun G3 H3 e1 e2 => ?_, fun i G3 H3 x H4 d e1 e2 hd hy => ?_⟩⟩
  · exact ⟨xs, xs[i]'(by rw [h2.len]; exact hi), same_t (e1.trans e2) h1, by simp [h2.len, hi]⟩
  · exact ⟨xs, same_t (e1.trans e2) h1, Nat.le_of_eq h2.len⟩
  · obtain ⟨rfl, hx⟩ := hy
    have e3 := hx xs (same_t (e1.trans e2) h1)
    obtain ⟨v, h3, h4⟩ := h2.get hd
    rw [e3] at h3
    cases h3
    exact ⟨G3, Stp.refl e2, Dq.same e1 _ _ h4⟩
def rngD (lo : Int) (n : Nat) : List PD := (List.range n).map fun i => .int (lo + (i : Nat))
theorem rngD_len {lo : Int} {n : Nat} : (rngD lo n).length = n := by simp [rngD]
theorem rngD_get {lo : Int} {n i : Nat} {d : PD} (h : (rngD lo n)[i]? = some d) : i < n ∧ d = .int (lo + (i : Nat)) := by
  unfold rngD at h
  rw [List.getElem?_map] at h
  by_cases hi : i < n
  · rw [List.getElem?_range hi] at h
    exact ⟨hi, (Option.some.inj h).symm⟩
  · rw [List.getElem?_eq_none (by simpa using hi)] at h
    cases h
theorem wk_rng {lo : Int} {n : Nat} : Wk K (Itr lo n) G (rngD lo n) :=
  ⟨fun i G H _ _ hi => by rw [rngD_len] at hi; exact hi, fun G H _ _ => by rw [rngD_len]; exact Nat.le_refl n, fun i G H x H' d _ e hd hy => by
    obtain ⟨rfl, rfl⟩ := hy
    obtain ⟨_, rfl⟩ := rngD_get hd
    exact ⟨G, Stp.refl e, .int _⟩⟩
theorem ei_rng1 {tA : TA} {k : Int} (h : EvA K tA ρ M [.int k]) (h1 : -(2 ^ 62) ≤ k) (h2 : k < 2 ^ 62) : EvI K (iRng1 tA) ρ M (rngD 0 k.toNat) := fun σ G H n R q => h σ G H n _ fun vs G2 H2 s hv => by
  cases hv with
  | cons a b =>
    cases b
    rw [a.int_inv]
    exact ⟨k, rfl, h1, h2, q _ G2 H2 s wk_rng⟩
theorem ei_rng2 {tA : TA} {j k : Int} (h : EvA K tA ρ M [.int j, .int k]) (h1 : -(2 ^ 62) ≤ j ∧ j < 2 ^ 62 ∧ -(2 ^ 62) ≤ k ∧ k < 2 ^ 62) : EvI K (iRng2 tA) ρ M (rngD j (k - j).toNat) := fun σ G H n R q => h σ G H n _ fun vs G2 H2 s hv => by
  cases hv with
  | cons a b =>
    cases b with
    | cons b c =>
      cases c
      rw [a.int_inv, b.int_inv]
      exact ⟨j, k, rfl, h1, q _ G2 H2 s wk_rng⟩
def rngM (lo : Int) (n : Nat) : List PD := (List.range n).map fun i => .int (lo + (i : Nat) * (-1))
theorem rngM_len {lo : Int} {n : Nat} : (rngM lo n).length = n := by simp [rngM]
theorem rngM_get {lo : Int} {n i : Nat} {d : PD} (h : (rngM lo n)[i]? = some d) : i < n ∧ d = .int (lo + (i : Nat) * (-1)) := by
  unfold rngM at h
  rw [List.getElem?_map] at h
  by_cases hi : i < n
  · rw [List.getElem?_range hi] at h
    exact ⟨hi, (Option.some.inj h).symm⟩
  · rw [List.getElem?_eq_none (by simpa using hi)] at h
    cases h
theorem ei_rng3 {tA : TA} {j k : Int} (h : EvA K tA ρ M [.int j, .int k, .int (-1)]) (h1 : -(2 ^ 62) ≤ j ∧ j < 2 ^ 62 ∧ -(2 ^ 62) ≤ k ∧ k < 2 ^ 62) : EvI K (iRng3 tA) ρ M (rngM j (j - k).toNat) := fun σ G H n R q => h σ G H n _ fun vs G2 H2 s hv => by
  cases hv with
  | cons a b =>
    cases b with
    | cons b c =>
      cases c with
      | cons c d =>
        cases d
        rw [a.int_inv, b.int_inv, c.int_inv]
        refine ⟨j, k, -1, (j - k).toNat, rfl, RgC.neg h1.1 h1.2.1 h1.2.2.1 h1.2.2.2, q _ G2 H2 s ⟨fun i G H _ _ hi => by rw [rngM_len] at hi; exact hi, fun G H _ _ => by rw [rngM_len]; exact Nat.le_refl _, fun i G H x H' d _ e hd hy => ?_⟩⟩
        obtain ⟨rfl, rfl⟩ := hy
        obtain ⟨_, rfl⟩ := rngM_get hd
        exact ⟨G, Stp.refl e, .int _⟩
/-- the pairs (i, the i-th) -/
def enD (ds : List PD) : List PD := ds.mapIdx fun i d => .tuple [.int (i : Nat), d]
def zpD (ds es : List PD) : List PD := List.zipWith (fun a b => .tuple [a, b]) ds es
theorem pair_stp {T : Addr} {x y : V} {d1 d2 : PD} (e : Same G H) (n : H T = none) (h1 : Dq K G x d1) (h2 : Dq K G y d2) : ∃ G2, Stp G H G2 (upd H T (.tup [x, y])) ∧ Dq K G2 (.ref T) (.tuple [d1, d2]) :=
  ⟨_, Stp.new e n, .tup (.inl (.inl upd_same)) (DqA.same (same_new (none_of_same e n)) _ _ (.cons h1 (.cons h2 .nil)))⟩
theorem ei_enumL {tA : TA} (h : EvA K tA ρ M [.list ds]) : EvI K (iEnum K tA) ρ M (enD ds) := fun σ G H n R q => h σ G H n _ fun vs G2 H2 s hv => by
  cases hv with
  | cons a b =>
    cases b
    obtain ⟨aa, xs, rfl, h1, h2⟩ := a.list_inv
    have el : (enD ds).length = ds.length := by simp [enD]
    refine ⟨aa, xs, rfl, same_sq s.gh h1, q _ G2 H2 s ⟨fun i G3 H3 e1 e2 hi => ?_, fun G3 H3 e1 e2 => ?_, fun i G3 H3 x H4 d e1 e2 hd hy => ?_⟩⟩
    · rw [el] at hi
      exact ⟨xs, xs[i]'(by rw [h2.len]; exact hi), same_sq (e1.trans e2) h1, by simp [h2.len, hi]⟩
    · exact ⟨xs, same_sq (e1.trans e2) h1, by rw [el]; exact Nat.le_of_eq h2.len⟩
    · obtain ⟨T, y, rfl, nT, rfl, hx⟩ := hy
      have e3 := hx xs (same_sq (e1.trans e2) h1)
      obtain ⟨d', hd', rfl⟩ : ∃ d', ds[i]? = some d' ∧ d = .tuple [.int (i : Nat), d'] := by
        unfold enD at hd
        rw [List.getElem?_mapIdx] at hd
        cases z : ds[i]? with
        | none => rw [z] at hd; cases hd
        | some w => rw [z] at hd; exact ⟨w, rfl, (Option.some.inj hd).symm⟩
      obtain ⟨v, h3, h4⟩ := h2.get hd'
      rw [e3] at h3
      cases h3
      exact pair_stp e2 nT (.int _) (Dq.same e1 _ _ h4)
theorem zpD_get {i : Nat} {d : PD} (h : (zpD ds es)[i]? = some d) : ∃ a b, ds[i]? = some a ∧ es[i]? = some b ∧ d = .tuple [a, b] := by
  unfold zpD at h
  rw [List.getElem?_zipWith] at h
  cases z : ds[i]? with
  | none => rw [z] at h; cases h
  | some a =>
    cases w : es[i]? with
    | none => rw [z, w] at h; cases h
    | some b => rw [z, w] at h; exact ⟨a, b, rfl, rfl, (Option.some.inj h).symm⟩
theorem ei_zipL {tA : TA} (h : EvA K tA ρ M [.list ds, .list es]) : EvI K (iZipA K tA) ρ M (zpD ds es) := fun σ G H n R q => h σ G H n _ fun vs G2 H2 s hv => by
  cases hv with
  | cons a b =>
    cases b with
    | cons b c =>
      cases c
      obtain ⟨aa, xs, rfl, h1, h2⟩ := a.list_inv
      obtain ⟨bb, ys, rfl, h3, h4⟩ := b.list_inv
      have el : (zpD ds es).length = min ds.length es.length := by simp [zpD]
      refine ⟨aa, bb, xs, ys, rfl, .inl ⟨same_sq s.gh h1, same_sq s.gh h3, q _ G2 H2 s ⟨fun i G3 H3 e1 e2 hi => ?_, fun G3 H3 e1 e2 => ?_, fun i G3 H3 x H4 d e1 e2 hd hy => ?_⟩⟩⟩
      · rw [el] at hi
        exact ⟨xs, ys, xs[i]'(by rw [h2.len]; omega), ys[i]'(by rw [h4.len]; omega), same_sq (e1.trans e2) h1, same_sq (e1.trans e2) h3, by simp, by simp⟩
      · refine ⟨xs, ys, same_sq (e1.trans e2) h1, same_sq (e1.trans e2) h3, ?_⟩
        rw [el, h2.len, h4.len]
        omega
      · obtain ⟨T, x1, y1, rfl, nT, rfl, hx, hy⟩ := hy
        obtain ⟨da, db, ha, hb, rfl⟩ := zpD_get hd
        obtain ⟨v, h5, h6⟩ := h2.get ha
        obtain ⟨w, h7, h8⟩ := h4.get hb
        have e5 := hx xs (same_sq (e1.trans e2) h1)
        have e6 := hy ys (same_sq (e1.trans e2) h3)
        rw [e5] at h5
        rw [e6] at h7
        cases h5
        cases h7
        exact pair_stp e2 nT (Dq.same e1 _ _ h6) (Dq.same e1 _ _ h8)
theorem ei_zipT {tA : TA} (h : EvA K tA ρ M [.tuple ds, .tuple es]) : EvI K (iZipA K tA) ρ M (zpD ds es) := fun σ G H n R q => h σ G H n _ fun vs G2 H2 s hv => by
  cases hv with
  | cons a b =>
    cases b with
    | cons b c =>
      cases c
      obtain ⟨aa, xs, rfl, h1, h2⟩ := a.tup_inv
      obtain ⟨bb, ys, rfl, h3, h4⟩ := b.tup_inv
      have el : (zpD ds es).length = min ds.length es.length := by simp [zpD]
      refine ⟨aa, bb, xs, ys, rfl, .inr ⟨same_t s.gh h1, same_t s.gh h3, q _ G2 H2 s ⟨fun i G3 H3 e1 e2 hi => ?_, fun G3 H3 e1 e2 => ?_, fun i G3 H3 x H4 d e1 e2 hd hy => ?_⟩⟩⟩
      · rw [el] at hi
        exact ⟨xs, ys, xs[i]'(by rw [h2.len]; omega), ys[i]'(by rw [h4.len]; omega), same_t (e1.trans e2) h1, same_t (e1.trans e2) h3, by simp, by simp⟩
      · refine ⟨xs, ys, same_t (e1.trans e2) h1, same_t (e1.trans e2) h3, ?_⟩
        rw [el, h2.len, h4.len]
        omega
      · obtain ⟨T, x1, y1, rfl, nT, rfl, hx, hy⟩ := hy
        obtain ⟨da, db, ha, hb, rfl⟩ := zpD_get hd
        obtain ⟨v, h5, h6⟩ := h2.get ha
        obtain ⟨w, h7, h8⟩ := h4.get hb
        have e5 := hx xs (same_t (e1.trans e2) h1)
        have e6 := hy ys (same_t (e1.trans e2) h3)
        rw [e5] at h5
        rw [e6] at h7
        cases h5
        cases h7
        exact pair_stp e2 nT (Dq.same e1 _ _ h6) (Dq.same e1 _ _ h8)
/-! ### for -/
theorem st_forS {S : Type} {wi : TI} {tb : TS} {items : List PD} (I : Nat → S → Prop) (ρs : S → List Sl) (Ms : S → Mt) (s0 : S) (hw : EvI K wi ρ M items) (i0 : I 0 s0) (w0 : Wkn (ρs s0) ρ) (m0 : Ms s0 = M)
    (hs : ∀ (A : Hp) (i : Nat) (d : PD) (s : S), items[i]? = some d → I i s → ∀ N, (∀ s', I (i + 1) s' → Nx K (B.an A) N (ρs s') (Ms s')) → ∃ is ρ1, Tg K g is d (ρs s) ρ1 ∧ Nx K (B.an A) (tb { D with nx := N, ct := N, bk := D.nx }) ρ1 (Ms s))
    (hd : ∀ s, I items.length s → Nx K B D.nx (ρs s) (Ms s)) : Nx K B (tFor wi g tb D) ρ M := fun σ G H a =>
  hw σ G H a.now _ fun J G2 H2 st w => by
    refine ⟨fun i m σ' H' => m = items.length - i ∧ i ≤ items.length ∧ ∃ s G', I i s ∧ At K (B.an G2) (ρs s) (Ms s) σ' G' H', ⟨items.length, by simp, Nat.zero_le _, s0, G2, i0, ?_⟩, ?_⟩
    · have a2 := a.stp st
      rw [m0]
      exact (a2.env (env_wkn w0 a2.now.env)).setA (Same.refl _)
    · rintro i m σ' H' ⟨rfl, hi, s, G', is, a'⟩
      by_cases hlt : i < items.length
      · refine .inr ⟨w.go i G' H' a'.an a'.now.gh hlt, fun σ2 H2 => ∃ s' G3, I (i + 1) s' ∧ At K (B.an G2) (ρs s') (Ms s') σ2 G3 H2, fun σ2 H2 ⟨s', G3, i3, a3⟩ => ⟨items.length - (i + 1), by omega, rfl, hlt, s', G3, i3, a3⟩, fun x H4 hy => ?_⟩
        obtain ⟨d, hd2⟩ : ∃ d, items[i]? = some d := ⟨items[i], by simp [hlt]⟩
        obtain ⟨G5, s5, d5⟩ := w.yld i G' H' x H4 d a'.an a'.now.gh hd2 hy
        obtain ⟨is, ρ1, tg, nx⟩ := hs G2 i d s hd2 is (fun σ2 H2 => ∃ s' G3, I (i + 1) s' ∧ At K (B.an G2) (ρs s') (Ms s') σ2 G3 H2) fun s' i' σ2 G3 H3 a3 => ⟨s', G3, i', a3⟩
        have a5 := a'.stp s5
        exact tg σ' G5 H4 x s5.gh a5.now.env d5 _ fun σ2 e2 _ => nx σ2 G5 H4 (a5.env e2)
      · have e : i = items.length := by omega
        subst e
        exact .inl ⟨w.stop G' H' a'.an a'.now.gh, hd s is σ' G' H' (a'.back (a.an.trans st.g))⟩
theorem st_for {wi : TI} {tb : TS} {items : List PD} (ρs : Nat → List Sl) (Ms : Nat → Mt) (hw : EvI K wi ρ M items) (w0 : Wkn (ρs 0) ρ) (m0 : Ms 0 = M)
    (hs : ∀ (A : Hp) (i : Nat) (d : PD), items[i]? = some d → ∀ N, Nx K (B.an A) N (ρs (i + 1)) (Ms (i + 1)) → ∃ is ρ1, Tg K g is d (ρs i) ρ1 ∧ Nx K (B.an A) (tb { D with nx := N, ct := N, bk := D.nx }) ρ1 (Ms i))
    (hd : Nx K B D.nx (ρs items.length) (Ms items.length)) : Nx K B (tFor wi g tb D) ρ M :=
  st_forS (fun i s => s = i) ρs Ms 0 hw rfl w0 m0 (fun A i d s hd' e N hN => by
    subst e
    exact hs A s d hd' N (hN _ rfl)) fun s e => by
    subst e
    exact hd
/-! ### while -/
theorem st_while {S : Type} {tb : TS} (I : S → Prop) (ρs : S → List Sl) (Ms : S → Mt) (μ : S → Nat) (b : S → Bool) (s0 : S) (i0 : I s0) (w0 : Wkn (ρs s0) ρ) (m0 : Ms s0 = M)
    (ht : ∀ s, I s → EvT K tt (ρs s) (Ms s) (b s)) (hb : ∀ s, I s → b s = true → ∀ N, (∀ s', I s' → μ s' < μ s → Nx K B N (ρs s') (Ms s')) → Nx K B (tb { D with nx := N, ct := N, bk := D.nx }) (ρs s) (Ms s))
    (hd : ∀ s, I s → b s = false → Nx K B D.nx (ρs s) (Ms s)) : Nx K B (tWhile tt tb D) ρ M := fun σ G H a => by
  refine ⟨fun m σ' H' => ∃ s G', m = μ s ∧ I s ∧ At K B (ρs s) (Ms s) σ' G' H', ⟨μ s0, s0, G, rfl, i0, ?_⟩, ?_⟩
  · rw [m0]
    exact a.env (env_wkn w0 a.now.env)
  · rintro m σ' H' ⟨s, G', rfl, is, a'⟩
    refine ht s is σ' G' H' a'.now _ fun G2 H2 st => ?_
    cases e : b s with
    | true =>
      exact ⟨fun σ2 H2 => ∃ s' G3, μ s' < μ s ∧ I s' ∧ At K B (ρs s') (Ms s') σ2 G3 H2, fun σ2 H3 ⟨s', G3, h1, h2, h3⟩ => ⟨μ s', h1, s', G3, rfl, h2, h3⟩,
        hb s is e _ (fun s' i' l' σ2 G3 H3 a3 => ⟨s', G3, l', i', a3⟩) σ' G2 H2 (a'.stp st)⟩
    | false => exact hd s is e σ' G2 H2 (a'.stp st)
/-! ### comprehensions -/
def wipeR (ρ : List Sl) : List Nat → List Sl
  | [] => ρ
  | v :: vs => (wipeR ρ vs).set v .no
theorem env_wipe (h : Paired (SlOk K G) σ ρ) : ∀ vs : List Nat, Paired (SlOk K G) (wipe σ vs) (wipeR ρ vs)
  | [] => h
  | v :: vs => env_set (x := .no) True.intro v (env_wipe h vs)
theorem el_lc {wi : TI} {vs : List Nat} {items : List PD} (out : Nat → List PD) (hw : EvI K wi ρ M items) (hlen : items.length ≤ 10000000) (o0 : out 0 = [])
    (hs : ∀ (i : Nat) (d : PD), items[i]? = some d → ∃ is ρ1, (∀ j ∈ is, j ∈ vs) ∧ Tg K g is d (wipeR ρ vs) ρ1 ∧ ∃ b, EvT K tt ρ1 M b ∧ (b = true → ∃ e, EvD K te ρ1 M e ∧ out (i + 1) = out i ++ [e]) ∧ (b = false → out (i + 1) = out i)) :
    EvL K (tLc wi g tt te vs) ρ M (out items.length) := fun σ G H n Q q => hw σ G H n _ fun J G2 H2 st w => fun D hD => by
  have hol : ∀ i, i ≤ items.length → (out i).length ≤ i := by
    intro i
    induction i with
    | zero => intro _; rw [o0]; exact Nat.le_refl _
    | succ i ih =>
      intro hi
      obtain ⟨is, ρ1, _, _, b, _, h1, h2⟩ := hs i items[i] (by simp [show i < items.length by omega])
      have := ih (by omega)
      cases b with
      | true =>
        obtain ⟨e, _, h3⟩ := h1 rfl
        rw [h3, List.length_append, List.length_singleton]
        omega
      | false =>
        rw [h2 rfl]
        omega
  refine ⟨fun i m H' => m = items.length - i ∧ i ≤ items.length ∧ ∃ G' ws, Stp G2 H2 G' H' ∧ H' D = some (.lst ws) ∧ G' D = none ∧ DqA K G' ws (out i), ⟨items.length, by simp, Nat.zero_le _, G2, [], Stp.newM st.gh hD, upd_same, none_of_same st.gh hD, by rw [o0]; exact .nil⟩, ?_⟩
  rintro i m H' ⟨rfl, hi, G', ws, s', hw', hg', hd'⟩
  by_cases hlt : i < items.length
  · refine .inr ⟨w.go i G' H' s'.g s'.gh hlt, fun H'' => i + 1 ≤ items.length ∧ ∃ G' ws, Stp G2 H2 G' H'' ∧ H'' D = some (.lst ws) ∧ G' D = none ∧ DqA K G' ws (out (i + 1)), fun H'' h'' => ⟨items.length - (i + 1), by omega, rfl, h''⟩, fun x H4 hy => ?_⟩
    obtain ⟨d, hdd⟩ : ∃ d, items[i]? = some d := ⟨items[i], by simp [hlt]⟩
    obtain ⟨G5, s5, d5⟩ := w.yld i G' H' x H4 d s'.g s'.gh hdd hy
    obtain ⟨is, ρ1, hv, tg, b, et, h1, h2⟩ := hs i d hdd
    have n5 := n.stp ((st.trans s').trans s5)
    refine tg (wipe σ vs) G5 H4 x s5.gh (env_wipe n5.env vs) d5 _ fun σ2 e2 wp => ⟨?_, ?_⟩
    · rw [wp vs hv]
      have idem : wipe (wipe σ vs) vs = wipe σ vs := by
        apply List.ext_getElem?
        intro j
        rw [wipe_get, wipe_get, wipe_length]
        by_cases hj : j ∈ vs ∧ j < σ.length
        · rw [if_pos hj, if_pos hj]
        · rw [if_neg hj, if_neg hj]
      exact idem
    · have n6 : Now K ρ1 M σ2 G5 H4 := ⟨n5.gh, e2, n5.mm⟩
      refine et σ2 G5 H4 n6 _ fun G6 H6 s6 => ?_
      have s26 := (s'.trans s5).trans s6
      have hw6 := s6.h _ _ (s5.h _ _ hw')
      have hg6 := s6.own _ _ (s5.h _ _ hw') (s5.own _ _ hw' hg')
      have hd6 := DqA.same (s5.g.trans s6.g) _ _ hd'
      cases b with
      | false =>
        refine ⟨hlt, G6, ws, s26, hw6, hg6, ?_⟩
        rw [h2 rfl]
        exact hd6
      | true =>
        obtain ⟨e, hev, ho⟩ := h1 rfl
        refine hev σ2 G6 H6 (n6.stp s6) _ fun y G7 H7 s7 d7 => ⟨ws, s7.h _ _ hw6, ?_, hlt, G7, ws ++ [y], ?_, upd_same, s7.own _ _ hw6 hg6, ?_⟩
        · rw [hd'.len]
          exact sz_lt (Nat.le_trans (hol i hi) (by omega))
        · have s27 := s26.trans s7
          refine ⟨s27.g, fun c z qz => ?_, fun c z qz => ?_, s27.own⟩
          · rw [upd_ne (ne_of_none qz hD)]
            exact s27.h c z qz
          · rw [upd_ne (ne_of_none qz (s7.own _ _ hw6 hg6))]
            exact s27.gh c z qz
        · rw [ho]
          exact (DqA.same s7.g _ _ hd6).app (.cons d7 .nil)
  · have e : i = items.length := by omega
    subst e
    exact .inl ⟨w.stop G' H' s'.g s'.gh, q D ws G' H' (st.trans s') (none_of_same st.h hD) hg' hw' hd'⟩
theorem et_yes : EvT K tYes ρ M true := fun σ G H n Q q => q _ _ (Stp.refl n.gh)
theorem el_map {wi : TI} {vs : List Nat} {items : List PD} (f : PD → PD) (hw : EvI K wi ρ M items) (hlen : items.length ≤ 10000000)
    (hs : ∀ (i : Nat) (d : PD), items[i]? = some d → ∃ is ρ1, (∀ j ∈ is, j ∈ vs) ∧ Tg K g is d (wipeR ρ vs) ρ1 ∧ EvD K te ρ1 M (f d)) :
    EvL K (tLc wi g tYes te vs) ρ M (items.map f) := by
  have h := el_lc (K := K) (g := g) (tt := tYes) (te := te) (vs := vs) (fun i => (items.take i).map f) hw hlen rfl fun i d hd => by
    obtain ⟨is, ρ1, a, b, c⟩ := hs i d hd
    refine ⟨is, ρ1, a, b, true, et_yes, fun _ => ⟨f d, c, ?_⟩, fun q => by cases q⟩
    have hi := (List.getElem?_eq_some_iff.mp hd).1
    have he := (List.getElem?_eq_some_iff.mp hd).2
    show (items.take (i + 1)).map f = (items.take i).map f ++ [f d]
    rw [List.take_add_one, List.map_append, hd]
    rfl
  have e : (items.take items.length).map f = items.map f := by rw [List.take_length]
  exact h.is e
theorem el_filt {wi : TI} {vs : List Nat} {items : List PD} (c : PD → Bool) (f : PD → PD) (hw : EvI K wi ρ M items) (hlen : items.length ≤ 10000000)
    (hs : ∀ (i : Nat) (d : PD), items[i]? = some d → ∃ is ρ1, (∀ j ∈ is, j ∈ vs) ∧ Tg K g is d (wipeR ρ vs) ρ1 ∧ EvT K tt ρ1 M (c d) ∧ (c d = true → EvD K te ρ1 M (f d))) :
    EvL K (tLc wi g tt te vs) ρ M ((items.filter c).map f) := by
  have h := el_lc (K := K) (g := g) (tt := tt) (te := te) (vs := vs) (fun i => ((items.take i).filter c).map f) hw hlen rfl fun i d hd => by
    obtain ⟨is, ρ1, a, b, e, k⟩ := hs i d hd
    have e1 : items.take (i + 1) = items.take i ++ [d] := by
      rw [List.take_add_one, hd]
      rfl
    refine ⟨is, ρ1, a, b, c d, e, fun z => ⟨f d, k z, ?_⟩, fun z => ?_⟩
    · show ((items.take (i + 1)).filter c).map f = ((items.take i).filter c).map f ++ [f d]
      rw [e1, List.filter_append, List.map_append, List.filter_cons_of_pos z]
      rfl
    · show ((items.take (i + 1)).filter c).map f = ((items.take i).filter c).map f
      rw [e1, List.filter_append, List.filter_cons_of_neg (by rw [z]; decide), List.filter_nil, List.append_nil]
  have e : ((items.take items.length).filter c).map f = (items.filter c).map f := by rw [List.take_length]
  exact h.is e
end
end Lc

/-! The defs by their places, what the top leaves, the rule for a def over the data layer. -/
namespace Lc
open PySem PySem.Spec PyProof.Rows L2 RZ
def top (i : Nat) : Stmt := PySem.Challenge.pw_lengthcounts_k80_whole_counts_of_all_way.main.body.getD i (.Pass ⟨0, 0, 0, 0⟩)
abbrev s_is_whole : Stmt := top 7
abbrev s_are_wholes : Stmt := top 8
abbrev s_common_part : Stmt := top 9
abbrev s_fit : Stmt := top 10
abbrev s_is_fraction : Stmt := top 11
abbrev s_plus : Stmt := top 12
abbrev s_minus : Stmt := top 13
abbrev s_times : Stmt := top 14
abbrev s_over : Stmt := top 15
abbrev s_is_less : Stmt := top 16
abbrev s_summed : Stmt := top 17
abbrev s_in_order : Stmt := top 18
abbrev s_root : Stmt := top 19
abbrev s_worth : Stmt := top 22
abbrev s_is_square : Stmt := top 23
abbrev s_tells_lengths : Stmt := top 24
abbrev s_check_form : Stmt := top 25
abbrev s_check_bound : Stmt := top 26
abbrev s_product : Stmt := top 27
abbrev s_determinant : Stmt := top 28
abbrev s_squares : Stmt := top 30
abbrev s_squares_of : Stmt := top 31
abbrev s_reach : Stmt := top 32
abbrev s_ends : Stmt := top 33
abbrev s_points_near : Stmt := top 34
abbrev s_is_spot : Stmt := top 36
abbrev s_check_spot : Stmt := top 37
abbrev s_check_part : Stmt := top 39
abbrev s_all_rests : Stmt := top 40
abbrev s_from_spot : Stmt := top 42
abbrev s_by_rests : Stmt := top 43
abbrev s_changed_by : Stmt := top 45
abbrev s_row_led : Stmt := top 46
abbrev s_one_behind : Stmt := top 47
abbrev s_next_change : Stmt := top 50
abbrev s_gone_down : Stmt := top 51
abbrev s_points_by : Stmt := top 53
abbrev s_check_both : Stmt := top 54
abbrev s_points_at : Stmt := top 55
abbrev s_points_to : Stmt := top 56
abbrev s_tallied : Stmt := top 57
abbrev s_counts_to : Stmt := top 58
abbrev s_is_bare : Stmt := top 59
abbrev s_bare_counts : Stmt := top 60
abbrev s_shortest : Stmt := top 61
abbrev s_box_holds : Stmt := top 63
abbrev s_points_hold : Stmt := top 64
abbrev s_beside : Stmt := top 66
abbrev s_stretched : Stmt := top 67
abbrev s_rests_table : Stmt := top 68
abbrev s_other_form : Stmt := top 69
abbrev s_counts_joined : Stmt := top 70
abbrev s__law_cell : Stmt := top 72
abbrev s__law_pen : Stmt := top 73
abbrev s__law_draw : Stmt := top 74
abbrev s__law_whole : Stmt := top 75
abbrev s__law_less : Stmt := top 76
abbrev s__law_worth : Stmt := top 77
abbrev s__law_tells : Stmt := top 78
abbrev s__law_form : Stmt := top 79
abbrev s__law_small : Stmt := top 80
abbrev s__law_counts_right : Stmt := top 81
abbrev s__law_form_right : Stmt := top 82
abbrev s_law : Stmt := top 83
/-- a def of the top -/
structure DefOk (K : PySem.W.Frag) (mg : Str → Option Value) (x : Str) (st : Stmt) : Prop where
  fd : ∃ fd, FunD K x x (defArgs st) (defBody st) (defScope st) [] [] (He.ga K x) fd
  gl : mg x = some (.ref (He.ga K x))
structure Tx (K : PySem.W.Frag) (mg : Str → Option Value) : Prop where
  f_is_whole : DefOk K mg "is_whole" s_is_whole
  f_are_wholes : DefOk K mg "are_wholes" s_are_wholes
  f_common_part : DefOk K mg "common_part" s_common_part
  f_fit : DefOk K mg "fit" s_fit
  f_is_fraction : DefOk K mg "is_fraction" s_is_fraction
  f_plus : DefOk K mg "plus" s_plus
  f_minus : DefOk K mg "minus" s_minus
  f_times : DefOk K mg "times" s_times
  f_over : DefOk K mg "over" s_over
  f_is_less : DefOk K mg "is_less" s_is_less
  f_summed : DefOk K mg "summed" s_summed
  f_in_order : DefOk K mg "in_order" s_in_order
  f_root : DefOk K mg "root" s_root
  f_worth : DefOk K mg "worth" s_worth
  f_is_square : DefOk K mg "is_square" s_is_square
  f_tells_lengths : DefOk K mg "tells_lengths" s_tells_lengths
  f_check_form : DefOk K mg "check_form" s_check_form
  f_check_bound : DefOk K mg "check_bound" s_check_bound
  f_product : DefOk K mg "product" s_product
  f_determinant : DefOk K mg "determinant" s_determinant
  f_squares : DefOk K mg "squares" s_squares
  f_squares_of : DefOk K mg "squares_of" s_squares_of
  f_reach : DefOk K mg "reach" s_reach
  f_ends : DefOk K mg "ends" s_ends
  f_points_near : DefOk K mg "points_near" s_points_near
  f_is_spot : DefOk K mg "is_spot" s_is_spot
  f_check_spot : DefOk K mg "check_spot" s_check_spot
  f_check_part : DefOk K mg "check_part" s_check_part
  f_all_rests : DefOk K mg "all_rests" s_all_rests
  f_from_spot : DefOk K mg "from_spot" s_from_spot
  f_by_rests : DefOk K mg "by_rests" s_by_rests
  f_changed_by : DefOk K mg "changed_by" s_changed_by
  f_row_led : DefOk K mg "row_led" s_row_led
  f_one_behind : DefOk K mg "one_behind" s_one_behind
  f_next_change : DefOk K mg "next_change" s_next_change
  f_gone_down : DefOk K mg "gone_down" s_gone_down
  f_points_by : DefOk K mg "points_by" s_points_by
  f_check_both : DefOk K mg "check_both" s_check_both
  f_points_at : DefOk K mg "points_at" s_points_at
  f_points_to : DefOk K mg "points_to" s_points_to
  f_tallied : DefOk K mg "tallied" s_tallied
  f_counts_to : DefOk K mg "counts_to" s_counts_to
  f_is_bare : DefOk K mg "is_bare" s_is_bare
  f_bare_counts : DefOk K mg "bare_counts" s_bare_counts
  f_shortest : DefOk K mg "shortest" s_shortest
  f_box_holds : DefOk K mg "box_holds" s_box_holds
  f_points_hold : DefOk K mg "points_hold" s_points_hold
  f_beside : DefOk K mg "beside" s_beside
  f_stretched : DefOk K mg "stretched" s_stretched
  f_rests_table : DefOk K mg "rests_table" s_rests_table
  f_other_form : DefOk K mg "other_form" s_other_form
  f_counts_joined : DefOk K mg "counts_joined" s_counts_joined
  f__law_cell : DefOk K mg "_law_cell" s__law_cell
  f__law_pen : DefOk K mg "_law_pen" s__law_pen
  f__law_draw : DefOk K mg "_law_draw" s__law_draw
  f__law_whole : DefOk K mg "_law_whole" s__law_whole
  f__law_less : DefOk K mg "_law_less" s__law_less
  f__law_worth : DefOk K mg "_law_worth" s__law_worth
  f__law_tells : DefOk K mg "_law_tells" s__law_tells
  f__law_form : DefOk K mg "_law_form" s__law_form
  f__law_small : DefOk K mg "_law_small" s__law_small
  f__law_counts_right : DefOk K mg "_law_counts_right" s__law_counts_right
  f__law_form_right : DefOk K mg "_law_form_right" s__law_form_right
  f_law : DefOk K mg "law" s_law
  b_isinstance : mg "isinstance" = none
  b_int : mg "int" = none
  b_bool : mg "bool" = none
  b_tuple : mg "tuple" = none
  b_list : mg "list" = none
  b_len : mg "len" = none
  b_all : mg "all" = none
  b_any : mg "any" = none
  b_abs : mg "abs" = none
  b_range : mg "range" = none
  b_zip : mg "zip" = none
  b_enumerate : mg "enumerate" = none
  b_sum : mg "sum" = none
  b_sorted : mg "sorted" = none
  b_min : mg "min" = none
  b_max : mg "max" = none
  b_dict : mg "dict" = none
  b_divmod : mg "divmod" = none
  most : ∃ t, mg "MOST_SIZE" = some (.int 3 t)
  same : ∃ (a b c : Addr), mg "SAME" = some (.ref a) ∧ (∀ H, SqT K H a [.ref b, .ref c]) ∧ (∀ H, SqT K H b [.int 1, .int 0]) ∧ (∀ H, SqT K H c [.int 0, .int 1])
/-- the promise of a def of data: S says what is asked of the arguments and what comes back -/
def spF (K : PySem.W.Frag) (S : List PD → (PD → Prop) → Prop) : Sp := fun vs H Q _ => ∃ G ds, Same G H ∧ DqA K G vs ds ∧ S ds (fun d => ∀ v G2 H2, Stp G H G2 H2 → Dq K G2 v d → Q v H2)
theorem start_env {K : PySem.W.Frag} {G : Hp} {N : List Str} : ∀ {vs : List V} {ds : List PD}, DqA K G vs ds → Paired (SlOk K G) (L2.start N vs) (ds.map Sl.d ++ List.replicate (N.length - ds.length) Sl.no) := by
  intro vs ds h
  unfold L2.start
  rw [h.len]
  generalize N.length - ds.length = m
  have h1 : ∀ {vs : List V} {ds : List PD}, DqA K G vs ds → Paired (SlOk K G) (vs.map some ++ List.replicate m none) (ds.map Sl.d ++ List.replicate m Sl.no) := by
    intro vs ds h
    induction ds generalizing vs with
    | nil =>
      cases h
      induction m with
      | zero => exact .nil
      | succ m ih => exact .cons (a := none) (b := Sl.no) True.intro ih
    | cons d ds ih =>
      cases h with
      | cons a b => exact .cons (slD a) (ih b)
  exact h1 h
theorem cal_of {P : Program} {w : World} {K : PySem.W.Frag} {mg : Str → Option Value} {base : Heap} {x : Str} {st : Stmt} {N ps : List Str} {k : Nat} {S : List PD → (PD → Prop) → Prop} (F : DefOk K mg x st)
    (hb : ∀ (kV doc pm : Value) (an : Option Addr) (cdv ct : Value) (us : List Value), us.length = ps.length → bindArgs (PySem.W.fnOf x x (defArgs st) (defBody st) (defScope st) .none kV doc pm an cdv ct) ⟨us, []⟩ = pure (ps.zip us))
    (sc : FnScope N ps (defScope st)) (len : ∀ ds R, S ds R → ds.length = ps.length)
    (body : ∀ (cdv : Value) (A : Around) (outer : List Env) (s : Shared) (H : Hp) (E : XK), Room k (A.deeper (envOfC x (defScope st) s.heap.objs.size (He.ga K x) cdv)) →
      ∃ t, PSs (cxOf CX0 P w K mg base N x (defScope st) (He.ga K x) cdv A outer s H E).nox (defBody st) t ∧
        ∀ G ds vs R rt, Same G H → DqA K G vs ds → S ds R → RtOk K ⟨G, G, H⟩ rt R → Nx K ⟨G, G, H⟩ (t { nx := fun _ H' => rt .non H', rt := rt }) (ds.map Sl.d ++ List.replicate (N.length - ds.length) Sl.no) []) :
    C8.Cal P w K mg base (k + 1) x (spF K S) [] := by
  obtain ⟨fd, F1⟩ := F.fd
  refine ⟨He.ga K x, fd, ps, [], F1.ok sc (fun vs H Q E h => ?_) (fun cdv A outer s H vs Q E hr h => ?_), F.gl, F1.kp, F1.bindsN hb, .nil⟩
  · obtain ⟨G, ds, _, h1, h2⟩ := h
    rw [h1.len]
    exact len ds _ h2
  · obtain ⟨t, ht, q⟩ := body cdv A outer s H E hr
    obtain ⟨G, ds, h0, h1, h2⟩ := h
    refine ⟨t, PSs.nox ht, q G ds vs _ Q h0 h1 h2 (fun v G' H' d st hd r => r v G' H' st hd) _ G H ⟨Stp.refl h0, Same.refl _, ⟨h0, start_env h1, fun q hq => absurd hq (by simp)⟩, fun q hq => absurd hq (by simp), by simp⟩⟩
theorem fn_of {P : Program} {w : World} {K : PySem.W.Frag} {mg : Str → Option Value} {base : Heap} {x : Str} {st : Stmt} {N ps : List Str} {k : Nat} {S : List PD → (PD → Prop) → Prop} {fd : FuncData} (F1 : FunD K x x (defArgs st) (defBody st) (defScope st) [] [] (He.ga K x) fd)
    (sc : FnScope N ps (defScope st)) (len : ∀ ds R, S ds R → ds.length = ps.length)
    (body : ∀ (cdv : Value) (A : Around) (outer : List Env) (s : Shared) (H : Hp) (E : XK), Room k (A.deeper (envOfC x (defScope st) s.heap.objs.size (He.ga K x) cdv)) →
      ∃ t, PSs (cxOf CX0 P w K mg base N x (defScope st) (He.ga K x) cdv A outer s H E).nox (defBody st) t ∧
        ∀ G ds vs R rt, Same G H → DqA K G vs ds → S ds R → RtOk K ⟨G, G, H⟩ rt R → Nx K ⟨G, G, H⟩ (t { nx := fun _ H' => rt .non H', rt := rt }) (ds.map Sl.d ++ List.replicate (N.length - ds.length) Sl.no) []) :
    FnOk P w K mg base CX0 (k + 1) (He.ga K x) fd ps (spF K S) := by
  refine F1.ok sc (fun vs H Q E h => ?_) (fun cdv A outer s H vs Q E hr h => ?_)
  · obtain ⟨G, ds, _, h1, h2⟩ := h
    rw [h1.len]
    exact len ds _ h2
  · obtain ⟨t, ht, q⟩ := body cdv A outer s H E hr
    obtain ⟨G, ds, h0, h1, h2⟩ := h
    refine ⟨t, PSs.nox ht, q G ds vs _ Q h0 h1 h2 (fun v G' H' d st hd r => r v G' H' st hd) _ G H ⟨Stp.refl h0, Same.refl _, ⟨h0, start_env h1, fun q hq => absurd hq (by simp)⟩, fun q hq => absurd hq (by simp), by simp⟩⟩
section
variable {K : PySem.W.Frag} {ρ : List Sl} {M : Mt} {d : PD} {ds : List PD} {tA : TA} {S : List PD → (PD → Prop) → Prop}
theorem ev_call (ha : EvA K tA ρ M ds) (hS : ∀ R : PD → Prop, R d → S ds R) : EvD K (tCall (spF K S) [] E0 tA) ρ M d := fun σ G H n Q q =>
  ha σ G H n _ fun vs G2 H2 s h => ⟨G2, ds, s.gh, by rw [List.append_nil]; exact h, hS _ fun v G3 H3 s3 h3 => q v G3 H3 (s.trans s3) h3⟩
end
end Lc

/-! Built-in functions over the data layer. -/
namespace Lc
open PySem PySem.Spec PyProof.Rows L2 RZ
section
variable {K : PySem.W.Frag} {G H G2 H2 : Hp} {ρ : List Sl} {M : Mt} {d : PD} {ds es : List PD} {ta : TE}
def tyN : PD → String
  | .none => "NoneType"
  | .bool _ => "bool"
  | .int _ => "int"
  | .str _ => "str"
  | .list _ => "list"
  | .tuple _ => "tuple"
  | .dict _ => "dict"
def isStr : PD → Bool
  | .str _ => true
  | .dict _ => true
  | _ => false
theorem dq_ty (e : Same G H) {v : V} {d : PD} (n : isStr d = false) (h : Dq K G v d) : TyX K H v (.type (tyN d)) := by
  cases h with
  | non => exact .base .non
  | bl b => exact .base (.bl b)
  | int i => exact .base (.int i)
  | lst h _ => exact .base (.lst (e _ _ h))
  | adr p => exact nomatch n
  | dct ks ps h => exact nomatch n
  | key k h => exact nomatch n
  | dcf ks ps cs h _ => exact nomatch n
  | scr ns h => exact nomatch n
  | tup h _ =>
    rcases same_t e h with (h | ⟨o, h⟩) | ⟨o, its, n, h1, h2, _⟩
    · exact .base (.tup h)
    · exact .fTuple h
    · exact .kTuple h1 h2
theorem ev_isi {b : Bool} {n : String} (h : EvD K ta ρ M d) (k : kitB (tyN d) n = some b) (hn : isStr d = false := by rfl) : EvD K (tCB (rIsi K) (tCons ta (tCons (tC (.ty n)) tNil))) ρ M (.bool b) := fun σ G H m Q q =>
  h σ G H m _ fun v G2 H2 s hv => ⟨v, .ty n, _, _, b, rfl, .ty n, dq_ty s.gh hn hv, kit_ty k, q _ G2 H2 s (.bl b)⟩
theorem rc_all {bs : List Bool} : RcD K (rAll K) [.list (bs.map PyData.bool)] (.bool (bs.all id)) := fun G H vs e hv Q q => by
  cases hv with
  | cons h1 h2 =>
    cases h2
    obtain ⟨a, xs, rfl, h3, h4⟩ := h1.list_inv
    rw [h4.bls] at h3
    exact ⟨a, bs, rfl, same_sq e h3, q _ _ _ (Stp.refl e) (.bl _)⟩
theorem rc_any {bs : List Bool} : RcD K (rAny K) [.list (bs.map PyData.bool)] (.bool (bs.any id)) := fun G H vs e hv Q q => by
  cases hv with
  | cons h1 h2 =>
    cases h2
    obtain ⟨a, xs, rfl, h3, h4⟩ := h1.list_inv
    rw [h4.bls] at h3
    exact ⟨a, bs, rfl, same_sq e h3, q _ _ _ (Stp.refl e) (.bl _)⟩
theorem rc_sum {ns : List Int} : RcD K (rSum K) [.list (ns.map PyData.int)] (.int ns.sum) := fun G H vs e hv Q q => by
  cases hv with
  | cons h1 h2 =>
    cases h2
    obtain ⟨a, xs, rfl, h3, h4⟩ := h1.list_inv
    rw [h4.ints] at h3
    exact ⟨a, ns, rfl, same_sq e h3, q _ _ _ (Stp.refl e) (.int _)⟩
/-- the least of a list -/
theorem rc_min {ns : List Int} {m : Int} (h0 : m ∈ ns) (hm : ∀ y ∈ ns, m ≤ y) : RcD K (rMin K) [.list (ns.map PyData.int)] (.int m) := fun G H vs e hv Q q => by
  cases hv with
  | cons h1 h2 =>
    cases h2
    obtain ⟨a, xs, rfl, h3, h4⟩ := h1.list_inv
    rw [h4.ints] at h3
    refine ⟨a, ns, rfl, same_sq e h3, List.length_pos_of_mem h0, fun m' g1 g2 => ?_⟩
    have : m' = m := by have := g2 m h0; have := hm m' g1; omega
    subst this
    exact q _ _ _ (Stp.refl e) (.int _)
theorem rc_abs {i : Int} : RcD K (fun xs H Q => ∃ i, xs = [.int i] ∧ Q (.int (if i < 0 then -i else i)) H) [.int i] (.int (if i < 0 then -i else i)) := fun G H vs e hv Q q => by
  cases hv with
  | cons h1 h2 =>
    cases h2
    rw [h1.int_inv]
    exact ⟨i, rfl, q _ _ _ (Stp.refl e) (.int _)⟩
theorem rc_max2 {i j : Int} : RcD K (fun xs H Q => ∃ i j, xs = [.int i, .int j] ∧ Q (.int (if j > i then j else i)) H) [.int i, .int j] (.int (if j > i then j else i)) := fun G H vs e hv Q q => by
  cases hv with
  | cons h1 h2 =>
    cases h2 with
    | cons h2 h3 =>
      cases h3
      rw [h1.int_inv, h2.int_inv]
      exact ⟨i, j, rfl, q _ _ _ (Stp.refl e) (.int _)⟩
theorem rc_min2 {i j : Int} : RcD K (fun xs H Q => ∃ i j, xs = [.int i, .int j] ∧ Q (.int (if j < i then j else i)) H) [.int i, .int j] (.int (if j < i then j else i)) := fun G H vs e hv Q q => by
  cases hv with
  | cons h1 h2 =>
    cases h2 with
    | cons h2 h3 =>
      cases h3
      rw [h1.int_inv, h2.int_inv]
      exact ⟨i, j, rfl, q _ _ _ (Stp.refl e) (.int _)⟩
theorem rc_intB {b : Bool} : RcD K (fun xs H Q => (∃ i, xs = [.int i] ∧ Q (.int i) H) ∨ ∃ k, xs = [.bl k] ∧ Q (.int (if k then 1 else 0)) H) [.bool b] (.int (if b then 1 else 0)) := fun G H vs e hv Q q => by
  cases hv with
  | cons h1 h2 =>
    cases h2
    rw [h1.bl_inv]
    exact .inr ⟨b, rfl, q _ _ _ (Stp.refl e) (.int _)⟩
/-- tuple(a list) -/
theorem rc_tupL : RcD K (fun xs H Q => ∃ p ys, xs = [.ref p] ∧ ((SqL K H p ys ∧ ∀ l, H l = none → Q (.ref l) (upd H l (.tup ys))) ∨ (SqT K H p ys ∧ Q (.ref p) H))) [.list ds] (.tuple ds) := fun G H vs e hv Q q => by
  cases hv with
  | cons h1 h2 =>
    cases h2
    obtain ⟨a, xs, rfl, h3, h4⟩ := h1.list_inv
    exact ⟨a, xs, rfl, .inl ⟨same_sq e h3, fun l hl => q _ _ _ (Stp.new e hl) (.tup (.inl (.inl upd_same)) (DqA.same (same_new (none_of_same e hl)) _ _ h4))⟩⟩
/-- list(a tuple) -/
theorem rc_lstT : RcL K (fun xs H Q => ∃ p ys, xs = [.ref p] ∧ (SqL K H p ys ∨ SqT K H p ys) ∧ ∀ l, H l = none → Q (.ref l) (upd H l (.lst ys))) [.tuple ds] ds := fun G H vs e hv Q q => by
  cases hv with
  | cons h1 h2 =>
    cases h2
    obtain ⟨a, xs, rfl, h3, h4⟩ := h1.tup_inv
    exact ⟨a, xs, rfl, .inr (same_t e h3), fun l hl => q l _ _ _ (Stp.newM e hl) hl (none_of_same e hl) upd_same h4⟩
end
end Lc

/-! The data of this program. -/
namespace Lc
open PySem PySem.Spec PyProof.Rows L2 RZ
def fr (q : Rat) : PD := .tuple [.int q.num, .int (q.den : Int)]
def pt (p : List Int) : PD := .tuple (p.map .int)
def fm (F : List (List Int)) : PD := .tuple (F.map pt)
theorem frI (x : Int) : PyData.tuple [.int x, .int 1] = fr (x : Rat) := rfl
theorem fr0 : PyData.tuple [.int 0, .int 1] = fr 0 := rfl
theorem kit_ii : kitB "int" "int" = some true := by decide +kernel
theorem kit_ib : kitB "int" "bool" = some false := by decide +kernel
theorem kit_tt : kitB "tuple" "tuple" = some true := by decide +kernel
theorem kit_ll : kitB "list" "list" = some true := by decide +kernel
theorem log_of {i : Int} {n : Nat} (h : i.natAbs < 2 ^ n) (h0 : 0 < n) : i.natAbs.log2 < n := PySem.Flt.log2_lt_of h0 h
theorem cmul {i j : Int} {a b : Nat} (ha : i.natAbs < 2 ^ a) (hb : j.natAbs < 2 ^ b) (h : a + b ≤ 500000) : CMulW i j :=
  wide_mul (a := a + 1) (b := b + 1) (Nat.lt_of_lt_of_le ha (Nat.pow_le_pow_right (by decide) (by omega))) (Nat.lt_of_lt_of_le hb (Nat.pow_le_pow_right (by decide) (by omega))) (by omega) (by omega) (by omega)
theorem cdiv {i j : Int} {b : Nat} (h : 0 < j) (hb : j.natAbs < 2 ^ b) (h9 : b ≤ 8999) : CDivW i j :=
  wide_div (b := b + 1) h (Nat.lt_of_lt_of_le hb (Nat.pow_le_pow_right (by decide) (by omega))) (by omega) (by omega)
end Lc

namespace Lc
open PySem PySem.Spec PyProof.Rows L2 RZ
/-! ### tuple * int, from 1 on -/
theorem tuple_mul1 (l : Addr) (items : Array Value) (n : Nat) (dd : Option Addr) (sl : Array (Option Value)) (u : Tok) :
    Meets (Builtin.«tuple.__mul__» ⟨[.ref l, .int 1 u], []⟩) (fun _ R s => s.heap.get? l = some { cls := .type "tuple", dict := dd, data := .seq items n, slots := sl } ∧ R (.ok (.ret (Value.ref l))) s) :=
  .of_wp fun prog w A R s h => by
    obtain ⟨hp, g, d, tk, os⟩ := s
    obtain ⟨hl, h⟩ := h
    have f1 := AutoSeq1.idx_int
    wp_walk using wpAny_loadPart' hl
    exact ⟨_, rfl, h⟩
def rRepT1 (K : PySem.W.Frag) : R2 := fun x y H Q => ∃ l k xs, x = .ref l ∧ y = .int k ∧ SqT K H l xs ∧ xs ≠ [] ∧ 1 ≤ k ∧ k ≤ 1000 ∧ xs.length ≤ 1000 ∧ (k = 1 → Q (.ref l) H) ∧ (k ≠ 1 → ∀ p, H p = none → Q (.ref p) (upd H p (.tup (List.replicate k.toNat xs).flatten)))
theorem op_repT1 {X : Cx} : OpR X (binaryOp .Mult) (rRepT1 X.K) := by
  intro pins s σ H x y v u Q I rx ry h
  obtain ⟨l, k, xs, rfl, rfl, hT, hne, h1, h2, hz, q1, q2⟩ := h
  by_cases hk : k = 1
  · subst hk
    cases rx
    obtain ⟨t, rfl⟩ := ry
    obtain ⟨its, r, ⟨⟨cls, dd, data, sl⟩, ho, hc, n, hd⟩, hs⟩ := I.tuple hT
    simp only at hc hd
    subst hc hd
    refine wpAny_binaryOp_repeat_ref (T := "tuple") (U := "int") (by decide) ⟨_, ho, rfl⟩ (fun s' => typeIs_int s' 1 t) noFill_tuple_mul F.fills_int_mul F.slot_int_rmul repeat_tuple F.slot_int_index.lookup
      (call_meets F.slot_int_rmul (typeIs_int s 1 t) F.entry_int_rmul (F.args_int_rmul_2 _ _) (int_rmul_tuple 1 t l its.toArray n dd sl)
        ⟨ho, rfl, ⟨_, ho, rfl⟩, call_meets F.slot_tuple_mul ⟨_, ho, rfl⟩ F.entry_tuple_mul (F.args_tuple_mul_2 _ _) (tuple_mul1 l its.toArray n dd sl t) ⟨ho, ?_⟩⟩)
    exact ⟨.ref l, H, I, rfl, q1 rfl⟩
  · exact op_repT pins s σ H _ _ v u Q I rx ry ⟨l, k, xs, rfl, rfl, hT, hne, by omega, h2, hz, q2 hk⟩
/-! ### enumerate(tuple) -/
theorem meets_enumerate_newT (l : Addr) (items : Array Value) (n : Nat) (dct : Option Addr) (sl : Array (Option Value)) :
    Meets (Builtin.«enumerate.__new__» ⟨[.type "enumerate", .ref l], []⟩) (fun _ R s => s.heap.get? l = some { cls := .type "tuple", dict := dct, data := .seq items n, slots := sl } ∧
      R (.ok (.ret (.ref (s.heap.push { cls := .type "tuple_iterator", data := .fields #[.ref l, .int 0 0] }).objs.size)))
        { s with heap := (s.heap.push { cls := .type "tuple_iterator", data := .fields #[.ref l, .int 0 0] }).push { cls := .type "enumerate", data := .fields #[.none, .bool false, .ref s.heap.objs.size, rawInt 0, .none, .none] } }) :=
  .of_wp fun prog w A R s h => by
    obtain ⟨hp, g, d, tk, os⟩ := s; obtain ⟨hl, h⟩ := h
    have hsub := sub_enumerate
    have hL : Heap.IsTuple (Shared.heap ⟨hp, g, d, tk, os⟩) l items := ⟨_, hl, rfl, n, rfl⟩
    wp_walk using AutoSeq1.wpAny_loadPart' hl
    refine wpAny_stack_any fun st => wpAny_pure ?_
    split
    · rename_i c _ _ _ _ _
      cases (c == Value.type "enumerate")
      · wp_walk using AutoSeq1.wpAny_loadPart' hl, wpAny_pyIter_tuple hL
        exact ⟨_, rfl, h⟩
      · wp_walk using AutoSeq1.wpAny_loadPart' hl, wpAny_pyIter_tuple hL
        exact ⟨_, rfl, h⟩
    · wp_walk using AutoSeq1.wpAny_loadPart' hl, wpAny_pyIter_tuple hL
      exact ⟨_, rfl, h⟩
section
variable {prog : Program} {w : World} {A : Around} {E : Value → Shared → Prop} {s : Shared}
theorem call_enumerate_tuple {l : Addr} {items : Array Value} {Q : Value → Shared → Prop} (hL : s.heap.IsTuple l items)
    (h : ∀ h', IsEnum h' (s.heap.objs.size + 1) s.heap.objs.size 0 .none → h'.IsTupleIter s.heap.objs.size l 0 → h'.objs.size = s.heap.objs.size + 2 →
      (∀ b o, s.heap.get? b = some o → h'.get? b = some o) → Q (.ref (s.heap.objs.size + 1)) { s with heap := h' }) :
    wpAny (model prog w) A (call (.type "enumerate") [.ref l]) Q E s := by
  obtain ⟨⟨c, dct, dt, sl⟩, hl, hc, n, hd⟩ := hL
  replace hc : c = .type "tuple" := hc
  replace hd : dt = .seq items n := hd
  subst hc hd
  refine callType_new F.called_enumerate (by decide) (F.typeCall_enumerate_1 _) (F.newCall_enumerate_1 _) (fun obj => F.args_object_init_2 obj _) F.entry_enumerate_new
    (meets_enumerate_newT l items n dct sl) ⟨hl, ?_⟩
  have hz : (s.heap.push { cls := .type "tuple_iterator", data := .fields #[.ref l, .int 0 0] }).objs.size = s.heap.objs.size + 1 := Heap.size_push ..
  show _ ∧ _
  rw [hz]
  have he : IsEnum ((s.heap.push { cls := .type "tuple_iterator", data := .fields #[.ref l, .int 0 0] }).push
      { cls := .type "enumerate", data := .fields #[.none, .bool false, .ref s.heap.objs.size, rawInt 0, .none, .none] }) (s.heap.objs.size + 1) s.heap.objs.size 0 .none := by
    have := Heap.get?_push_size (s.heap.push { cls := .type "tuple_iterator", data := .fields #[.ref l, .int 0 0] })
      (o := { cls := .type "enumerate", data := .fields #[.none, .bool false, .ref s.heap.objs.size, rawInt 0, .none, .none] }) rfl
    rw [hz] at this; exact this
  refine ⟨⟨_, he, rfl⟩, h _ he ⟨_, Heap.get?_push_of_some _ (Heap.get?_push_size _ rfl), rfl, rfl⟩ (by rw [Heap.size_push, hz]) fun b o x => Heap.get?_push_of_some _ (Heap.get?_push_of_some _ x)⟩
end
/-- the tuple at a, each item in a new pair -/
def IteT (K : PySem.W.Frag) (a : Addr) : It :=
  ⟨fun i H => ∃ (xs : List V) (x : V), SqT K H a xs ∧ xs[i]? = some x, fun i H v H' => ∃ T x, v = .ref T ∧ H T = none ∧ H' = upd H T (.tup [.int (i : Nat), x]) ∧ ∀ xs, SqT K H a xs → xs[i]? = some x, fun i H => ∃ xs : List V, SqT K H a xs ∧ xs.length ≤ i⟩
theorem turn_enumT {P : Program} {w : World} {K : PySem.W.Frag} {elts : List Expr} {kk : Nat} {tpos : Pos} (a e it : Addr) :
    Turn P w K (.Tuple elts kk tpos) (IteT K a) [e, it] e (fun i h => (∃ old, IsEnum h e it ((i : Nat) : Int) old) ∧ h.IsTupleIter it a i ∧ e ≠ it) where
  mem := by simp
  obj := fun i h st b hb => by
    obtain ⟨⟨old, he⟩, ⟨o, ho, hc, hd⟩, _⟩ := st
    have e' : b = e ∨ b = it := by simpa using hb
    rcases e' with z | z
    · rw [z]; exact ⟨_, he, fun v q => nomatch q⟩
    · rw [z]; exact ⟨o, ho, fun v q => by rw [hd] at q; cases q⟩
  keep := fun i h h' st k => let ⟨⟨old, he⟩, hi, hne⟩ := st; ⟨⟨old, k e (by simp) _ he⟩, hi.at fun o q => k it (by simp) o q, hne⟩
  item := by
    intro X hP hw hK hc i pins s σ H E I hf st hg
    subst hP hw hK
    obtain ⟨⟨old, he⟩, hit, hne⟩ := st
    obtain ⟨xs, x, hq, hx⟩ := hg
    obtain ⟨its, rv, p, hz⟩ := I.tuple hq
    have p' : s.heap.IsTuple a its.toArray := p
    obtain ⟨u, hu, ru⟩ := rv.get hx
    have hlt : i < its.toArray.size := by
      have := (List.getElem?_eq_some_iff.mp hu).1
      simpa using this
    have hel : e < s.heap.objs.size := Heap.lt_size he
    have hil : it < s.heap.objs.size := by obtain ⟨_, q, _⟩ := hit; exact Heap.lt_size q
    have hai : a ≠ it := fun z => by
      obtain ⟨o1, h1, h2, _⟩ := p'
      obtain ⟨o2, h3, h4, _⟩ := hit
      rw [z, h3] at h1
      cases h1
      rw [h4] at h2
      exact absurd h2 (by decide)
    have hea : e ≠ a := fun z => by
      obtain ⟨o1, h1, h2, _⟩ := p'
      have h3 : s.heap.get? e = some _ := he
      rw [← z, h3] at h1
      cases h1
      exact absurd (show (Value.type "enumerate" : Value) = Value.type "tuple" from h2) (by decide)
    have D := Draws.tuple (prog := X.prog) (w := X.w) (A := X.A.in1) (I.ok.hd hc) it a hai its.toArray
    refine wpAny_pyNext_enum_itemD D he ⟨hit, p'⟩ hlt hne (by simp [hne, hea]) fun x1 h' tk hx1 ho hst hT hsz hk => ?_
    have hx2 : x1 = u := by
      have z : its.toArray[i]? = some x1 := hx1
      have z2 : its[i]? = some x1 := by simpa using z
      rw [hu] at z2
      exact (Option.some.inj z2).symm
    subst hx2
    obtain ⟨hit', _⟩ := hst
    refine ⟨_, rfl, wpAny_letOwnedTupleGo_enum (s := { s with heap := h', toks := tk + 1 }) ho fun h'' he' sb => ?_⟩
    have hT2 : h''.get? s.heap.objs.size = some { cls := .type "tuple", data := .seq #[.int i tk, x1] } := (sb.2 _ (Nat.ne_of_gt hel)).trans hT
    have new : ObjOk X.prog X.w (upd H s.heap.objs.size (.tup [.int (i : Nat), x])) h'' s.heap.objs.size (.tup [.int (i : Nat), x]) :=
      ⟨by show 2 ≤ sizeLine; decide, [.int i tk, x1], .cons ⟨_, rfl⟩ (.cons ru .nil), ⟨_, hT2, rfl, _, rfl⟩⟩
    have I1 : Inv X pins σ (upd H s.heap.objs.size (.tup [.int (i : Nat), x])) { s with heap := h'', toks := tk + 1 } :=
      I.turnedNew (ch := [e, it]) (fun b ob hb q => (sb.2 b (fun z => hb (by simp [z]))).trans (hk b ob (fun z => hb (by simp [z])) (fun z => hb (by simp [z])) q)) hf (Nat.le_refl _) new
    refine ⟨.ref s.heap.objs.size, _, I1, rfl, ⟨_, x, rfl, I.hok.fresh (Nat.le_refl _), rfl, fun ys hy => by rw [I.tuple_inj hy hq]; exact hx⟩, ⟨⟨x1, ?_⟩, hit'.at fun o q => (sb.2 it (Ne.symm hne)).trans q, hne⟩, fun b hb => ?_⟩
    · have e1 : ((i + 1 : Nat) : Int) = (i : Int) + 1 := by omega
      rw [e1]; exact he'
    · have hb' : b < s.heap.objs.size := by
        have e' : b = e ∨ b = it := by simpa using hb
        rcases e' with z | z
        · rw [z]; exact hel
        · rw [z]; exact hil
      rw [upd_ne (Nat.ne_of_lt hb')]
      exact (hf b hb).1
  done := by
    intro X hP hw hK hc i pins s σ H E I hf st hg
    subst hP hw hK
    obtain ⟨⟨old, he⟩, hit, hne⟩ := st
    obtain ⟨xs, hq, hx⟩ := hg
    obtain ⟨its, rv, p, hz⟩ := I.tuple hq
    have p' : s.heap.IsTuple a its.toArray := p
    obtain ⟨f0, f1, f2, f3, f4, f5⟩ := hf it (by simp)
    have hl := rv.length
    have hai : a ≠ it := fun z => by
      obtain ⟨o1, h1, h2, _⟩ := p'
      obtain ⟨o2, h3, h4, _⟩ := hit
      rw [z, h3] at h1
      cases h1
      rw [h4] at h2
      exact absurd h2 (by decide)
    unfold pyNext
    have hT : s.TypeIs (.ref e) "enumerate" := ⟨_, he, rfl⟩
    refine wpAny_bind (wpAny_attempt (wpAny_callSpecial?_slot (name := Str.ofString "__next__") hT F.slot_enumerate_next
      (wpAny_call_entry F.slot_enumerate_next hT F.entry_enumerate_next ?_ (F.args_enumerate_next_1 _))))
    show wpAny _ _ (field (.ref e) 2 >>= _) _ _ _
    refine wpAny_bind (wpAny_field he rfl (x := .ref it) rfl ?_)
    refine wpAny_bind (wpAny_nextOf_tuple_end (A := X.A.in1) (I.ok.hd hc) hit p' (by simp; omega) fun h' x he' hx' => ?_)
    obtain ⟨o, ho, hc⟩ := hx'
    refine wpAny_bind (wpAny_isInstance (T := "StopIteration") (b := true) ⟨o, ho, hc⟩ isSubtype_stop ?_)
    exact wpAny_pure ⟨rfl, I.turned (t' := s.toks) (fun b o hb q => he' b o hb q) f0 f1 f3 f4 f5⟩
  self := fun A i s Q E st h => let ⟨⟨_, he⟩, _⟩ := st; wpAny_pyIter_enum he h
def iEnumT (K : PySem.W.Frag) (ta : TA) : TI := fun σ H R => ta σ H fun vs H1 => ∃ a xs, vs = [.ref a] ∧ SqT K H1 a xs ∧ R (IteT K a) H1
theorem pi_enumT {X : Cx} {e : Expr} {ta : TA} {p pos tpos : Pos} {elts : List Expr} {kk : Nat} (hg : Gl X "enumerate") (hm : X.mg "enumerate" = none) (ha : PA X [e] ta) (hs : starEach [e] X.env = [(false, eval e X.env)] := by rfl) :
    PI X (.Tuple elts kk tpos) (.Call (.Name "enumerate" p) [e] [] pos) (iEnumT X.K ta) := by
  refine ⟨fun pins s σ H R I h => ?_⟩
  refine Call_ (ld_blt I hg hm boot_enumerate (PyProof.Rows.callWith_type1 (thn (ha.run pos pins s σ H _ I h) fun us s1 ⟨vs, H1, I1, r1, q1⟩ => ?_) hs rfl))
  obtain ⟨a, xs, ex, hq, q⟩ := q1
  subst ex
  cases r1 with
  | cons r rr =>
    cases rr
    cases r
    obtain ⟨its, rv, p', hz⟩ := I1.tuple hq
    refine call_enumerate_tuple (show s1.heap.IsTuple a its.toArray from p') fun h' he hit hsz hk => wpAny_pyIter_enum he ?_
    have I2 : Inv X pins σ H1 { s1 with heap := h' } := I1.kept (t' := s1.toks) hk
    refine ⟨s1.heap.objs.size + 1, [s1.heap.objs.size + 1, s1.heap.objs.size], _, _, H1, rfl, I2, turn_enumT a (s1.heap.objs.size + 1) s1.heap.objs.size, ⟨⟨.none, he⟩, hit, Nat.succ_ne_self _⟩, fun b hb => ?_, q⟩
    have e' : b = s1.heap.objs.size + 1 ∨ b = s1.heap.objs.size := by simpa using hb
    have hle : s1.heap.objs.size ≤ b := by
      rcases e' with z | z
      · rw [z]; exact Nat.le_add_right _ _
      · rw [z]; exact Nat.le_refl _
    exact I1.fpOk hle (I1.hok.fresh hle)
/-! ### not in range(..) -/
theorem op_notin_rng {X : Cx} : OpR X (compareOp .NotIn) (fun x y H Q => ∃ i a lo hi, x = V.int i ∧ y = V.ref a ∧ H a = some (.rng lo hi) ∧ Q (.bl (!decide (lo ≤ i ∧ i < hi))) H) := by
  intro pins s σ H x y v u Q I rx ry h
  obtain ⟨i, a, lo, hi, rfl, rfl, ha, q⟩ := h
  obtain ⟨k, rfl⟩ := rx
  obtain rfl : u = Value.ref a := ry
  obtain ⟨t1, t2, t3, ho⟩ := I.hok a _ ha
  refine SeqRoads2.notIn_meets (T := "range") ⟨_, ho, rfl⟩ F.slot_range_contains F.entry_range_contains (F.args_range_contains_2 _ _) (q_contains a lo hi i t1 t2 t3 k) ⟨ho, _, rfl, ⟨.bl _, H, I, rfl, ?_⟩⟩
  rw [place1]
  exact q
/-! ### xs.count(x), x data -/
def rCntD (K : PySem.W.Frag) : V → List V → Hp → VK → Prop := fun x xs H Q => ∃ (y : V) (d : PD) (ds : List PD), xs = [y] ∧ Dp K H x (.list ds) ∧ Dp K H y d ∧ PyData.plainAll ds = true ∧ d.plain = true ∧ d.depth ≤ 60 ∧ Q (.int (ds.countP fun z => PyData.eqv z d : Nat)) H
theorem mt_lcountD {X : Cx} (hu : X.A.units + 64 < cLine) : MtR X "list.count" (rCntD X.K) := by
  intro pins s σ H x xs v us Q I rx rxs h
  obtain ⟨y, d, ds, rfl, hl, hy, h1, h2, h3, q⟩ := h
  obtain ⟨u, rfl, ru⟩ := rxs.one
  obtain ⟨bs, r1⟩ := Dp.reads I d y u hy ru
  cases hl with
  | lst hs ha =>
    cases rx
    obtain ⟨its, rv, pl, hz⟩ := I.list hs
    obtain ⟨as, r2⟩ := Dp.readsAll I ds _ its ha rv
    refine SeqAt.count_list_data pl.isList (by simpa using r2) r1 h1 h2 ?_ ⟨.int _, H, I.tok _, ⟨s.toks, rfl⟩, q⟩
    have := Nat.min_le_right (PyData.depthAll ds) d.depth
    omega
end Lc

namespace Lc
open PySem PySem.Spec PyProof.Rows L2 RZ
section
variable {K : PySem.W.Frag} {G H G2 H2 : Hp} {ρ : List Sl} {M : Mt} {d : PD} {ds es : List PD} {ta tb tc : TE} {tA : TA}
theorem enD_get {i : Nat} {d : PD} (hd : (enD ds)[i]? = some d) : ∃ d', ds[i]? = some d' ∧ d = .tuple [.int (i : Nat), d'] := by
  unfold enD at hd
  rw [List.getElem?_mapIdx] at hd
  cases z : ds[i]? with
  | none => rw [z] at hd; cases hd
  | some w => rw [z] at hd; exact ⟨w, rfl, (Option.some.inj hd).symm⟩
theorem enD_len : (enD ds).length = ds.length := by simp [enD]
theorem ei_enumT (h : EvA K tA ρ M [.tuple ds]) : EvI K (iEnumT K tA) ρ M (enD ds) := fun σ G H n R q => h σ G H n _ fun vs G2 H2 s hv => by
  cases hv with
  | cons a b =>
    cases b
    obtain ⟨aa, xs, rfl, h1, h2⟩ := a.tup_inv
    refine ⟨aa, xs, rfl, same_t s.gh h1, q _ G2 H2 s ⟨fun i G3 H3 e1 e2 hi => ?_, fun G3 H3 e1 e2 => ?_, fun i G3 H3 x H4 d e1 e2 hd hy => ?_⟩⟩
    · rw [enD_len] at hi
      exact ⟨xs, xs[i]'(by rw [h2.len]; exact hi), same_t (e1.trans e2) h1, by simp [h2.len, hi]⟩
    · exact ⟨xs, same_t (e1.trans e2) h1, by rw [enD_len]; exact Nat.le_of_eq h2.len⟩
    · obtain ⟨T, y, rfl, nT, rfl, hx⟩ := hy
      have e3 := hx xs (same_t (e1.trans e2) h1)
      obtain ⟨d', hd', rfl⟩ := enD_get hd
      obtain ⟨v, h3, h4⟩ := h2.get hd'
      rw [e3] at h3
      cases h3
      exact pair_stp e2 nT (.int _) (Dq.same e1 _ _ h4)
theorem rv_repT {k : Int} (hne : ds ≠ []) (h1 : 1 ≤ k) (h2 : k ≤ 1000) (hl : ds.length ≤ 1000) : RvD K (rRepT1 K) (.tuple ds) (.int k) (.tuple (List.replicate k.toNat ds).flatten) := fun G H x y e hx hy Q q => by
  obtain ⟨a, xs, rfl, h3, h4⟩ := hx.tup_inv
  rw [hy.int_inv]
  have hr := h4.rep k.toNat
  refine ⟨a, k, xs, rfl, rfl, same_t e h3, fun z => hne ?_, h1, h2, by rw [h4.len]; exact hl, fun z => ?_, fun _ p hp => q _ _ _ (Stp.new e hp) (.tup (.inl (.inl upd_same)) (DqA.same (same_new (none_of_same e hp)) _ _ hr))⟩
  · have := h4.len
    rw [z] at this
    exact List.eq_nil_of_length_eq_zero this.symm
  · subst z
    have e2 : (List.replicate (1 : Int).toNat ds).flatten = ds := by simp
    exact q _ _ _ (Stp.refl e) (by rw [e2]; exact .tup h3 h4)
theorem et_notin {i lo hi : Int} (ha : EvD K ta ρ M (.int i)) (hb : EvD K tb ρ M (.int lo)) (hc : EvD K tc ρ M (.int hi)) :
    EvT K (tTest (tOp (fun x y H Q => ∃ i a lo hi, x = V.int i ∧ y = V.ref a ∧ H a = some (.rng lo hi) ∧ Q (.bl (!decide (lo ≤ i ∧ i < hi))) H) ta (tCB (fun vs H Q => ∃ i j, vs = [V.int i, V.int j] ∧ ∀ p, H p = none → Q (.ref p) (upd H p (.rng i j))) (tCons tb (tCons tc tNil))))) ρ M (!decide (lo ≤ i ∧ i < hi)) := fun σ G H n Q q =>
  ha σ G H n _ fun x G1 H1 s1 h1 => hb σ G1 H1 (n.stp s1) _ fun y G2 H2 s2 h2 => hc σ G2 H2 (n.stp (s1.trans s2)) _ fun z G3 H3 s3 h3 => by
    rw [h1.int_inv, h2.int_inv, h3.int_inv]
    exact ⟨lo, hi, rfl, fun p hp => ⟨i, p, lo, hi, rfl, rfl, upd_same, _, rfl, q _ _ (((s1.trans s2).trans s3).trans (Stp.newM s3.gh hp))⟩⟩
/-- xs.count(x) -/
theorem ev_count {to : TE} (o1 : Dpo (.list ds)) (o2 : Dpo d) (ho : EvD K to ρ M (.list ds)) (ha : EvD K ta ρ M d) (h1 : PyData.plainAll ds = true) (h2 : d.plain = true) (h3 : d.depth ≤ 60) : EvD K (tBM K "list" (rCntD K) to (tCons ta tNil)) ρ M (.int (ds.countP fun z => PyData.eqv z d : Nat)) := fun σ G H n Q q =>
  ho σ G H n _ fun x G1 H1 s1 q1 => by
    obtain ⟨a, xs, rfl, h4, h5⟩ := q1.list_inv
    exact ⟨.inl ⟨rfl, _, .inl (.inl (s1.gh _ _ h4))⟩, ha σ G1 H1 (n.stp s1) _ fun y G2 H2 s2 q2 => ⟨y, d, ds, rfl, o1 _ _ _ (Dq.same (s2.g.trans s2.gh) _ _ q1), o2 _ _ _ (Dq.same s2.gh _ _ q2), h1, h2, h3, q _ _ _ (s1.trans s2) (.int _)⟩⟩
end
/-! ### sorted(xs), xs data of one shape -/
def rSrt (K : PySem.W.Frag) : List V → Hp → VK → Prop := fun vs H Q => ∃ (β : Type) (enc : β → PD) (a : Addr) (xs : List V) (bs : List β) (F : V → β → Prop), vs = [.ref a] ∧ H a = some (.lst xs) ∧ Paired F xs bs ∧ (∀ x b, F x b → Dp K H x (enc b)) ∧ PySem.W.AllAlike (bs.map enc) ∧ PySem.W.Sortable (bs.map enc) ∧ (∀ b ∈ bs, (enc b).depth ≤ 50) ∧
  ∀ (ys : List V) (p : Addr), Paired F ys (bs.mergeSort (PySem.W.dataLe false enc)) → H p = none → Q (.ref p) (upd H p (.lst ys))
theorem each_of {β : Type} {F : V → β → Prop} : ∀ {xs : List V} {us : List Value} {bs : List β}, Vals xs us → Paired F xs bs → PySem.W.EachIs (fun u b => ∃ x, RelV x u ∧ F x b) us bs
  | _, _, _, .nil, .nil => .nil
  | _, _, _, .cons r t, .cons f g => .cons ⟨_, r, f⟩ (each_of t g)
theorem each_back {β : Type} {F : V → β → Prop} : ∀ {us : List Value} {bs : List β}, PySem.W.EachIs (fun u b => ∃ x, RelV x u ∧ F x b) us bs → ∃ xs, Vals xs us ∧ Paired F xs bs
  | _, _, .nil => ⟨[], .nil, .nil⟩
  | _, _, .cons ⟨x, r, f⟩ t => by
    obtain ⟨xs, h1, h2⟩ := each_back t
    exact ⟨x :: xs, .cons r h1, .cons f h2⟩
theorem cr_sortedLc {X : Cx} (hu : X.A.units + 64 < cLine) : CallR X (.builtin "sorted") (rSrt X.K) := by
  intro pins s σ H vs us Q I r h
  obtain ⟨β, enc, a, xs, bs, F, rfl, hs, hF, hD, h1, h2, h3, q⟩ := h
  obtain ⟨its, rv, hl, hz⟩ := I.list (show SqL X.K H a xs from .inl (.inl hs))
  obtain ⟨u, rfl, ru⟩ := vals1 r
  obtain rfl : u = Value.ref a := ru
  have hbl : bs.length = xs.length := (Paired.length hF).symm
  have e1 := each_of rv hF
  refine PySem.W.sorted_data (R := fun u b => ∃ x, RelV x u ∧ F x b) hl.isList e1 (e1.mono fun u b ⟨x, r, f⟩ => Dp.reads I (enc b) x u (hD x b f) r) h1 h2 (by rw [hbl]; exact hz) (fun b hb => by have := h3 b hb; omega) fun out hlen hout => ?_
  obtain ⟨ys, hv, hp⟩ := each_back hout
  obtain ⟨e, he⟩ := sortedAll_at s.heap its out.toArray
  have hd : s.heap.objs.size ≤ s.heap.objs.size + 1 := Nat.le_succ _
  refine ⟨.ref (s.heap.objs.size + 1), upd H (s.heap.objs.size + 1) (.lst ys), I.laid (t' := s.toks) (fun b o q => sortedAll_old q) hd ⟨?_, out, e, hv, he⟩, rfl, q ys _ hp (I.hok.fresh hd)⟩
  rw [hv.length, hlen, hbl]
  exact hz
section
variable {K : PySem.W.Frag} {G H : Hp} {ds : List PD}
theorem dqA_paired {β : Type} {enc : β → PD} : ∀ {bs : List β} {xs : List V}, DqA K G xs (bs.map enc) → Paired (fun x b => Dq K G x (enc b)) xs bs
  | [], _, .nil => .nil
  | b :: bs, _, .cons h1 h2 => .cons h1 (dqA_paired h2)
theorem paired_dqA {β : Type} {enc : β → PD} : ∀ {bs : List β} {xs : List V}, Paired (fun x b => Dq K G x (enc b)) xs bs → DqA K G xs (bs.map enc)
  | [], _, .nil => .nil
  | b :: bs, _, .cons h1 h2 => .cons h1 (paired_dqA h2)
theorem rc_sorted {β : Type} {enc : β → PD} {bs : List β} (o : ∀ b, Dpo (enc b)) (h1 : PySem.W.AllAlike (bs.map enc)) (h2 : PySem.W.Sortable (bs.map enc)) (h3 : ∀ b ∈ bs, (enc b).depth ≤ 50) : RcL K (rSrt K) [.list (bs.map enc)] ((bs.mergeSort (PySem.W.dataLe false enc)).map enc) := fun G H vs e hv Q q => by
  cases hv with
  | cons a b =>
    cases b
    obtain ⟨aa, xs, rfl, h4, h5⟩ := a.list_inv
    exact ⟨β, enc, aa, xs, bs, fun x b => Dq K G x (enc b), rfl, e _ _ h4, dqA_paired h5, fun x b hx => o b _ _ _ (Dq.same e _ _ hx), h1, h2, h3, fun ys p hp hn => q p ys _ _ (Stp.newM e hn) hn (none_of_same e hn) upd_same (paired_dqA hp)⟩
end
end Lc

/-! More words of the data layer. -/
namespace Lc
open PySem PySem.Spec PyProof.Rows L2 RZ
section
variable {K : PySem.W.Frag} {G H G2 H2 : Hp} {ρ : List Sl} {M : Mt} {d : PD} {ds es : List PD} {ta tb tc te : TE} {tA : TA} {tt : TT} {g : TG} {wi : TI} {vs : List Nat}
theorem map_getA {α : Type} {f : α → PD} {l : List α} {i : Nat} {d : PD} (h : (l.map f)[i]? = some d) : ∃ a, l[i]? = some a ∧ d = f a := by
  rw [List.getElem?_map] at h
  cases q : l[i]? with
  | none => rw [q] at h; cases h
  | some z => rw [q] at h; exact ⟨z, rfl, (Option.some.inj h).symm⟩
theorem el_mapA {α : Type} (l : List α) (enc f : α → PD) (hw : EvI K wi ρ M (l.map enc)) (hlen : l.length ≤ 10000000)
    (hs : ∀ (i : Nat) (a : α), l[i]? = some a → ∃ is ρ1, (∀ j ∈ is, j ∈ vs) ∧ Tg K g is (enc a) (wipeR ρ vs) ρ1 ∧ EvD K te ρ1 M (f a)) :
    EvL K (tLc wi g tYes te vs) ρ M (l.map f) := by
  have h := el_lc (K := K) (g := g) (tt := tYes) (te := te) (vs := vs) (fun i => (l.take i).map f) hw (by rw [List.length_map]; exact hlen) rfl fun i d hd => by
    obtain ⟨a, ha, rfl⟩ := map_getA hd
    obtain ⟨is, ρ1, h1, h2, h3⟩ := hs i a ha
    refine ⟨is, ρ1, h1, h2, true, et_yes, fun _ => ⟨f a, h3, ?_⟩, fun q => by cases q⟩
    show (l.take (i + 1)).map f = (l.take i).map f ++ [f a]
    rw [List.take_add_one, List.map_append, ha]
    rfl
  have e : (l.take (l.map enc).length).map f = l.map f := by rw [List.length_map, List.take_length]
  exact h.is e
theorem el_filtA {α : Type} (l : List α) (enc f : α → PD) (c : α → Bool) (hw : EvI K wi ρ M (l.map enc)) (hlen : l.length ≤ 10000000)
    (hs : ∀ (i : Nat) (a : α), l[i]? = some a → ∃ is ρ1, (∀ j ∈ is, j ∈ vs) ∧ Tg K g is (enc a) (wipeR ρ vs) ρ1 ∧ EvT K tt ρ1 M (c a) ∧ (c a = true → EvD K te ρ1 M (f a))) :
    EvL K (tLc wi g tt te vs) ρ M ((l.filter c).map f) := by
  have h := el_lc (K := K) (g := g) (tt := tt) (te := te) (vs := vs) (fun i => ((l.take i).filter c).map f) hw (by rw [List.length_map]; exact hlen) rfl fun i d hd => by
    obtain ⟨a, ha, rfl⟩ := map_getA hd
    obtain ⟨is, ρ1, h1, h2, h3, h4⟩ := hs i a ha
    have e1 : l.take (i + 1) = l.take i ++ [a] := by
      rw [List.take_add_one, ha]
      rfl
    refine ⟨is, ρ1, h1, h2, c a, h3, fun z => ⟨f a, h4 z, ?_⟩, fun z => ?_⟩
    · show ((l.take (i + 1)).filter c).map f = ((l.take i).filter c).map f ++ [f a]
      rw [e1, List.filter_append, List.map_append, List.filter_cons_of_pos z]
      rfl
    · show ((l.take (i + 1)).filter c).map f = ((l.take i).filter c).map f
      rw [e1, List.filter_append, List.filter_cons_of_neg (by rw [z]; decide), List.filter_nil, List.append_nil]
  have e : ((l.take (l.map enc).length).filter c).map f = (l.filter c).map f := by rw [List.length_map, List.take_length]
  exact h.is e
theorem cut_take (ds : List PD) (k : Nat) : cutD ds none (some (k : Int)) = ds.take k := by
  unfold cutD
  rw [HT.sIx_none, HT.sIx_nat, List.drop_zero, Nat.sub_zero]
  by_cases h : k ≤ ds.length
  · rw [Nat.min_eq_left h]
  · rw [Nat.min_eq_right (by omega), List.take_length, List.take_of_length_le (by omega)]
theorem cut_drop (ds : List PD) (k : Nat) : cutD ds (some (k : Int)) none = ds.drop k := by
  unfold cutD
  rw [HT.sIx_none, HT.sIx_nat]
  by_cases h : k ≤ ds.length
  · rw [Nat.min_eq_left h, List.take_of_length_le (by simp)]
  · rw [Nat.min_eq_right (by omega), List.drop_length, List.drop_of_length_le (by omega), List.take_nil]
theorem ev_takeT {k : Nat} (h : EvD K te ρ M (.tuple ds)) (hh : EvD K tb ρ M (.int (k : Nat))) : EvD K (tSl (rSlA K) te tNoPart (tPart tb)) ρ M (.tuple (ds.take k)) := (ev_slT h eo_none (eo_some hh)).is (by rw [cut_take])
theorem ev_dropT {k : Nat} (h : EvD K te ρ M (.tuple ds)) (hh : EvD K tb ρ M (.int (k : Nat))) : EvD K (tSl (rSlA K) te (tPart tb) tNoPart) ρ M (.tuple (ds.drop k)) := (ev_slT h (eo_some hh) eo_none).is (by rw [cut_drop])
theorem ev_dropL {k : Nat} (h : EvD K te ρ M (.list ds)) (hh : EvD K tb ρ M (.int (k : Nat))) : EvL K (tSl (rSlL K) te (tPart tb) tNoPart) ρ M (ds.drop k) := (ev_slL h (eo_some hh) eo_none).is (by rw [cut_drop])
theorem ev_takeL {k : Nat} (h : EvD K te ρ M (.list ds)) (hh : EvD K tb ρ M (.int (k : Nat))) : EvL K (tSl (rSlL K) te tNoPart (tPart tb)) ρ M (ds.take k) := (ev_slL h eo_none (eo_some hh)).is (by rw [cut_take])
/-- the parts ahead of a place and behind it -/
def cutAt {α : Type} (k : Nat) (l : List α) : List α := l.take k ++ l.drop (k + 1)
theorem map_cutAt {α β : Type} (f : α → β) (k : Nat) (l : List α) : (cutAt k l).map f = cutAt k (l.map f) := by
  unfold cutAt
  rw [List.map_append, List.map_take, List.map_drop]
theorem cutAt_len {α : Type} (k : Nat) (l : List α) (h : k < l.length) : (cutAt k l).length + 1 = l.length := by
  unfold cutAt
  rw [List.length_append, List.length_take, List.length_drop]
  omega
theorem mem_cutAt {α : Type} {k : Nat} {l : List α} {x : α} (h : x ∈ cutAt k l) : x ∈ l := by
  unfold cutAt at h
  rcases List.mem_append.mp h with h | h
  · exact List.mem_of_mem_take h
  · exact List.mem_of_mem_drop h
/-- t[:k] + t[k + 1:] -/
theorem ev_cutAt {k : Nat} (h : EvD K te ρ M (.tuple ds)) (hb : EvD K tb ρ M (.int (k : Nat))) (hc : EvD K tc ρ M (.int (((k + 1 : Nat)) : Int))) (hl : ds.length ≤ 1000) :
    EvD K (tOp (rCatA K) (tSl (rSlA K) te tNoPart (tPart tb)) (tSl (rSlA K) te (tPart tc) tNoPart)) ρ M (.tuple (cutAt k ds)) :=
  ev_op (ev_takeT h hb) (ev_dropT h hc) (rv_catT (by rw [List.length_take, List.length_drop]; omega))
theorem pt_get {p : List Int} {i : Nat} {x : Int} (h : p[i]? = some x) : (p.map PyData.int)[i]? = some (.int x) := by rw [List.getElem?_map, h]; rfl
theorem at_nat {ds : List PD} {k : Nat} {d : PD} (h : ds[k]? = some d) : atI ds ((k : Nat) : Int) = some d := atI_nat h
theorem rv_ixTn {k : Nat} (h : ds[k]? = some d) : RvD K (rIxT K) (.tuple ds) (.int (k : Nat)) d := rv_ixT (atI_nat h)
theorem rv_ixLn {k : Nat} (h : ds[k]? = some d) : RvD K (rIxL K) (.list ds) (.int (k : Nat)) d := rv_ixL (atI_nat h)
end
end Lc

/-! The rules with the written part named. -/
namespace Lc
open PySem PySem.Spec PyProof.Rows L2 RZ
section
variable {X : Cx} {K : PySem.W.Frag}
theorem sl_tupK (hK : X.K = K) : SlR X (rSlA K) := hK ▸ sl_tupA
theorem sl_listK (hK : X.K = K) : SlR X (rSlL K) := hK ▸ sl_list
theorem ix_tupK (hK : X.K = K) : IxR X (rIxT K) := hK ▸ ix_tup
theorem ix_listK (hK : X.K = K) : IxR X (rIxL K) := hK ▸ ix_list
theorem op_catK (hK : X.K = K) : OpR X (binaryOp .Add) (rCatA K) := hK ▸ op_catA
theorem op_repK (hK : X.K = K) : OpR X (binaryOp .Mult) (rRepT1 K) := hK ▸ op_repT1
theorem op_eqK (hK : X.K = K) (hu : X.A.units + 64 < cLine) : OpR X (compareOp .Eq) (rEqD K) := hK ▸ op_eqD hu
theorem op_neK (hK : X.K = K) (hu : X.A.units + 64 < cLine) : OpR X (compareOp .NotEq) (rNeD K) := hK ▸ op_neD hu
theorem lenK (hK : X.K = K) : CallR X (.builtin "len") (rLenQ K) := hK ▸ call_len_seq
theorem isiK (hK : X.K = K) : CallR X (.builtin "isinstance") (rIsi K) := hK ▸ call_isi
theorem allK (hK : X.K = K) (hc : X.calm = true) : CallR X (.builtin "all") (rAll K) := hK ▸ cr_all hc
theorem anyK (hK : X.K = K) (hc : X.calm = true) : CallR X (.builtin "any") (rAny K) := hK ▸ cr_any hc
theorem sumK (hK : X.K = K) (hc : X.calm = true) : CallR X (.builtin "sum") (rSum K) := hK ▸ cr_sum hc
theorem minK (hK : X.K = K) (hc : X.calm = true) : CallR X (.builtin "min") (rMin K) := hK ▸ cr_min hc
theorem sortK (hK : X.K = K) (hu : X.A.units + 64 < cLine) : CallR X (.builtin "sorted") (rSrt K) := hK ▸ cr_sortedLc hu
abbrev rTupQ (K : PySem.W.Frag) : List V → Hp → VK → Prop := fun xs H Q => ∃ p ys, xs = [.ref p] ∧ ((SqL K H p ys ∧ ∀ l, H l = none → Q (.ref l) (upd H l (.tup ys))) ∨ (SqT K H p ys ∧ Q (.ref p) H))
abbrev rLstQ (K : PySem.W.Frag) : List V → Hp → VK → Prop := fun xs H Q => ∃ p ys, xs = [.ref p] ∧ (SqL K H p ys ∨ SqT K H p ys) ∧ ∀ l, H l = none → Q (.ref l) (upd H l (.lst ys))
theorem tupK (hK : X.K = K) : CallR X (.type "tuple") (rTupQ K) := hK ▸ call_tuple_of
theorem lstK (hK : X.K = K) : CallR X (.type "list") (rLstQ K) := hK ▸ call_list_of
theorem cntK (hK : X.K = K) (hu : X.A.units + 64 < cLine) : MtR X "list.count" (rCntD K) := hK ▸ mt_lcountD hu
theorem pi_listK {tg l : Expr} {tl : TE} (hK : X.K = K) (hl : PE X l tl) : PI X tg l (iList K tl) := hK ▸ pi_list hl
theorem pi_tupK {tg l : Expr} {tl : TE} (hK : X.K = K) (hl : PE X l tl) : PI X tg l (iTup K tl) := hK ▸ pi_tup hl
theorem pi_zipK {e e2 : Expr} {ta : TA} {p pos tpos : Pos} {elts : List Expr} {kk : Nat} (hK : X.K = K) (hg : Gl X "zip") (hm : X.mg "zip" = none) (ha : PA X [e, e2] ta)
    (hs : starEach [e, e2] X.env = (false, eval e X.env) :: starEach [e2] X.env := by rfl) (hpl : (backTo pos (starEach [e2] X.env)).any (·.1) = false := by rfl) :
    PI X (.Tuple elts kk tpos) (.Call (.Name "zip" p) [e, e2] [] pos) (iZipA K ta) := hK ▸ pi_zipA hg hm ha hs hpl
theorem pi_enumK {e : Expr} {ta : TA} {p pos tpos : Pos} {elts : List Expr} {kk : Nat} (hK : X.K = K) (hg : Gl X "enumerate") (hm : X.mg "enumerate" = none) (ha : PA X [e] ta) (hs : starEach [e] X.env = [(false, eval e X.env)] := by rfl) :
    PI X (.Tuple elts kk tpos) (.Call (.Name "enumerate" p) [e] [] pos) (iEnum K ta) := hK ▸ pi_enum hg hm ha hs
theorem pi_enumTK {e : Expr} {ta : TA} {p pos tpos : Pos} {elts : List Expr} {kk : Nat} (hK : X.K = K) (hg : Gl X "enumerate") (hm : X.mg "enumerate" = none) (ha : PA X [e] ta) (hs : starEach [e] X.env = [(false, eval e X.env)] := by rfl) :
    PI X (.Tuple elts kk tpos) (.Call (.Name "enumerate" p) [e] [] pos) (iEnumT K ta) := hK ▸ pi_enumT hg hm ha hs
theorem pg_tupK {es : List Expr} {k : Nat} {t : TGs} {n : Nat} {pos : Pos} (hK : X.K = K) (hc : X.calm = true) (h : PGs X es t)
    (hn : (assignEach es X.env).length = n := by rfl) (hst : (assignEach es X.env).findIdx? (·.1) = none := by rfl) : PG X (.Tuple es k pos) (gTup K n t) := hK ▸ pg_tup hc h hn hst
theorem pe_bmK {o e : Expr} {es : List Expr} {to : TE} {t : TA} {name : Str} {apos cpos : Pos} {T id : String} {r : V → List V → Hp → VK → Prop} (hK : X.K = K) (pa : PlainAttrs T) (slot : Slot T name id) (hty : typeOf (.builtin id) = pure (.type "method_descriptor")) (hm : MtR X id r) (ho : PE X o to) (ha : PA X (e :: es) t)
    (hbase : attributeBase o name X.env (eval o X.env) = eval o X.env := by rfl)
    (hfew : ((backTo cpos (starEach (e :: es) X.env)).all (fun x => !x.1) && (backToKw cpos (keywordEach [] X.env)).all (fun x => x.1.isSome)
      && decide ((e :: es).length + ([] : List Keyword).length + (if ([] : List Keyword).isEmpty then 0 else 1) < 30)) = true := by rfl)
    (hline : (apos.endLine == cpos.line) = true := by rfl) (hs : starEach (e :: es) X.env = (false, eval e X.env) :: starEach es X.env := by rfl) (hplain : (backTo cpos (starEach es X.env)).any (·.1) = false := by rfl) :
    PE X (.Call (.Attribute o name apos) (e :: es) [] cpos) (tBM K T r to t) := hK ▸ pe_bm pa slot hty hm ho ha hbase hfew hline hs hplain
end
end Lc

/-! Lists of lists that change: comprehensions that make them, reading, storing. -/
namespace Lc
open PySem PySem.Spec PyProof.Rows L2 RZ
section
variable {K : PySem.W.Frag} {B : Bs} {G H G2 H2 : Hp} {ρ ρ' ρ1 : List Sl} {M : Mt} {σ : L2.St} {P : L2.St → Hp → Prop} {D : Ends} {R : PD → Prop}
variable {ta tb te tc to ti tj : TE} {tt : TT} {t u : TS} {d d1 d2 : PD} {ds es : List PD} {g : TG} {wi : TI} {vs : List Nat}
/-- reading a list that may change, by its address -/
theorem ev_ixA {p : Addr} {k : Int} (ho : EvD K to ρ M (adr p)) (hm : (p, ds) ∈ M) (hk : EvD K ti ρ M (.int k)) (h : atI ds k = some d) : EvD K (tOp (rIxL K) to ti) ρ M d := fun σ G H n Q q =>
  ho σ G H n _ fun x G1 H1 s1 h1 => hk σ G1 H1 (n.stp s1) _ fun y G2 H2 s2 hy => by
    have n2 := n.stp (s1.trans s2)
    obtain ⟨hg, vs, hp, hd⟩ := n2.mm (p, ds) hm
    obtain ⟨v, h3, h4⟩ := atI_map hd h
    rw [hy.int_inv]
    exact ⟨p, vs, k, v, h1.adr_inv, rfl, .inl (.inl hp), h3, q _ _ _ (s1.trans s2) h4⟩
/-- storing into it -/
theorem st_setA {p : Addr} {k : Int} {j : Nat} (h : EvD K te ρ ((p, ds) :: M) d) (ho : EvD K to ρ ((p, ds) :: M) (adr p)) (hk : EvD K ti ρ ((p, ds) :: M) (.int k)) (hj : ixN ds.length k = some j) (q : Nx K B D.nx ρ ((p, ds.set j d) :: M)) :
    Nx K B (tAsg te (gSub to ti rSetL) D) ρ ((p, ds) :: M) := fun σ G H a =>
  h σ G H a.now _ fun v G1 H1 s1 h1 => ho σ G1 H1 (a.now.stp s1) _ fun x G2 H2 s2 h2 => hk σ G2 H2 (a.now.stp (s1.trans s2)) _ fun y G3 H3 s3 h3 => by
    have a3 := a.stp ((s1.trans s2).trans s3)
    obtain ⟨hg, vs, hp, hd⟩ := a3.now.mm (p, ds) List.mem_cons_self
    exact ⟨p, vs, k, j, h2.adr_inv, h3.int_inv, hp, by rw [hd.len]; exact hj, q σ G3 _ (a3.mut (hd.set j (Dq.same (s2.g.trans s3.g) _ _ h1)))⟩
/-- an element with a new list of its own -/
def EvM (K : PySem.W.Frag) (te : TE) (ρ : List Sl) (M : Mt) (E : Addr → PD) (c : List PD) : Prop :=
  ∀ σ G H, Now K ρ M σ G H → ∀ Q : VK, (∀ p v vs G2 H2, Stp G H G2 H2 → H p = none → G2 p = none → H2 p = some (.lst vs) → DqA K G2 vs c → Dq K G2 v (E p) → Q v H2) → te σ H Q
theorem EvL.toM (h : EvL K te ρ M ds) : EvM K te ρ M adr ds := fun σ G H n Q q => h σ G H n Q fun p vs G2 H2 s hp hg h2 hd => q p _ vs G2 H2 s hp hg h2 hd (.adr p)
/-- (a, a new list) -/
theorem em_tup (ha : EvD K ta ρ M d) (hb : EvL K tb ρ M ds) : EvM K (tTup (tCons ta (tCons tb tNil))) ρ M (fun p => .tuple [d, adr p]) ds := fun σ G H n Q q =>
  ha σ G H n _ fun x G1 H1 s1 h1 => hb σ G1 H1 (n.stp s1) _ fun p vs G2 H2 s2 hp hg h2 hd => ⟨sqT_len_ok (by simp), fun t ht => by
    have s3 := Stp.new (o := .tup [x, .ref p]) s2.gh ht
    have hpt : p ≠ t := ne_of_none h2 ht
    exact q p _ vs _ _ ((s1.trans s2).trans s3) (none_of_same s1.h hp) (by rw [upd_ne hpt]; exact hg) (by rw [upd_ne hpt]; exact h2) (DqA.same s3.g _ _ hd)
      (.tup (.inl (.inl upd_same)) (.cons (Dq.same (s2.g.trans s3.g) _ _ h1) (.cons (.adr p) .nil)))⟩
/-- what stands behind such a comprehension -/
structure Frs (K : PySem.W.Frag) (G H G2 H2 : Hp) (D : Addr) (ps : List Addr) (E : Nat → Addr → PD) (c : Nat → List PD) : Prop where
  st : Stp G H G2 H2
  nd : (D :: ps).Nodup
  new : ∀ p ∈ D :: ps, H p = none ∧ G2 p = none
  dl : ∃ vs, H2 D = some (.lst vs) ∧ DqA K G2 vs (ps.mapIdx E)
  pl : ∀ i p, ps[i]? = some p → ∃ vs, H2 p = some (.lst vs) ∧ DqA K G2 vs (c i)
theorem lc_fresh {items : List PD} (E : Nat → Addr → PD) (c : Nat → List PD) (hw : EvI K wi ρ M items) (hlen : items.length ≤ 10000000)
    (hs : ∀ (i : Nat) (d : PD), items[i]? = some d → ∃ is ρ1, (∀ j ∈ is, j ∈ vs) ∧ Tg K g is d (wipeR ρ vs) ρ1 ∧ EvM K te ρ1 M (E i) (c i)) :
    ∀ σ G H, Now K ρ M σ G H → ∀ Q : VK, (∀ D ps G2 H2, ps.length = items.length → Frs K G H G2 H2 D ps E c → Q (.ref D) H2) → tLc wi g tYes te vs σ H Q := fun σ G H n Q q => hw σ G H n _ fun J G2 H2 st w => fun D hD => by
  refine ⟨fun i m H' => m = items.length - i ∧ i ≤ items.length ∧ ∃ G' ps, ps.length = i ∧ Frs K G2 H2 G' H' D ps E c, ⟨items.length, by simp, Nat.zero_le _, G2, [], rfl, Stp.newM st.gh hD, by simp, fun p hp => ?_, ⟨[], upd_same, .nil⟩, fun i p h => by simp at h⟩, ?_⟩
  · have e : p = D := by simpa using hp
    subst e
    exact ⟨hD, none_of_same st.gh hD⟩
  rintro i m H' ⟨rfl, hi, G', ps, hpl, F⟩
  by_cases hlt : i < items.length
  · refine .inr ⟨w.go i G' H' F.st.g F.st.gh hlt, fun H'' => i + 1 ≤ items.length ∧ ∃ G' ps, ps.length = i + 1 ∧ Frs K G2 H2 G' H'' D ps E c, fun H'' h'' => ⟨items.length - (i + 1), by omega, rfl, h''⟩, fun x H4 hy => ?_⟩
    obtain ⟨d, hdd⟩ : ∃ d, items[i]? = some d := ⟨items[i], by simp [hlt]⟩
    obtain ⟨G5, s5, d5⟩ := w.yld i G' H' x H4 d F.st.g F.st.gh hdd hy
    obtain ⟨is, ρ1, hv, tg, hev⟩ := hs i d hdd
    have n5 := n.stp ((st.trans F.st).trans s5)
    refine tg (wipe σ vs) G5 H4 x s5.gh (env_wipe n5.env vs) d5 _ fun σ2 e2 wp => ⟨?_, ?_⟩
    · rw [wp vs hv]
      apply List.ext_getElem?
      intro j
      rw [wipe_get, wipe_get, wipe_length]
      by_cases hj : j ∈ vs ∧ j < σ.length
      · rw [if_pos hj, if_pos hj]
      · rw [if_neg hj, if_neg hj]
    · have n6 : Now K ρ1 M σ2 G5 H4 := ⟨n5.gh, e2, n5.mm⟩
      obtain ⟨ws, hw', hd'⟩ := F.dl
      have hg' := (F.new D List.mem_cons_self).2
      refine et_yes (K := K) (ρ := ρ1) (M := M) σ2 G5 H4 n6 _ fun G6 H6 s6 => ?_
      refine hev σ2 G6 H6 (n6.stp s6) _ fun p y vs' G7 H7 s7 hp hg hl hc he => ?_
      have s5 := s5.trans s6
      have s57 := s5.trans s7
      have hw7 := s57.h _ _ hw'
      have hg7 := s57.own _ _ hw' hg'
      have hDp : D ≠ p := ne_of_none (s5.h _ _ hw') hp
      have hpold : ∀ q ∈ ps, q ≠ p := fun q hq => by
        obtain ⟨j, hj, e⟩ := List.mem_iff_getElem.mp hq
        obtain ⟨vq, hq2, _⟩ := F.pl j q (by rw [← e]; exact List.getElem?_eq_getElem hj)
        exact ne_of_none (s5.h _ _ hq2) hp
      refine ⟨ws, hw7, ?_, hlt, G7, ps ++ [p], by rw [List.length_append, hpl]; rfl, ⟨?_, ?_, ?_, ?_, ?_⟩⟩
      · rw [hd'.len, List.length_mapIdx, hpl]
        exact sz_lt (by omega)
      · have s27 := F.st.trans s57
        refine ⟨s27.g, fun c z qz => ?_, fun c z qz => ?_, s27.own⟩
        · rw [upd_ne (ne_of_none qz hD)]
          exact s27.h c z qz
        · rw [upd_ne (ne_of_none qz hg7)]
          exact s27.gh c z qz
      · have n0 := F.nd
        rw [List.nodup_cons] at n0
        rw [List.nodup_cons]
        refine ⟨fun hm => ?_, ?_⟩
        · rcases List.mem_append.mp hm with hm | hm
          · exact n0.1 hm
          · exact hDp (by simpa using hm)
        · rw [List.nodup_append]
          refine ⟨n0.2, by simp, fun a ha b hb => ?_⟩
          have : b = p := by simpa using hb
          rw [this]
          exact hpold a ha
      · intro q hq
        rcases List.mem_cons.mp hq with e | hq
        · subst e
          exact ⟨hD, hg7⟩
        · rcases List.mem_append.mp hq with hq | hq
          · obtain ⟨h1, h2⟩ := F.new q (List.mem_cons_of_mem _ hq)
            obtain ⟨j, hj, e⟩ := List.mem_iff_getElem.mp hq
            obtain ⟨vq, hq2, _⟩ := F.pl j q (by rw [← e]; exact List.getElem?_eq_getElem hj)
            exact ⟨h1, s57.own _ _ hq2 h2⟩
          · have : q = p := by simpa using hq
            subst this
            exact ⟨none_of_same (F.st.h.trans s5.h) hp, hg⟩
      · refine ⟨ws ++ [y], upd_same, ?_⟩
        rw [List.mapIdx_append, hpl]
        refine (DqA.same s57.g _ _ hd').app ?_
        show DqA K G7 [y] [E (0 + i) p]
        rw [Nat.zero_add]
        exact .cons he .nil
      · intro j q hj
        by_cases hji : j < i
        · rw [List.getElem?_append_left (by omega)] at hj
          obtain ⟨vq, h1, h2⟩ := F.pl j q hj
          have hqD : q ≠ D := fun e => by
            have n0 := F.nd
            rw [List.nodup_cons] at n0
            exact n0.1 (e ▸ List.mem_of_getElem? hj)
          exact ⟨vq, by rw [upd_ne hqD]; exact s57.h _ _ h1, DqA.same s57.g _ _ h2⟩
        · have hj2 : j = i := by
            have := (List.getElem?_eq_some_iff.mp hj).1
            rw [List.length_append, hpl] at this
            simp at this
            omega
          subst hj2
          have : q = p := by
            rw [List.getElem?_append_right (by omega), hpl, Nat.sub_self] at hj
            exact (Option.some.inj hj).symm
          subst this
          exact ⟨vs', by rw [upd_ne hDp.symm]; exact hl, hc⟩
  · have e : i = items.length := by omega
    subst e
    exact .inl ⟨w.stop G' H' F.st.g F.st.gh, q D ps G' H' hpl ⟨st.trans F.st, F.nd, fun p hp => ⟨none_of_same st.h (F.new p hp).1, (F.new p hp).2⟩, F.dl, F.pl⟩⟩
theorem At.frs {D : Addr} {ps : List Addr} {E : Nat → Addr → PD} {c : Nat → List PD} (a : At K B ρ [] σ G H) (F : Frs K G H G2 H2 D ps E c) : At K B ρ ((D, ps.mapIdx E) :: ps.mapIdx fun i p => (p, c i)) σ G2 H2 := by
  have a2 := a.stp F.st
  have hmem : ∀ q ∈ ps.mapIdx fun i p => (p, c i), ∃ i, ps[i]? = some q.1 ∧ q.2 = c i := fun q hq => by
    obtain ⟨i, hi, e⟩ := List.mem_mapIdx.mp hq
    exact ⟨i, by rw [← e]; exact List.getElem?_eq_getElem hi, by rw [← e]⟩
  have hfst : (ps.mapIdx fun i p => (p, c i)).map (·.1) = ps := by
    apply List.ext_getElem?
    intro i
    rw [List.getElem?_map, List.getElem?_mapIdx]
    cases ps[i]? <;> rfl
  refine ⟨a2.st, a2.an, ⟨a2.now.gh, a2.now.env, fun q hq => ?_⟩, fun q hq => ?_, ?_⟩
  · rcases List.mem_cons.mp hq with e | hq
    · subst e
      exact ⟨(F.new D List.mem_cons_self).2, F.dl⟩
    · obtain ⟨i, h1, h2⟩ := hmem q hq
      rw [h2]
      exact ⟨(F.new q.1 (List.mem_cons_of_mem _ (List.mem_of_getElem? h1))).2, F.pl i q.1 h1⟩
  · rcases List.mem_cons.mp hq with e | hq
    · subst e
      exact none_of_same a.st.h (F.new D List.mem_cons_self).1
    · obtain ⟨i, h1, h2⟩ := hmem q hq
      exact none_of_same a.st.h (F.new q.1 (List.mem_cons_of_mem _ (List.mem_of_getElem? h1))).1
  · rw [List.map_cons, hfst]
    exact F.nd
end
end Lc

namespace Lc
open PySem PySem.Spec PyProof.Rows L2 RZ
section
variable {K : PySem.W.Frag} {B : Bs} {G H G2 H2 : Hp} {ρ ρ' ρ1 : List Sl} {M X : Mt} {σ : L2.St} {P : L2.St → Hp → Prop} {D : Ends} {R : PD → Prop}
variable {ta tb te tc to ti tj : TE} {tt : TT} {t u : TS} {d d1 d2 : PD} {ds es : List PD} {g : TG} {wi : TI} {vs : List Nat} {ps : List Addr} {c : Nat → List PD}
/-- the lists at ps, the i-th holds c i -/
def Mrows (ps : List Addr) (c : Nat → List PD) : Mt := ps.mapIdx fun i p => (p, c i)
theorem mrows_fst : (Mrows ps c).map (·.1) = ps := by
  apply List.ext_getElem?
  intro i
  unfold Mrows
  rw [List.getElem?_map, List.getElem?_mapIdx]
  cases ps[i]? <;> rfl
theorem mem_mrows {q : Addr × List PD} (hq : q ∈ Mrows ps c) : ∃ i, ps[i]? = some q.1 ∧ q.2 = c i := by
  obtain ⟨i, hi, e⟩ := List.mem_mapIdx.mp hq
  exact ⟨i, by rw [← e]; exact List.getElem?_eq_getElem hi, by rw [← e]⟩
theorem mrows_mem {i : Nat} {p : Addr} (h : ps[i]? = some p) : (p, c i) ∈ Mrows ps c := by
  obtain ⟨hi, e⟩ := List.getElem?_eq_some_iff.mp h
  exact List.mem_mapIdx.mpr ⟨i, hi, by rw [e]⟩
def setc (c : Nat → List PD) (i j : Nat) (d : PD) : Nat → List PD := fun i' => if i' = i then (c i).set j d else c i'
theorem ixN_nat {n j : Nat} (h : j < n) : ixN n ((j : Nat) : Int) = some j := by
  unfold ixN
  rw [if_pos (by omega), if_pos (by omega)]
  rfl
theorem At.setRow {i : Nat} {p : Addr} {ws : List V} {ds : List PD} (a : At K B ρ (X ++ Mrows ps c) σ G H) (hp : ps[i]? = some p) (hw : DqA K G ws ds) : At K B ρ (X ++ Mrows ps (fun i' => if i' = i then ds else c i')) σ G (upd H p (.lst ws)) := by
  have hm : (p, c i) ∈ X ++ Mrows ps c := List.mem_append_right _ (mrows_mem hp)
  obtain ⟨hg, vs, hl, hd⟩ := a.now.mm _ hm
  have h0 := a.fr _ hm
  have nd := a.nd
  rw [List.map_append, mrows_fst, List.nodup_append] at nd
  obtain ⟨_, nps, nx⟩ := nd
  have gh : Same G (upd H p (.lst ws)) := fun b x q => by
    rw [upd_ne (ne_of_none q hg)]
    exact a.now.gh b x q
  refine ⟨⟨a.st.g, fun b x q => ?_, gh, a.st.own⟩, a.an, ⟨gh, a.now.env, fun q hq => ?_⟩, fun q hq => ?_, ?_⟩
  · rw [upd_ne (ne_of_none q h0)]
    exact a.st.h b x q
  · rcases List.mem_append.mp hq with hq | hq
    · obtain ⟨g1, w1, l1, d1⟩ := a.now.mm q (List.mem_append_left _ hq)
      have hne : q.1 ≠ p := nx q.1 (List.mem_map.mpr ⟨q, hq, rfl⟩) p (List.mem_of_getElem? hp)
      exact ⟨g1, w1, by rw [upd_ne hne]; exact l1, d1⟩
    · obtain ⟨i', h1, h2⟩ := mem_mrows hq
      by_cases e : i' = i
      · subst e
        have e1 : q.1 = p := Option.some.inj (h1.symm.trans hp)
        rw [if_pos rfl] at h2
        rw [h2, e1]
        exact ⟨hg, ws, upd_same, hw⟩
      · rw [if_neg e] at h2
        have hne : q.1 ≠ p := fun z => by
          rw [z] at h1
          exact e (nd_ix nps h1 hp)
        obtain ⟨g1, w1, l1, d1⟩ := a.now.mm (q.1, c i') (List.mem_append_right _ (mrows_mem h1))
        rw [h2]
        exact ⟨g1, w1, by rw [upd_ne hne]; exact l1, d1⟩
  · rcases List.mem_append.mp hq with hq | hq
    · exact a.fr q (List.mem_append_left _ hq)
    · obtain ⟨i', h1, h2⟩ := mem_mrows hq
      exact a.fr (q.1, c i') (List.mem_append_right _ (mrows_mem h1))
  · have nd := a.nd
    rw [List.map_append, mrows_fst] at nd ⊢
    exact nd
theorem st_setRow {i j : Nat} {p : Addr} (hp : ps[i]? = some p) (h : EvD K te ρ (X ++ Mrows ps c) d) (ho : EvD K to ρ (X ++ Mrows ps c) (adr p)) (hk : EvD K ti ρ (X ++ Mrows ps c) (.int (j : Nat))) (hj : j < (c i).length) (q : Nx K B D.nx ρ (X ++ Mrows ps (setc c i j d))) :
    Nx K B (tAsg te (gSub to ti rSetL) D) ρ (X ++ Mrows ps c) := fun σ G H a =>
  h σ G H a.now _ fun v G1 H1 s1 h1 => ho σ G1 H1 (a.now.stp s1) _ fun x G2 H2 s2 h2 => hk σ G2 H2 (a.now.stp (s1.trans s2)) _ fun y G3 H3 s3 h3 => by
    have a3 := a.stp ((s1.trans s2).trans s3)
    obtain ⟨hg, vs, hl, hd⟩ := a3.now.mm (p, c i) (List.mem_append_right _ (mrows_mem hp))
    exact ⟨p, vs, _, j, h2.adr_inv, h3.int_inv, hl, by rw [hd.len]; exact ixN_nat hj, q σ G3 _ (a3.setRow hp (hd.set j (Dq.same (s2.g.trans s3.g) _ _ h1)))⟩
/-- left[i][j] -/
theorem ev_ixRow {L i j : Nat} {Dl p : Addr} (hL : ρ[L]? = some (.r Dl)) (hD : (Dl, ps.mapIdx fun _ p => adr p) ∈ M) (hp : ps[i]? = some p) (hm : (p, ds) ∈ M) (hi : EvD K ti ρ M (.int (i : Nat))) (hj : EvD K tj ρ M (.int (j : Nat))) (h : ds[j]? = some d) :
    EvD K (tOp (rIxL K) (tOp (rIxL K) (tVar L) ti) tj) ρ M d :=
  ev_ixA (ev_ixM hL hD hi (atI_nat (by rw [List.getElem?_mapIdx, hp]; rfl))) hm hj (atI_nat h)
theorem ev_ixRow1 {L i : Nat} {Dl p : Addr} (hL : ρ[L]? = some (.r Dl)) (hD : (Dl, ps.mapIdx fun _ p => adr p) ∈ M) (hp : ps[i]? = some p) (hi : EvD K ti ρ M (.int (i : Nat))) :
    EvD K (tOp (rIxL K) (tVar L) ti) ρ M (adr p) := ev_ixM hL hD hi (atI_nat (by rw [List.getElem?_mapIdx, hp]; rfl))
end
end Lc

namespace Lc
open PySem PySem.Spec PyProof.Rows L2 RZ

/-! dict(pairs) with tuples as keys; sorted(d); d[k] -/
def rDct (K : PySem.W.Frag) : List V → Hp → VK → Prop := fun xs H Q => ∃ (a : Addr) (ps : List Addr) (kvs : List (List L2.Key × V)), xs = [.ref a] ∧ SqL K H a (ps.map V.ref) ∧
  Paired (fun p (kv : List L2.Key × V) => ∃ b, SqT K H p [.ref b, kv.2] ∧ H b = some (.tup (kv.1.map kV))) ps kvs ∧ (kvs.map (·.1)).Nodup ∧ ∀ p, H p = none → Q (.ref p) (upd H p (.dT kvs))
theorem kt_of {X : Cx} {pins : List (Addr × Obj)} {σ : L2.St} {H : Hp} {s : Shared} (I : Inv X pins σ H s) : ∀ {ps : List Addr} {kvs : List (List L2.Key × V)}, Paired (fun p (kv : List L2.Key × V) => ∃ b, SqT X.K H p [.ref b, kv.2] ∧ H b = some (.tup (kv.1.map kV))) ps kvs →
    ∃ xs : List (List L2.Key × Addr × Value), KT H kvs xs ∧ xs.length = ps.length ∧ ∀ (j : Nat) (x : List L2.Key × Addr × Value), xs[j]? = some x → ∃ T, ps[j]? = some T ∧ IsTup s.heap T #[.ref x.2.1, x.2.2]
  | _, _, .nil => ⟨[], .nil, rfl, fun j x e => by simp at e⟩
  | _, _, .cons (a := p) (b := kv) h t => by
    obtain ⟨xs, r, hl, hp⟩ := kt_of I t
    obtain ⟨b, h1, h2⟩ := h
    obtain ⟨its, rv, ht, _⟩ := I.tuple h1
    obtain ⟨u, y, ei, ru, ry⟩ := vals2 rv
    subst ei
    obtain rfl : u = Value.ref b := ru
    refine ⟨(kv.1, b, y) :: xs, .cons ⟨rfl, h2, ry⟩ r, by rw [List.length_cons, List.length_cons, hl], fun j x e => ?_⟩
    cases j with
    | zero =>
      have e' : (kv.1, b, y) = x := Option.some.inj e
      subst e'
      exact ⟨p, rfl, ht⟩
    | succ j =>
      obtain ⟨T, e1, e2⟩ := hp j x (by simpa using e)
      exact ⟨T, by simpa using e1, e2⟩
theorem kt_keys {H : Hp} : ∀ {kvs : List (List L2.Key × V)} {xs : List (List L2.Key × Addr × Value)}, KT H kvs xs → xs.map (·.1) = kvs.map (·.1)
  | _, _, .nil => rfl
  | _, _, .cons h t => by rw [List.map_cons, List.map_cons, kt_keys t, h.1]
theorem kt_is {P : Program} {w : World} {H : Hp} {h : Heap} (ok : HOk P w H h) : ∀ {kvs : List (List L2.Key × V)} {xs : List (List L2.Key × Addr × Value)}, KT H kvs xs → ∀ x ∈ xs, (tupleKind (mixKind P w)).is h x.1 x.2.1
  | _, _, .nil, _, hx => nomatch hx
  | _, _, .cons hq t, x, hx => by
    rcases List.mem_cons.mp hx with e | hx
    · subst e
      exact key_of ok (by rw [← hq.1]; exact hq.2.1)
    · exact kt_is ok t x hx
theorem call_dictLc {X : Cx} (hc : X.calm = true) (hu : X.A.units + 64 < cLine) : CallR X (.type "dict") (rDct X.K) := by
  intro pins s σ H xs us Q I r q
  obtain ⟨a, ps, kvs, ex, hq, hp, hn, q⟩ := q
  subst ex
  obtain ⟨u, eu, rx⟩ := vals1 r
  subst eu
  cases rx
  obtain ⟨its, rv, pl, hz⟩ := I.list hq
  have ei := refs_at rv
  subst ei
  rw [List.length_map] at hz
  obtain ⟨xs, rel, hl, hpr⟩ := kt_of I hp
  have hnx : (xs.map (·.1)).Nodup := by rw [kt_keys rel]; exact hn
  have hlk : kvs.length = xs.length := Paired.length rel
  refine PySem.call_dict_pairsH (knd := tupleKind (mixKind X.prog X.w)) (ps := xs) (PairArg.list a (ps.map Value.ref).toArray (fun j => ps.getD j 0) (xs.map fun x => (Value.ref x.2.1, x.2.2))) (I.ok.hd hc) (by show X.A.units + 1 + 1 < cLine; omega) ⟨?_, ?_, ?_⟩ ⟨?_, ?_⟩ ?_ ?_ ?_
  · obtain ⟨o, n, ho, hcl, hd, hdat⟩ := pl
    exact ⟨o, n, ho, hcl, hd, hdat⟩
  · simp [hl]
  · intro j k v hj
    rw [List.getElem?_map] at hj
    cases hx : xs[j]? with
    | none => rw [hx] at hj; cases hj
    | some x =>
      rw [hx] at hj
      cases hj
      obtain ⟨T, e1, e2⟩ := hpr j x hx
      have eT : ps.getD j 0 = T := by rw [List.getD_eq_getElem?_getD, e1]; rfl
      refine ⟨?_, .inl ?_⟩
      · show _ = some (Value.ref (ps.getD j 0))
        rw [eT]
        simp [e1]
      · show Heap.IsTuple _ (ps.getD j 0) _
        rw [eT]
        exact e2
  · simp
  · intro i key v hj
    have hj : (xs.map fun x => (Value.ref x.2.1, x.2.2))[i]? = some (key, v) := hj
    rw [List.getElem?_map] at hj
    cases hx : xs[i]? with
    | none => rw [hx] at hj; cases hj
    | some x =>
      rw [hx] at hj
      cases hj
      exact ⟨x.1, x.2.1, rfl, rfl⟩
  · intro h' hk x hx
    exact tupleKind_stays.stays (fun b o vs n e _ => hk b o (Nat.ne_of_lt (Heap.lt_size e)) (fun z => nomatch z) e) (kt_is I.hok rel x hx)
  · rw [List.length_map, hl]
    exact hz
  · intro h' tk hd' hk
    rw [storedAllH_nil_of_nodup xs hnx] at hd'
    have hm : (s.heap.objs.size == sysModules) = false := beq_eq_false_iff_ne.mpr (Nat.ne_of_gt I.big)
    have hfr := I.hok.fresh (Nat.le_refl s.heap.objs.size)
    obtain ⟨o, es, ep, ho, hx, hdat, hes, _, hn2⟩ := hd'
    refine ⟨.ref s.heap.objs.size, upd H s.heap.objs.size (.dT kvs), I.laid (t' := tk) (fun b u e => hk b u (fun z => nomatch z) e) (Nat.le_refl _) (show ObjOk X.prog X.w _ _ _ (.dT kvs) from ⟨by rw [hlk, hl]; exact hz, hm, xs, KT.keeps rel fun b ys e => ?_, o, es, ep, ho, hx, hdat, hes, hn2⟩), rfl, q _ hfr⟩
    rw [upd_ne (ne_of_none e hfr)]
    exact e
/-- sorted(d): its keys in order -/
def rSrtD : List V → Hp → VK → Prop := fun vs H Q => ∃ (d : Addr) (kvs : List (List L2.Key × V)) (ks : List (List Int)), vs = [.ref d] ∧ H d = some (.dT kvs) ∧ kvs.map (·.1) = ks.map (fun k => k.map Sum.inl) ∧ (∀ k ∈ ks, k ≠ []) ∧
  ∀ (bs : List Addr) (p : Addr), Paired (fun b (k : List Int) => H b = some (.tup (k.map V.int))) bs (ks.mergeSort (PySem.W.dataLe false fun (k : List Int) => PyData.tuple (k.map PyData.int))) → H p = none → Q (.ref p) (upd H p (.lst (bs.map V.ref)))
theorem map_kV (k : List Int) : (k.map Sum.inl : List L2.Key).map kV = k.map V.int := by
  rw [List.map_map]
  rfl
theorem kt_bs {H : Hp} : ∀ {kvs : List (List L2.Key × V)} {xs : List (List L2.Key × Addr × Value)} {ks : List (List Int)}, KT H kvs xs → kvs.map (·.1) = ks.map (fun k => k.map Sum.inl) → Paired (fun b (k : List Int) => H b = some (.tup (k.map V.int))) (xs.map fun x => x.2.1) ks
  | _, _, [], .nil, _ => .nil
  | _, _, _ :: _, .nil, e => by cases e
  | _, _, [], .cons _ _, e => by cases e
  | _, _, k :: ks, .cons h t, e => by
    rw [List.map_cons, List.map_cons] at e
    injection e with e1 e2
    refine .cons ?_ (kt_bs t e2)
    have := h.2.1
    rw [e1, map_kV] at this
    exact this
theorem each_bs {H : Hp} : ∀ {bs : List Addr} {ks : List (List Int)}, Paired (fun b (k : List Int) => H b = some (.tup (k.map V.int))) bs ks → PySem.W.EachIs (fun u (k : List Int) => ∃ b, u = Value.ref b ∧ H b = some (.tup (k.map V.int))) (bs.map Value.ref) ks
  | _, _, .nil => .nil
  | _, _, .cons h t => .cons ⟨_, rfl, h⟩ (each_bs t)
theorem each_bs_back {H : Hp} : ∀ {us : List Value} {ks : List (List Int)}, PySem.W.EachIs (fun u (k : List Int) => ∃ b, u = Value.ref b ∧ H b = some (.tup (k.map V.int))) us ks → ∃ bs : List Addr, us = bs.map Value.ref ∧ Paired (fun b (k : List Int) => H b = some (.tup (k.map V.int))) bs ks
  | _, _, .nil => ⟨[], rfl, .nil⟩
  | _, _, .cons ⟨b, e, h⟩ t => by
    obtain ⟨bs, h1, h2⟩ := each_bs_back t
    exact ⟨b :: bs, by rw [e, h1]; rfl, .cons h h2⟩
theorem dp_key {K : PySem.W.Frag} {H : Hp} {b : Addr} {k : List Int} (h : H b = some (.tup (k.map V.int))) : Dp K H (.ref b) (PyData.tuple (k.map PyData.int)) :=
  dpo_ints K H _ (.tup (.inl (.inl h)) (DqA.of_ints k))
theorem cr_sortedDT {X : Cx} (hc : X.calm = true) (hu : X.A.units + 64 < cLine) : CallR X (.builtin "sorted") rSrtD := by
  intro pins s σ H xs us Q I r h
  obtain ⟨d, kvs, ks, ex, hd, hks, hne, q⟩ := h
  subst ex
  obtain ⟨u, eu, rx⟩ := vals1 r
  subst eu
  cases rx
  obtain ⟨z, hs, xs, pr, o, es, ep, ho, hx, hdt, he, hn⟩ := (show ObjOk X.prog X.w H s.heap d (.dT kvs) from I.hok d _ hd)
  have l1 : es.size = xs.length := size_of_entries he
  have l2 : kvs.length = xs.length := Paired.length pr
  have lk : ks.length = xs.length := by
    have e := congrArg List.length hks
    rw [List.length_map, List.length_map] at e
    omega
  refine Calls.call_function_entry PyProof.Rows.kind_sorted PyProof.Rows.plain_sorted PyProof.Rows.entry_sorted (PyProof.Rows.args_sorted1 _) ?_
  unfold Builtin.«sorted»
  refine wpAny_bind (m := checkCount "sorted" 1 1 _) (wpAny_pure ?_)
  refine wpAny_bind (PySem.W.kdu_collect (A := X.A.in1) (kdl_raw hs hx hdt) (I.ok.hd hc) ho (by omega) fun h' tk acc' hk it => ?_)
  have ea : acc'.toList = (xs.map fun x => x.2.1).map Value.ref := by
    rw [List.map_map]
    have hl : acc'.toList.length = xs.length := by rw [Array.length_toList, it.1]; exact l1
    apply List.ext_getElem?
    intro j
    rw [List.getElem?_map]
    cases hj : acc'.toList[j]? with
    | none =>
      have h1 := List.getElem?_eq_none_iff.mp hj
      rw [List.getElem?_eq_none (by omega)]
      all_goals rfl
    | some v =>
      obtain ⟨en, hen, hv⟩ := it.2 j v (by rw [← Array.getElem?_toList]; exact hj)
      have qe := entry_at he j
      rw [hen] at qe
      cases hb : xs[j]? with
      | none =>
        rw [hb] at qe
        exact nomatch (show some en = none from qe)
      | some b =>
        rw [hb] at qe
        have e2 : en = entryOfKey (tupleKind (mixKind X.prog X.w)) b := Option.some.inj qe
        rw [hv, e2]
        all_goals rfl
  have hbs := kt_bs pr hks
  have hz : acc'.toList.length ≤ sizeLine := by rw [ea, List.length_map, List.length_map]; omega
  have I1 : Inv X pins σ H { s with heap := h', toks := tk } := I.kept hk
  refine wpAny_bind (wpAny_newList ?_ hz)
  have hoL : (h'.push (seqObj "list" acc'.toList.toArray 0)).get? h'.objs.size = some (seqObj "list" acc'.toList.toArray 0) := Heap.get?_push_size _ rfl
  have hold : ∀ b ob, h'.get? b = some ob → (PySem.W.sortingHeap (h'.push (seqObj "list" acc'.toList.toArray 0)) h'.objs.size acc'.toList).get? b = some ob := fun b ob e => PySem.W.sortingHeap_old (Nat.ne_of_lt (Heap.lt_size e)) (Heap.get?_push_of_some _ e)
  show wpAny _ _ _ _ _ { s with heap := h'.push (seqObj "list" acc'.toList.toArray 0), toks := tk }
  have e1 : PySem.W.EachIs (fun u (k : List Int) => ∃ b, u = Value.ref b ∧ H b = some (.tup (k.map V.int))) acc'.toList ks := by rw [ea]; exact each_bs hbs
  have er : PySem.W.EachIs (fun v (k : List Int) => ∃ as, Reads (PySem.W.sortingHeap (h'.push (seqObj "list" acc'.toList.toArray 0)) h'.objs.size acc'.toList) v (PyData.tuple (k.map PyData.int)) as) acc'.toList ks := e1.mono fun v k ⟨b, e, hb⟩ => by
    subst e
    obtain ⟨as, rr⟩ := Dp.reads I1 (PyData.tuple (k.map PyData.int)) (.ref b) (Value.ref b) (dp_key hb) rfl
    exact ⟨as, PyProof.Rows.Reads.keeps hold rr⟩
  have hal : PySem.W.AllAlike (ks.map fun (k : List Int) => PyData.tuple (k.map PyData.int)) := fun d h d' h' => by
    obtain ⟨k, _, rfl⟩ := List.mem_map.mp h
    obtain ⟨k', _, rfl⟩ := List.mem_map.mp h'
    exact PySem.W.DatumOrd.alike (α := PySem.W.Tup Int) ⟨k⟩ ⟨k'⟩
  have hsr : PySem.W.Sortable (ks.map fun (k : List Int) => PyData.tuple (k.map PyData.int)) := .inl fun d h => by
    obtain ⟨k, hk, rfl⟩ := List.mem_map.mp h
    cases k with
    | nil => exact absurd rfl (hne _ hk)
    | cons x r => exact ⟨.int x, r.map .int, rfl⟩
  have hlen : acc'.toList.length = ks.length := e1.length
  refine wpAny_bind (wpAny_holding (wpAny_call_entry PyProof.Rows.slot_list_sort ⟨_, hoL, rfl⟩ PyProof.Rows.entry_list_sort
    (PySem.W.list_sort_vals (s := { s with heap := h'.push (seqObj "list" acc'.toList.toArray 0), toks := tk }) (κ := PySem.W.dataKind (PySem.W.sortingHeap (h'.push (seqObj "list" acc'.toList.toArray 0)) h'.objs.size acc'.toList) (ks.map fun (k : List Int) => PyData.tuple (k.map PyData.int))) hoL (PySem.W.SortsAt.data (s := { s with heap := PySem.W.sortingHeap (h'.push (seqObj "list" acc'.toList.toArray 0)) h'.objs.size acc'.toList, toks := tk }) (PySem.W.each_map (R := fun v d => ∃ as, Reads (PySem.W.sortingHeap (h'.push (seqObj "list" acc'.toList.toArray 0)) h'.objs.size acc'.toList) v d as) (fun (k : List Int) => PyData.tuple (k.map PyData.int)) er) hal hsr (PySem.W.bound_map fun k _ => ?_)) hz ?_)
    (PyProof.Rows.args_list_sort _)))
  · have := PySem.W.Datum.depth_le (α := PySem.W.Tup Int) ⟨k⟩
    have e : (PySem.W.Datum.depth (PySem.W.Tup Int)) = 1 := rfl
    rw [e] at this
    show X.A.units + 1 + 1 + (PyData.tuple (k.map PyData.int)).depth < cLine
    have : (PyData.tuple (k.map PyData.int)).depth ≤ 1 := this
    omega
  have hout := PySem.W.sortVals_data false e1 er hal
  obtain ⟨bs, hb1, hb2⟩ := each_bs_back hout
  obtain ⟨e', he'⟩ := PyProof.Rows.sortedHeap_at (vs := acc'.toList) (out := (PySem.W.sortVals (PySem.W.dataKind (PySem.W.sortingHeap (h'.push (seqObj "list" acc'.toList.toArray 0)) h'.objs.size acc'.toList) (ks.map fun (k : List Int) => PyData.tuple (k.map PyData.int))) false acc'.toList acc'.toList).toArray) hoL
  refine ⟨_, rfl, wpAny_pure ⟨_, rfl, .ref h'.objs.size, upd H h'.objs.size (.lst (bs.map V.ref)), I1.laid (t' := tk) (fun b u e => ?_) (Nat.le_refl _)
    (show ObjOk X.prog X.w _ _ _ (.lst (bs.map V.ref)) from ⟨?_, _, e', (show Vals (bs.map V.ref) (PySem.W.sortVals _ _ _ _) by rw [hb1]; exact vals_refs _), he'⟩), rfl, q bs _ hb2 (I1.hok.fresh (Nat.le_refl _))⟩⟩
  · have hb : b < h'.objs.size := Heap.lt_size e
    rw [PyProof.Rows.sortedHeap_old (Nat.ne_of_lt hb) (by rw [size_push']; exact Nat.lt_succ_of_lt hb)]
    exact Heap.get?_push_of_some _ e
  · have := congrArg List.length hb1
    rw [List.length_map, PySem.W.sortVals_length false rfl] at this
    rw [List.length_map]
    omega
end Lc

namespace Lc
open PySem PySem.Spec PyProof.Rows L2 RZ

/-! keys and dicts over the data layer -/
section
variable {K : PySem.W.Frag} {B : Bs} {G H G2 H2 : Hp} {ρ ρ' ρ1 : List Sl} {M X : Mt} {σ : L2.St} {P : L2.St → Hp → Prop} {D : Ends} {R : PD → Prop}
variable {ta tb te tc to ti tj td ty : TE} {tA : TA} {tt : TT} {t u : TS} {d d1 d2 : PD} {ds es : List PD} {g : TG} {wi : TI} {vs : List Nat} {ps : List Addr} {c : Nat → List PD}
theorem Stp.addT {b : Addr} {xs : List V} (s : Stp G H G2 H) (h : H b = some (.tup xs)) (z : G2 b = none) : Stp G H (upd G2 b (.tup xs)) H := by
  refine ⟨s.g.trans (same_new z), s.h, fun c x q => ?_, fun a ys q n => ?_⟩
  · by_cases hb : c = b
    · subst hb
      rw [upd_same] at q
      cases q
      exact h
    · rw [upd_ne hb] at q
      exact s.gh c x q
  · have hne : a ≠ b := fun e => by
      rw [e, h] at q
      exact nomatch q
    rw [upd_ne hne]
    exact s.own a ys q n
theorem ints_inj : ∀ {k m : List Int}, k.map PyData.int = m.map PyData.int → k = m
  | [], [], _ => rfl
  | [], _ :: _, e => by cases e
  | _ :: _, [], e => by cases e
  | x :: k, y :: m, e => by
    rw [List.map_cons, List.map_cons] at e
    injection e with e1 e2
    rw [PyData.int.inj e1, ints_inj e2]
theorem intss_inj : ∀ {k m : List (List Int)}, k.map (fun c => PyData.list (c.map PyData.int)) = m.map (fun c => PyData.list (c.map PyData.int)) → k = m
  | [], [], _ => rfl
  | [], _ :: _, e => by cases e
  | _ :: _, [], e => by cases e
  | x :: k, y :: m, e => by
    rw [List.map_cons, List.map_cons] at e
    injection e with e1 e2
    rw [ints_inj (PyData.list.inj e1), intss_inj e2]
theorem adrs_inj : ∀ {k m : List Addr}, k.map adr = m.map adr → k = m
  | [], [], _ => rfl
  | [], _ :: _, e => by cases e
  | _ :: _, [], e => by cases e
  | x :: k, y :: m, e => by
    rw [List.map_cons, List.map_cons] at e
    injection e with e1 e2
    have e3 : x = y := by
      have := PyData.str.inj e1
      simpa using this
    rw [e3, adrs_inj e2]
theorem Dq.key_inv {v : V} {k : List Int} (h : Dq K G v (keyD k)) : ∃ a, v = .ref a ∧ G a = some (.tup (k.map V.int)) := by
  generalize hd : keyD k = d at h
  cases h with
  | key m h1 =>
    have e := PyData.dict.inj hd
    injection e with e1 _
    have e2 := PyData.list.inj (Prod.mk.inj e1).2
    rw [ints_inj e2]
    exact ⟨_, rfl, h1⟩
  | adr q => exact nomatch hd
  | dct ks ps _ => 
    have e := PyData.dict.inj hd
    injection e with e1 _
    exact nomatch (Prod.mk.inj e1).1
  | dcf ks ps cs _ _ =>
    have e := PyData.dict.inj hd
    injection e with e1 _
    exact nomatch (Prod.mk.inj e1).1
  | scr ns _ =>
    have e := PyData.dict.inj hd
    injection e with e1 _
    exact nomatch (Prod.mk.inj e1).1
  | non => exact nomatch hd
  | bl _ => exact nomatch hd
  | int _ => exact nomatch hd
  | lst _ _ => exact nomatch hd
  | tup _ _ => exact nomatch hd
theorem Dq.dct_inv {v : V} {ks : List (List Int)} {ps : List Addr} (h : Dq K G v (dctD ks ps)) : ∃ a, v = .ref a ∧ G a = some (.dT (List.zipWith (fun k p => (k.map Sum.inl, V.ref p)) ks ps)) := by
  generalize hd : dctD ks ps = d at h
  cases h with
  | key m h1 =>
    have e := PyData.dict.inj hd
    injection e with e1 _
    exact nomatch (Prod.mk.inj e1).1
  | adr q => exact nomatch hd
  | dct ks2 ps2 h1 =>
    have e := PyData.dict.inj hd
    injection e with e1 _
    have e2 := PyData.list.inj (Prod.mk.inj e1).1
    have e3 := PyData.list.inj (Prod.mk.inj e1).2
    rw [intss_inj e2, adrs_inj e3]
    exact ⟨_, rfl, h1⟩
  | dcf ks ps cs _ _ =>
    have e := PyData.dict.inj hd
    injection e with e1 _
    exact nomatch (Prod.mk.inj e1).1
  | scr ns _ =>
    have e := PyData.dict.inj hd
    injection e with e1 _
    exact nomatch (Prod.mk.inj e1).1
  | non => exact nomatch hd
  | bl _ => exact nomatch hd
  | int _ => exact nomatch hd
  | lst _ _ => exact nomatch hd
  | tup _ _ => exact nomatch hd
theorem Dq.dcf_inv {v : V} {ks cs : List (List Int)} (h : Dq K G v (dcfD ks cs)) : ∃ a ps, v = .ref a ∧ G a = some (.dT (List.zipWith (fun k p => (k.map Sum.inl, V.ref p)) ks ps)) ∧ Paired (fun p (c : List Int) => G p = some (.lst (c.map V.int))) ps cs := by
  generalize hd : dcfD ks cs = d at h
  cases h with
  | key m h1 =>
    have e := PyData.dict.inj hd
    injection e with e1 _
    exact nomatch (Prod.mk.inj e1).1
  | adr q => exact nomatch hd
  | dct ks2 ps2 h1 =>
    have e := PyData.dict.inj hd
    injection e with e1 _
    exact nomatch (Prod.mk.inj e1).1
  | dcf ks2 ps2 cs2 h1 h2 =>
    have e := PyData.dict.inj hd
    injection e with e1 e2
    injection e2 with e2 _
    have e3 := PyData.list.inj (Prod.mk.inj e1).2
    have e4 := PyData.list.inj (Prod.mk.inj e2).2
    rw [intss_inj e3, intss_inj e4]
    exact ⟨_, _, rfl, h1, h2⟩
  | scr ns _ =>
    have e := PyData.dict.inj hd
    injection e with e1 _
    exact nomatch (Prod.mk.inj e1).1
  | non => exact nomatch hd
  | bl _ => exact nomatch hd
  | int _ => exact nomatch hd
  | lst _ _ => exact nomatch hd
  | tup _ _ => exact nomatch hd
theorem Dq.scr_inv {v : V} {ns : List Int} (h : Dq K G v (scrD ns)) : ∃ a, v = .ref a ∧ SqL K G a (ns.map V.int) := by
  generalize hd : scrD ns = d at h
  cases h with
  | scr m h1 =>
    have e := PyData.dict.inj hd
    injection e with e1 _
    have e2 := PyData.list.inj (Prod.mk.inj e1).2
    rw [ints_inj e2]
    exact ⟨_, rfl, h1⟩
  | key m h1 =>
    have e := PyData.dict.inj hd
    injection e with e1 _
    exact nomatch (Prod.mk.inj e1).1
  | adr q => exact nomatch hd
  | dct ks ps _ =>
    have e := PyData.dict.inj hd
    injection e with e1 _
    exact nomatch (Prod.mk.inj e1).1
  | dcf ks ps cs _ _ =>
    have e := PyData.dict.inj hd
    injection e with e1 _
    exact nomatch (Prod.mk.inj e1).1
  | non => exact nomatch hd
  | bl _ => exact nomatch hd
  | int _ => exact nomatch hd
  | lst _ _ => exact nomatch hd
  | tup _ _ => exact nomatch hd
theorem rc_lenScr {ns : List Int} : RcD K (rLenQ K) [scrD ns] (.int ns.length) := fun G H vs e hv Q q => by
  cases hv with
  | cons h1 h2 =>
    cases h2
    obtain ⟨a, rfl, h3⟩ := h1.scr_inv
    refine ⟨a, _, rfl, .inl (same_l e h3), q _ _ _ (Stp.refl e) ?_⟩
    rw [List.length_map]
    exact .int _
theorem rv_ixScr {ns : List Int} {k : Nat} {x : Int} (h : ns[k]? = some x) : RvD K (rIxL K) (scrD ns) (.int (k : Nat)) (.int x) := fun G H v y e hx hy Q q => by
  obtain ⟨a, rfl, h1⟩ := hx.scr_inv
  rw [hy.int_inv]
  exact ⟨a, _, _, .int x, rfl, rfl, same_l e h1, atI_nat (by rw [List.getElem?_map, h]; rfl), q _ _ _ (Stp.refl e) (.int x)⟩
theorem ev_slScr {ns : List Int} {tl th : TO} {lo hi : Option Int} (h : EvD K te ρ M (scrD ns)) (hl : EvO K tl ρ M lo) (hh : EvO K th ρ M hi) : EvL K (tSl (rSlL K) te tl th) ρ M (cutD (ns.map .int) lo hi) := fun σ G H n Q q =>
  h σ G H n _ fun v G1 H1 s1 hv => hl σ G1 H1 (n.stp s1) _ fun G2 H2 s2 => hh σ G2 H2 (n.stp (s1.trans s2)) _ fun G3 H3 s3 => by
    obtain ⟨a, rfl, h1⟩ := hv.scr_inv
    have hd := (DqA.of_ints (K := K) (G := G3) ns).cut lo hi
    exact ⟨a, _, rfl, same_l ((s1.gh.trans s2.h).trans s3.h) h1, fun p hp => q p _ _ _ (((s1.trans s2).trans s3).trans (Stp.newM s3.gh hp)) (none_of_same ((s1.trans s2).trans s3).h hp) (none_of_same s3.gh hp) upd_same hd⟩
theorem Dq.key_tup {v : V} {k : List Int} (h : Dq K G v (keyD k)) : Dq K G v (.tuple (k.map .int)) := by
  obtain ⟨a, rfl, h1⟩ := h.key_inv
  exact .tup (.inl (.inl h1)) (DqA.of_ints k)
theorem EvD.unkey {k : List Int} (h : EvD K te ρ M (keyD k)) : EvD K te ρ M (.tuple (k.map .int)) := fun σ G H n Q q => h σ G H n Q fun v G2 H2 s hv => q v G2 H2 s hv.key_tup
theorem ev_tupK {k : List Int} (ha : EvA K tA ρ M (k.map .int)) (hl : k.length ≤ 1000) : EvD K (tTup tA) ρ M (keyD k) := fun σ G H n Q q =>
  ha σ G H n _ fun xs G1 H1 s1 h1 => ⟨by rw [h1.len, List.length_map]; exact sqT_len_ok (by omega), fun p hp => by
    have e := h1.ints
    subst e
    exact q _ _ _ (s1.trans (Stp.new s1.gh hp)) (.key k upd_same)⟩
theorem rv_catK {k m : List Int} (hl : k.length + m.length ≤ 1000) : RvD K (rCatA K) (keyD k) (keyD m) (keyD (k ++ m)) := fun G H x y e hx hy Q q => by
  obtain ⟨a, rfl, h1⟩ := hx.key_inv
  obtain ⟨b, rfl, h3⟩ := hy.key_inv
  refine ⟨a, b, _, _, rfl, rfl, .inl (.inl (e _ _ h1)), .inl (.inl (e _ _ h3)), by rw [List.length_map, List.length_map]; exact sqT_len_ok (by omega), fun z => ?_, fun _ z => ?_, fun _ _ p hp => ?_⟩
  · have : k = [] := List.map_eq_nil_iff.mp z
    subst this
    exact q _ _ _ (Stp.refl e) (.key m h3)
  · have : m = [] := List.map_eq_nil_iff.mp z
    subst this
    rw [List.append_nil] at q
    exact q _ _ _ (Stp.refl e) (.key k h1)
  · rw [← List.map_append]
    exact q _ _ _ (Stp.new e hp) (.key (k ++ m) upd_same)
/-- tuple(a list of ints), a key -/
theorem rc_tupKey {k : List Int} : RcD K (rTupQ K) [.list (k.map .int)] (keyD k) := fun G H vs e hv Q q => by
  cases hv with
  | cons h1 h2 =>
    cases h2
    obtain ⟨a, xs, rfl, h3, h4⟩ := h1.list_inv
    have e2 := h4.ints
    subst e2
    exact ⟨a, _, rfl, .inl ⟨same_sq e h3, fun l hl => q _ _ _ (Stp.new e hl) (.key k upd_same)⟩⟩
theorem inl_inj : ∀ {k m : List Int}, (k.map Sum.inl : List L2.Key) = m.map Sum.inl → k = m
  | [], [], _ => rfl
  | [], _ :: _, e => by cases e
  | _ :: _, [], e => by cases e
  | x :: k, y :: m, e => by
    rw [List.map_cons, List.map_cons] at e
    injection e with e1 e2
    rw [Sum.inl.inj e1, inl_inj e2]
theorem valV_zip : ∀ {ks : List (List Int)} {ps : List Addr} {j : Nat} {k : List Int} {p : Addr}, ks.Nodup → ks[j]? = some k → ps[j]? = some p → valV (List.zipWith (fun k p => ((k.map Sum.inl : List L2.Key), V.ref p)) ks ps) (k.map Sum.inl) = some (.ref p)
  | [], _, _, _, _, _, h, _ => by simp at h
  | _ :: _, [], _, _, _, _, _, h => by simp at h
  | k0 :: ks, p0 :: ps, 0, k, p, _, h1, h2 => by
    have e1 : k0 = k := by simpa using h1
    have e2 : p0 = p := by simpa using h2
    subst e1 e2
    rw [List.zipWith_cons_cons]
    exact valV_pos rfl
  | k0 :: ks, p0 :: ps, j + 1, k, p, nd, h1, h2 => by
    rw [List.nodup_cons] at nd
    have h1 : ks[j]? = some k := by simpa using h1
    rw [List.zipWith_cons_cons, valV_neg (fun e => nd.1 (by
      have : k0 = k := inl_inj e
      rw [this]
      exact List.mem_of_getElem? h1))]
    exact valV_zip nd.2 h1 (by simpa using h2)
theorem ev_dget {ks : List (List Int)} {j : Nat} {k : List Int} {p : Addr} (h1 : EvD K td ρ M (dctD ks ps)) (h2 : EvD K ty ρ M (keyD k)) (nd : ks.Nodup) (hk : ks[j]? = some k) (hp : ps[j]? = some p) : EvD K (tDGet td ty) ρ M (adr p) := fun σ G H n Q q =>
  h1 σ G H n _ fun x G1 H1 s1 q1 => h2 σ G1 H1 (n.stp s1) _ fun y G2 H2 s2 q2 => by
    obtain ⟨a, rfl, e1⟩ := q1.dct_inv
    obtain ⟨b, rfl, e2⟩ := q2.key_inv
    have g := DGet.t (H := H2) (a := a) (b := b) (k := k.map Sum.inl) ((s1.gh.trans s2.h) _ _ e1) (by rw [map_kV]; exact s2.gh _ _ e2)
    rw [valV_zip nd hk hp] at g
    exact ⟨a, _, rfl, g, q _ G2 H2 (s1.trans s2) (.adr p)⟩
theorem paired_get {α β : Type} {F : α → β → Prop} : ∀ {as : List α} {bs : List β} {j : Nat} {b : β}, Paired F as bs → bs[j]? = some b → ∃ a, as[j]? = some a ∧ F a b
  | _, _, _, _, .nil, h => by simp at h
  | _, _, 0, _, .cons f _, h => by
    have := Option.some.inj h
    subst this
    exact ⟨_, rfl, f⟩
  | _, _, j + 1, b, .cons _ t, h => by
    obtain ⟨a, h1, h2⟩ := paired_get (j := j) t (by simpa using h)
    exact ⟨a, by simpa using h1, h2⟩
theorem ev_dgetF {ks cs : List (List Int)} {j : Nat} {k c : List Int} (h1 : EvD K td ρ M (dcfD ks cs)) (h2 : EvD K ty ρ M (keyD k)) (nd : ks.Nodup) (hk : ks[j]? = some k) (hp : cs[j]? = some c) : EvD K (tDGet td ty) ρ M (.list (c.map .int)) := fun σ G H n Q q =>
  h1 σ G H n _ fun x G1 H1 s1 q1 => h2 σ G1 H1 (n.stp s1) _ fun y G2 H2 s2 q2 => by
    obtain ⟨a, ps, rfl, e1, e3⟩ := q1.dcf_inv
    obtain ⟨b, rfl, e2⟩ := q2.key_inv
    obtain ⟨p, p1, p2⟩ := paired_get e3 hp
    have g := DGet.t (H := H2) (a := a) (b := b) (k := k.map Sum.inl) ((s1.gh.trans s2.h) _ _ e1) (by rw [map_kV]; exact s2.gh _ _ e2)
    rw [valV_zip nd hk p1] at g
    exact ⟨a, _, rfl, g, q _ G2 H2 (s1.trans s2) (.lst (s2.g _ _ p2) (DqA.of_ints c))⟩
theorem zip_keys : ∀ {ks : List (List Int)} {ps : List Addr}, ks.length = ps.length → (List.zipWith (fun k p => ((k.map Sum.inl : List L2.Key), V.ref p)) ks ps).map (·.1) = ks.map fun k => k.map Sum.inl
  | [], [], _ => rfl
  | [], _ :: _, h => by simp at h
  | _ :: _, [], h => by simp at h
  | k :: ks, p :: ps, h => by
    rw [List.zipWith_cons_cons, List.map_cons, List.map_cons, zip_keys (by simpa using h)]
theorem paired_keys : ∀ {bs : List Addr} {ks : List (List Int)}, Paired (fun b (k : List Int) => H b = some (.tup (k.map V.int))) bs ks → Same H H2 → DqA K H2 (bs.map V.ref) (ks.map keyD)
  | _, _, .nil, _ => .nil
  | _, _, .cons h t, e => .cons (.key _ (e _ _ h)) (paired_keys t e)
/-- sorted(d) -/
theorem rc_sortD {ks cs : List (List Int)} (hl : ks.length = cs.length) (hne : ∀ k ∈ ks, k ≠ []) : RcL K rSrtD [dcfD ks cs] ((ks.mergeSort (PySem.W.dataLe false fun (k : List Int) => PyData.tuple (k.map PyData.int))).map keyD) := fun G H vs e hv Q q => by
  cases hv with
  | cons a b =>
    cases b
    obtain ⟨aa, ps, rfl, e1, e3⟩ := a.dcf_inv
    have hpl : ps.length = cs.length := Paired.length e3
    refine ⟨aa, _, ks, rfl, e _ _ e1, zip_keys (by omega), hne, fun bs p hbs hp => ?_⟩
    -- the keys found stand in H; they go into the part that never changes
    have st : ∀ (bs : List Addr) (ks : List (List Int)), Paired (fun b (k : List Int) => H b = some (.tup (k.map V.int))) bs ks → ∀ G0, Stp G H G0 H → ∃ G1, Stp G H G1 H ∧ Same G0 G1 ∧ DqA K G1 (bs.map V.ref) (ks.map keyD) := by
      intro bs
      induction bs with
      | nil => intro ks h G0 s0; cases h; exact ⟨G0, s0, Same.refl _, .nil⟩
      | cons b bs ih =>
        intro ks h G0 s0
        cases h with
        | cons h t =>
          rename_i k ks
          have : ∃ G1, Stp G H G1 H ∧ Same G0 G1 ∧ G1 b = some (.tup (List.map V.int k)) := by
            cases z : G0 b with
            | some o =>
              have := s0.gh _ _ z
              rw [h] at this
              cases this
              exact ⟨G0, s0, Same.refl _, z⟩
            | none => exact ⟨_, s0.addT h z, same_new z, upd_same⟩
          obtain ⟨G1, s1, e1, h1⟩ := this
          obtain ⟨G2, s2, e2, h2⟩ := ih _ t G1 s1
          exact ⟨G2, s2, e1.trans e2, .cons (.key _ (e2 _ _ h1)) h2⟩
    obtain ⟨G1, s1, _, hd⟩ := st bs _ hbs G (Stp.refl e)
    exact q p _ G1 _ (s1.trans (Stp.newM s1.gh hp)) hp (none_of_same s1.gh hp) upd_same hd
/-- d = dict([(key, a new list) for ..]) -/
theorem st_setDict {i : Nat} {α : Type} {l : List α} {enc : α → PD} (kf : α → List Int) (c : Nat → List PD) (hw : EvI K wi ρ [] (l.map enc)) (hlen : l.length ≤ 10000000) (nd : (l.map kf).Nodup)
    (hs : ∀ (j : Nat) (a : α), l[j]? = some a → ∃ is ρ1, (∀ k ∈ is, k ∈ vs) ∧ Tg K g is (enc a) (wipeR ρ vs) ρ1 ∧ EvM K te ρ1 [] (fun p => .tuple [keyD (kf a), adr p]) (c j))
    (q : ∀ ps : List Addr, ps.length = l.length → Nx K B D.nx (ρ.set i (.d (dctD (l.map kf) ps))) (Mrows ps c)) : Nx K B (tAsg (tCB (rDct K) (tCons (tLc wi g tYes te vs) tNil)) (gName i) D) ρ [] := fun σ G H a => by
  show tCB (rDct K) (tCons (tLc wi g tYes te vs) tNil) σ H _
  show tCons (tLc wi g tYes te vs) tNil σ H _
  show tLc wi g tYes te vs σ H _
  refine lc_fresh (fun j p => .tuple [keyD ((l.map kf).getD j []), adr p]) c hw (by rw [List.length_map]; exact hlen) (fun j d hd => ?_) σ G H a.now _ fun Dl ps G2 H2 hl F => ?_
  · obtain ⟨x, hx, rfl⟩ := map_getA hd
    obtain ⟨is, ρ1, h1, h2, h3⟩ := hs j x hx
    have e : (l.map kf).getD j [] = kf x := by rw [List.getD_eq_getElem?_getD, List.getElem?_map, hx]; rfl
    rw [e]
    exact ⟨is, ρ1, h1, h2, h3⟩
  · rw [List.length_map] at hl
    have a2 := a.frs F
    obtain ⟨vs', hD, hd⟩ := F.dl
    -- the pairs
    have key : ∀ (ps : List Addr) (ks : List (List Int)) (vs' : List V), ps.length = ks.length → DqA K G2 vs' (ps.mapIdx fun j p => .tuple [keyD (ks.getD j []), adr p]) → ∃ ts : List Addr, vs' = ts.map V.ref ∧ Paired (fun p (kv : List L2.Key × V) => ∃ b, SqT K H2 p [.ref b, kv.2] ∧ H2 b = some (.tup (kv.1.map kV))) ts (List.zipWith (fun k p => ((k.map Sum.inl : List L2.Key), V.ref p)) ks ps) := by
      intro ps
      induction ps with
      | nil =>
        intro ks vs' hl hd
        rw [List.mapIdx_nil] at hd
        cases hd
        exact ⟨[], rfl, by rw [List.zipWith_nil_right]; exact .nil⟩
      | cons p ps ih =>
        intro ks vs' hl hd
        cases ks with
        | nil => simp at hl
        | cons k ks =>
          rw [List.mapIdx_cons] at hd
          cases hd with
          | cons h1 h2 =>
            obtain ⟨T, xs, rfl, hT, hx⟩ := h1.tup_inv
            obtain ⟨ts, rfl, hp⟩ := ih ks _ (by simpa using hl) h2
            cases hx with
            | cons y1 y2 =>
              cases y2 with
              | cons y2 y3 =>
                cases y3
                have y1 : Dq K G2 _ (keyD k) := y1
                obtain ⟨b, rfl, hb⟩ := y1.key_inv
                rw [y2.adr_inv] at hT
                exact ⟨T :: ts, rfl, .cons ⟨b, same_t F.st.gh hT, by rw [map_kV]; exact F.st.gh _ _ hb⟩ hp⟩
    obtain ⟨ts, rfl, hp⟩ := key ps (l.map kf) vs' (by rw [List.length_map]; exact hl) hd
    refine ⟨Dl, ts, _, rfl, .inl (.inl hD), hp, ?_, fun p hpn => ?_⟩
    · rw [zip_keys (by rw [List.length_map]; exact hl.symm)]
      have : ∀ ks : List (List Int), ks.Nodup → (ks.map fun k => (k.map Sum.inl : List L2.Key)).Nodup := fun ks nd => by
        rw [List.nodup_iff_pairwise_ne, List.pairwise_map]
        rw [List.nodup_iff_pairwise_ne] at nd
        exact nd.imp fun h e => h (inl_inj e)
      exact this _ nd
    · have s3 := Stp.new (o := .dT (List.zipWith (fun k p => ((k.map Sum.inl : List L2.Key), V.ref p)) (l.map kf) ps)) a2.now.gh hpn
      have a3 := a2.stp s3
      have a4 : At K B ρ (Mrows ps c) σ _ _ := ⟨a3.st, a3.an, ⟨a3.now.gh, a3.now.env, fun q hq => a3.now.mm q (List.mem_cons_of_mem _ hq)⟩, fun q hq => a3.fr q (List.mem_cons_of_mem _ hq), (List.nodup_cons.mp (by have := a3.nd; rw [List.map_cons] at this; exact this)).2⟩
      exact q ps hl _ _ _ (a4.env (env_set (slD (.dct _ _ upd_same)) i a4.now.env))
/-- the dict's lists change no more -/
theorem Nx.frzD {ks cs : List (List Int)} (i : Nat) (hi : ρ[i]? = some (.d (dctD ks ps))) (hl : ps.length = cs.length) (h : Nx K B P (ρ.set i (.d (dcfD ks cs))) []) : Nx K B P ρ (Mrows ps fun j => (cs.getD j []).map .int) := fun σ G H a => by
  -- one list after the other
  have step : ∀ (ps2 : List Addr) (k : Nat) (G : Hp), (∀ j p, ps2[j]? = some p → ps[k + j]? = some p) → ps2.Nodup → Stp B.G0 B.H0 G H → Same B.A G → Paired (SlOk K G) σ ρ → (∀ j p, ps2[j]? = some p → G p = none ∧ B.H0 p = none ∧ H p = some (.lst ((cs.getD (k + j) []).map V.int))) →
      ∃ G', Same G G' ∧ Stp B.G0 B.H0 G' H ∧ ∀ j p, ps2[j]? = some p → G' p = some (.lst ((cs.getD (k + j) []).map V.int)) := by
    intro ps2
    induction ps2 with
    | nil => intro k G _ _ s _ _ _; exact ⟨G, Same.refl _, s, fun j p h => by simp at h⟩
    | cons p ps2 ih =>
      intro k G h1 nd s an e hm
      obtain ⟨g0, h0, hl0⟩ := hm 0 p rfl
      rw [List.nodup_cons] at nd
      have s1 := s.frz h0 hl0 g0
      obtain ⟨G', e1, s2, hh⟩ := ih (k + 1) (upd G p (.lst ((cs.getD (k + 0) []).map V.int))) (fun j p' hj => by rw [Nat.add_assoc, Nat.add_comm 1 j]; exact h1 (j + 1) p' (by simpa using hj)) nd.2 s1 (an.trans (same_new g0)) (env_same (same_new g0) e) fun j p' hj => by
        obtain ⟨y1, y2, y3⟩ := hm (j + 1) p' (by simpa using hj)
        refine ⟨?_, y2, by rw [Nat.add_assoc, Nat.add_comm 1 j]; exact y3⟩
        rw [upd_ne fun z => nd.1 (by rw [← z]; exact List.mem_of_getElem? hj)]
        exact y1
      refine ⟨G', (same_new g0).trans e1, s2, fun j p' hj => ?_⟩
      cases j with
      | zero =>
        have : p = p' := by simpa using hj
        subst this
        exact e1 _ _ upd_same
      | succ j =>
        have := hh j p' (by simpa using hj)
        rw [Nat.add_assoc, Nat.add_comm 1 j] at this
        exact this
  have nd := a.nd
  rw [mrows_fst] at nd
  obtain ⟨G', e1, s2, hh⟩ := step ps 0 G (fun j p h => by rw [Nat.zero_add]; exact h) nd a.st a.an a.now.env fun j p hj => by
    have hm := mrows_mem (c := fun j => (cs.getD j []).map PyData.int) hj
    obtain ⟨y1, vs, y2, y3⟩ := a.now.mm _ hm
    have y3 := y3.ints
    subst y3
    rw [Nat.zero_add]
    exact ⟨y1, a.fr _ hm, y2⟩
  obtain ⟨o, o1, o2⟩ := env_get a.now.env hi
  obtain ⟨v, rfl, hv⟩ := o2
  obtain ⟨ad, rfl, hd⟩ := hv.dct_inv
  have hpp : Paired (fun p (c : List Int) => G' p = some (.lst (c.map V.int))) ps cs := by
    have : ∀ (ps2 : List Addr) (cs2 : List (List Int)), ps2.length = cs2.length → (∀ j p, ps2[j]? = some p → G' p = some (.lst ((cs2.getD j []).map V.int))) → Paired (fun p (c : List Int) => G' p = some (.lst (c.map V.int))) ps2 cs2 := by
      intro ps2
      induction ps2 with
      | nil =>
        intro cs2 hl _
        cases cs2 with
        | nil => exact .nil
        | cons _ _ => simp at hl
      | cons p ps2 ih =>
        intro cs2 hl hh
        cases cs2 with
        | nil => simp at hl
        | cons c cs2 => exact .cons (hh 0 p rfl) (ih cs2 (by simpa using hl) fun j p' hj => hh (j + 1) p' (by simpa using hj))
    exact this ps cs hl fun j p hj => by
      have := hh j p hj
      rw [Nat.zero_add] at this
      exact this
  refine h σ G' H ⟨s2, a.an.trans e1, ⟨s2.gh, ?_, (fun q hq => nomatch hq)⟩, (fun q hq => nomatch hq), List.Pairwise.nil⟩
  have e3 : σ = σ.set i (some (.ref ad)) := by
    apply List.ext_getElem?
    intro j
    by_cases hj : i = j
    · subst hj
      rw [List.getElem?_set_self (List.getElem?_eq_some_iff.mp o1).1, o1]
    · rw [List.getElem?_set_ne hj]
  rw [e3]
  exact env_set (slD (.dcf ks ps cs (e1 _ _ hd) hpp)) i (env_same e1 a.now.env)
end
end Lc

namespace Lc
open PySem PySem.Spec PyProof.Rows L2 RZ

/-! the law's pen: a list of two numbers that a call of a def may change -/
def pn (x f : Int) : List PD := [.int x, .int f]
def rm (H : Hp) (p : Addr) : Hp := fun a => if a = p then none else H a
theorem rm_same {H : Hp} {p : Addr} : rm H p p = none := if_pos rfl
theorem rm_ne {H : Hp} {p a : Addr} (h : a ≠ p) : rm H p a = H a := if_neg h
theorem rm_le {H : Hp} {p : Addr} : Same (rm H p) H := fun a o e => by
  by_cases h : a = p
  · rw [h, rm_same] at e
    cases e
  · rw [rm_ne h] at e
    exact e
theorem rm_of {G H : Hp} {p : Addr} (e : Same G H) (h : G p = none) : Same G (rm H p) := fun a o q => by
  rw [rm_ne (ne_of_none q h)]
  exact e a o q
def PenAt (H : Hp) (p : Addr) : Prop := ∃ x f : Int, H p = some (.lst [.int x, .int f])
section
variable {K : PySem.W.Frag} {B : Bs} {G H G2 H2 : Hp} {ρ ρ' ρ1 : List Sl} {M M' X : Mt} {σ : L2.St} {P : L2.St → Hp → Prop} {D : Ends} {R R1 Rz : PD → Prop} {RA RB : List PD → Prop}
variable {ta tb te tc to ti tj td ty : TE} {tA : TA} {tt : TT} {t u : TS} {d d1 d2 : PD} {ds es : List PD} {g : TG} {wi : TI} {vs : List Nat} {ps : List Addr} {c : Nat → List PD} {p : Addr}
theorem At.perm (w : M.Perm M') (a : At K B ρ M σ G H) : At K B ρ M' σ G H :=
  ⟨a.st, a.an, ⟨a.now.gh, a.now.env, fun q hq => a.now.mm q (w.mem_iff.mpr hq)⟩, fun q hq => a.fr q (w.mem_iff.mpr hq), (w.map (·.1)).nodup_iff.mp a.nd⟩
theorem At.swap {a b : Addr × List PD} (h : At K B ρ (a :: b :: M) σ G H) : At K B ρ (b :: a :: M) σ G H := h.perm (List.Perm.swap b a M)
theorem At.pen {x f : Int} (a : At K B ρ ((p, pn x f) :: M) σ G H) : G p = none ∧ H p = some (.lst [.int x, .int f]) ∧ B.H0 p = none := by
  obtain ⟨h1, vs, h2, h3⟩ := a.now.mm (p, pn x f) List.mem_cons_self
  have e : vs = [.int x, .int f] := DqA.ints (ns := [x, f]) h3
  rw [e] at h2
  exact ⟨h1, h2, a.fr _ List.mem_cons_self⟩
/-- a step that may change the pen too -/
theorem At.stpP {x f x' f' : Int} (a : At K B ρ ((p, pn x f) :: M) σ G H) (s : Stp G (rm H p) G2 (rm H2 p)) (h : H2 p = some (.lst [.int x', .int f'])) : At K B ρ ((p, pn x' f') :: M) σ G2 H2 := by
  obtain ⟨g1, g2, g3⟩ := a.pen
  have hh : ∀ b o, b ≠ p → H b = some o → H2 b = some o := fun b o n e => by
    have := s.h b o (by rw [rm_ne n]; exact e)
    rw [rm_ne n] at this
    exact this
  have gh : Same G2 H2 := s.gh.trans rm_le
  have gp : G2 p = none := none_of_same s.gh rm_same
  refine ⟨⟨a.st.g.trans s.g, fun b o e => hh b o (ne_of_none e g3) (a.st.h b o e), gh, fun b xs e n => ?_⟩, a.an.trans s.g, ⟨gh, env_same s.g a.now.env, fun q hq => ?_⟩, fun q hq => ?_, ?_⟩
  · exact s.own b xs (by rw [rm_ne (ne_of_none e g3)]; exact a.st.h b _ e) (a.st.own b xs e n)
  · rcases List.mem_cons.mp hq with e | hq
    · subst e
      exact ⟨gp, _, h, DqA.of_ints [x', f']⟩
    · obtain ⟨y1, ws, y2, y3⟩ := a.now.mm q (List.mem_cons_of_mem _ hq)
      have hne : q.1 ≠ p := a.ne hq
      exact ⟨s.own _ ws (by rw [rm_ne hne]; exact y2) y1, ws, hh _ _ hne y2, DqA.same s.g _ _ y3⟩
  · rcases List.mem_cons.mp hq with e | hq
    · subst e
      exact g3
    · exact a.fr q (List.mem_cons_of_mem _ hq)
  · have := a.nd
    rw [List.map_cons] at this ⊢
    exact this
/-- te evaluates, perhaps with draws of the pen at p, to data of which R holds -/
def EvX (K : PySem.W.Frag) (B : Bs) (te : TE) (ρ : List Sl) (M : Mt) (p : Addr) (R : PD → Prop) : Prop :=
  ∀ x f σ G H, At K B ρ ((p, pn x f) :: M) σ G H → ∀ Q : VK, (∀ v d x' f' G2 H2, At K B ρ ((p, pn x' f') :: M) σ G2 H2 → Same G G2 → Dq K G2 v d → R d → Q v H2) → te σ H Q
def EvXA (K : PySem.W.Frag) (B : Bs) (tA : TA) (ρ : List Sl) (M : Mt) (p : Addr) (R : List PD → Prop) : Prop :=
  ∀ x f σ G H, At K B ρ ((p, pn x f) :: M) σ G H → ∀ Q : List V → Hp → Prop, (∀ vs ds x' f' G2 H2, At K B ρ ((p, pn x' f') :: M) σ G2 H2 → Same G G2 → DqA K G2 vs ds → R ds → Q vs H2) → tA σ H Q
theorem ex_ev (h : ∀ x f, EvD K te ρ ((p, pn x f) :: M) d) : EvX K B te ρ M p (fun e => e = d) := fun x f σ G H a Q q =>
  h x f σ G H a.now Q fun v G2 H2 s hv => q v d x f G2 H2 (a.stp s) s.g hv rfl
theorem EvX.mono (h : EvX K B te ρ M p R) (w : ∀ d, R d → R1 d) : EvX K B te ρ M p R1 := fun x f σ G H a Q q => h x f σ G H a Q fun v d x' f' G2 H2 a2 sg hv hR => q v d x' f' G2 H2 a2 sg hv (w d hR)
theorem ex_op {r : R2} (ha : EvX K B ta ρ M p R1) (hb : EvX K B tb ρ M p Rz) (hr : ∀ d1 d2, R1 d1 → Rz d2 → ∃ d, RvD K r d1 d2 d ∧ R d) : EvX K B (tOp r ta tb) ρ M p R := fun x f σ G H a Q q =>
  ha x f σ G H a _ fun v1 d1 x1 f1 G1 H1 a1 s1 h1 r1 => hb x1 f1 σ G1 H1 a1 _ fun v2 d2 x2 f2 G2 H2 a2 s2 h2 r2 => by
    obtain ⟨d, k1, k2⟩ := hr d1 d2 r1 r2
    exact k1 G2 H2 v1 v2 a2.now.gh (Dq.same s2 _ _ h1) h2 Q fun v G3 H3 s3 h3 => q v d x2 f2 G3 H3 (a2.stp s3) ((s1.trans s2).trans s3.g) h3 k2
theorem exa_nil : EvXA K B tNil ρ M p (fun ds => ds = []) := fun x f σ G H a Q q => q [] [] x f G H a (Same.refl _) .nil rfl
theorem exa_cons {tr : TA} (ha : EvX K B ta ρ M p R1) (hb : EvXA K B tr ρ M p RA) (hr : ∀ d ds, R1 d → RA ds → RB (d :: ds)) : EvXA K B (tCons ta tr) ρ M p RB := fun x f σ G H a Q q =>
  ha x f σ G H a _ fun v1 d1 x1 f1 G1 H1 a1 s1 h1 r1 => hb x1 f1 σ G1 H1 a1 _ fun vs ds x2 f2 G2 H2 a2 s2 h2 r2 =>
    q _ _ x2 f2 G2 H2 a2 (s1.trans s2) (.cons (Dq.same s2 _ _ h1) h2) (hr _ _ r1 r2)
theorem ex_lst (h : EvXA K B tA ρ M p RA) (hl : ∀ ds, RA ds → ds.length ≤ 10000000) : EvX K B (tLst tA) ρ M p (fun d => ∃ ds, d = .list ds ∧ RA ds) := fun x f σ G H a Q q =>
  h x f σ G H a _ fun vs ds x1 f1 G1 H1 a1 s1 h1 r1 => ⟨by rw [h1.len]; exact sqT_len_ok (hl ds r1), fun b hb => by
    have gb := none_of_same a1.now.gh hb
    have s2 := (Stp.newM (o := .lst vs) a1.now.gh hb).frz hb upd_same gb
    exact q _ _ x1 f1 _ _ (a1.stp s2) (s1.trans s2.g) (.lst upd_same (DqA.same s2.g _ _ h1)) ⟨ds, rfl, r1⟩⟩
/-! ### calls of defs that take a pen first -/
def spP (K : PySem.W.Frag) (S : List PD → (PD → Prop) → Prop) : Sp := fun vs H Q _ => ∃ p vs' G ds, vs = .ref p :: vs' ∧ Same G (rm H p) ∧ PenAt H p ∧ DqA K G vs' ds ∧ S ds (fun d => ∀ v G2 H2, Stp G (rm H p) G2 (rm H2 p) → PenAt H2 p → Dq K G2 v d → Q v H2)
theorem ex_callP {i : Nat} {S : List PD → (PD → Prop) → Prop} (hi : ρ[i]? = some (.r p)) (ha : EvXA K B tA ρ M p RA) (hS : ∀ ds, RA ds → ∀ R' : PD → Prop, (∀ d, R d → R' d) → S ds R') : EvX K B (tCall (spP K S) [] E0 (tCons (tVar i) tA)) ρ M p R := fun x f σ G H a Q q =>
  ⟨.ref p, now_r a.now hi, ha x f σ G H a _ fun vs ds x1 f1 G1 H1 a1 s1 h1 r1 => by
    obtain ⟨g1, g2, g3⟩ := a1.pen
    refine ⟨p, vs, G1, ds, by rw [List.append_nil], rm_of a1.now.gh g1, ⟨x1, f1, g2⟩, h1, hS ds r1 _ fun d hd v G2 H2 s hp hv => ?_⟩
    obtain ⟨x2, f2, hp⟩ := hp
    exact q v d x2 f2 G2 H2 (a1.stpP s hp) (s1.trans s.g) hv hd⟩
def RtP (K : PySem.W.Frag) (B : Bs) (p : Addr) (rt : VK) (R : PD → Prop) : Prop := ∀ v d x f G H, Stp B.G0 B.H0 G (rm H p) → H p = some (.lst [.int x, .int f]) → Dq K G v d → R d → rt v H
/-! ### statements -/
theorem st_retX (h : EvX K B te ρ M p R) (q : RtP K B p D.rt R) : ∀ x f, Nx K B (tRet te D) ρ ((p, pn x f) :: M) := fun x f σ G H a =>
  h x f σ G H a _ fun v d x' f' G2 H2 a2 sg hv hR => by
    obtain ⟨g1, g2, g3⟩ := a2.pen
    exact q v d x' f' G2 H2 ⟨a2.st.g, rm_of a2.st.h g3, rm_of a2.st.gh g1, a2.st.own⟩ g2 hv hR
theorem st_setX {i : Nat} (h : EvX K B te ρ M p R) (q : ∀ d, R d → ∀ x f, Nx K B D.nx (ρ.set i (.d d)) ((p, pn x f) :: M)) : ∀ x f, Nx K B (tAsg te (gName i) D) ρ ((p, pn x f) :: M) := fun x f σ G H a =>
  h x f σ G H a _ fun v d x' f' G2 H2 a2 sg hv hR => q d hR x' f' _ G2 H2 (a2.env (env_set (slD hv) i a2.now.env))
theorem st_parX {i j : Nat} (h : EvXA K B tA ρ M p RA) (w : ∀ ds, RA ds → ds.length = 2) (q : ∀ d1 d2, RA [d1, d2] → ∀ x f, Nx K B D.nx ((ρ.set i (.d d1)).set j (.d d2)) ((p, pn x f) :: M)) : ∀ x f, Nx K B (tPar i j tA D) ρ ((p, pn x f) :: M) := fun x f σ G H a =>
  h x f σ G H a _ fun vs ds x' f' G2 H2 a2 sg hv hR => by
    match ds, w ds hR with
    | [d1, d2], _ =>
      cases hv with
      | cons h1 h2 =>
        cases h2 with
        | cons h3 h4 =>
          cases h4
          exact ⟨_, _, rfl, q d1 d2 hR x' f' _ G2 H2 (a2.env (env_set (slD h3) j (env_set (slD h1) i a2.now.env)))⟩
theorem st_setIX {i : Nat} {b : Addr} {k : Int} {j : Nat} (hi : ρ[i]? = some (.r b)) (h : EvX K B te ρ ((b, ds) :: M) p R) (hk : ∀ x f, EvD K ti ρ ((p, pn x f) :: (b, ds) :: M) (.int k)) (hj : ixN ds.length k = some j)
    (q : ∀ d, R d → ∀ x f, Nx K B D.nx ρ ((p, pn x f) :: (b, ds.set j d) :: M)) : ∀ x f, Nx K B (tAsg te (gSub (tVar i) ti rSetL) D) ρ ((p, pn x f) :: (b, ds) :: M) := fun x f σ G H a =>
  h x f σ G H a _ fun v d x' f' G2 H2 a2 sg hv hR => ⟨.ref b, now_r a2.now hi, hk x' f' σ G2 H2 a2.now _ fun y G3 H3 s3 hy => by
    have a3 := a2.stp s3
    obtain ⟨hg, vs, hl, hd⟩ := a3.now.mm (b, ds) (List.mem_cons_of_mem _ List.mem_cons_self)
    exact ⟨b, vs, k, j, rfl, hy.int_inv, hl, by rw [hd.len]; exact hj, q d hR x' f' σ G3 _ (a3.swap.mut (hd.set j (Dq.same s3.g _ _ hv))).swap⟩⟩
/-- x = [.. for ..], the elements may draw -/
theorem st_setLcX {i : Nat} {items : List PD} (hw : ∀ x f, EvI K wi ρ ((p, pn x f) :: M) items) (hlen : items.length ≤ 10000000)
    (hs : ∀ (j : Nat) (d : PD), items[j]? = some d → ∃ is ρ1, (∀ k ∈ is, k ∈ vs) ∧ Tg K g is d (wipeR ρ vs) ρ1 ∧ ∀ M', EvX K B te ρ1 M' p R)
    (q : ∀ b ds, ds.length = items.length → (∀ d ∈ ds, R d) → ∀ x f, Nx K B D.nx (ρ.set i (.r b)) ((p, pn x f) :: (b, ds) :: M)) : ∀ x f, Nx K B (tAsg (tLc wi g tYes te vs) (gName i) D) ρ ((p, pn x f) :: M) := fun x f σ G H a => by
  show tLc wi g tYes te vs σ H _
  refine hw x f σ G H a.now _ fun J G2 H2 st w => fun b hb => ?_
  have a2 := a.stp st
  have gb := none_of_same st.gh hb
  have a0 : At K B ρ ((p, pn x f) :: (b, []) :: M) σ G2 (upd H2 b (.lst [])) := (a2.newM (Stp.newM (o := .lst []) st.gh hb) hb gb upd_same DqA.nil).swap
  refine ⟨fun j m H' => m = items.length - j ∧ j ≤ items.length ∧ ∃ G' ds x f, At K B ρ ((p, pn x f) :: (b, ds) :: M) σ G' H' ∧ Same G2 G' ∧ ds.length = j ∧ ∀ d ∈ ds, R d, ⟨items.length, by simp, Nat.zero_le _, G2, [], x, f, a0, Same.refl _, rfl, by simp⟩, ?_⟩
  rintro j m H' ⟨rfl, hj, G', ds, x, f, a', s', hl, hR⟩
  by_cases hlt : j < items.length
  · refine .inr ⟨w.go j G' H' s' a'.now.gh hlt, fun H'' => j + 1 ≤ items.length ∧ ∃ G' ds x f, At K B ρ ((p, pn x f) :: (b, ds) :: M) σ G' H'' ∧ Same G2 G' ∧ ds.length = j + 1 ∧ ∀ d ∈ ds, R d, fun H'' h'' => ⟨items.length - (j + 1), by omega, rfl, h''⟩, fun y H4 hy => ?_⟩
    obtain ⟨d, hdd⟩ : ∃ d, items[j]? = some d := ⟨items[j], by simp [hlt]⟩
    obtain ⟨G5, s5, d5⟩ := w.yld j G' H' y H4 d s' a'.now.gh hdd hy
    obtain ⟨is, ρ1, hv, tg, hev⟩ := hs j d hdd
    have a5 := a'.stp s5
    refine tg (wipe σ vs) G5 H4 y s5.gh (env_wipe a5.now.env vs) d5 _ fun σ2 e2 wp => ⟨?_, ?_⟩
    · rw [wp vs hv]
      apply List.ext_getElem?
      intro k
      rw [wipe_get, wipe_get, wipe_length]
      by_cases hk : k ∈ vs ∧ k < σ.length
      · rw [if_pos hk, if_pos hk]
      · rw [if_neg hk, if_neg hk]
    · have a6 : At K B ρ1 ((p, pn x f) :: (b, ds) :: M) σ2 G5 H4 := ⟨a5.st, a5.an, ⟨a5.now.gh, e2, a5.now.mm⟩, a5.fr, a5.nd⟩
      refine et_yes (K := K) (ρ := ρ1) (M := (p, pn x f) :: (b, ds) :: M) σ2 G5 H4 a6.now _ fun G6 H6 s6 => ?_
      refine hev _ x f σ2 G6 H6 (a6.stp s6) _ fun z e x' f' G7 H7 a7 s7 hz hRe => ?_
      obtain ⟨hg, ws, hlw, hdw⟩ := a7.now.mm (b, ds) (List.mem_cons_of_mem _ List.mem_cons_self)
      refine ⟨ws, hlw, ?_, hlt, G7, ds ++ [e], x', f', ?_, ((s'.trans s5.g).trans s6.g).trans s7, by rw [List.length_append, hl]; rfl, fun d hd => ?_⟩
      · rw [hdw.len, hl]
        exact sz_lt (by omega)
      · have a8 : At K B ρ ((p, pn x' f') :: (b, ds) :: M) σ G7 H7 := a7.env (env_same (s6.g.trans s7) a5.now.env)
        exact (a8.swap.mut (hdw.app (.cons hz .nil))).swap
      · rcases List.mem_append.mp hd with hd | hd
        · exact hR d hd
        · have : d = e := by simpa using hd
          rw [this]
          exact hRe
  · have e : j = items.length := by omega
    subst e
    exact .inl ⟨w.stop G' H' s' a'.now.gh, q b ds hl hR x f _ G' H' (a'.env (env_set (show SlOk K G' (some (.ref b)) (.r b) from rfl) i a'.now.env))⟩
end
theorem start_envP {K : PySem.W.Frag} {G : Hp} {N : List Str} {p : Addr} {vs : List V} {ds : List PD} (h : DqA K G vs ds) : Paired (SlOk K G) (L2.start N (.ref p :: vs)) (Sl.r p :: (ds.map Sl.d ++ List.replicate (N.length - (ds.length + 1)) Sl.no)) := by
  have h1 := start_env (N := N.tail) h
  unfold L2.start at h1 ⊢
  rw [List.length_tail] at h1
  rw [List.length_cons, List.map_cons, List.cons_append]
  rw [h.len] at h1 ⊢
  rw [show N.length - (ds.length + 1) = N.length - 1 - ds.length by omega]
  exact .cons rfl h1
theorem cal_ofP {P : Program} {w : World} {K : PySem.W.Frag} {mg : Str → Option Value} {base : Heap} {x : Str} {st : Stmt} {N ps : List Str} {k : Nat} {S : List PD → (PD → Prop) → Prop} (F : DefOk K mg x st)
    (hb : ∀ (kV doc pm : Value) (an : Option Addr) (cdv ct : Value) (us : List Value), us.length = ps.length → bindArgs (PySem.W.fnOf x x (defArgs st) (defBody st) (defScope st) .none kV doc pm an cdv ct) ⟨us, []⟩ = pure (ps.zip us))
    (sc : FnScope N ps (defScope st)) (len : ∀ ds R, S ds R → ds.length + 1 = ps.length)
    (body : ∀ (cdv : Value) (A : Around) (outer : List Env) (s : Shared) (H : Hp) (E : XK), Room k (A.deeper (envOfC x (defScope st) s.heap.objs.size (He.ga K x) cdv)) →
      ∃ t, PSs (cxOf CX0 P w K mg base N x (defScope st) (He.ga K x) cdv A outer s H E).nox (defBody st) t ∧
        ∀ G p ds vs R rt, Same G (rm H p) → DqA K G vs ds → S ds R → RtP K ⟨G, G, rm H p⟩ p rt R → ∀ y f, Nx K ⟨G, G, rm H p⟩ (t { nx := fun _ H' => rt .non H', rt := rt }) (Sl.r p :: (ds.map Sl.d ++ List.replicate (N.length - (ds.length + 1)) Sl.no)) [(p, pn y f)]) :
    C8.Cal P w K mg base (k + 1) x (spP K S) [] := by
  obtain ⟨fd, F1⟩ := F.fd
  refine ⟨He.ga K x, fd, ps, [], F1.ok sc (fun vs H Q E h => ?_) (fun cdv A outer s H vs Q E hr h => ?_), F.gl, F1.kp, F1.bindsN hb, .nil⟩
  · obtain ⟨p, vs', G, ds, rfl, _, _, h1, h2⟩ := h
    rw [List.length_cons, h1.len]
    exact len ds _ h2
  · obtain ⟨t, ht, q⟩ := body cdv A outer s H E hr
    obtain ⟨p, vs', G, ds, rfl, h0, ⟨y, f, hp⟩, h1, h2⟩ := h
    have gp : G p = none := none_of_same h0 rm_same
    have h00 : Same G H := h0.trans rm_le
    refine ⟨t, PSs.nox ht, q G p ds vs' _ Q h0 h1 h2 (fun v d x f G' H' st hp hd r => r v G' H' st ⟨x, f, hp⟩ hd) y f _ G H ⟨⟨Same.refl _, rm_le, h00, fun _ _ _ h => h⟩, Same.refl _, ⟨h00, start_envP h1, fun q hq => ?_⟩, fun q hq => ?_, by simp⟩⟩
    · have : q = (p, pn y f) := by simpa using hq
      subst this
      exact ⟨gp, _, hp, DqA.of_ints [y, f]⟩
    · have : q = (p, pn y f) := by simpa using hq
      subst this
      exact rm_same
/-! ### a def that makes a pen -/
def spN (K : PySem.W.Frag) : Sp := fun vs H Q _ => ∃ (c : Int) (G : Hp), vs = [.int c] ∧ Same G H ∧ ∀ p x f G2 H2, Stp G H G2 H2 → H p = none → G2 p = none → H2 p = some (.lst [.int x, .int f]) → Q (.ref p) H2
section
variable {K : PySem.W.Frag} {B : Bs} {ρ : List Sl} {M : Mt} {D : Ends} {tA : TA} {c : Int}
theorem st_setPen {i : Nat} (ha : EvA K tA ρ M [.int c]) (q : ∀ p x f, Nx K B D.nx (ρ.set i (.r p)) ((p, pn x f) :: M)) : Nx K B (tAsg (tCall (spN K) [] E0 tA) (gName i) D) ρ M := fun σ G H a =>
  ha σ G H a.now _ fun vs G1 H1 s1 h1 => by
    have e : vs = [.int c] := DqA.ints (ns := [c]) h1
    subst e
    refine ⟨c, G1, rfl, s1.gh, fun p x f G2 H2 s2 hp hg h2 => ?_⟩
    have a2 := (a.stp s1).newM s2 hp hg h2 (DqA.of_ints [x, f])
    exact q p x f _ G2 H2 (a2.env (env_set (show SlOk K G2 (some (.ref p)) (.r p) from rfl) i a2.now.env))
end
end Lc

namespace Lc
open PySem PySem.Spec PyProof.Rows L2 RZ

/-! data that == reads: no texts, not deep -/
structure Lay (k : Nat) (d : PD) : Prop where
  lay : d.canLay0 = true
  dep : d.depth ≤ k
theorem lay_int (i : Int) : Lay 0 (.int i) := ⟨by simp [PyData.canLay0], by simp [PyData.depth]⟩
theorem lay_bl (b : Bool) : Lay 0 (.bool b) := ⟨by simp [PyData.canLay0], by simp [PyData.depth]⟩
theorem layAll {k : Nat} : ∀ {ds : List PD}, (∀ d ∈ ds, Lay k d) → PyData.canLayAll0 ds = true ∧ PyData.depthAll ds ≤ k
  | [], _ => ⟨by simp [PyData.canLayAll0], by simp [PyData.depthAll]⟩
  | d :: ds, h => by
    have h1 := h d List.mem_cons_self
    have h2 := layAll fun x hx => h x (List.mem_cons_of_mem _ hx)
    refine ⟨by simp [PyData.canLayAll0, h1.lay, h2.1], ?_⟩
    rw [PyData.depthAll]
    exact Nat.max_le.mpr ⟨h1.dep, h2.2⟩
theorem lay_lst {k : Nat} {ds : List PD} (h : ∀ d ∈ ds, Lay k d) : Lay (k + 1) (.list ds) := ⟨by simp [PyData.canLay0, (layAll h).1], by
  rw [PyData.depth]
  exact Nat.succ_le_succ (layAll h).2⟩
theorem lay_tup {k : Nat} {ds : List PD} (h : ∀ d ∈ ds, Lay k d) : Lay (k + 1) (.tuple ds) := ⟨by simp [PyData.canLay0, (layAll h).1], by
  rw [PyData.depth]
  exact Nat.succ_le_succ (layAll h).2⟩
theorem Lay.mono {k m : Nat} {d : PD} (h : Lay k d) (hk : k ≤ m) : Lay m d := ⟨h.lay, Nat.le_trans h.dep hk⟩
theorem Lay.shp {k : Nat} {d : PD} (h : Lay k d) (hk : k ≤ 64) : SeqAt.shaped d = true := by
  unfold SeqAt.shaped
  rw [h.lay, decide_eq_true (Nat.le_trans h.dep hk)]
  rfl
theorem lay_pt (p : List Int) : Lay 1 (pt p) := lay_tup fun d hd => by
  obtain ⟨i, _, rfl⟩ := List.mem_map.mp hd
  exact lay_int i
theorem lay_fm (F : List (List Int)) : Lay 2 (fm F) := lay_tup fun d hd => by
  obtain ⟨i, _, rfl⟩ := List.mem_map.mp hd
  exact lay_pt i
theorem lay_pts (F : List (List Int)) : Lay 2 (.list (F.map pt)) := lay_lst fun d hd => by
  obtain ⟨i, _, rfl⟩ := List.mem_map.mp hd
  exact lay_pt i
theorem lay_ints (ns : List Int) : Lay 1 (.list (ns.map .int)) := lay_lst fun d hd => by
  obtain ⟨i, _, rfl⟩ := List.mem_map.mp hd
  exact lay_int i
theorem lay_fr (q : Rat) : Lay 1 (fr q) := lay_tup fun d hd => by
  rcases List.mem_cons.mp hd with e | hd
  · rw [e]; exact lay_int _
  · rcases List.mem_cons.mp hd with e | hd
    · rw [e]; exact lay_int _
    · exact nomatch hd
theorem dpo_fr (q : Rat) : Dpo (fr q) := dpo_tup fun d hd => by
  rcases List.mem_cons.mp hd with e | hd
  · rw [e]; exact dpo_int _
  · rcases List.mem_cons.mp hd with e | hd
    · rw [e]; exact dpo_int _
    · exact nomatch hd
theorem dpo_fm (F : List (List Int)) : Dpo (fm F) := dpo_tup fun d hd => by
  obtain ⟨i, _, rfl⟩ := List.mem_map.mp hd
  exact dpo_ints
theorem dpo_intL (ns : List Int) : Dpo (.list (ns.map .int)) := dpo_lst fun d hd => by
  obtain ⟨i, _, rfl⟩ := List.mem_map.mp hd
  exact dpo_int i
theorem eqv_ints (ns ms : List Int) : PyData.eqv (.list (ns.map .int)) (.list (ms.map .int)) = decide (ns = ms) := PySem.W.Datum.eqv ns ms
theorem eqv_pt (p q : List Int) : PyData.eqv (pt p) (pt q) = decide (p = q) := by
  refine (PySem.W.Datum.eqv (⟨p⟩ : PySem.W.Tup Int) ⟨q⟩).trans (decide_eq_decide.mpr ⟨fun e => ?_, fun e => by rw [e]⟩)
  exact PySem.W.Tup.mk.inj e
theorem rat_ext2 {p q : Rat} (h1 : p.num = q.num) (h2 : (p.den : Int) = q.den) : p = q := by
  apply Rat.ext h1
  omega
theorem eqv_fr (p q : Rat) : PyData.eqv (fr p) (fr q) = decide (p = q) := by
  refine (PySem.W.Datum.eqv ((p.num, (p.den : Int)) : Int × Int) (q.num, (q.den : Int))).trans (decide_eq_decide.mpr ⟨fun e => ?_, fun e => by rw [e]⟩)
  exact rat_ext2 (Prod.mk.inj e).1 (Prod.mk.inj e).2
theorem tup_map (F : List (List Int)) : F.map pt = (F.map fun p => (⟨p⟩ : PySem.W.Tup Int)).map PySem.W.Datum.toD := by
  rw [List.map_map]
  rfl
theorem tup_inj {F G : List (List Int)} (e : (F.map fun p => (⟨p⟩ : PySem.W.Tup Int)) = G.map fun p => ⟨p⟩) : F = G := by
  have := congrArg (List.map PySem.W.Tup.items) e
  rw [List.map_map, List.map_map] at this
  simpa [Function.comp_def] using this
theorem eqv_fm (F G : List (List Int)) : PyData.eqv (fm F) (fm G) = decide (F = G) := by
  have h : ∀ F : List (List Int), fm F = PySem.W.Datum.toD (⟨F.map fun p => (⟨p⟩ : PySem.W.Tup Int)⟩ : PySem.W.Tup (PySem.W.Tup Int)) := fun F => by
    show PyData.tuple (F.map pt) = _
    rw [tup_map]
    rfl
  rw [h, h, PySem.W.Datum.eqv]
  exact decide_eq_decide.mpr ⟨fun e => tup_inj (PySem.W.Tup.mk.inj e), fun e => by rw [e]⟩
theorem eqv_pts (l m : List (List Int)) : PyData.eqv (.list (l.map pt)) (.list (m.map pt)) = decide (l = m) := by
  rw [tup_map, tup_map]
  refine (PySem.W.Datum.eqv (l.map fun p => (⟨p⟩ : PySem.W.Tup Int)) _).trans (decide_eq_decide.mpr ⟨fun e => tup_inj e, fun e => by rw [e]⟩)
end Lc

namespace Lc
open PySem PySem.Spec PyProof.Rows L2 RZ
section
variable {P : Program} {w : World} {K : PySem.W.Frag} {mg : Str → Option Value} {base : Heap} {ρ : List Sl} {M : Mt} {tA : TA}
/-! ### is_whole -/
def S_is_whole (ds : List PD) (R : PD → Prop) : Prop := ∃ i : Int, ds = [.int i] ∧ R (.bool true)
abbrev N_is_whole : List Str := ["thing"]
theorem sc_is_whole : FnScope N_is_whole ["thing"] (defScope s_is_whole) := ⟨rfl, rfl, rfl, by decide +kernel, rfl, by decide +kernel, by decide +kernel⟩
theorem ok_is_whole (T : Tx K mg) : C8.Cal P w K mg base 1 "is_whole" (spF K S_is_whole) [] := by
  refine cal_of T.f_is_whole (fun _ _ _ _ _ _ us hl => match us, hl with | [_], _ => rfl) sc_is_whole (fun ds R h => ?_) (fun cdv A outer s H E hr => ⟨_, (pss_one (ps_ret (pe_and (pe_callB (isiK (K := K) rfl) (by rfl) T.b_isinstance (by decide +kernel) (pa_cons (pv 0) (pa_cons (pe_bltn (v := .ty "int") (by rfl) T.b_int (by decide +kernel) rfl) pa_nil))) (pe_one (pe_not (pe_callB (isiK (K := K) rfl) (by rfl) T.b_isinstance (by decide +kernel) (pa_cons (pv 0) (pa_cons (pe_bltn (v := .ty "bool") (by rfl) T.b_bool (by decide +kernel) rfl) pa_nil)))))))), fun G ds vs R kr hGH hds hS hrt => ?_⟩)
  · obtain ⟨i, rfl, _⟩ := h
    rfl
  · obtain ⟨i, rfl, hR⟩ := hS
    exact st_ret (ev_andV (ev_isi (b := true) (ev_var rfl) kit_ii) fun _ => ev_notV (ev_isi (b := false) (ev_var rfl) kit_ib)) hrt hR
theorem ev_is_whole {i : Int} (h : EvA K tA ρ M [.int i]) : EvD K (tCall (spF K S_is_whole) [] E0 tA) ρ M (.bool true) := ev_call h fun R r => ⟨i, rfl, r⟩
/-! ### are_wholes -/
def S_are_wholes (ds : List PD) (R : PD → Prop) : Prop := ∃ (ns : List Int) (n : Int), ds = [pt ns, .int n] ∧ ns.length ≤ 1000 ∧ R (.bool (decide ((ns.length : Int) = n)))
abbrev N_are_wholes : List Str := ["thing", "many", "one"]
theorem sc_are_wholes : FnScope N_are_wholes ["thing", "many"] (defScope s_are_wholes) := ⟨rfl, rfl, rfl, by decide +kernel, rfl, by decide +kernel, by decide +kernel⟩
theorem all_true {α : Type} (l : List α) : (l.map fun _ => true).all id = true := by simp
theorem ok_are_wholes (T : Tx K mg) : C8.Cal P w K mg base 2 "are_wholes" (spF K S_are_wholes) [] := by
  have c_is_whole := ok_is_whole (P := P) (w := w) (base := base) T
  refine cal_of T.f_are_wholes (fun _ _ _ _ _ _ us hl => match us, hl with | [_, _], _ => rfl) sc_are_wholes (fun ds R h => ?_) (fun cdv A outer s H E hr => ⟨_, (pss_cons (ps_if (PW.pt (pw_or (pt_not (pt_val (pe_callB (isiK (K := K) rfl) (by rfl) T.b_isinstance (by decide +kernel) (pa_cons (pv 0) (pa_cons (pe_bltn (v := .ty "tuple") (by rfl) T.b_tuple (by decide +kernel) rfl) pa_nil))))) (pw_or1 (pt_cmpR op_ne (pe_callB (lenK (K := K) rfl) (by rfl) T.b_len (by decide +kernel) (pa_cons (pv 0) pa_nil)) (pv 1) (nomark _))))) (pss_one (ps_ret pe_bl)) pss_nil)
      (pss_one (ps_ret (pe_callB (allK (K := K) rfl rfl) (by rfl) T.b_all (by decide +kernel) (pa_cons (pe_lc (own := [("one", 2)]) (g := (gName 2)) (tt := tYes) rfl sc_are_wholes.nd (pi_tupK (K := K) rfl (pv 0)) (blkOk_by (own := [("one", 2)]) (N := N_are_wholes) (sc := (defScope s_are_wholes)) (by decide +kernel)) (fun _ _ _ _ _ => (pg_name (i := 2) sc_are_wholes.nd rfl (Or.inl rfl))) (fun _ _ _ _ _ => pts_nil) (fun _ _ _ _ _ => (C8.pe_c c_is_whole hr (by first | decide | omega) (by rfl) (pa_cons (pv 2) pa_nil)))) pa_nil))))), fun G ds vs R kr hGH hds hS hrt => ?_⟩)
  · obtain ⟨ns, n, rfl, _⟩ := h
    rfl
  · obtain ⟨ns, n, rfl, hl, hR⟩ := hS
    refine st_seq (st_if (et_or (et_not (et_B (ev_isi (b := true) (ev_var rfl) kit_tt))) fun _ => et_test (ev_op (ev_cb (ea_cons (ev_var rfl) ea_nil) rc_lenT) (ev_var rfl) rv_ne)) (fun e => ?_) (fun e => ?_))
    · refine st_ret ev_bl hrt ?_
      simp at e
      rw [decide_eq_false e] at hR
      exact hR
    · simp at e
      rw [decide_eq_true e] at hR
      refine st_ret ((ev_cb (ea_cons (EvL.toD (EvL.is (el_map (fun _ => .bool true) (ei_tup (ev_var rfl)) (by simpa using Nat.le_trans hl (by decide)) fun i d hd => ?_) ?_)) ea_nil) (rc_all (bs := ns.map fun _ => true)))) hrt (by rw [all_true]; exact hR)
      · rw [List.getElem?_map] at hd
        cases q : ns[i]? with
        | none => rw [q] at hd; cases hd
        | some z =>
          rw [q] at hd
          cases hd
          exact ⟨_, _, by simp, tg_name, ev_is_whole (ea_cons (ev_var rfl) ea_nil)⟩
      · simp [Function.comp_def]
theorem ev_are_wholes {ns : List Int} {n : Int} (h : EvA K tA ρ M [pt ns, .int n]) (hl : ns.length ≤ 1000) (e : (ns.length : Int) = n) : EvD K (tCall (spF K S_are_wholes) [] E0 tA) ρ M (.bool true) :=
  ev_call h fun R r => ⟨ns, n, rfl, hl, by rw [decide_eq_true e]; exact r⟩
/-! ### common_part -/
def S_common_part (ds : List PD) (R : PD → Prop) : Prop := ∃ a b : Int, ds = [.int a, .int b] ∧ R (.int (Int.gcd a b : Nat))
abbrev N_common_part : List Str := ["one", "other"]
theorem sc_common_part : FnScope N_common_part ["one", "other"] (defScope s_common_part) := ⟨rfl, rfl, rfl, by decide +kernel, rfl, by decide +kernel, by decide +kernel⟩
theorem ok_common_part (T : Tx K mg) : C8.Cal P w K mg base 1 "common_part" (spF K S_common_part) [] := by
  refine cal_of T.f_common_part (fun _ _ _ _ _ _ us hl => match us, hl with | [_, _], _ => rfl) sc_common_part (fun ds R h => ?_) (fun cdv A outer s H E hr => ⟨_, (pss_cons (ps_par (i := 0) (j := 1) rfl sc_common_part.nd rfl rfl (by decide) rfl rfl (pa_cons (pe_callB call_abs (by rfl) T.b_abs (by decide +kernel) (pa_cons (pv 0) pa_nil)) (pa_cons (pe_callB call_abs (by rfl) T.b_abs (by decide +kernel) (pa_cons (pv 1) pa_nil)) pa_nil)) (by rfl))
      (pss_cons (ps_while PassesOwn.never (pt_cmpR op_gt (pv 1) pe_int (nomark _)) (pss_one (ps_par (i := 0) (j := 1) rfl sc_common_part.nd rfl rfl (by decide) rfl rfl (pa_cons (pv 1) (pa_cons (pe_op op_mod (pv 0) (pv 1)) pa_nil)) (by rfl))))
      (pss_one (ps_ret (pv 0))))), fun G ds vs R kr hGH hds hS hrt => ?_⟩)
  · obtain ⟨a, b, rfl, _⟩ := h
    rfl
  · obtain ⟨a, b, rfl, hR⟩ := hS
    refine st_seq (st_par (ea_cons (ev_cb (ea_cons (ev_var rfl) ea_nil) rc_abs) (ea_cons (ev_cb (ea_cons (ev_var rfl) ea_nil) rc_abs) ea_nil)) ?_)
    have ab : ∀ i : Int, (if i < 0 then -i else i) = (i.natAbs : Int) := fun i => by split <;> omega
    rw [ab, ab]
    refine st_seq (st_while (S := Nat × Nat) (fun q => Nat.gcd q.1 q.2 = Int.gcd a b) (fun q => [.d (.int q.1), .d (.int q.2)]) (fun _ => []) (fun q => q.2) (fun q => decide (0 < (q.2 : Int))) (a.natAbs, b.natAbs) rfl Wkn.rfl rfl (fun q _ => et_test (ev_op (ev_var rfl) ev_int rv_IB)) (fun q hq e N hN => ?_) (fun q hq e => ?_))
    · have e1 : 0 < (q.2 : Int) := of_decide_eq_true e
      refine st_par (ea_cons (ev_var rfl) (ea_cons (ev_op (ev_var rfl) (ev_var rfl) (rv_IC e1)) ea_nil)) ?_
      have e2 : ((q.1 : Int) % (q.2 : Int)) = ((q.1 % q.2 : Nat) : Int) := by simp
      rw [e2]
      refine hN (q.2, q.1 % q.2) ?_ (Nat.mod_lt _ (by omega))
      show Nat.gcd q.2 (q.1 % q.2) = _
      rw [← hq, Nat.gcd_comm, ← Nat.gcd_rec, Nat.gcd_comm]
    · have e1 : ¬ 0 < (q.2 : Int) := of_decide_eq_false e
      have e2 : q.2 = 0 := by omega
      refine st_ret (ev_var rfl) hrt ?_
      rw [e2, Nat.gcd_zero_right] at hq
      rw [hq]
      exact hR
theorem ev_common_part {a b : Int} (h : EvA K tA ρ M [.int a, .int b]) : EvD K (tCall (spF K S_common_part) [] E0 tA) ρ M (.int (Int.gcd a b : Nat)) := ev_call h fun R r => ⟨a, b, rfl, r⟩
/-! ### fit -/
def S_fit (ds : List PD) (R : PD → Prop) : Prop := ∃ a b : Int, ds = [.int a, .int b] ∧ 0 < b ∧ b.natAbs < 2 ^ 8999 ∧ R (fr (Rat.divInt a b))
abbrev N_fit : List Str := ["top", "bottom", "part"]
theorem sc_fit : FnScope N_fit ["top", "bottom"] (defScope s_fit) := ⟨rfl, rfl, rfl, by decide +kernel, rfl, by decide +kernel, by decide +kernel⟩
theorem ok_fit (T : Tx K mg) : C8.Cal P w K mg base 2 "fit" (spF K S_fit) [] := by
  have c_common_part := ok_common_part (P := P) (w := w) (base := base) T
  refine cal_of T.f_fit (fun _ _ _ _ _ _ us hl => match us, hl with | [_, _], _ => rfl) sc_fit (fun ds R h => ?_) (fun cdv A outer s H E hr => ⟨_, (pss_cons (ps_set (i := 2) sc_fit.nd rfl (Or.inl rfl) (C8.pe_c c_common_part hr (by first | decide | omega) (by rfl) (pa_cons (pv 0) (pa_cons (pv 1) pa_nil))))
      (pss_cons (ps_if (pt_cmpR op_lt (pv 1) pe_int (nomark _)) (pss_one (ps_set (i := 2) sc_fit.nd rfl (Or.inl rfl) (pe_op op_sub pe_int (pv 2)))) pss_nil)
      (pss_one (ps_ret (pe_tup (pa_cons (pe_op op_fdivW (pv 0) (pv 2)) (pa_cons (pe_op op_fdivW (pv 1) (pv 2)) pa_nil))))))), fun G ds vs R kr hGH hds hS hrt => ?_⟩)
  · obtain ⟨a, b, rfl, _⟩ := h
    rfl
  · obtain ⟨a, b, rfl, h0, h1, hR⟩ := hS
    refine st_seq (st_set (ev_common_part (ea_cons (ev_var rfl) (ea_cons (ev_var rfl) ea_nil))) (st_seq (st_if (et_test (ev_op (ev_var rfl) ev_int rv_IB)) (fun e => ?_) (fun e => ?_))))
    · have := of_decide_eq_true e
      omega
    · have g0 : 0 < Int.gcd a b := Int.gcd_pos_of_ne_zero_right _ (by omega)
      have gl : Int.gcd a b ≤ b.natAbs := Nat.le_of_dvd (by omega) (Nat.gcd_dvd_right _ _)
      have gp : ((Int.gcd a b : Nat) : Int).natAbs < 2 ^ 8999 := by
        show Int.gcd a b < 2 ^ 8999
        exact Nat.lt_of_le_of_lt gl h1
      have c : ∀ i : Int, CDivW i ((Int.gcd a b : Nat) : Int) := fun i => cdiv (by omega) gp (Nat.le_refl _)
      refine st_nil (st_ret (EvD.is (ev_tup (ea_cons (ev_op (ev_var rfl) (ev_var rfl) (rv_IC (c _))) (ea_cons (ev_op (ev_var rfl) (ev_var rfl) (rv_IC (c _))) ea_nil)) (by simp)) ?_) hrt hR)
      unfold fr
      rw [Rat.num_divInt, Rat.den_divInt, if_neg (by omega), Int.sign_eq_one_of_pos h0, Int.one_mul, Int.gcd_comm b a]
      have e3 : ((b.natAbs / Int.gcd a b : Nat) : Int) = b / ((Int.gcd a b : Nat) : Int) := by
        rw [Int.natCast_ediv, Int.natAbs_of_nonneg (by omega)]
      rw [e3]
theorem ev_fit {a b : Int} (h : EvA K tA ρ M [.int a, .int b]) (h0 : 0 < b) (h1 : b.natAbs < 2 ^ 8999) : EvD K (tCall (spF K S_fit) [] E0 tA) ρ M (fr (Rat.divInt a b)) := ev_call h fun R r => ⟨a, b, rfl, h0, h1, r⟩
/-! ### is_fraction (of nought) -/
def S_is_fraction (ds : List PD) (R : PD → Prop) : Prop := ds = [fr 0] ∧ R (.bool true)
abbrev N_is_fraction : List Str := ["thing"]
theorem sc_is_fraction : FnScope N_is_fraction ["thing"] (defScope s_is_fraction) := ⟨rfl, rfl, rfl, by decide +kernel, rfl, by decide +kernel, by decide +kernel⟩
theorem ok_is_fraction (T : Tx K mg) : C8.Cal P w K mg base 3 "is_fraction" (spF K S_is_fraction) [] := by
  have c_common_part := ok_common_part (P := P) (w := w) (base := base) T
  have c_are_wholes := ok_are_wholes (P := P) (w := w) (base := base) T
  refine cal_of T.f_is_fraction (fun _ _ _ _ _ _ us hl => match us, hl with | [_], _ => rfl) sc_is_fraction (fun ds R h => ?_) (fun cdv A outer s H E hr => ⟨_, (pss_cons (ps_if (PW.pt (pw_or (pt_not (pt_val (C8.pe_c c_are_wholes hr (by first | decide | omega) (by rfl) (pa_cons (pv 0) (pa_cons pe_int pa_nil))))) (pw_or1 (pt_cmpR op_lt (pe_ix (ix_tupK (K := K) rfl) (pv 0) pe_int (fun _ _ => rfl)) pe_int (nomark _))))) (pss_one (ps_ret pe_bl)) pss_nil)
      (pss_one (ps_ret (pe_cmpR op_eq (C8.pe_c c_common_part hr (by first | decide | omega) (by rfl) (pa_cons (pe_ix (ix_tupK (K := K) rfl) (pv 0) pe_int (fun _ _ => rfl)) (pa_cons (pe_ix (ix_tupK (K := K) rfl) (pv 0) pe_int (fun _ _ => rfl)) pa_nil))) pe_int (nomark _))))), fun G ds vs R kr hGH hds hS hrt => ?_⟩)
  · obtain ⟨rfl, _⟩ := h
    rfl
  · obtain ⟨rfl, hR⟩ := hS
    have hv : EvD K (tVar 0) [.d (fr 0)] [] (pt [0, 1]) := ev_var rfl
    refine st_seq (st_if (et_or (et_not (et_B (ev_are_wholes (ns := [0, 1]) (n := 2) (ea_cons hv (ea_cons ev_int ea_nil)) (by decide) rfl))) fun _ => et_test (ev_op (ev_op hv ev_int (rv_ixT rfl)) ev_int rv_IB)) (fun e => by cases e) (fun e => ?_))
    exact st_nil (st_ret (EvD.is (ev_op (ev_common_part (a := 0) (b := 1) (ea_cons (ev_op hv ev_int (rv_ixT rfl)) (ea_cons (ev_op hv ev_int (rv_ixT rfl)) ea_nil))) ev_int rv_eq) rfl) hrt hR)
theorem ev_is_fraction (h : EvA K tA ρ M [fr 0]) : EvD K (tCall (spF K S_is_fraction) [] E0 tA) ρ M (.bool true) := ev_call h fun R r => ⟨rfl, r⟩
/-! ### plus, minus, times, over, is_less -/
def S_plus (ds : List PD) (R : PD → Prop) : Prop := ∃ (p q : Rat) (n m : Nat), ds = [fr p, fr q] ∧ Sz n p ∧ Sz m q ∧ n + m ≤ 8999 ∧ R (fr (p + q))
def S_minus (ds : List PD) (R : PD → Prop) : Prop := ∃ (p q : Rat) (n m : Nat), ds = [fr p, fr q] ∧ Sz n p ∧ Sz m q ∧ n + m ≤ 8999 ∧ R (fr (p - q))
def S_times (ds : List PD) (R : PD → Prop) : Prop := ∃ (p q : Rat) (n m : Nat), ds = [fr p, fr q] ∧ Sz n p ∧ Sz m q ∧ n + m ≤ 8999 ∧ R (fr (p * q))
def S_over (ds : List PD) (R : PD → Prop) : Prop := ∃ (p q : Rat) (n m : Nat), ds = [fr p, fr q] ∧ Sz n p ∧ Sz m q ∧ n + m ≤ 8999 ∧ 0 < q ∧ R (fr (p / q))
def S_is_less (ds : List PD) (R : PD → Prop) : Prop := ∃ (p q : Rat) (n m : Nat), ds = [fr p, fr q] ∧ Sz n p ∧ Sz m q ∧ n + m ≤ 8999 ∧ R (.bool (decide (p < q)))
theorem den_abs (q : Rat) : ((q.den : Int)).natAbs = q.den := rfl
theorem pw_le {a n m : Nat} (h : a < 2 ^ n) (hm : n ≤ m) : a < 2 ^ m := Nat.lt_of_lt_of_le h (Nat.pow_le_pow_right (by decide) hm)
abbrev N_plus : List Str := ["one", "other"]
theorem sc_plus : FnScope N_plus ["one", "other"] (defScope s_plus) := ⟨rfl, rfl, rfl, by decide +kernel, rfl, by decide +kernel, by decide +kernel⟩
theorem ok_plus (T : Tx K mg) : C8.Cal P w K mg base 3 "plus" (spF K S_plus) [] := by
  have c_fit := ok_fit (P := P) (w := w) (base := base) T
  refine cal_of T.f_plus (fun _ _ _ _ _ _ us hl => match us, hl with | [_, _], _ => rfl) sc_plus (fun ds R h => ?_) (fun cdv A outer s H E hr => ⟨_, (pss_one (ps_ret (C8.pe_c c_fit hr (by first | decide | omega) (by rfl) (pa_cons (pe_op op_add (pe_op op_mulW (pe_ix (ix_tupK (K := K) rfl) (pv 0) pe_int (fun _ _ => rfl)) (pe_ix (ix_tupK (K := K) rfl) (pv 1) pe_int (fun _ _ => rfl))) (pe_op op_mulW (pe_ix (ix_tupK (K := K) rfl) (pv 1) pe_int (fun _ _ => rfl)) (pe_ix (ix_tupK (K := K) rfl) (pv 0) pe_int (fun _ _ => rfl)))) (pa_cons (pe_op op_mulW (pe_ix (ix_tupK (K := K) rfl) (pv 0) pe_int (fun _ _ => rfl)) (pe_ix (ix_tupK (K := K) rfl) (pv 1) pe_int (fun _ _ => rfl))) pa_nil))))), fun G ds vs R kr hGH hds hS hrt => ?_⟩)
  · obtain ⟨p, q, n, m, rfl, _⟩ := h
    rfl
  · obtain ⟨p, q, n, m, rfl, hp, hq, hnm, hR⟩ := hS
    have v0 : EvD K (tVar 0) [.d (fr p), .d (fr q)] [] (.tuple [.int p.num, .int (p.den : Int)]) := ev_var rfl
    have v1 : EvD K (tVar 1) [.d (fr p), .d (fr q)] [] (.tuple [.int q.num, .int (q.den : Int)]) := ev_var rfl
    refine st_ret (EvD.is (ev_fit (ea_cons (ev_op (ev_op (ev_op v0 ev_int (rv_ixT rfl)) (ev_op v1 ev_int (rv_ixT rfl)) (rv_IC (cmul hp.num hq.den (by omega)))) (ev_op (ev_op v1 ev_int (rv_ixT rfl)) (ev_op v0 ev_int (rv_ixT rfl)) (rv_IC (cmul hq.num hp.den (by omega)))) rv_II)
      (ea_cons (ev_op (ev_op v0 ev_int (rv_ixT rfl)) (ev_op v1 ev_int (rv_ixT rfl)) (rv_IC (cmul hp.den hq.den (by omega)))) ea_nil)) (denI_pos p q) (pw_le (hp.denI hq) hnm)) (congrArg fr (add_parts p q))) hrt hR
theorem ev_plus {p q : Rat} {n m : Nat} (h : EvA K tA ρ M [fr p, fr q]) (hp : Sz n p) (hq : Sz m q) (hnm : n + m ≤ 8999) : EvD K (tCall (spF K S_plus) [] E0 tA) ρ M (fr (p + q)) := ev_call h fun R r => ⟨p, q, n, m, rfl, hp, hq, hnm, r⟩
abbrev N_minus : List Str := ["one", "other"]
theorem sc_minus : FnScope N_minus ["one", "other"] (defScope s_minus) := ⟨rfl, rfl, rfl, by decide +kernel, rfl, by decide +kernel, by decide +kernel⟩
theorem ok_minus (T : Tx K mg) : C8.Cal P w K mg base 3 "minus" (spF K S_minus) [] := by
  have c_fit := ok_fit (P := P) (w := w) (base := base) T
  refine cal_of T.f_minus (fun _ _ _ _ _ _ us hl => match us, hl with | [_, _], _ => rfl) sc_minus (fun ds R h => ?_) (fun cdv A outer s H E hr => ⟨_, (pss_one (ps_ret (C8.pe_c c_fit hr (by first | decide | omega) (by rfl) (pa_cons (pe_op op_sub (pe_op op_mulW (pe_ix (ix_tupK (K := K) rfl) (pv 0) pe_int (fun _ _ => rfl)) (pe_ix (ix_tupK (K := K) rfl) (pv 1) pe_int (fun _ _ => rfl))) (pe_op op_mulW (pe_ix (ix_tupK (K := K) rfl) (pv 1) pe_int (fun _ _ => rfl)) (pe_ix (ix_tupK (K := K) rfl) (pv 0) pe_int (fun _ _ => rfl)))) (pa_cons (pe_op op_mulW (pe_ix (ix_tupK (K := K) rfl) (pv 0) pe_int (fun _ _ => rfl)) (pe_ix (ix_tupK (K := K) rfl) (pv 1) pe_int (fun _ _ => rfl))) pa_nil))))), fun G ds vs R kr hGH hds hS hrt => ?_⟩)
  · obtain ⟨p, q, n, m, rfl, _⟩ := h
    rfl
  · obtain ⟨p, q, n, m, rfl, hp, hq, hnm, hR⟩ := hS
    have v0 : EvD K (tVar 0) [.d (fr p), .d (fr q)] [] (.tuple [.int p.num, .int (p.den : Int)]) := ev_var rfl
    have v1 : EvD K (tVar 1) [.d (fr p), .d (fr q)] [] (.tuple [.int q.num, .int (q.den : Int)]) := ev_var rfl
    refine st_ret (EvD.is (ev_fit (ea_cons (ev_op (ev_op (ev_op v0 ev_int (rv_ixT rfl)) (ev_op v1 ev_int (rv_ixT rfl)) (rv_IC (cmul hp.num hq.den (by omega)))) (ev_op (ev_op v1 ev_int (rv_ixT rfl)) (ev_op v0 ev_int (rv_ixT rfl)) (rv_IC (cmul hq.num hp.den (by omega)))) rv_II)
      (ea_cons (ev_op (ev_op v0 ev_int (rv_ixT rfl)) (ev_op v1 ev_int (rv_ixT rfl)) (rv_IC (cmul hp.den hq.den (by omega)))) ea_nil)) (denI_pos p q) (pw_le (hp.denI hq) hnm)) (congrArg fr (sub_parts p q))) hrt hR
theorem ev_minus {p q : Rat} {n m : Nat} (h : EvA K tA ρ M [fr p, fr q]) (hp : Sz n p) (hq : Sz m q) (hnm : n + m ≤ 8999) : EvD K (tCall (spF K S_minus) [] E0 tA) ρ M (fr (p - q)) := ev_call h fun R r => ⟨p, q, n, m, rfl, hp, hq, hnm, r⟩
abbrev N_times : List Str := ["one", "other"]
theorem sc_times : FnScope N_times ["one", "other"] (defScope s_times) := ⟨rfl, rfl, rfl, by decide +kernel, rfl, by decide +kernel, by decide +kernel⟩
theorem ok_times (T : Tx K mg) : C8.Cal P w K mg base 3 "times" (spF K S_times) [] := by
  have c_fit := ok_fit (P := P) (w := w) (base := base) T
  refine cal_of T.f_times (fun _ _ _ _ _ _ us hl => match us, hl with | [_, _], _ => rfl) sc_times (fun ds R h => ?_) (fun cdv A outer s H E hr => ⟨_, (pss_one (ps_ret (C8.pe_c c_fit hr (by first | decide | omega) (by rfl) (pa_cons (pe_op op_mulW (pe_ix (ix_tupK (K := K) rfl) (pv 0) pe_int (fun _ _ => rfl)) (pe_ix (ix_tupK (K := K) rfl) (pv 1) pe_int (fun _ _ => rfl))) (pa_cons (pe_op op_mulW (pe_ix (ix_tupK (K := K) rfl) (pv 0) pe_int (fun _ _ => rfl)) (pe_ix (ix_tupK (K := K) rfl) (pv 1) pe_int (fun _ _ => rfl))) pa_nil))))), fun G ds vs R kr hGH hds hS hrt => ?_⟩)
  · obtain ⟨p, q, n, m, rfl, _⟩ := h
    rfl
  · obtain ⟨p, q, n, m, rfl, hp, hq, hnm, hR⟩ := hS
    have v0 : EvD K (tVar 0) [.d (fr p), .d (fr q)] [] (.tuple [.int p.num, .int (p.den : Int)]) := ev_var rfl
    have v1 : EvD K (tVar 1) [.d (fr p), .d (fr q)] [] (.tuple [.int q.num, .int (q.den : Int)]) := ev_var rfl
    refine st_ret (EvD.is (ev_fit (ea_cons (ev_op (ev_op v0 ev_int (rv_ixT rfl)) (ev_op v1 ev_int (rv_ixT rfl)) (rv_IC (cmul hp.num hq.num (by omega))))
      (ea_cons (ev_op (ev_op v0 ev_int (rv_ixT rfl)) (ev_op v1 ev_int (rv_ixT rfl)) (rv_IC (cmul hp.den hq.den (by omega)))) ea_nil)) (denI_pos p q) (pw_le (hp.denI hq) hnm)) (congrArg fr (mul_parts p q))) hrt hR
theorem ev_times {p q : Rat} {n m : Nat} (h : EvA K tA ρ M [fr p, fr q]) (hp : Sz n p) (hq : Sz m q) (hnm : n + m ≤ 8999) : EvD K (tCall (spF K S_times) [] E0 tA) ρ M (fr (p * q)) := ev_call h fun R r => ⟨p, q, n, m, rfl, hp, hq, hnm, r⟩
abbrev N_over : List Str := ["one", "other"]
theorem sc_over : FnScope N_over ["one", "other"] (defScope s_over) := ⟨rfl, rfl, rfl, by decide +kernel, rfl, by decide +kernel, by decide +kernel⟩
theorem ok_over (T : Tx K mg) : C8.Cal P w K mg base 3 "over" (spF K S_over) [] := by
  have c_fit := ok_fit (P := P) (w := w) (base := base) T
  refine cal_of T.f_over (fun _ _ _ _ _ _ us hl => match us, hl with | [_, _], _ => rfl) sc_over (fun ds R h => ?_) (fun cdv A outer s H E hr => ⟨_, (pss_one (ps_ret (C8.pe_c c_fit hr (by first | decide | omega) (by rfl) (pa_cons (pe_op op_mulW (pe_ix (ix_tupK (K := K) rfl) (pv 0) pe_int (fun _ _ => rfl)) (pe_ix (ix_tupK (K := K) rfl) (pv 1) pe_int (fun _ _ => rfl))) (pa_cons (pe_op op_mulW (pe_ix (ix_tupK (K := K) rfl) (pv 0) pe_int (fun _ _ => rfl)) (pe_ix (ix_tupK (K := K) rfl) (pv 1) pe_int (fun _ _ => rfl))) pa_nil))))), fun G ds vs R kr hGH hds hS hrt => ?_⟩)
  · obtain ⟨p, q, n, m, rfl, _⟩ := h
    rfl
  · obtain ⟨p, q, n, m, rfl, hp, hq, hnm, h0, hR⟩ := hS
    have v0 : EvD K (tVar 0) [.d (fr p), .d (fr q)] [] (.tuple [.int p.num, .int (p.den : Int)]) := ev_var rfl
    have v1 : EvD K (tVar 1) [.d (fr p), .d (fr q)] [] (.tuple [.int q.num, .int (q.den : Int)]) := ev_var rfl
    refine st_ret (EvD.is (ev_fit (ea_cons (ev_op (ev_op v0 ev_int (rv_ixT rfl)) (ev_op v1 ev_int (rv_ixT rfl)) (rv_IC (cmul hp.num hq.den (by omega))))
      (ea_cons (ev_op (ev_op v0 ev_int (rv_ixT rfl)) (ev_op v1 ev_int (rv_ixT rfl)) (rv_IC (cmul hp.den hq.num (by omega)))) ea_nil)) (Int.mul_pos (den_pos p) (num_pos h0)) (pw_le (by rw [Int.natAbs_mul]; exact pow_mul_lt hp.den hq.num) hnm)) (congrArg fr (div_parts p q))) hrt hR
theorem ev_over {p q : Rat} {n m : Nat} (h : EvA K tA ρ M [fr p, fr q]) (hp : Sz n p) (hq : Sz m q) (hnm : n + m ≤ 8999) (h0 : 0 < q) : EvD K (tCall (spF K S_over) [] E0 tA) ρ M (fr (p / q)) := ev_call h fun R r => ⟨p, q, n, m, rfl, hp, hq, hnm, h0, r⟩
abbrev N_is_less : List Str := ["one", "other"]
theorem sc_is_less : FnScope N_is_less ["one", "other"] (defScope s_is_less) := ⟨rfl, rfl, rfl, by decide +kernel, rfl, by decide +kernel, by decide +kernel⟩
theorem ok_is_less (T : Tx K mg) : C8.Cal P w K mg base 1 "is_less" (spF K S_is_less) [] := by
  refine cal_of T.f_is_less (fun _ _ _ _ _ _ us hl => match us, hl with | [_, _], _ => rfl) sc_is_less (fun ds R h => ?_) (fun cdv A outer s H E hr => ⟨_, (pss_one (ps_ret (pe_cmpR op_lt (pe_op op_mulW (pe_ix (ix_tupK (K := K) rfl) (pv 0) pe_int (fun _ _ => rfl)) (pe_ix (ix_tupK (K := K) rfl) (pv 1) pe_int (fun _ _ => rfl))) (pe_op op_mulW (pe_ix (ix_tupK (K := K) rfl) (pv 1) pe_int (fun _ _ => rfl)) (pe_ix (ix_tupK (K := K) rfl) (pv 0) pe_int (fun _ _ => rfl))) (nomark _)))), fun G ds vs R kr hGH hds hS hrt => ?_⟩)
  · obtain ⟨p, q, n, m, rfl, _⟩ := h
    rfl
  · obtain ⟨p, q, n, m, rfl, hp, hq, hnm, hR⟩ := hS
    have v0 : EvD K (tVar 0) [.d (fr p), .d (fr q)] [] (.tuple [.int p.num, .int (p.den : Int)]) := ev_var rfl
    have v1 : EvD K (tVar 1) [.d (fr p), .d (fr q)] [] (.tuple [.int q.num, .int (q.den : Int)]) := ev_var rfl
    refine st_ret (EvD.is (ev_op (ev_op (ev_op v0 ev_int (rv_ixT rfl)) (ev_op v1 ev_int (rv_ixT rfl)) (rv_IC (cmul hp.num hq.den (by omega))))
      (ev_op (ev_op v1 ev_int (rv_ixT rfl)) (ev_op v0 ev_int (rv_ixT rfl)) (rv_IC (cmul hq.num hp.den (by omega)))) rv_IB) (congrArg PyData.bool (decide_eq_decide.mpr (lt_parts p q)))) hrt hR
theorem ev_is_less {p q : Rat} {n m : Nat} (h : EvA K tA ρ M [fr p, fr q]) (hp : Sz n p) (hq : Sz m q) (hnm : n + m ≤ 8999) : EvD K (tCall (spF K S_is_less) [] E0 tA) ρ M (.bool (decide (p < q))) := ev_call h fun R r => ⟨p, q, n, m, rfl, hp, hq, hnm, r⟩
end
end Lc

namespace Lc
open PySem PySem.Spec PyProof.Rows L2 RZ
section
variable {P : Program} {w : World} {K : PySem.W.Frag} {mg : Str → Option Value} {base : Heap} {ρ : List Sl} {M : Mt} {tA : TA}
/-! ### summed -/
def sumQ (qs : List Rat) : Rat := qs.foldl (· + ·) 0
theorem sumQ_take {qs : List Rat} {i : Nat} {q : Rat} (h : qs[i]? = some q) : sumQ (qs.take (i + 1)) = sumQ (qs.take i) + q := by
  unfold sumQ
  rw [List.take_add_one, h, List.foldl_append]
  rfl
def S_summed (ds : List PD) (R : PD → Prop) : Prop := ∃ (qs : List Rat) (n : Nat), ds = [.list (qs.map fr)] ∧ (∀ q ∈ qs, Sz n q) ∧ (∀ k, Sz n (sumQ (qs.take k))) ∧ n + n ≤ 8999 ∧ R (fr (sumQ qs))
abbrev N_summed : List Str := ["some", "found", "one"]
theorem sc_summed : FnScope N_summed ["some"] (defScope s_summed) := ⟨rfl, rfl, rfl, by decide +kernel, rfl, by decide +kernel, by decide +kernel⟩
theorem map_get {α : Type} {f : α → PD} {l : List α} {i : Nat} {d : PD} (h : (l.map f)[i]? = some d) : ∃ a, l[i]? = some a ∧ d = f a := by
  rw [List.getElem?_map] at h
  cases q : l[i]? with
  | none => rw [q] at h; cases h
  | some z => rw [q] at h; exact ⟨z, rfl, (Option.some.inj h).symm⟩
theorem ok_summed (T : Tx K mg) : C8.Cal P w K mg base 4 "summed" (spF K S_summed) [] := by
  have c_plus := ok_plus (P := P) (w := w) (base := base) T
  refine cal_of T.f_summed (fun _ _ _ _ _ _ us hl => match us, hl with | [_], _ => rfl) sc_summed (fun ds R h => ?_) (fun cdv A outer s H E hr => ⟨_, (pss_cons (ps_set (i := 1) sc_summed.nd rfl (Or.inl rfl) (pe_tup (pa_cons pe_int (pa_cons pe_int pa_nil))))
      (pss_cons (ps_for PassesOwn.never rfl (pi_listK (K := K) rfl (pv 0)) (pg_name (i := 2) sc_summed.nd rfl (Or.inl rfl)) (pss_one (ps_set (i := 1) sc_summed.nd rfl (Or.inl rfl) (C8.pe_c c_plus hr (by first | decide | omega) (by rfl) (pa_cons (pv 1) (pa_cons (pv 2) pa_nil))))))
      (pss_one (ps_ret (pv 1))))), fun G ds vs R kr hGH hds hS hrt => ?_⟩)
  · obtain ⟨qs, n, rfl, _⟩ := h
    rfl
  · obtain ⟨qs, n, rfl, h1, h2, h3, hR⟩ := hS
    refine st_seq (st_set (EvD.is (ev_tup (ea_cons ev_int (ea_cons ev_int ea_nil)) (by decide)) fr0) (st_seq (st_for (fun i => [.d (.list (qs.map fr)), .d (fr (sumQ (qs.take i))), .no]) (fun _ => []) (ei_list (ev_var rfl)) (by repeat' (first | exact True.intro | exact Or.inr rfl | exact Or.inl rfl | refine And.intro ?_ ?_)) rfl (fun A i d hd N hN => ?_) ?_)))
    · obtain ⟨q, hq, rfl⟩ := map_get hd
      refine ⟨_, _, tg_name, st_set (ev_plus (ea_cons (ev_var rfl) (ea_cons (ev_var rfl) ea_nil)) (h2 i) (h1 q (List.mem_of_getElem? hq)) h3) ?_⟩
      rw [← sumQ_take hq]
      exact hN.wkn (by repeat' (first | exact True.intro | exact Or.inr rfl | exact Or.inl rfl | refine And.intro ?_ ?_))
    · refine st_ret (ev_var rfl) hrt ?_
      rw [List.length_map, List.take_length]
      exact hR
theorem ev_summed {qs : List Rat} {n : Nat} (h : EvA K tA ρ M [.list (qs.map fr)]) (h1 : ∀ q ∈ qs, Sz n q) (h2 : ∀ k, Sz n (sumQ (qs.take k))) (h3 : n + n ≤ 8999) : EvD K (tCall (spF K S_summed) [] E0 tA) ρ M (fr (sumQ qs)) := ev_call h fun R r => ⟨qs, n, rfl, h1, h2, h3, r⟩
/-! ### root -/
def S_root (ds : List PD) (R : PD → Prop) : Prop := ∃ n : Int, ds = [.int n] ∧ n.natAbs < 2 ^ 8000 ∧ R (.int (rt n))
abbrev N_root : List Str := ["number", "low", "high", "middle"]
theorem sc_root : FnScope N_root ["number"] (defScope s_root) := ⟨rfl, rfl, rfl, by decide +kernel, rfl, by decide +kernel, by decide +kernel⟩
theorem ok_root (T : Tx K mg) : C8.Cal P w K mg base 1 "root" (spF K S_root) [] := by
  refine cal_of T.f_root (fun _ _ _ _ _ _ us hl => match us, hl with | [_], _ => rfl) sc_root (fun ds R h => ?_) (fun cdv A outer s H E hr => ⟨_, (pss_cons (ps_set (i := 1) sc_root.nd rfl (Or.inl rfl) pe_int)
      (pss_cons (ps_set (i := 2) sc_root.nd rfl (Or.inl rfl) pe_int)
      (pss_cons (ps_while PassesOwn.never (pt_cmpR op_le (pe_op op_mulW (pv 2) (pv 2)) (pv 0) (nomark _)) (pss_one (ps_set (i := 2) sc_root.nd rfl (Or.inl rfl) (pe_op op_mulW pe_int (pv 2)))))
      (pss_cons (ps_while PassesOwn.never (pt_cmpR op_gt (pe_op op_sub (pv 2) (pv 1)) pe_int (nomark _)) (pss_cons (ps_set (i := 3) sc_root.nd rfl (Or.inl rfl) (pe_op op_fdivW (pe_op op_add (pv 1) (pv 2)) pe_int))
        (pss_one (ps_if (pt_cmpR op_le (pe_op op_mulW (pv 3) (pv 3)) (pv 0) (nomark _)) (pss_one (ps_set (i := 1) sc_root.nd rfl (Or.inl rfl) (pv 3))) (pss_one (ps_set (i := 2) sc_root.nd rfl (Or.inl rfl) (pv 3)))))))
      (pss_one (ps_ret (pv 1))))))), fun G ds vs R kr hGH hds hS hrt => ?_⟩)
  · obtain ⟨n, rfl, _⟩ := h
    rfl
  · obtain ⟨n, rfl, hn, hR⟩ := hS
    have hmul : ∀ i : Int, 0 ≤ i → i ≤ 2 * n.natAbs + 2 → CMulW i i := fun i h0 h1 => cmul (a := 8002) (b := 8002) (by
      have : (2 : Nat) ^ 8002 = 4 * 2 ^ 8000 := by rw [show 8002 = 8000 + 2 from rfl, Nat.pow_add]
      omega) (by
      have : (2 : Nat) ^ 8002 = 4 * 2 ^ 8000 := by rw [show 8002 = 8000 + 2 from rfl, Nat.pow_add]
      omega) (by decide)
    refine st_seq (st_set ev_int (st_seq (st_set ev_int (st_seq (st_while (S := Int) (fun h => 1 ≤ h ∧ h ≤ 2 * n.natAbs + 2) (fun h => [.d (.int n), .d (.int 0), .d (.int h), .no]) (fun _ => []) (fun h => (2 * n.natAbs + 2 - h).toNat) (fun h => decide (h * h ≤ n)) 1 ⟨by omega, by omega⟩ (by repeat' (first | exact True.intro | exact Or.inr rfl | exact Or.inl rfl | refine And.intro ?_ ?_)) rfl
      (fun h hh => et_test (ev_op (ev_op (ev_var rfl) (ev_var rfl) (rv_IC (hmul h (by omega) (by omega)))) (ev_var rfl) rv_IB)) (fun h hh e N hN => ?_) (fun h hh e => ?_))))))
    · have e1 : h * h ≤ n := of_decide_eq_true e
      have e2 : h * 1 ≤ h * h := Int.mul_le_mul_of_nonneg_left hh.1 (by omega)
      exact st_set (ev_op ev_int (ev_var rfl) (rv_IC (cmul (a := 2) (b := 8002) (by decide) (by
        have : (2 : Nat) ^ 8002 = 4 * 2 ^ 8000 := by rw [show 8002 = 8000 + 2 from rfl, Nat.pow_add]
        omega) (by decide)))) (hN (2 * h) ⟨by omega, by omega⟩ (by omega))
    · have e1 : ¬ h * h ≤ n := of_decide_eq_false e
      refine st_seq (st_while (S := Int × Int) (fun q => 0 ≤ q.1 ∧ q.1 < q.2 ∧ q.2 ≤ 2 * n.natAbs + 2 ∧ (q.1 = 0 ∨ q.1 * q.1 ≤ n) ∧ n < q.2 * q.2) (fun q => [.d (.int n), .d (.int q.1), .d (.int q.2), .no]) (fun _ => []) (fun q => (q.2 - q.1).toNat) (fun q => decide (1 < q.2 - q.1)) (0, h) ⟨by omega, by show (0 : Int) < h; omega, hh.2, .inl rfl, by show n < h * h; omega⟩ Wkn.rfl rfl
        (fun q hq => et_test (ev_op (ev_op (ev_var rfl) (ev_var rfl) rv_II) ev_int rv_IB)) (fun q hq e2 N hN => ?_) (fun q hq e2 => ?_))
      · obtain ⟨lo, hi⟩ := q
        obtain ⟨q0, q1, q2, q3, q4⟩ := hq
        simp only at q0 q1 q2 q3 q4
        have e3 : 1 < hi - lo := of_decide_eq_true e2
        have m1 : lo < (lo + hi) / 2 := by omega
        have m2 : (lo + hi) / 2 < hi := by omega
        refine st_seq (st_set (ev_op (ev_op (ev_var rfl) (ev_var rfl) rv_II) ev_int (rv_IC (cdiv (b := 2) (by decide) (by decide) (by decide)))) (st_if (et_test (ev_op (ev_op (ev_var rfl) (ev_var rfl) (rv_IC (hmul _ (by omega) (by omega)))) (ev_var rfl) rv_IB)) (fun e4 => ?_) (fun e4 => ?_)))
        · have e5 : (lo + hi) / 2 * ((lo + hi) / 2) ≤ n := of_decide_eq_true e4
          exact st_set (ev_var rfl) ((hN ((lo + hi) / 2, hi) ⟨by show 0 ≤ (lo + hi) / 2; omega, m2, q2, .inr e5, q4⟩ (by show (hi - (lo + hi) / 2).toNat < (hi - lo).toNat; omega)).wkn (by repeat' (first | exact True.intro | exact Or.inr rfl | exact Or.inl rfl | refine And.intro ?_ ?_)))
        · have e5 : ¬ (lo + hi) / 2 * ((lo + hi) / 2) ≤ n := of_decide_eq_false e4
          exact st_set (ev_var rfl) ((hN (lo, (lo + hi) / 2) ⟨q0, m1, by show (lo + hi) / 2 ≤ _; omega, q3, by show n < (lo + hi) / 2 * ((lo + hi) / 2); omega⟩ (by show ((lo + hi) / 2 - lo).toNat < (hi - lo).toNat; omega)).wkn (by repeat' (first | exact True.intro | exact Or.inr rfl | exact Or.inl rfl | refine And.intro ?_ ?_)))
      · obtain ⟨lo, hi⟩ := q
        obtain ⟨q0, q1, q2, q3, q4⟩ := hq
        simp only at q0 q1 q2 q3 q4
        have e3 : ¬ 1 < hi - lo := of_decide_eq_false e2
        have e4 : hi = lo + 1 := by omega
        subst e4
        refine st_ret (ev_var rfl) hrt ?_
        have e5 : lo = rt n := by
          rcases q3 with z | z
          · subst z
            by_cases hn0 : 0 ≤ n
            · exact (rt_uniq (Int.le_refl _) hn0 q4).symm
            · exact (rt_neg (by omega)).symm
          · exact (rt_uniq q0 z q4).symm
        rw [e5]
        exact hR
theorem ev_root {n : Int} (h : EvA K tA ρ M [.int n]) (hn : n.natAbs < 2 ^ 8000) : EvD K (tCall (spF K S_root) [] E0 tA) ρ M (.int (rt n)) := ev_call h fun R r => ⟨n, rfl, hn, r⟩
end
end Lc

namespace Lc
open PySem PySem.Spec PyProof.Rows L2 RZ
/-! ### determinants by the first row -/
def minorR (k : Nat) (F : List (List Int)) : List (List Int) := F.map (cutAt k)
def wpart (f : List (List Int) → Int) (tl : List (List Int)) (row : List Int) : Nat → Int
  | 0 => 0
  | k + 1 => wpart f tl row k + row.getD k 0 * (1 - 2 * ((k % 2 : Nat) : Int)) * f (minorR k tl)
def wdet : Nat → List (List Int) → Int
  | 0, _ => 1
  | n + 1, F => wpart (wdet n) F.tail (F.headD []) (F.headD []).length
/-- n rows of n numbers each, all below 2 ^ 500 -/
structure Mx (n : Nat) (F : List (List Int)) : Prop where
  len : F.length = n
  row : ∀ r ∈ F, r.length = n
  sz : ∀ r ∈ F, ∀ x ∈ r, x.natAbs < 2 ^ 500
theorem minor_sz {k : Nat} {F : List (List Int)} (h : ∀ r ∈ F, ∀ x ∈ r, x.natAbs < 2 ^ 500) : ∀ r ∈ minorR k F, ∀ x ∈ r, x.natAbs < 2 ^ 500 := fun r hr x hx => by
  unfold minorR at hr
  obtain ⟨r', h1, rfl⟩ := List.mem_map.mp hr
  exact h r' h1 x (mem_cutAt hx)
theorem Mx.minor {n : Nat} {r : List Int} {F : List (List Int)} (h : Mx (n + 1) (r :: F)) {k : Nat} (hk : k < n + 1) : Mx n (minorR k F) := by
  refine ⟨?_, fun q hq => ?_, minor_sz fun r' hr' => h.sz r' (List.mem_cons_of_mem _ hr')⟩
  · have := h.len
    rw [List.length_cons] at this
    rw [minorR, List.length_map]
    omega
  · obtain ⟨q', h1, rfl⟩ := List.mem_map.mp hq
    have h2 := h.row q' (List.mem_cons_of_mem _ h1)
    have := cutAt_len k q' (by omega)
    omega
theorem getD_sz {r : List Int} {B : Nat} (h : ∀ x ∈ r, x.natAbs < 2 ^ B) (k : Nat) : (r.getD k 0).natAbs < 2 ^ B := by
  rw [List.getD_eq_getElem?_getD]
  cases q : r[k]? with
  | none => exact Nat.two_pow_pos B
  | some x => exact h x (List.mem_of_getElem? q)
theorem sign_abs (k : Nat) : (1 - 2 * ((k % 2 : Nat) : Int)).natAbs = 1 := by
  rcases Nat.mod_two_eq_zero_or_one k with h | h <;> rw [h] <;> rfl
theorem wpart_sz {f : List (List Int) → Int} {tl : List (List Int)} {row : List Int} {a b : Nat} (hr : ∀ x ∈ row, x.natAbs < 2 ^ a) (hf : ∀ k, k < row.length → (f (minorR k tl)).natAbs < 2 ^ b) : ∀ k, k ≤ row.length → (wpart f tl row k).natAbs ≤ k * 2 ^ (a + b)
  | 0, _ => by simp [wpart]
  | k + 1, hk => by
    have ih := wpart_sz hr hf k (by omega)
    have h1 := getD_sz hr k
    have h2 := hf k (by omega)
    have h3 := pow_mul_lt h1 h2
    unfold wpart
    refine Nat.le_trans (Int.natAbs_add_le _ _) ?_
    rw [Int.natAbs_mul, Int.natAbs_mul, sign_abs, Nat.mul_one, Nat.succ_mul]
    omega
theorem wdet_sz : ∀ (n : Nat) {F : List (List Int)}, n ≤ 3 → Mx n F → (wdet n F).natAbs < 2 ^ (n * 502 + 1)
  | 0, _, _, _ => by show (1 : Nat) < 2 ^ 1; decide
  | n + 1, F, hn, h => by
    cases F with
    | nil => have := h.len; simp at this
    | cons r F =>
      have hr := h.row r List.mem_cons_self
      have h1 := wpart_sz (f := wdet n) (tl := F) (row := r) (a := 500) (b := n * 502 + 1) (h.sz r List.mem_cons_self) (fun k hk => wdet_sz n (by omega) (h.minor (by omega))) r.length (Nat.le_refl _)
      show (wpart (wdet n) F r r.length).natAbs < _
      refine Nat.lt_of_le_of_lt h1 ?_
      rw [hr] at *
      have e : (n + 1) * 502 + 1 = 2 + (500 + (n * 502 + 1)) := by omega
      rw [e, Nat.pow_add 2 2]
      exact Nat.mul_lt_mul_of_pos_right (show n + 1 < 4 by omega) (Nat.two_pow_pos _)
def S_worth (n : Nat) (ds : List PD) (R : PD → Prop) : Prop := ∃ (m : Nat) (F : List (List Int)), ds = [.list (F.map pt)] ∧ m ≤ n ∧ Mx m F ∧ R (.int (wdet m F))
def S_worthT (ds : List PD) (R : PD → Prop) : Prop := ∃ (n : Nat) (F : List (List Int)), ds = [fm F] ∧ 1 ≤ n ∧ n ≤ 3 ∧ Mx n F ∧ R (.int (wdet n F))
section
variable {P : Program} {w : World} {K : PySem.W.Frag} {mg : Str → Option Value} {base : Heap} {ρ : List Sl} {M : Mt} {tA : TA}
theorem ev_worth {n m : Nat} {F : List (List Int)} (h : EvA K tA ρ M [.list (F.map pt)]) (hF : Mx m F) (hm : m ≤ n) : EvD K (tCall (spF K (S_worth n)) [] E0 tA) ρ M (.int (wdet m F)) := ev_call h fun R r => ⟨m, F, rfl, hm, hF, r⟩
theorem ev_worthT {n : Nat} {F : List (List Int)} (h : EvA K tA ρ M [fm F]) (h1 : 1 ≤ n) (h3 : n ≤ 3) (hF : Mx n F) : EvD K (tCall (spF K S_worthT) [] E0 tA) ρ M (.int (wdet n F)) := ev_call h fun R r => ⟨n, F, rfl, h1, h3, hF, r⟩
abbrev N_worth : List Str := ["rows", "found", "at", "number", "row"]
theorem sc_worth : FnScope N_worth ["rows"] (defScope s_worth) := ⟨rfl, rfl, rfl, by decide +kernel, rfl, by decide +kernel, by decide +kernel⟩
theorem ok_worth (T : Tx K mg) : ∀ n : Nat, n ≤ 3 → C8.Cal P w K mg base (n + 1) "worth" (spF K (S_worth n)) []
  | 0, _ => by
    refine cal_of T.f_worth (fun _ _ _ _ _ _ us hl => match us, hl with | [_], _ => rfl) sc_worth (fun ds R h => ?_) (fun cdv A outer s H E hr => ⟨_, (pss_cons (ps_if (pt_cmpR op_eq (pe_callB (lenK (K := K) rfl) (by rfl) T.b_len (by decide +kernel) (pa_cons (pv 0) pa_nil)) pe_int (nomark _)) (pss_one (ps_ret pe_int)) pss_nil) pss_never), fun G ds vs R kr hGH hds hS hrt => ?_⟩)
    · obtain ⟨m, F, rfl, _⟩ := h
      rfl
    · obtain ⟨m, F, rfl, hm, hF, hR⟩ := hS
      obtain rfl : m = 0 := by omega
      refine st_seq (st_if (et_test (ev_op (ev_cb (ea_cons (ev_var rfl) ea_nil) rc_lenL) ev_int rv_eq)) (fun e => st_ret ev_int hrt hR) (fun e => ?_))
      have e1 := of_decide_eq_false e
      rw [List.length_map, hF.len] at e1
      exact absurd rfl e1
  | n + 1, hn => by
    have c_worth := ok_worth T n (by omega)
    refine cal_of T.f_worth (fun _ _ _ _ _ _ us hl => match us, hl with | [_], _ => rfl) sc_worth (fun ds R h => ?_) (fun cdv A outer s H E hr => ⟨_, (pss_cons (ps_if (pt_cmpR op_eq (pe_callB (lenK (K := K) rfl) (by rfl) T.b_len (by decide +kernel) (pa_cons (pv 0) pa_nil)) pe_int (nomark _)) (pss_one (ps_ret pe_int)) pss_nil)
      (pss_cons (ps_set (i := 1) sc_worth.nd rfl (Or.inl rfl) pe_int)
      (pss_cons (ps_for PassesOwn.never rfl (pi_enumTK (K := K) rfl (by rfl) T.b_enumerate (pa_cons (pe_ix (ix_listK (K := K) rfl) (pv 0) pe_int (fun _ _ => rfl)) pa_nil)) (pg_tupK (K := K) rfl rfl (pgs_cons (pg_name (i := 2) sc_worth.nd rfl (Or.inr rfl)) (pgs_cons (pg_name (i := 3) sc_worth.nd rfl (Or.inl rfl)) pgs_nil))) (pss_one (ps_if (pt_cmpR op_ne (pv 3) pe_int (nomark _)) (pss_one (ps_set (i := 1) sc_worth.nd rfl (Or.inl rfl) (pe_op op_add (pv 1) (pe_op op_mulW (pe_op op_mulW (pv 3) (pe_op op_sub pe_int (pe_op op_mulW pe_int (pe_op op_mod (pv 2) pe_int)))) (C8.pe_c c_worth hr (by first | decide | omega) (by rfl) (pa_cons (pe_lc (own := [("row", 4)]) (g := (gName 4)) (tt := tYes) rfl sc_worth.nd (pi_listK (K := K) rfl (pe_slice (sl_listK (K := K) rfl) (pv 0) (po_some pe_int) po_none)) (blkOk_by (own := [("row", 4)]) (N := N_worth) (sc := (defScope s_worth)) (by decide +kernel)) (fun _ _ _ _ _ => (pg_name (i := 4) sc_worth.nd rfl (Or.inl rfl))) (fun _ _ _ _ _ => pts_nil) (fun _ _ _ _ _ => (pe_op (op_catK (K := K) rfl) (pe_slice (sl_tupK (K := K) rfl) (pv 4) po_none (po_some (pv 2))) (pe_slice (sl_tupK (K := K) rfl) (pv 4) (po_some (pe_op op_add (pv 2) pe_int)) po_none)))) pa_nil)))))) pss_nil)))
      (pss_one (ps_ret (pv 1)))))), fun G ds vs R kr hGH hds hS hrt => ?_⟩)
    · obtain ⟨m, F, rfl, _⟩ := h
      rfl
    · obtain ⟨m, F, rfl, hm, hF, hR⟩ := hS
      refine st_seq (st_if (et_test (ev_op (ev_cb (ea_cons (ev_var rfl) ea_nil) rc_lenL) ev_int rv_eq)) (fun e => ?_) (fun e => ?_))
      · have e1 := of_decide_eq_true e
        rw [List.length_map, hF.len] at e1
        obtain rfl : m = 0 := by omega
        exact st_ret ev_int hrt hR
      have e1 := of_decide_eq_false e
      rw [List.length_map, hF.len] at e1
      obtain ⟨m, rfl⟩ : ∃ m', m = m' + 1 := ⟨m - 1, by omega⟩
      obtain ⟨r, F, rfl⟩ : ∃ r F', F = r :: F' := by
        cases F with
        | nil => have := hF.len; simp at this
        | cons r F' => exact ⟨r, F', rfl⟩
      have hrl := hF.row r List.mem_cons_self
      have hFl : F.length = m := by have := hF.len; simpa using this
      refine st_nil (st_seq (st_set ev_int (st_seq (st_for (fun i => [.d (.list ((r :: F).map pt)), .d (.int (wpart (wdet m) F r i)), .no, .no, .no]) (fun _ => []) (ei_enumT (ea_cons (ev_op (ev_var rfl) ev_int (rv_ixLn (k := 0) (d := .tuple (r.map .int)) rfl)) ea_nil)) (by repeat' (first | exact True.intro | exact Or.inr rfl | exact Or.inl rfl | refine And.intro ?_ ?_)) rfl (fun A i d hd N hN => ?_) ?_))))
      · obtain ⟨d', hd', rfl⟩ := enD_get hd
        obtain ⟨x, hx, rfl⟩ := map_getA hd'
        have hi : i < r.length := (List.getElem?_eq_some_iff.mp hx).1
        have hx0 : r.getD i 0 = x := by rw [List.getD_eq_getElem?_getD, hx]; rfl
        refine ⟨_, _, tg_tup (tgs_cons tg_name (tgs_cons tg_name tgs_nil)) rfl, st_if (et_test (ev_op (ev_var rfl) ev_int rv_ne)) (fun e => ?_) (fun e => ?_)⟩
        · have hmin := hF.minor (k := i) (by omega)
          have hsz := wdet_sz m (by omega) hmin
          have hxs : x.natAbs < 2 ^ 500 := hF.sz r List.mem_cons_self x (List.mem_of_getElem? hx)
          have e2 : ((i : Int) % 2) = ((i % 2 : Nat) : Int) := by simp
          refine st_set (ev_op (ev_var rfl) (ev_op (ev_op (ev_var rfl) (ev_op ev_int (ev_op ev_int (ev_op (ev_var rfl) ev_int (rv_IC (by decide))) (rv_IC (cmul (a := 2) (b := 64) (by decide) ?_ (by decide)))) rv_II) (rv_IC (cmul (b := 64) hxs ?_ (by decide)))) (ev_worth (ea_cons (EvL.toD (EvL.is (el_mapA F pt (fun r => pt (cutAt i r))
            (ei_list (EvL.toD ((ev_dropL (k := 1) (ds := (r :: F).map pt) (ev_var rfl) ev_int).is rfl))) (by omega) (fun j q hq => ?_)) ?_)) ea_nil) hmin (by omega)) (rv_IC (cmul (a := 600) ?_ hsz (by omega)))) rv_II) ?_
          · rw [e2]
            have := Nat.mod_lt i (show 0 < 2 by decide)
            show (i % 2) < 2 ^ 64
            omega
          rotate_left
          · have hql : q.length = m + 1 := hF.row q (List.mem_cons_of_mem _ (List.mem_of_getElem? hq))
            refine ⟨_, _, by simp, tg_name, EvD.is (ev_cutAt (ds := q.map .int) (k := i) (ev_var rfl) (ev_var rfl) (EvD.is (ev_op (ev_var rfl) ev_int rv_II) rfl) (by rw [List.length_map]; omega)) ?_⟩
            rw [← map_cutAt]
            rfl
          · rw [minorR, List.map_map]
            rfl
          · rw [e2, Int.natAbs_mul, sign_abs, Nat.mul_one]
            exact pw_le hxs (by decide)
          · have e3 : wpart (wdet m) F r (i + 1) = wpart (wdet m) F r i + x * (1 - 2 * ((i : Int) % 2)) * wdet m (minorR i F) := by
              rw [e2, ← hx0]
              rfl
            rw [e3] at hN
            exact hN.wkn (by repeat' (first | exact True.intro | exact Or.inr rfl | exact Or.inl rfl | refine And.intro ?_ ?_))
          · rw [e2, sign_abs]
            decide
        · have e1 : x = 0 := by simpa using e
          subst e1
          have e2 : wpart (wdet m) F r (i + 1) = wpart (wdet m) F r i := by
            show wpart (wdet m) F r i + r.getD i 0 * _ * _ = _
            rw [hx0, Int.zero_mul, Int.zero_mul, Int.add_zero]
          rw [e2] at hN
          exact st_nil (hN.wkn (by repeat' (first | exact True.intro | exact Or.inr rfl | exact Or.inl rfl | refine And.intro ?_ ?_)))
      · refine st_ret (ev_var rfl) hrt ?_
        rw [enD_len, List.length_map]
        exact hR
abbrev N_worthT : List Str := ["rows", "found", "at", "number", "row"]
theorem sc_worthT : FnScope N_worthT ["rows"] (defScope s_worth) := ⟨rfl, rfl, rfl, by decide +kernel, rfl, by decide +kernel, by decide +kernel⟩
theorem ok_worthT (T : Tx K mg) : C8.Cal P w K mg base 5 "worth" (spF K S_worthT) [] := by
  have c_worth := ok_worth (P := P) (w := w) (base := base) T 3 (by omega)
  refine cal_of T.f_worth (fun _ _ _ _ _ _ us hl => match us, hl with | [_], _ => rfl) sc_worthT (fun ds R h => ?_) (fun cdv A outer s H E hr => ⟨_, (pss_cons (ps_if (pt_cmpR op_eq (pe_callB (lenK (K := K) rfl) (by rfl) T.b_len (by decide +kernel) (pa_cons (pv 0) pa_nil)) pe_int (nomark _)) (pss_one (ps_ret pe_int)) pss_nil)
      (pss_cons (ps_set (i := 1) sc_worthT.nd rfl (Or.inl rfl) pe_int)
      (pss_cons (ps_for PassesOwn.never rfl (pi_enumTK (K := K) rfl (by rfl) T.b_enumerate (pa_cons (pe_ix (ix_tupK (K := K) rfl) (pv 0) pe_int (fun _ _ => rfl)) pa_nil)) (pg_tupK (K := K) rfl rfl (pgs_cons (pg_name (i := 2) sc_worthT.nd rfl (Or.inr rfl)) (pgs_cons (pg_name (i := 3) sc_worthT.nd rfl (Or.inl rfl)) pgs_nil))) (pss_one (ps_if (pt_cmpR op_ne (pv 3) pe_int (nomark _)) (pss_one (ps_set (i := 1) sc_worthT.nd rfl (Or.inl rfl) (pe_op op_add (pv 1) (pe_op op_mulW (pe_op op_mulW (pv 3) (pe_op op_sub pe_int (pe_op op_mulW pe_int (pe_op op_mod (pv 2) pe_int)))) (C8.pe_c c_worth hr (by first | decide | omega) (by rfl) (pa_cons (pe_lc (own := [("row", 4)]) (g := (gName 4)) (tt := tYes) rfl sc_worthT.nd (pi_tupK (K := K) rfl (pe_slice (sl_tupK (K := K) rfl) (pv 0) (po_some pe_int) po_none)) (blkOk_by (own := [("row", 4)]) (N := N_worthT) (sc := (defScope s_worth)) (by decide +kernel)) (fun _ _ _ _ _ => (pg_name (i := 4) sc_worthT.nd rfl (Or.inl rfl))) (fun _ _ _ _ _ => pts_nil) (fun _ _ _ _ _ => (pe_op (op_catK (K := K) rfl) (pe_slice (sl_tupK (K := K) rfl) (pv 4) po_none (po_some (pv 2))) (pe_slice (sl_tupK (K := K) rfl) (pv 4) (po_some (pe_op op_add (pv 2) pe_int)) po_none)))) pa_nil)))))) pss_nil)))
      (pss_one (ps_ret (pv 1)))))), fun G ds vs R kr hGH hds hS hrt => ?_⟩)
  · obtain ⟨n, F, rfl, _⟩ := h
    rfl
  · obtain ⟨n, F, rfl, h1, hn, hF, hR⟩ := hS
    obtain ⟨m, rfl⟩ : ∃ m', n = m' + 1 := ⟨n - 1, by omega⟩
    obtain ⟨r, F, rfl⟩ : ∃ r F', F = r :: F' := by
      cases F with
      | nil => have := hF.len; simp at this
      | cons r F' => exact ⟨r, F', rfl⟩
    have hrl := hF.row r List.mem_cons_self
    have hFl : F.length = m := by have := hF.len; simpa using this
    refine st_seq (st_if (et_test (ev_op (ev_cb (ea_cons (ev_var rfl) ea_nil) rc_lenT) ev_int rv_eq)) (fun e => ?_) (fun e => ?_))
    · have e1 := of_decide_eq_true e
      rw [List.map_cons, List.length_cons] at e1
      omega
    refine st_nil (st_seq (st_set ev_int (st_seq (st_for (fun i => [.d (fm (r :: F)), .d (.int (wpart (wdet m) F r i)), .no, .no, .no]) (fun _ => []) (ei_enumT (ea_cons (ev_op (ev_var rfl) ev_int (rv_ixTn (k := 0) (d := .tuple (r.map .int)) rfl)) ea_nil)) (by repeat' (first | exact True.intro | exact Or.inr rfl | exact Or.inl rfl | refine And.intro ?_ ?_)) rfl (fun A i d hd N hN => ?_) ?_))))
    · obtain ⟨d', hd', rfl⟩ := enD_get hd
      obtain ⟨x, hx, rfl⟩ := map_getA hd'
      have hi : i < r.length := (List.getElem?_eq_some_iff.mp hx).1
      have hx0 : r.getD i 0 = x := by rw [List.getD_eq_getElem?_getD, hx]; rfl
      refine ⟨_, _, tg_tup (tgs_cons tg_name (tgs_cons tg_name tgs_nil)) rfl, st_if (et_test (ev_op (ev_var rfl) ev_int rv_ne)) (fun e => ?_) (fun e => ?_)⟩
      · have hmin := hF.minor (k := i) (by omega)
        have hsz := wdet_sz m (by omega) hmin
        have hxs : x.natAbs < 2 ^ 500 := hF.sz r List.mem_cons_self x (List.mem_of_getElem? hx)
        have e2 : ((i : Int) % 2) = ((i % 2 : Nat) : Int) := by simp
        refine st_set (ev_op (ev_var rfl) (ev_op (ev_op (ev_var rfl) (ev_op ev_int (ev_op ev_int (ev_op (ev_var rfl) ev_int (rv_IC (by decide))) (rv_IC (cmul (a := 2) (b := 64) (by decide) ?_ (by decide)))) rv_II) (rv_IC (cmul (b := 64) hxs ?_ (by decide)))) (ev_worth (ea_cons (EvL.toD (EvL.is (el_mapA F pt (fun r => pt (cutAt i r))
          (ei_tup ((ev_dropT (k := 1) (ds := (r :: F).map pt) (ev_var rfl) ev_int).is rfl)) (by omega) (fun j q hq => ?_)) ?_)) ea_nil) hmin (by omega)) (rv_IC (cmul (a := 600) ?_ hsz (by omega)))) rv_II) ?_
        · rw [e2]
          have := Nat.mod_lt i (show 0 < 2 by decide)
          show (i % 2) < 2 ^ 64
          omega
        rotate_left
        · have hql : q.length = m + 1 := hF.row q (List.mem_cons_of_mem _ (List.mem_of_getElem? hq))
          refine ⟨_, _, by simp, tg_name, EvD.is (ev_cutAt (ds := q.map .int) (k := i) (ev_var rfl) (ev_var rfl) (EvD.is (ev_op (ev_var rfl) ev_int rv_II) rfl) (by rw [List.length_map]; omega)) ?_⟩
          rw [← map_cutAt]
          rfl
        · rw [minorR, List.map_map]
          rfl
        · rw [e2, Int.natAbs_mul, sign_abs, Nat.mul_one]
          exact pw_le hxs (by decide)
        · have e3 : wpart (wdet m) F r (i + 1) = wpart (wdet m) F r i + x * (1 - 2 * ((i : Int) % 2)) * wdet m (minorR i F) := by
            rw [e2, ← hx0]
            rfl
          rw [e3] at hN
          exact hN.wkn (by repeat' (first | exact True.intro | exact Or.inr rfl | exact Or.inl rfl | refine And.intro ?_ ?_))
        · rw [e2, sign_abs]
          decide
      · have e1 : x = 0 := by simpa using e
        subst e1
        have e2 : wpart (wdet m) F r (i + 1) = wpart (wdet m) F r i := by
          show wpart (wdet m) F r i + r.getD i 0 * _ * _ = _
          rw [hx0, Int.zero_mul, Int.zero_mul, Int.add_zero]
        rw [e2] at hN
        exact st_nil (hN.wkn (by repeat' (first | exact True.intro | exact Or.inr rfl | exact Or.inl rfl | refine And.intro ?_ ?_)))
    · refine st_ret (ev_var rfl) hrt ?_
      rw [enD_len, List.length_map]
      exact hR
end
end Lc

namespace Lc
open PySem PySem.Spec PyProof.Rows L2 RZ
/-! ### forms -/
def ent (F : List (List Int)) (i j : Nat) : Int := (F.getD i []).getD j 0
structure IsF (n : Nat) (F : List (List Int)) : Prop where
  n1 : 1 ≤ n
  n3 : n ≤ 3
  mx : Mx n F
  sym : ∀ i j, i < n → j < n → ent F i j = ent F j i
  pos : ∀ m, 1 ≤ m → m ≤ n → 0 < wdet m ((F.take m).map (List.take m))
theorem Mx.rowAt {n : Nat} {F : List (List Int)} (h : Mx n F) {i : Nat} (hi : i < n) : F[i]? = some (F.getD i []) := by
  have := h.len
  rw [List.getD_eq_getElem?_getD, List.getElem?_eq_getElem (by omega)]
  rfl
theorem Mx.rowLen {n : Nat} {F : List (List Int)} (h : Mx n F) {i : Nat} (hi : i < n) : (F.getD i []).length = n := h.row _ (List.mem_of_getElem? (h.rowAt hi))
theorem Mx.entAt {n : Nat} {F : List (List Int)} (h : Mx n F) {i j : Nat} (hi : i < n) (hj : j < n) : (F.getD i [])[j]? = some (ent F i j) := by
  have := h.rowLen hi
  unfold ent
  rw [List.getD_eq_getElem?_getD (l := F.getD i []), List.getElem?_eq_getElem (by omega)]
  rfl
theorem Mx.lead {n m : Nat} {F : List (List Int)} (h : Mx n F) (hm : m ≤ n) : Mx m ((F.take m).map (List.take m)) := by
  have := h.len
  refine ⟨by rw [List.length_map, List.length_take]; omega, fun r hr => ?_, fun r hr x hx => ?_⟩
  · obtain ⟨r', h1, rfl⟩ := List.mem_map.mp hr
    have := h.row r' (List.mem_of_mem_take h1)
    rw [List.length_take]
    omega
  · obtain ⟨r', h1, rfl⟩ := List.mem_map.mp hr
    exact h.sz r' (List.mem_of_mem_take h1) x (List.mem_of_mem_take hx)
section
variable {P : Program} {w : World} {K : PySem.W.Frag} {mg : Str → Option Value} {base : Heap} {ρ : List Sl} {M : Mt} {tA : TA} {te tb : TE}
variable {B : Bs} {kr : VK} {R : PD → Prop}
theorem st_end (q : RtOk K B kr R) (r : R .none) : Nx K B (fun _ H' => kr .non H') ρ M := fun σ G H a => q _ G H _ a.st .non r
theorem fm_row {n : Nat} {F : List (List Int)} (h : Mx n F) {i : Nat} (hi : i < n) : (F.map pt)[i]? = some (pt (F.getD i [])) := by rw [List.getElem?_map, h.rowAt hi]; rfl
theorem pt_at {n : Nat} {F : List (List Int)} (h : Mx n F) {i j : Nat} (hi : i < n) (hj : j < n) : ((F.getD i []).map PyData.int)[j]? = some (.int (ent F i j)) := by rw [List.getElem?_map, h.entAt hi hj]; rfl
theorem ev_ent {n : Nat} {F : List (List Int)} (h : Mx n F) {i j : Nat} (hi : i < n) (hj : j < n) {tf ti tj : TE} (e1 : EvD K tf ρ M (fm F)) (e2 : EvD K ti ρ M (.int (i : Nat))) (e3 : EvD K tj ρ M (.int (j : Nat))) :
    EvD K (tOp (rIxT K) (tOp (rIxT K) tf ti) tj) ρ M (.int (ent F i j)) := ev_op (ev_op e1 e2 (rv_ixTn (fm_row h hi))) e3 (rv_ixTn (pt_at h hi hj))
theorem ei_rng1N {n : Nat} (h : EvA K tA ρ M [.int (n : Nat)]) (hn : n ≤ 10000000) : EvI K (iRng1 tA) ρ M ((List.range n).map fun i => .int (i : Nat)) := by
  have h1 := ei_rng1 h (by omega) (by omega)
  have e : rngD 0 ((n : Nat) : Int).toNat = (List.range n).map fun i => PyData.int (i : Nat) := by simp [rngD]
  rw [e] at h1
  exact h1
theorem ei_rng2N {a b : Nat} (h : EvA K tA ρ M [.int (a : Nat), .int (b : Nat)]) (ha : a ≤ 10000000) (hb : b ≤ 10000000) : EvI K (iRng2 tA) ρ M ((List.range (b - a)).map fun i => .int ((a + i : Nat) : Int)) := by
  have h1 := ei_rng2 h ⟨by omega, by omega, by omega, by omega⟩
  have e : rngD (a : Nat) (((b : Nat) : Int) - (a : Nat)).toNat = (List.range (b - a)).map fun i => PyData.int ((a + i : Nat) : Int) := by
    have e1 : (((b : Nat) : Int) - (a : Nat)).toNat = b - a := by omega
    simp [rngD, e1]
  rw [e] at h1
  exact h1
theorem rng_get {n i a : Nat} (h : (List.range n)[i]? = some a) : i < n ∧ a = i := by
  by_cases hi : i < n
  · rw [List.getElem?_range hi] at h
    exact ⟨hi, (Option.some.inj h).symm⟩
  · rw [List.getElem?_eq_none (by simpa using hi)] at h
    cases h
/-! ### is_square -/
def S_is_square (ds : List PD) (R : PD → Prop) : Prop := ∃ (n : Nat) (F : List (List Int)), ds = [fm F] ∧ 1 ≤ n ∧ n ≤ 3 ∧ Mx n F ∧ R (.bool true)
abbrev N_is_square : List Str := ["thing", "row"]
theorem sc_is_square : FnScope N_is_square ["thing"] (defScope s_is_square) := ⟨rfl, rfl, rfl, by decide +kernel, rfl, by decide +kernel, by decide +kernel⟩
theorem ok_is_square (T : Tx K mg) : C8.Cal P w K mg base 3 "is_square" (spF K S_is_square) [] := by
  have c_are_wholes := ok_are_wholes (P := P) (w := w) (base := base) T
  obtain ⟨tm, hmost⟩ := T.most
  refine cal_of T.f_is_square (fun _ _ _ _ _ _ us hl => match us, hl with | [_], _ => rfl) sc_is_square (fun ds R h => ?_) (fun cdv A outer s H E hr => ⟨_, (pss_cons (ps_if (PW.pt (pw_or (pt_not (pt_val (pe_callB (isiK (K := K) rfl) (by rfl) T.b_isinstance (by decide +kernel) (pa_cons (pv 0) (pa_cons (pe_bltn (v := .ty "tuple") (by rfl) T.b_tuple (by decide +kernel) rfl) pa_nil))))) (pw_or1 (pt_not (pt_chain op_le op_le pe_int (pe_callB (lenK (K := K) rfl) (by rfl) T.b_len (by decide +kernel) (pa_cons (pv 0) pa_nil)) (pe_glob (v := .int 3) (by rfl) hmost ⟨_, rfl⟩)))))) (pss_one (ps_ret pe_bl)) pss_nil)
      (pss_one (ps_ret (pe_callB (allK (K := K) rfl rfl) (by rfl) T.b_all (by decide +kernel) (pa_cons (pe_lc (own := [("row", 1)]) (g := (gName 1)) (tt := tYes) rfl sc_is_square.nd (pi_tupK (K := K) rfl (pv 0)) (blkOk_by (own := [("row", 1)]) (N := N_is_square) (sc := (defScope s_is_square)) (by decide +kernel)) (fun _ _ _ _ _ => (pg_name (i := 1) sc_is_square.nd rfl (Or.inl rfl))) (fun _ _ _ _ _ => pts_nil) (fun _ _ _ _ _ => (C8.pe_c c_are_wholes hr (by first | decide | omega) (by rfl) (pa_cons (pv 1) (pa_cons (pe_callB (lenK (K := K) rfl) (by rfl) T.b_len (by decide +kernel) (pa_cons (pv 0) pa_nil)) pa_nil))))) pa_nil))))), fun G ds vs R kr hGH hds hS hrt => ?_⟩)
  · obtain ⟨n, F, rfl, _⟩ := h
    rfl
  · obtain ⟨n, F, rfl, h1, h3, hF, hR⟩ := hS
    have hlen : (F.map pt).length = n := by rw [List.length_map, hF.len]
    have v0 : EvD K (tVar 0) [.d (fm F), .no] [] (.tuple (F.map pt)) := ev_var rfl
    have vl : EvD K _ [.d (fm F), .no] [] (.int (n : Nat)) := EvD.is (ev_cb (ea_cons v0 ea_nil) rc_lenT) (by rw [hlen])
    refine st_seq (st_if (et_or (et_not (et_B (ev_isi (b := true) v0 kit_tt))) fun _ => et_not (et_test (ev_chain (k1 := true) (k2 := true) ev_int vl ev_int ?_ fun _ => ?_))) (fun e => by cases e) (fun e => ?_))
    · have := rv_IB (K := K) (f := fun i j => decide (i ≤ j)) (i := 1) (j := (n : Nat))
      rw [show decide ((1 : Int) ≤ (n : Nat)) = true from decide_eq_true (by omega)] at this
      exact this
    · have := rv_IB (K := K) (f := fun i j => decide (i ≤ j)) (i := (n : Nat)) (j := 3)
      rw [show decide (((n : Nat) : Int) ≤ 3) = true from decide_eq_true (by omega)] at this
      exact this
    · refine st_nil (st_ret (ev_cb (ea_cons (EvL.toD (EvL.is (el_mapA F pt (fun _ => .bool true) (ei_tup v0) (by rw [hF.len]; omega) (fun j q hq => ?_)) ?_)) ea_nil) (rc_all (bs := F.map fun _ => true))) hrt (by rw [all_true]; exact hR))
      · have hql := hF.row q (List.mem_of_getElem? hq)
        refine ⟨_, _, by simp, tg_name, ev_are_wholes (ea_cons (ev_var rfl) (ea_cons (EvD.is (ev_cb (ea_cons (ev_var rfl) ea_nil) rc_lenT) (by rw [hlen])) ea_nil)) (by omega) (by rw [hql])⟩
      · simp [Function.comp_def]
theorem ev_is_square {n : Nat} {F : List (List Int)} (h : EvA K tA ρ M [fm F]) (h1 : 1 ≤ n) (h3 : n ≤ 3) (hF : Mx n F) : EvD K (tCall (spF K S_is_square) [] E0 tA) ρ M (.bool true) := ev_call h fun R r => ⟨n, F, rfl, h1, h3, hF, r⟩
/-! ### tells_lengths -/
def S_tells_lengths (ds : List PD) (R : PD → Prop) : Prop := ∃ (n : Nat) (F : List (List Int)), ds = [fm F] ∧ IsF n F ∧ R (.bool true)
abbrev N_tells_lengths : List Str := ["thing", "size", "i", "many", "j", "row"]
theorem sc_tells_lengths : FnScope N_tells_lengths ["thing"] (defScope s_tells_lengths) := ⟨rfl, rfl, rfl, by decide +kernel, rfl, by decide +kernel, by decide +kernel⟩
theorem ok_tells_lengths (T : Tx K mg) : C8.Cal P w K mg base 5 "tells_lengths" (spF K S_tells_lengths) [] := by
  have c_is_square := ok_is_square (P := P) (w := w) (base := base) T
  have c_worth := ok_worth (P := P) (w := w) (base := base) T 3 (by omega)
  refine cal_of T.f_tells_lengths (fun _ _ _ _ _ _ us hl => match us, hl with | [_], _ => rfl) sc_tells_lengths (fun ds R h => ?_) (fun cdv A outer s H E hr => ⟨_, (pss_cons (ps_if (pt_not (pt_val (C8.pe_c c_is_square hr (by first | decide | omega) (by rfl) (pa_cons (pv 0) pa_nil)))) (pss_one (ps_ret pe_bl)) pss_nil)
      (pss_cons (ps_set (i := 1) sc_tells_lengths.nd rfl (Or.inr rfl) (pe_callB (lenK (K := K) rfl) (by rfl) T.b_len (by decide +kernel) (pa_cons (pv 0) pa_nil)))
      (pss_cons (ps_if (pt_val (pe_callB (anyK (K := K) rfl rfl) (by rfl) T.b_any (by decide +kernel) (pa_cons (pe_lc (own := [("i", 2)]) (g := (gName 2)) (tt := tYes) rfl sc_tells_lengths.nd (pi_range1 (by rfl) T.b_range (pa_cons (pv 1) pa_nil)) (blkOk_by (own := [("i", 2)]) (N := N_tells_lengths) (sc := (defScope s_tells_lengths)) (by decide +kernel)) (fun _ _ _ _ _ => (pg_name (i := 2) sc_tells_lengths.nd rfl (Or.inr rfl))) (fun _ _ _ _ _ => pts_nil) (fun _ _ _ _ _ => (pe_callB (anyK (K := K) rfl rfl) (by rfl) T.b_any (by decide +kernel) (pa_cons (pe_lc (own := [("j", 4)]) (g := (gName 4)) (tt := tYes) rfl sc_tells_lengths.nd (pi_range1 (by rfl) T.b_range (pa_cons (pv 1) pa_nil)) (blkOk_by (own := [("j", 4)]) (N := N_tells_lengths) (sc := (relS _ (defScope s_tells_lengths))) (by decide +kernel)) (fun _ _ _ _ _ => (pg_name (i := 4) sc_tells_lengths.nd rfl (Or.inl rfl))) (fun _ _ _ _ _ => pts_nil) (fun _ _ _ _ _ => (pe_cmpR op_ne (pe_ix (ix_tupK (K := K) rfl) (pe_ix (ix_tupK (K := K) rfl) (pv 0) (pv 2) (fun _ _ => rfl)) (pv 4) (fun _ _ => rfl)) (pe_ix (ix_tupK (K := K) rfl) (pe_ix (ix_tupK (K := K) rfl) (pv 0) (pv 4) (fun _ _ => rfl)) (pv 2) (fun _ _ => rfl)) (nomark _)))) pa_nil)))) pa_nil))) (pss_one (ps_ret pe_bl)) pss_nil)
      (pss_one (ps_ret (pe_callB (allK (K := K) rfl rfl) (by rfl) T.b_all (by decide +kernel) (pa_cons (pe_lc (own := [("many", 3)]) (g := (gName 3)) (tt := tYes) rfl sc_tells_lengths.nd (pi_range2 (by rfl) T.b_range (pa_cons pe_int (pa_cons (pe_op op_add (pv 1) pe_int) pa_nil))) (blkOk_by (own := [("many", 3)]) (N := N_tells_lengths) (sc := (defScope s_tells_lengths)) (by decide +kernel)) (fun _ _ _ _ _ => (pg_name (i := 3) sc_tells_lengths.nd rfl (Or.inr rfl))) (fun _ _ _ _ _ => pts_nil) (fun _ _ _ _ _ => (pe_cmpR op_gt (C8.pe_c c_worth hr (by first | decide | omega) (by rfl) (pa_cons (pe_lc (own := [("row", 5)]) (g := (gName 5)) (tt := tYes) rfl sc_tells_lengths.nd (pi_tupK (K := K) rfl (pe_slice (sl_tupK (K := K) rfl) (pv 0) po_none (po_some (pv 3)))) (blkOk_by (own := [("row", 5)]) (N := N_tells_lengths) (sc := (relS _ (defScope s_tells_lengths))) (by decide +kernel)) (fun _ _ _ _ _ => (pg_name (i := 5) sc_tells_lengths.nd rfl (Or.inl rfl))) (fun _ _ _ _ _ => pts_nil) (fun _ _ _ _ _ => (pe_slice (sl_tupK (K := K) rfl) (pv 5) po_none (po_some (pv 3))))) pa_nil)) pe_int (nomark _)))) pa_nil))))))), fun G ds vs R kr hGH hds hS hrt => ?_⟩)
  · obtain ⟨n, F, rfl, _⟩ := h
    rfl
  · obtain ⟨n, F, rfl, hF, hR⟩ := hS
    have h1 := hF.n1
    have h3 := hF.n3
    have hlen : (F.map pt).length = n := by rw [List.length_map, hF.mx.len]
    refine st_seq (st_if (et_not (et_B (ev_is_square (ea_cons (ev_var rfl) ea_nil) h1 h3 hF.mx))) (fun e => by cases e) (fun e => ?_))
    refine st_nil (st_seq (st_set (EvD.is (ev_cb (ea_cons (ev_var rfl) ea_nil) (rc_lenT (ds := F.map pt))) (congrArg (fun k : Nat => PyData.int (k : Nat)) hlen)) ?_))
    refine st_seq (st_if (et_B (b := false) (EvD.is (ev_cb (ea_cons (EvL.toD (EvL.is (el_mapA (List.range n) (fun i => .int (i : Nat)) (fun _ => .bool false) (ei_rng1N (ea_cons (ev_var rfl) ea_nil) (by omega)) (by rw [List.length_range]; omega) (fun i a ha => ?_)) ?_)) ea_nil) (rc_any (bs := (List.range n).map fun _ => false))) ?_)) (fun e => by cases e) (fun e => ?_))
    · obtain ⟨hi, rfl⟩ := rng_get ha
      refine ⟨_, _, by simp, tg_name, EvD.is (ev_cb (ea_cons (EvL.toD (EvL.is (el_mapA (List.range n) (fun i => .int (i : Nat)) (fun _ => .bool false) (ei_rng1N (ea_cons (ev_var rfl) ea_nil) (by omega)) (by rw [List.length_range]; omega) (fun j b hb => ?_)) ?_)) ea_nil) (rc_any (bs := (List.range n).map fun _ => false))) ?_⟩
      · obtain ⟨hj, rfl⟩ := rng_get hb
        refine ⟨_, _, by simp, tg_name, EvD.is (ev_op (ev_ent hF.mx hi hj (ev_var rfl) (ev_var rfl) (ev_var rfl)) (ev_ent hF.mx hj hi (ev_var rfl) (ev_var rfl) (ev_var rfl)) rv_ne) ?_⟩
        rw [hF.sym _ _ hi hj]
        simp
      · simp [Function.comp_def]
      · simp
    · simp [Function.comp_def]
    · simp
    · refine st_nil (st_ret (EvD.is (ev_cb (ea_cons (EvL.toD (EvL.is (el_mapA (List.range (n + 1 - 1)) (fun i => .int ((1 + i : Nat) : Int)) (fun _ => .bool true) (ei_rng2N (a := 1) (b := n + 1) (ea_cons ev_int (ea_cons (EvD.is (ev_op (ev_var rfl) ev_int rv_II) rfl) ea_nil)) (by omega) (by omega)) (by rw [List.length_range]; omega) (fun i a ha => ?_)) ?_)) ea_nil) (rc_all (bs := (List.range n).map fun _ => true))) ?_) hrt hR)
      · obtain ⟨hi, rfl⟩ := rng_get ha
        have hp := hF.pos (1 + a) (by omega) (by omega)
        refine ⟨_, _, by simp, tg_name, EvD.is (ev_op (ev_worth (m := 1 + a) (F := (F.take (1 + a)).map (List.take (1 + a))) (ea_cons (EvL.toD (EvL.is (el_mapA (F.take (1 + a)) pt (fun r => pt (r.take (1 + a))) (ei_tup (EvD.is (ev_takeT (k := 1 + a) (ds := F.map pt) (ev_var rfl) (ev_var rfl)) (by rw [List.map_take]))) ?_ (fun j q hq => ?_)) ?_)) ea_nil) (hF.mx.lead (by omega)) (by omega)) ev_int rv_IB) ?_⟩
        · rw [List.length_take]; omega
        · refine ⟨_, _, by simp, tg_name, EvD.is (ev_takeT (k := 1 + a) (ds := q.map .int) (ev_var rfl) (ev_var rfl)) ?_⟩
          rw [← List.map_take]
          rfl
        · rw [List.map_map]
          rfl
        · exact congrArg PyData.bool (decide_eq_true hp)
      · simp [Function.comp_def]
      · simp
theorem ev_tells_lengths {n : Nat} {F : List (List Int)} (h : EvA K tA ρ M [fm F]) (hF : IsF n F) : EvD K (tCall (spF K S_tells_lengths) [] E0 tA) ρ M (.bool true) := ev_call h fun R r => ⟨n, F, rfl, hF, r⟩
/-! ### the checks -/
def S_check_form (ds : List PD) (R : PD → Prop) : Prop := ∃ (n : Nat) (F : List (List Int)), ds = [fm F] ∧ IsF n F ∧ R .none
abbrev N_check_form : List Str := ["form"]
theorem sc_check_form : FnScope N_check_form ["form"] (defScope s_check_form) := ⟨rfl, rfl, rfl, by decide +kernel, rfl, by decide +kernel, by decide +kernel⟩
theorem ok_check_form (T : Tx K mg) : C8.Cal P w K mg base 6 "check_form" (spF K S_check_form) [] := by
  have c_tells_lengths := ok_tells_lengths (P := P) (w := w) (base := base) T
  refine cal_of T.f_check_form (fun _ _ _ _ _ _ us hl => match us, hl with | [_], _ => rfl) sc_check_form (fun ds R h => ?_) (fun cdv A outer s H E hr => ⟨_, (pss_one (ps_if (pt_not (pt_val (C8.pe_c c_tells_lengths hr (by first | decide | omega) (by rfl) (pa_cons (pv 0) pa_nil)))) (pss_one ps_never) pss_nil)), fun G ds vs R kr hGH hds hS hrt => ?_⟩)
  · obtain ⟨n, F, rfl, _⟩ := h
    rfl
  · obtain ⟨n, F, rfl, hF, hR⟩ := hS
    exact st_if (et_not (et_B (ev_tells_lengths (ea_cons (ev_var rfl) ea_nil) hF))) (fun e => by cases e) (fun e => st_nil (st_end hrt hR))
theorem ev_check_form {n : Nat} {F : List (List Int)} (h : EvA K tA ρ M [fm F]) (hF : IsF n F) : EvD K (tCall (spF K S_check_form) [] E0 tA) ρ M .none := ev_call h fun R r => ⟨n, F, rfl, hF, r⟩
def S_check_bound (ds : List PD) (R : PD → Prop) : Prop := ∃ b : Nat, ds = [.int (b : Nat)] ∧ R .none
abbrev N_check_bound : List Str := ["bound"]
theorem sc_check_bound : FnScope N_check_bound ["bound"] (defScope s_check_bound) := ⟨rfl, rfl, rfl, by decide +kernel, rfl, by decide +kernel, by decide +kernel⟩
theorem ok_check_bound (T : Tx K mg) : C8.Cal P w K mg base 2 "check_bound" (spF K S_check_bound) [] := by
  have c_is_whole := ok_is_whole (P := P) (w := w) (base := base) T
  refine cal_of T.f_check_bound (fun _ _ _ _ _ _ us hl => match us, hl with | [_], _ => rfl) sc_check_bound (fun ds R h => ?_) (fun cdv A outer s H E hr => ⟨_, (pss_one (ps_if (PW.pt (pw_or (pt_not (pt_val (C8.pe_c c_is_whole hr (by first | decide | omega) (by rfl) (pa_cons (pv 0) pa_nil)))) (pw_or1 (pt_cmpR op_lt (pv 0) pe_int (nomark _))))) (pss_one ps_never) pss_nil)), fun G ds vs R kr hGH hds hS hrt => ?_⟩)
  · obtain ⟨b, rfl, _⟩ := h
    rfl
  · obtain ⟨b, rfl, hR⟩ := hS
    refine st_if (et_or (et_not (et_B (ev_is_whole (ea_cons (ev_var rfl) ea_nil)))) fun _ => et_test (ev_op (ev_var rfl) ev_int rv_IB)) (fun e => ?_) (fun e => st_nil (st_end hrt hR))
    simp at e
    omega
theorem ev_check_bound {b : Nat} (h : EvA K tA ρ M [.int (b : Nat)]) : EvD K (tCall (spF K S_check_bound) [] E0 tA) ρ M .none := ev_call h fun R r => ⟨b, rfl, r⟩
def S_check_both (ds : List PD) (R : PD → Prop) : Prop := ∃ (n : Nat) (F : List (List Int)) (b : Nat), ds = [fm F, .int (b : Nat)] ∧ IsF n F ∧ R .none
abbrev N_check_both : List Str := ["form", "bound"]
theorem sc_check_both : FnScope N_check_both ["form", "bound"] (defScope s_check_both) := ⟨rfl, rfl, rfl, by decide +kernel, rfl, by decide +kernel, by decide +kernel⟩
theorem ok_check_both (T : Tx K mg) : C8.Cal P w K mg base 7 "check_both" (spF K S_check_both) [] := by
  have c_check_form := ok_check_form (P := P) (w := w) (base := base) T
  have c_check_bound := ok_check_bound (P := P) (w := w) (base := base) T
  refine cal_of T.f_check_both (fun _ _ _ _ _ _ us hl => match us, hl with | [_, _], _ => rfl) sc_check_both (fun ds R h => ?_) (fun cdv A outer s H E hr => ⟨_, (pss_cons (ps_expr (C8.pe_c c_check_form hr (by first | decide | omega) (by rfl) (pa_cons (pv 0) pa_nil)))
      (pss_one (ps_expr (C8.pe_c c_check_bound hr (by first | decide | omega) (by rfl) (pa_cons (pv 1) pa_nil))))), fun G ds vs R kr hGH hds hS hrt => ?_⟩)
  · obtain ⟨n, F, b, rfl, _⟩ := h
    rfl
  · obtain ⟨n, F, b, rfl, hF, hR⟩ := hS
    exact st_seq (st_drop (ev_check_form (ea_cons (ev_var rfl) ea_nil) hF) (st_drop (ev_check_bound (ea_cons (ev_var rfl) ea_nil)) (st_end hrt hR)))
theorem ev_check_both {n : Nat} {F : List (List Int)} {b : Nat} (h : EvA K tA ρ M [fm F, .int (b : Nat)]) (hF : IsF n F) : EvD K (tCall (spF K S_check_both) [] E0 tA) ρ M .none := ev_call h fun R r => ⟨n, F, b, rfl, hF, r⟩
def S_check_part (ds : List PD) (R : PD → Prop) : Prop := ds = [.int 2] ∧ R .none
abbrev N_check_part : List Str := ["m"]
theorem sc_check_part : FnScope N_check_part ["m"] (defScope s_check_part) := ⟨rfl, rfl, rfl, by decide +kernel, rfl, by decide +kernel, by decide +kernel⟩
theorem ok_check_part (T : Tx K mg) : C8.Cal P w K mg base 2 "check_part" (spF K S_check_part) [] := by
  have c_is_whole := ok_is_whole (P := P) (w := w) (base := base) T
  refine cal_of T.f_check_part (fun _ _ _ _ _ _ us hl => match us, hl with | [_], _ => rfl) sc_check_part (fun ds R h => ?_) (fun cdv A outer s H E hr => ⟨_, (pss_one (ps_if (PW.pt (pw_or (pt_not (pt_val (C8.pe_c c_is_whole hr (by first | decide | omega) (by rfl) (pa_cons (pv 0) pa_nil)))) (pw_or1 (pt_not (pt_chain op_le op_le pe_int (pv 0) pe_int))))) (pss_one ps_never) pss_nil)), fun G ds vs R kr hGH hds hS hrt => ?_⟩)
  · obtain ⟨rfl, _⟩ := h
    rfl
  · obtain ⟨rfl, hR⟩ := hS
    refine st_if (et_or (et_not (et_B (ev_is_whole (ea_cons (ev_var rfl) ea_nil)))) fun _ => et_not (et_test (ev_chain (k1 := true) (k2 := true) ev_int (ev_var rfl) ev_int rv_IB fun _ => rv_IB))) (fun e => by cases e) (fun e => st_nil (st_end hrt hR))
theorem ev_check_part (h : EvA K tA ρ M [.int 2]) : EvD K (tCall (spF K S_check_part) [] E0 tA) ρ M .none := ev_call h fun R r => ⟨rfl, r⟩
def nspot (n : Nat) : PD := .tuple (List.replicate n (fr 0))
def S_is_spot (ds : List PD) (R : PD → Prop) : Prop := ∃ n : Nat, ds = [nspot n, .int (n : Nat)] ∧ n ≤ 3 ∧ R (.bool true)
abbrev N_is_spot : List Str := ["thing", "size", "part"]
theorem sc_is_spot : FnScope N_is_spot ["thing", "size"] (defScope s_is_spot) := ⟨rfl, rfl, rfl, by decide +kernel, rfl, by decide +kernel, by decide +kernel⟩
theorem ok_is_spot (T : Tx K mg) : C8.Cal P w K mg base 4 "is_spot" (spF K S_is_spot) [] := by
  have c_is_fraction := ok_is_fraction (P := P) (w := w) (base := base) T
  refine cal_of T.f_is_spot (fun _ _ _ _ _ _ us hl => match us, hl with | [_, _], _ => rfl) sc_is_spot (fun ds R h => ?_) (fun cdv A outer s H E hr => ⟨_, (pss_cons (ps_if (PW.pt (pw_or (pt_not (pt_val (pe_callB (isiK (K := K) rfl) (by rfl) T.b_isinstance (by decide +kernel) (pa_cons (pv 0) (pa_cons (pe_bltn (v := .ty "tuple") (by rfl) T.b_tuple (by decide +kernel) rfl) pa_nil))))) (pw_or1 (pt_cmpR op_ne (pe_callB (lenK (K := K) rfl) (by rfl) T.b_len (by decide +kernel) (pa_cons (pv 0) pa_nil)) (pv 1) (nomark _))))) (pss_one (ps_ret pe_bl)) pss_nil)
      (pss_one (ps_ret (pe_callB (allK (K := K) rfl rfl) (by rfl) T.b_all (by decide +kernel) (pa_cons (pe_lc (own := [("part", 2)]) (g := (gName 2)) (tt := tYes) rfl sc_is_spot.nd (pi_tupK (K := K) rfl (pv 0)) (blkOk_by (own := [("part", 2)]) (N := N_is_spot) (sc := (defScope s_is_spot)) (by decide +kernel)) (fun _ _ _ _ _ => (pg_name (i := 2) sc_is_spot.nd rfl (Or.inl rfl))) (fun _ _ _ _ _ => pts_nil) (fun _ _ _ _ _ => (C8.pe_c c_is_fraction hr (by first | decide | omega) (by rfl) (pa_cons (pv 2) pa_nil)))) pa_nil))))), fun G ds vs R kr hGH hds hS hrt => ?_⟩)
  · obtain ⟨n, rfl, _⟩ := h
    rfl
  · obtain ⟨n, rfl, hn, hR⟩ := hS
    have e0 : nspot n = .tuple ((List.replicate n ()).map fun _ => fr 0) := by rw [List.map_replicate]; rfl
    rw [e0]
    refine st_seq (st_if (et_or (et_not (et_B (ev_isi (b := true) (ev_var rfl) kit_tt))) fun _ => et_test (ev_op (ev_cb (ea_cons (ev_var rfl) ea_nil) rc_lenT) (ev_var rfl) rv_ne)) (fun e => ?_) (fun e => ?_))
    · simp at e
    · refine st_nil (st_ret (EvD.is (ev_cb (ea_cons (EvL.toD (EvL.is (el_mapA (List.replicate n ()) (fun _ => fr 0) (fun _ => .bool true) (ei_tup (ev_var rfl)) (by rw [List.length_replicate]; omega) (fun j q hq => ?_)) ?_)) ea_nil) (rc_all (bs := (List.replicate n ()).map fun _ => true))) ?_) hrt hR)
      · exact ⟨_, _, by simp, tg_name, ev_is_fraction (ea_cons (ev_var rfl) ea_nil)⟩
      · simp [Function.comp_def]
      · rw [all_true]
theorem ev_is_spot {n : Nat} (h : EvA K tA ρ M [nspot n, .int (n : Nat)]) (hn : n ≤ 3) : EvD K (tCall (spF K S_is_spot) [] E0 tA) ρ M (.bool true) := ev_call h fun R r => ⟨n, rfl, hn, r⟩
def S_check_spot (ds : List PD) (R : PD → Prop) : Prop := ∃ (n : Nat) (F : List (List Int)), ds = [fm F, nspot n] ∧ IsF n F ∧ R .none
abbrev N_check_spot : List Str := ["form", "spot"]
theorem sc_check_spot : FnScope N_check_spot ["form", "spot"] (defScope s_check_spot) := ⟨rfl, rfl, rfl, by decide +kernel, rfl, by decide +kernel, by decide +kernel⟩
theorem ok_check_spot (T : Tx K mg) : C8.Cal P w K mg base 5 "check_spot" (spF K S_check_spot) [] := by
  have c_is_spot := ok_is_spot (P := P) (w := w) (base := base) T
  refine cal_of T.f_check_spot (fun _ _ _ _ _ _ us hl => match us, hl with | [_, _], _ => rfl) sc_check_spot (fun ds R h => ?_) (fun cdv A outer s H E hr => ⟨_, (pss_one (ps_if (pt_not (pt_val (C8.pe_c c_is_spot hr (by first | decide | omega) (by rfl) (pa_cons (pv 1) (pa_cons (pe_callB (lenK (K := K) rfl) (by rfl) T.b_len (by decide +kernel) (pa_cons (pv 0) pa_nil)) pa_nil))))) (pss_one ps_never) pss_nil)), fun G ds vs R kr hGH hds hS hrt => ?_⟩)
  · obtain ⟨n, F, rfl, _⟩ := h
    rfl
  · obtain ⟨n, F, rfl, hF, hR⟩ := hS
    exact st_if (et_not (et_B (ev_is_spot (n := n) (ea_cons (ev_var rfl) (ea_cons (EvD.is (ev_cb (ea_cons (ev_var rfl) ea_nil) (rc_lenT (ds := F.map pt))) (by rw [List.length_map, hF.mx.len])) ea_nil)) hF.n3))) (fun e => by cases e) (fun e => st_nil (st_end hrt hR))
theorem ev_check_spot {n : Nat} {F : List (List Int)} (h : EvA K tA ρ M [fm F, nspot n]) (hF : IsF n F) : EvD K (tCall (spF K S_check_spot) [] E0 tA) ρ M .none := ev_call h fun R r => ⟨n, F, rfl, hF, r⟩
/-! ### determinant -/
def S_determinant (ds : List PD) (R : PD → Prop) : Prop := ∃ (n : Nat) (F : List (List Int)), ds = [fm F] ∧ IsF n F ∧ R (.int (wdet n F))
abbrev N_determinant : List Str := ["form"]
theorem sc_determinant : FnScope N_determinant ["form"] (defScope s_determinant) := ⟨rfl, rfl, rfl, by decide +kernel, rfl, by decide +kernel, by decide +kernel⟩
theorem ok_determinant (T : Tx K mg) : C8.Cal P w K mg base 7 "determinant" (spF K S_determinant) [] := by
  have c_check_form := ok_check_form (P := P) (w := w) (base := base) T
  have c_worthT := ok_worthT (P := P) (w := w) (base := base) T
  refine cal_of T.f_determinant (fun _ _ _ _ _ _ us hl => match us, hl with | [_], _ => rfl) sc_determinant (fun ds R h => ?_) (fun cdv A outer s H E hr => ⟨_, (pss_cons (ps_expr (C8.pe_c c_check_form hr (by first | decide | omega) (by rfl) (pa_cons (pv 0) pa_nil)))
      (pss_one (ps_ret (C8.pe_c c_worthT hr (by first | decide | omega) (by rfl) (pa_cons (pv 0) pa_nil))))), fun G ds vs R kr hGH hds hS hrt => ?_⟩)
  · obtain ⟨n, F, rfl, _⟩ := h
    rfl
  · obtain ⟨n, F, rfl, hF, hR⟩ := hS
    exact st_seq (st_drop (ev_check_form (ea_cons (ev_var rfl) ea_nil) hF) (st_ret (ev_worthT (ea_cons (ev_var rfl) ea_nil) hF.n1 hF.n3 hF.mx) hrt hR))
theorem ev_determinant {n : Nat} {F : List (List Int)} (h : EvA K tA ρ M [fm F]) (hF : IsF n F) : EvD K (tCall (spF K S_determinant) [] E0 tA) ρ M (.int (wdet n F)) := ev_call h fun R r => ⟨n, F, rfl, hF, r⟩
end
end Lc

namespace Lc
open PySem PySem.Spec PyProof.Rows L2 RZ
/-! ### ends -/
def flo (q : Rat) : Int := q.num / (q.den : Int)
theorem ediv_abs {a b : Int} (hb : 0 < b) : (a / b).natAbs ≤ a.natAbs := by
  rcases Int.lt_or_le a 0 with h | h
  · have h1 : a ≤ a / b := by
      rw [Int.le_ediv_iff_mul_le hb]
      have : a * b ≤ a * 1 := Int.mul_le_mul_of_nonpos_left (by omega) (by omega)
      omega
    have h2 : a / b < 0 := Int.ediv_neg_of_neg_of_pos h hb
    omega
  · have h1 : 0 ≤ a / b := Int.ediv_nonneg h (by omega)
    have h2 : a / b ≤ a := Int.ediv_le_self _ h
    omega
theorem flo_sz {n : Nat} {q : Rat} (h : Sz n q) : (flo q).natAbs < 2 ^ n := Nat.lt_of_le_of_lt (ediv_abs (den_pos q)) h.num
def farM (w c : Rat) : Nat := (rt (flo (c / w)) + 1).toNat
def endL (w m c : Rat) : List Int := (List.range (2 * farM w c + 2)).map fun (i : Nat) => flo m - (farM w c : Int) + (i : Int)
def keepX (w m c : Rat) (x : Int) : Bool := !decide (c / w < ((x : Rat) - m) * ((x : Rat) - m))
def endsM (w m c : Rat) : List Int := (endL w m c).filter (keepX w m c)
structure EndOk (w m c : Rat) : Prop where
  pos : 0 < w
  sw : Sz 260 w
  sm : Sz 300 m
  sc : Sz 3000 c
  fm : (flo m).natAbs < 2 ^ 40
  fc : flo (c / w) < 1000000
theorem EndOk.far {w m c : Rat} (h : EndOk w m c) : (farM w c : Int) = rt (flo (c / w)) + 1 ∧ farM w c ≤ 1000 := by
  have h0 := rt_nonneg (flo (c / w))
  have h1 : rt (flo (c / w)) < 1000 := by
    rcases Int.lt_or_le (flo (c / w)) 0 with z | z
    · rw [rt_neg (by omega)]
      decide
    · have h2 := rt_le z
      have h3 := h.fc
      exact sq_lt h0 (by omega) (by decide)
  unfold farM
  omega
section
variable {P : Program} {w : World} {K : PySem.W.Frag} {mg : Str → Option Value} {base : Heap} {ρ : List Sl} {M : Mt} {tA : TA} {te tb : TE}
theorem ev_num {q : Rat} {t : TE} (h : EvD K t ρ M (fr q)) : EvD K (tOp (rIxT K) t (tC (.int 0))) ρ M (.int q.num) := ev_op h ev_int (rv_ixT (ds := [.int q.num, .int (q.den : Int)]) rfl)
theorem ev_den {q : Rat} {t : TE} (h : EvD K t ρ M (fr q)) : EvD K (tOp (rIxT K) t (tC (.int 1))) ρ M (.int (q.den : Int)) := ev_op h ev_int (rv_ixT (ds := [.int q.num, .int (q.den : Int)]) rfl)
theorem den_div {n : Nat} {q : Rat} (h : Sz n q) (hn : n ≤ 8999) (i : Int) : CDivW i (q.den : Int) := cdiv (den_pos q) (show (q.den : Int).natAbs < 2 ^ n from h.den) hn
def S_ends (ds : List PD) (R : PD → Prop) : Prop := ∃ w m c : Rat, ds = [fr w, fr m, fr c] ∧ EndOk w m c ∧ R (.list ((endsM w m c).map .int))
abbrev N_ends : List Str := ["weight", "middle", "bound", "wide", "far", "found", "x", "off"]
theorem sc_ends : FnScope N_ends ["weight", "middle", "bound"] (defScope s_ends) := ⟨rfl, rfl, rfl, by decide +kernel, rfl, by decide +kernel, by decide +kernel⟩
theorem ok_ends (T : Tx K mg) : C8.Cal P w K mg base 4 "ends" (spF K S_ends) [] := by
  have c_over := ok_over (P := P) (w := w) (base := base) T
  have c_root := ok_root (P := P) (w := w) (base := base) T
  have c_minus := ok_minus (P := P) (w := w) (base := base) T
  have c_is_less := ok_is_less (P := P) (w := w) (base := base) T
  have c_times := ok_times (P := P) (w := w) (base := base) T
  refine cal_of T.f_ends (fun _ _ _ _ _ _ us hl => match us, hl with | [_, _, _], _ => rfl) sc_ends (fun ds R h => ?_) (fun cdv A outer s H E hr => ⟨_, (pss_cons (ps_set (i := 3) sc_ends.nd rfl (Or.inl rfl) (C8.pe_c c_over hr (by first | decide | omega) (by rfl) (pa_cons (pv 2) (pa_cons (pv 0) pa_nil))))
      (pss_cons (ps_set (i := 4) sc_ends.nd rfl (Or.inl rfl) (pe_op op_add (C8.pe_c c_root hr (by first | decide | omega) (by rfl) (pa_cons (pe_op op_fdivW (pe_ix (ix_tupK (K := K) rfl) (pv 3) pe_int (fun _ _ => rfl)) (pe_ix (ix_tupK (K := K) rfl) (pv 3) pe_int (fun _ _ => rfl))) pa_nil)) pe_int))
      (pss_cons (ps_set (i := 5) sc_ends.nd rfl (Or.inl rfl) (pe_lst pa_nil))
      (pss_cons (ps_for PassesOwn.never rfl (pi_range2 (by rfl) T.b_range (pa_cons (pe_op op_sub (pe_op op_fdivW (pe_ix (ix_tupK (K := K) rfl) (pv 1) pe_int (fun _ _ => rfl)) (pe_ix (ix_tupK (K := K) rfl) (pv 1) pe_int (fun _ _ => rfl))) (pv 4)) (pa_cons (pe_op op_add (pe_op op_add (pe_op op_fdivW (pe_ix (ix_tupK (K := K) rfl) (pv 1) pe_int (fun _ _ => rfl)) (pe_ix (ix_tupK (K := K) rfl) (pv 1) pe_int (fun _ _ => rfl))) (pv 4)) pe_int) pa_nil))) (pg_name (i := 6) sc_ends.nd rfl (Or.inl rfl)) (pss_cons (ps_set (i := 7) sc_ends.nd rfl (Or.inl rfl) (C8.pe_c c_minus hr (by first | decide | omega) (by rfl) (pa_cons (pe_tup (pa_cons (pv 6) (pa_cons pe_int pa_nil))) (pa_cons (pv 1) pa_nil))))
        (pss_one (ps_if (pt_not (pt_val (C8.pe_c c_is_less hr (by first | decide | omega) (by rfl) (pa_cons (pv 3) (pa_cons (C8.pe_c c_times hr (by first | decide | omega) (by rfl) (pa_cons (pv 7) (pa_cons (pv 7) pa_nil))) pa_nil))))) (pss_one (ps_expr (pe_bmK (K := K) rfl PySem.F.plainAttrs_list PySem.F.slot_list_append PySem.F.type_list_append mt_append (pv 5) (pa_cons (pv 6) pa_nil)))) pss_nil))))
      (pss_one (ps_ret (pv 5))))))), fun G ds vs R kr hGH hds hS hrt => ?_⟩)
  · obtain ⟨w, m, c, rfl, _⟩ := h
    rfl
  · obtain ⟨w, m, c, rfl, ho, hR⟩ := hS
    have hwide := ho.sc.div ho.sw ho.pos
    obtain ⟨hf, hf4⟩ := ho.far
    refine st_seq (st_set (ev_over (ea_cons (ev_var rfl) (ea_cons (ev_var rfl) ea_nil)) ho.sc ho.sw (by decide) ho.pos) ?_)
    refine st_seq (st_set (EvD.is (ev_op (ev_root (ea_cons (ev_op (ev_num (ev_var rfl)) (ev_den (ev_var rfl)) (rv_IC (den_div hwide (by decide) _))) ea_nil) (pw_le (flo_sz hwide) (by decide))) ev_int rv_II) (congrArg PyData.int hf.symm)) ?_)
    refine st_seq (st_newM (ev_lst ea_nil (by decide)) fun p => ?_)
    refine st_seq (st_for (fun i => [.d (fr w), .d (fr m), .d (fr c), .d (fr (c / w)), .d (.int (farM w c : Int)), .r p, .no, .no]) (fun i => [(p, (((endL w m c).take i).filter (keepX w m c)).map .int)])
      (ei_rng2 (ea_cons (ev_op (ev_op (ev_num (ev_var rfl)) (ev_den (ev_var rfl)) (rv_IC (den_div ho.sm (by decide) _))) (ev_var rfl) rv_II) (ea_cons (ev_op (ev_op (ev_op (ev_num (ev_var rfl)) (ev_den (ev_var rfl)) (rv_IC (den_div ho.sm (by decide) _))) (ev_var rfl) rv_II) ev_int rv_II) ea_nil)) ?_)
      (by repeat' (first | exact True.intro | exact Or.inr rfl | exact Or.inl rfl | refine And.intro ?_ ?_)) rfl (fun A i d hd N hN => ?_) ?_)
    · have := ho.fm
      show -(2 ^ 62) ≤ flo m - (farM w c : Int) ∧ flo m - (farM w c : Int) < 2 ^ 62 ∧ -(2 ^ 62) ≤ flo m + (farM w c : Int) + 2 ∧ flo m + (farM w c : Int) + 2 < 2 ^ 62
      have e : (2 : Nat) ^ 40 = 1099511627776 := by decide
      omega
    · obtain ⟨hi, rfl⟩ := rngD_get hd
      have hfm := ho.fm
      have en : (flo m + (farM w c : Int) + 2 - (flo m - (farM w c : Int))).toNat = 2 * farM w c + 2 := by omega
      have hi : i < 2 * farM w c + 2 := by rw [← en]; exact hi
      have ex : (endL w m c)[i]? = some (flo m - (farM w c : Int) + (i : Int)) := by
        unfold endL
        rw [List.getElem?_map, List.getElem?_range hi]
        rfl
      show ∃ is ρ1, Tg K (gName 6) is (.int (flo m - (farM w c : Int) + (i : Int))) _ ρ1 ∧ _
      generalize hx : flo m - (farM w c : Int) + (i : Int) = x at *
      have e40 : (2 : Nat) ^ 40 = 1099511627776 := by decide
      have hxs : Sz 41 (x : Rat) := Sz.int (by have e41 : (2 : Nat) ^ 41 = 2199023255552 := by decide
                                               omega) (by decide)
      have hoff := hxs.sub ho.sm
      have hoo := hoff.mul hoff
      refine ⟨_, _, tg_name, st_seq (st_set (ev_minus (ea_cons (EvD.is (ev_tup (ea_cons (ev_var rfl) (ea_cons ev_int ea_nil)) (by simp)) (frI x)) (ea_cons (ev_var rfl) ea_nil)) hxs ho.sm (by decide))
        (st_if (et_not (et_B (ev_is_less (ea_cons (ev_var rfl) (ea_cons (ev_times (ea_cons (ev_var rfl) (ea_cons (ev_var rfl) ea_nil)) hoff hoff (by decide)) ea_nil)) hwide hoo (by decide)))) (fun e => ?_) (fun e => ?_)))⟩
      · refine st_append (i := 5) rfl (ev_var rfl) (by
          rw [List.length_map]
          refine Nat.le_trans (List.length_filter_le _ _) (Nat.le_trans (List.length_take_le _ _) ?_)
          omega) ?_
        have e2 : (((endL w m c).take i).filter (keepX w m c)).map PyData.int ++ [PyData.int x] = (((endL w m c).take (i + 1)).filter (keepX w m c)).map PyData.int := by
          rw [List.take_add_one, ex, List.filter_append, List.map_append]
          show _ = _ ++ ([x].filter _).map _
          rw [List.filter_cons_of_pos (show keepX w m c x = true from e)]
          rfl
        rw [e2]
        exact hN.wkn (by repeat' (first | exact True.intro | exact Or.inr rfl | exact Or.inl rfl | refine And.intro ?_ ?_))
      · have e2 : ((endL w m c).take (i + 1)).filter (keepX w m c) = ((endL w m c).take i).filter (keepX w m c) := by
          rw [List.take_add_one, ex, List.filter_append]
          show _ ++ ([x].filter _) = _
          rw [List.filter_cons_of_neg (by rw [show keepX w m c x = false from e]; decide), List.filter_nil, List.append_nil]
        rw [e2] at hN
        exact st_nil (hN.wkn (by repeat' (first | exact True.intro | exact Or.inr rfl | exact Or.inl rfl | refine And.intro ?_ ?_)))
    · rw [rngD_len]
      refine Nx.frz 5 rfl (st_ret (ev_var rfl) hrt ?_)
      have hl : (endL w m c).length = 2 * farM w c + 2 := by unfold endL; rw [List.length_map, List.length_range]
      have en : (flo m + (farM w c : Int) + 2 - (flo m - (farM w c : Int))).toNat = 2 * farM w c + 2 := by omega
      have e3 : (endL w m c).take (flo m + (farM w c : Int) + 2 - (flo m - (farM w c : Int))).toNat = endL w m c := by
        rw [en, ← hl, List.take_length]
      show R (.list ((((endL w m c).take (flo m + (farM w c : Int) + 2 - (flo m - (farM w c : Int))).toNat).filter _).map _))
      rw [e3]
      exact hR
theorem ev_ends {w m c : Rat} (h : EvA K tA ρ M [fr w, fr m, fr c]) (ho : EndOk w m c) : EvD K (tCall (spF K S_ends) [] E0 tA) ρ M (.list ((endsM w m c).map .int)) := ev_call h fun R r => ⟨w, m, c, rfl, ho, r⟩
end
end Lc

namespace Lc
open PySem PySem.Spec PyProof.Rows L2 RZ
/-! ### squares -/
def rqOf (a : Nat → Nat → Rat) (k j : Nat) : Rat := if k ≤ j then a k j / a k k else 0
def lq (F : List (List Int)) : Nat → Nat → Nat → Rat
  | 0 => fun i j => ((ent F i j : Int) : Rat)
  | k + 1 => fun i j => lq F k i j - lq F k k k * (rqOf (lq F k) k i * rqOf (lq F k) k j)
def wq (F : List (List Int)) (k : Nat) : Rat := lq F k k k
def rwq (F : List (List Int)) (k j : Nat) : Rat := rqOf (lq F k) k j
structure SqOk (n : Nat) (F : List (List Int)) : Prop where
  pos : ∀ k, k < n → 0 < wq F k
  sl : ∀ k i j, k < n → i < n → j < n → Sz 260 (lq F k i j)
  sr : ∀ k j, k < n → j < n → Sz 600 (rwq F k j)
def lrow (F : List (List Int)) (n k i : Nat) : List PD := (List.range n).map fun j => fr (lq F k i j)
def sqD (F : List (List Int)) (n k : Nat) : List PD := (List.range k).map fun k' => .tuple [fr (wq F k'), .tuple ((List.range n).map fun j => fr (rwq F k' j))]
theorem lrow_get {F : List (List Int)} {n k i j : Nat} (h : j < n) : (lrow F n k i)[j]? = some (fr (lq F k i j)) := by
  unfold lrow
  rw [List.getElem?_map, List.getElem?_range h]
  rfl
def mixr (F : List (List Int)) (n k i j : Nat) : List PD := (List.range n).map fun j' => fr (if j' < j then lq F (k + 1) i j' else lq F k i j')
theorem mixr_get {F : List (List Int)} {n k i j j' : Nat} (h : j' < n) : (mixr F n k i j)[j']? = some (fr (if j' < j then lq F (k + 1) i j' else lq F k i j')) := by
  unfold mixr
  rw [List.getElem?_map, List.getElem?_range h]
  rfl
theorem mixr_len {F : List (List Int)} {n k i j : Nat} : (mixr F n k i j).length = n := by simp [mixr]
theorem mixr_zero {F : List (List Int)} {n k i : Nat} : mixr F n k i 0 = lrow F n k i := by simp [mixr, lrow]
theorem mixr_all {F : List (List Int)} {n k i : Nat} : mixr F n k i n = lrow F n (k + 1) i := by
  unfold mixr lrow
  apply List.map_congr_left
  intro j hj
  rw [if_pos (List.mem_range.mp hj)]
theorem mixr_set {F : List (List Int)} {n k i j : Nat} (h : j < n) : (mixr F n k i j).set j (fr (lq F (k + 1) i j)) = mixr F n k i (j + 1) := by
  apply List.ext_getElem?
  intro m
  by_cases hm : m < n
  · by_cases e : j = m
    · subst e
      rw [List.getElem?_set_self (by rw [mixr_len]; exact h), mixr_get hm, if_pos (by omega)]
    · rw [List.getElem?_set_ne e, mixr_get hm, mixr_get hm]
      by_cases h1 : m < j
      · rw [if_pos h1, if_pos (by omega)]
      · rw [if_neg h1, if_neg (by omega)]
  · rw [List.getElem?_eq_none (by rw [List.length_set, mixr_len]; omega), List.getElem?_eq_none (by rw [mixr_len]; omega)]
section
variable {P : Program} {w : World} {K : PySem.W.Frag} {mg : Str → Option Value} {base : Heap} {ρ : List Sl} {M : Mt} {tA : TA} {te tb : TE} {B : Bs} {D : Ends} {g : TG} {wi : TI} {vs : List Nat}
def S_squares (ds : List PD) (R : PD → Prop) : Prop := ∃ (n : Nat) (F : List (List Int)), ds = [fm F] ∧ n ≤ 3 ∧ Mx n F ∧ SqOk n F ∧ R (.list (sqD F n n))
/-- x = [[..] ..]: a list of lists that may change -/
theorem st_setFresh {i : Nat} {α : Type} {l : List α} {enc : α → PD} (c : Nat → List PD) (hw : EvI K wi ρ [] (l.map enc)) (hlen : l.length ≤ 10000000)
    (hs : ∀ (j : Nat) (a : α), l[j]? = some a → ∃ is ρ1, (∀ k ∈ is, k ∈ vs) ∧ Tg K g is (enc a) (wipeR ρ vs) ρ1 ∧ EvL K te ρ1 [] (c j))
    (q : ∀ Dl ps, ps.length = l.length → Nx K B D.nx (ρ.set i (.r Dl)) ((Dl, ps.mapIdx fun _ p => adr p) :: Mrows ps c)) : Nx K B (tAsg (tLc wi g tYes te vs) (gName i) D) ρ [] := fun σ G H a => by
  refine lc_fresh (fun _ => adr) c hw (by rw [List.length_map]; exact hlen) (fun j d hd => ?_) σ G H a.now _ fun Dl ps G2 H2 hl F => ?_
  · obtain ⟨x, hx, rfl⟩ := map_getA hd
    obtain ⟨is, ρ1, h1, h2, h3⟩ := hs j x hx
    exact ⟨is, ρ1, h1, h2, h3.toM⟩
  · have a2 := a.frs F
    exact q Dl ps (by rw [hl, List.length_map]) _ G2 H2 (a2.env (env_set (show SlOk K G2 (some (.ref Dl)) (.r Dl) from rfl) i a2.now.env))
abbrev N_squares : List Str := ["form", "size", "left", "found", "k", "weight", "row", "i", "j", "one"]
theorem sc_squares : FnScope N_squares ["form"] (defScope s_squares) := ⟨rfl, rfl, rfl, by decide +kernel, rfl, by decide +kernel, by decide +kernel⟩
theorem ok_squares (T : Tx K mg) : C8.Cal P w K mg base 4 "squares" (spF K S_squares) [] := by
  have c_over := ok_over (P := P) (w := w) (base := base) T
  have c_minus := ok_minus (P := P) (w := w) (base := base) T
  have c_times := ok_times (P := P) (w := w) (base := base) T
  refine cal_of T.f_squares (fun _ _ _ _ _ _ us hl => match us, hl with | [_], _ => rfl) sc_squares (fun ds R h => ?_) (fun cdv A outer s H E hr => ⟨_, (pss_cons (ps_set (i := 1) sc_squares.nd rfl (Or.inl rfl) (pe_callB (lenK (K := K) rfl) (by rfl) T.b_len (by decide +kernel) (pa_cons (pv 0) pa_nil)))
      (pss_cons (ps_set (i := 2) sc_squares.nd rfl (Or.inr rfl) (pe_lc (own := [("row", 6)]) (g := (gName 6)) (tt := tYes) rfl sc_squares.nd (pi_tupK (K := K) rfl (pv 0)) (blkOk_by (own := [("row", 6)]) (N := N_squares) (sc := (defScope s_squares)) (by decide +kernel)) (fun _ _ _ _ _ => (pg_name (i := 6) sc_squares.nd rfl (Or.inl rfl))) (fun _ _ _ _ _ => pts_nil) (fun _ _ _ _ _ => (pe_lc (own := [("one", 9)]) (g := (gName 9)) (tt := tYes) rfl sc_squares.nd (pi_tupK (K := K) rfl (pv 6)) (blkOk_by (own := [("one", 9)]) (N := N_squares) (sc := (relS _ (defScope s_squares))) (by decide +kernel)) (fun _ _ _ _ _ => (pg_name (i := 9) sc_squares.nd rfl (Or.inl rfl))) (fun _ _ _ _ _ => pts_nil) (fun _ _ _ _ _ => (pe_tup (pa_cons (pv 9) (pa_cons pe_int pa_nil))))))))
      (pss_cons (ps_set (i := 3) sc_squares.nd rfl (Or.inl rfl) (pe_lst pa_nil))
      (pss_cons (ps_for PassesOwn.never rfl (pi_range1 (by rfl) T.b_range (pa_cons (pv 1) pa_nil)) (pg_name (i := 4) sc_squares.nd rfl (Or.inr rfl)) (pss_cons (ps_set (i := 5) sc_squares.nd rfl (Or.inr rfl) (pe_ix (ix_listK (K := K) rfl) (pe_ix (ix_listK (K := K) rfl) (pv 2) (pv 4) (fun _ _ => rfl)) (pv 4) (fun _ _ => rfl)))
        (pss_cons (ps_setLc (i := 6) (own := [("j", 8)]) (g := (gName 8)) (tt := tYes) rfl sc_squares.nd rfl rfl (sw_true rfl rfl rfl (by decide +kernel)) (pi_range1 (by rfl) T.b_range (pa_cons (pv 1) pa_nil)) (blkOk_by (own := [("j", 8)]) (N := N_squares) (sc := (defScope s_squares)) (by decide +kernel)) (fun _ _ _ _ _ => (pg_name (i := 8) sc_squares.nd rfl (Or.inl rfl))) (fun _ _ _ _ _ => pts_nil) (fun _ _ _ _ _ => (pe_ifExp (pt_cmpR op_ge (pv 8) (pv 4) (nomark _)) (C8.pe_c c_over hr (by first | decide | omega) (by rfl) (pa_cons (pe_ix (ix_listK (K := K) rfl) (pe_ix (ix_listK (K := K) rfl) (pv 2) (pv 4) (fun _ _ => rfl)) (pv 8) (fun _ _ => rfl)) (pa_cons (pv 5) pa_nil))) (pe_tup (pa_cons pe_int (pa_cons pe_int pa_nil))))))
        (pss_cons (ps_expr (pe_bmK (K := K) rfl PySem.F.plainAttrs_list PySem.F.slot_list_append PySem.F.type_list_append mt_append (pv 3) (pa_cons (pe_tup (pa_cons (pv 5) (pa_cons (pe_callTy (tupK (K := K) rfl) (by rfl) T.b_tuple (by decide +kernel) (pa_cons (pv 6) pa_nil)) pa_nil))) pa_nil)))
        (pss_one (ps_for PassesOwn.never rfl (pi_range1 (by rfl) T.b_range (pa_cons (pv 1) pa_nil)) (pg_name (i := 7) sc_squares.nd rfl (Or.inl rfl)) (pss_one (ps_for PassesOwn.never rfl (pi_range1 (by rfl) T.b_range (pa_cons (pv 1) pa_nil)) (pg_name (i := 8) sc_squares.nd rfl (Or.inl rfl)) (pss_one (ps_asg (C8.pe_c c_minus hr (by first | decide | omega) (by rfl) (pa_cons (pe_ix (ix_listK (K := K) rfl) (pe_ix (ix_listK (K := K) rfl) (pv 2) (pv 7) (fun _ _ => rfl)) (pv 8) (fun _ _ => rfl)) (pa_cons (C8.pe_c c_times hr (by first | decide | omega) (by rfl) (pa_cons (pv 5) (pa_cons (C8.pe_c c_times hr (by first | decide | omega) (by rfl) (pa_cons (pe_ix (ix_listK (K := K) rfl) (pv 6) (pv 7) (fun _ _ => rfl)) (pa_cons (pe_ix (ix_listK (K := K) rfl) (pv 6) (pv 8) (fun _ _ => rfl)) pa_nil))) pa_nil))) pa_nil))) (pg_sub (pe_ix (ix_listK (K := K) rfl) (pv 2) (pv 7) (fun _ _ => rfl)) (pv 8) set_list)))))))))))
      (pss_one (ps_ret (pv 3))))))), fun G ds vs R kr hGH hds hS hrt => ?_⟩)
  · obtain ⟨n, F, rfl, _⟩ := h
    rfl
  · obtain ⟨n, F, rfl, hn, hF, hQ, hR⟩ := hS
    have hlen : (F.map pt).length = n := by rw [List.length_map, hF.len]
    refine st_seq (st_set (EvD.is (ev_cb (ea_cons (ev_var rfl) ea_nil) (rc_lenT (ds := F.map pt))) (congrArg (fun k : Nat => PyData.int (k : Nat)) hlen)) ?_)
    refine st_seq (st_setFresh (l := F) (enc := pt) (fun i => lrow F n 0 i) (ei_tup (ev_var rfl)) (by rw [hF.len]; omega) (fun i r hr => ?_) fun Dl ps hps => ?_)
    · have hi : i < n := by have := (List.getElem?_eq_some_iff.mp hr).1; rw [hF.len] at this; exact this
      have hrl := hF.row r (List.mem_of_getElem? hr)
      refine ⟨_, _, by simp, tg_name, EvL.is (el_mapA r .int (fun x => .tuple [.int x, .int 1]) (ei_tup (ev_var rfl)) (by omega) fun j x hx => ⟨_, _, by simp, tg_name, ev_tup (ea_cons (ev_var rfl) (ea_cons ev_int ea_nil)) (by simp)⟩) ?_⟩
      unfold lrow
      apply List.ext_getElem?
      intro j
      rw [List.getElem?_map, List.getElem?_map]
      by_cases hj : j < n
      · rw [List.getElem?_range hj, List.getElem?_eq_getElem (by omega)]
        have e : ent F i j = r[j]'(by omega) := by
          have eF : F.getD i [] = r := by rw [List.getD_eq_getElem?_getD, hr]; rfl
          unfold ent
          rw [eF, List.getD_eq_getElem?_getD, List.getElem?_eq_getElem (by omega)]
          rfl
        show some (fr ((r[j]'(by omega) : Int) : Rat)) = some (fr ((ent F i j : Int) : Rat))
        rw [e]
      · rw [List.getElem?_eq_none (by omega), List.getElem?_eq_none (by simp; omega)]
        rfl
    rw [hF.len] at hps
    have hpi : ∀ i, i < n → ∃ p, ps[i]? = some p := fun i hi => ⟨ps[i]'(by omega), List.getElem?_eq_getElem (by omega)⟩
    refine st_seq (st_newM (ev_lst ea_nil (by decide)) fun pf => ?_)
    refine st_seq (st_for (fun k => [.d (fm F), .d (.int (n : Nat)), .r Dl, .r pf, .no, .no, .no, .no, .no, .no]) (fun k => (pf, sqD F n k) :: (Dl, ps.mapIdx fun _ p => adr p) :: Mrows ps (fun i => lrow F n k i)) (ei_rng1N (ea_cons (ev_var rfl) ea_nil) (by omega))
      (by repeat' (first | exact True.intro | exact Or.inr rfl | exact Or.inl rfl | refine And.intro ?_ ?_)) rfl (fun A k d hd N hN => ?_) ?_)
    · obtain ⟨k', hk', rfl⟩ := map_getA hd
      obtain ⟨hk, rfl⟩ := rng_get hk'
      obtain ⟨pk, hpk⟩ := hpi k' hk
      have hw0 := hQ.pos k' hk
      have swk : Sz 260 (wq F k') := hQ.sl k' k' k' hk hk hk
      have mD : ∀ c : Nat → List PD, ∀ y, (Dl, ps.mapIdx fun _ p => adr p) ∈ (pf, y) :: (Dl, ps.mapIdx fun _ p => adr p) :: Mrows ps c := fun c y => List.mem_cons_of_mem _ List.mem_cons_self
      have mR : ∀ (c : Nat → List PD) (y : List PD) (i : Nat) (p : Addr), ps[i]? = some p → (p, c i) ∈ (pf, y) :: (Dl, ps.mapIdx fun _ p => adr p) :: Mrows ps c := fun c y i p h => List.mem_cons_of_mem _ (List.mem_cons_of_mem _ (mrows_mem h))
      refine ⟨_, _, tg_name, st_seq (st_set (ev_ixRow (d := fr (wq F k')) rfl (mD _ _) hpk (mR _ _ _ _ hpk) (ev_var rfl) (ev_var rfl) (lrow_get hk)) ?_)⟩
      refine st_seq (st_set (EvL.toD (el_mapA (List.range n) (fun j => .int (j : Nat)) (fun j => fr (rwq F k' j)) (ei_rng1N (ea_cons (ev_var rfl) ea_nil) (by omega)) (by rw [List.length_range]; omega) fun j j' hj => ?_)) ?_)
      · obtain ⟨hj, rfl⟩ := rng_get hj
        refine ⟨_, _, by simp, tg_name, ev_if (et_test (ev_op (ev_var rfl) (ev_var rfl) rv_IB)) (fun e => ?_) (fun e => ?_)⟩
        · have e1 : ((k' : Nat) : Int) ≤ (j' : Nat) := of_decide_eq_true e
          refine EvD.is (ev_over (ea_cons (ev_ixRow (d := fr (lq F k' k' j')) rfl (mD _ _) hpk (mR _ _ _ _ hpk) (ev_var rfl) (ev_var rfl) (lrow_get hj)) (ea_cons (ev_var rfl) ea_nil)) (hQ.sl k' k' j' hk hk hj) swk (by decide) hw0) ?_
          unfold rwq rqOf
          rw [if_pos (by omega)]
          rfl
        · have e1 : ¬ ((k' : Nat) : Int) ≤ (j' : Nat) := of_decide_eq_false e
          refine EvD.is (ev_tup (ea_cons ev_int (ea_cons ev_int ea_nil)) (by decide)) ?_
          unfold rwq rqOf
          rw [if_neg (by omega)]
          rfl
      refine st_seq (st_append (i := 3) rfl (ev_tup (ea_cons (ev_var rfl) (ea_cons (ev_cb (ea_cons (ev_var rfl) ea_nil) rc_tupL) ea_nil)) (by simp)) (by unfold sqD; rw [List.length_map, List.length_range]; omega) ?_)
      have eapp : sqD F n k' ++ [PyData.tuple [fr (wq F k'), .tuple ((List.range n).map fun j => fr (rwq F k' j))]] = sqD F n (k' + 1) := by
        unfold sqD
        rw [List.range_succ, List.map_append]
        rfl
      rw [eapp]
      refine st_for (fun i => [.d (fm F), .d (.int (n : Nat)), .r Dl, .r pf, .d (.int (k' : Nat)), .d (fr (wq F k')), .d (.list ((List.range n).map fun j => fr (rwq F k' j))), .no, .no, .no]) (fun i => [(pf, sqD F n (k' + 1)), (Dl, ps.mapIdx fun _ p => adr p)] ++ Mrows ps (fun i' => if i' < i then lrow F n (k' + 1) i' else lrow F n k' i')) (ei_rng1N (ea_cons (ev_var rfl) ea_nil) (by omega))
        (by repeat' (first | exact True.intro | exact Or.inr rfl | exact Or.inl rfl | refine And.intro ?_ ?_)) (by simp) (fun A2 i d2 hd2 N2 hN2 => ?_) ?_
      · obtain ⟨i', hi', rfl⟩ := map_getA hd2
        obtain ⟨hi, rfl⟩ := rng_get hi'
        obtain ⟨pi, hpi'⟩ := hpi i' hi
        refine ⟨_, _, tg_name, st_for (fun j => [.d (fm F), .d (.int (n : Nat)), .r Dl, .r pf, .d (.int (k' : Nat)), .d (fr (wq F k')), .d (.list ((List.range n).map fun j => fr (rwq F k' j))), .d (.int (i' : Nat)), .no, .no]) (fun j => [(pf, sqD F n (k' + 1)), (Dl, ps.mapIdx fun _ p => adr p)] ++ Mrows ps (fun i'' => if i'' < i' then lrow F n (k' + 1) i'' else if i'' = i' then mixr F n k' i' j else lrow F n k' i'')) (ei_rng1N (ea_cons (ev_var rfl) ea_nil) (by omega))
          (by repeat' (first | exact True.intro | exact Or.inr rfl | exact Or.inl rfl | refine And.intro ?_ ?_)) ?_ (fun A3 j d3 hd3 N3 hN3 => ?_) ?_⟩
        · congr 1
          congr 1
          funext i''
          by_cases h1 : i'' < i'
          · rw [if_pos h1, if_pos h1]
          · rw [if_neg h1, if_neg h1]
            by_cases h2 : i'' = i'
            · subst h2
              rw [if_pos rfl, mixr_zero]
            · rw [if_neg h2]
        · obtain ⟨j', hj', rfl⟩ := map_getA hd3
          obtain ⟨hj, rfl⟩ := rng_get hj'
          have hci : (fun i'' => if i'' < i' then lrow F n (k' + 1) i'' else if i'' = i' then mixr F n k' i' j' else lrow F n k' i'') i' = mixr F n k' i' j' := by
            show (if i' < i' then _ else if i' = i' then _ else _) = _
            rw [if_neg (by omega), if_pos rfl]
          have hrow : ∀ m, m < n → ((List.range n).map fun j => fr (rwq F k' j))[m]? = some (fr (rwq F k' m)) := fun m hm => by rw [List.getElem?_map, List.getElem?_range hm]; rfl
          have srr := (hQ.sr k' i' hk hi).mul (hQ.sr k' j' hk hj)
          have swr := swk.mul srr
          refine ⟨_, _, tg_name, st_setRow (c := fun i'' => if i'' < i' then lrow F n (k' + 1) i'' else if i'' = i' then mixr F n k' i' j' else lrow F n k' i'') hpi' (ev_minus (ea_cons (ev_ixRow (L := 2) (d := fr (lq F k' i' j')) rfl (mD _ _) hpi' (mR _ _ _ _ hpi') (ev_var rfl) (ev_var rfl) ?_) (ea_cons (ev_times (ea_cons (ev_var rfl) (ea_cons (ev_times (ea_cons (ev_op (ev_var rfl) (ev_var rfl) (rv_ixLn (hrow i' hi))) (ea_cons (ev_op (ev_var rfl) (ev_var rfl) (rv_ixLn (hrow j' hj))) ea_nil)) (hQ.sr k' i' hk hi) (hQ.sr k' j' hk hj) (by decide)) ea_nil)) swk srr (by decide)) ea_nil)) (hQ.sl k' i' j' hk hi hj) swr (by decide)) (ev_ixRow1 (L := 2) rfl (mD _ _) hpi' (ev_var rfl)) (ev_var rfl) ?_ ?_⟩
          · rw [if_neg (by omega), if_pos rfl, mixr_get hj, if_neg (by omega)]
          · rw [if_neg (by omega), if_pos rfl, mixr_len]
            exact hj
          · have ec : setc (fun i'' => if i'' < i' then lrow F n (k' + 1) i'' else if i'' = i' then mixr F n k' i' j' else lrow F n k' i'') i' j' (fr (lq F (k' + 1) i' j')) = fun i'' => if i'' < i' then lrow F n (k' + 1) i'' else if i'' = i' then mixr F n k' i' (j' + 1) else lrow F n k' i'' := by
              funext i''
              unfold setc
              by_cases h2 : i'' = i'
              · subst h2
                rw [if_pos rfl, if_neg (by omega), if_pos rfl]
                dsimp only
                rw [if_neg (by omega), if_pos rfl, mixr_set hj]
              · rw [if_neg h2]
                dsimp only
                by_cases h1 : i'' < i'
                · rw [if_pos h1, if_pos h1]
                · rw [if_neg h1, if_neg h1, if_neg h2, if_neg h2]
            show Nx K _ N3 _ (_ ++ Mrows ps (setc _ i' j' (fr (lq F (k' + 1) i' j'))))
            rw [ec]
            exact hN3.wkn (by repeat' (first | exact True.intro | exact Or.inr rfl | exact Or.inl rfl | refine And.intro ?_ ?_))
        · rw [List.length_map, List.length_range]
          have ec : (fun i'' => if i'' < i' then lrow F n (k' + 1) i'' else if i'' = i' then mixr F n k' i' n else lrow F n k' i'') = fun i'' => if i'' < i' + 1 then lrow F n (k' + 1) i'' else lrow F n k' i'' := by
            funext i''
            by_cases h1 : i'' < i'
            · rw [if_pos h1, if_pos (by omega)]
            · rw [if_neg h1]
              by_cases h2 : i'' = i'
              · subst h2
                rw [if_pos rfl, if_pos (by omega), mixr_all]
              · rw [if_neg h2, if_neg (by omega)]
          rw [ec]
          exact hN2.wkn (by repeat' (first | exact True.intro | exact Or.inr rfl | exact Or.inl rfl | refine And.intro ?_ ?_))
      · rw [List.length_map, List.length_range]
        have e2 : Mrows ps (fun i' => if i' < n then lrow F n (k' + 1) i' else lrow F n k' i') = Mrows ps (fun i => lrow F n (k' + 1) i) := by
          unfold Mrows
          apply List.ext_getElem?
          intro i
          rw [List.getElem?_mapIdx, List.getElem?_mapIdx]
          dsimp only
          by_cases hi : i < n
          · rw [if_pos hi]
          · rw [List.getElem?_eq_none (by omega)]
            rfl
        rw [e2]
        exact hN.wkn (by repeat' (first | exact True.intro | exact Or.inr rfl | exact Or.inl rfl | refine And.intro ?_ ?_))
    · rw [List.length_map, List.length_range]
      exact Nx.frz 3 rfl (st_ret (ev_var rfl) hrt hR)
theorem ev_squares {n : Nat} {F : List (List Int)} (h : EvA K tA ρ M [fm F]) (hn : n ≤ 3) (hF : Mx n F) (hQ : SqOk n F) : EvD K (tCall (spF K S_squares) [] E0 tA) ρ M (.list (sqD F n n)) := ev_call h fun R r => ⟨n, F, rfl, hn, hF, hQ, r⟩
end
end Lc

namespace Lc
open PySem PySem.Spec PyProof.Rows L2 RZ

/-! ### squares_of, reach -/
theorem head_self {n : Nat} {F : List (List Int)} (h : Mx n F) : (F.take n).map (List.take n) = F := by
  rw [List.take_of_length_le (by rw [h.len]; omega)]
  have : ∀ G : List (List Int), (∀ r ∈ G, r.length = n) → G.map (List.take n) = G := by
    intro G
    induction G with
    | nil => intro _; rfl
    | cons r G ih =>
      intro hG
      rw [List.map_cons, ih fun q hq => hG q (List.mem_cons_of_mem _ hq), List.take_of_length_le (by rw [hG r List.mem_cons_self]; omega)]
  exact this F h.row
theorem IsF.det {n : Nat} {F : List (List Int)} (h : IsF n F) : 0 < wdet n F := by
  have := h.pos n h.n1 (Nat.le_refl n)
  rw [head_self h.mx] at this
  exact this
def minQ (k : Nat) (F : List (List Int)) : List (List Int) := (cutAt k F).map (cutAt k)
theorem Mx.minQ {n : Nat} {F : List (List Int)} (h : Mx (n + 1) F) {k : Nat} (hk : k < n + 1) : Mx n (minQ k F) := by
  have h0 := h.len
  refine ⟨?_, fun q hq => ?_, fun r hr x hx => ?_⟩
  · have := cutAt_len k F (by omega)
    rw [Lc.minQ, List.length_map]
    omega
  · obtain ⟨q', h1, rfl⟩ := List.mem_map.mp hq
    have h2 := h.row q' (mem_cutAt h1)
    have := cutAt_len k q' (by omega)
    omega
  · obtain ⟨q', h1, rfl⟩ := List.mem_map.mp hr
    exact h.sz q' (mem_cutAt h1) x (mem_cutAt hx)
def reachM (n : Nat) (F : List (List Int)) (b : Nat) : List Int := (List.range n).map fun k => rt ((b : Int) * wdet (n - 1) (minQ k F) / wdet n F)
section
variable {P : Program} {w : World} {K : PySem.W.Frag} {mg : Str → Option Value} {base : Heap} {ρ : List Sl} {M : Mt} {tA : TA} {te tb : TE}

def S_squares_of (ds : List PD) (R : PD → Prop) : Prop := ∃ (n : Nat) (F : List (List Int)), ds = [fm F] ∧ IsF n F ∧ SqOk n F ∧ R (.list (sqD F n n))
abbrev N_squares_of : List Str := ["form"]
theorem sc_squares_of : FnScope N_squares_of ["form"] (defScope s_squares_of) := ⟨rfl, rfl, rfl, by decide +kernel, rfl, by decide +kernel, by decide +kernel⟩
theorem ok_squares_of (T : Tx K mg) : C8.Cal P w K mg base 7 "squares_of" (spF K S_squares_of) [] := by
  have c_check_form := ok_check_form (P := P) (w := w) (base := base) T
  have c_squares := ok_squares (P := P) (w := w) (base := base) T
  refine cal_of T.f_squares_of (fun _ _ _ _ _ _ us hl => match us, hl with | [_], _ => rfl) sc_squares_of (fun ds R h => ?_) (fun cdv A outer s H E hr => ⟨_, (pss_cons (ps_expr (C8.pe_c c_check_form hr (by first | decide | omega) (by rfl) (pa_cons (pv 0) pa_nil)))
      (pss_one (ps_ret (C8.pe_c c_squares hr (by first | decide | omega) (by rfl) (pa_cons (pv 0) pa_nil))))), fun G ds vs R kr hGH hds hS hrt => ?_⟩)
  · obtain ⟨n, F, rfl, _⟩ := h
    rfl
  · obtain ⟨n, F, rfl, hF, hQ, hR⟩ := hS
    exact st_seq (st_drop (ev_check_form (ea_cons (ev_var rfl) ea_nil) hF) (st_ret (ev_squares (ea_cons (ev_var rfl) ea_nil) hF.n3 hF.mx hQ) hrt hR))
theorem ev_squares_of {n : Nat} {F : List (List Int)} (h : EvA K tA ρ M [fm F]) (hF : IsF n F) (hQ : SqOk n F) : EvD K (tCall (spF K S_squares_of) [] E0 tA) ρ M (.list (sqD F n n)) := ev_call h fun R r => ⟨n, F, rfl, hF, hQ, r⟩
def S_reach (ds : List PD) (R : PD → Prop) : Prop := ∃ (n : Nat) (F : List (List Int)) (b : Nat), ds = [fm F, .int (b : Nat)] ∧ IsF n F ∧ b < 2 ^ 40 ∧ R (pt (reachM n F b))
abbrev N_reach : List Str := ["form", "bound", "whole", "found", "at", "rest", "row"]
theorem sc_reach : FnScope N_reach ["form", "bound"] (defScope s_reach) := ⟨rfl, rfl, rfl, by decide +kernel, rfl, by decide +kernel, by decide +kernel⟩
theorem ok_reach (T : Tx K mg) : C8.Cal P w K mg base 7 "reach" (spF K S_reach) [] := by
  have c_check_form := ok_check_form (P := P) (w := w) (base := base) T
  have c_check_bound := ok_check_bound (P := P) (w := w) (base := base) T
  have c_worthT := ok_worthT (P := P) (w := w) (base := base) T
  have c_worth := ok_worth (P := P) (w := w) (base := base) T 3 (by omega)
  have c_root := ok_root (P := P) (w := w) (base := base) T
  refine cal_of T.f_reach (fun _ _ _ _ _ _ us hl => match us, hl with | [_, _], _ => rfl) sc_reach (fun ds R h => ?_) (fun cdv A outer s H E hr => ⟨_, (pss_cons (ps_expr (C8.pe_c c_check_form hr (by first | decide | omega) (by rfl) (pa_cons (pv 0) pa_nil)))
      (pss_cons (ps_expr (C8.pe_c c_check_bound hr (by first | decide | omega) (by rfl) (pa_cons (pv 1) pa_nil)))
      (pss_cons (ps_set (i := 2) sc_reach.nd rfl (Or.inl rfl) (C8.pe_c c_worthT hr (by first | decide | omega) (by rfl) (pa_cons (pv 0) pa_nil)))
      (pss_cons (ps_set (i := 3) sc_reach.nd rfl (Or.inl rfl) (pe_lst pa_nil))
      (pss_cons (ps_for PassesOwn.never rfl (pi_range1 (by rfl) T.b_range (pa_cons (pe_callB (lenK (K := K) rfl) (by rfl) T.b_len (by decide +kernel) (pa_cons (pv 0) pa_nil)) pa_nil)) (pg_name (i := 4) sc_reach.nd rfl (Or.inr rfl)) (pss_cons (ps_setLc (i := 5) (own := [("row", 6)]) (g := (gName 6)) (tt := tYes) rfl sc_reach.nd rfl rfl (sw_true rfl rfl rfl (by decide +kernel)) (pi_tupK (K := K) rfl (pe_op (op_catK (K := K) rfl) (pe_slice (sl_tupK (K := K) rfl) (pv 0) po_none (po_some (pv 4))) (pe_slice (sl_tupK (K := K) rfl) (pv 0) (po_some (pe_op op_add (pv 4) pe_int)) po_none))) (blkOk_by (own := [("row", 6)]) (N := N_reach) (sc := (defScope s_reach)) (by decide +kernel)) (fun _ _ _ _ _ => (pg_name (i := 6) sc_reach.nd rfl (Or.inl rfl))) (fun _ _ _ _ _ => pts_nil) (fun _ _ _ _ _ => (pe_op (op_catK (K := K) rfl) (pe_slice (sl_tupK (K := K) rfl) (pv 6) po_none (po_some (pv 4))) (pe_slice (sl_tupK (K := K) rfl) (pv 6) (po_some (pe_op op_add (pv 4) pe_int)) po_none))))
        (pss_one (ps_expr (pe_bmK (K := K) rfl PySem.F.plainAttrs_list PySem.F.slot_list_append PySem.F.type_list_append mt_append (pv 3) (pa_cons (C8.pe_c c_root hr (by first | decide | omega) (by rfl) (pa_cons (pe_op op_fdivW (pe_op op_mulW (pv 1) (C8.pe_c c_worth hr (by first | decide | omega) (by rfl) (pa_cons (pv 5) pa_nil))) (pv 2)) pa_nil)) pa_nil))))))
      (pss_one (ps_ret (pe_callTy (tupK (K := K) rfl) (by rfl) T.b_tuple (by decide +kernel) (pa_cons (pv 3) pa_nil))))))))), fun G ds vs R kr hGH hds hS hrt => ?_⟩)
  · obtain ⟨n, F, b, rfl, _⟩ := h
    rfl
  · obtain ⟨n, F, b, rfl, hF, hb, hR⟩ := hS
    have h1 := hF.n1
    have h3 := hF.n3
    have hm := hF.mx
    have hlen : (F.map pt).length = n := by rw [List.length_map, hm.len]
    refine st_seq (st_drop (ev_check_form (ea_cons (ev_var rfl) ea_nil) hF) (st_seq (st_drop (ev_check_bound (ea_cons (ev_var rfl) ea_nil)) ?_)))
    refine st_seq (st_set (ev_worthT (ea_cons (ev_var rfl) ea_nil) h1 h3 hm) ?_)
    refine st_seq (st_newM (ev_lst ea_nil (by decide)) fun p => ?_)
    refine st_seq (st_for (fun i => [.d (fm F), .d (.int (b : Nat)), .d (.int (wdet n F)), .r p, .no, .no, .no]) (fun i => [(p, ((List.range i).map fun k => rt ((b : Int) * wdet (n - 1) (minQ k F) / wdet n F)).map .int)])
      (ei_rng1N (n := n) (ea_cons (EvD.is (ev_cb (ea_cons (ev_var rfl) ea_nil) (rc_lenT (ds := F.map pt))) (congrArg (fun k : Nat => PyData.int (k : Nat)) hlen)) ea_nil) (by omega))
      (by repeat' (first | exact True.intro | exact Or.inr rfl | exact Or.inl rfl | refine And.intro ?_ ?_)) rfl (fun A i d hd N hN => ?_) ?_)
    · obtain ⟨k, hk, rfl⟩ := map_getA hd
      obtain ⟨hk, rfl⟩ := rng_get hk
      obtain ⟨m, rfl⟩ : ∃ m, n = m + 1 := ⟨n - 1, by omega⟩
      have hmin := hm.minQ hk
      have hws := wdet_sz m (by omega) hmin
      have hwn := wdet_sz (m + 1) (by omega) hm
      have hlF := hm.len
      have hbw := pow_mul_lt (n := 40) (a := (b : Int).natAbs) (by simpa using hb) hws
      have e0 : m * 502 + 1 ≤ 1600 := by omega
      refine ⟨_, _, tg_name, st_seq (st_set (EvL.toD (EvL.is (es := (minQ k F).map pt) (el_mapA (cutAt k F) pt (fun r => pt (cutAt k r)) (ei_tup (EvD.is (ev_cutAt (ds := F.map pt) (k := k) (ev_var rfl) (ev_var rfl) (EvD.is (ev_op (ev_var rfl) ev_int rv_II) rfl) (by omega)) (by rw [← map_cutAt]))) ?_ (fun j q hq => ?_)) ?_)) ?_)⟩
      · have := cutAt_len k F (by omega)
        omega
      · have hql : q.length = m + 1 := hm.row q (mem_cutAt (List.mem_of_getElem? hq))
        refine ⟨_, _, by simp, tg_name, EvD.is (ev_cutAt (ds := q.map .int) (k := k) (ev_var rfl) (ev_var rfl) (EvD.is (ev_op (ev_var rfl) ev_int rv_II) rfl) (by rw [List.length_map]; omega)) ?_⟩
        rw [← map_cutAt]
        rfl
      · exact (List.map_map (g := pt) (f := cutAt k) (l := cutAt k F)).symm
      refine st_append (i := 3) rfl (ev_root (ea_cons (ev_op (ev_op (ev_var rfl) (ev_worth (m := m) (F := minQ k F) (ea_cons (ev_var rfl) ea_nil) hmin (by omega)) (rv_IC (cmul (a := 40) (by simpa using hb) hws (by omega)))) (ev_var rfl) (rv_IC (cdiv (b := 1600) hF.det (pw_le hwn (by omega)) (by decide)))) ea_nil) ?_) (by rw [List.length_map, List.length_map, List.length_range]; omega) ?_
      · refine Nat.lt_of_le_of_lt (ediv_abs hF.det) (pw_le (n := 40 + (m * 502 + 1)) ?_ (by omega))
        rw [Int.natAbs_mul]
        exact hbw
      · rw [List.range_succ, List.map_append, List.map_append] at hN
        exact hN.wkn (by repeat' (first | exact True.intro | exact Or.inr rfl | exact Or.inl rfl | refine And.intro ?_ ?_))
    · rw [List.length_map, List.length_range]
      exact Nx.frz 3 rfl (st_ret (ev_cb (ea_cons (ev_var rfl) ea_nil) rc_tupL) hrt hR)
theorem ev_reach {n b : Nat} {F : List (List Int)} (h : EvA K tA ρ M [fm F, .int (b : Nat)]) (hF : IsF n F) (hb : b < 2 ^ 40) : EvD K (tCall (spF K S_reach) [] E0 tA) ρ M (pt (reachM n F b)) := ev_call h fun R r => ⟨n, F, b, rfl, hF, hb, r⟩
end
end Lc

namespace Lc
open PySem PySem.Spec PyProof.Rows L2 RZ

/-! ### points_near -/
def shiftL (F : List (List Int)) (k : Nat) (later : List Int) : List Rat := later.mapIdx fun i (x : Int) => rwq F k (k + 1 + i) * (0 - (x : Rat))
def midM (F : List (List Int)) (k : Nat) (later : List Int) : Rat := sumQ [0, sumQ (shiftL F k later)]
def stepF (F : List (List Int)) (k : Nat) (q : List Int × Rat) (x : Int) : List Int × Rat :=
  (x :: q.1, sumQ [q.2, wq F k * (((x : Rat) - midM F k q.1) * ((x : Rat) - midM F k q.1))])
def stepM (F : List (List Int)) (k : Nat) (b : Nat) (q : List Int × Rat) : List (List Int × Rat) :=
  (endsM (wq F k) (midM F k q.1) (((b : Int) : Rat) - q.2)).map (stepF F k q)
def pathsM (n : Nat) (F : List (List Int)) (b : Nat) : Nat → List (List Int × Rat)
  | 0 => [([], 0)]
  | j + 1 => (pathsM n F b j).flatMap (stepM F (n - 1 - j) b)
def pathD (q : List Int × Rat) : PD := .tuple [pt q.1, fr q.2]
structure StepOk (n : Nat) (F : List (List Int)) (k : Nat) (b : Nat) (q : List Int × Rat) : Prop where
  len : q.1.length + k + 1 = n
  xs : ∀ x ∈ q.1, x.natAbs < 2 ^ 41
  eo : EndOk (wq F k) (midM F k q.1) (((b : Int) : Rat) - q.2)
  sf : Sz 2860 q.2
  st : ∀ i, Sz 700 (sumQ ((shiftL F k q.1).take i))
structure PNok (n : Nat) (F : List (List Int)) (b : Nat) : Prop where
  n3 : n ≤ 3
  mx : Mx n F
  sq : SqOk n F
  b40 : b < 2 ^ 40
  st : ∀ j, j < n → ∀ q ∈ pathsM n F b j, StepOk n F (n - 1 - j) b q
  len : ∀ j, j ≤ n → (pathsM n F b j).length ≤ 10000000
theorem endsM_sz {w m c : Rat} (h : EndOk w m c) {x : Int} (hx : x ∈ endsM w m c) : x.natAbs < 2 ^ 41 := by
  have h1 := (List.mem_filter.mp hx).1
  obtain ⟨i, hi, rfl⟩ := List.mem_map.mp h1
  have hi := List.mem_range.mp hi
  obtain ⟨_, hf⟩ := h.far
  have hm := h.fm
  have e40 : (2 : Nat) ^ 40 = 1099511627776 := by decide
  have e41 : (2 : Nat) ^ 41 = 2199023255552 := by decide
  omega
theorem sum2_sz {n : Nat} {a b : Rat} (h0 : 1 ≤ n) (ha : Sz n (0 + a)) (hb : Sz n (0 + a + b)) : ∀ k, Sz n (sumQ ([a, b].take k)) := fun k => by
  match k with
  | 0 => exact Sz.zero (by omega)
  | 1 => exact ha
  | k + 2 =>
    have : [a, b].take (k + 2) = [a, b] := List.take_of_length_le (by simp)
    rw [this]
    exact hb
section
variable {P : Program} {w : World} {K : PySem.W.Frag} {mg : Str → Option Value} {base : Heap} {ρ : List Sl} {M : Mt} {tA : TA} {te tb : TE}

theorem ev_neg8 {i : Int} (h : EvD K te ρ M (.int i)) : EvD K (tUn (rU fun i => .int (-i)) te) ρ M (.int (-i)) := ev_un h fun G H x e hx Q q => ⟨i, hx.int_inv, q _ _ _ (Stp.refl e) (.int _)⟩
theorem enD_map {α : Type} (l : List α) (g : α → PD) : enD (l.map g) = l.mapIdx fun i x => .tuple [.int (i : Nat), g x] := by
  unfold enD
  apply List.ext_getElem?
  intro i
  rw [List.getElem?_mapIdx, List.getElem?_map, List.getElem?_mapIdx]
  cases l[i]? <;> rfl
theorem el_mapI {α : Type} (l : List α) (enc f : Nat → α → PD) {g : TG} {wi : TI} {vs : List Nat} (hw : EvI K wi ρ M (l.mapIdx enc)) (hlen : l.length ≤ 10000000)
    (hs : ∀ (i : Nat) (a : α), l[i]? = some a → ∃ is ρ1, (∀ j ∈ is, j ∈ vs) ∧ Tg K g is (enc i a) (wipeR ρ vs) ρ1 ∧ EvD K te ρ1 M (f i a)) :
    EvL K (tLc wi g tYes te vs) ρ M (l.mapIdx f) := by
  have h := el_lc (K := K) (g := g) (tt := tYes) (te := te) (vs := vs) (fun i => (l.take i).mapIdx f) hw (by rw [List.length_mapIdx]; exact hlen) rfl fun i d hd => by
    rw [List.getElem?_mapIdx] at hd
    cases hq : l[i]? with
    | none => rw [hq] at hd; cases hd
    | some a =>
      rw [hq] at hd
      cases hd
      have hi := (List.getElem?_eq_some_iff.mp hq).1
      obtain ⟨is, ρ1, h1, h2, h3⟩ := hs i a hq
      refine ⟨is, ρ1, h1, h2, true, et_yes, fun _ => ⟨f i a, h3, ?_⟩, fun q => by cases q⟩
      show (l.take (i + 1)).mapIdx f = (l.take i).mapIdx f ++ [f i a]
      rw [List.take_add_one, hq, Option.toList_some, List.mapIdx_append, List.length_take, Nat.min_eq_left (by omega)]
      simp
  have e : (l.take (l.mapIdx enc).length).mapIdx f = l.mapIdx f := by rw [List.length_mapIdx, List.take_length]
  exact h.is e
def S_points_near (ds : List PD) (R : PD → Prop) : Prop := ∃ (n : Nat) (F : List (List Int)) (b : Nat), ds = [fm F, nspot n, fr ((b : Int) : Rat)] ∧ PNok n F b ∧ R (.list ((pathsM n F b n).map pathD))
abbrev N_points_near : List Str := ["form", "spot", "bound", "rows", "paths", "k", "weight", "row", "more", "later", "far", "shift", "middle", "x", "off", "at"]
theorem sc_points_near : FnScope N_points_near ["form", "spot", "bound"] (defScope s_points_near) := ⟨rfl, rfl, rfl, by decide +kernel, rfl, by decide +kernel, by decide +kernel⟩
theorem ok_points_near (T : Tx K mg) : C8.Cal P w K mg base 5 "points_near" (spF K S_points_near) [] := by
  have c_squares := ok_squares (P := P) (w := w) (base := base) T
  have c_summed := ok_summed (P := P) (w := w) (base := base) T
  have c_times := ok_times (P := P) (w := w) (base := base) T
  have c_minus := ok_minus (P := P) (w := w) (base := base) T
  have c_ends := ok_ends (P := P) (w := w) (base := base) T
  refine cal_of T.f_points_near (fun _ _ _ _ _ _ us hl => match us, hl with | [_, _, _], _ => rfl) sc_points_near (fun ds R h => ?_) (fun cdv A outer s H E hr => ⟨_, (pss_cons (ps_set (i := 3) sc_points_near.nd rfl (Or.inl rfl) (C8.pe_c c_squares hr (by first | decide | omega) (by rfl) (pa_cons (pv 0) pa_nil)))
      (pss_cons (ps_set (i := 4) sc_points_near.nd rfl (Or.inl rfl) (pe_lst (pa_cons (pe_tup (pa_cons (pe_tup pa_nil) (pa_cons (pe_tup (pa_cons pe_int (pa_cons pe_int pa_nil))) pa_nil))) pa_nil)))
      (pss_cons (ps_for PassesOwn.never rfl (pi_range3 (by rfl) T.b_range (pa_cons (pe_op op_sub (pe_callB (lenK (K := K) rfl) (by rfl) T.b_len (by decide +kernel) (pa_cons (pv 0) pa_nil)) pe_int) (pa_cons (pe_un un_neg pe_int) (pa_cons (pe_un un_neg pe_int) pa_nil)))) (pg_name (i := 5) sc_points_near.nd rfl (Or.inr rfl)) (pss_cons (ps_asg (pe_ix (ix_listK (K := K) rfl) (pv 3) (pv 5) (fun _ _ => rfl)) (pg_tupK (K := K) rfl rfl (pgs_cons (pg_name (i := 6) sc_points_near.nd rfl (Or.inl rfl)) (pgs_cons (pg_name (i := 7) sc_points_near.nd rfl (Or.inr rfl)) pgs_nil))))
        (pss_cons (ps_set (i := 8) sc_points_near.nd rfl (Or.inl rfl) (pe_lst pa_nil))
        (pss_cons (ps_for PassesOwn.never rfl (pi_listK (K := K) rfl (pv 4)) (pg_tupK (K := K) rfl rfl (pgs_cons (pg_name (i := 9) sc_points_near.nd rfl (Or.inl rfl)) (pgs_cons (pg_name (i := 10) sc_points_near.nd rfl (Or.inl rfl)) pgs_nil))) (pss_cons (ps_set (i := 11) sc_points_near.nd rfl (Or.inl rfl) (C8.pe_c c_summed hr (by first | decide | omega) (by rfl) (pa_cons (pe_lc (own := [("at", 15), ("x", 13)]) (g := (gTup K 2 (gCons (gName 15) (gCons (gName 13) gNil)))) (tt := tYes) rfl sc_points_near.nd (pi_enumTK (K := K) rfl (by rfl) T.b_enumerate (pa_cons (pv 9) pa_nil)) (blkOk_by (own := [("at", 15), ("x", 13)]) (N := N_points_near) (sc := (defScope s_points_near)) (by decide +kernel)) (fun _ _ _ _ _ => (pg_tupK (K := K) rfl rfl (pgs_cons (pg_name (i := 15) sc_points_near.nd rfl (Or.inl rfl)) (pgs_cons (pg_name (i := 13) sc_points_near.nd rfl (Or.inl rfl)) pgs_nil)))) (fun _ _ _ _ _ => pts_nil) (fun _ _ _ _ _ => (C8.pe_c c_times hr (by first | decide | omega) (by rfl) (pa_cons (pe_ix (ix_tupK (K := K) rfl) (pv 7) (pe_op op_add (pe_op op_add (pv 5) pe_int) (pv 15)) (fun _ _ => rfl)) (pa_cons (C8.pe_c c_minus hr (by first | decide | omega) (by rfl) (pa_cons (pe_ix (ix_tupK (K := K) rfl) (pv 1) (pe_op op_add (pe_op op_add (pv 5) pe_int) (pv 15)) (fun _ _ => rfl)) (pa_cons (pe_tup (pa_cons (pv 13) (pa_cons pe_int pa_nil))) pa_nil))) pa_nil))))) pa_nil)))
          (pss_cons (ps_set (i := 12) sc_points_near.nd rfl (Or.inl rfl) (C8.pe_c c_summed hr (by first | decide | omega) (by rfl) (pa_cons (pe_lst (pa_cons (pe_ix (ix_tupK (K := K) rfl) (pv 1) (pv 5) (fun _ _ => rfl)) (pa_cons (pv 11) pa_nil))) pa_nil)))
          (pss_one (ps_for PassesOwn.never rfl (pi_listK (K := K) rfl (C8.pe_c c_ends hr (by first | decide | omega) (by rfl) (pa_cons (pv 6) (pa_cons (pv 12) (pa_cons (C8.pe_c c_minus hr (by first | decide | omega) (by rfl) (pa_cons (pv 2) (pa_cons (pv 10) pa_nil))) pa_nil))))) (pg_name (i := 13) sc_points_near.nd rfl (Or.inl rfl)) (pss_cons (ps_set (i := 14) sc_points_near.nd rfl (Or.inl rfl) (C8.pe_c c_minus hr (by first | decide | omega) (by rfl) (pa_cons (pe_tup (pa_cons (pv 13) (pa_cons pe_int pa_nil))) (pa_cons (pv 12) pa_nil))))
            (pss_one (ps_expr (pe_bmK (K := K) rfl PySem.F.plainAttrs_list PySem.F.slot_list_append PySem.F.type_list_append mt_append (pv 8) (pa_cons (pe_tup (pa_cons (pe_op (op_catK (K := K) rfl) (pe_tup (pa_cons (pv 13) pa_nil)) (pv 9)) (pa_cons (C8.pe_c c_summed hr (by first | decide | omega) (by rfl) (pa_cons (pe_lst (pa_cons (pv 10) (pa_cons (C8.pe_c c_times hr (by first | decide | omega) (by rfl) (pa_cons (pv 6) (pa_cons (C8.pe_c c_times hr (by first | decide | omega) (by rfl) (pa_cons (pv 14) (pa_cons (pv 14) pa_nil))) pa_nil))) pa_nil))) pa_nil)) pa_nil))) pa_nil))))))))))
        (pss_one (ps_set (i := 4) sc_points_near.nd rfl (Or.inl rfl) (pv 8)))))))
      (pss_one (ps_ret (pv 4)))))), fun G ds vs R kr hGH hds hS hrt => ?_⟩)
  · obtain ⟨n, F, b, rfl, _⟩ := h
    rfl
  · obtain ⟨n, F, b, rfl, hp, hR⟩ := hS
    have h3 := hp.n3
    have hm := hp.mx
    have hlen : (F.map pt).length = n := by rw [List.length_map, hm.len]
    have sb : Sz 40 ((b : Int) : Rat) := Sz.int (by simpa using hp.b40) (by decide)
    refine st_seq (st_set (ev_squares (ea_cons (ev_var rfl) ea_nil) h3 hm hp.sq) ?_)
    refine st_seq (st_set (EvD.is (EvL.toD (ev_lst (ea_cons (ev_tup (ea_cons (ev_tup ea_nil (by decide)) (ea_cons (ev_tup (ea_cons ev_int (ea_cons ev_int ea_nil)) (by decide)) ea_nil)) (by simp)) ea_nil) (by decide))) (show _ = PyData.list ((pathsM n F b 0).map pathD) from rfl)) ?_)
    refine st_seq (st_for (fun j => [.d (fm F), .d (nspot n), .d (fr ((b : Int) : Rat)), .d (.list (sqD F n n)), .d (.list ((pathsM n F b j).map pathD)), .no, .no, .no, .no, .no, .no, .no, .no, .no, .no, .no]) (fun _ => [])
      (ei_rng3 (j := (n : Int) - 1) (k := -1) (ea_cons (EvD.is (ev_op (ev_cb (ea_cons (ev_var rfl) ea_nil) (rc_lenT (ds := F.map pt))) ev_int rv_II) (by rw [hlen])) (ea_cons (ev_neg8 ev_int) (ea_cons (ev_neg8 ev_int) ea_nil))) (by omega))
      (by repeat' (first | exact True.intro | exact Or.inr rfl | exact Or.inl rfl | refine And.intro ?_ ?_)) rfl (fun A j d hd N hN => ?_) ?_)
    · obtain ⟨hj, rfl⟩ := rngM_get hd
      have hj : j < n := by omega
      obtain ⟨k, hk⟩ : ∃ k, k = n - 1 - j := ⟨_, rfl⟩
      have ek : (n : Int) - 1 + (j : Nat) * (-1) = (k : Nat) := by omega
      rw [ek]
      have hkn : k < n := by omega
      have hst := hp.st j hj
      have hlj := hp.len j (by omega)
      have hlj1 := hp.len (j + 1) (by omega)
      have epj : pathsM n F b (j + 1) = (pathsM n F b j).flatMap (stepM F k b) := by rw [hk]; rfl
      rw [← hk] at hst
      rw [epj] at hlj1 hN
      generalize hpp : pathsM n F b j = pp at *
      have hrow : (sqD F n n)[k]? = some (.tuple [fr (wq F k), .tuple ((List.range n).map fun j => fr (rwq F k j))]) := by
        unfold sqD
        rw [List.getElem?_map, List.getElem?_range hkn]
        rfl
      have hsp : ∀ i, i < n → (List.replicate n (fr 0))[i]? = some (fr 0) := fun i hi => by rw [List.getElem?_replicate, if_pos hi]
      have hrw : ∀ i, i < n → ((List.range n).map fun j => fr (rwq F k j))[i]? = some (fr (rwq F k i)) := fun i hi => by rw [List.getElem?_map, List.getElem?_range hi]; rfl
      refine ⟨_, _, tg_name, st_seq (st_asg (ev_op (ev_var rfl) (ev_var rfl) (rv_ixLn hrow)) (tg_tup (tgs_cons tg_name (tgs_cons tg_name tgs_nil)) rfl) ?_)⟩
      refine st_seq (st_newM (ev_lst ea_nil (by decide)) fun p => ?_)
      refine st_seq (st_for (fun i => [.d (fm F), .d (nspot n), .d (fr ((b : Int) : Rat)), .d (.list (sqD F n n)), .d (.list (pp.map pathD)), .d (.int (k : Nat)), .d (fr (wq F k)), .d (.tuple ((List.range n).map fun j => fr (rwq F k j))), .r p, .no, .no, .no, .no, .no, .no, .no]) (fun i => [(p, ((pp.take i).flatMap (stepM F k b)).map pathD)])
        (ei_list (ev_var rfl)) (by repeat' (first | exact True.intro | exact Or.inr rfl | exact Or.inl rfl | refine And.intro ?_ ?_)) rfl (fun A2 i d2 hd2 N2 hN2 => ?_) ?_)
      · obtain ⟨q, hq, rfl⟩ := map_getA hd2
        obtain ⟨lt, far⟩ := q
        have so := hst (lt, far) (List.mem_of_getElem? hq)
        have hll : lt.length + k + 1 = n := so.len
        have eo : EndOk (wq F k) (midM F k lt) (((b : Int) : Rat) - far) := so.eo
        have sfar : Sz 2860 far := so.sf
        have smid : Sz 300 (midM F k lt) := eo.sm
        have swk : Sz 260 (wq F k) := eo.sw
        have sshift : Sz 700 (sumQ (shiftL F k lt)) := by
          have := so.st (shiftL F k lt).length
          rw [List.take_length] at this
          exact this
        have sterm : ∀ (i : Nat) (x : Int), lt[i]? = some x → Sz 700 (rwq F k (k + 1 + i) * (0 - (x : Rat))) ∧ Sz 600 (rwq F k (k + 1 + i)) ∧ Sz 41 (x : Rat) := fun i x hx => by
          have hi := (List.getElem?_eq_some_iff.mp hx).1
          have s1 : Sz 41 (x : Rat) := Sz.int (so.xs x (List.mem_of_getElem? hx)) (by decide)
          have s2 := hp.sq.sr k (k + 1 + i) hkn (by omega)
          exact ⟨(s2.mul ((Sz.zero (n := 1) (by decide)).sub s1)).mono (by decide), s2, s1⟩
        refine ⟨_, _, tg_tup (tgs_cons tg_name (tgs_cons tg_name tgs_nil)) rfl, ?_⟩
        refine st_seq (st_set (ev_summed (qs := shiftL F k lt) (n := 700) (ea_cons (EvL.toD (EvL.is (el_mapI lt (fun i x => .tuple [.int (i : Nat), .int x]) (fun i x => fr (rwq F k (k + 1 + i) * (0 - (x : Rat)))) (by
            have := ei_enumT (K := K) (ea_cons (ev_var (i := 9) (ρ := [.d (fm F), .d (nspot n), .d (fr ((b : Int) : Rat)), .d (.list (sqD F n n)), .d (.list (pp.map pathD)), .d (.int (k : Nat)), .d (fr (wq F k)), .d (.tuple ((List.range n).map fun j => fr (rwq F k j))), .r p, .d (pt lt), .d (fr far), .no, .no, .no, .no, .no]) (M := [(p, ((pp.take i).flatMap (stepM F k b)).map pathD)]) (d := .tuple (lt.map .int)) rfl) ea_nil)
            rw [enD_map] at this
            exact this) (by omega) (fun i x hx => ?_)) ?_)) ea_nil) (fun t ht => ?_) so.st (by decide)) ?_)
        · obtain ⟨_, s2, s1⟩ := sterm i x hx
          have hi := (List.getElem?_eq_some_iff.mp hx).1
          have vi : ∀ {ρ : List Sl} {M : Mt}, ρ[5]? = some (.d (.int (k : Nat))) → ρ[15]? = some (.d (.int (i : Nat))) → EvD K (tOp (rI0 fun i j => V.int (i + j)) (tOp (rI0 fun i j => V.int (i + j)) (tVar 5) (tC (.int 1))) (tVar 15)) ρ M (.int ((k + 1 + i : Nat) : Int)) := fun h1 h2 => EvD.is (ev_op (ev_op (ev_var h1) ev_int rv_II) (ev_var h2) rv_II) rfl
          exact ⟨_, _, by simp, tg_tup (tgs_cons tg_name (tgs_cons tg_name tgs_nil)) rfl, ev_times (ea_cons (ev_op (ev_var rfl) (vi rfl rfl) (rv_ixTn (hrw _ (by omega)))) (ea_cons (ev_minus (ea_cons (ev_op (ev_var rfl) (vi rfl rfl) (rv_ixTn (hsp _ (by omega)))) (ea_cons (EvD.is (ev_tup (ea_cons (ev_var rfl) (ea_cons ev_int ea_nil)) (by simp)) (frI x)) ea_nil)) (Sz.zero (n := 1) (by decide)) s1 (by decide)) ea_nil)) s2 ((Sz.zero (n := 1) (by decide)).sub s1) (by decide)⟩
        · unfold shiftL
          apply List.ext_getElem?
          intro i
          rw [List.getElem?_mapIdx, List.getElem?_map, List.getElem?_mapIdx]
          cases lt[i]? <;> rfl
        · obtain ⟨i, hi, rfl⟩ := List.mem_mapIdx.mp ht
          exact (sterm i _ (List.getElem?_eq_getElem hi)).1
        refine st_seq (st_set (ev_summed (qs := [0, sumQ (shiftL F k lt)]) (n := 710) (ea_cons (EvL.toD (ev_lst (ea_cons (ev_op (ev_var rfl) (ev_var rfl) (rv_ixTn (hsp k hkn))) (ea_cons (ev_var rfl) ea_nil)) (by simp))) ea_nil) (fun t ht => ?_) (sum2_sz (by decide) (((Sz.zero (n := 1) (by decide)).add (Sz.zero (n := 1) (by decide))).mono (by decide)) (smid.mono (by decide))) (by decide)) ?_)
        · rcases List.mem_cons.mp ht with e | ht
          · rw [e]
            exact Sz.zero (by decide)
          · rcases List.mem_cons.mp ht with e | ht
            · rw [e]
              exact sshift.mono (by decide)
            · exact nomatch ht
        refine st_for (fun t => [.d (fm F), .d (nspot n), .d (fr ((b : Int) : Rat)), .d (.list (sqD F n n)), .d (.list (pp.map pathD)), .d (.int (k : Nat)), .d (fr (wq F k)), .d (.tuple ((List.range n).map fun j => fr (rwq F k j))), .r p, .d (pt lt), .d (fr far), .no, .d (fr (midM F k lt)), .no, .no, .no]) (fun t => [(p, ((pp.take i).flatMap (stepM F k b) ++ ((endsM (wq F k) (midM F k lt) (((b : Int) : Rat) - far)).take t).map (stepF F k (lt, far))).map pathD)])
          (ei_list (ev_ends (ea_cons (ev_var rfl) (ea_cons (ev_var rfl) (ea_cons (ev_minus (ea_cons (ev_var rfl) (ea_cons (ev_var rfl) ea_nil)) sb sfar (by decide)) ea_nil))) eo)) (by repeat' (first | exact True.intro | exact Or.inr rfl | exact Or.inl rfl | refine And.intro ?_ ?_)) (by simp) (fun A3 t d3 hd3 N3 hN3 => ?_) ?_
        · obtain ⟨x, hx, rfl⟩ := map_getA hd3
          have sx : Sz 41 (x : Rat) := Sz.int (endsM_sz eo (List.mem_of_getElem? hx)) (by decide)
          have soff := sx.sub smid
          have soo := soff.mul soff
          have swo := swk.mul soo
          refine ⟨_, _, tg_name, st_seq (st_set (ev_minus (ea_cons (EvD.is (ev_tup (ea_cons (ev_var rfl) (ea_cons ev_int ea_nil)) (by simp)) (frI x)) (ea_cons (ev_var rfl) ea_nil)) sx smid (by decide)) (st_append (i := 8) rfl (ev_tup (ea_cons (ev_op (ev_tup (ea_cons (ev_var rfl) ea_nil) (by simp)) (ev_var rfl) (rv_catT (es := lt.map .int) (by rw [List.length_map]; simp; omega))) (ea_cons (ev_summed (qs := [far, wq F k * (((x : Rat) - midM F k lt) * ((x : Rat) - midM F k lt))]) (n := 3900) (ea_cons (EvL.toD (ev_lst (ea_cons (ev_var rfl) (ea_cons (ev_times (ea_cons (ev_var rfl) (ea_cons (ev_times (ea_cons (ev_var rfl) (ea_cons (ev_var rfl) ea_nil)) soff soff (by decide)) ea_nil)) swk soo (by decide)) ea_nil)) (by simp))) ea_nil) (fun t ht => ?_) (sum2_sz (by decide) (((Sz.zero (n := 1) (by decide)).add sfar).mono (by decide)) ((((Sz.zero (n := 1) (by decide)).add sfar).add swo).mono (by decide))) (by decide)) ea_nil)) (by simp)) ?_ ?_))⟩
          · rcases List.mem_cons.mp ht with e | ht
            · rw [e]
              exact sfar.mono (by decide)
            · rcases List.mem_cons.mp ht with e | ht
              · rw [e]
                exact swo.mono (by decide)
              · exact nomatch ht
          · rw [List.length_map]
            refine Nat.le_trans ?_ hlj1
            have e1 : pp = pp.take i ++ (lt, far) :: pp.drop (i + 1) := by
              have hi := (List.getElem?_eq_some_iff.mp hq)
              obtain ⟨hi, e⟩ := hi
              rw [← e, List.getElem_cons_drop, List.take_append_drop]
            have e2 : pp.flatMap (stepM F k b) = (pp.take i).flatMap (stepM F k b) ++ (stepM F k b (lt, far) ++ (pp.drop (i + 1)).flatMap (stepM F k b)) := by
              conv => lhs; rw [e1]
              rw [List.flatMap_append, List.flatMap_cons]
            have e3 : (stepM F k b (lt, far)).length = (endsM (wq F k) (midM F k lt) (((b : Int) : Rat) - far)).length := by
              unfold stepM
              rw [List.length_map]
            rw [e2, List.length_append, List.length_append, List.length_append, e3, List.length_map, List.length_take]
            omega
          · have e1 : ((pp.take i).flatMap (stepM F k b) ++ ((endsM (wq F k) (midM F k lt) (((b : Int) : Rat) - far)).take (t + 1)).map (stepF F k (lt, far))).map pathD = ((pp.take i).flatMap (stepM F k b) ++ ((endsM (wq F k) (midM F k lt) (((b : Int) : Rat) - far)).take t).map (stepF F k (lt, far))).map pathD ++ [pathD (stepF F k (lt, far) x)] := by
              rw [List.take_add_one, hx, Option.toList_some, List.map_append, List.map_append, List.map_append, List.map_append, List.append_assoc]
              rfl
            rw [e1] at hN3
            exact hN3.wkn (by repeat' (first | exact True.intro | exact Or.inr rfl | exact Or.inl rfl | refine And.intro ?_ ?_))
        · rw [List.length_map, List.take_length]
          have e1 : ((pp.take i).flatMap (stepM F k b) ++ (endsM (wq F k) (midM F k lt) (((b : Int) : Rat) - far)).map (stepF F k (lt, far))).map pathD = ((pp.take (i + 1)).flatMap (stepM F k b)).map pathD := by
            rw [List.take_add_one, hq, Option.toList_some, List.flatMap_append, List.flatMap_cons, List.flatMap_nil, List.append_nil]
            rfl
          rw [e1]
          exact hN2.wkn (by repeat' (first | exact True.intro | exact Or.inr rfl | exact Or.inl rfl | refine And.intro ?_ ?_))
      · rw [List.length_map, List.take_length]
        refine Nx.frz 8 rfl (st_set (ev_var rfl) ?_)
        exact hN.wkn (by repeat' (first | exact True.intro | exact Or.inr rfl | exact Or.inl rfl | refine And.intro ?_ ?_))
    · rw [rngM_len]
      have e1 : ((n : Int) - 1 - -1).toNat = n := by omega
      rw [e1]
      exact st_ret (ev_var rfl) hrt hR
theorem ev_points_near {n b : Nat} {F : List (List Int)} (h : EvA K tA ρ M [fm F, nspot n, fr ((b : Int) : Rat)]) (hp : PNok n F b) : EvD K (tCall (spF K S_points_near) [] E0 tA) ρ M (.list ((pathsM n F b n).map pathD)) := ev_call h fun R r => ⟨n, F, b, rfl, hp, r⟩
end
end Lc

namespace Lc
open PySem PySem.Spec PyProof.Rows L2 RZ

/-! ### product, changed_by, row_led, one_behind, next_change, gone_down -/
def dotI (r v : List Int) : Int := ((List.zip r v).map fun q => q.1 * q.2).sum
def prodP (F : List (List Int)) (u v : List Int) : Nat → Int
  | 0 => 0
  | k + 1 => prodP F u v k + u.getD k 0 * dotI (F.getD k []) v
def prodM (F : List (List Int)) (u v : List Int) : Int := prodP F u v F.length
def changedM (F C : List (List Int)) : List (List Int) := C.map fun u => C.map fun v => prodM F u v
def rowM (T : List (List Int)) (row : List Int) : List Int := (List.range T.length).map fun j => (row.mapIdx fun k x => x * ent T k j).sum
def behindM (U C : List (List Int)) : List (List Int) := C.map (rowM U)
def nextM (a b c : Int) : Option (List (List Int)) :=
  if a < 2 * b ∨ 2 * b < 0 - a then some [[1, 0], [0 - (2 * b + a) / (2 * a), 1]]
  else if c < a then some [[0, 1], [1, 0]]
  else if b < 0 then some [[1, 0], [0, -1]]
  else none
def optD : Option (List (List Int)) → PD
  | none => .none
  | some m => fm m
/-- all entries below 2 ^ B -/
def Bd (B : Nat) (F : List (List Int)) : Prop := ∀ r ∈ F, ∀ x ∈ r, x.natAbs < 2 ^ B
theorem sum_lt {B : Nat} : ∀ (l : List Int), (∀ x ∈ l, x.natAbs < 2 ^ B) → l.length ≤ 4 → l.sum.natAbs < 2 ^ (B + 3) := fun l h hl => by
  have : ∀ (l : List Int), (∀ x ∈ l, x.natAbs < 2 ^ B) → l.sum.natAbs ≤ l.length * 2 ^ B := by
    intro l
    induction l with
    | nil => intro _; simp
    | cons x l ih =>
      intro h
      have h1 := h x List.mem_cons_self
      have h2 := ih fun y hy => h y (List.mem_cons_of_mem _ hy)
      rw [List.sum_cons, List.length_cons, Nat.succ_mul]
      refine Nat.le_trans (Int.natAbs_add_le _ _) ?_
      omega
  have h1 := this l h
  have h2 : l.length * 2 ^ B ≤ 4 * 2 ^ B := Nat.mul_le_mul_right _ hl
  have h3 := Nat.two_pow_pos B
  rw [Nat.pow_add]
  omega
theorem dotI_lt {A B : Nat} {r v : List Int} (hr : ∀ x ∈ r, x.natAbs < 2 ^ A) (hv : ∀ x ∈ v, x.natAbs < 2 ^ B) (hl : r.length ≤ 4) : (dotI r v).natAbs < 2 ^ (A + B + 3) := by
  refine sum_lt _ (fun x hx => ?_) (by rw [List.length_map, List.length_zip]; omega)
  obtain ⟨q, hq, rfl⟩ := List.mem_map.mp hx
  rw [Int.natAbs_mul]
  exact pow_mul_lt (hr _ (List.of_mem_zip hq).1) (hv _ (List.of_mem_zip hq).2)
section
variable {P : Program} {w : World} {K : PySem.W.Frag} {mg : Str → Option Value} {base : Heap} {ρ : List Sl} {M : Mt} {tA : TA} {te tb : TE}

theorem ev_neg {i : Int} (h : EvD K te ρ M (.int i)) : EvD K (tUn (rU fun i => .int (-i)) te) ρ M (.int (-i)) := ev_un h fun G H x e hx Q q => ⟨i, hx.int_inv, q _ _ _ (Stp.refl e) (.int _)⟩
theorem EvI.is {wi : TI} {a b : List PD} (h : EvI K wi ρ M a) (e : a = b) : EvI K wi ρ M b := by rw [← e]; exact h
theorem zpD_map {α β : Type} (l : List α) (m : List β) (f : α → PD) (g : β → PD) : zpD (l.map f) (m.map g) = (List.zip l m).map fun q => .tuple [f q.1, g q.2] := by
  unfold zpD
  rw [List.zipWith_map, List.zip, List.map_zipWith]
theorem getD_of {α : Type} {l : List α} {i : Nat} {x d : α} (h : l[i]? = some x) : l.getD i d = x := by rw [List.getD_eq_getElem?_getD, h]; rfl
def S_product (ds : List PD) (R : PD → Prop) : Prop := ∃ (F : List (List Int)) (u v : List Int) (B : Nat), ds = [fm F, pt u, pt v] ∧ F.length = u.length ∧ F.length ≤ 4 ∧ (∀ r ∈ F, r.length ≤ 4) ∧ Bd B F ∧ (∀ x ∈ u, x.natAbs < 2 ^ B) ∧ (∀ x ∈ v, x.natAbs < 2 ^ B) ∧ B ≤ 100000 ∧ R (.int (prodM F u v))
abbrev N_product : List Str := ["form", "one", "other", "found", "row", "first", "number", "second"]
theorem sc_product : FnScope N_product ["form", "one", "other"] (defScope s_product) := ⟨rfl, rfl, rfl, by decide +kernel, rfl, by decide +kernel, by decide +kernel⟩
theorem ok_product (T : Tx K mg) : C8.Cal P w K mg base 1 "product" (spF K S_product) [] := by
  refine cal_of T.f_product (fun _ _ _ _ _ _ us hl => match us, hl with | [_, _, _], _ => rfl) sc_product (fun ds R h => ?_) (fun cdv A outer s H E hr => ⟨_, (pss_cons (ps_set (i := 3) sc_product.nd rfl (Or.inl rfl) pe_int)
      (pss_cons (ps_for PassesOwn.never rfl (pi_zipK (K := K) rfl (by rfl) T.b_zip (pa_cons (pv 0) (pa_cons (pv 1) pa_nil))) (pg_tupK (K := K) rfl rfl (pgs_cons (pg_name (i := 4) sc_product.nd rfl (Or.inl rfl)) (pgs_cons (pg_name (i := 5) sc_product.nd rfl (Or.inl rfl)) pgs_nil))) (pss_one (ps_set (i := 3) sc_product.nd rfl (Or.inl rfl) (pe_op op_add (pv 3) (pe_op op_mulW (pv 5) (pe_callB (sumK (K := K) rfl rfl) (by rfl) T.b_sum (by decide +kernel) (pa_cons (pe_lc (own := [("number", 6), ("second", 7)]) (g := (gTup K 2 (gCons (gName 6) (gCons (gName 7) gNil)))) (tt := tYes) rfl sc_product.nd (pi_zipK (K := K) rfl (by rfl) T.b_zip (pa_cons (pv 4) (pa_cons (pv 2) pa_nil))) (blkOk_by (own := [("number", 6), ("second", 7)]) (N := N_product) (sc := (defScope s_product)) (by decide +kernel)) (fun _ _ _ _ _ => (pg_tupK (K := K) rfl rfl (pgs_cons (pg_name (i := 6) sc_product.nd rfl (Or.inl rfl)) (pgs_cons (pg_name (i := 7) sc_product.nd rfl (Or.inl rfl)) pgs_nil)))) (fun _ _ _ _ _ => pts_nil) (fun _ _ _ _ _ => (pe_op op_mulW (pv 6) (pv 7)))) pa_nil)))))))
      (pss_one (ps_ret (pv 3))))), fun G ds vs R kr hGH hds hS hrt => ?_⟩)
  · obtain ⟨F, u, v, B, rfl, _⟩ := h
    rfl
  · obtain ⟨F, u, v, B, rfl, hl, h4, hr4, hF, hu, hv, hB, hR⟩ := hS
    refine st_seq (st_set ev_int (st_seq (st_for (fun i => [.d (fm F), .d (pt u), .d (pt v), .d (.int (prodP F u v i)), .no, .no, .no, .no]) (fun _ => []) (items := (List.zip F u).map fun q => .tuple [pt q.1, .int q.2]) (EvI.is (ei_zipT (ea_cons (ev_var rfl) (ea_cons (ev_var rfl) ea_nil))) (zpD_map F u pt .int))
      (by repeat' (first | exact True.intro | exact Or.inr rfl | exact Or.inl rfl | refine And.intro ?_ ?_)) rfl (fun A i d hd N hN => ?_) ?_)))
    · obtain ⟨⟨r, x⟩, hq, rfl⟩ := map_getA hd
      obtain ⟨hq1, hq2⟩ := List.getElem?_zip_eq_some.mp hq
      have e1 : prodP F u v (i + 1) = prodP F u v i + x * dotI r v := by
        show _ + u.getD i 0 * dotI (F.getD i []) v = _
        rw [getD_of hq1, getD_of hq2]
      rw [e1] at hN
      have hr := hF r (List.mem_of_getElem? hq1)
      have hx := hu x (List.mem_of_getElem? hq2)
      have h4r := hr4 r (List.mem_of_getElem? hq1)
      refine ⟨_, _, tg_tup (tgs_cons tg_name (tgs_cons tg_name tgs_nil)) rfl, st_set (ev_op (ev_var rfl) (ev_op (ev_var rfl) (ev_cb (ea_cons (EvL.toD (EvL.is (el_mapA (List.zip r v) (fun q => .tuple [.int q.1, .int q.2]) (fun q => .int (q.1 * q.2)) (EvI.is (ei_zipT (ea_cons (ev_var rfl) (ea_cons (ev_var rfl) ea_nil))) (zpD_map r v .int .int)) (by rw [List.length_zip]; omega) (fun j q hq => ?_)) ?_)) ea_nil) (rc_sum (ns := (List.zip r v).map fun q => q.1 * q.2))) (rv_IC (cmul hx (dotI_lt hr hv h4r) (by omega)))) rv_II) (hN.wkn (by repeat' (first | exact True.intro | exact Or.inr rfl | exact Or.inl rfl | refine And.intro ?_ ?_)))⟩
      · have hm := List.mem_of_getElem? hq
        exact ⟨_, _, by simp, tg_tup (tgs_cons tg_name (tgs_cons tg_name tgs_nil)) rfl, ev_op (ev_var rfl) (ev_var rfl) (rv_IC (cmul (hr _ (List.of_mem_zip hm).1) (hv _ (List.of_mem_zip hm).2) (by omega)))⟩
      · rw [List.map_map]
        rfl
    · refine st_ret (ev_var rfl) hrt ?_
      rw [List.length_map, List.length_zip, ← hl, Nat.min_self]
      exact hR
theorem ev_product {F : List (List Int)} {u v : List Int} {B : Nat} (h : EvA K tA ρ M [fm F, pt u, pt v]) (h1 : F.length = u.length) (h2 : F.length ≤ 4) (h3 : ∀ r ∈ F, r.length ≤ 4) (h4 : Bd B F) (h5 : ∀ x ∈ u, x.natAbs < 2 ^ B) (h6 : ∀ x ∈ v, x.natAbs < 2 ^ B) (h7 : B ≤ 100000) :
    EvD K (tCall (spF K S_product) [] E0 tA) ρ M (.int (prodM F u v)) := ev_call h fun R r => ⟨F, u, v, B, rfl, h1, h2, h3, h4, h5, h6, h7, r⟩
def S_changed_by (ds : List PD) (R : PD → Prop) : Prop := ∃ (F C : List (List Int)) (B : Nat), ds = [fm F, fm C] ∧ F.length ≤ 4 ∧ C.length ≤ 4 ∧ (∀ r ∈ F, r.length ≤ 4) ∧ (∀ r ∈ C, F.length = r.length) ∧ Bd B F ∧ Bd B C ∧ B ≤ 100000 ∧ R (fm (changedM F C))
abbrev N_changed_by : List Str := ["form", "change", "one", "other"]
theorem sc_changed_by : FnScope N_changed_by ["form", "change"] (defScope s_changed_by) := ⟨rfl, rfl, rfl, by decide +kernel, rfl, by decide +kernel, by decide +kernel⟩
theorem ok_changed_by (T : Tx K mg) : C8.Cal P w K mg base 2 "changed_by" (spF K S_changed_by) [] := by
  have c_product := ok_product (P := P) (w := w) (base := base) T
  refine cal_of T.f_changed_by (fun _ _ _ _ _ _ us hl => match us, hl with | [_, _], _ => rfl) sc_changed_by (fun ds R h => ?_) (fun cdv A outer s H E hr => ⟨_, (pss_one (ps_ret (pe_callTy (tupK (K := K) rfl) (by rfl) T.b_tuple (by decide +kernel) (pa_cons (pe_lc (own := [("one", 2)]) (g := (gName 2)) (tt := tYes) rfl sc_changed_by.nd (pi_tupK (K := K) rfl (pv 1)) (blkOk_by (own := [("one", 2)]) (N := N_changed_by) (sc := (defScope s_changed_by)) (by decide +kernel)) (fun _ _ _ _ _ => (pg_name (i := 2) sc_changed_by.nd rfl (Or.inr rfl))) (fun _ _ _ _ _ => pts_nil) (fun _ _ _ _ _ => (pe_callTy (tupK (K := K) rfl) (by rfl) T.b_tuple (by decide +kernel) (pa_cons (pe_lc (own := [("other", 3)]) (g := (gName 3)) (tt := tYes) rfl sc_changed_by.nd (pi_tupK (K := K) rfl (pv 1)) (blkOk_by (own := [("other", 3)]) (N := N_changed_by) (sc := (relS _ (defScope s_changed_by))) (by decide +kernel)) (fun _ _ _ _ _ => (pg_name (i := 3) sc_changed_by.nd rfl (Or.inl rfl))) (fun _ _ _ _ _ => pts_nil) (fun _ _ _ _ _ => (C8.pe_c c_product hr (by first | decide | omega) (by rfl) (pa_cons (pv 0) (pa_cons (pv 2) (pa_cons (pv 3) pa_nil)))))) pa_nil)))) pa_nil)))), fun G ds vs R kr hGH hds hS hrt => ?_⟩)
  · obtain ⟨F, C, B, rfl, _⟩ := h
    rfl
  · obtain ⟨F, C, B, rfl, h1, h2, h3, h4, h5, h6, h7, hR⟩ := hS
    refine st_ret (ev_cb (ea_cons (EvL.toD (EvL.is (es := (changedM F C).map pt) (el_mapA C pt (fun u => pt (C.map fun v => prodM F u v)) (ei_tup (ev_var rfl)) (by omega) (fun i u hu => ?_)) ?_)) ea_nil) rc_tupL) hrt hR
    · have hu := List.mem_of_getElem? hu
      refine ⟨_, _, by simp, tg_name, EvD.is (ev_cb (ea_cons (EvL.toD (el_mapA C pt (fun v => .int (prodM F u v)) (ei_tup (ev_var rfl)) (by omega) (fun j v hv => ?_))) ea_nil) rc_tupL) ?_⟩
      · have hv := List.mem_of_getElem? hv
        exact ⟨_, _, by simp, tg_name, ev_product (ea_cons (ev_var rfl) (ea_cons (ev_var rfl) (ea_cons (ev_var rfl) ea_nil))) (h4 u hu) h1 h3 h5 (h6 u hu) (h6 v hv) h7⟩
      · unfold pt
        rw [List.map_map]
        rfl
    · unfold changedM
      rw [List.map_map]
      rfl
theorem ev_changed_by {F C : List (List Int)} {B : Nat} (h : EvA K tA ρ M [fm F, fm C]) (h1 : F.length ≤ 4) (h2 : C.length ≤ 4) (h3 : ∀ r ∈ F, r.length ≤ 4) (h4 : ∀ r ∈ C, F.length = r.length) (h5 : Bd B F) (h6 : Bd B C) (h7 : B ≤ 100000) :
    EvD K (tCall (spF K S_changed_by) [] E0 tA) ρ M (fm (changedM F C)) := ev_call h fun R r => ⟨F, C, B, rfl, h1, h2, h3, h4, h5, h6, h7, r⟩
def S_row_led (ds : List PD) (R : PD → Prop) : Prop := ∃ (U : List (List Int)) (row : List Int) (n B : Nat), ds = [pt row, fm U] ∧ U.length = n ∧ n ≤ 4 ∧ row.length = n ∧ (∀ r ∈ U, r.length = n) ∧ Bd B U ∧ (∀ x ∈ row, x.natAbs < 2 ^ B) ∧ B ≤ 100000 ∧ R (pt (rowM U row))
theorem map_getI {α : Type} {f : Nat → α → PD} {l : List α} {i : Nat} {x : α} (h : l[i]? = some x) : (l.mapIdx f)[i]? = some (f i x) := by rw [List.getElem?_mapIdx, h]; rfl
theorem enD_mapA {α : Type} (l : List α) (g : α → PD) : enD (l.map g) = (l.mapIdx fun i x => (i, x)).map fun q => .tuple [.int (q.1 : Nat), g q.2] := by
  unfold enD
  apply List.ext_getElem?
  intro i
  rw [List.getElem?_mapIdx, List.getElem?_map, List.getElem?_map, List.getElem?_mapIdx]
  cases l[i]? <;> rfl
abbrev N_row_led : List Str := ["row", "table", "at", "k", "one"]
theorem sc_row_led : FnScope N_row_led ["row", "table"] (defScope s_row_led) := ⟨rfl, rfl, rfl, by decide +kernel, rfl, by decide +kernel, by decide +kernel⟩
theorem ok_row_led (T : Tx K mg) : C8.Cal P w K mg base 1 "row_led" (spF K S_row_led) [] := by
  refine cal_of T.f_row_led (fun _ _ _ _ _ _ us hl => match us, hl with | [_, _], _ => rfl) sc_row_led (fun ds R h => ?_) (fun cdv A outer s H E hr => ⟨_, (pss_one (ps_ret (pe_callTy (tupK (K := K) rfl) (by rfl) T.b_tuple (by decide +kernel) (pa_cons (pe_lc (own := [("at", 2)]) (g := (gName 2)) (tt := tYes) rfl sc_row_led.nd (pi_range1 (by rfl) T.b_range (pa_cons (pe_callB (lenK (K := K) rfl) (by rfl) T.b_len (by decide +kernel) (pa_cons (pv 1) pa_nil)) pa_nil)) (blkOk_by (own := [("at", 2)]) (N := N_row_led) (sc := (defScope s_row_led)) (by decide +kernel)) (fun _ _ _ _ _ => (pg_name (i := 2) sc_row_led.nd rfl (Or.inr rfl))) (fun _ _ _ _ _ => pts_nil) (fun _ _ _ _ _ => (pe_callB (sumK (K := K) rfl rfl) (by rfl) T.b_sum (by decide +kernel) (pa_cons (pe_lc (own := [("k", 3), ("one", 4)]) (g := (gTup K 2 (gCons (gName 3) (gCons (gName 4) gNil)))) (tt := tYes) rfl sc_row_led.nd (pi_enumTK (K := K) rfl (by rfl) T.b_enumerate (pa_cons (pv 0) pa_nil)) (blkOk_by (own := [("k", 3), ("one", 4)]) (N := N_row_led) (sc := (relS _ (defScope s_row_led))) (by decide +kernel)) (fun _ _ _ _ _ => (pg_tupK (K := K) rfl rfl (pgs_cons (pg_name (i := 3) sc_row_led.nd rfl (Or.inl rfl)) (pgs_cons (pg_name (i := 4) sc_row_led.nd rfl (Or.inl rfl)) pgs_nil)))) (fun _ _ _ _ _ => pts_nil) (fun _ _ _ _ _ => (pe_op op_mulW (pv 4) (pe_ix (ix_tupK (K := K) rfl) (pe_ix (ix_tupK (K := K) rfl) (pv 1) (pv 3) (fun _ _ => rfl)) (pv 2) (fun _ _ => rfl))))) pa_nil)))) pa_nil)))), fun G ds vs R kr hGH hds hS hrt => ?_⟩)
  · obtain ⟨U, row, n, B, rfl, _⟩ := h
    rfl
  · obtain ⟨U, row, n, B, rfl, h1, h2, h3, h4, h5, h6, h7, hR⟩ := hS
    have hlen : (U.map pt).length = n := by rw [List.length_map, h1]
    refine st_ret (ev_cb (ea_cons (EvL.toD (EvL.is (es := (rowM U row).map .int) (el_mapA (List.range n) (fun i => .int (i : Nat)) (fun j => .int (row.mapIdx fun k x => x * ent U k j).sum) (ei_rng1N (ea_cons (EvD.is (ev_cb (ea_cons (ev_var rfl) ea_nil) (rc_lenT (ds := U.map pt))) (congrArg (fun k : Nat => PyData.int (k : Nat)) hlen)) ea_nil) (by omega)) (by rw [List.length_range]; omega) (fun i j hj => ?_)) ?_)) ea_nil) rc_tupL) hrt hR
    · obtain ⟨hj, rfl⟩ := rng_get hj
      refine ⟨_, _, by simp, tg_name, ev_cb (ea_cons (EvL.toD (EvL.is (el_mapA (row.mapIdx fun i x => (i, x)) (fun q => .tuple [.int (q.1 : Nat), .int q.2]) (fun q => .int (q.2 * ent U q.1 j)) (EvI.is (ei_enumT (ea_cons (ev_var rfl) ea_nil)) (enD_mapA row .int)) (by rw [List.length_mapIdx]; omega) (fun k q hq => ?_)) ?_)) ea_nil) (rc_sum (ns := row.mapIdx fun k x => x * ent U k j))⟩
      · rw [List.getElem?_mapIdx] at hq
        cases z : row[k]? with
        | none => rw [z] at hq; cases hq
        | some x =>
          rw [z] at hq
          cases hq
          have hk := (List.getElem?_eq_some_iff.mp z).1
          have hr : U[k]? = some (U.getD k []) := by rw [List.getD_eq_getElem?_getD, List.getElem?_eq_getElem (by omega)]; rfl
          have hrl := h4 _ (List.mem_of_getElem? hr)
          have he : (U.getD k [])[j]? = some (ent U k j) := by
            unfold ent
            rw [List.getD_eq_getElem?_getD (l := U.getD k []), List.getElem?_eq_getElem (by omega)]
            rfl
          have hes := h5 _ (List.mem_of_getElem? hr) _ (List.mem_of_getElem? he)
          exact ⟨_, _, by simp, tg_tup (tgs_cons tg_name (tgs_cons tg_name tgs_nil)) rfl, ev_op (ev_var rfl) (ev_op (ev_op (ev_var rfl) (ev_var rfl) (rv_ixTn (show (U.map pt)[k]? = some (pt (U.getD k [])) by rw [List.getElem?_map, hr]; rfl))) (ev_var rfl) (rv_ixTn (show ((U.getD k []).map PyData.int)[j]? = some (.int (ent U k j)) by rw [List.getElem?_map, he]; rfl))) (rv_IC (cmul (h6 x (List.mem_of_getElem? z)) hes (by omega)))⟩
      · apply List.ext_getElem?
        intro k
        rw [List.getElem?_map, List.getElem?_map, List.getElem?_mapIdx, List.getElem?_mapIdx]
        cases row[k]? <;> rfl
    · unfold rowM
      rw [List.map_map, h1]
      rfl
theorem ev_row_led {U : List (List Int)} {row : List Int} {n B : Nat} (h : EvA K tA ρ M [pt row, fm U]) (h1 : U.length = n) (h2 : n ≤ 4) (h3 : row.length = n) (h4 : ∀ r ∈ U, r.length = n) (h5 : Bd B U) (h6 : ∀ x ∈ row, x.natAbs < 2 ^ B) (h7 : B ≤ 100000) :
    EvD K (tCall (spF K S_row_led) [] E0 tA) ρ M (pt (rowM U row)) := ev_call h fun R r => ⟨U, row, n, B, rfl, h1, h2, h3, h4, h5, h6, h7, r⟩
def S_one_behind (ds : List PD) (R : PD → Prop) : Prop := ∃ (U C : List (List Int)) (n B : Nat), ds = [fm U, fm C] ∧ U.length = n ∧ n ≤ 4 ∧ C.length = n ∧ (∀ r ∈ C, r.length = n) ∧ (∀ r ∈ U, r.length = n) ∧ Bd B U ∧ Bd B C ∧ B ≤ 100000 ∧ R (fm (behindM U C))
abbrev N_one_behind : List Str := ["one", "other", "row"]
theorem sc_one_behind : FnScope N_one_behind ["one", "other"] (defScope s_one_behind) := ⟨rfl, rfl, rfl, by decide +kernel, rfl, by decide +kernel, by decide +kernel⟩
theorem ok_one_behind (T : Tx K mg) : C8.Cal P w K mg base 2 "one_behind" (spF K S_one_behind) [] := by
  have c_row_led := ok_row_led (P := P) (w := w) (base := base) T
  refine cal_of T.f_one_behind (fun _ _ _ _ _ _ us hl => match us, hl with | [_, _], _ => rfl) sc_one_behind (fun ds R h => ?_) (fun cdv A outer s H E hr => ⟨_, (pss_one (ps_ret (pe_callTy (tupK (K := K) rfl) (by rfl) T.b_tuple (by decide +kernel) (pa_cons (pe_lc (own := [("row", 2)]) (g := (gName 2)) (tt := tYes) rfl sc_one_behind.nd (pi_tupK (K := K) rfl (pv 1)) (blkOk_by (own := [("row", 2)]) (N := N_one_behind) (sc := (defScope s_one_behind)) (by decide +kernel)) (fun _ _ _ _ _ => (pg_name (i := 2) sc_one_behind.nd rfl (Or.inl rfl))) (fun _ _ _ _ _ => pts_nil) (fun _ _ _ _ _ => (C8.pe_c c_row_led hr (by first | decide | omega) (by rfl) (pa_cons (pv 2) (pa_cons (pv 0) pa_nil))))) pa_nil)))), fun G ds vs R kr hGH hds hS hrt => ?_⟩)
  · obtain ⟨F, C, n, B, rfl, _⟩ := h
    rfl
  · obtain ⟨U, C, n, B, rfl, h1, h2, h2c, h3, h4, h5, h6, h7, hR⟩ := hS
    refine st_ret (ev_cb (ea_cons (EvL.toD (EvL.is (es := (behindM U C).map pt) (el_mapA C pt (fun u => pt (rowM U u)) (ei_tup (ev_var rfl)) (by omega) (fun i u hu => ?_)) ?_)) ea_nil) rc_tupL) hrt hR
    · have hu := List.mem_of_getElem? hu
      exact ⟨_, _, by simp, tg_name, ev_row_led (ea_cons (ev_var rfl) (ea_cons (ev_var rfl) ea_nil)) h1 h2 (h3 u hu) h4 h5 (h6 u hu) h7⟩
    · unfold behindM
      rw [List.map_map]
      rfl
theorem ev_one_behind {U C : List (List Int)} {n B : Nat} (h : EvA K tA ρ M [fm U, fm C]) (h1 : U.length = n) (h2 : n ≤ 4) (h2c : C.length = n) (h3 : ∀ r ∈ C, r.length = n) (h4 : ∀ r ∈ U, r.length = n) (h5 : Bd B U) (h6 : Bd B C) (h7 : B ≤ 100000) :
    EvD K (tCall (spF K S_one_behind) [] E0 tA) ρ M (fm (behindM U C)) := ev_call h fun R r => ⟨U, C, n, B, rfl, h1, h2, h2c, h3, h4, h5, h6, h7, r⟩
def S_next_change (ds : List PD) (R : PD → Prop) : Prop := ∃ a b c : Int, ds = [fm [[a, b], [b, c]]] ∧ 0 < a ∧ a.natAbs < 2 ^ 1000 ∧ b.natAbs < 2 ^ 1000 ∧ R (optD (nextM a b c))
abbrev N_next_change : List Str := ["form", "a", "b", "low", "c"]
theorem sc_next_change : FnScope N_next_change ["form"] (defScope s_next_change) := ⟨rfl, rfl, rfl, by decide +kernel, rfl, by decide +kernel, by decide +kernel⟩
theorem ok_next_change (T : Tx K mg) : C8.Cal P w K mg base 1 "next_change" (spF K S_next_change) [] := by
  refine cal_of T.f_next_change (fun _ _ _ _ _ _ us hl => match us, hl with | [_], _ => rfl) sc_next_change (fun ds R h => ?_) (fun cdv A outer s H E hr => ⟨_, (pss_cons (ps_asg (pv 0) (pg_tupK (K := K) rfl rfl (pgs_cons (pg_tupK (K := K) rfl rfl (pgs_cons (pg_name (i := 1) sc_next_change.nd rfl (Or.inl rfl)) (pgs_cons (pg_name (i := 2) sc_next_change.nd rfl (Or.inl rfl)) pgs_nil))) (pgs_cons (pg_tupK (K := K) rfl rfl (pgs_cons (pg_name (i := 3) sc_next_change.nd rfl (Or.inl rfl)) (pgs_cons (pg_name (i := 4) sc_next_change.nd rfl (Or.inl rfl)) pgs_nil))) pgs_nil))))
      (pss_cons (ps_if (PW.pt (pw_or (pt_cmpR op_gt (pe_op op_mulW pe_int (pv 2)) (pv 1) (nomark _)) (pw_or1 (pt_cmpR op_lt (pe_op op_mulW pe_int (pv 2)) (pe_op op_sub pe_int (pv 1)) (nomark _))))) (pss_one (ps_ret (pe_tup (pa_cons (pe_tup (pa_cons pe_int (pa_cons pe_int pa_nil))) (pa_cons (pe_tup (pa_cons (pe_op op_sub pe_int (pe_op op_fdivW (pe_op op_add (pe_op op_mulW pe_int (pv 2)) (pv 1)) (pe_op op_mulW pe_int (pv 1)))) (pa_cons pe_int pa_nil))) pa_nil))))) pss_nil)
      (pss_cons (ps_if (pt_cmpR op_gt (pv 1) (pv 4) (nomark _)) (pss_one (ps_ret (pe_tup (pa_cons (pe_tup (pa_cons pe_int (pa_cons pe_int pa_nil))) (pa_cons (pe_tup (pa_cons pe_int (pa_cons pe_int pa_nil))) pa_nil))))) pss_nil)
      (pss_cons (ps_if (pt_cmpR op_lt (pv 2) pe_int (nomark _)) (pss_one (ps_ret (pe_tup (pa_cons (pe_tup (pa_cons pe_int (pa_cons pe_int pa_nil))) (pa_cons (pe_tup (pa_cons pe_int (pa_cons (pe_un un_neg pe_int) pa_nil))) pa_nil))))) pss_nil)
      (pss_one (ps_ret pe_non)))))), fun G ds vs R kr hGH hds hS hrt => ?_⟩)
  · obtain ⟨a, b, c, rfl, _⟩ := h
    rfl
  · obtain ⟨a, b, c, rfl, h0, ha, hb, hR⟩ := hS
    have c2 : ∀ {x : Int}, x.natAbs < 2 ^ 1000 → CMulW 2 x := fun h => cmul (a := 2) (b := 1000) (by decide) h (by decide)
    refine st_seq (st_asg (ev_var (d := .tuple [.tuple [.int a, .int b], .tuple [.int b, .int c]]) rfl) (tg_tup (tgs_cons (tg_tup (tgs_cons tg_name (tgs_cons tg_name tgs_nil)) rfl) (tgs_cons (tg_tup (tgs_cons tg_name (tgs_cons tg_name tgs_nil)) rfl) tgs_nil)) rfl) ?_)
    unfold nextM at hR
    refine st_seq (st_if (et_or (et_test (ev_op (ev_op ev_int (ev_var rfl) (rv_IC (c2 hb))) (ev_var rfl) rv_IB)) fun _ => et_test (ev_op (ev_op ev_int (ev_var rfl) (rv_IC (c2 hb))) (ev_op ev_int (ev_var rfl) rv_II) rv_IB)) (fun e => ?_) (fun e => ?_))
    · have e1 : a < 2 * b ∨ 2 * b < 0 - a := by simpa using e
      rw [if_pos e1] at hR
      refine st_ret (EvD.is (ev_tup (ea_cons (ev_tup (ea_cons ev_int (ea_cons ev_int ea_nil)) (by simp)) (ea_cons (ev_tup (ea_cons (ev_op ev_int (ev_op (ev_op (ev_op ev_int (ev_var rfl) (rv_IC (c2 hb))) (ev_var rfl) rv_II) (ev_op ev_int (ev_var rfl) (rv_IC (c2 ha))) (rv_IC (cdiv (b := 1002) (by omega) ?_ (by decide)))) rv_II) (ea_cons ev_int ea_nil)) (by simp)) ea_nil)) (by simp)) rfl) hrt hR
      have e2 : (2 : Nat) ^ 1002 = 4 * 2 ^ 1000 := by rw [show 1002 = 1000 + 2 from rfl, Nat.pow_add]
      rw [e2]
      omega
    · have e1 : ¬ (a < 2 * b ∨ 2 * b < 0 - a) := by simpa using e
      rw [if_neg e1] at hR
      refine st_nil (st_seq (st_if (et_test (ev_op (ev_var rfl) (ev_var rfl) rv_IB)) (fun e2 => ?_) (fun e2 => ?_)))
      · have e3 : c < a := by simpa using e2
        rw [if_pos e3] at hR
        exact st_ret (EvD.is (ev_tup (ea_cons (ev_tup (ea_cons ev_int (ea_cons ev_int ea_nil)) (by simp)) (ea_cons (ev_tup (ea_cons ev_int (ea_cons ev_int ea_nil)) (by simp)) ea_nil)) (by simp)) rfl) hrt hR
      · have e3 : ¬ c < a := by simpa using e2
        rw [if_neg e3] at hR
        refine st_nil (st_seq (st_if (et_test (ev_op (ev_var rfl) ev_int rv_IB)) (fun e4 => ?_) (fun e4 => ?_)))
        · have e5 : b < 0 := by simpa using e4
          rw [if_pos e5] at hR
          exact st_ret (EvD.is (ev_tup (ea_cons (ev_tup (ea_cons ev_int (ea_cons ev_int ea_nil)) (by simp)) (ea_cons (ev_tup (ea_cons ev_int (ea_cons (ev_neg ev_int) ea_nil)) (by simp)) ea_nil)) (by simp)) rfl) hrt hR
        · have e5 : ¬ b < 0 := by simpa using e4
          rw [if_neg e5] at hR
          refine st_nil ?_
          show Nx K _ (tRet (tC .non) { nx := fun x H' => kr V.non H', rt := kr }) _ _
          exact st_ret (R := R) (d := .none) ev_non hrt hR
theorem ev_next_change {a b c : Int} (h : EvA K tA ρ M [fm [[a, b], [b, c]]]) (h0 : 0 < a) (h1 : a.natAbs < 2 ^ 1000) (h2 : b.natAbs < 2 ^ 1000) : EvD K (tCall (spF K S_next_change) [] E0 tA) ρ M (optD (nextM a b c)) := ev_call h fun R r => ⟨a, b, c, rfl, h0, h1, h2, r⟩
end
end Lc

namespace Lc
open PySem PySem.Spec PyProof.Rows L2 RZ

/-! ### gone_down -/
def lastF (Fs : List (List (List Int))) : List (List Int) := Fs.getLastD []
def stepOf (Fs : List (List (List Int))) : Option (List (List Int)) := nextM (ent (lastF Fs) 0 0) (ent (lastF Fs) 0 1) (ent (lastF Fs) 1 1)
def goneM : Nat → List (List (List Int)) → List (List Int) → List (List (List Int)) × List (List Int)
  | 0, Fs, U => (Fs, U)
  | k + 1, Fs, U => match stepOf Fs with
    | none => (Fs, U)
    | some m => goneM k (Fs ++ [changedM (lastF Fs) m]) (behindM U m)
structure GI (a b c : Int) : Prop where
  a0 : 0 < a
  a1 : a ≤ 89
  b0 : -89 ≤ b
  b1 : b ≤ 89
  c0 : 0 < c
  c1 : c ≤ 20000
  d0 : 0 < a * c - b * b
  d1 : a * c - b * b ≤ 7921
def muG (a b : Int) : Nat := 4 * a.toNat + (if a < 2 * b ∨ 2 * b < 0 - a then 2 else 0) + (if b < 0 then 1 else 0)
theorem changed2 (a b c p q r s : Int) : changedM [[a, b], [b, c]] [[p, q], [r, s]] = [[p * (a * p + b * q) + q * (b * p + c * q), p * (a * r + b * s) + q * (b * r + c * s)], [r * (a * p + b * q) + s * (b * p + c * q), r * (a * r + b * s) + s * (b * r + c * s)]] := by
  simp [changedM, prodM, prodP, dotI]
theorem abs_le_sq {b B : Int} (h0 : -B ≤ b) (h1 : b ≤ B) : b * b ≤ B * B := by
  have h2 : 0 ≤ (B - b) * (B + b) := Int.mul_nonneg (by omega) (by omega)
  grind
theorem sq_nn (b : Int) : 0 ≤ b * b := by
  rcases Int.le_total 0 b with h | h
  · exact Int.mul_nonneg h h
  · have := Int.mul_nonneg (show 0 ≤ -b by omega) (show 0 ≤ -b by omega)
    grind
theorem cpos_of {a b c : Int} (a0 : 0 < a) (h : 0 < a * c - b * b) : 0 < c := by
  have := sq_nn b
  rcases Int.lt_or_le 0 c with z | z
  · exact z
  · have h2 : a * c ≤ a * 0 := Int.mul_le_mul_of_nonneg_left z (by omega)
    omega
theorem cle_of {a b c : Int} (a0 : 0 < a) (b0 : -89 ≤ b) (b1 : b ≤ 89) (c0 : 0 < c) (h : a * c - b * b ≤ 7921) : c ≤ 20000 := by
  have h1 := abs_le_sq b0 b1
  have h2 : 1 * c ≤ a * c := Int.mul_le_mul_of_nonneg_right (by omega) (by omega)
  omega
/-- one step down: rep says that the new first entry comes of the old ones by (p, q) -/
theorem gone_step {a b c : Int} {m : List (List Int)} (g : GI a b c) (h : nextM a b c = some m) : ∃ p q r s a' b' c' : Int, m = [[p, q], [r, s]] ∧ changedM [[a, b], [b, c]] m = [[a', b'], [b', c']] ∧ GI a' b' c' ∧ muG a' b' < muG a b ∧ a' ≤ a ∧
    p.natAbs < 2 ^ 10 ∧ q.natAbs < 2 ^ 10 ∧ r.natAbs < 2 ^ 10 ∧ s.natAbs < 2 ^ 10 ∧ (p * s - q * r = 1 ∨ p * s - q * r = -1) ∧
    a' = p * p * a + 2 * p * q * b + q * q * c ∧ b' = p * r * a + (p * s + q * r) * b + q * s * c ∧ c' = r * r * a + 2 * r * s * b + s * s * c := by
  obtain ⟨a0, a1, b0, b1, c0, c1, d0, d1⟩ := g
  unfold nextM at h
  split at h
  · rename_i e
    cases h
    obtain ⟨k, hk⟩ : ∃ k, k = (2 * b + a) / (2 * a) := ⟨_, rfl⟩
    have h1 : 2 * a * k ≤ 2 * b + a := by rw [hk]; exact Int.mul_ediv_self_le (by omega)
    have h2 : 2 * b + a < 2 * a * k + 2 * a := by
      have := Int.lt_mul_ediv_self_add (x := 2 * b + a) (k := 2 * a) (by omega)
      rw [hk]
      exact this
    have hkb : k.natAbs ≤ (2 * b + a).natAbs := by rw [hk]; exact Int.natAbs_ediv_le_natAbs _ _
    rw [← hk]
    have e3 : 2 * a * k = 2 * (a * k) := by grind
    rw [e3] at h1 h2
    generalize hak : a * k = z at *
    have hD : a * ((0 - k) * (a * (0 - k) + b) + (b * (0 - k) + c)) - (b - z) * (b - z) = a * c - b * b := by subst hak; grind
    have hc0 := cpos_of a0 (by rw [hD]; exact d0)
    refine ⟨1, 0, 0 - k, 1, a, b - z, (0 - k) * (a * (0 - k) + b) + (b * (0 - k) + c), rfl, ?_, ⟨a0, a1, by omega, by omega, hc0, cle_of (b := b - z) a0 (by omega) (by omega) hc0 (by rw [hD]; exact d1), by rw [hD]; exact d0, by rw [hD]; exact d1⟩, ?_, Int.le_refl _, by decide, by decide, ?_, by decide, by omega, by omega, ?_, ?_⟩
    · rw [changed2]
      subst hak
      simp only [List.cons.injEq, and_true]
      refine ⟨⟨?_, ?_⟩, ?_, ?_⟩ <;> grind
    · unfold muG
      rw [if_pos e, if_neg (by omega)]
      split <;> split <;> omega
    · show (0 - k).natAbs < 1024
      omega
    · subst hak; grind
    · grind
  · rename_i e
    split at h
    · rename_i e2
      cases h
      refine ⟨0, 1, 1, 0, c, b, a, rfl, ?_, ⟨c0, by omega, b0, b1, a0, by omega, by rw [Int.mul_comm]; exact d0, by rw [Int.mul_comm]; exact d1⟩, ?_, by omega, by decide, by decide, by decide, by decide, by decide, by grind, by grind, by grind⟩
      · rw [changed2]
        simp only [List.cons.injEq, and_true]
        refine ⟨⟨?_, ?_⟩, ?_, ?_⟩ <;> grind
      · unfold muG
        rw [if_neg e]
        split <;> split <;> omega
    · rename_i e2
      split at h
      · rename_i e3
        cases h
        have hD : a * c - (-b) * (-b) = a * c - b * b := by grind
        refine ⟨1, 0, 0, -1, a, -b, c, rfl, ?_, ⟨a0, a1, by omega, by omega, c0, c1, by rw [hD]; exact d0, by rw [hD]; exact d1⟩, ?_, by omega, by decide, by decide, by decide, by decide, by decide, by grind, by grind, by grind⟩
        · rw [changed2]
          simp only [List.cons.injEq, and_true]
          refine ⟨⟨?_, ?_⟩, ?_, ?_⟩ <;> grind
        · unfold muG
          rw [if_neg e, if_neg (by omega), if_pos e3, if_neg (by omega)]
          omega
      · cases h
theorem lastF_app (pre : List (List (List Int))) (F : List (List Int)) : lastF (pre ++ [F]) = F := by
  unfold lastF
  simp
theorem stepOf_app (pre : List (List (List Int))) (a b c : Int) : stepOf (pre ++ [[[a, b], [b, c]]]) = nextM a b c := by
  unfold stepOf
  rw [lastF_app]
  rfl
theorem behind2 (x y z v p q r s : Int) : behindM [[x, y], [z, v]] [[p, q], [r, s]] = [[p * x + q * z, p * y + q * v], [r * x + s * z, r * y + s * v]] := by
  simp [behindM, rowM, ent, List.range_succ]
theorem mul2_lt {k : Nat} {p q x z : Int} (h1 : p.natAbs < 2 ^ 10) (h2 : q.natAbs < 2 ^ 10) (h3 : x.natAbs < 2 ^ k) (h4 : z.natAbs < 2 ^ k) : (p * x + q * z).natAbs < 2 ^ (k + 12) := by
  have h5 := pow_mul_lt h1 h3
  have h6 := pow_mul_lt h2 h4
  refine Nat.lt_of_le_of_lt (Int.natAbs_add_le _ _) ?_
  rw [Int.natAbs_mul, Int.natAbs_mul]
  have e : (2 : Nat) ^ (k + 12) = 2 ^ (10 + k) * 4 := by rw [show k + 12 = (10 + k) + 2 by omega, Nat.pow_add (m := 10 + k)]
  omega
structure GS (k : Nat) (Fs : List (List (List Int))) (U : List (List Int)) : Prop where
  fs : ∃ pre a b c, Fs = pre ++ [[[a, b], [b, c]]] ∧ GI a b c ∧ muG a b ≤ k
  len : Fs.length + k ≤ 401
  us : ∃ x y z v : Int, U = [[x, y], [z, v]] ∧ x.natAbs < 2 ^ (12 * (401 - k)) ∧ y.natAbs < 2 ^ (12 * (401 - k)) ∧ z.natAbs < 2 ^ (12 * (401 - k)) ∧ v.natAbs < 2 ^ (12 * (401 - k))
theorem GS.next {k : Nat} {Fs : List (List (List Int))} {U m : List (List Int)} (g : GS k Fs U) (h : stepOf Fs = some m) : ∃ k', k = k' + 1 ∧ GS k' (Fs ++ [changedM (lastF Fs) m]) (behindM U m) := by
  obtain ⟨⟨pre, a, b, c, rfl, gi, hm⟩, hl, x, y, z, v, rfl, h1, h2, h3, h4⟩ := g
  rw [stepOf_app] at h
  obtain ⟨p, q, r, s, a', b', c', rfl, e, gi', hmu, ha, hp, hq, hr, hs, _⟩ := gone_step gi h
  obtain ⟨k', rfl⟩ : ∃ k', k = k' + 1 := ⟨k - 1, by omega⟩
  rw [lastF_app, e, behind2]
  have ek : 12 * (401 - k') = 12 * (401 - (k' + 1)) + 12 := by omega
  refine ⟨k', rfl, ⟨⟨_, a', b', c', rfl, gi', by omega⟩, by rw [List.length_append] at *; simp at *; omega, ?_⟩⟩
  rw [ek]
  exact ⟨_, _, _, _, rfl, mul2_lt hp hq h1 h3, mul2_lt hp hq h2 h4, mul2_lt hr hs h1 h3, mul2_lt hr hs h2 h4⟩
section
variable {P : Program} {w : World} {K : PySem.W.Frag} {mg : Str → Option Value} {base : Heap} {ρ : List Sl} {M : Mt} {tA : TA} {te tb : TE}

theorem et_notN {o : Option (List (List Int))} (h : EvD K te ρ M (optD o)) : EvT K (tTest (tOp (fun x y H Q => y = .non ∧ Q (.bl (!decide (x = .non))) H) te (tC .non))) ρ M o.isSome := fun σ G H n Q q =>
  h σ G H n _ fun v G2 H2 s hv => by
    cases o with
    | none =>
      have hv : Dq K G2 v .none := hv
      cases hv
      exact ⟨rfl, false, rfl, q G2 H2 s⟩
    | some m =>
      have hv : Dq K G2 v (.tuple (m.map pt)) := hv
      obtain ⟨a, xs, rfl, _⟩ := hv.tup_inv
      exact ⟨rfl, true, by simp, q G2 H2 s⟩
theorem atI_last {ds : List PD} {d : PD} : atI (ds ++ [d]) (-1) = some d := by
  unfold atI ixN
  rw [if_neg (by omega), if_pos (by rw [List.length_append]; simp; omega)]
  show (ds ++ [d])[((-1 : Int) + ((ds ++ [d]).length : Nat)).toNat]? = _
  have e : ((-1 : Int) + ((ds ++ [d]).length : Nat)).toNat = ds.length := by rw [List.length_append]; simp; omega
  rw [e, List.getElem?_append_right (Nat.le_refl _), Nat.sub_self]
  rfl
def goneD (F : List (List Int)) : PD := .tuple [.list ((goneM 400 [F] [[1, 0], [0, 1]]).1.map fm), fm (goneM 400 [F] [[1, 0], [0, 1]]).2]
def S_gone_down (ds : List PD) (R : PD → Prop) : Prop := ∃ a b c : Int, ds = [fm [[a, b], [b, c]]] ∧ GI a b c ∧ R (goneD [[a, b], [b, c]])
theorem mu_le {a b c : Int} (g : GI a b c) : muG a b ≤ 400 := by
  have := g.a1
  have := g.a0
  unfold muG
  split <;> split <;> omega
theorem gs0 {a b c : Int} (hg : GI a b c) : GS 400 [[[a, b], [b, c]]] [[1, 0], [0, 1]] := ⟨⟨[], a, b, c, rfl, hg, mu_le hg⟩, by simp, 1, 0, 0, 1, rfl, by decide, by decide, by decide, by decide⟩
abbrev N_gone_down : List Str := ["form", "forms", "change", "step"]
theorem sc_gone_down : FnScope N_gone_down ["form"] (defScope s_gone_down) := ⟨rfl, rfl, rfl, by decide +kernel, rfl, by decide +kernel, by decide +kernel⟩
theorem ok_gone_down (T : Tx K mg) : C8.Cal P w K mg base 3 "gone_down" (spF K S_gone_down) [] := by
  have c_next_change := ok_next_change (P := P) (w := w) (base := base) T
  have c_changed_by := ok_changed_by (P := P) (w := w) (base := base) T
  have c_one_behind := ok_one_behind (P := P) (w := w) (base := base) T
  obtain ⟨sa, sb, sd, hsame, hs1, hs2, hs3⟩ := T.same
  refine cal_of T.f_gone_down (fun _ _ _ _ _ _ us hl => match us, hl with | [_], _ => rfl) sc_gone_down (fun ds R h => ?_) (fun cdv A outer s H E hr => ⟨_, (pss_cons (ps_set (i := 1) sc_gone_down.nd rfl (Or.inl rfl) (pe_lst (pa_cons (pv 0) pa_nil)))
      (pss_cons (ps_set (i := 2) sc_gone_down.nd rfl (Or.inl rfl) (pe_glob (v := .ref sa) (by rfl) hsame rfl))
      (pss_cons (ps_set (i := 3) sc_gone_down.nd rfl (Or.inl rfl) (C8.pe_c c_next_change hr (by first | decide | omega) (by rfl) (pa_cons (pv 0) pa_nil)))
      (pss_cons (ps_while PassesOwn.never (pt_cmpR op_notN (pv 3) pe_non (nomark _)) (pss_cons (ps_expr (pe_bmK (K := K) rfl PySem.F.plainAttrs_list PySem.F.slot_list_append PySem.F.type_list_append mt_append (pv 1) (pa_cons (C8.pe_c c_changed_by hr (by first | decide | omega) (by rfl) (pa_cons (pe_ix (ix_listK (K := K) rfl) (pv 1) (pe_un un_neg pe_int) (fun _ _ => rfl)) (pa_cons (pv 3) pa_nil))) pa_nil)))
        (pss_cons (ps_set (i := 2) sc_gone_down.nd rfl (Or.inl rfl) (C8.pe_c c_one_behind hr (by first | decide | omega) (by rfl) (pa_cons (pv 2) (pa_cons (pv 3) pa_nil))))
        (pss_one (ps_set (i := 3) sc_gone_down.nd rfl (Or.inl rfl) (C8.pe_c c_next_change hr (by first | decide | omega) (by rfl) (pa_cons (pe_ix (ix_listK (K := K) rfl) (pv 1) (pe_un un_neg pe_int) (fun _ _ => rfl)) pa_nil)))))))
      (pss_one (ps_ret (pe_tup (pa_cons (pv 1) (pa_cons (pv 2) pa_nil))))))))), fun G ds vs R kr hGH hds hS hrt => ?_⟩)
  · obtain ⟨a, b, c, rfl, _⟩ := h
    rfl
  · obtain ⟨a, b, c, rfl, hg, hR⟩ := hS
    have big : ∀ {x : Int}, -20000 ≤ x → x ≤ 20000 → x.natAbs < 2 ^ 1000 := fun h0 h1 => pw_le (n := 15) (by show _ < 32768; omega) (by decide)
    have hst : ∀ {a b c : Int}, GI a b c → a.natAbs < 2 ^ 1000 ∧ b.natAbs < 2 ^ 1000 := fun g => ⟨big (by have := g.a0; omega) (by have := g.a1; omega), big (by have := g.b0; omega) (by have := g.b1; omega)⟩
    have hid : ∀ G, Dq K G (.ref sa) (fm [[1, 0], [0, 1]]) := fun G => .tup (hs1 G) (.cons (.tup (hs2 G) (.cons (.int 1) (.cons (.int 0) .nil))) (.cons (.tup (hs3 G) (.cons (.int 0) (.cons (.int 1) .nil))) .nil))
    refine st_seq (st_newM (ev_lst (ea_cons (ev_var rfl) ea_nil) (by simp)) fun p => ?_)
    show Nx K _ (tSeq (tAsg (tC (.ref sa)) (gName 2)) _ _) _ _
    refine st_seq ?_
    show Nx K _ (tAsg (tC (.ref sa)) (gName 2) _) _ _
    refine st_set (ev_cst hid) ?_
    refine st_seq (st_set (ev_next_change (ea_cons (ev_var rfl) ea_nil) hg.a0 (hst hg).1 (hst hg).2) ?_)
    refine st_seq (st_while (S := Nat × List (List (List Int)) × List (List Int)) (fun q => GS q.1 q.2.1 q.2.2 ∧ goneM q.1 q.2.1 q.2.2 = goneM 400 [[[a, b], [b, c]]] [[1, 0], [0, 1]]) (fun q => [.d (fm [[a, b], [b, c]]), .r p, .d (fm q.2.2), .d (optD (stepOf q.2.1))]) (fun q => [(p, q.2.1.map fm)]) (fun q => q.1) (fun q => (stepOf q.2.1).isSome)
      (400, [[[a, b], [b, c]]], [[1, 0], [0, 1]]) ⟨gs0 hg, rfl⟩ (by repeat' (first | exact True.intro | exact Or.inr rfl | exact Or.inl rfl | refine And.intro ?_ ?_)) rfl (fun q hq => et_notN (ev_var rfl)) (fun q hq e N hN => ?_) (fun q hq e => ?_))
    · obtain ⟨k, Fs, U⟩ := q
      obtain ⟨gs, hq⟩ := hq
      simp only at gs hq e
      obtain ⟨m, hm⟩ := Option.isSome_iff_exists.mp e
      obtain ⟨k', rfl, gs'⟩ := gs.next hm
      have e2 : goneM (k' + 1) Fs U = goneM k' (Fs ++ [changedM (lastF Fs) m]) (behindM U m) := by
        show (match stepOf Fs with | none => (Fs, U) | some m => goneM k' (Fs ++ [changedM (lastF Fs) m]) (behindM U m)) = _
        rw [hm]
      have hN := hN (k', Fs ++ [changedM (lastF Fs) m], behindM U m) ⟨gs', by rw [← e2]; exact hq⟩ (Nat.lt_succ_self _)
      obtain ⟨⟨pre, a1, b1, c1, eF, gi, hmu⟩, hlen, x, y, z, v, rfl, u1, u2, u3, u4⟩ := gs
      subst eF
      obtain ⟨⟨pre2, a2, b2, c2, eF2, gi2, hmu2⟩, hlen2, _⟩ := gs'
      rw [stepOf_app] at hm
      obtain ⟨p1, q1, r1, s1, a', b', c', rfl, e3, gi', hmu', ha, hp, hq1, hr1, hs1', _⟩ := gone_step gi hm
      rw [lastF_app] at *
      rw [e3] at hN
      have hB : ∀ {x : Int}, -20000 ≤ x → x ≤ 20000 → x.natAbs < 2 ^ 15 := fun h0 h1 => by show _ < 32768; omega
      have bF : Bd 15 [[a1, b1], [b1, c1]] := by
        have := gi.a0; have := gi.a1; have := gi.b0; have := gi.b1; have := gi.c0; have := gi.c1
        intro r hr x hx
        simp at hr
        rcases hr with rfl | rfl <;> simp at hx <;> rcases hx with rfl | rfl <;> exact hB (by omega) (by omega)
      have bm : Bd 15 [[p1, q1], [r1, s1]] := by
        intro r hr x hx
        simp at hr
        rcases hr with rfl | rfl <;> simp at hx <;> rcases hx with rfl | rfl <;> exact pw_le (n := 10) (by assumption) (by decide)
      have bm2 : Bd 5000 [[p1, q1], [r1, s1]] := by
        intro r hr x hx
        exact pw_le (bm r hr x hx) (by decide)
      have bU : Bd 5000 [[x, y], [z, v]] := by
        have hk : 12 * (401 - (k' + 1)) ≤ 5000 := by omega
        intro r hr x hx
        simp at hr
        rcases hr with rfl | rfl <;> simp at hx <;> rcases hx with rfl | rfl <;> exact pw_le (by assumption) hk
      have hlast : ∀ {d : PD}, atI ((pre ++ [[[a1, b1], [b1, c1]]]).map fm) (-1) = some d ↔ d = fm [[a1, b1], [b1, c1]] := by
        intro d
        rw [List.map_append, List.map_cons, List.map_nil, atI_last]
        exact ⟨fun h => (Option.some.inj h).symm, fun h => by rw [h]⟩
      refine st_seq (st_append (i := 1) rfl (ev_changed_by (F := [[a1, b1], [b1, c1]]) (C := [[p1, q1], [r1, s1]]) (B := 15) (ea_cons (ev_ixM rfl List.mem_cons_self (ev_neg ev_int) (hlast.mpr rfl)) (ea_cons (EvD.is (ev_var rfl) (by rw [stepOf_app, hm]; rfl)) ea_nil)) (by simp) (by simp) (by simp) (by simp) bF bm (by decide)) (by rw [List.length_map]; show (pre ++ [[[a1, b1], [b1, c1]]]).length ≤ _; omega) ?_)
      refine st_seq (st_set (ev_one_behind (n := 2) (B := 5000) (U := [[x, y], [z, v]]) (C := [[p1, q1], [r1, s1]]) (ea_cons (ev_var rfl) (ea_cons (EvD.is (ev_var rfl) (by rw [stepOf_app, hm]; rfl)) ea_nil)) rfl (by decide) rfl (by simp) (by simp) bU bm2 (by decide)) ?_)
      rw [e3]
      refine st_set (ev_next_change (a := a') (b := b') (c := c') (ea_cons (ev_ixM rfl List.mem_cons_self (ev_neg ev_int) atI_last) ea_nil) gi'.a0 (hst gi').1 (hst gi').2) ?_
      have e4 : nextM a' b' c' = stepOf (pre ++ [[[a1, b1], [b1, c1]]] ++ [[[a', b'], [b', c']]]) := (stepOf_app _ _ _ _).symm
      rw [e4]
      have e5 : (pre ++ [[[a1, b1], [b1, c1]]]).map fm ++ [fm [[a', b'], [b', c']]] = (pre ++ [[[a1, b1], [b1, c1]]] ++ [[[a', b'], [b', c']]]).map fm := by simp
      rw [e5]
      exact hN.wkn (by repeat' (first | exact True.intro | exact Or.inr rfl | exact Or.inl rfl | refine And.intro ?_ ?_))
    · obtain ⟨k, Fs, U⟩ := q
      obtain ⟨gs, hq⟩ := hq
      simp only at gs hq e
      have e2 : goneM k Fs U = (Fs, U) := by
        cases k with
        | zero => rfl
        | succ k =>
          show (match stepOf Fs with | none => (Fs, U) | some m => goneM k (Fs ++ [changedM (lastF Fs) m]) (behindM U m)) = _
          cases z : stepOf Fs with
          | none => rfl
          | some m => rw [z] at e; cases e
      rw [e2] at hq
      refine Nx.frz 1 rfl (st_ret (ev_tup (ea_cons (ev_var rfl) (ea_cons (ev_var rfl) ea_nil)) (by simp)) hrt ?_)
      unfold goneD at hR
      rw [← hq] at hR
      exact hR
theorem ev_gone_down {a b c : Int} (h : EvA K tA ρ M [fm [[a, b], [b, c]]]) (hg : GI a b c) : EvD K (tCall (spF K S_gone_down) [] E0 tA) ρ M (goneD [[a, b], [b, c]]) := ev_call h fun R r => ⟨a, b, c, rfl, hg, r⟩
end
end Lc

namespace Lc
open PySem PySem.Spec PyProof.Rows L2 RZ

/-! ### points_by, points_at, points_to, tallied, counts_to, is_bare, bare_counts -/
def encP (q : List Int × Int) : PD := .tuple [pt q.1, .int q.2]
structure PBok (n : Nat) (F : List (List Int)) (b : Nat) : Prop where
  fo : IsF n F
  pn : PNok n F b
  rg : ∀ q ∈ pathsM n F b n, 0 ≤ q.2.num ∧ q.2.num ≤ (b : Int)
  lp : ∀ q ∈ pathsM n F b n, q.1.length = n
  b6 : b ≤ 1000
def rawM (n : Nat) (F : List (List Int)) (b : Nat) : List (List Int × Int) := (pathsM n F b n).map fun q => (q.1, q.2.num)
def pbM (n : Nat) (F : List (List Int)) (b : Nat) : List (List Int × Int) := (rawM n F b).mergeSort (PySem.W.dataLe false encP)
theorem pbM_mem {n b : Nat} {F : List (List Int)} {q : List Int × Int} : q ∈ pbM n F b ↔ q ∈ rawM n F b := List.mem_mergeSort
theorem pbM_len {n b : Nat} {F : List (List Int)} : (pbM n F b).length = (pathsM n F b n).length := by
  unfold pbM rawM
  rw [List.length_mergeSort, List.length_map]
theorem PBok.sz {n b : Nat} {F : List (List Int)} (h : PBok n F b) : (pbM n F b).length ≤ 10000000 := by
  rw [pbM_len]
  exact h.pn.len n (Nat.le_refl n)
theorem PBok.mem {n b : Nat} {F : List (List Int)} (h : PBok n F b) {q : List Int × Int} (hq : q ∈ pbM n F b) : q.1.length = n ∧ 0 ≤ q.2 ∧ q.2 ≤ (b : Int) := by
  obtain ⟨q', h1, rfl⟩ := List.mem_map.mp (pbM_mem.mp hq)
  exact ⟨h.lp q' h1, (h.rg q' h1).1, (h.rg q' h1).2⟩
theorem dpo_pt (p : List Int) : Dpo (pt p) := dpo_ints
theorem dpo_encP (q : List Int × Int) : Dpo (encP q) := dpo_tup fun d hd => by
  rcases List.mem_cons.mp hd with e | hd
  · rw [e]; exact dpo_pt _
  · rcases List.mem_cons.mp hd with e | hd
    · rw [e]; exact dpo_int _
    · exact nomatch hd
theorem alike_encP (q q' : List Int × Int) : PySem.W.alike (encP q) (encP q') = true := PySem.W.DatumOrd.alike (α := PySem.W.Tup Int × Int) (⟨q.1⟩, q.2) (⟨q'.1⟩, q'.2)
theorem alike_pt (p p' : List Int) : PySem.W.alike (pt p) (pt p') = true := PySem.W.DatumOrd.alike (α := PySem.W.Tup Int) ⟨p⟩ ⟨p'⟩
theorem depth_encP (q : List Int × Int) : (encP q).depth ≤ 50 := Nat.le_trans (PySem.W.Datum.depth_le (α := PySem.W.Tup Int × Int) (⟨q.1⟩, q.2)) (by decide)
theorem depth_pt (p : List Int) : (pt p).depth ≤ 50 := Nat.le_trans (PySem.W.Datum.depth_le (α := PySem.W.Tup Int) ⟨p⟩) (by decide)
theorem all_encP (l : List (List Int × Int)) : PySem.W.AllAlike (l.map encP) := fun d h d' h' => by
  obtain ⟨q, _, rfl⟩ := List.mem_map.mp h
  obtain ⟨q', _, rfl⟩ := List.mem_map.mp h'
  exact alike_encP q q'
theorem srt_encP (l : List (List Int × Int)) : PySem.W.Sortable (l.map encP) := .inl fun d h => by
  obtain ⟨q, _, rfl⟩ := List.mem_map.mp h
  exact ⟨_, _, rfl⟩
theorem all_pt (l : List (List Int)) : PySem.W.AllAlike (l.map pt) := fun d h d' h' => by
  obtain ⟨q, _, rfl⟩ := List.mem_map.mp h
  obtain ⟨q', _, rfl⟩ := List.mem_map.mp h'
  exact alike_pt q q'
theorem srt_pt (l : List (List Int)) (h0 : ∀ p ∈ l, p ≠ []) : PySem.W.Sortable (l.map pt) := .inl fun d h => by
  obtain ⟨q, hq, rfl⟩ := List.mem_map.mp h
  cases q with
  | nil => exact absurd rfl (h0 _ hq)
  | cons x r => exact ⟨.int x, r.map .int, rfl⟩
def tallyM (rows : List (List Int × Int)) (b : Nat) : List Int := (List.range (b + 1)).map fun (l : Nat) => ((rows.countP fun q => decide (q.2 = (l : Int)) : Nat) : Int)
theorem tally_len {rows : List (List Int × Int)} {b : Nat} : (tallyM rows b).length = b + 1 := by simp [tallyM]
theorem tally_get {rows : List (List Int × Int)} {b l : Nat} (h : l ≤ b) : (tallyM rows b)[l]? = some ((rows.countP fun q => decide (q.2 = (l : Int)) : Nat) : Int) := by
  unfold tallyM
  rw [List.getElem?_map, List.getElem?_range (by omega)]
  rfl
theorem tally_set {rows : List (List Int × Int)} {b i l : Nat} {q : List Int × Int} (h : rows[i]? = some q) (e : q.2 = (l : Int)) (hl : l ≤ b) : (tallyM (rows.take i) b).set l (((rows.take i).countP fun q => decide (q.2 = (l : Int)) : Nat) + 1) = tallyM (rows.take (i + 1)) b := by
  apply List.ext_getElem?
  intro m
  by_cases hm : m ≤ b
  · rw [tally_get hm, List.take_add_one, h, Option.toList_some, List.countP_append]
    by_cases z : l = m
    · subst z
      rw [List.getElem?_set_self (by rw [tally_len]; omega), List.countP_singleton, if_pos (decide_eq_true e)]
      rfl
    · rw [List.getElem?_set_ne z, tally_get hm, List.countP_singleton, if_neg (by rw [decide_eq_true_eq, e]; omega)]
      rfl
  · rw [List.getElem?_eq_none (by rw [List.length_set, tally_len]; omega), List.getElem?_eq_none (by rw [tally_len]; omega)]
def gcdL (p : List Int) : Int := p.foldl (fun (a x : Int) => ((Int.gcd a x : Nat) : Int)) 0
def bare (p : List Int) : Bool := decide (gcdL p = 1)
section
variable {P : Program} {w : World} {K : PySem.W.Frag} {mg : Str → Option Value} {base : Heap} {ρ : List Sl} {M : Mt} {tA : TA} {te tb : TE}

theorem nspot_rep (n : Nat) : (List.replicate (n : Int).toNat [fr 0]).flatten = List.replicate n (fr 0) := by
  show (List.replicate n [fr 0]).flatten = _
  induction n with
  | zero => rfl
  | succ n ih => rw [List.replicate_succ, List.flatten_cons, ih]; rfl
theorem ev_nspot {n : Nat} {ds : List PD} {tf : TE} (h : EvD K tf ρ M (.tuple ds)) (hn : ds.length = n) (h1 : 1 ≤ n) (h3 : n ≤ 3) : EvD K (tOp (rRepT1 K) (tTup (tCons (tTup (tCons (tC (.int 0)) (tCons (tC (.int 1)) tNil))) tNil)) (tCB (rLenQ K) (tCons tf tNil))) ρ M (nspot n) :=
  EvD.is (ev_op (d2 := .int (n : Nat)) (ev_tup (ea_cons (EvD.is (ev_tup (ea_cons ev_int (ea_cons ev_int ea_nil)) (by decide)) fr0) ea_nil) (by decide)) (EvD.is (ev_cb (ea_cons h ea_nil) rc_lenT) (by rw [hn])) (rv_repT (by simp) (by omega) (by omega) (by decide))) (by rw [nspot_rep]; rfl)
def S_points_by (ds : List PD) (R : PD → Prop) : Prop := ∃ (n : Nat) (F : List (List Int)) (b : Nat), ds = [fm F, .int (b : Nat)] ∧ PBok n F b ∧ R (.list ((pbM n F b).map encP))
abbrev N_points_by : List Str := ["form", "bound", "point", "far"]
theorem sc_points_by : FnScope N_points_by ["form", "bound"] (defScope s_points_by) := ⟨rfl, rfl, rfl, by decide +kernel, rfl, by decide +kernel, by decide +kernel⟩
theorem ok_points_by (T : Tx K mg) : C8.Cal P w K mg base 6 "points_by" (spF K S_points_by) [] := by
  have c_points_near := ok_points_near (P := P) (w := w) (base := base) T
  refine cal_of T.f_points_by (fun _ _ _ _ _ _ us hl => match us, hl with | [_, _], _ => rfl) sc_points_by (fun ds R h => ?_) (fun cdv A outer s H E hr => ⟨_, (pss_one (ps_ret (pe_callB (sortK (K := K) rfl hr.units) (by rfl) T.b_sorted (by decide +kernel) (pa_cons (pe_lc (own := [("point", 2), ("far", 3)]) (g := (gTup K 2 (gCons (gName 2) (gCons (gName 3) gNil)))) (tt := tYes) rfl sc_points_by.nd (pi_listK (K := K) rfl (C8.pe_c c_points_near hr (by first | decide | omega) (by rfl) (pa_cons (pv 0) (pa_cons (pe_op (op_repK (K := K) rfl) (pe_tup (pa_cons (pe_tup (pa_cons pe_int (pa_cons pe_int pa_nil))) pa_nil)) (pe_callB (lenK (K := K) rfl) (by rfl) T.b_len (by decide +kernel) (pa_cons (pv 0) pa_nil))) (pa_cons (pe_tup (pa_cons (pv 1) (pa_cons pe_int pa_nil))) pa_nil))))) (blkOk_by (own := [("point", 2), ("far", 3)]) (N := N_points_by) (sc := (defScope s_points_by)) (by decide +kernel)) (fun _ _ _ _ _ => (pg_tupK (K := K) rfl rfl (pgs_cons (pg_name (i := 2) sc_points_by.nd rfl (Or.inl rfl)) (pgs_cons (pg_name (i := 3) sc_points_by.nd rfl (Or.inl rfl)) pgs_nil)))) (fun _ _ _ _ _ => pts_nil) (fun _ _ _ _ _ => (pe_tup (pa_cons (pv 2) (pa_cons (pe_ix (ix_tupK (K := K) rfl) (pv 3) pe_int (fun _ _ => rfl)) pa_nil))))) pa_nil)))), fun G ds vs R kr hGH hds hS hrt => ?_⟩)
  · obtain ⟨n, F, b, rfl, _⟩ := h
    rfl
  · obtain ⟨n, F, b, rfl, hp, hR⟩ := hS
    have h1 := hp.fo.n1
    have h3 := hp.fo.n3
    have hlen : (F.map pt).length = n := by rw [List.length_map, hp.fo.mx.len]
    refine st_ret (EvL.toD (ev_cbL (ea_cons (EvL.toD (EvL.is (es := (rawM n F b).map encP) (el_mapA (pathsM n F b n) pathD (fun q => encP (q.1, q.2.num)) (ei_list (ev_points_near (ea_cons (ev_var rfl) (ea_cons (ev_nspot (ev_var rfl) hlen h1 h3) (ea_cons (EvD.is (ev_tup (ea_cons (ev_var rfl) (ea_cons ev_int ea_nil)) (by simp)) (frI (b : Int))) ea_nil))) hp.pn)) (hp.pn.len n (Nat.le_refl n)) (fun i q hq => ?_)) ?_)) ea_nil) (rc_sorted (enc := encP) dpo_encP (all_encP _) (srt_encP _) fun q _ => depth_encP q))) hrt hR
    · exact ⟨_, _, by simp, tg_tup (tgs_cons tg_name (tgs_cons tg_name tgs_nil)) rfl, ev_tup (ea_cons (ev_var rfl) (ea_cons (ev_num (ev_var rfl)) ea_nil)) (by simp)⟩
    · unfold rawM
      rw [List.map_map]
      rfl
theorem ev_points_by {n b : Nat} {F : List (List Int)} (h : EvA K tA ρ M [fm F, .int (b : Nat)]) (hp : PBok n F b) : EvD K (tCall (spF K S_points_by) [] E0 tA) ρ M (.list ((pbM n F b).map encP)) := ev_call h fun R r => ⟨n, F, b, rfl, hp, r⟩
def atM (n : Nat) (F : List (List Int)) (b : Nat) : List (List Int) := ((pbM n F b).filter fun q => decide (q.2 = (b : Int))).map (·.1)
def S_points_at (ds : List PD) (R : PD → Prop) : Prop := ∃ (n : Nat) (F : List (List Int)) (b : Nat), ds = [fm F, .int (b : Nat)] ∧ PBok n F b ∧ R (.list ((atM n F b).map pt))
abbrev N_points_at : List Str := ["form", "length", "point", "far"]
theorem sc_points_at : FnScope N_points_at ["form", "length"] (defScope s_points_at) := ⟨rfl, rfl, rfl, by decide +kernel, rfl, by decide +kernel, by decide +kernel⟩
theorem ok_points_at (T : Tx K mg) : C8.Cal P w K mg base 8 "points_at" (spF K S_points_at) [] := by
  have c_check_both := ok_check_both (P := P) (w := w) (base := base) T
  have c_points_by := ok_points_by (P := P) (w := w) (base := base) T
  refine cal_of T.f_points_at (fun _ _ _ _ _ _ us hl => match us, hl with | [_, _], _ => rfl) sc_points_at (fun ds R h => ?_) (fun cdv A outer s H E hr => ⟨_, (pss_cons (ps_expr (C8.pe_c c_check_both hr (by first | decide | omega) (by rfl) (pa_cons (pv 0) (pa_cons (pv 1) pa_nil))))
      (pss_one (ps_ret (pe_lc (own := [("point", 2), ("far", 3)]) (g := (gTup K 2 (gCons (gName 2) (gCons (gName 3) gNil)))) rfl sc_points_at.nd (pi_listK (K := K) rfl (C8.pe_c c_points_by hr (by first | decide | omega) (by rfl) (pa_cons (pv 0) (pa_cons (pv 1) pa_nil)))) (blkOk_by (own := [("point", 2), ("far", 3)]) (N := N_points_at) (sc := (defScope s_points_at)) (by decide +kernel)) (fun _ _ _ _ _ => (pg_tupK (K := K) rfl rfl (pgs_cons (pg_name (i := 2) sc_points_at.nd rfl (Or.inl rfl)) (pgs_cons (pg_name (i := 3) sc_points_at.nd rfl (Or.inl rfl)) pgs_nil)))) (fun _ _ _ _ _ => (pts_one (pt_cmpR op_eq (pv 3) (pv 1) (nomark _)))) (fun _ _ _ _ _ => (pv 2)))))), fun G ds vs R kr hGH hds hS hrt => ?_⟩)
  · obtain ⟨n, F, b, rfl, _⟩ := h
    rfl
  · obtain ⟨n, F, b, rfl, hp, hR⟩ := hS
    refine st_seq (st_drop (ev_check_both (ea_cons (ev_var rfl) (ea_cons (ev_var rfl) ea_nil)) hp.fo) ?_)
    refine st_ret (EvL.toD (EvL.is (es := (atM n F b).map pt) (el_filtA (pbM n F b) encP (fun q => pt q.1) (fun q => decide (q.2 = (b : Int))) (ei_list (ev_points_by (ea_cons (ev_var rfl) (ea_cons (ev_var rfl) ea_nil)) hp)) hp.sz (fun i q hq => ?_)) ?_)) hrt hR
    · exact ⟨_, _, by simp, tg_tup (tgs_cons tg_name (tgs_cons tg_name tgs_nil)) rfl, et_test (ev_op (ev_var rfl) (ev_var rfl) rv_eq), fun _ => ev_var rfl⟩
    · unfold atM
      rw [List.map_map]
      rfl
theorem ev_points_at {n b : Nat} {F : List (List Int)} (h : EvA K tA ρ M [fm F, .int (b : Nat)]) (hp : PBok n F b) : EvD K (tCall (spF K S_points_at) [] E0 tA) ρ M (.list ((atM n F b).map pt)) := ev_call h fun R r => ⟨n, F, b, rfl, hp, r⟩
def S_points_to (ds : List PD) (R : PD → Prop) : Prop := ∃ (n : Nat) (F : List (List Int)) (b : Nat), ds = [fm F, .int (b : Nat)] ∧ PBok n F b ∧ R (.list (((pbM n F b).map (·.1)).map pt))
abbrev N_points_to : List Str := ["form", "bound", "point", "far"]
theorem sc_points_to : FnScope N_points_to ["form", "bound"] (defScope s_points_to) := ⟨rfl, rfl, rfl, by decide +kernel, rfl, by decide +kernel, by decide +kernel⟩
theorem ok_points_to (T : Tx K mg) : C8.Cal P w K mg base 8 "points_to" (spF K S_points_to) [] := by
  have c_check_both := ok_check_both (P := P) (w := w) (base := base) T
  have c_points_by := ok_points_by (P := P) (w := w) (base := base) T
  refine cal_of T.f_points_to (fun _ _ _ _ _ _ us hl => match us, hl with | [_, _], _ => rfl) sc_points_to (fun ds R h => ?_) (fun cdv A outer s H E hr => ⟨_, (pss_cons (ps_expr (C8.pe_c c_check_both hr (by first | decide | omega) (by rfl) (pa_cons (pv 0) (pa_cons (pv 1) pa_nil))))
      (pss_one (ps_ret (pe_lc (own := [("point", 2), ("far", 3)]) (g := (gTup K 2 (gCons (gName 2) (gCons (gName 3) gNil)))) (tt := tYes) rfl sc_points_to.nd (pi_listK (K := K) rfl (C8.pe_c c_points_by hr (by first | decide | omega) (by rfl) (pa_cons (pv 0) (pa_cons (pv 1) pa_nil)))) (blkOk_by (own := [("point", 2), ("far", 3)]) (N := N_points_to) (sc := (defScope s_points_to)) (by decide +kernel)) (fun _ _ _ _ _ => (pg_tupK (K := K) rfl rfl (pgs_cons (pg_name (i := 2) sc_points_to.nd rfl (Or.inl rfl)) (pgs_cons (pg_name (i := 3) sc_points_to.nd rfl (Or.inl rfl)) pgs_nil)))) (fun _ _ _ _ _ => pts_nil) (fun _ _ _ _ _ => (pv 2)))))), fun G ds vs R kr hGH hds hS hrt => ?_⟩)
  · obtain ⟨n, F, b, rfl, _⟩ := h
    rfl
  · obtain ⟨n, F, b, rfl, hp, hR⟩ := hS
    refine st_seq (st_drop (ev_check_both (ea_cons (ev_var rfl) (ea_cons (ev_var rfl) ea_nil)) hp.fo) ?_)
    refine st_ret (EvL.toD (EvL.is (es := ((pbM n F b).map (·.1)).map pt) (el_mapA (pbM n F b) encP (fun q => pt q.1) (ei_list (ev_points_by (ea_cons (ev_var rfl) (ea_cons (ev_var rfl) ea_nil)) hp)) hp.sz (fun i q hq => ?_)) ?_)) hrt hR
    · exact ⟨_, _, by simp, tg_tup (tgs_cons tg_name (tgs_cons tg_name tgs_nil)) rfl, ev_var rfl⟩
    · rw [List.map_map]
      rfl
theorem ev_points_to {n b : Nat} {F : List (List Int)} (h : EvA K tA ρ M [fm F, .int (b : Nat)]) (hp : PBok n F b) : EvD K (tCall (spF K S_points_to) [] E0 tA) ρ M (.list (((pbM n F b).map (·.1)).map pt)) := ev_call h fun R r => ⟨n, F, b, rfl, hp, r⟩
def S_tallied (ds : List PD) (R : PD → Prop) : Prop := ∃ (rows : List (List Int × Int)) (b : Nat), ds = [.list (rows.map encP), .int (b : Nat)] ∧ b ≤ 1000 ∧ (∀ q ∈ rows, 0 ≤ q.2 ∧ q.2 ≤ (b : Int)) ∧ R (.list ((tallyM rows b).map .int))
abbrev N_tallied : List Str := ["rows", "bound", "found", "point", "far"]
theorem sc_tallied : FnScope N_tallied ["rows", "bound"] (defScope s_tallied) := ⟨rfl, rfl, rfl, by decide +kernel, rfl, by decide +kernel, by decide +kernel⟩
theorem rep_one (n : Nat) (d : PD) : (List.replicate n [d]).flatten = List.replicate n d := by
  induction n with
  | zero => rfl
  | succ n ih => rw [List.replicate_succ, List.flatten_cons, ih]; rfl
theorem ok_tallied (T : Tx K mg) : C8.Cal P w K mg base 1 "tallied" (spF K S_tallied) [] := by
  refine cal_of T.f_tallied (fun _ _ _ _ _ _ us hl => match us, hl with | [_, _], _ => rfl) sc_tallied (fun ds R h => ?_) (fun cdv A outer s H E hr => ⟨_, (pss_cons (ps_set (i := 2) sc_tallied.nd rfl (Or.inl rfl) (pe_op op_rep (pe_lst (pa_cons pe_int pa_nil)) (pe_op op_add (pv 1) pe_int)))
      (pss_cons (ps_for PassesOwn.never rfl (pi_listK (K := K) rfl (pv 0)) (pg_tupK (K := K) rfl rfl (pgs_cons (pg_name (i := 3) sc_tallied.nd rfl (Or.inl rfl)) (pgs_cons (pg_name (i := 4) sc_tallied.nd rfl (Or.inl rfl)) pgs_nil))) (pss_one (ps_asg (pe_op op_add (pe_ix (ix_listK (K := K) rfl) (pv 2) (pv 4) (fun _ _ => rfl)) pe_int) (pg_sub (pv 2) (pv 4) set_list))))
      (pss_one (ps_ret (pv 2))))), fun G ds vs R kr hGH hds hS hrt => ?_⟩)
  · obtain ⟨rows, b, rfl, _⟩ := h
    rfl
  · obtain ⟨rows, b, rfl, hb, hq, hR⟩ := hS
    have e0 : (List.replicate ((b : Int) + 1).toNat [PyData.int 0]).flatten = (tallyM (rows.take 0) b).map .int := by
      have e1 : ((b : Int) + 1).toNat = b + 1 := by omega
      rw [e1, rep_one]
      unfold tallyM
      rw [List.take_zero, List.map_map]
      apply List.ext_getElem?
      intro m
      rw [List.getElem?_replicate, List.getElem?_map]
      by_cases hm : m < b + 1
      · rw [if_pos hm, List.getElem?_range hm]
        rfl
      · rw [if_neg hm, List.getElem?_eq_none (by rw [List.length_range]; omega)]
        rfl
    refine st_seq (st_newM (EvL.is (ev_opL (d2 := .int ((b : Int) + 1)) (EvL.toD (ev_lst (ea_cons ev_int ea_nil) (by decide))) (ev_op (ev_var rfl) ev_int rv_II) (rv_repL (ds := [.int 0]) (by omega) (by simp; omega) (by omega))) e0) fun p => ?_)
    refine st_seq (st_for (fun i => [.d (.list (rows.map encP)), .d (.int (b : Nat)), .r p, .no, .no]) (fun i => [(p, (tallyM (rows.take i) b).map .int)]) (ei_list (ev_var rfl)) (by repeat' (first | exact True.intro | exact Or.inr rfl | exact Or.inl rfl | refine And.intro ?_ ?_)) rfl (fun A i d hd N hN => ?_) ?_)
    · obtain ⟨q, hqi, rfl⟩ := map_getA hd
      obtain ⟨q0, q1⟩ := hq q (List.mem_of_getElem? hqi)
      obtain ⟨l, hl⟩ : ∃ l : Nat, q.2 = (l : Int) := ⟨q.2.toNat, by omega⟩
      have hlb : l ≤ b := by omega
      have hg : ((tallyM (rows.take i) b).map PyData.int)[l]? = some (.int (((rows.take i).countP fun q => decide (q.2 = (l : Int)) : Nat) : Int)) := by
        rw [List.getElem?_map, tally_get hlb]
        rfl
      have hx : ixN ((tallyM (rows.take i) b).map PyData.int).length (l : Int) = some l := ixN_nat (by rw [List.length_map, tally_len]; omega)
      refine ⟨_, _, tg_tup (tgs_cons tg_name (tgs_cons tg_name tgs_nil)) rfl, ?_⟩
      refine st_setI (i := 2) (k := (l : Int)) rfl (ev_op (ev_ixM rfl List.mem_cons_self (k := (l : Int)) (EvD.is (ev_var rfl) (congrArg PyData.int hl)) (atI_nat hg)) ev_int rv_II) (EvD.is (ev_var rfl) (congrArg PyData.int hl)) hx ?_
      have e3 : ((tallyM (rows.take i) b).map PyData.int).set l (.int ((((rows.take i).countP fun q => decide (q.2 = (l : Int)) : Nat) : Int) + 1)) = (tallyM (rows.take (i + 1)) b).map .int := by
        rw [← tally_set hqi hl hlb, List.map_set]
      rw [e3]
      exact hN.wkn (by repeat' (first | exact True.intro | exact Or.inr rfl | exact Or.inl rfl | refine And.intro ?_ ?_))
    · rw [List.length_map, List.take_length]
      exact Nx.frz 2 rfl (st_ret (ev_var rfl) hrt hR)
theorem ev_tallied {rows : List (List Int × Int)} {b : Nat} (h : EvA K tA ρ M [.list (rows.map encP), .int (b : Nat)]) (hb : b ≤ 1000) (hq : ∀ q ∈ rows, 0 ≤ q.2 ∧ q.2 ≤ (b : Int)) : EvD K (tCall (spF K S_tallied) [] E0 tA) ρ M (.list ((tallyM rows b).map .int)) := ev_call h fun R r => ⟨rows, b, rfl, hb, hq, r⟩
def S_counts_to (ds : List PD) (R : PD → Prop) : Prop := ∃ (n : Nat) (F : List (List Int)) (b : Nat), ds = [fm F, .int (b : Nat)] ∧ PBok n F b ∧ R (.list ((tallyM (pbM n F b) b).map .int))
abbrev N_counts_to : List Str := ["form", "bound"]
theorem sc_counts_to : FnScope N_counts_to ["form", "bound"] (defScope s_counts_to) := ⟨rfl, rfl, rfl, by decide +kernel, rfl, by decide +kernel, by decide +kernel⟩
theorem ok_counts_to (T : Tx K mg) : C8.Cal P w K mg base 8 "counts_to" (spF K S_counts_to) [] := by
  have c_check_both := ok_check_both (P := P) (w := w) (base := base) T
  have c_points_by := ok_points_by (P := P) (w := w) (base := base) T
  have c_tallied := ok_tallied (P := P) (w := w) (base := base) T
  refine cal_of T.f_counts_to (fun _ _ _ _ _ _ us hl => match us, hl with | [_, _], _ => rfl) sc_counts_to (fun ds R h => ?_) (fun cdv A outer s H E hr => ⟨_, (pss_cons (ps_expr (C8.pe_c c_check_both hr (by first | decide | omega) (by rfl) (pa_cons (pv 0) (pa_cons (pv 1) pa_nil))))
      (pss_one (ps_ret (C8.pe_c c_tallied hr (by first | decide | omega) (by rfl) (pa_cons (C8.pe_c c_points_by hr (by first | decide | omega) (by rfl) (pa_cons (pv 0) (pa_cons (pv 1) pa_nil))) (pa_cons (pv 1) pa_nil)))))), fun G ds vs R kr hGH hds hS hrt => ?_⟩)
  · obtain ⟨n, F, b, rfl, _⟩ := h
    rfl
  · obtain ⟨n, F, b, rfl, hp, hR⟩ := hS
    refine st_seq (st_drop (ev_check_both (ea_cons (ev_var rfl) (ea_cons (ev_var rfl) ea_nil)) hp.fo) ?_)
    exact st_ret (ev_tallied (ea_cons (ev_points_by (ea_cons (ev_var rfl) (ea_cons (ev_var rfl) ea_nil)) hp) (ea_cons (ev_var rfl) ea_nil)) hp.b6 fun q hq => (hp.mem hq).2) hrt hR
theorem ev_counts_to {n b : Nat} {F : List (List Int)} (h : EvA K tA ρ M [fm F, .int (b : Nat)]) (hp : PBok n F b) : EvD K (tCall (spF K S_counts_to) [] E0 tA) ρ M (.list ((tallyM (pbM n F b) b).map .int)) := ev_call h fun R r => ⟨n, F, b, rfl, hp, r⟩
def S_is_bare (ds : List PD) (R : PD → Prop) : Prop := ∃ p : List Int, ds = [pt p] ∧ R (.bool (bare p))
abbrev N_is_bare : List Str := ["point", "found", "one"]
theorem sc_is_bare : FnScope N_is_bare ["point"] (defScope s_is_bare) := ⟨rfl, rfl, rfl, by decide +kernel, rfl, by decide +kernel, by decide +kernel⟩
theorem gcdL_take {p : List Int} {i : Nat} {x : Int} (h : p[i]? = some x) : gcdL (p.take (i + 1)) = ((Int.gcd (gcdL (p.take i)) x : Nat) : Int) := by
  unfold gcdL
  rw [List.take_add_one, h, List.foldl_append]
  rfl
theorem ok_is_bare (T : Tx K mg) : C8.Cal P w K mg base 2 "is_bare" (spF K S_is_bare) [] := by
  have c_common_part := ok_common_part (P := P) (w := w) (base := base) T
  refine cal_of T.f_is_bare (fun _ _ _ _ _ _ us hl => match us, hl with | [_], _ => rfl) sc_is_bare (fun ds R h => ?_) (fun cdv A outer s H E hr => ⟨_, (pss_cons (ps_set (i := 1) sc_is_bare.nd rfl (Or.inl rfl) pe_int)
      (pss_cons (ps_for PassesOwn.never rfl (pi_tupK (K := K) rfl (pv 0)) (pg_name (i := 2) sc_is_bare.nd rfl (Or.inl rfl)) (pss_one (ps_set (i := 1) sc_is_bare.nd rfl (Or.inl rfl) (C8.pe_c c_common_part hr (by first | decide | omega) (by rfl) (pa_cons (pv 1) (pa_cons (pv 2) pa_nil))))))
      (pss_one (ps_ret (pe_cmpR op_eq (pv 1) pe_int (nomark _)))))), fun G ds vs R kr hGH hds hS hrt => ?_⟩)
  · obtain ⟨p, rfl, _⟩ := h
    rfl
  · obtain ⟨p, rfl, hR⟩ := hS
    refine st_seq (st_set ev_int (st_seq (st_for (fun i => [.d (pt p), .d (.int (gcdL (p.take i))), .no]) (fun _ => []) (ei_tup (ev_var rfl)) (by repeat' (first | exact True.intro | exact Or.inr rfl | exact Or.inl rfl | refine And.intro ?_ ?_)) rfl (fun A i d hd N hN => ?_) ?_)))
    · obtain ⟨x, hx, rfl⟩ := map_getA hd
      rw [gcdL_take hx] at hN
      exact ⟨_, _, tg_name, st_set (ev_common_part (ea_cons (ev_var rfl) (ea_cons (ev_var rfl) ea_nil))) (hN.wkn (by repeat' (first | exact True.intro | exact Or.inr rfl | exact Or.inl rfl | refine And.intro ?_ ?_)))⟩
    · rw [List.length_map, List.take_length]
      exact st_ret (ev_op (ev_var rfl) ev_int rv_eq) hrt hR
theorem ev_is_bare {p : List Int} (h : EvA K tA ρ M [pt p]) : EvD K (tCall (spF K S_is_bare) [] E0 tA) ρ M (.bool (bare p)) := ev_call h fun R r => ⟨p, rfl, r⟩
def S_bare_counts (ds : List PD) (R : PD → Prop) : Prop := ∃ (n : Nat) (F : List (List Int)) (b : Nat), ds = [fm F, .int (b : Nat)] ∧ PBok n F b ∧ R (.list ((tallyM ((pbM n F b).filter fun q => bare q.1) b).map .int))
abbrev N_bare_counts : List Str := ["form", "bound", "row"]
theorem sc_bare_counts : FnScope N_bare_counts ["form", "bound"] (defScope s_bare_counts) := ⟨rfl, rfl, rfl, by decide +kernel, rfl, by decide +kernel, by decide +kernel⟩
theorem ok_bare_counts (T : Tx K mg) : C8.Cal P w K mg base 8 "bare_counts" (spF K S_bare_counts) [] := by
  have c_check_both := ok_check_both (P := P) (w := w) (base := base) T
  have c_points_by := ok_points_by (P := P) (w := w) (base := base) T
  have c_tallied := ok_tallied (P := P) (w := w) (base := base) T
  have c_is_bare := ok_is_bare (P := P) (w := w) (base := base) T
  refine cal_of T.f_bare_counts (fun _ _ _ _ _ _ us hl => match us, hl with | [_, _], _ => rfl) sc_bare_counts (fun ds R h => ?_) (fun cdv A outer s H E hr => ⟨_, (pss_cons (ps_expr (C8.pe_c c_check_both hr (by first | decide | omega) (by rfl) (pa_cons (pv 0) (pa_cons (pv 1) pa_nil))))
      (pss_one (ps_ret (C8.pe_c c_tallied hr (by first | decide | omega) (by rfl) (pa_cons (pe_lc (own := [("row", 2)]) (g := (gName 2)) rfl sc_bare_counts.nd (pi_listK (K := K) rfl (C8.pe_c c_points_by hr (by first | decide | omega) (by rfl) (pa_cons (pv 0) (pa_cons (pv 1) pa_nil)))) (blkOk_by (own := [("row", 2)]) (N := N_bare_counts) (sc := (defScope s_bare_counts)) (by decide +kernel)) (fun _ _ _ _ _ => (pg_name (i := 2) sc_bare_counts.nd rfl (Or.inl rfl))) (fun _ _ _ _ _ => (pts_one (pt_val (C8.pe_c c_is_bare hr (by first | decide | omega) (by rfl) (pa_cons (pe_ix (ix_tupK (K := K) rfl) (pv 2) pe_int (fun _ _ => rfl)) pa_nil))))) (fun _ _ _ _ _ => (pv 2))) (pa_cons (pv 1) pa_nil)))))), fun G ds vs R kr hGH hds hS hrt => ?_⟩)
  · obtain ⟨n, F, b, rfl, _⟩ := h
    rfl
  · obtain ⟨n, F, b, rfl, hp, hR⟩ := hS
    refine st_seq (st_drop (ev_check_both (ea_cons (ev_var rfl) (ea_cons (ev_var rfl) ea_nil)) hp.fo) ?_)
    refine st_ret (ev_tallied (ea_cons (EvL.toD (el_filtA (pbM n F b) encP encP (fun q => bare q.1) (ei_list (ev_points_by (ea_cons (ev_var rfl) (ea_cons (ev_var rfl) ea_nil)) hp)) hp.sz (fun i q hq => ?_))) (ea_cons (ev_var rfl) ea_nil)) hp.b6 fun q hq => (hp.mem (List.mem_filter.mp hq).1).2) hrt hR
    have v : ∀ {ρ : List Sl} {M : Mt}, ρ[2]? = some (.d (encP q)) → EvD K (tVar 2) ρ M (.tuple [pt q.1, .int q.2]) := fun h => ev_var h
    exact ⟨_, _, by simp, tg_name, et_test (ev_is_bare (ea_cons (ev_op (v rfl) ev_int (rv_ixT rfl)) ea_nil)), fun _ => ev_var rfl⟩
theorem ev_bare_counts {n b : Nat} {F : List (List Int)} (h : EvA K tA ρ M [fm F, .int (b : Nat)]) (hp : PBok n F b) : EvD K (tCall (spF K S_bare_counts) [] E0 tA) ρ M (.list ((tallyM ((pbM n F b).filter fun q => bare q.1) b).map .int)) := ev_call h fun R r => ⟨n, F, b, rfl, hp, r⟩
end
end Lc

namespace Lc
open PySem PySem.Spec PyProof.Rows L2 RZ

/-! ### shortest, box_holds, points_hold -/
def diagL (n : Nat) (F : List (List Int)) : List Int := (List.range n).map fun i => ent F i i
structure ShOk (n : Nat) (F : List (List Int)) (s : Nat) (best : Int) : Prop where
  fo : IsF n F
  dm : ∃ m, m ∈ diagL n F ∧ (∀ y ∈ diagL n F, m ≤ y) ∧ (n ≠ 2 → m = (s : Int))
  d2 : n = 2 → ∃ a b c pre a' b' c', F = [[a, b], [b, c]] ∧ GI a b c ∧ (goneM 400 [F] [[1, 0], [0, 1]]).1 = pre ++ [[[a', b'], [b', c']]] ∧ a' = (s : Int)
  pb : PBok n F s
  bm : best ∈ ((pbM n F s).filter fun q => decide (0 < q.2)).map (·.2)
  bl : ∀ y ∈ ((pbM n F s).filter fun q => decide (0 < q.2)).map (·.2), best ≤ y
def shortD (n : Nat) (F : List (List Int)) (s : Nat) (best : Int) : PD := .tuple [.int best, .list ((((pbM n F s).filter fun q => decide (q.2 = best)).map (·.1)).map pt)]
section
variable {P : Program} {w : World} {K : PySem.W.Frag} {mg : Str → Option Value} {base : Heap} {ρ : List Sl} {M : Mt} {tA : TA} {te tb : TE}

def S_shortest (ds : List PD) (R : PD → Prop) : Prop := ∃ (n : Nat) (F : List (List Int)) (s : Nat) (best : Int), ds = [fm F] ∧ ShOk n F s best ∧ R (shortD n F s best)
abbrev N_shortest : List Str := ["form", "bound", "rows", "best", "at", "point", "far"]
theorem sc_shortest : FnScope N_shortest ["form"] (defScope s_shortest) := ⟨rfl, rfl, rfl, by decide +kernel, rfl, by decide +kernel, by decide +kernel⟩
theorem ok_shortest (T : Tx K mg) : C8.Cal P w K mg base 7 "shortest" (spF K S_shortest) [] := by
  have c_check_form := ok_check_form (P := P) (w := w) (base := base) T
  have c_points_by := ok_points_by (P := P) (w := w) (base := base) T
  have c_gone_down := ok_gone_down (P := P) (w := w) (base := base) T
  refine cal_of T.f_shortest (fun _ _ _ _ _ _ us hl => match us, hl with | [_], _ => rfl) sc_shortest (fun ds R h => ?_) (fun cdv A outer s H E hr => ⟨_, (pss_cons (ps_expr (C8.pe_c c_check_form hr (by first | decide | omega) (by rfl) (pa_cons (pv 0) pa_nil)))
      (pss_cons (ps_set (i := 1) sc_shortest.nd rfl (Or.inl rfl) (pe_callB (minK (K := K) rfl rfl) (by rfl) T.b_min (by decide +kernel) (pa_cons (pe_lc (own := [("at", 4)]) (g := (gName 4)) (tt := tYes) rfl sc_shortest.nd (pi_range1 (by rfl) T.b_range (pa_cons (pe_callB (lenK (K := K) rfl) (by rfl) T.b_len (by decide +kernel) (pa_cons (pv 0) pa_nil)) pa_nil)) (blkOk_by (own := [("at", 4)]) (N := N_shortest) (sc := (defScope s_shortest)) (by decide +kernel)) (fun _ _ _ _ _ => (pg_name (i := 4) sc_shortest.nd rfl (Or.inl rfl))) (fun _ _ _ _ _ => pts_nil) (fun _ _ _ _ _ => (pe_ix (ix_tupK (K := K) rfl) (pe_ix (ix_tupK (K := K) rfl) (pv 0) (pv 4) (fun _ _ => rfl)) (pv 4) (fun _ _ => rfl)))) pa_nil)))
      (pss_cons (ps_if (pt_cmpR op_eq (pe_callB (lenK (K := K) rfl) (by rfl) T.b_len (by decide +kernel) (pa_cons (pv 0) pa_nil)) pe_int (nomark _)) (pss_one (ps_set (i := 1) sc_shortest.nd rfl (Or.inl rfl) (pe_ix (ix_tupK (K := K) rfl) (pe_ix (ix_tupK (K := K) rfl) (pe_ix (ix_listK (K := K) rfl) (pe_ix (ix_tupK (K := K) rfl) (C8.pe_c c_gone_down hr (by first | decide | omega) (by rfl) (pa_cons (pv 0) pa_nil)) pe_int (fun _ _ => rfl)) (pe_un un_neg pe_int) (fun _ _ => rfl)) pe_int (fun _ _ => rfl)) pe_int (fun _ _ => rfl)))) pss_nil)
      (pss_cons (ps_set (i := 2) sc_shortest.nd rfl (Or.inl rfl) (C8.pe_c c_points_by hr (by first | decide | omega) (by rfl) (pa_cons (pv 0) (pa_cons (pv 1) pa_nil))))
      (pss_cons (ps_set (i := 3) sc_shortest.nd rfl (Or.inr rfl) (pe_callB (minK (K := K) rfl rfl) (by rfl) T.b_min (by decide +kernel) (pa_cons (pe_lc (own := [("point", 5), ("far", 6)]) (g := (gTup K 2 (gCons (gName 5) (gCons (gName 6) gNil)))) rfl sc_shortest.nd (pi_listK (K := K) rfl (pv 2)) (blkOk_by (own := [("point", 5), ("far", 6)]) (N := N_shortest) (sc := (defScope s_shortest)) (by decide +kernel)) (fun _ _ _ _ _ => (pg_tupK (K := K) rfl rfl (pgs_cons (pg_name (i := 5) sc_shortest.nd rfl (Or.inl rfl)) (pgs_cons (pg_name (i := 6) sc_shortest.nd rfl (Or.inl rfl)) pgs_nil)))) (fun _ _ _ _ _ => (pts_one (pt_cmpR op_gt (pv 6) pe_int (nomark _)))) (fun _ _ _ _ _ => (pv 6))) pa_nil)))
      (pss_one (ps_ret (pe_tup (pa_cons (pv 3) (pa_cons (pe_lc (own := [("point", 5), ("far", 6)]) (g := (gTup K 2 (gCons (gName 5) (gCons (gName 6) gNil)))) rfl sc_shortest.nd (pi_listK (K := K) rfl (pv 2)) (blkOk_by (own := [("point", 5), ("far", 6)]) (N := N_shortest) (sc := (defScope s_shortest)) (by decide +kernel)) (fun _ _ _ _ _ => (pg_tupK (K := K) rfl rfl (pgs_cons (pg_name (i := 5) sc_shortest.nd rfl (Or.inl rfl)) (pgs_cons (pg_name (i := 6) sc_shortest.nd rfl (Or.inl rfl)) pgs_nil)))) (fun _ _ _ _ _ => (pts_one (pt_cmpR op_eq (pv 6) (pv 3) (nomark _)))) (fun _ _ _ _ _ => (pv 5))) pa_nil)))))))))), fun G ds vs R kr hGH hds hS hrt => ?_⟩)
  · obtain ⟨n, F, s, best, rfl, _⟩ := h
    rfl
  · obtain ⟨n, F, sh, best, rfl, ho, hR⟩ := hS
    have hlen : (F.map pt).length = n := by rw [List.length_map, ho.fo.mx.len]
    have h3 := ho.fo.n3
    obtain ⟨m, hm1, hm2, hm3⟩ := ho.dm
    have hrest : ∀ (B : Bs) (kr : VK) (hrt : RtOk K B kr R) (D : Ends) (hD : D.rt = kr), Nx K B (tSeq (tAsg (tCall (spF K S_points_by) [] E0 (tCons (tVar 0) (tCons (tVar 1) tNil))) (gName 2)) (tSeq (tAsg (tCB (rMin K) (tCons (tLc (iList K (tVar 2)) (gTup K 2 (gCons (gName 5) (gCons (gName 6) gNil))) (tTest (tOp (rI0 fun i j => .bl (decide (j < i))) (tVar 6) (tC (.int 0)))) (tVar 6) [5, 6]) tNil)) (gName 3)) (tRet (tTup (tCons (tVar 3) (tCons (tLc (iList K (tVar 2)) (gTup K 2 (gCons (gName 5) (gCons (gName 6) gNil))) (tTest (tOp rEq (tVar 6) (tVar 3))) (tVar 5) [5, 6]) tNil))))) D) [.d (fm F), .d (.int (sh : Nat)), .no, .no, .no, .no, .no] [] := by
      intro B kr hrt D hD
      refine st_seq (st_set (ev_points_by (ea_cons (ev_var rfl) (ea_cons (ev_var rfl) ea_nil)) ho.pb) ?_)
      refine st_seq (st_set (ev_cb (ea_cons (EvL.toD (EvL.is (es := (((pbM n F sh).filter fun q => decide (0 < q.2)).map (·.2)).map .int) (el_filtA (pbM n F sh) encP (fun q => .int q.2) (fun q => decide (0 < q.2)) (ei_list (ev_var rfl)) ho.pb.sz (fun i q hq => ?_)) ?_)) ea_nil) (rc_min ho.bm ho.bl)) ?_)
      · exact ⟨_, _, by simp, tg_tup (tgs_cons tg_name (tgs_cons tg_name tgs_nil)) rfl, et_test (ev_op (ev_var rfl) ev_int rv_IB), fun _ => ev_var rfl⟩
      · rw [List.map_map]
        rfl
      refine st_ret (R := R) (d := shortD n F sh best) (EvD.is (ev_tup (ea_cons (ev_var rfl) (ea_cons (EvL.toD (EvL.is (es := (((pbM n F sh).filter fun q => decide (q.2 = best)).map (·.1)).map pt) (el_filtA (pbM n F sh) encP (fun q => pt q.1) (fun q => decide (q.2 = best)) (ei_list (ev_var rfl)) ho.pb.sz (fun i q hq => ?_)) ?_)) ea_nil)) (by simp)) rfl) (by rw [show ({ D with nx := _ } : Ends).rt = kr from hD]; exact hrt) hR
      · exact ⟨_, _, by simp, tg_tup (tgs_cons tg_name (tgs_cons tg_name tgs_nil)) rfl, et_test (ev_op (ev_var rfl) (ev_var rfl) rv_eq), fun _ => ev_var rfl⟩
      · rw [List.map_map]
        rfl
    refine st_seq (st_drop (ev_check_form (ea_cons (ev_var rfl) ea_nil) ho.fo) ?_)
    refine st_seq (st_set (ev_cb (ea_cons (EvL.toD (EvL.is (es := (diagL n F).map .int) (el_mapA (List.range n) (fun i => .int (i : Nat)) (fun i => .int (ent F i i)) (ei_rng1N (n := n) (ea_cons (EvD.is (ev_cb (ea_cons (ev_var rfl) ea_nil) (rc_lenT (ds := F.map pt))) (congrArg (fun k : Nat => PyData.int (k : Nat)) hlen)) ea_nil) (by omega)) (by rw [List.length_range]; omega) (fun i j hj => ?_)) ?_)) ea_nil) (rc_min hm1 hm2)) ?_)
    · obtain ⟨hj, rfl⟩ := rng_get hj
      exact ⟨_, _, by simp, tg_name, ev_ent ho.fo.mx hj hj (ev_var rfl) (ev_var rfl) (ev_var rfl)⟩
    · unfold diagL
      rw [List.map_map]
      rfl
    refine st_seq (st_if (et_test (ev_op (ev_cb (ea_cons (ev_var rfl) ea_nil) (rc_lenT (ds := F.map pt))) ev_int rv_eq)) (fun e => ?_) (fun e => ?_))
    · have e1 := of_decide_eq_true e
      rw [hlen] at e1
      obtain ⟨a, b, c, pre, a', b', c', rfl, hg, hgo, ha'⟩ := ho.d2 (by omega)
      have hlast : atI (((goneM 400 [[[a, b], [b, c]]] [[1, 0], [0, 1]]).1).map fm) (-1) = some (fm [[a', b'], [b', c']]) := by
        rw [hgo, List.map_append]
        exact atI_last
      refine st_set (EvD.is (ev_op (ev_op (ev_op (ev_op (ev_gone_down (ea_cons (ev_var rfl) ea_nil) hg) ev_int (rv_ixT rfl)) (ev_neg ev_int) (rv_ixL hlast)) ev_int (rv_ixT (ds := [pt [a', b'], pt [b', c']]) rfl)) ev_int (rv_ixT (ds := [.int a', .int b']) rfl)) (congrArg PyData.int ha')) ?_
      exact hrest _ kr hrt _ rfl
    · have e1 := of_decide_eq_false e
      rw [hlen] at e1
      have := hm3 (by omega)
      subst this
      exact st_nil (hrest _ kr hrt _ rfl)
theorem ev_shortest {n s : Nat} {F : List (List Int)} {best : Int} (h : EvA K tA ρ M [fm F]) (ho : ShOk n F s best) : EvD K (tCall (spF K S_shortest) [] E0 tA) ρ M (shortD n F s best) := ev_call h fun R r => ⟨n, F, s, best, rfl, ho, r⟩
def S_box_holds (ds : List PD) (R : PD → Prop) : Prop := ∃ (n : Nat) (F : List (List Int)) (b : Nat), ds = [fm F, .int (b : Nat), pt (reachM n F b)] ∧ IsF n F ∧ b < 2 ^ 40 ∧ R (.bool true)
theorem reach_get {n b k : Nat} {F : List (List Int)} (h : k < n) : (reachM n F b)[k]? = some (rt ((b : Int) * wdet (n - 1) (minQ k F) / wdet n F)) := by
  unfold reachM
  rw [List.getElem?_map, List.getElem?_range h]
  rfl
theorem rt_sz {m : Int} {k : Nat} (h : m.natAbs < 2 ^ k) : (rt m).natAbs < 2 ^ k := by
  have h0 := rt_nonneg m
  rcases Int.lt_or_le m 0 with z | z
  · rw [rt_neg (by omega)]
    exact Nat.two_pow_pos k
  · have h1 := rt_le z
    have h2 : rt m * 1 ≤ rt m * rt m ∨ rt m = 0 := by
      rcases Int.lt_or_le 0 (rt m) with y | y
      · exact .inl (Int.mul_le_mul_of_nonneg_left (by omega) h0)
      · exact .inr (by omega)
    omega
abbrev N_box_holds : List Str := ["form", "bound", "thing", "at", "number", "rest", "row"]
theorem sc_box_holds : FnScope N_box_holds ["form", "bound", "thing"] (defScope s_box_holds) := ⟨rfl, rfl, rfl, by decide +kernel, rfl, by decide +kernel, by decide +kernel⟩
theorem ok_box_holds (T : Tx K mg) : C8.Cal P w K mg base 8 "box_holds" (spF K S_box_holds) [] := by
  have c_check_both := ok_check_both (P := P) (w := w) (base := base) T
  have c_are_wholes := ok_are_wholes (P := P) (w := w) (base := base) T
  have c_worthT := ok_worthT (P := P) (w := w) (base := base) T
  have c_worth := ok_worth (P := P) (w := w) (base := base) T 3 (by omega)
  refine cal_of T.f_box_holds (fun _ _ _ _ _ _ us hl => match us, hl with | [_, _, _], _ => rfl) sc_box_holds (fun ds R h => ?_) (fun cdv A outer s H E hr => ⟨_, (pss_cons (ps_expr (C8.pe_c c_check_both hr (by first | decide | omega) (by rfl) (pa_cons (pv 0) (pa_cons (pv 1) pa_nil))))
      (pss_cons (ps_if (pt_not (pt_val (C8.pe_c c_are_wholes hr (by first | decide | omega) (by rfl) (pa_cons (pv 2) (pa_cons (pe_callB (lenK (K := K) rfl) (by rfl) T.b_len (by decide +kernel) (pa_cons (pv 0) pa_nil)) pa_nil))))) (pss_one (ps_ret pe_bl)) pss_nil)
      (pss_cons (ps_for PassesOwn.never rfl (pi_enumTK (K := K) rfl (by rfl) T.b_enumerate (pa_cons (pv 2) pa_nil)) (pg_tupK (K := K) rfl rfl (pgs_cons (pg_name (i := 3) sc_box_holds.nd rfl (Or.inr rfl)) (pgs_cons (pg_name (i := 4) sc_box_holds.nd rfl (Or.inl rfl)) pgs_nil))) (pss_cons (ps_setLc (i := 5) (own := [("row", 6)]) (g := (gName 6)) (tt := tYes) rfl sc_box_holds.nd rfl rfl (sw_true rfl rfl rfl (by decide +kernel)) (pi_tupK (K := K) rfl (pe_op (op_catK (K := K) rfl) (pe_slice (sl_tupK (K := K) rfl) (pv 0) po_none (po_some (pv 3))) (pe_slice (sl_tupK (K := K) rfl) (pv 0) (po_some (pe_op op_add (pv 3) pe_int)) po_none))) (blkOk_by (own := [("row", 6)]) (N := N_box_holds) (sc := (defScope s_box_holds)) (by decide +kernel)) (fun _ _ _ _ _ => (pg_name (i := 6) sc_box_holds.nd rfl (Or.inl rfl))) (fun _ _ _ _ _ => pts_nil) (fun _ _ _ _ _ => (pe_op (op_catK (K := K) rfl) (pe_slice (sl_tupK (K := K) rfl) (pv 6) po_none (po_some (pv 3))) (pe_slice (sl_tupK (K := K) rfl) (pv 6) (po_some (pe_op op_add (pv 3) pe_int)) po_none))))
        (pss_one (ps_if (PW.pt (pw_or (pt_cmpR op_lt (pv 4) pe_int (nomark _)) (pw_or1 (pt_cmpR op_le (pe_op op_mulW (pe_op op_mulW (pe_op op_add (pv 4) pe_int) (pe_op op_add (pv 4) pe_int)) (C8.pe_c c_worthT hr (by first | decide | omega) (by rfl) (pa_cons (pv 0) pa_nil))) (pe_op op_mulW (pv 1) (C8.pe_c c_worth hr (by first | decide | omega) (by rfl) (pa_cons (pv 5) pa_nil))) (nomark _))))) (pss_one (ps_ret pe_bl)) pss_nil))))
      (pss_one (ps_ret pe_bl))))), fun G ds vs R kr hGH hds hS hrt => ?_⟩)
  · obtain ⟨n, F, b, rfl, _⟩ := h
    rfl
  · obtain ⟨n, F, b, rfl, hF, hb, hR⟩ := hS
    have h1 := hF.n1
    have h3 := hF.n3
    have hm := hF.mx
    have hlen : (F.map pt).length = n := by rw [List.length_map, hm.len]
    have hrl : (reachM n F b).length = n := by simp [reachM]
    refine st_seq (st_drop (ev_check_both (ea_cons (ev_var rfl) (ea_cons (ev_var rfl) ea_nil)) hF) ?_)
    refine st_seq (st_if (et_not (et_test (ev_are_wholes (ns := reachM n F b) (ea_cons (ev_var rfl) (ea_cons (EvD.is (ev_cb (ea_cons (ev_var rfl) ea_nil) (rc_lenT (ds := F.map pt))) (congrArg (fun k : Nat => PyData.int (k : Nat)) hlen)) ea_nil)) (by omega) (by rw [hrl])))) (fun e => by cases e) (fun e => ?_))
    refine st_nil (st_seq (st_for (fun i => [.d (fm F), .d (.int (b : Nat)), .d (pt (reachM n F b)), .no, .no, .no, .no]) (fun _ => []) (ei_enumT (ea_cons (ev_var rfl) ea_nil)) (by repeat' (first | exact True.intro | exact Or.inr rfl | exact Or.inl rfl | refine And.intro ?_ ?_)) rfl (fun A k d hd N hN => ?_) ?_))
    · obtain ⟨d', hd', rfl⟩ := enD_get hd
      obtain ⟨x, hx, rfl⟩ := map_getA hd'
      have hk : k < n := by have := (List.getElem?_eq_some_iff.mp hx).1; omega
      rw [reach_get hk] at hx
      obtain ⟨m, rfl⟩ : ∃ m, n = m + 1 := ⟨n - 1, by omega⟩
      have hmin := hm.minQ hk
      have hws := wdet_sz m (by omega) hmin
      have hwn := wdet_sz (m + 1) (by omega) hm
      have hlF := hm.len
      have hbw := pow_mul_lt (n := 40) (a := (b : Int).natAbs) (by simpa using hb) hws
      have e0 : m * 502 + 1 ≤ 1600 := by omega
      have e1 : (m + 1) * 502 + 1 ≤ 1600 := by omega
      have hdet := hF.det
      generalize hmw : wdet (m + 1 - 1) (minQ k F) = mw at *
      have hmw' : wdet m (minQ k F) = mw := hmw
      rw [hmw'] at hws hbw
      generalize hdw : wdet (m + 1) F = dw at *
      have ex : rt ((b : Int) * mw / dw) = x := Option.some.inj hx
      have hqs : ((b : Int) * mw / dw).natAbs < 2 ^ (40 + (m * 502 + 1)) := Nat.lt_of_le_of_lt (ediv_abs hdet) (by rw [Int.natAbs_mul]; exact hbw)
      have hxs : x.natAbs < 2 ^ 1640 := by rw [← ex]; exact pw_le (rt_sz hqs) (by omega)
      have hx0 : 0 ≤ x := by rw [← ex]; exact rt_nonneg _
      have hxs1 : (x + 1).natAbs < 2 ^ 1641 := by
        have e : (2 : Nat) ^ 1641 = 2 ^ 1640 * 2 := Nat.pow_succ 2 1640
        have := Nat.two_pow_pos 1640
        omega
      have hkey : ¬ (x + 1) * (x + 1) * dw ≤ (b : Int) * mw := by
        have k1 := rt_lt ((b : Int) * mw / dw)
        rw [ex] at k1
        have k2 : (b : Int) * mw < ((b : Int) * mw / dw + 1) * dw := by
          have := Int.lt_mul_ediv_self_add (x := (b : Int) * mw) (k := dw) hdet
          rw [Int.add_mul, Int.mul_comm _ dw]
          omega
        have k3 : ((b : Int) * mw / dw + 1) * dw ≤ (x + 1) * (x + 1) * dw := Int.mul_le_mul_of_nonneg_right (by omega) (by omega)
        omega
      refine ⟨_, _, tg_tup (tgs_cons tg_name (tgs_cons tg_name tgs_nil)) rfl, st_seq (st_set (EvL.toD (EvL.is (es := (minQ k F).map pt) (el_mapA (cutAt k F) pt (fun r => pt (cutAt k r)) (ei_tup (EvD.is (ev_cutAt (ds := F.map pt) (k := k) (ev_var rfl) (ev_var rfl) (EvD.is (ev_op (ev_var rfl) ev_int rv_II) rfl) (by omega)) (by rw [← map_cutAt]))) ?_ (fun j q hq => ?_)) ?_)) ?_)⟩
      · have := cutAt_len k F (by omega)
        omega
      · have hql : q.length = m + 1 := hm.row q (mem_cutAt (List.mem_of_getElem? hq))
        refine ⟨_, _, by simp, tg_name, EvD.is (ev_cutAt (ds := q.map .int) (k := k) (ev_var rfl) (ev_var rfl) (EvD.is (ev_op (ev_var rfl) ev_int rv_II) rfl) (by rw [List.length_map]; omega)) ?_⟩
        rw [← map_cutAt]
        rfl
      · exact (List.map_map (g := pt) (f := cutAt k) (l := cutAt k F)).symm
      refine st_if (et_or (et_test (ev_op (ev_var rfl) ev_int rv_IB)) fun _ => et_test (ev_op (ev_op (ev_op (ev_op (ev_var rfl) ev_int rv_II) (ev_op (ev_var rfl) ev_int rv_II) (rv_IC (cmul hxs1 hxs1 (by decide)))) (EvD.is (ev_worthT (n := m + 1) (F := F) (ea_cons (ev_var rfl) ea_nil) h1 h3 hm) (congrArg PyData.int hdw)) (rv_IC (cmul (a := 3282) (b := 1600) ?_ (pw_le hwn e1) (by decide)))) (ev_op (ev_var rfl) (EvD.is (ev_worth (m := m) (F := minQ k F) (ea_cons (ev_var rfl) ea_nil) hmin (by omega)) (congrArg PyData.int hmw')) (rv_IC (cmul (a := 40) (b := 1600) (by simpa using hb) (pw_le hws e0) (by decide)))) rv_IB)) (fun e => ?_) (fun e => ?_)
      · rw [Int.natAbs_mul]
        exact pow_mul_lt hxs1 hxs1
      · exfalso
        rw [Bool.or_eq_true, decide_eq_true_eq, decide_eq_true_eq] at e
        rcases e with e | e
        · omega
        · exact hkey e
      · exact st_nil (hN.wkn (by repeat' (first | exact True.intro | exact Or.inr rfl | exact Or.inl rfl | refine And.intro ?_ ?_)))
    · show Nx K _ (tRet (tC (.bl true)) { nx := fun x H' => kr V.non H', rt := kr }) _ _
      exact st_ret (R := R) (d := .bool true) ev_bl hrt hR
theorem ev_box_holds {n b : Nat} {F : List (List Int)} (h : EvA K tA ρ M [fm F, .int (b : Nat), pt (reachM n F b)]) (hF : IsF n F) (hb : b < 2 ^ 40) : EvD K (tCall (spF K S_box_holds) [] E0 tA) ρ M (.bool true) := ev_call h fun R r => ⟨n, F, b, rfl, hF, hb, r⟩
def S_points_hold (ds : List PD) (R : PD → Prop) : Prop := ∃ (n : Nat) (F : List (List Int)) (b : Nat), ds = [fm F, .int (b : Nat), .list (((pbM n F b).map (·.1)).map pt)] ∧ PBok n F b ∧ ((pbM n F b).map (·.1)).mergeSort (PySem.W.dataLe false pt) = (pbM n F b).map (·.1) ∧ R (.bool true)
theorem dpo_pts (l : List (List Int)) : Dpo (.list (l.map pt)) := dpo_lst fun d hd => by
  obtain ⟨p, _, rfl⟩ := List.mem_map.mp hd
  exact dpo_pt p
abbrev N_points_hold : List Str := ["form", "bound", "thing", "point", "far"]
theorem sc_points_hold : FnScope N_points_hold ["form", "bound", "thing"] (defScope s_points_hold) := ⟨rfl, rfl, rfl, by decide +kernel, rfl, by decide +kernel, by decide +kernel⟩
theorem ok_points_hold (T : Tx K mg) : C8.Cal P w K mg base 8 "points_hold" (spF K S_points_hold) [] := by
  have c_check_both := ok_check_both (P := P) (w := w) (base := base) T
  have c_are_wholes := ok_are_wholes (P := P) (w := w) (base := base) T
  have c_points_by := ok_points_by (P := P) (w := w) (base := base) T
  refine cal_of T.f_points_hold (fun _ _ _ _ _ _ us hl => match us, hl with | [_, _, _], _ => rfl) sc_points_hold (fun ds R h => ?_) (fun cdv A outer s H E hr => ⟨_, (pss_cons (ps_expr (C8.pe_c c_check_both hr (by first | decide | omega) (by rfl) (pa_cons (pv 0) (pa_cons (pv 1) pa_nil))))
      (pss_cons (ps_if (PW.pt (pw_or (pt_not (pt_val (pe_callB (isiK (K := K) rfl) (by rfl) T.b_isinstance (by decide +kernel) (pa_cons (pv 2) (pa_cons (pe_bltn (v := .ty "list") (by rfl) T.b_list (by decide +kernel) rfl) pa_nil))))) (pw_or1 (pt_not (pt_val (pe_callB (allK (K := K) rfl rfl) (by rfl) T.b_all (by decide +kernel) (pa_cons (pe_lc (own := [("point", 3)]) (g := (gName 3)) (tt := tYes) rfl sc_points_hold.nd (pi_listK (K := K) rfl (pv 2)) (blkOk_by (own := [("point", 3)]) (N := N_points_hold) (sc := (defScope s_points_hold)) (by decide +kernel)) (fun _ _ _ _ _ => (pg_name (i := 3) sc_points_hold.nd rfl (Or.inl rfl))) (fun _ _ _ _ _ => pts_nil) (fun _ _ _ _ _ => (C8.pe_c c_are_wholes hr (by first | decide | omega) (by rfl) (pa_cons (pv 3) (pa_cons (pe_callB (lenK (K := K) rfl) (by rfl) T.b_len (by decide +kernel) (pa_cons (pv 0) pa_nil)) pa_nil))))) pa_nil))))))) (pss_one (ps_ret pe_bl)) pss_nil)
      (pss_one (ps_ret (pe_cmpR (op_eqK (K := K) rfl hr.units) (pe_callB (sortK (K := K) rfl hr.units) (by rfl) T.b_sorted (by decide +kernel) (pa_cons (pv 2) pa_nil)) (pe_lc (own := [("point", 3), ("far", 4)]) (g := (gTup K 2 (gCons (gName 3) (gCons (gName 4) gNil)))) (tt := tYes) rfl sc_points_hold.nd (pi_listK (K := K) rfl (C8.pe_c c_points_by hr (by first | decide | omega) (by rfl) (pa_cons (pv 0) (pa_cons (pv 1) pa_nil)))) (blkOk_by (own := [("point", 3), ("far", 4)]) (N := N_points_hold) (sc := (defScope s_points_hold)) (by decide +kernel)) (fun _ _ _ _ _ => (pg_tupK (K := K) rfl rfl (pgs_cons (pg_name (i := 3) sc_points_hold.nd rfl (Or.inl rfl)) (pgs_cons (pg_name (i := 4) sc_points_hold.nd rfl (Or.inl rfl)) pgs_nil)))) (fun _ _ _ _ _ => pts_nil) (fun _ _ _ _ _ => (pv 3))) (nomark _)))))), fun G ds vs R kr hGH hds hS hrt => ?_⟩)
  · obtain ⟨n, F, b, rfl, _⟩ := h
    rfl
  · obtain ⟨n, F, b, rfl, hp, hs, hR⟩ := hS
    have h1 := hp.fo.n1
    have h3 := hp.fo.n3
    have hlen : (F.map pt).length = n := by rw [List.length_map, hp.fo.mx.len]
    have hmem : ∀ p ∈ (pbM n F b).map (·.1), p.length = n := fun p hpp => by
      obtain ⟨q, hq, rfl⟩ := List.mem_map.mp hpp
      exact (hp.mem hq).1
    refine st_seq (st_drop (ev_check_both (ea_cons (ev_var rfl) (ea_cons (ev_var rfl) ea_nil)) hp.fo) ?_)
    refine st_seq (st_if (et_or (et_not (et_test (ev_isi (b := true) (ev_var (d := .list (((pbM n F b).map (·.1)).map pt)) rfl) kit_ll))) fun _ => et_not (et_test (b := true) (EvD.is (ev_cb (ea_cons (EvL.toD (EvL.is (el_mapA ((pbM n F b).map (·.1)) pt (fun _ => .bool true) (ei_list (ev_var rfl)) (by rw [List.length_map]; exact hp.sz) (fun i p hi => ?_)) ?_)) ea_nil) (rc_all (bs := ((pbM n F b).map (·.1)).map fun _ => true))) ?_))) (fun e => by cases e) (fun e => ?_))
    · exact ⟨_, _, by simp, tg_name, ev_are_wholes (ea_cons (ev_var rfl) (ea_cons (EvD.is (ev_cb (ea_cons (ev_var rfl) ea_nil) (rc_lenT (ds := F.map pt))) (congrArg (fun k : Nat => PyData.int (k : Nat)) hlen)) ea_nil)) (by rw [hmem p (List.mem_of_getElem? hi)]; omega) (by rw [hmem p (List.mem_of_getElem? hi)])⟩
    · simp [Function.comp_def]
    · rw [all_true]
    refine st_nil (st_ret (EvD.is (ev_op (EvL.toD (ev_cbL (ea_cons (ev_var rfl) ea_nil) (rc_sorted (enc := pt) (bs := (pbM n F b).map (·.1)) dpo_pt (all_pt _) (srt_pt _ fun p hpp => ?_) fun q _ => depth_pt q))) (EvL.toD (EvL.is (es := ((pbM n F b).map (·.1)).map pt) (el_mapA (pbM n F b) encP (fun q => pt q.1) (ei_list (ev_points_by (ea_cons (ev_var rfl) (ea_cons (ev_var rfl) ea_nil)) hp)) hp.sz (fun i q hq => ?_)) ?_)) (rv_eqD (dpo_pts _) (dpo_pts _) ((lay_pts _).shp (by decide)) ((lay_pts _).shp (by decide)))) ?_) hrt hR)
    · intro e
      have := hmem p hpp
      rw [e] at this
      simp at this
      omega
    · exact ⟨_, _, by simp, tg_tup (tgs_cons tg_name (tgs_cons tg_name tgs_nil)) rfl, ev_var rfl⟩
    · rw [List.map_map]
      rfl
    · rw [eqv_pts, hs, decide_eq_true rfl]
theorem ev_points_hold {n b : Nat} {F : List (List Int)} (h : EvA K tA ρ M [fm F, .int (b : Nat), .list (((pbM n F b).map (·.1)).map pt)]) (hp : PBok n F b) (hs : ((pbM n F b).map (·.1)).mergeSort (PySem.W.dataLe false pt) = (pbM n F b).map (·.1)) :
    EvD K (tCall (spF K S_points_hold) [] E0 tA) ρ M (.bool true) := ev_call h fun R r => ⟨n, F, b, rfl, hp, hs, r⟩
end
end Lc

namespace Lc
open PySem PySem.Spec PyProof.Rows L2 RZ

/-! ### beside, stretched, rests_table, other_form, counts_joined -/
def besideM (F G : List (List Int)) : List (List Int) := F.map (fun r => r ++ List.replicate G.length 0) ++ G.map (fun r => List.replicate F.length 0 ++ r)
def stretchM (F : List (List Int)) (c : Int) : List (List Int) := F.map fun r => r.map fun x => c * x
def minIJ (i j : Nat) (F : List (List Int)) : List (List Int) := (cutAt i F).map (cutAt j)
def adjE (n : Nat) (F : List (List Int)) (i j : Nat) : Int := (1 - 2 * (((i + j) % 2 : Nat) : Int)) * wdet (n - 1) (minIJ i j F)
def adjRow (n : Nat) (F : List (List Int)) (i : Nat) : List Int := (List.range n).map fun j => adjE n F i j
def adjM (n : Nat) (F : List (List Int)) : List (List Int) := (List.range n).map fun i => adjRow n F i
def convE (a b : List Int) (k : Nat) : Int := ((List.range (k + 1)).map fun i => a.getD i 0 * b.getD (k - i) 0).sum
def convM (a b : List Int) : List Int := (List.range (min a.length b.length)).map fun k => convE a b k
theorem Mx.minIJ {n : Nat} {F : List (List Int)} (h : Mx (n + 1) F) {i j : Nat} (hi : i < n + 1) (hj : j < n + 1) : Mx n (minIJ i j F) := by
  have h0 := h.len
  refine ⟨?_, fun q hq => ?_, fun r hr x hx => ?_⟩
  · have := cutAt_len i F (by omega)
    rw [Lc.minIJ, List.length_map]
    omega
  · obtain ⟨q', h1, rfl⟩ := List.mem_map.mp hq
    have h2 := h.row q' (mem_cutAt h1)
    have := cutAt_len j q' (by omega)
    omega
  · obtain ⟨q', h1, rfl⟩ := List.mem_map.mp hr
    exact h.sz q' (mem_cutAt h1) x (mem_cutAt hx)
section
variable {P : Program} {w : World} {K : PySem.W.Frag} {mg : Str → Option Value} {base : Heap} {ρ : List Sl} {M : Mt} {tA : TA} {te tb : TE}

theorem rep_flat (n : Nat) (d : PD) : (List.replicate n [d]).flatten = List.replicate n d := by
  induction n with
  | zero => rfl
  | succ n ih => rw [List.replicate_succ, List.flatten_cons, ih]; rfl
theorem rep_ints (n : Nat) : List.replicate n (PyData.int 0) = (List.replicate n (0 : Int)).map .int := by rw [List.map_replicate]
theorem ev_zeros {n : Nat} {ds : List PD} {tf : TE} (h : EvD K tf ρ M (.tuple ds)) (hn : ds.length = n) (h1 : 1 ≤ n) (h3 : n ≤ 3) : EvD K (tOp (rRepT1 K) (tTup (tCons (tC (.int 0)) tNil)) (tCB (rLenQ K) (tCons tf tNil))) ρ M (pt (List.replicate n 0)) :=
  EvD.is (ev_op (d2 := .int (n : Nat)) (ev_tup (ea_cons ev_int ea_nil) (by decide)) (EvD.is (ev_cb (ea_cons h ea_nil) rc_lenT) (by rw [hn])) (rv_repT (by simp) (by omega) (by omega) (by decide))) (by
    show PyData.tuple (List.replicate n [PyData.int 0]).flatten = _
    rw [rep_flat, rep_ints]
    rfl)
def S_beside (ds : List PD) (R : PD → Prop) : Prop := ∃ (n m : Nat) (F G : List (List Int)), ds = [fm F, fm G] ∧ IsF n F ∧ IsF m G ∧ n + m ≤ 3 ∧ R (fm (besideM F G))
abbrev N_beside : List Str := ["one", "other", "many", "rows", "row"]
theorem sc_beside : FnScope N_beside ["one", "other"] (defScope s_beside) := ⟨rfl, rfl, rfl, by decide +kernel, rfl, by decide +kernel, by decide +kernel⟩
theorem ok_beside (T : Tx K mg) : C8.Cal P w K mg base 7 "beside" (spF K S_beside) [] := by
  have c_check_form := ok_check_form (P := P) (w := w) (base := base) T
  obtain ⟨tm, hmost⟩ := T.most
  refine cal_of T.f_beside (fun _ _ _ _ _ _ us hl => match us, hl with | [_, _], _ => rfl) sc_beside (fun ds R h => ?_) (fun cdv A outer s H E hr => ⟨_, (pss_cons (ps_expr (C8.pe_c c_check_form hr (by first | decide | omega) (by rfl) (pa_cons (pv 0) pa_nil)))
      (pss_cons (ps_expr (C8.pe_c c_check_form hr (by first | decide | omega) (by rfl) (pa_cons (pv 1) pa_nil)))
      (pss_cons (ps_set (i := 2) sc_beside.nd rfl (Or.inl rfl) (pe_op op_add (pe_callB (lenK (K := K) rfl) (by rfl) T.b_len (by decide +kernel) (pa_cons (pv 0) pa_nil)) (pe_callB (lenK (K := K) rfl) (by rfl) T.b_len (by decide +kernel) (pa_cons (pv 1) pa_nil))))
      (pss_cons (ps_if (pt_cmpR op_gt (pv 2) (pe_glob (v := .int 3) (by rfl) hmost ⟨_, rfl⟩) (nomark _)) (pss_one ps_never) pss_nil)
      (pss_cons (ps_setLc (i := 3) (own := [("row", 4)]) (g := (gName 4)) (tt := tYes) rfl sc_beside.nd rfl rfl (sw_true rfl rfl rfl (by decide +kernel)) (pi_tupK (K := K) rfl (pv 0)) (blkOk_by (own := [("row", 4)]) (N := N_beside) (sc := (defScope s_beside)) (by decide +kernel)) (fun _ _ _ _ _ => (pg_name (i := 4) sc_beside.nd rfl (Or.inl rfl))) (fun _ _ _ _ _ => pts_nil) (fun _ _ _ _ _ => (pe_op (op_catK (K := K) rfl) (pv 4) (pe_op (op_repK (K := K) rfl) (pe_tup (pa_cons pe_int pa_nil)) (pe_callB (lenK (K := K) rfl) (by rfl) T.b_len (by decide +kernel) (pa_cons (pv 1) pa_nil))))))
      (pss_one (ps_ret (pe_callTy (tupK (K := K) rfl) (by rfl) T.b_tuple (by decide +kernel) (pa_cons (pe_op op_cat (pv 3) (pe_lc (own := [("row", 4)]) (g := (gName 4)) (tt := tYes) rfl sc_beside.nd (pi_tupK (K := K) rfl (pv 1)) (blkOk_by (own := [("row", 4)]) (N := N_beside) (sc := (defScope s_beside)) (by decide +kernel)) (fun _ _ _ _ _ => (pg_name (i := 4) sc_beside.nd rfl (Or.inl rfl))) (fun _ _ _ _ _ => pts_nil) (fun _ _ _ _ _ => (pe_op (op_catK (K := K) rfl) (pe_op (op_repK (K := K) rfl) (pe_tup (pa_cons pe_int pa_nil)) (pe_callB (lenK (K := K) rfl) (by rfl) T.b_len (by decide +kernel) (pa_cons (pv 0) pa_nil))) (pv 4))))) pa_nil))))))))), fun G ds vs R kr hGH hds hS hrt => ?_⟩)
  · obtain ⟨n, m, F, G, rfl, _⟩ := h
    rfl
  · obtain ⟨n, m, F, G, rfl, hF, hG, hnm, hR⟩ := hS
    have hlF : (F.map pt).length = n := by rw [List.length_map, hF.mx.len]
    have hlG : (G.map pt).length = m := by rw [List.length_map, hG.mx.len]
    have hlF' := hF.mx.len
    have hlG' := hG.mx.len
    refine st_seq (st_drop (ev_check_form (ea_cons (ev_var rfl) ea_nil) hF) (st_seq (st_drop (ev_check_form (ea_cons (ev_var rfl) ea_nil) hG) ?_)))
    refine st_seq (st_set (ev_op (EvD.is (ev_cb (ea_cons (ev_var rfl) ea_nil) (rc_lenT (ds := F.map pt))) (congrArg (fun k : Nat => PyData.int (k : Nat)) hlF)) (EvD.is (ev_cb (ea_cons (ev_var rfl) ea_nil) (rc_lenT (ds := G.map pt))) (congrArg (fun k : Nat => PyData.int (k : Nat)) hlG)) rv_II) ?_)
    refine st_seq (st_if (et_test (ev_op (ev_var rfl) ev_int rv_IB)) (fun e => ?_) (fun e => ?_))
    · simp at e
      omega
    refine st_nil (st_seq (st_set (EvL.toD (EvL.is (es := (F.map (fun r => r ++ List.replicate m 0)).map pt) (el_mapA F pt (fun r => pt (r ++ List.replicate m 0)) (ei_tup (ev_var rfl)) (by omega) (fun j r hr => ?_)) ?_)) ?_))
    · have hrl := hF.mx.row r (List.mem_of_getElem? hr)
      refine ⟨_, _, by simp, tg_name, EvD.is (ev_op (ev_var rfl) (ev_zeros (n := m) (ev_var (d := .tuple (G.map pt)) rfl) hlG hG.n1 hG.n3) (rv_catT (ds := r.map .int) (es := (List.replicate m 0).map .int) (by rw [List.length_map, List.length_map, List.length_replicate]; omega))) ?_⟩
      unfold pt
      rw [List.map_append]
    · rw [List.map_map]
      rfl
    refine st_ret (ev_cb (ea_cons (EvL.toD (EvL.is (es := (besideM F G).map pt) (ev_opL (ev_var rfl) (EvL.toD (EvL.is (es := (G.map (fun r => List.replicate n 0 ++ r)).map pt) (el_mapA G pt (fun r => pt (List.replicate n 0 ++ r)) (ei_tup (ev_var rfl)) (by omega) (fun j r hr => ?_)) ?_)) (rv_catL ?_)) ?_)) ea_nil) rc_tupL) hrt hR
    · have hrl := hG.mx.row r (List.mem_of_getElem? hr)
      refine ⟨_, _, by simp, tg_name, EvD.is (ev_op (ev_zeros (n := n) (ev_var (d := .tuple (F.map pt)) rfl) hlF hF.n1 hF.n3) (ev_var rfl) (rv_catT (es := r.map .int) (ds := (List.replicate n 0).map .int) (by rw [List.length_map, List.length_map, List.length_replicate]; omega))) ?_⟩
      unfold pt
      rw [List.map_append]
    · rw [List.map_map]
      rfl
    · rw [List.length_map, List.length_map, List.length_map, List.length_map]
      omega
    · unfold besideM
      rw [List.map_append, hlF', hlG']
theorem ev_beside {n m : Nat} {F G : List (List Int)} (h : EvA K tA ρ M [fm F, fm G]) (hF : IsF n F) (hG : IsF m G) (hnm : n + m ≤ 3) : EvD K (tCall (spF K S_beside) [] E0 tA) ρ M (fm (besideM F G)) := ev_call h fun R r => ⟨n, m, F, G, rfl, hF, hG, hnm, r⟩
def S_stretched (ds : List PD) (R : PD → Prop) : Prop := ∃ (n : Nat) (F : List (List Int)) (c : Int), ds = [fm F, .int c] ∧ IsF n F ∧ 1 ≤ c ∧ c.natAbs < 2 ^ 2000 ∧ R (fm (stretchM F c))
abbrev N_stretched : List Str := ["form", "number", "row", "one"]
theorem sc_stretched : FnScope N_stretched ["form", "number"] (defScope s_stretched) := ⟨rfl, rfl, rfl, by decide +kernel, rfl, by decide +kernel, by decide +kernel⟩
theorem ok_stretched (T : Tx K mg) : C8.Cal P w K mg base 7 "stretched" (spF K S_stretched) [] := by
  have c_check_form := ok_check_form (P := P) (w := w) (base := base) T
  have c_is_whole := ok_is_whole (P := P) (w := w) (base := base) T
  refine cal_of T.f_stretched (fun _ _ _ _ _ _ us hl => match us, hl with | [_, _], _ => rfl) sc_stretched (fun ds R h => ?_) (fun cdv A outer s H E hr => ⟨_, (pss_cons (ps_expr (C8.pe_c c_check_form hr (by first | decide | omega) (by rfl) (pa_cons (pv 0) pa_nil)))
      (pss_cons (ps_if (PW.pt (pw_or (pt_not (pt_val (C8.pe_c c_is_whole hr (by first | decide | omega) (by rfl) (pa_cons (pv 1) pa_nil)))) (pw_or1 (pt_cmpR op_lt (pv 1) pe_int (nomark _))))) (pss_one ps_never) pss_nil)
      (pss_one (ps_ret (pe_callTy (tupK (K := K) rfl) (by rfl) T.b_tuple (by decide +kernel) (pa_cons (pe_lc (own := [("row", 2)]) (g := (gName 2)) (tt := tYes) rfl sc_stretched.nd (pi_tupK (K := K) rfl (pv 0)) (blkOk_by (own := [("row", 2)]) (N := N_stretched) (sc := (defScope s_stretched)) (by decide +kernel)) (fun _ _ _ _ _ => (pg_name (i := 2) sc_stretched.nd rfl (Or.inl rfl))) (fun _ _ _ _ _ => pts_nil) (fun _ _ _ _ _ => (pe_callTy (tupK (K := K) rfl) (by rfl) T.b_tuple (by decide +kernel) (pa_cons (pe_lc (own := [("one", 3)]) (g := (gName 3)) (tt := tYes) rfl sc_stretched.nd (pi_tupK (K := K) rfl (pv 2)) (blkOk_by (own := [("one", 3)]) (N := N_stretched) (sc := (relS _ (defScope s_stretched))) (by decide +kernel)) (fun _ _ _ _ _ => (pg_name (i := 3) sc_stretched.nd rfl (Or.inl rfl))) (fun _ _ _ _ _ => pts_nil) (fun _ _ _ _ _ => (pe_op op_mulW (pv 1) (pv 3)))) pa_nil)))) pa_nil)))))), fun G ds vs R kr hGH hds hS hrt => ?_⟩)
  · obtain ⟨n, F, c, rfl, _⟩ := h
    rfl
  · obtain ⟨n, F, c, rfl, hF, hc, hcs, hR⟩ := hS
    have hlF := hF.mx.len
    have h3 := hF.n3
    refine st_seq (st_drop (ev_check_form (ea_cons (ev_var rfl) ea_nil) hF) ?_)
    refine st_seq (st_if (et_or (et_not (et_B (ev_is_whole (ea_cons (ev_var rfl) ea_nil)))) fun _ => et_test (ev_op (ev_var rfl) ev_int rv_IB)) (fun e => ?_) (fun e => ?_))
    · simp at e
      omega
    refine st_nil (st_ret (ev_cb (ea_cons (EvL.toD (EvL.is (es := (stretchM F c).map pt) (el_mapA F pt (fun r => pt (r.map fun x => c * x)) (ei_tup (ev_var rfl)) (by omega) (fun j r hr => ?_)) ?_)) ea_nil) rc_tupL) hrt hR)
    · have hrm := List.mem_of_getElem? hr
      have hrl := hF.mx.row r hrm
      refine ⟨_, _, by simp, tg_name, EvD.is (ev_cb (ea_cons (EvL.toD (el_mapA r .int (fun x => .int (c * x)) (ei_tup (ev_var rfl)) (by omega) (fun j x hx => ?_))) ea_nil) rc_tupL) ?_⟩
      · exact ⟨_, _, by simp, tg_name, ev_op (ev_var rfl) (ev_var rfl) (rv_IC (cmul hcs (hF.mx.sz r hrm x (List.mem_of_getElem? hx)) (by decide)))⟩
      · unfold pt
        rw [List.map_map]
        rfl
    · unfold stretchM
      rw [List.map_map]
      rfl
theorem ev_stretched {n : Nat} {F : List (List Int)} {c : Int} (h : EvA K tA ρ M [fm F, .int c]) (hF : IsF n F) (hc : 1 ≤ c) (hcs : c.natAbs < 2 ^ 2000) : EvD K (tCall (spF K S_stretched) [] E0 tA) ρ M (fm (stretchM F c)) := ev_call h fun R r => ⟨n, F, c, rfl, hF, hc, hcs, r⟩
def S_rests_table (ds : List PD) (R : PD → Prop) : Prop := ∃ (n : Nat) (F : List (List Int)), ds = [fm F] ∧ 1 ≤ n ∧ n ≤ 3 ∧ Mx n F ∧ R (fm (adjM n F))
abbrev N_rests_table : List Str := ["table", "size", "found", "i", "row", "j", "rest", "line"]
theorem sc_rests_table : FnScope N_rests_table ["table"] (defScope s_rests_table) := ⟨rfl, rfl, rfl, by decide +kernel, rfl, by decide +kernel, by decide +kernel⟩
theorem ok_rests_table (T : Tx K mg) : C8.Cal P w K mg base 5 "rests_table" (spF K S_rests_table) [] := by
  have c_worth := ok_worth (P := P) (w := w) (base := base) T 3 (by omega)
  refine cal_of T.f_rests_table (fun _ _ _ _ _ _ us hl => match us, hl with | [_], _ => rfl) sc_rests_table (fun ds R h => ?_) (fun cdv A outer s H E hr => ⟨_, (pss_cons (ps_set (i := 1) sc_rests_table.nd rfl (Or.inl rfl) (pe_callB (lenK (K := K) rfl) (by rfl) T.b_len (by decide +kernel) (pa_cons (pv 0) pa_nil)))
      (pss_cons (ps_set (i := 2) sc_rests_table.nd rfl (Or.inl rfl) (pe_lst pa_nil))
      (pss_cons (ps_for PassesOwn.never rfl (pi_range1 (by rfl) T.b_range (pa_cons (pv 1) pa_nil)) (pg_name (i := 3) sc_rests_table.nd rfl (Or.inl rfl)) (pss_cons (ps_set (i := 4) sc_rests_table.nd rfl (Or.inl rfl) (pe_lst pa_nil))
        (pss_cons (ps_for PassesOwn.never rfl (pi_range1 (by rfl) T.b_range (pa_cons (pv 1) pa_nil)) (pg_name (i := 5) sc_rests_table.nd rfl (Or.inr rfl)) (pss_cons (ps_setLc (i := 6) (own := [("line", 7)]) (g := (gName 7)) (tt := tYes) rfl sc_rests_table.nd rfl rfl (sw_true rfl rfl rfl (by decide +kernel)) (pi_tupK (K := K) rfl (pe_op (op_catK (K := K) rfl) (pe_slice (sl_tupK (K := K) rfl) (pv 0) po_none (po_some (pv 3))) (pe_slice (sl_tupK (K := K) rfl) (pv 0) (po_some (pe_op op_add (pv 3) pe_int)) po_none))) (blkOk_by (own := [("line", 7)]) (N := N_rests_table) (sc := (defScope s_rests_table)) (by decide +kernel)) (fun _ _ _ _ _ => (pg_name (i := 7) sc_rests_table.nd rfl (Or.inl rfl))) (fun _ _ _ _ _ => pts_nil) (fun _ _ _ _ _ => (pe_op (op_catK (K := K) rfl) (pe_slice (sl_tupK (K := K) rfl) (pv 7) po_none (po_some (pv 5))) (pe_slice (sl_tupK (K := K) rfl) (pv 7) (po_some (pe_op op_add (pv 5) pe_int)) po_none))))
          (pss_one (ps_expr (pe_bmK (K := K) rfl PySem.F.plainAttrs_list PySem.F.slot_list_append PySem.F.type_list_append mt_append (pv 4) (pa_cons (pe_op op_mulW (pe_op op_sub pe_int (pe_op op_mulW pe_int (pe_op op_mod (pe_op op_add (pv 3) (pv 5)) pe_int))) (C8.pe_c c_worth hr (by first | decide | omega) (by rfl) (pa_cons (pv 6) pa_nil))) pa_nil))))))
        (pss_one (ps_expr (pe_bmK (K := K) rfl PySem.F.plainAttrs_list PySem.F.slot_list_append PySem.F.type_list_append mt_append (pv 2) (pa_cons (pe_callTy (tupK (K := K) rfl) (by rfl) T.b_tuple (by decide +kernel) (pa_cons (pv 4) pa_nil)) pa_nil)))))))
      (pss_one (ps_ret (pe_callTy (tupK (K := K) rfl) (by rfl) T.b_tuple (by decide +kernel) (pa_cons (pv 2) pa_nil))))))), fun G ds vs R kr hGH hds hS hrt => ?_⟩)
  · obtain ⟨n, F, rfl, _⟩ := h
    rfl
  · obtain ⟨n, F, rfl, h1, h3, hm, hR⟩ := hS
    have hlen : (F.map pt).length = n := by rw [List.length_map, hm.len]
    have hlF := hm.len
    refine st_seq (st_set (EvD.is (ev_cb (ea_cons (ev_var rfl) ea_nil) (rc_lenT (ds := F.map pt))) (congrArg (fun k : Nat => PyData.int (k : Nat)) hlen)) ?_)
    refine st_seq (st_newM (ev_lst ea_nil (by decide)) fun p => ?_)
    refine st_seq (st_for (fun i => [.d (fm F), .d (.int (n : Nat)), .r p, .no, .no, .no, .no, .no]) (fun i => [(p, ((List.range i).map fun i => adjRow n F i).map pt)]) (ei_rng1N (n := n) (ea_cons (ev_var rfl) ea_nil) (by omega)) (by repeat' (first | exact True.intro | exact Or.inr rfl | exact Or.inl rfl | refine And.intro ?_ ?_)) rfl (fun A i d hd N hN => ?_) ?_)
    · obtain ⟨i', hi, rfl⟩ := map_getA hd
      obtain ⟨hi, rfl⟩ := rng_get hi
      refine ⟨_, _, tg_name, st_seq (st_newM (ev_lst ea_nil (by decide)) fun p2 => ?_)⟩
      refine st_seq (st_for (fun j => [.d (fm F), .d (.int (n : Nat)), .r p, .d (.int (i' : Nat)), .r p2, .no, .no, .no]) (fun j => [(p2, ((List.range j).map fun j => adjE n F i' j).map .int), (p, ((List.range i').map fun i => adjRow n F i).map pt)]) (ei_rng1N (n := n) (ea_cons (ev_var rfl) ea_nil) (by omega)) (by repeat' (first | exact True.intro | exact Or.inr rfl | exact Or.inl rfl | refine And.intro ?_ ?_)) rfl (fun A2 j d2 hd2 N2 hN2 => ?_) ?_)
      · obtain ⟨j', hj, rfl⟩ := map_getA hd2
        obtain ⟨hj, rfl⟩ := rng_get hj
        obtain ⟨m, rfl⟩ : ∃ m, n = m + 1 := ⟨n - 1, by omega⟩
        have hmin := hm.minIJ hi hj
        have hws := wdet_sz m (by omega) hmin
        have e2 : (((i' : Nat) : Int) + (j' : Nat)) % 2 = (((i' + j') % 2 : Nat) : Int) := by simp
        refine ⟨_, _, tg_name, st_seq (st_set (EvL.toD (EvL.is (es := (minIJ i' j' F).map pt) (el_mapA (cutAt i' F) pt (fun r => pt (cutAt j' r)) (ei_tup (EvD.is (ev_cutAt (ds := F.map pt) (k := i') (ev_var rfl) (ev_var rfl) (EvD.is (ev_op (ev_var rfl) ev_int rv_II) rfl) (by omega)) (by rw [← map_cutAt]))) ?_ (fun k q hq => ?_)) ?_)) ?_)⟩
        · have := cutAt_len i' F (by omega)
          omega
        · have hql : q.length = m + 1 := hm.row q (mem_cutAt (List.mem_of_getElem? hq))
          refine ⟨_, _, by simp, tg_name, EvD.is (ev_cutAt (ds := q.map .int) (k := j') (ev_var rfl) (ev_var rfl) (EvD.is (ev_op (ev_var rfl) ev_int rv_II) rfl) (by rw [List.length_map]; omega)) ?_⟩
          rw [← map_cutAt]
          rfl
        · exact (List.map_map (g := pt) (f := cutAt j') (l := cutAt i' F)).symm
        refine st_append (i := 4) (d := .int (adjE (m + 1) F i' j')) rfl (EvD.is (ev_op (ev_op ev_int (ev_op ev_int (ev_op (ev_op (ev_var rfl) (ev_var rfl) rv_II) ev_int (rv_IC (by decide))) (rv_IC (cmul (a := 2) (b := 64) (by decide) ?_ (by decide)))) rv_II) (ev_worth (m := m) (F := minIJ i' j' F) (ea_cons (ev_var rfl) ea_nil) hmin (by omega)) (rv_IC (cmul (a := 64) ?_ hws (by omega)))) ?_) (by rw [List.length_map, List.length_map, List.length_range]; omega) ?_
        · rw [e2]
          have := Nat.mod_lt (i' + j') (show 0 < 2 by decide)
          show (i' + j') % 2 < 2 ^ 64
          omega
        · rw [e2, sign_abs]
          decide
        · rw [e2]
          rfl
        · rw [List.range_succ, List.map_append, List.map_append] at hN2
          exact hN2.wkn (by repeat' (first | exact True.intro | exact Or.inr rfl | exact Or.inl rfl | refine And.intro ?_ ?_))
      · rw [List.length_map, List.length_range]
        refine Nx.frz 4 rfl (st_append (i := 2) (d := pt (adjRow n F i')) rfl (ev_cb (ea_cons (ev_var rfl) ea_nil) rc_tupL) (by rw [List.length_map, List.length_map, List.length_range]; omega) ?_)
        rw [List.range_succ, List.map_append, List.map_append] at hN
        exact hN.wkn (by repeat' (first | exact True.intro | exact Or.inr rfl | exact Or.inl rfl | refine And.intro ?_ ?_))
    · rw [List.length_map, List.length_range]
      exact Nx.frz 2 rfl (st_ret (ev_cb (ea_cons (ev_var rfl) ea_nil) rc_tupL) hrt hR)
theorem ev_rests_table {n : Nat} {F : List (List Int)} (h : EvA K tA ρ M [fm F]) (h1 : 1 ≤ n) (h3 : n ≤ 3) (hF : Mx n F) : EvD K (tCall (spF K S_rests_table) [] E0 tA) ρ M (fm (adjM n F)) := ev_call h fun R r => ⟨n, F, rfl, h1, h3, hF, r⟩
def S_other_form (ds : List PD) (R : PD → Prop) : Prop := ∃ (n : Nat) (F : List (List Int)), ds = [fm F] ∧ IsF n F ∧ R (fm (adjM n F))
abbrev N_other_form : List Str := ["form"]
theorem sc_other_form : FnScope N_other_form ["form"] (defScope s_other_form) := ⟨rfl, rfl, rfl, by decide +kernel, rfl, by decide +kernel, by decide +kernel⟩
theorem ok_other_form (T : Tx K mg) : C8.Cal P w K mg base 7 "other_form" (spF K S_other_form) [] := by
  have c_check_form := ok_check_form (P := P) (w := w) (base := base) T
  have c_rests_table := ok_rests_table (P := P) (w := w) (base := base) T
  refine cal_of T.f_other_form (fun _ _ _ _ _ _ us hl => match us, hl with | [_], _ => rfl) sc_other_form (fun ds R h => ?_) (fun cdv A outer s H E hr => ⟨_, (pss_cons (ps_expr (C8.pe_c c_check_form hr (by first | decide | omega) (by rfl) (pa_cons (pv 0) pa_nil)))
      (pss_one (ps_ret (C8.pe_c c_rests_table hr (by first | decide | omega) (by rfl) (pa_cons (pv 0) pa_nil))))), fun G ds vs R kr hGH hds hS hrt => ?_⟩)
  · obtain ⟨n, F, rfl, _⟩ := h
    rfl
  · obtain ⟨n, F, rfl, hF, hR⟩ := hS
    exact st_seq (st_drop (ev_check_form (ea_cons (ev_var rfl) ea_nil) hF) (st_ret (ev_rests_table (ea_cons (ev_var rfl) ea_nil) hF.n1 hF.n3 hF.mx) hrt hR))
theorem ev_other_form {n : Nat} {F : List (List Int)} (h : EvA K tA ρ M [fm F]) (hF : IsF n F) : EvD K (tCall (spF K S_other_form) [] E0 tA) ρ M (fm (adjM n F)) := ev_call h fun R r => ⟨n, F, rfl, hF, r⟩
def S_counts_joined (ds : List PD) (R : PD → Prop) : Prop := ∃ a b : List Int, ds = [.list (a.map .int), .list (b.map .int)] ∧ a.length ≤ 2000 ∧ b.length ≤ 2000 ∧ (∀ x ∈ a, x.natAbs < 2 ^ 64) ∧ (∀ x ∈ b, x.natAbs < 2 ^ 64) ∧ R (.list ((convM a b).map .int))
abbrev N_counts_joined : List Str := ["one", "other", "found", "k", "i"]
theorem sc_counts_joined : FnScope N_counts_joined ["one", "other"] (defScope s_counts_joined) := ⟨rfl, rfl, rfl, by decide +kernel, rfl, by decide +kernel, by decide +kernel⟩
theorem ok_counts_joined (T : Tx K mg) : C8.Cal P w K mg base 1 "counts_joined" (spF K S_counts_joined) [] := by
  refine cal_of T.f_counts_joined (fun _ _ _ _ _ _ us hl => match us, hl with | [_, _], _ => rfl) sc_counts_joined (fun ds R h => ?_) (fun cdv A outer s H E hr => ⟨_, (pss_cons (ps_set (i := 2) sc_counts_joined.nd rfl (Or.inl rfl) (pe_lst pa_nil))
      (pss_cons (ps_for PassesOwn.never rfl (pi_range1 (by rfl) T.b_range (pa_cons (pe_callB (call_min2 rfl) (by rfl) T.b_min (by decide +kernel) (pa_cons (pe_callB (lenK (K := K) rfl) (by rfl) T.b_len (by decide +kernel) (pa_cons (pv 0) pa_nil)) (pa_cons (pe_callB (lenK (K := K) rfl) (by rfl) T.b_len (by decide +kernel) (pa_cons (pv 1) pa_nil)) pa_nil))) pa_nil)) (pg_name (i := 3) sc_counts_joined.nd rfl (Or.inr rfl)) (pss_one (ps_expr (pe_bmK (K := K) rfl PySem.F.plainAttrs_list PySem.F.slot_list_append PySem.F.type_list_append mt_append (pv 2) (pa_cons (pe_callB (sumK (K := K) rfl rfl) (by rfl) T.b_sum (by decide +kernel) (pa_cons (pe_lc (own := [("i", 4)]) (g := (gName 4)) (tt := tYes) rfl sc_counts_joined.nd (pi_range1 (by rfl) T.b_range (pa_cons (pe_op op_add (pv 3) pe_int) pa_nil)) (blkOk_by (own := [("i", 4)]) (N := N_counts_joined) (sc := (defScope s_counts_joined)) (by decide +kernel)) (fun _ _ _ _ _ => (pg_name (i := 4) sc_counts_joined.nd rfl (Or.inl rfl))) (fun _ _ _ _ _ => pts_nil) (fun _ _ _ _ _ => (pe_op op_mulW (pe_ix (ix_listK (K := K) rfl) (pv 0) (pv 4) (fun _ _ => rfl)) (pe_ix (ix_listK (K := K) rfl) (pv 1) (pe_op op_sub (pv 3) (pv 4)) (fun _ _ => rfl))))) pa_nil)) pa_nil)))))
      (pss_one (ps_ret (pv 2))))), fun G ds vs R kr hGH hds hS hrt => ?_⟩)
  · obtain ⟨a, b, rfl, _⟩ := h
    rfl
  · obtain ⟨a, b, rfl, hla, hlb, ha, hb, hR⟩ := hS
    refine st_seq (st_newM (ev_lst ea_nil (by decide)) fun p => ?_)
    have emin : (if ((b.length : Nat) : Int) < (a.length : Nat) then ((b.length : Nat) : Int) else (a.length : Nat)) = ((min a.length b.length : Nat) : Int) := by split <;> omega
    have hmin : min a.length b.length ≤ 2000 := by omega
    refine st_seq (st_for (fun i => [.d (.list (a.map .int)), .d (.list (b.map .int)), .r p, .no, .no]) (fun i => [(p, ((List.range i).map fun k => convE a b k).map .int)]) (ei_rng1N (n := min a.length b.length) (ea_cons (EvD.is (ev_cb (ea_cons (EvD.is (ev_cb (ea_cons (ev_var rfl) ea_nil) (rc_lenL (ds := a.map .int))) (congrArg (fun k : Nat => PyData.int (k : Nat)) (List.length_map _))) (ea_cons (EvD.is (ev_cb (ea_cons (ev_var rfl) ea_nil) (rc_lenL (ds := b.map .int))) (congrArg (fun k : Nat => PyData.int (k : Nat)) (List.length_map _))) ea_nil)) rc_min2) (congrArg PyData.int emin)) ea_nil) (by omega)) (by repeat' (first | exact True.intro | exact Or.inr rfl | exact Or.inl rfl | refine And.intro ?_ ?_)) rfl (fun A i d hd N hN => ?_) ?_)
    · obtain ⟨k, hk, rfl⟩ := map_getA hd
      obtain ⟨hk, rfl⟩ := rng_get hk
      refine ⟨_, _, tg_name, st_append (i := 2) (d := .int (convE a b k)) rfl (ev_cb (ea_cons (EvL.toD (EvL.is (es := ((List.range (k + 1)).map fun i => a.getD i 0 * b.getD (k - i) 0).map .int) (el_mapA (List.range (k + 1)) (fun i => .int (i : Nat)) (fun i => .int (a.getD i 0 * b.getD (k - i) 0)) (ei_rng1N (n := k + 1) (ea_cons (EvD.is (ev_op (ev_var rfl) ev_int rv_II) rfl) ea_nil) (by omega)) (by rw [List.length_range]; omega) (fun i j hj => ?_)) ?_)) ea_nil) rc_sum) (by rw [List.length_map, List.length_map, List.length_range]; omega) ?_⟩
      · obtain ⟨hj, rfl⟩ := rng_get hj
        have ea : a[j]? = some (a.getD j 0) := by rw [List.getD_eq_getElem?_getD, List.getElem?_eq_getElem (by omega)]; rfl
        have eb : b[k - j]? = some (b.getD (k - j) 0) := by rw [List.getD_eq_getElem?_getD, List.getElem?_eq_getElem (by omega)]; rfl
        have ek : (((k : Nat) : Int) - (j : Nat)) = ((k - j : Nat) : Int) := by omega
        exact ⟨_, _, by simp, tg_name, ev_op (ev_op (ev_var rfl) (ev_var rfl) (rv_ixLn (pt_get ea))) (ev_op (ev_var rfl) (EvD.is (ev_op (ev_var rfl) (ev_var rfl) rv_II) (congrArg PyData.int ek)) (rv_ixLn (pt_get eb))) (rv_IC (cmul (ha _ (List.mem_of_getElem? ea)) (hb _ (List.mem_of_getElem? eb)) (by decide)))⟩
      · rw [List.map_map]
        rfl
      · rw [List.range_succ, List.map_append, List.map_append] at hN
        exact hN.wkn (by repeat' (first | exact True.intro | exact Or.inr rfl | exact Or.inl rfl | refine And.intro ?_ ?_))
    · rw [List.length_map, List.length_range]
      exact Nx.frz 2 rfl (st_ret (ev_var rfl) hrt hR)
theorem ev_counts_joined {a b : List Int} (h : EvA K tA ρ M [.list (a.map .int), .list (b.map .int)]) (h1 : a.length ≤ 2000) (h2 : b.length ≤ 2000) (h3 : ∀ x ∈ a, x.natAbs < 2 ^ 64) (h4 : ∀ x ∈ b, x.natAbs < 2 ^ 64) : EvD K (tCall (spF K S_counts_joined) [] E0 tA) ρ M (.list ((convM a b).map .int)) := ev_call h fun R r => ⟨a, b, rfl, h1, h2, h3, h4, r⟩
end
end Lc

namespace Lc
open PySem PySem.Spec PyProof.Rows L2 RZ

/-! ### in_order, all_rests, from_spot, by_rests -/
def insAt : List Rat → Rat → Nat
  | [], _ => 0
  | x :: l, q => if x < q then insAt l q + 1 else 0
def insQ (l : List Rat) (q : Rat) : List Rat := if insAt l q = l.length ∨ l.getD (insAt l q) 0 ≠ q then l.take (insAt l q) ++ [q] ++ l.drop (insAt l q) else l
def inOrdM (qs : List Rat) : List Rat := qs.foldl insQ []
theorem insAt_le : ∀ (l : List Rat) (q : Rat), insAt l q ≤ l.length
  | [], _ => Nat.le_refl _
  | x :: l, q => by
    unfold insAt
    split
    · rw [List.length_cons]
      have := insAt_le l q
      omega
    · exact Nat.zero_le _
theorem insAt_lt : ∀ {l : List Rat} {q x : Rat} {j : Nat}, j < insAt l q → l[j]? = some x → x < q
  | [], _, _, _, h, _ => by simp [insAt] at h
  | y :: l, q, x, j, h, e => by
    unfold insAt at h
    split at h
    · rename_i hy
      cases j with
      | zero =>
        have : y = x := by simpa using e
        rw [← this]
        exact hy
      | succ j => exact insAt_lt (l := l) (j := j) (by omega) (by simpa using e)
    · omega
theorem insAt_ge : ∀ {l : List Rat} {q x : Rat}, l[insAt l q]? = some x → ¬ x < q
  | [], _, _, e => by simp at e
  | y :: l, q, x, e => by
    unfold insAt at e
    split at e
    · exact insAt_ge (l := l) (by simpa using e)
    · rename_i hy
      have : y = x := by simpa using e
      rw [← this]
      exact hy
theorem insQ_mem {l : List Rat} {q x : Rat} (h : x ∈ insQ l q) : x = q ∨ x ∈ l := by
  unfold insQ at h
  split at h
  · rcases List.mem_append.mp h with h | h
    · rcases List.mem_append.mp h with h | h
      · exact .inr (List.mem_of_mem_take h)
      · exact .inl (by simpa using h)
    · exact .inr (List.mem_of_mem_drop h)
  · exact .inr h
theorem insQ_len (l : List Rat) (q : Rat) : (insQ l q).length ≤ l.length + 1 := by
  have := insAt_le l q
  unfold insQ
  split
  · rw [List.length_append, List.length_append, List.length_take, List.length_drop]
    simp
    omega
  · omega
theorem inOrdM_take {qs : List Rat} {i : Nat} {q : Rat} (h : qs[i]? = some q) : inOrdM (qs.take (i + 1)) = insQ (inOrdM (qs.take i)) q := by
  unfold inOrdM
  rw [List.take_add_one, h, List.foldl_append]
  rfl
theorem inOrdM_mem : ∀ {n : Nat} {qs : List Rat} {x : Rat}, qs.length = n → x ∈ inOrdM qs → x ∈ qs
  | 0, qs, x, hl, h => by
    obtain rfl := List.eq_nil_of_length_eq_zero hl
    exact h
  | n + 1, qs, x, hl, h => by
    obtain ⟨q, hq⟩ : ∃ q, qs[n]? = some q := ⟨qs[n]'(by omega), List.getElem?_eq_getElem (by omega)⟩
    have e : inOrdM qs = insQ (inOrdM (qs.take n)) q := by
      rw [← inOrdM_take hq, List.take_of_length_le (by omega)]
    rw [e] at h
    rcases insQ_mem h with h | h
    · rw [h]; exact List.mem_of_getElem? hq
    · exact List.mem_of_mem_take (inOrdM_mem (n := n) (by rw [List.length_take, hl]; omega) h)
theorem inOrdM_len : ∀ (n : Nat) (qs : List Rat), qs.length = n → (inOrdM qs).length ≤ n
  | 0, qs, hl => by
    obtain rfl := List.eq_nil_of_length_eq_zero hl
    exact Nat.le_refl _
  | n + 1, qs, hl => by
    obtain ⟨q, hq⟩ : ∃ q, qs[n]? = some q := ⟨qs[n]'(by omega), List.getElem?_eq_getElem (by omega)⟩
    have e : inOrdM qs = insQ (inOrdM (qs.take n)) q := by
      rw [← inOrdM_take hq, List.take_of_length_le (by omega)]
    have h1 := inOrdM_len n (qs.take n) (by rw [List.length_take]; omega)
    have h2 := insQ_len (inOrdM (qs.take n)) q
    rw [e]
    omega
def restsM : Nat → List (List Int)
  | 0 => [[]]
  | n + 1 => (restsM n).flatMap fun k => (List.range 2).map fun (r : Nat) => k ++ [(r : Int)]
theorem restsM_nd : ∀ {n : Nat}, n ≤ 3 → (restsM n).Nodup
  | 0, _ => by decide
  | 1, _ => by decide
  | 2, _ => by decide
  | 3, _ => by decide
theorem restsM_len : ∀ (n : Nat) (k : List Int), k ∈ restsM n → k.length = n
  | 0, k, h => by
    have : k = [] := by simpa [restsM] using h
    rw [this]
    rfl
  | n + 1, k, h => by
    obtain ⟨k', h1, h2⟩ := List.mem_flatMap.mp h
    obtain ⟨r, _, rfl⟩ := List.mem_map.mp h2
    rw [List.length_append, restsM_len n k' h1]
    rfl
def restOf (p : List Int) : List Int := p.map fun x => x % 2
theorem restOf_mem : ∀ {n : Nat} {p : List Int}, n ≤ 3 → p.length = n → restOf p ∈ restsM n
  | 0, [], _, _ => by decide
  | 1, [x], _, _ => by
    rcases Int.emod_two_eq x with h | h <;> simp [restOf, restsM, List.range_succ, h]
  | 2, [x, y], _, _ => by
    rcases Int.emod_two_eq x with h | h <;> rcases Int.emod_two_eq y with h2 | h2 <;> simp [restOf, restsM, List.range_succ, h, h2]
  | 3, [x, y, z], _, _ => by
    rcases Int.emod_two_eq x with h | h <;> rcases Int.emod_two_eq y with h2 | h2 <;> rcases Int.emod_two_eq z with h3 | h3 <;> simp [restOf, restsM, List.range_succ, h, h2, h3]
section
variable {P : Program} {w : World} {K : PySem.W.Frag} {mg : Str → Option Value} {base : Heap} {ρ : List Sl} {M : Mt} {tA : TA} {te tb : TE}

variable {c c' : Nat → List PD} {B : Bs} {Q : L2.St → Hp → Prop} {ps : List Addr}
theorem mrows_congr (h : ∀ i, i < ps.length → c i = c' i) : Mrows ps c = Mrows ps c' := by
  unfold Mrows
  apply List.ext_getElem?
  intro i
  rw [List.getElem?_mapIdx, List.getElem?_mapIdx]
  by_cases hi : i < ps.length
  · rw [h i hi]
  · rw [List.getElem?_eq_none (by omega)]
    rfl
def S_in_order (ds : List PD) (R : PD → Prop) : Prop := ∃ (qs : List Rat) (n : Nat), ds = [.list (qs.map fr)] ∧ (∀ q ∈ qs, Sz n q) ∧ n + n ≤ 8999 ∧ qs.length ≤ 10000000 ∧ R (.list ((inOrdM qs).map fr))
abbrev N_in_order : List Str := ["some", "found", "one", "at"]
theorem sc_in_order : FnScope N_in_order ["some"] (defScope s_in_order) := ⟨rfl, rfl, rfl, by decide +kernel, rfl, by decide +kernel, by decide +kernel⟩
theorem ok_in_order (T : Tx K mg) : C8.Cal P w K mg base 2 "in_order" (spF K S_in_order) [] := by
  have c_is_less := ok_is_less (P := P) (w := w) (base := base) T
  refine cal_of T.f_in_order (fun _ _ _ _ _ _ us hl => match us, hl with | [_], _ => rfl) sc_in_order (fun ds R h => ?_) (fun cdv A outer s H E hr => ⟨_, (pss_cons (ps_set (i := 1) sc_in_order.nd rfl (Or.inl rfl) (pe_lst pa_nil))
      (pss_cons (ps_for PassesOwn.never rfl (pi_listK (K := K) rfl (pv 0)) (pg_name (i := 2) sc_in_order.nd rfl (Or.inl rfl)) (pss_cons (ps_set (i := 3) sc_in_order.nd rfl (Or.inl rfl) pe_int)
        (pss_cons (ps_while PassesOwn.never (PW.pt (pw_and (pt_cmpR op_lt (pv 3) (pe_callB (lenK (K := K) rfl) (by rfl) T.b_len (by decide +kernel) (pa_cons (pv 1) pa_nil)) (nomark _)) (pw_and1 (pt_val (C8.pe_c c_is_less hr (by first | decide | omega) (by rfl) (pa_cons (pe_ix (ix_listK (K := K) rfl) (pv 1) (pv 3) (fun _ _ => rfl)) (pa_cons (pv 2) pa_nil))))))) (pss_one (ps_set (i := 3) sc_in_order.nd rfl (Or.inl rfl) (pe_op op_add (pv 3) pe_int))))
        (pss_one (ps_if (PW.pt (pw_or (pt_cmpR op_eq (pv 3) (pe_callB (lenK (K := K) rfl) (by rfl) T.b_len (by decide +kernel) (pa_cons (pv 1) pa_nil)) (nomark _)) (pw_or1 (pt_cmpR (op_neK (K := K) rfl hr.units) (pe_ix (ix_listK (K := K) rfl) (pv 1) (pv 3) (fun _ _ => rfl)) (pv 2) (nomark _))))) (pss_one (ps_expr (pe_bmK (K := K) rfl PySem.F.plainAttrs_list PySem.F.slot_list_insert PySem.F.type_list_insert mt_ins (pv 1) (pa_cons (pv 3) (pa_cons (pv 2) pa_nil))))) pss_nil)))))
      (pss_one (ps_ret (pv 1))))), fun G ds vs R kr hGH hds hS hrt => ?_⟩)
  · obtain ⟨qs, n, rfl, _⟩ := h
    rfl
  · obtain ⟨qs, n, rfl, h1, h2, h3, hR⟩ := hS
    refine st_seq (st_newM (ev_lst ea_nil (by decide)) fun p => ?_)
    refine st_seq (st_for (fun i => [.d (.list (qs.map fr)), .r p, .no, .no]) (fun i => [(p, (inOrdM (qs.take i)).map fr)]) (ei_list (ev_var rfl)) (by repeat' (first | exact True.intro | exact Or.inr rfl | exact Or.inl rfl | refine And.intro ?_ ?_)) rfl (fun A i d hd N hN => ?_) ?_)
    · obtain ⟨q, hq, rfl⟩ := map_getA hd
      have hi := (List.getElem?_eq_some_iff.mp hq).1
      rw [inOrdM_take hq] at hN
      have hsz : ∀ x ∈ inOrdM (qs.take i), Sz n x := fun x hx => h1 x (List.mem_of_mem_take (inOrdM_mem rfl hx))
      have hln : (inOrdM (qs.take i)).length ≤ 10000000 := Nat.le_trans (inOrdM_len _ _ rfl) (by rw [List.length_take]; omega)
      have hqs := h1 q (List.mem_of_getElem? hq)
      generalize inOrdM (qs.take i) = l at *
      refine ⟨_, _, tg_name, st_seq (st_set ev_int ?_)⟩
      have hlen : (l.map fr).length = l.length := List.length_map _
      have hat : ∀ {j : Nat} {x : Rat}, l[j]? = some x → atI (l.map fr) ((j : Nat) : Int) = some (fr x) := fun h => atI_nat (by rw [List.getElem?_map, h]; rfl)
      have hge : ∀ {j : Nat}, j < l.length → l[j]? = some (l.getD j 0) := fun h => by rw [List.getD_eq_getElem?_getD, List.getElem?_eq_getElem h]; rfl
      refine st_seq (st_while (S := Nat) (fun k => k ≤ insAt l q) (fun k => [.d (.list (qs.map fr)), .r p, .d (fr q), .d (.int (k : Nat))]) (fun _ => [(p, l.map fr)]) (fun k => l.length - k) (fun k => decide (((k : Nat) : Int) < (l.length : Nat)) && decide (l.getD k 0 < q)) 0 (Nat.zero_le _) Wkn.rfl rfl (fun k hk => ?_) (fun k hk e N2 hN2 => ?_) (fun k hk e => ?_))
      · refine et_and (et_test (ev_op (ev_var rfl) (EvD.is (ev_lenM rfl List.mem_cons_self) (congrArg (fun k : Nat => PyData.int (k : Nat)) hlen)) rv_IB)) fun e1 => ?_
        have e2 : k < l.length := by have := of_decide_eq_true e1; omega
        exact et_test (ev_is_less (ea_cons (ev_ixM rfl List.mem_cons_self (ev_var rfl) (hat (hge e2))) (ea_cons (ev_var rfl) ea_nil)) (hsz _ (List.mem_of_getElem? (hge e2))) hqs h2)
      · rw [Bool.and_eq_true, decide_eq_true_eq, decide_eq_true_eq] at e
        obtain ⟨e1, e2⟩ := e
        have hk2 : k < insAt l q := by
          rcases Nat.lt_or_ge k (insAt l q) with z | z
          · exact z
          · have ek : k = insAt l q := Nat.le_antisymm hk z
            exact absurd e2 (insAt_ge (l := l) (q := q) (by rw [← ek]; exact hge (by omega)))
        exact st_set (EvD.is (ev_op (ev_var rfl) ev_int rv_II) rfl) ((hN2 (k + 1) hk2 (by omega)).wkn (by repeat' (first | exact True.intro | exact Or.inr rfl | exact Or.inl rfl | refine And.intro ?_ ?_)))
      · have hk2 : k = insAt l q := by
          rcases Nat.lt_or_ge k (insAt l q) with z | z
          · have hkl : k < l.length := Nat.lt_of_lt_of_le z (insAt_le l q)
            have := insAt_lt z (hge hkl)
            rw [decide_eq_true (by omega), decide_eq_true this] at e
            cases e
          · exact Nat.le_antisymm hk z
        subst hk2
        have hle := insAt_le l q
        refine st_if (b := decide (insAt l q = l.length) || !decide (l.getD (insAt l q) 0 = q)) (et_or (EvT.is (et_test (ev_op (ev_var rfl) (EvD.is (ev_lenM rfl List.mem_cons_self) (congrArg (fun k : Nat => PyData.int (k : Nat)) hlen)) rv_eq)) ?_) fun e1 => ?_) (fun e1 => ?_) (fun e1 => ?_)
        · exact decide_eq_decide.mpr (by omega)
        · have hlt : insAt l q < l.length := by
            have := of_decide_eq_false e1
            omega
          exact et_test (EvD.is (ev_op (ev_ixM rfl List.mem_cons_self (ev_var rfl) (hat (hge hlt))) (ev_var rfl) (rv_neD (dpo_fr _) (dpo_fr _) ((lay_fr _).shp (by decide)) ((lay_fr _).shp (by decide)))) (by rw [eqv_fr]))
        · have hc : insAt l q = l.length ∨ l.getD (insAt l q) 0 ≠ q := by
            rw [Bool.or_eq_true, decide_eq_true_eq] at e1
            rcases e1 with e1 | e1
            · exact .inl e1
            · exact .inr (by simpa using e1)
          have e3 : insQ l q = l.take (insAt l q) ++ [q] ++ l.drop (insAt l q) := by
            unfold insQ
            rw [if_pos hc]
          refine st_insert (i := 1) (k := ((insAt l q : Nat) : Int)) rfl (ev_var rfl) (ev_var rfl) (by rw [hlen]; exact hln) (by omega) (by omega) ?_
          rw [e3, List.map_append, List.map_append, List.map_take, List.map_drop] at hN
          exact hN.wkn (by repeat' (first | exact True.intro | exact Or.inr rfl | exact Or.inl rfl | refine And.intro ?_ ?_))
        · have hc : ¬ (insAt l q = l.length ∨ l.getD (insAt l q) 0 ≠ q) := by
            rw [Bool.or_eq_false_iff, decide_eq_false_iff_not] at e1
            intro h
            rcases h with h | h
            · exact e1.1 h
            · have := e1.2
              rw [decide_eq_false h] at this
              cases this
          have e3 : insQ l q = l := by
            unfold insQ
            rw [if_neg hc]
          rw [e3] at hN
          exact st_nil (hN.wkn (by repeat' (first | exact True.intro | exact Or.inr rfl | exact Or.inl rfl | refine And.intro ?_ ?_)))
    · rw [List.length_map, List.take_length]
      exact Nx.frz 1 rfl (st_ret (ev_var rfl) hrt hR)
theorem ev_in_order {qs : List Rat} {n : Nat} (h : EvA K tA ρ M [.list (qs.map fr)]) (h1 : ∀ q ∈ qs, Sz n q) (h2 : n + n ≤ 8999) (h3 : qs.length ≤ 10000000) : EvD K (tCall (spF K S_in_order) [] E0 tA) ρ M (.list ((inOrdM qs).map fr)) := ev_call h fun R r => ⟨qs, n, rfl, h1, h2, h3, r⟩
def S_all_rests (ds : List PD) (R : PD → Prop) : Prop := ∃ n : Nat, ds = [.int (n : Nat), .int 2] ∧ n ≤ 3 ∧ R (.list ((restsM n).map keyD))
abbrev N_all_rests : List Str := ["size", "m", "found", "turn", "more", "one", "rest"]
theorem sc_all_rests : FnScope N_all_rests ["size", "m"] (defScope s_all_rests) := ⟨rfl, rfl, rfl, by decide +kernel, rfl, by decide +kernel, by decide +kernel⟩
theorem restsM_sz : ∀ {n : Nat}, n ≤ 3 → (restsM n).length ≤ 8
  | 0, _ => by decide
  | 1, _ => by decide
  | 2, _ => by decide
  | 3, _ => by decide
theorem flatMap_take {α β : Type} (l : List α) (f : α → List β) {i : Nat} {x : α} (h : l[i]? = some x) : (l.take (i + 1)).flatMap f = (l.take i).flatMap f ++ f x := by
  rw [List.take_add_one, h, Option.toList_some, List.flatMap_append, List.flatMap_cons, List.flatMap_nil, List.append_nil]
theorem flatMap_len {α β : Type} (l : List α) (f : α → List β) {i : Nat} {x : α} (h : l[i]? = some x) : ((l.take i).flatMap f).length + (f x).length ≤ (l.flatMap f).length := by
  have e : l = l.take (i + 1) ++ l.drop (i + 1) := (List.take_append_drop _ _).symm
  have e2 : l.flatMap f = (l.take (i + 1)).flatMap f ++ (l.drop (i + 1)).flatMap f := by
    conv => lhs; rw [e]
    rw [List.flatMap_append]
  rw [e2, flatMap_take l f h, List.length_append, List.length_append]
  omega
theorem ok_all_rests (T : Tx K mg) : C8.Cal P w K mg base 1 "all_rests" (spF K S_all_rests) [] := by
  refine cal_of T.f_all_rests (fun _ _ _ _ _ _ us hl => match us, hl with | [_, _], _ => rfl) sc_all_rests (fun ds R h => ?_) (fun cdv A outer s H E hr => ⟨_, (pss_cons (ps_set (i := 2) sc_all_rests.nd rfl (Or.inl rfl) (pe_lst (pa_cons (pe_tup pa_nil) pa_nil)))
      (pss_cons (ps_for PassesOwn.never rfl (pi_range1 (by rfl) T.b_range (pa_cons (pv 0) pa_nil)) (pg_name (i := 3) sc_all_rests.nd rfl (Or.inl rfl)) (pss_cons (ps_set (i := 4) sc_all_rests.nd rfl (Or.inl rfl) (pe_lst pa_nil))
        (pss_cons (ps_for PassesOwn.never rfl (pi_listK (K := K) rfl (pv 2)) (pg_name (i := 5) sc_all_rests.nd rfl (Or.inr rfl)) (pss_one (ps_set (i := 4) sc_all_rests.nd rfl (Or.inl rfl) (pe_op op_cat (pv 4) (pe_lc (own := [("rest", 6)]) (g := (gName 6)) (tt := tYes) rfl sc_all_rests.nd (pi_range1 (by rfl) T.b_range (pa_cons (pv 1) pa_nil)) (blkOk_by (own := [("rest", 6)]) (N := N_all_rests) (sc := (defScope s_all_rests)) (by decide +kernel)) (fun _ _ _ _ _ => (pg_name (i := 6) sc_all_rests.nd rfl (Or.inl rfl))) (fun _ _ _ _ _ => pts_nil) (fun _ _ _ _ _ => (pe_op (op_catK (K := K) rfl) (pv 5) (pe_tup (pa_cons (pv 6) pa_nil)))))))))
        (pss_one (ps_set (i := 2) sc_all_rests.nd rfl (Or.inl rfl) (pv 4))))))
      (pss_one (ps_ret (pv 2))))), fun G ds vs R kr hGH hds hS hrt => ?_⟩)
  · obtain ⟨n, rfl, _⟩ := h
    rfl
  · obtain ⟨n, rfl, h3, hR⟩ := hS
    refine st_seq (st_set (d := .list ((restsM 0).map keyD)) (EvL.toD (ev_lst (ea_cons (ev_tupK (k := []) ea_nil (by decide)) ea_nil) (by decide))) ?_)
    refine st_seq (st_for (fun i => [.d (.int (n : Nat)), .d (.int 2), .d (.list ((restsM i).map keyD)), .no, .no, .no, .no]) (fun _ => []) (ei_rng1N (n := n) (ea_cons (ev_var rfl) ea_nil) (by omega)) (by repeat' (first | exact True.intro | exact Or.inr rfl | exact Or.inl rfl | refine And.intro ?_ ?_)) rfl (fun A i d hd N hN => ?_) ?_)
    · obtain ⟨i', hi, rfl⟩ := map_getA hd
      obtain ⟨hi, rfl⟩ := rng_get hi
      have hs := restsM_sz (n := i') (by omega)
      have hs1 := restsM_sz (n := i' + 1) (by omega)
      refine ⟨_, _, tg_name, st_seq (st_set (d := .list ((((restsM i').take 0).flatMap fun k => (List.range 2).map fun (r : Nat) => k ++ [(r : Int)]).map keyD)) (EvL.toD (ev_lst ea_nil (by simp))) ?_)⟩
      refine st_seq (st_for (fun j => [.d (.int (n : Nat)), .d (.int 2), .d (.list ((restsM i').map keyD)), .no, .d (.list ((((restsM i').take j).flatMap fun k => (List.range 2).map fun (r : Nat) => k ++ [(r : Int)]).map keyD)), .no, .no]) (fun _ => []) (ei_list (ev_var rfl)) (by repeat' (first | exact True.intro | exact Or.inr rfl | exact Or.inl rfl | refine And.intro ?_ ?_)) rfl (fun A2 j d2 hd2 N2 hN2 => ?_) ?_)
      · obtain ⟨k, hk, rfl⟩ := map_getA hd2
        have hkl := restsM_len i' k (List.mem_of_getElem? hk)
        have hfl := flatMap_len (restsM i') (fun k => (List.range 2).map fun (r : Nat) => k ++ [(r : Int)]) hk
        have hfl2 : (((restsM i').take j).flatMap fun k => (List.range 2).map fun (r : Nat) => k ++ [(r : Int)]).length + ((List.range 2).map fun (r : Nat) => k ++ [(r : Int)]).length ≤ 8 := Nat.le_trans hfl hs1
        rw [flatMap_take _ _ hk, List.map_append] at hN2
        refine ⟨_, _, tg_name, st_set (EvL.toD (ev_opL (ev_var rfl) (EvL.toD (EvL.is (es := ((List.range 2).map fun (r : Nat) => k ++ [(r : Int)]).map keyD) (el_mapA (List.range 2) (fun i => .int (i : Nat)) (fun r => keyD (k ++ [((r : Nat) : Int)])) (ei_rng1N (n := 2) (ea_cons (ev_var rfl) ea_nil) (by decide)) (by decide) (fun m r hr => ?_)) ?_)) (rv_catL ?_))) (hN2.wkn (by repeat' (first | exact True.intro | exact Or.inr rfl | exact Or.inl rfl | refine And.intro ?_ ?_)))⟩
        · exact ⟨_, _, by simp, tg_name, ev_op (ev_var rfl) (ev_tupK (k := [((r : Nat) : Int)]) (ea_cons (ev_var rfl) ea_nil) (by simp)) (rv_catK (by simp; omega))⟩
        · rw [List.map_map]
          rfl
        · rw [List.length_map, List.length_map]
          omega
      · rw [List.length_map, List.take_length]
        exact st_set (ev_var rfl) (hN.wkn (by repeat' (first | exact True.intro | exact Or.inr rfl | exact Or.inl rfl | refine And.intro ?_ ?_)))
    · rw [List.length_map, List.length_range]
      exact st_ret (ev_var rfl) hrt hR
theorem ev_all_rests {n : Nat} (h : EvA K tA ρ M [.int (n : Nat), .int 2]) (hn : n ≤ 3) : EvD K (tCall (spF K S_all_rests) [] E0 tA) ρ M (.list ((restsM n).map keyD)) := ev_call h fun R r => ⟨n, rfl, hn, r⟩
def farsM (n : Nat) (F : List (List Int)) (b : Nat) : List Rat := (pathsM n F b n).map (·.2)
def spotD (qs : List Rat) : PD := .list ((inOrdM qs).map fun q => .tuple [fr q, .int (qs.countP fun z => decide (z = q) : Nat)])
def S_from_spot (ds : List PD) (R : PD → Prop) : Prop := ∃ (n : Nat) (F : List (List Int)) (b : Nat), ds = [fm F, nspot n, .int (b : Nat)] ∧ PBok n F b ∧ (∀ q ∈ pathsM n F b n, q.2.den = 1) ∧ R (spotD (farsM n F b))
abbrev N_from_spot : List Str := ["form", "spot", "bound", "far", "point", "one"]
theorem sc_from_spot : FnScope N_from_spot ["form", "spot", "bound"] (defScope s_from_spot) := ⟨rfl, rfl, rfl, by decide +kernel, rfl, by decide +kernel, by decide +kernel⟩
theorem ok_from_spot (T : Tx K mg) : C8.Cal P w K mg base 7 "from_spot" (spF K S_from_spot) [] := by
  have c_check_form := ok_check_form (P := P) (w := w) (base := base) T
  have c_check_spot := ok_check_spot (P := P) (w := w) (base := base) T
  have c_check_bound := ok_check_bound (P := P) (w := w) (base := base) T
  have c_points_near := ok_points_near (P := P) (w := w) (base := base) T
  have c_in_order := ok_in_order (P := P) (w := w) (base := base) T
  refine cal_of T.f_from_spot (fun _ _ _ _ _ _ us hl => match us, hl with | [_, _, _], _ => rfl) sc_from_spot (fun ds R h => ?_) (fun cdv A outer s H E hr => ⟨_, (pss_cons (ps_expr (C8.pe_c c_check_form hr (by first | decide | omega) (by rfl) (pa_cons (pv 0) pa_nil)))
      (pss_cons (ps_expr (C8.pe_c c_check_spot hr (by first | decide | omega) (by rfl) (pa_cons (pv 0) (pa_cons (pv 1) pa_nil))))
      (pss_cons (ps_expr (C8.pe_c c_check_bound hr (by first | decide | omega) (by rfl) (pa_cons (pv 2) pa_nil)))
      (pss_cons (ps_set (i := 3) sc_from_spot.nd rfl (Or.inr rfl) (pe_lc (own := [("point", 4), ("one", 5)]) (g := (gTup K 2 (gCons (gName 4) (gCons (gName 5) gNil)))) (tt := tYes) rfl sc_from_spot.nd (pi_listK (K := K) rfl (C8.pe_c c_points_near hr (by first | decide | omega) (by rfl) (pa_cons (pv 0) (pa_cons (pv 1) (pa_cons (pe_tup (pa_cons (pv 2) (pa_cons pe_int pa_nil))) pa_nil))))) (blkOk_by (own := [("point", 4), ("one", 5)]) (N := N_from_spot) (sc := (defScope s_from_spot)) (by decide +kernel)) (fun _ _ _ _ _ => (pg_tupK (K := K) rfl rfl (pgs_cons (pg_name (i := 4) sc_from_spot.nd rfl (Or.inl rfl)) (pgs_cons (pg_name (i := 5) sc_from_spot.nd rfl (Or.inl rfl)) pgs_nil)))) (fun _ _ _ _ _ => pts_nil) (fun _ _ _ _ _ => (pv 5))))
      (pss_one (ps_ret (pe_lc (own := [("one", 5)]) (g := (gName 5)) (tt := tYes) rfl sc_from_spot.nd (pi_listK (K := K) rfl (C8.pe_c c_in_order hr (by first | decide | omega) (by rfl) (pa_cons (pv 3) pa_nil))) (blkOk_by (own := [("one", 5)]) (N := N_from_spot) (sc := (defScope s_from_spot)) (by decide +kernel)) (fun _ _ _ _ _ => (pg_name (i := 5) sc_from_spot.nd rfl (Or.inl rfl))) (fun _ _ _ _ _ => pts_nil) (fun _ _ _ _ _ => (pe_tup (pa_cons (pv 5) (pa_cons (pe_bmK (K := K) rfl PySem.F.plainAttrs_list PySem.F.slot_list_count PySem.F.type_list_count (cntK (K := K) rfl hr.units) (pv 3) (pa_cons (pv 5) pa_nil)) pa_nil))))))))))), fun G ds vs R kr hGH hds hS hrt => ?_⟩)
  · obtain ⟨n, F, b, rfl, _⟩ := h
    rfl
  · obtain ⟨n, F, b, rfl, hp, hden, hR⟩ := hS
    have hl := hp.pn.len n (Nat.le_refl n)
    have hfl : (farsM n F b).length ≤ 10000000 := by unfold farsM; rw [List.length_map]; exact hl
    have hsz : ∀ q ∈ farsM n F b, Sz 12 q := fun q hq => by
      obtain ⟨q', h1, rfl⟩ := List.mem_map.mp hq
      have h2 := hp.rg q' h1
      have h3 := hp.b6
      exact ⟨by show _ < 4096; omega, by rw [hden q' h1]; decide⟩
    refine st_seq (st_drop (ev_check_form (ea_cons (ev_var rfl) ea_nil) hp.fo) (st_seq (st_drop (ev_check_spot (ea_cons (ev_var rfl) (ea_cons (ev_var rfl) ea_nil)) hp.fo) (st_seq (st_drop (ev_check_bound (ea_cons (ev_var rfl) ea_nil)) ?_)))))
    refine st_seq (st_set (EvL.toD (EvL.is (es := (farsM n F b).map fr) (el_mapA (pathsM n F b n) pathD (fun q => fr q.2) (ei_list (ev_points_near (ea_cons (ev_var rfl) (ea_cons (ev_var rfl) (ea_cons (EvD.is (ev_tup (ea_cons (ev_var rfl) (ea_cons ev_int ea_nil)) (by simp)) (frI (b : Int))) ea_nil))) hp.pn)) hl (fun i q hq => ?_)) ?_)) ?_)
    · exact ⟨_, _, by simp, tg_tup (tgs_cons tg_name (tgs_cons tg_name tgs_nil)) rfl, ev_var rfl⟩
    · unfold farsM
      rw [List.map_map]
      rfl
    have hio : (inOrdM (farsM n F b)).length ≤ 10000000 := Nat.le_trans (inOrdM_len _ _ rfl) hfl
    refine st_ret (EvL.toD (el_mapA (inOrdM (farsM n F b)) fr (fun q => .tuple [fr q, .int ((farsM n F b).countP fun z => decide (z = q) : Nat)]) (ei_list (ev_in_order (ea_cons (ev_var rfl) ea_nil) hsz (by decide) hfl)) hio (fun i q hq => ?_))) hrt hR
    have hpl : PyData.plainAll ((farsM n F b).map fr) = true := PyData.plainAll_of_canLay0 _ (layAll (k := 1) fun d hd => by
      obtain ⟨q, _, rfl⟩ := List.mem_map.mp hd
      exact lay_fr q).1
    refine ⟨_, _, by simp, tg_name, ev_tup (ea_cons (ev_var rfl) (ea_cons (EvD.is (ev_count (dpo_lst fun d hd => ?_) (dpo_fr q) (ev_var (d := .list ((farsM n F b).map fr)) rfl) (ev_var rfl) hpl (PyData.plain_of_canLay0 _ (lay_fr q).lay) (Nat.le_trans (lay_fr q).dep (by decide))) ?_) ea_nil)) (by simp)⟩
    · obtain ⟨q, _, rfl⟩ := List.mem_map.mp hd
      exact dpo_fr q
    · rw [List.countP_map]
      congr 3
      funext z
      exact eqv_fr z q
theorem ev_from_spot {n b : Nat} {F : List (List Int)} (h : EvA K tA ρ M [fm F, nspot n, .int (b : Nat)]) (hp : PBok n F b) (hd : ∀ q ∈ pathsM n F b n, q.2.den = 1) : EvD K (tCall (spF K S_from_spot) [] E0 tA) ρ M (spotD (farsM n F b)) := ev_call h fun R r => ⟨n, F, b, rfl, hp, hd, r⟩
def crow (rows : List (List Int × Int)) (k : List Int) (b : Nat) : List Int := tallyM (rows.filter fun q => decide (restOf q.1 = k)) b
theorem filter_take {α : Type} (l : List α) (f : α → Bool) {i : Nat} {x : α} (h : l[i]? = some x) : (l.take (i + 1)).filter f = (l.take i).filter f ++ if f x then [x] else [] := by
  rw [List.take_add_one, h, Option.toList_some, List.filter_append]
  congr 1
  by_cases z : f x = true
  · rw [if_pos z, List.filter_cons_of_pos z, List.filter_nil]
  · rw [if_neg z, List.filter_cons_of_neg z, List.filter_nil]
theorem crow_other {rows : List (List Int × Int)} {b i : Nat} {q : List Int × Int} {k : List Int} (h : rows[i]? = some q) (hk : restOf q.1 ≠ k) : crow (rows.take (i + 1)) k b = crow (rows.take i) k b := by
  unfold crow
  rw [filter_take rows _ h, if_neg (by rw [decide_eq_true_eq]; exact hk), List.append_nil]
theorem crow_get {rows : List (List Int × Int)} {b l : Nat} {k : List Int} (h : l ≤ b) : (crow rows k b)[l]? = some (((rows.filter fun q => decide (restOf q.1 = k)).countP fun q => decide (q.2 = (l : Int)) : Nat) : Int) := tally_get h
theorem crow_set {rows : List (List Int × Int)} {b i l : Nat} {q : List Int × Int} (h : rows[i]? = some q) (e : q.2 = (l : Int)) (hl : l ≤ b) : (crow (rows.take i) (restOf q.1) b).set l ((((rows.take i).filter fun q' => decide (restOf q'.1 = restOf q.1)).countP fun q => decide (q.2 = (l : Int)) : Nat) + 1) = crow (rows.take (i + 1)) (restOf q.1) b := by
  unfold crow
  rw [filter_take rows _ h, if_pos (by simp)]
  generalize (rows.take i).filter (fun q' => decide (restOf q'.1 = restOf q.1)) = L
  have h1 : (L ++ [q])[L.length]? = some q := by simp
  have h2 := tally_set (b := b) h1 e hl
  rw [List.take_left, List.take_of_length_le (by rw [List.length_append]; simp)] at h2
  exact h2
def restsD (n : Nat) (F : List (List Int)) (b : Nat) : PD := .list (((restsM n).mergeSort (PySem.W.dataLe false fun (k : List Int) => PyData.tuple (k.map PyData.int))).map fun k => .tuple [pt k, .list ((crow (rawM n F b) k b).map .int)])
def S_by_rests (ds : List PD) (R : PD → Prop) : Prop := ∃ (n : Nat) (F : List (List Int)) (b : Nat), ds = [fm F, .int 2, .int (b : Nat)] ∧ PBok n F b ∧ R (restsD n F b)
theorem dctK {X : Cx} (hK : X.K = K) (hc : X.calm = true) (hu : X.A.units + 64 < cLine) : CallR X (.type "dict") (rDct K) := hK ▸ call_dictLc hc hu
abbrev N_by_rests : List Str := ["form", "m", "bound", "size", "counts", "point", "far", "row", "rests", "x"]
theorem sc_by_rests : FnScope N_by_rests ["form", "m", "bound"] (defScope s_by_rests) := ⟨rfl, rfl, rfl, by decide +kernel, rfl, by decide +kernel, by decide +kernel⟩
theorem ok_by_rests (T : Tx K mg) : C8.Cal P w K mg base 7 "by_rests" (spF K S_by_rests) [] := by
  have c_check_form := ok_check_form (P := P) (w := w) (base := base) T
  have c_check_part := ok_check_part (P := P) (w := w) (base := base) T
  have c_check_bound := ok_check_bound (P := P) (w := w) (base := base) T
  have c_points_near := ok_points_near (P := P) (w := w) (base := base) T
  have c_all_rests := ok_all_rests (P := P) (w := w) (base := base) T
  refine cal_of T.f_by_rests (fun _ _ _ _ _ _ us hl => match us, hl with | [_, _, _], _ => rfl) sc_by_rests (fun ds R h => ?_) (fun cdv A outer s H E hr => ⟨_, (pss_cons (ps_expr (C8.pe_c c_check_form hr (by first | decide | omega) (by rfl) (pa_cons (pv 0) pa_nil)))
      (pss_cons (ps_expr (C8.pe_c c_check_part hr (by first | decide | omega) (by rfl) (pa_cons (pv 1) pa_nil)))
      (pss_cons (ps_expr (C8.pe_c c_check_bound hr (by first | decide | omega) (by rfl) (pa_cons (pv 2) pa_nil)))
      (pss_cons (ps_set (i := 3) sc_by_rests.nd rfl (Or.inl rfl) (pe_callB (lenK (K := K) rfl) (by rfl) T.b_len (by decide +kernel) (pa_cons (pv 0) pa_nil)))
      (pss_cons (ps_set (i := 4) sc_by_rests.nd rfl (Or.inr rfl) (pe_callTy (dctK (K := K) rfl rfl hr.units) (by rfl) T.b_dict (by decide +kernel) (pa_cons (pe_lc (own := [("rests", 8)]) (g := (gName 8)) (tt := tYes) rfl sc_by_rests.nd (pi_listK (K := K) rfl (C8.pe_c c_all_rests hr (by first | decide | omega) (by rfl) (pa_cons (pv 3) (pa_cons (pv 1) pa_nil)))) (blkOk_by (own := [("rests", 8)]) (N := N_by_rests) (sc := (defScope s_by_rests)) (by decide +kernel)) (fun _ _ _ _ _ => (pg_name (i := 8) sc_by_rests.nd rfl (Or.inl rfl))) (fun _ _ _ _ _ => pts_nil) (fun _ _ _ _ _ => (pe_tup (pa_cons (pv 8) (pa_cons (pe_op op_rep (pe_lst (pa_cons pe_int pa_nil)) (pe_op op_add (pv 2) pe_int)) pa_nil))))) pa_nil)))
      (pss_cons (ps_for PassesOwn.never rfl (pi_listK (K := K) rfl (C8.pe_c c_points_near hr (by first | decide | omega) (by rfl) (pa_cons (pv 0) (pa_cons (pe_op (op_repK (K := K) rfl) (pe_tup (pa_cons (pe_tup (pa_cons pe_int (pa_cons pe_int pa_nil))) pa_nil)) (pv 3)) (pa_cons (pe_tup (pa_cons (pv 2) (pa_cons pe_int pa_nil))) pa_nil))))) (pg_tupK (K := K) rfl rfl (pgs_cons (pg_name (i := 5) sc_by_rests.nd rfl (Or.inl rfl)) (pgs_cons (pg_name (i := 6) sc_by_rests.nd rfl (Or.inl rfl)) pgs_nil))) (pss_cons (ps_set (i := 7) sc_by_rests.nd rfl (Or.inl rfl) (pe_dget (Nat.lt_of_le_of_lt (Nat.add_le_add_left (show 1 ≤ 64 by decide) _) hr.units) (pv 4) (pe_callTy (tupK (K := K) rfl) (by rfl) T.b_tuple (by decide +kernel) (pa_cons (pe_lc (own := [("x", 9)]) (g := (gName 9)) (tt := tYes) rfl sc_by_rests.nd (pi_tupK (K := K) rfl (pv 5)) (blkOk_by (own := [("x", 9)]) (N := N_by_rests) (sc := (defScope s_by_rests)) (by decide +kernel)) (fun _ _ _ _ _ => (pg_name (i := 9) sc_by_rests.nd rfl (Or.inl rfl))) (fun _ _ _ _ _ => pts_nil) (fun _ _ _ _ _ => (pe_op op_mod (pv 9) (pv 1)))) pa_nil)) (fun _ _ => rfl)))
        (pss_one (ps_asg (pe_op op_add (pe_ix (ix_listK (K := K) rfl) (pv 7) (pe_ix (ix_tupK (K := K) rfl) (pv 6) pe_int (fun _ _ => rfl)) (fun _ _ => rfl)) pe_int) (pg_sub (pv 7) (pe_ix (ix_tupK (K := K) rfl) (pv 6) pe_int (fun _ _ => rfl)) set_list)))))
      (pss_one (ps_ret (pe_lc (own := [("rests", 8)]) (g := (gName 8)) (tt := tYes) rfl sc_by_rests.nd (pi_listK (K := K) rfl (pe_callB (cr_sortedDT rfl hr.units) (by rfl) T.b_sorted (by decide +kernel) (pa_cons (pv 4) pa_nil))) (blkOk_by (own := [("rests", 8)]) (N := N_by_rests) (sc := (defScope s_by_rests)) (by decide +kernel)) (fun _ _ _ _ _ => (pg_name (i := 8) sc_by_rests.nd rfl (Or.inl rfl))) (fun _ _ _ _ _ => pts_nil) (fun _ _ _ _ _ => (pe_tup (pa_cons (pv 8) (pa_cons (pe_dget (Nat.lt_of_le_of_lt (Nat.add_le_add_left (show 1 ≤ 64 by decide) _) hr.units) (pv 4) (pv 8) (fun _ _ => rfl)) pa_nil))))))))))))), fun G ds vs R kr hGH hds hS hrt => ?_⟩)
  · obtain ⟨n, F, b, rfl, _⟩ := h
    rfl
  · obtain ⟨n, F, b, rfl, hp, hR⟩ := hS
    have h1 := hp.fo.n1
    have h3 := hp.fo.n3
    have hb6 := hp.b6
    have hl := hp.pn.len n (Nat.le_refl n)
    have hlen : (F.map pt).length = n := by rw [List.length_map, hp.fo.mx.len]
    have hnd := restsM_nd h3
    have hrl := restsM_sz h3
    have hlenp : ∀ q ∈ pathsM n F b n, q.1.length = n := hp.lp
    have hrg := hp.rg
    have hpn := hp.pn
    refine st_seq (st_drop (ev_check_form (ea_cons (ev_var rfl) ea_nil) hp.fo) (st_seq (st_drop (ev_check_part (ea_cons (ev_var rfl) ea_nil)) (st_seq (st_drop (ev_check_bound (ea_cons (ev_var rfl) ea_nil)) ?_)))))
    refine st_seq (st_set (EvD.is (ev_cb (ea_cons (ev_var rfl) ea_nil) (rc_lenT (ds := F.map pt))) (congrArg (fun k : Nat => PyData.int (k : Nat)) hlen)) ?_)
    have e0 : ∀ k, (List.replicate ((b : Int) + 1).toNat [PyData.int 0]).flatten = (crow ((rawM n F b).take 0) k b).map .int := fun k => by
      have e1 : ((b : Int) + 1).toNat = b + 1 := by omega
      rw [e1, rep_one]
      unfold crow tallyM
      rw [List.take_zero, List.filter_nil, List.map_map]
      apply List.ext_getElem?
      intro m
      rw [List.getElem?_replicate, List.getElem?_map]
      by_cases hm : m < b + 1
      · rw [if_pos hm, List.getElem?_range hm]
        rfl
      · rw [if_neg hm, List.getElem?_eq_none (by rw [List.length_range]; omega)]
        rfl
    refine st_seq (st_setDict (l := restsM n) (enc := keyD) id (fun j => (crow ((rawM n F b).take 0) ((restsM n).getD j []) b).map .int) (ei_list (ev_all_rests (ea_cons (ev_var rfl) (ea_cons (ev_var rfl) ea_nil)) h3)) (by omega) (by rw [List.map_id]; exact hnd) (fun j k hk => ?_) fun ps hps => ?_)
    · refine ⟨_, _, by simp, tg_name, em_tup (ev_var rfl) (EvL.is (ev_opL (d2 := .int ((b : Int) + 1)) (EvL.toD (ev_lst (ea_cons ev_int ea_nil) (by decide))) (ev_op (ev_var rfl) ev_int rv_II) (rv_repL (ds := [.int 0]) (by omega) (by simp; omega) (by omega))) (e0 _))⟩
    rw [List.map_id]
    refine st_seq (st_for (fun i => [.d (fm F), .d (.int 2), .d (.int (b : Nat)), .d (.int (n : Nat)), .d (dctD (restsM n) ps), .no, .no, .no, .no, .no]) (fun i => [] ++ Mrows ps (fun j => (crow ((rawM n F b).take i) ((restsM n).getD j []) b).map .int))
      (ei_list (ev_points_near (n := n) (b := b) (F := F) (ea_cons (ev_var rfl) (ea_cons (EvD.is (ev_op (ev_tup (ea_cons (EvD.is (ev_tup (ea_cons ev_int (ea_cons ev_int ea_nil)) (by decide)) fr0) ea_nil) (by decide)) (ev_var rfl) (rv_repT (k := (n : Int)) (by simp) (by omega) (by omega) (by decide))) (by rw [nspot_rep]; rfl)) (ea_cons (EvD.is (ev_tup (ea_cons (ev_var rfl) (ea_cons ev_int ea_nil)) (by simp)) (frI (b : Int))) ea_nil))) hpn))
      (by repeat' (first | exact True.intro | exact Or.inr rfl | exact Or.inl rfl | refine And.intro ?_ ?_)) rfl (fun A t d hd N hN => ?_) ?_)
    · obtain ⟨q, hq, rfl⟩ := map_getA hd
      have hqm := List.mem_of_getElem? hq
      have hql := hlenp q hqm
      have hqr := hrg q hqm
      have hraw : (rawM n F b)[t]? = some (q.1, q.2.num) := by unfold rawM; rw [List.getElem?_map, hq]; rfl
      obtain ⟨l, hl0⟩ : ∃ l : Nat, q.2.num = (l : Int) := ⟨q.2.num.toNat, by omega⟩
      have hlb : l ≤ b := by omega
      obtain ⟨i, hi⟩ := List.mem_iff_getElem?.mp (restOf_mem h3 hql)
      have hil := (List.getElem?_eq_some_iff.mp hi).1
      obtain ⟨p, hpi⟩ : ∃ p, ps[i]? = some p := ⟨ps[i]'(by omega), List.getElem?_eq_getElem (by omega)⟩
      have hgi : (restsM n).getD i [] = restOf q.1 := getD_of hi
      refine ⟨_, _, tg_tup (tgs_cons tg_name (tgs_cons tg_name tgs_nil)) rfl, ?_⟩
      refine st_seq (st_set (ev_dget (ev_var rfl) (ev_cb (ea_cons (EvL.toD (EvL.is (es := (restOf q.1).map .int) (el_mapA q.1 .int (fun x => .int (x % 2)) (ei_tup (ev_var rfl)) (by omega) (fun j x hx => ?_)) ?_)) ea_nil) rc_tupKey) hnd hi hpi) ?_)
      · exact ⟨_, _, by simp, tg_name, ev_op (ev_var rfl) (ev_var rfl) (rv_IC (by decide))⟩
      · unfold restOf
        rw [List.map_map]
        rfl
      have hm : (p, (crow ((rawM n F b).take t) ((restsM n).getD i []) b).map PyData.int) ∈ [] ++ Mrows ps (fun j => (crow ((rawM n F b).take t) ((restsM n).getD j []) b).map .int) := mrows_mem (c := fun j => (crow ((rawM n F b).take t) ((restsM n).getD j []) b).map PyData.int) hpi
      have hgl : ((crow ((rawM n F b).take t) ((restsM n).getD i []) b).map PyData.int)[l]? = some (.int ((((rawM n F b).take t).filter fun q' => decide (restOf q'.1 = restOf q.1)).countP (fun q => decide (q.2 = (l : Int))) : Nat)) := by
        rw [List.getElem?_map, crow_get hlb, hgi]
        rfl
      refine st_setRow (X := []) (c := fun j => (crow ((rawM n F b).take t) ((restsM n).getD j []) b).map .int) (j := l) hpi (ev_op (ev_ixA (ev_var rfl) hm (EvD.is (ev_num (ev_var rfl)) (congrArg PyData.int hl0)) (atI_nat hgl)) ev_int rv_II) (ev_var rfl) (EvD.is (ev_num (ev_var rfl)) (congrArg PyData.int hl0)) ?_ ?_
      · show l < ((crow ((rawM n F b).take t) ((restsM n).getD i []) b).map PyData.int).length
        rw [List.length_map]
        unfold crow
        rw [tally_len]
        omega
      · have e3 : Mrows ps (setc (fun j => (crow ((rawM n F b).take t) ((restsM n).getD j []) b).map .int) i l (.int (((((rawM n F b).take t).filter fun q' => decide (restOf q'.1 = restOf q.1)).countP (fun q => decide (q.2 = (l : Int))) : Nat) + 1))) = Mrows ps (fun j => (crow ((rawM n F b).take (t + 1)) ((restsM n).getD j []) b).map .int) := by
          refine mrows_congr fun j hj => ?_
          unfold setc
          by_cases hji : j = i
          · subst hji
            rw [if_pos rfl]
            dsimp only
            rw [hgi, ← crow_set hraw hl0 hlb, List.map_set]
          · rw [if_neg hji]
            dsimp only
            rw [crow_other hraw]
            intro e
            have hjl : j < (restsM n).length := by omega
            have hj2 : (restsM n)[j]? = some (restOf q.1) := by
              rw [List.getElem?_eq_getElem hjl]
              have : (restsM n).getD j [] = (restsM n)[j] := by rw [List.getD_eq_getElem?_getD, List.getElem?_eq_getElem hjl]; rfl
              rw [← this, ← e]
            exact hji (nd_ix hnd hj2 hi)
        rw [e3]
        exact hN.wkn (by repeat' (first | exact True.intro | exact Or.inr rfl | exact Or.inl rfl | refine And.intro ?_ ?_))
    · rw [List.length_map]
      have et : (rawM n F b).take (pathsM n F b n).length = rawM n F b := by
        have : (rawM n F b).length = (pathsM n F b n).length := by unfold rawM; rw [List.length_map]
        rw [← this, List.take_length]
      rw [et]
      have e4 : Mrows ps (fun j => (crow (rawM n F b) ((restsM n).getD j []) b).map PyData.int) = Mrows ps (fun j => (((restsM n).map fun k => crow (rawM n F b) k b).getD j []).map PyData.int) := by
        refine mrows_congr fun j hj => ?_
        have hjl : j < (restsM n).length := by omega
        congr 1
        rw [List.getD_eq_getElem?_getD, List.getD_eq_getElem?_getD, List.getElem?_map, List.getElem?_eq_getElem hjl]
        rfl
      show Nx K _ _ _ (Mrows ps _)
      rw [e4]
      refine Nx.frzD 4 rfl (by rw [List.length_map]; exact hps) ?_
      refine st_ret (EvL.toD (el_mapA ((restsM n).mergeSort (PySem.W.dataLe false fun (k : List Int) => PyData.tuple (k.map PyData.int))) keyD (fun k => .tuple [pt k, .list ((crow (rawM n F b) k b).map .int)]) (ei_list (EvL.toD (ev_cbL (ea_cons (ev_var rfl) ea_nil) (rc_sortD (by rw [List.length_map]) fun k hk e => ?_)))) (by rw [List.length_mergeSort]; omega) (fun j k hk => ?_))) hrt hR
      · have := restsM_len n k hk
        rw [e] at this
        simp at this
        omega
      · obtain ⟨i, hi⟩ := List.mem_iff_getElem?.mp (List.mem_mergeSort.mp (List.mem_of_getElem? hk))
        exact ⟨_, _, by simp, tg_name, ev_tup (ea_cons (EvD.unkey (ev_var rfl)) (ea_cons (ev_dgetF (ev_var rfl) (ev_var rfl) hnd hi (by rw [List.getElem?_map, hi]; rfl)) ea_nil)) (by simp)⟩
theorem ev_by_rests {n b : Nat} {F : List (List Int)} (h : EvA K tA ρ M [fm F, .int 2, .int (b : Nat)]) (hp : PBok n F b) : EvD K (tCall (spF K S_by_rests) [] E0 tA) ρ M (restsD n F b) := ev_call h fun R r => ⟨n, F, b, rfl, hp, r⟩
end
end Lc

namespace Lc
open PySem PySem.Spec PyProof.Rows L2 RZ

/-! ### the law's own: _law_cell, _law_pen, _law_draw, _law_whole, _law_less, _law_worth, _law_tells -/
def lwpart (f : List (List Int) → Int) (n : Nat) (tl : List (List Int)) (row : List Int) : Nat → Int
  | 0 => 0
  | k + 1 => lwpart f n tl row k + (1 - 2 * (((n + k) % 2 : Nat) : Int)) * row.getD k 0 * f (minorR k tl)
def lwdet : Nat → List (List Int) → Int
  | 0, _ => 1
  | n + 1, F => lwpart (lwdet n) n F.dropLast (F.getLastD []) (F.getLastD []).length
theorem Mx.minorL {n : Nat} {r : List Int} {F : List (List Int)} (h : Mx (n + 1) (F ++ [r])) {k : Nat} (hk : k < n + 1) : Mx n (minorR k F) := by
  refine ⟨?_, fun q hq => ?_, minor_sz fun r' hr' => h.sz r' (List.mem_append_left _ hr')⟩
  · have := h.len
    rw [List.length_append] at this
    rw [minorR, List.length_map]
    simp at this
    omega
  · obtain ⟨q', h1, rfl⟩ := List.mem_map.mp hq
    have h2 := h.row q' (List.mem_append_left _ h1)
    have := cutAt_len k q' (by omega)
    omega
theorem lwpart_sz {f : List (List Int) → Int} {n : Nat} {tl : List (List Int)} {row : List Int} {a b : Nat} (hr : ∀ x ∈ row, x.natAbs < 2 ^ a) (hf : ∀ k, k < row.length → (f (minorR k tl)).natAbs < 2 ^ b) : ∀ k, k ≤ row.length → (lwpart f n tl row k).natAbs ≤ k * 2 ^ (a + b)
  | 0, _ => by simp [lwpart]
  | k + 1, hk => by
    have ih := lwpart_sz (n := n) hr hf k (by omega)
    have h1 := getD_sz hr k
    have h2 := hf k (by omega)
    have h3 := pow_mul_lt h1 h2
    unfold lwpart
    refine Nat.le_trans (Int.natAbs_add_le _ _) ?_
    rw [Int.natAbs_mul, Int.natAbs_mul, sign_abs, Nat.one_mul, Nat.succ_mul]
    omega
theorem split_last {α : Type} {l : List α} {n : Nat} (h : l.length = n + 1) : ∃ i x, l = i ++ [x] := by
  have hne : l ≠ [] := fun e => by rw [e] at h; simp at h
  exact ⟨l.dropLast, l.getLast hne, (List.dropLast_concat_getLast hne).symm⟩
theorem lwdet_app (n : Nat) (F : List (List Int)) (r : List Int) : lwdet (n + 1) (F ++ [r]) = lwpart (lwdet n) n F r r.length := by
  show lwpart (lwdet n) n (F ++ [r]).dropLast ((F ++ [r]).getLastD []) _ = _
  simp
theorem lwdet_sz : ∀ (n : Nat) {F : List (List Int)}, n ≤ 3 → Mx n F → (lwdet n F).natAbs < 2 ^ (n * 502 + 1)
  | 0, _, _, _ => by show (1 : Nat) < 2 ^ 1; decide
  | n + 1, F, hn, h => by
    obtain ⟨F, r, rfl⟩ := split_last h.len
    have hr := h.row r (List.mem_append_right _ List.mem_cons_self)
    have h1 := lwpart_sz (f := lwdet n) (n := n) (tl := F) (row := r) (a := 500) (b := n * 502 + 1) (h.sz r (List.mem_append_right _ List.mem_cons_self)) (fun k hk => lwdet_sz n (by omega) (h.minorL (by omega))) r.length (Nat.le_refl _)
    rw [lwdet_app]
    refine Nat.lt_of_le_of_lt h1 ?_
    rw [hr] at *
    have e : (n + 1) * 502 + 1 = 2 + (500 + (n * 502 + 1)) := by omega
    rw [e, Nat.pow_add 2 2]
    exact Nat.mul_lt_mul_of_pos_right (show n + 1 < 4 by omega) (Nat.two_pow_pos _)
def tellsM (n : Nat) (F : List (List Int)) : Bool := decide ((List.range n).filter (fun i => decide (lwdet (1 + i) ((F.take (1 + i)).map (List.take (1 + i))) < 1)) = [])
section
variable {P : Program} {w : World} {K : PySem.W.Frag} {mg : Str → Option Value} {base : Heap} {ρ : List Sl} {M : Mt} {tA : TA} {te tb : TE}

abbrev N__law_cell : List Str := ["_law_script", "_law_k"]
theorem sc__law_cell : FnScope N__law_cell ["_law_script", "_law_k"] (defScope s__law_cell) := ⟨rfl, rfl, rfl, by decide +kernel, rfl, by decide +kernel, by decide +kernel⟩
def cellD (s : List Int) (k : Nat) : Int := if k < s.length then s.getD k 0 else 0
def S_law_cell2 (ds : List PD) (R : PD → Prop) : Prop := ∃ (s : List Int) (k : Nat), ds = [scrD s, .int (k : Nat)] ∧ R (.int (cellD s k))
theorem ok_law_cell2 (T : Tx K mg) : C8.Cal P w K mg base 1 "_law_cell" (spF K S_law_cell2) [] := by
  refine cal_of T.f__law_cell (fun _ _ _ _ _ _ us hl => match us, hl with | [_, _], _ => rfl) sc__law_cell (fun ds R h => ?_) (fun cdv A outer s H E hr => ⟨_, (pss_cons (ps_if (pt_cmpR op_lt (pv 1) (pe_callB (lenK (K := K) rfl) (by rfl) T.b_len (by decide +kernel) (pa_cons (pv 0) pa_nil)) (nomark _)) (pss_one (ps_ret (pe_ix (ix_listK (K := K) rfl) (pv 0) (pv 1) (fun _ _ => rfl)))) pss_nil)
      (pss_one (ps_ret pe_int))), fun G ds vs R kr hGH hds hS hrt => ?_⟩)
  · obtain ⟨s, k, rfl, _⟩ := h
    rfl
  · obtain ⟨s, k, rfl, hR⟩ := hS
    unfold cellD at hR
    refine st_seq (st_if (et_test (ev_op (ev_var rfl) (ev_cb (ea_cons (ev_var rfl) ea_nil) (rc_lenScr (ns := s))) rv_IB)) (fun e => ?_) (fun e => ?_))
    · have e1 := of_decide_eq_true e
      have hk : k < s.length := by omega
      rw [if_pos hk, List.getD_eq_getElem?_getD, List.getElem?_eq_getElem hk] at hR
      exact st_ret (ev_op (ev_var rfl) (ev_var rfl) (rv_ixScr (List.getElem?_eq_getElem hk))) hrt hR
    · have e1 := of_decide_eq_false e
      rw [if_neg (by omega)] at hR
      refine st_nil ?_
      show Nx K _ (tRet (tC (.int 0)) { nx := fun x H' => kr V.non H', rt := kr }) _ _
      exact st_ret (R := R) (d := .int 0) ev_int hrt hR
theorem ev_law_cell {s : List Int} {k : Nat} (h : EvA K tA ρ M [scrD s, .int (k : Nat)]) : EvD K (tCall (spF K S_law_cell2) [] E0 tA) ρ M (.int (cellD s k)) := ev_call h fun R r => ⟨s, k, rfl, r⟩
theorem rc_intB2 {b : Bool} : RcD K (fun xs H Q => (∃ i, xs = [.int i] ∧ Q (.int i) H) ∨ ∃ k, xs = [.bl k] ∧ Q (.int (if k then 1 else 0)) H) [.bool b] (.int (if b then 1 else 0)) := rc_intB
abbrev N__law_pen : List Str := ["_law_cell_here", "_law_left"]
theorem sc__law_pen : FnScope N__law_pen ["_law_cell_here"] (defScope s__law_pen) := ⟨rfl, rfl, rfl, by decide +kernel, rfl, by decide +kernel, by decide +kernel⟩
theorem ok_law_pen (T : Tx K mg) : C8.Cal P w K mg base 1 "_law_pen" (spN K) [] := by
  obtain ⟨fd, F1⟩ := T.f__law_pen.fd
  refine ⟨He.ga K "_law_pen", fd, _, [], F1.ok sc__law_pen (fun vs H Q E h => ?_) (fun cdv A outer s H vs Q E hr h => ?_), T.f__law_pen.gl, F1.kp, F1.bindsN (fun _ _ _ _ _ _ us hl => match us, hl with | [_], _ => rfl), .nil⟩
  · obtain ⟨c, G, rfl, _⟩ := h
    rfl
  · obtain ⟨c, G, rfl, h0, q⟩ := h
    refine ⟨_, PSs.nox (pss_cons (ps_set (i := 1) sc__law_pen.nd rfl (Or.inl rfl) (pe_callB (call_max2 rfl) (by rfl) T.b_max (by decide +kernel) (pa_cons (pv 0) (pa_cons (pe_op op_sub pe_int (pv 0)) pa_nil))))
      (pss_one (ps_ret (pe_lst (pa_cons (pv 1) (pa_cons (pe_callTy call_int1 (by rfl) T.b_int (by decide +kernel) (pa_cons (pe_cmpR op_ge (pv 1) (pe_op op_pow pe_int pe_int) (nomark _)) pa_nil)) pa_nil)))))), ?_⟩
    have hN : Nx K ⟨G, G, H⟩ (tSeq (tAsg (tCB (fun xs H Q => ∃ i j, xs = [.int i, .int j] ∧ Q (.int (if j > i then j else i)) H) (tCons (tVar 0) (tCons (tOp (rI0 fun i j => .int (i - j)) (tC (.int 0)) (tVar 0)) tNil))) (gName 1)) (tRet (tLst (tCons (tVar 1) (tCons (tCB (fun xs H Q => (∃ i, xs = [.int i] ∧ Q (.int i) H) ∨ ∃ k, xs = [.bl k] ∧ Q (.int (if k then 1 else 0)) H) (tCons (tOp (rI0 fun i j => .bl (decide (j ≤ i))) (tVar 1) (tOp (rI CPow fun i j => .int (i ^ j.toNat)) (tC (.int 10)) (tC (.int 18)))) tNil)) tNil)))) { nx := fun _ H' => Q .non H', rt := Q }) [.d (.int c), .no] [] := by
      refine st_seq (st_set (ev_cb (ea_cons (ev_var rfl) (ea_cons (ev_op ev_int (ev_var rfl) rv_II) ea_nil)) rc_max2) ?_)
      intro σ G2 H2 a
      refine ev_lst (ea_cons (ev_var rfl) (ea_cons (ev_cb (ea_cons (ev_op (ev_var rfl) (ev_op ev_int ev_int (rv_IC ⟨by decide, by decide, by decide⟩)) rv_IB) ea_nil) rc_intB) ea_nil)) (by simp) σ G2 H2 a.now _ fun p vs G3 H3 s3 hp hg hl hd => ?_
      have e := DqA.ints (ns := [_, _]) hd
      rw [e] at hl
      exact q p _ _ G3 H3 (a.st.trans s3) (none_of_same a.st.h hp) hg hl
    exact hN _ G H ⟨Stp.refl h0, Same.refl _, ⟨h0, start_env (N := N__law_pen) (DqA.of_ints [c]), fun q hq => absurd hq (by simp)⟩, fun q hq => absurd hq (by simp), by simp⟩
def InR (m : Int) (d : PD) : Prop := ∃ k : Int, d = .int k ∧ 0 ≤ k ∧ k < m
def S_law_draw (ds : List PD) (R : PD → Prop) : Prop := ∃ m : Int, ds = [.int m] ∧ 0 < m ∧ m < 1000 ∧ ∀ d, InR m d → R d
theorem rc_divmod {i j : Int} (h : CDiv i j) : RcD K (fun xs H Q => ∃ i j, xs = [.int i, .int j] ∧ CDiv i j ∧ ∀ p, H p = none → Q (.ref p) (upd H p (.tup [.int (i / j), .int (i % j)]))) [.int i, .int j] (.tuple [.int (i / j), .int (i % j)]) := fun G H vs e hv Q q => by
  have := DqA.ints (ns := [i, j]) hv
  subst this
  exact ⟨i, j, rfl, h, fun p hp => q _ _ _ (Stp.new e hp) (.tup (.inl (.inl upd_same)) (DqA.of_ints [i / j, i % j]))⟩
abbrev N__law_draw : List Str := ["_law_pen_here", "_law_many", "_law_left", "_law_found", "_law_stir"]
theorem sc__law_draw : FnScope N__law_draw ["_law_pen_here", "_law_many"] (defScope s__law_draw) := ⟨rfl, rfl, rfl, by decide +kernel, rfl, by decide +kernel, by decide +kernel⟩
theorem ok_law_draw (T : Tx K mg) : C8.Cal P w K mg base 1 "_law_draw" (spP K S_law_draw) [] := by
  refine cal_ofP T.f__law_draw (fun _ _ _ _ _ _ us hl => match us, hl with | [_, _], _ => rfl) sc__law_draw (fun ds R h => ?_) (fun cdv A outer s H E hr => ⟨_, (pss_cons (ps_if (pt_cmpR op_eq (pe_ix (ix_listK (K := K) rfl) (pv 0) pe_int (fun _ _ => rfl)) pe_int (nomark _)) (pss_cons (ps_asg (pe_callB call_divmod (by rfl) T.b_divmod (by decide +kernel) (pa_cons (pe_ix (ix_listK (K := K) rfl) (pv 0) pe_int (fun _ _ => rfl)) (pa_cons (pv 1) pa_nil))) (pg_tupK (K := K) rfl rfl (pgs_cons (pg_name (i := 2) sc__law_draw.nd rfl (Or.inl rfl)) (pgs_cons (pg_name (i := 3) sc__law_draw.nd rfl (Or.inl rfl)) pgs_nil))))
        (pss_cons (ps_asg (pv 2) (pg_sub (pv 0) pe_int set_list))
        (pss_one (ps_ret (pv 3))))) pss_nil)
      (pss_cons (ps_set (i := 4) sc__law_draw.nd rfl (Or.inl rfl) (pe_op op_mod (pe_op op_mulW (pe_op op_add (pe_op op_mod (pe_ix (ix_listK (K := K) rfl) (pv 0) pe_int (fun _ _ => rfl)) pe_int) pe_int) pe_int) pe_int))
      (pss_cons (ps_set (i := 4) sc__law_draw.nd rfl (Or.inl rfl) (pe_op op_mod (pe_op op_add (pe_op op_mulW (pv 4) (pv 4)) pe_int) pe_int))
      (pss_cons (ps_asg (pe_op op_mod (pe_op op_add (pe_op op_mulW (pv 4) pe_int) pe_int) pe_int) (pg_sub (pv 0) pe_int set_list))
      (pss_one (ps_ret (pe_op op_mod (pe_op op_fdivW (pe_ix (ix_listK (K := K) rfl) (pv 0) pe_int (fun _ _ => rfl)) pe_int) (pv 1)))))))), fun G p ds vs R kr hGH hds hS hrt y f => ?_⟩)
  · obtain ⟨m, rfl, _⟩ := h
    rfl
  · obtain ⟨m, rfl, m0, m1, hR⟩ := hS
    have hm : ∀ x f : Int, (p, pn x f) ∈ [(p, pn x f)] := fun x f => List.mem_cons_self
    refine st_seq (st_if (et_test (ev_op (ev_ixM rfl (hm y f) ev_int (show atI (pn y f) 1 = some (.int f) from rfl)) ev_int rv_eq)) (fun e => ?_) (fun e => ?_))
    · refine st_seq (st_asg (ev_cb (ea_cons (ev_ixM rfl (hm y f) ev_int (show atI (pn y f) 0 = some (.int y) from rfl)) (ea_cons (ev_var rfl) ea_nil)) (rc_divmod ⟨m0, by omega⟩)) (tg_tup (tgs_cons tg_name (tgs_cons tg_name tgs_nil)) rfl) ?_)
      refine st_seq (st_setI (i := 0) (k := 0) (j := 0) rfl (ev_var rfl) ev_int rfl ?_)
      refine st_retX (R := fun d => d = .int (y % m)) (ex_ev fun x f => ev_var rfl) ?_ (y / m) f
      exact fun v d x f G' H' st h hv e => hrt v d x f G' H' st h hv (by rw [e]; exact hR _ ⟨_, rfl, Int.emod_nonneg _ (by omega), Int.emod_lt_of_pos _ m0⟩)
    · have hmod : ∀ {i c : Int}, 0 < c → 0 ≤ i % c ∧ i % c < c := fun h => ⟨Int.emod_nonneg _ (by omega), Int.emod_lt_of_pos _ h⟩
      refine st_nil (st_seq (st_set (ev_op (ev_op (ev_op (ev_op (ev_ixM rfl (hm y f) ev_int (show atI (pn y f) 0 = some (.int y) from rfl)) ev_int (rv_IC (show (0 : Int) < 2147483647 by decide))) ev_int rv_II) ev_int (rv_IC (cmul (a := 40) (b := 20) ?_ (by decide) (by decide)))) ev_int (rv_IC (show (0 : Int) < 2147483629 by decide))) ?_))
      · have := hmod (i := y) (c := 2147483647) (by decide)
        show _ < 1099511627776
        omega
      generalize hs1 : ((y % 2147483647 + 40503) * 69621 % 2147483629 : Int) = s1
      have b1 : 0 ≤ s1 ∧ s1 < 2147483629 := by rw [← hs1]; exact hmod (by decide)
      refine st_seq (st_set (ev_op (ev_op (ev_op (ev_var rfl) (ev_var rfl) (rv_IC (cmul (a := 40) (b := 40) ?_ ?_ (by decide)))) ev_int rv_II) ev_int (rv_IC (show (0 : Int) < 2147483587 by decide))) ?_)
      · show _ < 1099511627776
        omega
      · show _ < 1099511627776
        omega
      generalize hs2 : ((s1 * s1 + 7817) % 2147483587 : Int) = s2
      have b2 : 0 ≤ s2 ∧ s2 < 2147483587 := by rw [← hs2]; exact hmod (by decide)
      refine st_seq (st_setI (i := 0) (k := 0) (j := 0) rfl (ev_op (ev_op (ev_op (ev_var rfl) ev_int (rv_IC (cmul (a := 40) (b := 20) ?_ (by decide) (by decide)))) ev_int rv_II) ev_int (rv_IC (show (0 : Int) < 2147483629 by decide))) ev_int rfl ?_)
      · show _ < 1099511627776
        omega
      generalize hs3 : ((s2 * 48271 + 11) % 2147483629 : Int) = s3
      have hpn : (p, pn s3 f) ∈ [(p, pn s3 f)] := List.mem_cons_self
      show Nx K _ _ _ [(p, pn s3 f)]
      have hx : ∀ ρ : List Sl, ρ[0]? = some (.r p) → ρ[1]? = some (.d (.int m)) → EvX K ⟨G, G, rm H p⟩ (tOp (rI (fun _ j => 0 < j) fun i j => V.int (i % j)) (tOp (rI CDivW fun i j => V.int (i / j)) (tOp (rIxL K) (tVar 0) (tC (.int 0))) (tC (.int 32))) (tVar 1)) ρ [] p (InR m) := fun ρ h0 h1 x f σ G2 H2 a Q q => by
        have hev : EvD K (tOp (rI (fun _ j => 0 < j) fun i j => V.int (i % j)) (tOp (rI CDivW fun i j => V.int (i / j)) (tOp (rIxL K) (tVar 0) (tC (.int 0))) (tC (.int 32))) (tVar 1)) ρ [(p, pn x f)] (.int (x / 32 % m)) := ev_op (ev_op (ev_ixM h0 List.mem_cons_self ev_int (show atI (pn x f) 0 = some (.int x) from rfl)) ev_int (rv_IC (cdiv (b := 10) (by decide) (by decide) (by decide)))) (ev_var h1) (rv_IC m0)
        exact hev σ G2 H2 a.now Q fun v G3 H3 s hv => q v _ x f G3 H3 (a.stp s) s.g hv ⟨_, rfl, (hmod m0).1, (hmod m0).2⟩
      show Nx K _ (tRet (tOp (rI (fun _ j => 0 < j) fun i j => V.int (i % j)) (tOp (rI CDivW fun i j => V.int (i / j)) (tOp (rIxL K) (tVar 0) (tC (.int 0))) (tC (.int 32))) (tVar 1)) { nx := fun x H' => kr V.non H', rt := kr }) _ _
      exact st_retX (hx _ rfl rfl) (fun v d x f G' H' st h hv e => hrt v d x f G' H' st h hv (hR _ e)) s3 f
theorem ex_draw {B : Bs} {p : Addr} {i : Nat} {m : Int} (hi : ρ[i]? = some (.r p)) (h : EvX K B te ρ M p (fun d => d = .int m)) (m0 : 0 < m) (m1 : m < 1000) : EvX K B (tCall (spP K S_law_draw) [] E0 (tCons (tVar i) (tCons te tNil))) ρ M p (InR m) :=
  ex_callP (RA := fun ds => ds = [.int m]) hi (exa_cons h exa_nil fun d ds h1 h2 => by rw [h1, h2]) fun ds e R' w => ⟨m, e, m0, m1, w⟩
def S_law_whole (ds : List PD) (R : PD → Prop) : Prop := ∃ i : Int, ds = [.int i] ∧ R (.bool true)
abbrev N__law_whole : List Str := ["_law_thing"]
theorem sc__law_whole : FnScope N__law_whole ["_law_thing"] (defScope s__law_whole) := ⟨rfl, rfl, rfl, by decide +kernel, rfl, by decide +kernel, by decide +kernel⟩
theorem ok_law_whole (T : Tx K mg) : C8.Cal P w K mg base 1 "_law_whole" (spF K S_law_whole) [] := by
  refine cal_of T.f__law_whole (fun _ _ _ _ _ _ us hl => match us, hl with | [_], _ => rfl) sc__law_whole (fun ds R h => ?_) (fun cdv A outer s H E hr => ⟨_, (pss_one (ps_ret (pe_and (pe_callB (isiK (K := K) rfl) (by rfl) T.b_isinstance (by decide +kernel) (pa_cons (pv 0) (pa_cons (pe_bltn (v := .ty "int") (by rfl) T.b_int (by decide +kernel) rfl) pa_nil))) (pe_one (pe_not (pe_callB (isiK (K := K) rfl) (by rfl) T.b_isinstance (by decide +kernel) (pa_cons (pv 0) (pa_cons (pe_bltn (v := .ty "bool") (by rfl) T.b_bool (by decide +kernel) rfl) pa_nil)))))))), fun G ds vs R kr hGH hds hS hrt => ?_⟩)
  · obtain ⟨i, rfl, _⟩ := h
    rfl
  · obtain ⟨i, rfl, hR⟩ := hS
    exact st_ret (ev_andV (ev_isi (b := true) (ev_var rfl) kit_ii) fun _ => ev_notV (ev_isi (b := false) (ev_var rfl) kit_ib)) hrt hR
theorem ev_law_whole {i : Int} (h : EvA K tA ρ M [.int i]) : EvD K (tCall (spF K S_law_whole) [] E0 tA) ρ M (.bool true) := ev_call h fun R r => ⟨i, rfl, r⟩
def S_law_less (ds : List PD) (R : PD → Prop) : Prop := ∃ (p q : Rat) (n m : Nat), ds = [fr p, fr q] ∧ Sz n p ∧ Sz m q ∧ n + m ≤ 8999 ∧ R (.bool (decide (p < q)))
abbrev N__law_less : List Str := ["_law_one", "_law_other"]
theorem sc__law_less : FnScope N__law_less ["_law_one", "_law_other"] (defScope s__law_less) := ⟨rfl, rfl, rfl, by decide +kernel, rfl, by decide +kernel, by decide +kernel⟩
theorem ok_law_less (T : Tx K mg) : C8.Cal P w K mg base 1 "_law_less" (spF K S_law_less) [] := by
  refine cal_of T.f__law_less (fun _ _ _ _ _ _ us hl => match us, hl with | [_, _], _ => rfl) sc__law_less (fun ds R h => ?_) (fun cdv A outer s H E hr => ⟨_, (pss_one (ps_ret (pe_cmpR op_lt (pe_op op_mulW (pe_ix (ix_tupK (K := K) rfl) (pv 0) pe_int (fun _ _ => rfl)) (pe_ix (ix_tupK (K := K) rfl) (pv 1) pe_int (fun _ _ => rfl))) (pe_op op_mulW (pe_ix (ix_tupK (K := K) rfl) (pv 1) pe_int (fun _ _ => rfl)) (pe_ix (ix_tupK (K := K) rfl) (pv 0) pe_int (fun _ _ => rfl))) (nomark _)))), fun G ds vs R kr hGH hds hS hrt => ?_⟩)
  · obtain ⟨p, q, n, m, rfl, _⟩ := h
    rfl
  · obtain ⟨p, q, n, m, rfl, hp, hq, hnm, hR⟩ := hS
    refine st_ret (EvD.is (ev_op (ev_op (ev_num (ev_var rfl)) (ev_den (ev_var rfl)) (rv_IC (cmul hp.num hq.den (by omega)))) (ev_op (ev_num (ev_var rfl)) (ev_den (ev_var rfl)) (rv_IC (cmul hq.num hp.den (by omega)))) rv_IB) ?_) hrt hR
    exact congrArg PyData.bool (decide_eq_decide.mpr (lt_parts p q))
theorem ev_law_less {p q : Rat} {n m : Nat} (h : EvA K tA ρ M [fr p, fr q]) (hp : Sz n p) (hq : Sz m q) (hnm : n + m ≤ 8999) : EvD K (tCall (spF K S_law_less) [] E0 tA) ρ M (.bool (decide (p < q))) := ev_call h fun R r => ⟨p, q, n, m, rfl, hp, hq, hnm, r⟩
def S_law_worth (n : Nat) (ds : List PD) (R : PD → Prop) : Prop := ∃ (m : Nat) (F : List (List Int)), ds = [.list (F.map pt)] ∧ m ≤ n ∧ Mx m F ∧ R (.int (lwdet m F))
theorem ev_law_worth {n m : Nat} {F : List (List Int)} (h : EvA K tA ρ M [.list (F.map pt)]) (hF : Mx m F) (hm : m ≤ n) : EvD K (tCall (spF K (S_law_worth n)) [] E0 tA) ρ M (.int (lwdet m F)) := ev_call h fun R r => ⟨m, F, rfl, hm, hF, r⟩
theorem cut_init (ds : List PD) (d : PD) : cutD (ds ++ [d]) none (some (-1)) = ds := by
  unfold cutD
  rw [HT.sIx_none]
  have e : HT.sIx (ds ++ [d]).length (ds ++ [d]).length (some (-1)) = ds.length := by
    simp [HT.sIx]
    omega
  rw [e, List.drop_zero, Nat.sub_zero, List.take_left]
theorem atI_lst {ds : List PD} {d : PD} : atI (ds ++ [d]) (-1) = some d := by
  unfold atI ixN
  rw [if_neg (by omega), if_pos (by rw [List.length_append]; simp; omega)]
  show (ds ++ [d])[((-1 : Int) + ((ds ++ [d]).length : Nat)).toNat]? = _
  have e : ((-1 : Int) + ((ds ++ [d]).length : Nat)).toNat = ds.length := by rw [List.length_append]; simp; omega
  rw [e, List.getElem?_append_right (Nat.le_refl _), Nat.sub_self]
  rfl
abbrev N__law_worth : List Str := ["_law_rows", "_law_found", "_law_at", "_law_number", "_law_sign", "_law_row"]
theorem sc__law_worth : FnScope N__law_worth ["_law_rows"] (defScope s__law_worth) := ⟨rfl, rfl, rfl, by decide +kernel, rfl, by decide +kernel, by decide +kernel⟩
theorem ok_law_worth (T : Tx K mg) : ∀ n : Nat, n ≤ 3 → C8.Cal P w K mg base (n + 1) "_law_worth" (spF K (S_law_worth n)) []
  | 0, _ => by
    refine cal_of T.f__law_worth (fun _ _ _ _ _ _ us hl => match us, hl with | [_], _ => rfl) sc__law_worth (fun ds R h => ?_) (fun cdv A outer s H E hr => ⟨_, (pss_cons (ps_if (pt_cmpR op_eq (pe_callB (lenK (K := K) rfl) (by rfl) T.b_len (by decide +kernel) (pa_cons (pv 0) pa_nil)) pe_int (nomark _)) (pss_one (ps_ret pe_int)) pss_nil) pss_never), fun G ds vs R kr hGH hds hS hrt => ?_⟩)
    · obtain ⟨m, F, rfl, _⟩ := h
      rfl
    · obtain ⟨m, F, rfl, hm, hF, hR⟩ := hS
      obtain rfl : m = 0 := by omega
      refine st_seq (st_if (et_test (ev_op (ev_cb (ea_cons (ev_var rfl) ea_nil) rc_lenL) ev_int rv_eq)) (fun e => st_ret ev_int hrt hR) (fun e => ?_))
      have e1 := of_decide_eq_false e
      rw [List.length_map, hF.len] at e1
      exact absurd rfl e1
  | n + 1, hn => by
    have c__law_worth := ok_law_worth T n (by omega)
    refine cal_of T.f__law_worth (fun _ _ _ _ _ _ us hl => match us, hl with | [_], _ => rfl) sc__law_worth (fun ds R h => ?_) (fun cdv A outer s H E hr => ⟨_, (pss_cons (ps_if (pt_cmpR op_eq (pe_callB (lenK (K := K) rfl) (by rfl) T.b_len (by decide +kernel) (pa_cons (pv 0) pa_nil)) pe_int (nomark _)) (pss_one (ps_ret pe_int)) pss_nil)
      (pss_cons (ps_set (i := 1) sc__law_worth.nd rfl (Or.inl rfl) pe_int)
      (pss_cons (ps_for PassesOwn.never rfl (pi_enumTK (K := K) rfl (by rfl) T.b_enumerate (pa_cons (pe_ix (ix_listK (K := K) rfl) (pv 0) (pe_un un_neg pe_int) (fun _ _ => rfl)) pa_nil)) (pg_tupK (K := K) rfl rfl (pgs_cons (pg_name (i := 2) sc__law_worth.nd rfl (Or.inr rfl)) (pgs_cons (pg_name (i := 3) sc__law_worth.nd rfl (Or.inl rfl)) pgs_nil))) (pss_cons (ps_set (i := 4) sc__law_worth.nd rfl (Or.inl rfl) (pe_op op_sub pe_int (pe_op op_mulW pe_int (pe_op op_mod (pe_op op_add (pe_op op_sub (pe_callB (lenK (K := K) rfl) (by rfl) T.b_len (by decide +kernel) (pa_cons (pv 0) pa_nil)) pe_int) (pv 2)) pe_int))))
        (pss_one (ps_set (i := 1) sc__law_worth.nd rfl (Or.inl rfl) (pe_op op_add (pv 1) (pe_op op_mulW (pe_op op_mulW (pv 4) (pv 3)) (C8.pe_c c__law_worth hr (by first | decide | omega) (by rfl) (pa_cons (pe_lc (own := [("_law_row", 5)]) (g := (gName 5)) (tt := tYes) rfl sc__law_worth.nd (pi_listK (K := K) rfl (pe_slice (sl_listK (K := K) rfl) (pv 0) po_none (po_some (pe_un un_neg pe_int)))) (blkOk_by (own := [("_law_row", 5)]) (N := N__law_worth) (sc := (defScope s__law_worth)) (by decide +kernel)) (fun _ _ _ _ _ => (pg_name (i := 5) sc__law_worth.nd rfl (Or.inl rfl))) (fun _ _ _ _ _ => pts_nil) (fun _ _ _ _ _ => (pe_op (op_catK (K := K) rfl) (pe_slice (sl_tupK (K := K) rfl) (pv 5) po_none (po_some (pv 2))) (pe_slice (sl_tupK (K := K) rfl) (pv 5) (po_some (pe_op op_add (pv 2) pe_int)) po_none)))) pa_nil))))))))
      (pss_one (ps_ret (pv 1)))))), fun G ds vs R kr hGH hds hS hrt => ?_⟩)
    · obtain ⟨m, F, rfl, _⟩ := h
      rfl
    · obtain ⟨m, F, rfl, hm, hF, hR⟩ := hS
      refine st_seq (st_if (et_test (ev_op (ev_cb (ea_cons (ev_var rfl) ea_nil) rc_lenL) ev_int rv_eq)) (fun e => ?_) (fun e => ?_))
      · have e1 := of_decide_eq_true e
        rw [List.length_map, hF.len] at e1
        obtain rfl : m = 0 := by omega
        exact st_ret ev_int hrt hR
      have e1 := of_decide_eq_false e
      rw [List.length_map, hF.len] at e1
      obtain ⟨m, rfl⟩ : ∃ m', m = m' + 1 := ⟨m - 1, by omega⟩
      obtain ⟨F, r, rfl⟩ := split_last hF.len
      have hrl := hF.row r (List.mem_append_right _ List.mem_cons_self)
      have hFl : F.length = m := by have := hF.len; simpa using this
      have emap : (F ++ [r]).map pt = F.map pt ++ [pt r] := by rw [List.map_append]; rfl
      have hlen : ((F ++ [r]).map pt).length = m + 1 := by rw [List.length_map, hF.len]
      rw [lwdet_app] at hR
      refine st_nil (st_seq (st_set ev_int (st_seq (st_for (fun i => [.d (.list ((F ++ [r]).map pt)), .d (.int (lwpart (lwdet m) m F r i)), .no, .no, .no, .no]) (fun _ => []) (ei_enumT (ea_cons (ev_op (ev_var rfl) (ev_neg ev_int) (rv_ixL (d := .tuple (r.map .int)) (by rw [emap]; exact atI_lst))) ea_nil)) (by repeat' (first | exact True.intro | exact Or.inr rfl | exact Or.inl rfl | refine And.intro ?_ ?_)) rfl (fun A i d hd N hN => ?_) ?_))))
      · obtain ⟨d', hd', rfl⟩ := enD_get hd
        obtain ⟨x, hx, rfl⟩ := map_getA hd'
        have hi : i < r.length := (List.getElem?_eq_some_iff.mp hx).1
        have hx0 : r.getD i 0 = x := by rw [List.getD_eq_getElem?_getD, hx]; rfl
        have hmin := hF.minorL (k := i) (by omega)
        have hsz := lwdet_sz m (by omega) hmin
        have hxs : x.natAbs < 2 ^ 500 := hF.sz r (List.mem_append_right _ List.mem_cons_self) x (List.mem_of_getElem? hx)
        have e2 : (((((m + 1 : Nat) : Int)) - 1 + (i : Nat)) % 2) = (((m + i) % 2 : Nat) : Int) := by omega
        refine ⟨_, _, tg_tup (tgs_cons tg_name (tgs_cons tg_name tgs_nil)) rfl, st_seq (st_set (d := .int (1 - 2 * (((m + i) % 2 : Nat) : Int))) (EvD.is (ev_op ev_int (ev_op ev_int (ev_op (ev_op (ev_op (EvD.is (ev_cb (ea_cons (ev_var rfl) ea_nil) (rc_lenL (ds := (F ++ [r]).map pt))) (congrArg (fun k : Nat => PyData.int (k : Nat)) hlen)) ev_int rv_II) (ev_var rfl) rv_II) ev_int (rv_IC (by decide))) (rv_IC (cmul (a := 2) (b := 64) (by decide) ?_ (by decide)))) rv_II) (by rw [e2])) ?_)⟩
        · rw [e2]
          have := Nat.mod_lt (m + i) (show 0 < 2 by decide)
          show (m + i) % 2 < 2 ^ 64
          omega
        have e3 : lwpart (lwdet m) m F r (i + 1) = lwpart (lwdet m) m F r i + (1 - 2 * (((m + i) % 2 : Nat) : Int)) * x * lwdet m (minorR i F) := by
          rw [← hx0]
          rfl
        rw [e3] at hN
        refine st_set (ev_op (ev_var rfl) (ev_op (ev_op (ev_var rfl) (ev_var rfl) (rv_IC (cmul (a := 64) ?_ hxs (by decide)))) (ev_law_worth (ea_cons (EvL.toD (EvL.is (el_mapA F pt (fun r => pt (cutAt i r))
            (ei_list (EvL.toD ((ev_slL (ds := (F ++ [r]).map pt) (ev_var rfl) eo_none (eo_some (ev_neg ev_int))).is (by rw [emap]; exact cut_init _ _)))) (by omega) (fun j q hq => ?_)) ?_)) ea_nil) hmin (by omega)) (rv_IC (cmul (a := 600) ?_ hsz (by omega)))) rv_II) (hN.wkn (by repeat' (first | exact True.intro | exact Or.inr rfl | exact Or.inl rfl | refine And.intro ?_ ?_)))
        · rw [sign_abs]
          decide
        · have hql : q.length = m + 1 := hF.row q (List.mem_append_left _ (List.mem_of_getElem? hq))
          refine ⟨_, _, by simp, tg_name, EvD.is (ev_cutAt (ds := q.map .int) (k := i) (ev_var rfl) (ev_var rfl) (EvD.is (ev_op (ev_var rfl) ev_int rv_II) rfl) (by rw [List.length_map]; omega)) ?_⟩
          rw [← map_cutAt]
          rfl
        · rw [minorR, List.map_map]
          rfl
        · rw [Int.natAbs_mul, sign_abs, Nat.one_mul]
          exact pw_le hxs (by decide)
      · refine st_ret (ev_var rfl) hrt ?_
        rw [enD_len, List.length_map]
        exact hR
def S_law_tells (ds : List PD) (R : PD → Prop) : Prop := ∃ (n : Nat) (F : List (List Int)), ds = [fm F] ∧ 1 ≤ n ∧ n ≤ 3 ∧ Mx n F ∧ (∀ i j, i < n → j < n → ent F i j = ent F j i) ∧ R (.bool (tellsM n F))
abbrev N__law_tells : List Str := ["_law_thing", "_law_size", "_law_row", "_law_i", "_law_many", "_law_one", "_law_j"]
theorem sc__law_tells : FnScope N__law_tells ["_law_thing"] (defScope s__law_tells) := ⟨rfl, rfl, rfl, by decide +kernel, rfl, by decide +kernel, by decide +kernel⟩
theorem ok_law_tells (T : Tx K mg) : C8.Cal P w K mg base 5 "_law_tells" (spF K S_law_tells) [] := by
  have c__law_whole := ok_law_whole (P := P) (w := w) (base := base) T
  have c__law_worth := ok_law_worth (P := P) (w := w) (base := base) T 3 (by omega)
  refine cal_of T.f__law_tells (fun _ _ _ _ _ _ us hl => match us, hl with | [_], _ => rfl) sc__law_tells (fun ds R h => ?_) (fun cdv A outer s H E hr => ⟨_, (pss_cons (ps_if (PW.pt (pw_or (pt_not (pt_val (pe_callB (isiK (K := K) rfl) (by rfl) T.b_isinstance (by decide +kernel) (pa_cons (pv 0) (pa_cons (pe_bltn (v := .ty "tuple") (by rfl) T.b_tuple (by decide +kernel) rfl) pa_nil))))) (pw_or1 (pt_cmpR op_notin_rng (pe_callB (lenK (K := K) rfl) (by rfl) T.b_len (by decide +kernel) (pa_cons (pv 0) pa_nil)) (pe_callTy cr_range2 (by rfl) T.b_range (by decide +kernel) (pa_cons pe_int (pa_cons pe_int pa_nil))) (by rfl))))) (pss_one (ps_ret pe_bl)) pss_nil)
      (pss_cons (ps_set (i := 1) sc__law_tells.nd rfl (Or.inr rfl) (pe_callB (lenK (K := K) rfl) (by rfl) T.b_len (by decide +kernel) (pa_cons (pv 0) pa_nil)))
      (pss_cons (ps_for PassesOwn.never rfl (pi_tupK (K := K) rfl (pv 0)) (pg_name (i := 2) sc__law_tells.nd rfl (Or.inl rfl)) (pss_one (ps_if (PW.pt (pw_or (pt_not (pt_val (pe_callB (isiK (K := K) rfl) (by rfl) T.b_isinstance (by decide +kernel) (pa_cons (pv 2) (pa_cons (pe_bltn (v := .ty "tuple") (by rfl) T.b_tuple (by decide +kernel) rfl) pa_nil))))) (pw_or (pt_cmpR op_ne (pe_callB (lenK (K := K) rfl) (by rfl) T.b_len (by decide +kernel) (pa_cons (pv 2) pa_nil)) (pv 1) (nomark _)) (pw_or1 (pt_not (pt_val (pe_callB (allK (K := K) rfl rfl) (by rfl) T.b_all (by decide +kernel) (pa_cons (pe_lc (own := [("_law_one", 5)]) (g := (gName 5)) (tt := tYes) rfl sc__law_tells.nd (pi_tupK (K := K) rfl (pv 2)) (blkOk_by (own := [("_law_one", 5)]) (N := N__law_tells) (sc := (defScope s__law_tells)) (by decide +kernel)) (fun _ _ _ _ _ => (pg_name (i := 5) sc__law_tells.nd rfl (Or.inl rfl))) (fun _ _ _ _ _ => pts_nil) (fun _ _ _ _ _ => (C8.pe_c c__law_whole hr (by first | decide | omega) (by rfl) (pa_cons (pv 5) pa_nil)))) pa_nil)))))))) (pss_one (ps_ret pe_bl)) pss_nil)))
      (pss_cons (ps_if (pt_cmpR (op_neK (K := K) rfl hr.units) (pe_lc (own := [("_law_i", 3)]) (g := (gName 3)) rfl sc__law_tells.nd (pi_range1 (by rfl) T.b_range (pa_cons (pv 1) pa_nil)) (blkOk_by (own := [("_law_i", 3)]) (N := N__law_tells) (sc := (defScope s__law_tells)) (by decide +kernel)) (fun _ _ _ _ _ => (pg_name (i := 3) sc__law_tells.nd rfl (Or.inr rfl))) (fun _ _ _ _ _ => (pts_one (pt_cmpR (op_neK (K := K) rfl hr.units) (pe_lc (own := [("_law_j", 6)]) (g := (gName 6)) (tt := tYes) rfl sc__law_tells.nd (pi_range1 (by rfl) T.b_range (pa_cons (pv 1) pa_nil)) (blkOk_by (own := [("_law_j", 6)]) (N := N__law_tells) (sc := (relS _ (defScope s__law_tells))) (by decide +kernel)) (fun _ _ _ _ _ => (pg_name (i := 6) sc__law_tells.nd rfl (Or.inl rfl))) (fun _ _ _ _ _ => pts_nil) (fun _ _ _ _ _ => (pe_ix (ix_tupK (K := K) rfl) (pe_ix (ix_tupK (K := K) rfl) (pv 0) (pv 6) (fun _ _ => rfl)) (pv 3) (fun _ _ => rfl)))) (pe_callTy (lstK (K := K) rfl) (by rfl) T.b_list (by decide +kernel) (pa_cons (pe_ix (ix_tupK (K := K) rfl) (pv 0) (pv 3) (fun _ _ => rfl)) pa_nil)) (nomark _)))) (fun _ _ _ _ _ => pe_int)) (pe_lst pa_nil) (nomark _)) (pss_one (ps_ret pe_bl)) pss_nil)
      (pss_one (ps_ret (pe_cmpR (op_eqK (K := K) rfl hr.units) (pe_lc (own := [("_law_many", 4)]) (g := (gName 4)) rfl sc__law_tells.nd (pi_range2 (by rfl) T.b_range (pa_cons pe_int (pa_cons (pe_op op_add (pv 1) pe_int) pa_nil))) (blkOk_by (own := [("_law_many", 4)]) (N := N__law_tells) (sc := (defScope s__law_tells)) (by decide +kernel)) (fun _ _ _ _ _ => (pg_name (i := 4) sc__law_tells.nd rfl (Or.inr rfl))) (fun _ _ _ _ _ => (pts_one (pt_cmpR op_lt (C8.pe_c c__law_worth hr (by first | decide | omega) (by rfl) (pa_cons (pe_lc (own := [("_law_row", 2)]) (g := (gName 2)) (tt := tYes) rfl sc__law_tells.nd (pi_tupK (K := K) rfl (pe_slice (sl_tupK (K := K) rfl) (pv 0) po_none (po_some (pv 4)))) (blkOk_by (own := [("_law_row", 2)]) (N := N__law_tells) (sc := (relS _ (defScope s__law_tells))) (by decide +kernel)) (fun _ _ _ _ _ => (pg_name (i := 2) sc__law_tells.nd rfl (Or.inl rfl))) (fun _ _ _ _ _ => pts_nil) (fun _ _ _ _ _ => (pe_slice (sl_tupK (K := K) rfl) (pv 2) po_none (po_some (pv 4))))) pa_nil)) pe_int (nomark _)))) (fun _ _ _ _ _ => (pv 4))) (pe_lst pa_nil) (nomark _)))))))), fun G ds vs R kr hGH hds hS hrt => ?_⟩)
  · obtain ⟨n, F, rfl, _⟩ := h
    rfl
  · obtain ⟨n, F, rfl, h1, h3, hm, hsym, hR⟩ := hS
    have hlen : (F.map pt).length = n := by rw [List.length_map, hm.len]
    have hlF := hm.len
    refine st_seq (st_if (b := false) (EvT.is (et_or (et_not (et_B (ev_isi (b := true) (ev_var (d := .tuple (F.map pt)) rfl) kit_tt))) fun _ => et_notin (EvD.is (ev_cb (ea_cons (ev_var rfl) ea_nil) (rc_lenT (ds := F.map pt))) (congrArg (fun k : Nat => PyData.int (k : Nat)) hlen)) ev_int ev_int) ?_) (fun e => by cases e) (fun e => ?_))
    · rw [decide_eq_true (by omega)]
      rfl
    refine st_nil (st_seq (st_set (EvD.is (ev_cb (ea_cons (ev_var rfl) ea_nil) (rc_lenT (ds := F.map pt))) (congrArg (fun k : Nat => PyData.int (k : Nat)) hlen)) ?_))
    refine st_seq (st_for (fun i => [.d (fm F), .d (.int (n : Nat)), .no, .no, .no, .no, .no]) (fun _ => []) (ei_tup (ev_var rfl)) (by repeat' (first | exact True.intro | exact Or.inr rfl | exact Or.inl rfl | refine And.intro ?_ ?_)) rfl (fun A i d hd N hN => ?_) ?_)
    · obtain ⟨r, hr, rfl⟩ := map_getA hd
      have hrl := hm.row r (List.mem_of_getElem? hr)
      have hrl2 : (r.map PyData.int).length = n := by rw [List.length_map, hrl]
      refine ⟨_, _, tg_name, st_if (b := false) (EvT.is (et_or (et_not (et_B (ev_isi (b := true) (ev_var (d := .tuple (r.map .int)) rfl) kit_tt))) fun _ => et_or (et_test (ev_op (EvD.is (ev_cb (ea_cons (ev_var rfl) ea_nil) (rc_lenT (ds := r.map .int))) (congrArg (fun k : Nat => PyData.int (k : Nat)) hrl2)) (ev_var rfl) rv_ne)) fun _ => et_not (et_test (b := true) (EvD.is (ev_cb (ea_cons (EvL.toD (EvL.is (el_mapA r .int (fun _ => .bool true) (ei_tup (ev_var rfl)) (by omega) (fun j x hx => ?_)) ?_)) ea_nil) (rc_all (bs := r.map fun _ => true))) ?_))) ?_) (fun e => by cases e) (fun e => st_nil (hN.wkn (by repeat' (first | exact True.intro | exact Or.inr rfl | exact Or.inl rfl | refine And.intro ?_ ?_))))⟩
      · exact ⟨_, _, by simp, tg_name, ev_law_whole (ea_cons (ev_var rfl) ea_nil)⟩
      · simp [Function.comp_def]
      · rw [all_true]
      · simp
    refine st_seq (st_if (b := false) (EvT.is (et_test (ev_op (EvL.toD (EvL.is (es := [].map .int) (el_filtA (List.range n) (fun i => .int (i : Nat)) (fun _ => .int 1) (fun _ => false) (ei_rng1N (ea_cons (ev_var rfl) ea_nil) (by omega)) (by rw [List.length_range]; omega) (fun i a ha => ?_)) ?_)) (EvL.toD (EvL.is (es := [].map .int) (ev_lst ea_nil (by decide)) rfl)) (rv_neD (dpo_intL []) (dpo_intL []) ((lay_ints []).shp (by decide)) ((lay_ints []).shp (by decide))))) ?_) (fun e => by cases e) (fun e => ?_))
    · obtain ⟨hi, rfl⟩ := rng_get ha
      refine ⟨_, _, by simp, tg_name, EvT.is (et_test (ev_op (EvL.toD (EvL.is (es := ((List.range n).map fun j => ent F j a).map .int) (el_mapA (List.range n) (fun i => .int (i : Nat)) (fun j => .int (ent F j a)) (ei_rng1N (ea_cons (ev_var rfl) ea_nil) (by omega)) (by rw [List.length_range]; omega) (fun j b hb => ?_)) ?_)) (EvL.toD (ev_cbL (ds := (F.getD a []).map .int) (ea_cons (ev_op (ev_var rfl) (ev_var rfl) (rv_ixTn (fm_row hm hi))) ea_nil) rc_lstT)) (rv_neD (dpo_intL _) (dpo_intL _) ((lay_ints _).shp (by decide)) ((lay_ints _).shp (by decide))))) ?_, fun e => by cases e⟩
      · obtain ⟨hj, rfl⟩ := rng_get hb
        exact ⟨_, _, by simp, tg_name, ev_ent hm hj hi (ev_var rfl) (ev_var rfl) (ev_var rfl)⟩
      · rw [List.map_map]
        rfl
      · rw [eqv_ints]
        have e5 : ((List.range n).map fun j => ent F j a) = F.getD a [] := by
          apply List.ext_getElem?
          intro j
          rw [List.getElem?_map]
          by_cases hj : j < n
          · rw [List.getElem?_range hj, hm.entAt hi hj, hsym _ _ hi hj]
            rfl
          · rw [List.getElem?_eq_none (by rw [List.length_range]; omega), List.getElem?_eq_none (by rw [hm.rowLen hi]; omega)]
            rfl
        rw [e5, decide_eq_true rfl]
        rfl
    · simp
    · rw [eqv_ints]
      rfl
    refine st_nil (st_ret (EvD.is (ev_op (EvL.toD (EvL.is (es := (((List.range n).filter (fun i => decide (lwdet (1 + i) ((F.take (1 + i)).map (List.take (1 + i))) < 1))).map fun i => ((1 + i : Nat) : Int)).map .int) (el_filtA (List.range (n + 1 - 1)) (fun i => .int ((1 + i : Nat) : Int)) (fun i => .int ((1 + i : Nat) : Int)) (fun i => decide (lwdet (1 + i) ((F.take (1 + i)).map (List.take (1 + i))) < 1)) (ei_rng2N (a := 1) (b := n + 1) (ea_cons ev_int (ea_cons (EvD.is (ev_op (ev_var rfl) ev_int rv_II) rfl) ea_nil)) (by omega) (by omega)) (by rw [List.length_range]; omega) (fun i a ha => ?_)) ?_)) (EvL.toD (EvL.is (es := [].map .int) (ev_lst ea_nil (by decide)) rfl)) (rv_eqD (dpo_intL _) (dpo_intL []) ((lay_ints _).shp (by decide)) ((lay_ints []).shp (by decide)))) ?_) hrt hR)
    · obtain ⟨hi, rfl⟩ := rng_get ha
      refine ⟨_, _, by simp, tg_name, et_test (ev_op (ev_law_worth (m := 1 + a) (F := (F.take (1 + a)).map (List.take (1 + a))) (ea_cons (EvL.toD (EvL.is (el_mapA (F.take (1 + a)) pt (fun r => pt (r.take (1 + a))) (ei_tup (EvD.is (ev_takeT (k := 1 + a) (ds := F.map pt) (ev_var rfl) (ev_var rfl)) (by rw [List.map_take]))) ?_ (fun j q hq => ?_)) ?_)) ea_nil) (hm.lead (by omega)) (by omega)) ev_int rv_IB), fun _ => ev_var rfl⟩
      · rw [List.length_take]; omega
      · refine ⟨_, _, by simp, tg_name, EvD.is (ev_takeT (k := 1 + a) (ds := q.map .int) (ev_var rfl) (ev_var rfl)) ?_⟩
        rw [← List.map_take]
        rfl
      · rw [List.map_map]
        rfl
    · rw [List.map_map]
      rfl
    · rw [eqv_ints]
      unfold tellsM
      refine congrArg PyData.bool (decide_eq_decide.mpr ⟨fun e => ?_, fun e => by rw [e]; rfl⟩)
      exact List.map_eq_nil_iff.mp e
theorem ev_law_tells {n : Nat} {F : List (List Int)} (h : EvA K tA ρ M [fm F]) (h1 : 1 ≤ n) (h3 : n ≤ 3) (hF : Mx n F) (hs : ∀ i j, i < n → j < n → ent F i j = ent F j i) : EvD K (tCall (spF K S_law_tells) [] E0 tA) ρ M (.bool (tellsM n F)) := ev_call h fun R r => ⟨n, F, rfl, h1, h3, hF, hs, r⟩
end
end Lc

namespace Lc
open PySem PySem.Spec PyProof.Rows L2 RZ

/-! ### _law_form, _law_small -/
structure LF (n : Nat) (F : List (List Int)) : Prop where
  fo : IsF n F
  bd : ∀ r ∈ F, ∀ x ∈ r, x.natAbs ≤ 89
def okF (n : Nat) (F : List (List Int)) : Bool := decide (1 ≤ n) && decide (n ≤ 3) && decide (F.length = n) && F.all (fun r => decide (r.length = n) && r.all fun x => decide (x.natAbs ≤ 89)) &&
  (List.range n).all (fun i => (List.range n).all fun j => decide (ent F i j = ent F j i)) && (List.range n).all fun m => decide (0 < wdet (m + 1) ((F.take (m + 1)).map (List.take (m + 1))))
theorem okF_LF {n : Nat} {F : List (List Int)} (h : okF n F = true) : LF n F := by
  unfold okF at h
  simp only [Bool.and_eq_true, decide_eq_true_eq, List.all_eq_true] at h
  obtain ⟨⟨⟨⟨⟨h1, h2⟩, h3⟩, h4⟩, h5⟩, h6⟩ := h
  refine ⟨⟨h1, h2, ⟨h3, fun r hr => (h4 r hr).1, fun r hr x hx => pw_le (n := 7) (Nat.lt_of_le_of_lt ((h4 r hr).2 x hx) (by decide)) (by decide)⟩, fun i j hi hj => h5 i (List.mem_range.mpr hi) j (List.mem_range.mpr hj), fun m hm1 hm2 => ?_⟩, fun r hr x hx => (h4 r hr).2 x hx⟩
  have := h6 (m - 1) (List.mem_range.mpr (by omega))
  rw [show m - 1 + 1 = m by omega] at this
  exact this
theorem mx1 {F : List (List Int)} (h : Mx 1 F) : ∃ a, F = [[a]] := by
  match F, h.len, h.row with
  | [r], _, hr =>
    match r, hr r List.mem_cons_self with
    | [a], _ => exact ⟨a, rfl⟩
theorem mx2 {F : List (List Int)} (h : Mx 2 F) : ∃ a b c d, F = [[a, b], [c, d]] := by
  match F, h.len, h.row with
  | [r, s], _, hr =>
    match r, s, hr r List.mem_cons_self, hr s (List.mem_cons_of_mem _ List.mem_cons_self) with
    | [a, b], [c, d], _, _ => exact ⟨a, b, c, d, rfl⟩
theorem mx3 {F : List (List Int)} (h : Mx 3 F) : ∃ a b c d e f g i j, F = [[a, b, c], [d, e, f], [g, i, j]] := by
  match F, h.len, h.row with
  | [r, s, t], _, hr =>
    match r, s, t, hr r List.mem_cons_self, hr s (List.mem_cons_of_mem _ List.mem_cons_self), hr t (List.mem_cons_of_mem _ (List.mem_cons_of_mem _ List.mem_cons_self)) with
    | [a, b, c], [d, e, f], [g, i, j], _, _, _ => exact ⟨a, b, c, d, e, f, g, i, j, rfl⟩
theorem wdet1 (a : Int) : wdet 1 [[a]] = a := by simp [wdet, wpart, minorR]
theorem wdet2 (a b c d : Int) : wdet 2 [[a, b], [c, d]] = a * d - b * c := by
  simp [wdet, wpart, minorR, cutAt]
  grind
theorem wdet3 (a b c d e f g i j : Int) : wdet 3 [[a, b, c], [d, e, f], [g, i, j]] = a * (e * j - f * i) - b * (d * j - f * g) + c * (d * i - e * g) := by
  simp [wdet, wpart, minorR, cutAt]
  grind
theorem lwdet1 (a : Int) : lwdet 1 [[a]] = a := by simp [lwdet, lwpart, minorR]
theorem lwdet2 (a b c d : Int) : lwdet 2 [[a, b], [c, d]] = a * d - b * c := by
  simp [lwdet, lwpart, minorR, cutAt]
  grind
theorem lwdet3 (a b c d e f g i j : Int) : lwdet 3 [[a, b, c], [d, e, f], [g, i, j]] = a * (e * j - f * i) - b * (d * j - f * g) + c * (d * i - e * g) := by
  simp [lwdet, lwpart, minorR, cutAt]
  grind
theorem lw_eq : ∀ {m : Nat} {F : List (List Int)}, m ≤ 3 → Mx m F → lwdet m F = wdet m F
  | 0, _, _, _ => rfl
  | 1, F, _, h => by
    obtain ⟨a, rfl⟩ := mx1 h
    rw [lwdet1, wdet1]
  | 2, F, _, h => by
    obtain ⟨a, b, c, d, rfl⟩ := mx2 h
    rw [lwdet2, wdet2]
  | 3, F, _, h => by
    obtain ⟨a, b, c, d, e, f, g, i, j, rfl⟩ := mx3 h
    rw [lwdet3, wdet3]
theorem tells_pos {n : Nat} {F : List (List Int)} (h3 : n ≤ 3) (hm : Mx n F) (h : tellsM n F = true) : ∀ m, 1 ≤ m → m ≤ n → 0 < wdet m ((F.take m).map (List.take m)) := fun m h1 h2 => by
  have e := of_decide_eq_true h
  rw [List.filter_eq_nil_iff] at e
  have := e (m - 1) (List.mem_range.mpr (by omega))
  rw [show 1 + (m - 1) = m by omega, decide_eq_true_eq, lw_eq (by omega) (hm.lead h2)] at this
  omega
structure RowOk (n i : Nat) (r : List Int) : Prop where
  len : r.length = n
  off : ∀ j x, r[j]? = some x → j ≠ i → -2 ≤ x ∧ x ≤ 2
  dia : ∀ x, r[i]? = some x → -1 ≤ x ∧ x ≤ 9
structure RowsOk (n : Nat) (L : List (List Int)) : Prop where
  len : L.length = n
  row : ∀ i r, L[i]? = some r → RowOk n i r
def gramM (L : List (List Int)) : List (List Int) := L.map fun u => L.map fun v => dotI u v
theorem prod_le {x y a b : Int} (h1 : x.natAbs ≤ a.natAbs) (h2 : y.natAbs ≤ b.natAbs) : (x * y).natAbs ≤ a.natAbs * b.natAbs := by
  rw [Int.natAbs_mul]
  exact Nat.mul_le_mul h1 h2
theorem dotI_comm : ∀ u v : List Int, dotI u v = dotI v u
  | [], [] => rfl
  | [], _ :: _ => rfl
  | _ :: _, [] => rfl
  | x :: u, y :: v => by
    have := dotI_comm u v
    unfold dotI at *
    rw [List.zip_cons_cons, List.zip_cons_cons, List.map_cons, List.map_cons, List.sum_cons, List.sum_cons, this, Int.mul_comm]
theorem gram_mx {n : Nat} {L : List (List Int)} (h : RowsOk n L) (hs : ∀ r ∈ gramM L, ∀ x ∈ r, x.natAbs ≤ 89) : Mx n (gramM L) := by
  refine ⟨by rw [gramM, List.length_map, h.len], fun r hr => ?_, fun r hr x hx => pw_le (n := 7) (Nat.lt_of_le_of_lt (hs r hr x hx) (by decide)) (by decide)⟩
  obtain ⟨u, _, rfl⟩ := List.mem_map.mp hr
  rw [List.length_map, h.len]
theorem gram_ent {n : Nat} {L : List (List Int)} (h : RowsOk n L) {i j : Nat} (hi : i < n) (hj : j < n) : ent (gramM L) i j = dotI (L.getD i []) (L.getD j []) := by
  have hl := h.len
  unfold ent gramM
  rw [List.getD_eq_getElem?_getD (l := List.map _ L) (i := i), List.getElem?_map, List.getElem?_eq_getElem (by omega)]
  show (L.map fun v => dotI (L[i]'(by omega)) v).getD j 0 = _
  rw [List.getD_eq_getElem?_getD, List.getElem?_map, List.getElem?_eq_getElem (by omega), List.getD_eq_getElem?_getD, List.getElem?_eq_getElem (by omega), List.getD_eq_getElem?_getD, List.getElem?_eq_getElem (by omega)]
  rfl
theorem gram_sym {n : Nat} {L : List (List Int)} (h : RowsOk n L) : ∀ i j, i < n → j < n → ent (gramM L) i j = ent (gramM L) j i := fun i j hi hj => by
  rw [gram_ent h hi hj, gram_ent h hj hi, dotI_comm]
theorem sqle {x : Int} {B : Nat} (h : x.natAbs ≤ B) : (x * x).natAbs ≤ B * B := by
  rw [Int.natAbs_mul]
  exact Nat.mul_le_mul h h
theorem mulle {x y : Int} {B C : Nat} (h : x.natAbs ≤ B) (h2 : y.natAbs ≤ C) : (x * y).natAbs ≤ B * C := by
  rw [Int.natAbs_mul]
  exact Nat.mul_le_mul h h2
theorem gram_bd : ∀ {n : Nat} {L : List (List Int)}, 1 ≤ n → n ≤ 3 → RowsOk n L → ∀ r ∈ gramM L, ∀ x ∈ r, x.natAbs ≤ 89
  | 1, L, _, _, h => by
    match L, h.len, h.row with
    | [r], _, hr =>
      have h0 := hr 0 r rfl
      match r, h0.len with
      | [a], _ =>
        have ha := h0.dia a rfl
        intro r hr x hx
        simp [gramM, dotI] at hr
        subst hr
        simp at hx
        subst hx
        have := sqle (x := a) (B := 9) (by omega)
        omega
  | 2, L, _, _, h => by
    match L, h.len, h.row with
    | [r, s], _, hr =>
      have h0 := hr 0 r rfl
      have h1 := hr 1 s rfl
      match r, s, h0.len, h1.len with
      | [a, b], [c, d], _, _ =>
        have ha := h0.dia a rfl
        have hb := h0.off 1 b rfl (by decide)
        have hc := h1.off 0 c rfl (by decide)
        have hd := h1.dia d rfl
        have k1 := sqle (x := a) (B := 9) (by omega)
        have k2 := sqle (x := b) (B := 2) (by omega)
        have k3 := sqle (x := c) (B := 2) (by omega)
        have k4 := sqle (x := d) (B := 9) (by omega)
        have k5 := mulle (x := a) (y := c) (B := 9) (C := 2) (by omega) (by omega)
        have k6 := mulle (x := b) (y := d) (B := 2) (C := 9) (by omega) (by omega)
        have k7 := mulle (x := c) (y := a) (B := 2) (C := 9) (by omega) (by omega)
        have k8 := mulle (x := d) (y := b) (B := 9) (C := 2) (by omega) (by omega)
        intro r hr x hx
        simp [gramM, dotI] at hr
        rcases hr with rfl | rfl <;> simp at hx <;> rcases hx with rfl | rfl <;> omega
  | 3, L, _, _, h => by
    match L, h.len, h.row with
    | [r, s, t], _, hr =>
      have h0 := hr 0 r rfl
      have h1 := hr 1 s rfl
      have h2 := hr 2 t rfl
      match r, s, t, h0.len, h1.len, h2.len with
      | [a, b, c], [d, e, f], [g, i, j], _, _, _ =>
        have ha := h0.dia a rfl
        have hb := h0.off 1 b rfl (by decide)
        have hc := h0.off 2 c rfl (by decide)
        have hd := h1.off 0 d rfl (by decide)
        have he := h1.dia e rfl
        have hf := h1.off 2 f rfl (by decide)
        have hg := h2.off 0 g rfl (by decide)
        have hi := h2.off 1 i rfl (by decide)
        have hj := h2.dia j rfl
        have n9 : ∀ {x : Int}, -1 ≤ x ∧ x ≤ 9 → x.natAbs ≤ 9 := fun h => by omega
        have n2 : ∀ {x : Int}, -2 ≤ x ∧ x ≤ 2 → x.natAbs ≤ 2 := fun h => by omega
        have dg : ∀ {x y z : Int}, x.natAbs ≤ 9 → y.natAbs ≤ 2 → z.natAbs ≤ 2 → (x * x + (y * y + z * z)).natAbs ≤ 89 ∧ (y * y + (x * x + z * z)).natAbs ≤ 89 ∧ (y * y + (z * z + x * x)).natAbs ≤ 89 := fun hx hy hz => by
          have k1 := sqle hx
          have k2 := sqle hy
          have k3 := sqle hz
          omega
        have of1 : ∀ {x y u v p q : Int}, x.natAbs ≤ 9 → y.natAbs ≤ 9 → u.natAbs ≤ 9 → v.natAbs ≤ 2 → p.natAbs ≤ 2 → q.natAbs ≤ 2 → True := fun _ _ _ _ _ _ => True.intro
        have m92 : ∀ {x y : Int}, x.natAbs ≤ 9 → y.natAbs ≤ 2 → (x * y).natAbs ≤ 18 := fun hx hy => mulle hx hy
        have m29 : ∀ {x y : Int}, x.natAbs ≤ 2 → y.natAbs ≤ 9 → (x * y).natAbs ≤ 18 := fun hx hy => mulle hx hy
        have m22 : ∀ {x y : Int}, x.natAbs ≤ 2 → y.natAbs ≤ 2 → (x * y).natAbs ≤ 18 := fun hx hy => Nat.le_trans (mulle hx hy) (by decide)
        have t3 : ∀ {x y z : Int}, x.natAbs ≤ 18 → y.natAbs ≤ 18 → z.natAbs ≤ 18 → (x + (y + z)).natAbs ≤ 89 := fun hx hy hz => by omega
        intro r hr x hx
        simp [gramM, dotI] at hr
        rcases hr with rfl | rfl | rfl <;> simp at hx <;> rcases hx with rfl | rfl | rfl
        · exact (dg (n9 ha) (n2 hb) (n2 hc)).1
        · exact t3 (m92 (n9 ha) (n2 hd)) (m29 (n2 hb) (n9 he)) (m22 (n2 hc) (n2 hf))
        · exact t3 (m92 (n9 ha) (n2 hg)) (m22 (n2 hb) (n2 hi)) (m29 (n2 hc) (n9 hj))
        · exact t3 (m29 (n2 hd) (n9 ha)) (m92 (n9 he) (n2 hb)) (m22 (n2 hf) (n2 hc))
        · exact (dg (n9 he) (n2 hd) (n2 hf)).2.1
        · exact t3 (m22 (n2 hd) (n2 hg)) (m92 (n9 he) (n2 hi)) (m29 (n2 hf) (n9 hj))
        · exact t3 (m29 (n2 hg) (n9 ha)) (m22 (n2 hi) (n2 hb)) (m92 (n9 hj) (n2 hc))
        · exact t3 (m22 (n2 hg) (n2 hd)) (m29 (n2 hi) (n9 he)) (m92 (n9 hj) (n2 hf))
        · exact (dg (n9 hj) (n2 hg) (n2 hi)).2.2
theorem gram_LF {n : Nat} {L : List (List Int)} (h1 : 1 ≤ n) (h3 : n ≤ 3) (h : RowsOk n L) (ht : tellsM n (gramM L) = true) : LF n (gramM L) := by
  have hb := gram_bd h1 h3 h
  have hm := gram_mx h hb
  exact ⟨⟨h1, h3, hm, gram_sym h, tells_pos h3 hm ht⟩, hb⟩
def diagM (n : Nat) : List (List Int) := (List.range n).map fun (i : Nat) => (List.range n).map fun (j : Nat) => (2 + (i : Int)) * (if decide (((i : Nat) : Int) = (j : Nat)) = true then 1 else 0)
theorem diag_LF : ∀ {n : Nat}, 1 ≤ n → n ≤ 3 → LF n (diagM n)
  | 1, _, _ => okF_LF (by decide)
  | 2, _, _ => okF_LF (by decide)
  | 3, _, _ => okF_LF (by decide)
def SmallI (d : PD) : Prop := ∃ k : Int, d = .int k ∧ -2 ≤ k ∧ k ≤ 2
theorem smalls : ∀ {ds : List PD}, (∀ d ∈ ds, SmallI d) → ∃ ks : List Int, ds = ks.map .int ∧ ∀ k ∈ ks, -2 ≤ k ∧ k ≤ 2
  | [], _ => ⟨[], rfl, fun _ h => nomatch h⟩
  | d :: ds, h => by
    obtain ⟨k, rfl, hk⟩ := h d List.mem_cons_self
    obtain ⟨ks, rfl, hks⟩ := smalls fun x hx => h x (List.mem_cons_of_mem _ hx)
    refine ⟨k :: ks, rfl, fun x hx => ?_⟩
    rcases List.mem_cons.mp hx with e | hx
    · rw [e]; exact hk
    · exact hks x hx
def IsLF (n : Nat) (d : PD) : Prop := ∃ F, d = fm F ∧ LF n F
section
variable {P : Program} {w : World} {K : PySem.W.Frag} {mg : Str → Option Value} {base : Heap} {ρ : List Sl} {M : Mt} {tA : TA} {te tb : TE}

def S_law_form (ds : List PD) (R : PD → Prop) : Prop := ∃ n : Nat, ds = [.int (n : Nat)] ∧ 1 ≤ n ∧ n ≤ 3 ∧ ∀ d, IsLF n d → R d
def rowD (r : List Int) : PD := .list (r.map .int)
abbrev N__law_form : List Str := ["_law_pen_here", "_law_size", "_law_rows", "_law_at", "_law_row", "_law_form_here", "_law_one", "_law_place", "_law_i", "_law_other", "_law_j", "_law_first", "_law_second"]
theorem sc__law_form : FnScope N__law_form ["_law_pen_here", "_law_size"] (defScope s__law_form) := ⟨rfl, rfl, rfl, by decide +kernel, rfl, by decide +kernel, by decide +kernel⟩
theorem ok_law_form (T : Tx K mg) : C8.Cal P w K mg base 6 "_law_form" (spP K S_law_form) [] := by
  have c__law_draw := ok_law_draw (P := P) (w := w) (base := base) T
  have c__law_tells := ok_law_tells (P := P) (w := w) (base := base) T
  refine cal_ofP T.f__law_form (fun _ _ _ _ _ _ us hl => match us, hl with | [_, _], _ => rfl) sc__law_form (fun ds R h => ?_) (fun cdv A outer s H E hr => ⟨_, (pss_cons (ps_set (i := 2) sc__law_form.nd rfl (Or.inl rfl) (pe_lst pa_nil))
      (pss_cons (ps_for PassesOwn.never rfl (pi_range1 (by rfl) T.b_range (pa_cons (pv 1) pa_nil)) (pg_name (i := 3) sc__law_form.nd rfl (Or.inl rfl)) (pss_cons (ps_setLc (i := 4) (own := [("_law_place", 7)]) (g := (gName 7)) (tt := tYes) rfl sc__law_form.nd rfl rfl (sw_true rfl rfl rfl (by decide +kernel)) (pi_range1 (by rfl) T.b_range (pa_cons (pv 1) pa_nil)) (blkOk_by (own := [("_law_place", 7)]) (N := N__law_form) (sc := (defScope s__law_form)) (by decide +kernel)) (fun _ _ _ _ _ => (pg_name (i := 7) sc__law_form.nd rfl (Or.inl rfl))) (fun _ _ _ _ _ => pts_nil) (fun _ _ _ _ _ => (pe_op op_sub (C8.pe_c c__law_draw hr (by first | decide | omega) (by rfl) (pa_cons (pv 0) (pa_cons pe_int pa_nil))) pe_int)))
        (pss_cons (ps_asg (pe_op op_add (pe_ix (ix_listK (K := K) rfl) (pv 4) (pv 3) (fun _ _ => rfl)) (pe_ix (ix_listK (K := K) rfl) (pe_lst (pa_cons pe_int (pa_cons pe_int (pa_cons pe_int pa_nil)))) (C8.pe_c c__law_draw hr (by first | decide | omega) (by rfl) (pa_cons (pv 0) (pa_cons pe_int pa_nil))) (fun _ _ => rfl))) (pg_sub (pv 4) (pv 3) set_list))
        (pss_one (ps_expr (pe_bmK (K := K) rfl PySem.F.plainAttrs_list PySem.F.slot_list_append PySem.F.type_list_append mt_append (pv 2) (pa_cons (pv 4) pa_nil)))))))
      (pss_cons (ps_set (i := 5) sc__law_form.nd rfl (Or.inl rfl) (pe_lst pa_nil))
      (pss_cons (ps_for PassesOwn.never rfl (pi_listK (K := K) rfl (pv 2)) (pg_name (i := 6) sc__law_form.nd rfl (Or.inr rfl)) (pss_one (ps_expr (pe_bmK (K := K) rfl PySem.F.plainAttrs_list PySem.F.slot_list_append PySem.F.type_list_append mt_append (pv 5) (pa_cons (pe_callTy (tupK (K := K) rfl) (by rfl) T.b_tuple (by decide +kernel) (pa_cons (pe_lc (own := [("_law_other", 9)]) (g := (gName 9)) (tt := tYes) rfl sc__law_form.nd (pi_listK (K := K) rfl (pv 2)) (blkOk_by (own := [("_law_other", 9)]) (N := N__law_form) (sc := (defScope s__law_form)) (by decide +kernel)) (fun _ _ _ _ _ => (pg_name (i := 9) sc__law_form.nd rfl (Or.inl rfl))) (fun _ _ _ _ _ => pts_nil) (fun _ _ _ _ _ => (pe_callB (sumK (K := K) rfl rfl) (by rfl) T.b_sum (by decide +kernel) (pa_cons (pe_lc (own := [("_law_first", 11), ("_law_second", 12)]) (g := (gTup K 2 (gCons (gName 11) (gCons (gName 12) gNil)))) (tt := tYes) rfl sc__law_form.nd (pi_zipK (K := K) rfl (by rfl) T.b_zip (pa_cons (pv 6) (pa_cons (pv 9) pa_nil))) (blkOk_by (own := [("_law_first", 11), ("_law_second", 12)]) (N := N__law_form) (sc := (relS _ (defScope s__law_form))) (by decide +kernel)) (fun _ _ _ _ _ => (pg_tupK (K := K) rfl rfl (pgs_cons (pg_name (i := 11) sc__law_form.nd rfl (Or.inl rfl)) (pgs_cons (pg_name (i := 12) sc__law_form.nd rfl (Or.inl rfl)) pgs_nil)))) (fun _ _ _ _ _ => pts_nil) (fun _ _ _ _ _ => (pe_op op_mulW (pv 11) (pv 12)))) pa_nil)))) pa_nil)) pa_nil)))))
      (pss_cons (ps_if (pt_val (C8.pe_c c__law_tells hr (by first | decide | omega) (by rfl) (pa_cons (pe_callTy (tupK (K := K) rfl) (by rfl) T.b_tuple (by decide +kernel) (pa_cons (pv 5) pa_nil)) pa_nil))) (pss_one (ps_ret (pe_callTy (tupK (K := K) rfl) (by rfl) T.b_tuple (by decide +kernel) (pa_cons (pv 5) pa_nil)))) pss_nil)
      (pss_one (ps_ret (pe_callTy (tupK (K := K) rfl) (by rfl) T.b_tuple (by decide +kernel) (pa_cons (pe_lc (own := [("_law_i", 8)]) (g := (gName 8)) (tt := tYes) rfl sc__law_form.nd (pi_range1 (by rfl) T.b_range (pa_cons (pv 1) pa_nil)) (blkOk_by (own := [("_law_i", 8)]) (N := N__law_form) (sc := (defScope s__law_form)) (by decide +kernel)) (fun _ _ _ _ _ => (pg_name (i := 8) sc__law_form.nd rfl (Or.inr rfl))) (fun _ _ _ _ _ => pts_nil) (fun _ _ _ _ _ => (pe_callTy (tupK (K := K) rfl) (by rfl) T.b_tuple (by decide +kernel) (pa_cons (pe_lc (own := [("_law_j", 10)]) (g := (gName 10)) (tt := tYes) rfl sc__law_form.nd (pi_range1 (by rfl) T.b_range (pa_cons (pv 1) pa_nil)) (blkOk_by (own := [("_law_j", 10)]) (N := N__law_form) (sc := (relS _ (defScope s__law_form))) (by decide +kernel)) (fun _ _ _ _ _ => (pg_name (i := 10) sc__law_form.nd rfl (Or.inl rfl))) (fun _ _ _ _ _ => pts_nil) (fun _ _ _ _ _ => (pe_op op_mulW (pe_op op_add pe_int (pv 8)) (pe_callTy call_int1 (by rfl) T.b_int (by decide +kernel) (pa_cons (pe_cmpR op_eq (pv 8) (pv 10) (nomark _)) pa_nil))))) pa_nil)))) pa_nil))))))))), fun G p ds vs R kr hGH hds hS hrt y f => ?_⟩)
  · obtain ⟨n, rfl, _⟩ := h
    rfl
  · obtain ⟨n, rfl, h1, h3, hR⟩ := hS
    refine st_seq (st_newM (ev_lst ea_nil (by decide)) fun q => ?_)
    refine Nx.perm (List.Perm.swap _ _ []) ?_
    refine st_seq (st_forS (S := List (List Int) × Int × Int) (fun i s => s.1.length = i ∧ ∀ k r, s.1[k]? = some r → RowOk n k r) (fun s => [.r p, .d (.int (n : Nat)), .r q, .no, .no, .no, .no, .no, .no, .no, .no, .no, .no]) (fun s => [(p, pn s.2.1 s.2.2), (q, s.1.map rowD)]) ([], y, f) (ei_rng1N (n := n) (ea_cons (ev_var rfl) ea_nil) (by omega)) ⟨rfl, fun k r h => by simp at h⟩ (by repeat' (first | exact True.intro | exact Or.inr rfl | exact Or.inl rfl | refine And.intro ?_ ?_)) rfl (fun A i d st hd hI N hN => ?_) (fun st hI => ?_))
    · obtain ⟨i', hi, rfl⟩ := map_getA hd
      obtain ⟨hi, rfl⟩ := rng_get hi
      obtain ⟨L, x, f⟩ := st
      obtain ⟨hLl, hLr⟩ := hI
      simp only at hLl hLr
      refine ⟨_, _, tg_name, st_seq (st_setLcX (R := SmallI) (M := [(q, L.map rowD)]) (items := (List.range n).map fun i => .int (i : Nat)) (fun x f => ei_rng1N (n := n) (ea_cons (ev_var rfl) ea_nil) (by omega)) (by rw [List.length_map, List.length_range]; omega) (fun j d hd => ?_) (fun b ds hl hds x f => ?_) x f)⟩
      · obtain ⟨j', hj, rfl⟩ := map_getA hd
        refine ⟨_, _, by simp, tg_name, fun M' => ex_op (ex_draw (m := 5) rfl (ex_ev fun x f => ev_int) (by decide) (by decide)) (ex_ev fun x f => ev_int (i := 2)) fun d1 d2 r1 r2 => ?_⟩
        obtain ⟨k, rfl, k0, k1⟩ := r1
        subst r2
        exact ⟨_, rv_II, _, rfl, by omega, by omega⟩
      obtain ⟨ks, rfl, hks⟩ := smalls hds
      rw [List.length_map, List.length_map, List.length_range] at hl
      obtain ⟨c, hc⟩ : ∃ c, ks[i']? = some c := ⟨ks[i']'(by omega), List.getElem?_eq_getElem (by omega)⟩
      have hcb := hks c (List.mem_of_getElem? hc)
      refine st_seq (st_setIX (i := 4) (k := ((i' : Nat) : Int)) (j := i') (M := [(q, L.map rowD)]) (R := fun d => ∃ k : Int, d = .int k ∧ -1 ≤ k ∧ k ≤ 9) rfl (ex_op (R1 := fun d => d = .int c) (ex_ev fun x f => ev_ixM rfl (List.mem_cons_of_mem _ List.mem_cons_self) (ev_var rfl) (atI_nat (pt_get hc))) (ex_op (R := fun d => d = .int 3 ∨ d = .int 1 ∨ d = .int 7) (R1 := fun d => d = .list [.int 3, .int 1, .int 7]) (ex_ev fun x f => EvL.toD (ev_lst (ea_cons ev_int (ea_cons ev_int (ea_cons ev_int ea_nil))) (by decide))) (ex_draw (m := 3) rfl (ex_ev fun x f => ev_int) (by decide) (by decide)) fun d1 d2 r1 r2 => ?_) fun d1 d2 r1 r2 => ?_) (fun x f => ev_var rfl) (by rw [List.length_map]; exact ixN_nat (by omega)) (fun d hd x f => ?_) x f)
      · obtain ⟨k, rfl, k0, k1⟩ := r2
        subst r1
        have : k = 0 ∨ k = 1 ∨ k = 2 := by omega
        rcases this with rfl | rfl | rfl
        · exact ⟨.int 3, rv_ixL rfl, .inl rfl⟩
        · exact ⟨.int 1, rv_ixL rfl, .inr (.inl rfl)⟩
        · exact ⟨.int 7, rv_ixL rfl, .inr (.inr rfl)⟩
      · subst r1
        rcases r2 with rfl | rfl | rfl
        · exact ⟨_, rv_II, _, rfl, by omega, by omega⟩
        · exact ⟨_, rv_II, _, rfl, by omega, by omega⟩
        · exact ⟨_, rv_II, _, rfl, by omega, by omega⟩
      obtain ⟨k, rfl, k0, k1⟩ := hd
      have e1 : (ks.map PyData.int).set i' (.int k) = (ks.set i' k).map .int := by rw [List.map_set]
      rw [e1]
      refine Nx.perm (List.Perm.swap _ _ _) (Nx.frz 4 rfl (Nx.perm (List.Perm.swap _ _ _) ?_))
      refine st_append (i := 2) (d := rowD (ks.set i' k)) rfl (ev_var rfl) (by rw [List.length_map]; omega) (Nx.perm (List.Perm.swap _ _ _) ?_)
      have hNn := hN (L ++ [ks.set i' k], x, f) ⟨by rw [List.length_append]; simp; omega, fun m r hm => ?_⟩
      · have e2 : (L ++ [ks.set i' k]).map rowD = L.map rowD ++ [rowD (ks.set i' k)] := by rw [List.map_append]; rfl
        simp only [e2] at hNn
        exact hNn.wkn (by repeat' (first | exact True.intro | exact Or.inr rfl | exact Or.inl rfl | refine And.intro ?_ ?_))
      · by_cases hml : m < L.length
        · rw [List.getElem?_append_left hml] at hm
          exact hLr m r hm
        · have hmi : m = i' := by
            have := (List.getElem?_eq_some_iff.mp hm).1
            rw [List.length_append] at this
            simp at this
            omega
          subst hmi
          rw [List.getElem?_append_right (by omega), hLl, Nat.sub_self] at hm
          have : ks.set m k = r := Option.some.inj hm
          subst this
          refine ⟨by rw [List.length_set]; exact hl, fun j z hj hne => ?_, fun z hz => ?_⟩
          · rw [List.getElem?_set_ne (Ne.symm hne)] at hj
            exact hks z (List.mem_of_getElem? hj)
          · rw [List.getElem?_set_self (by omega)] at hz
            have := Option.some.inj hz
            omega
    · obtain ⟨L, x, f⟩ := st
      obtain ⟨hLl, hLr⟩ := hI
      simp only at hLl hLr
      rw [List.length_map, List.length_range] at hLl
      have hok : RowsOk n L := ⟨hLl, hLr⟩
      have hgb := gram_bd h1 h3 hok
      have hgm := gram_mx hok hgb
      have hgl : (gramM L).length = n := hgm.len
      refine Nx.perm (List.Perm.swap _ _ _) (Nx.frz 2 rfl ?_)
      refine st_seq (st_newM (ev_lst ea_nil (by decide)) fun q5 => ?_)
      refine st_seq (st_for (fun i => [.r p, .d (.int (n : Nat)), .d (.list (L.map rowD)), .no, .no, .r q5, .no, .no, .no, .no, .no, .no, .no]) (fun i => [(q5, ((gramM L).take i).map pt), (p, pn x f)]) (ei_list (ev_var rfl)) (by repeat' (first | exact True.intro | exact Or.inr rfl | exact Or.inl rfl | refine And.intro ?_ ?_)) rfl (fun A i d hd N hN => ?_) ?_)
      · obtain ⟨u, hu, rfl⟩ := map_getA hd
        have hul := (hLr i u hu).len
        have hbu : ∀ {i : Nat} {u : List Int}, L[i]? = some u → ∀ z ∈ u, z.natAbs < 2 ^ 40 := fun hu z hz => by
          obtain ⟨j, hj⟩ := List.mem_iff_getElem?.mp hz
          have ho := hLr _ _ hu
          show _ < 1099511627776
          rename_i i u
          by_cases hji : j = i
          · subst hji
            have := ho.dia z hj
            omega
          · have := ho.off j z hj hji
            omega
        have hgi : (gramM L)[i]? = some (L.map fun v => dotI u v) := by unfold gramM; rw [List.getElem?_map, hu]; rfl
        have e2 : ((gramM L).take (i + 1)).map pt = ((gramM L).take i).map pt ++ [pt (L.map fun v => dotI u v)] := by
          rw [List.take_add_one, hgi, Option.toList_some, List.map_append]
          rfl
        rw [e2] at hN
        refine ⟨_, _, tg_name, st_append (i := 5) (d := pt (L.map fun v => dotI u v)) rfl (EvD.is (ev_cb (ea_cons (EvL.toD (el_mapA L rowD (fun v => .int (dotI u v)) (ei_list (ev_var rfl)) (by omega) (fun j v hv => ?_))) ea_nil) rc_tupL) ?_) (by rw [List.length_map, List.length_take]; omega) (hN.wkn (by repeat' (first | exact True.intro | exact Or.inr rfl | exact Or.inl rfl | refine And.intro ?_ ?_)))⟩
        · have hvl := (hLr j v hv).len
          refine ⟨_, _, by simp, tg_name, ev_cb (ea_cons (EvL.toD (EvL.is (es := ((List.zip u v).map fun q => q.1 * q.2).map .int) (el_mapA (List.zip u v) (fun q => .tuple [.int q.1, .int q.2]) (fun q => .int (q.1 * q.2)) (EvI.is (ei_zipL (ea_cons (ev_var (d := .list (u.map .int)) rfl) (ea_cons (ev_var (d := .list (v.map .int)) rfl) ea_nil))) (zpD_map u v .int .int)) (by rw [List.length_zip]; omega) (fun m z hz => ?_)) ?_)) ea_nil) rc_sum⟩
          · have hm := List.mem_of_getElem? hz
            exact ⟨_, _, by simp, tg_tup (tgs_cons tg_name (tgs_cons tg_name tgs_nil)) rfl, ev_op (ev_var rfl) (ev_var rfl) (rv_IC (cmul (hbu hu _ (List.of_mem_zip hm).1) (hbu hv _ (List.of_mem_zip hm).2) (by decide)))⟩
          · rw [List.map_map]
            rfl
        · unfold pt
          rw [List.map_map]
          rfl
      · have e5 : ((gramM L).take (L.map rowD).length).map pt = (gramM L).map pt := by rw [List.length_map, hLl, ← hgl, List.take_length]
        rw [e5]
        refine Nx.frz 5 rfl ?_
        refine st_seq (st_if (et_test (ev_law_tells (n := n) (F := gramM L) (ea_cons (ev_cb (ea_cons (ev_var rfl) ea_nil) rc_tupL) ea_nil) h1 h3 hgm (gram_sym hok))) (fun e => ?_) (fun e => ?_))
        · refine st_retX (M := []) (R := IsLF n) (EvX.mono (ex_ev fun x f => ev_cb (ea_cons (ev_var rfl) ea_nil) rc_tupL) fun d hd => ⟨gramM L, hd, gram_LF h1 h3 hok e⟩) ?_ x f
          exact fun v d x f G' H' st h hv e => hrt v d x f G' H' st h hv (hR _ e)
        · refine st_nil ?_
          refine st_retX (M := []) (R := IsLF n) (EvX.mono (ex_ev (d := fm (diagM n)) fun x f => ev_cb (ea_cons (EvL.toD (EvL.is (es := (diagM n).map pt) (el_mapA (List.range n) (fun i => .int (i : Nat)) (fun (i : Nat) => pt ((List.range n).map fun (j : Nat) => (2 + (i : Int)) * (if decide (((i : Nat) : Int) = (j : Nat)) = true then 1 else 0))) (ei_rng1N (n := n) (ea_cons (ev_var rfl) ea_nil) (by omega)) (by rw [List.length_range]; omega) (fun m i hi => ?_)) ?_)) ea_nil) rc_tupL) fun d hd => ⟨diagM n, hd, diag_LF h1 h3⟩) ?_ x f
          · obtain ⟨hi, rfl⟩ := rng_get hi
            refine ⟨_, _, by simp, tg_name, EvD.is (ev_cb (ea_cons (EvL.toD (el_mapA (List.range n) (fun i => .int (i : Nat)) (fun (j : Nat) => .int ((2 + (i : Int)) * (if decide (((i : Nat) : Int) = (j : Nat)) = true then 1 else 0))) (ei_rng1N (n := n) (ea_cons (ev_var rfl) ea_nil) (by omega)) (by rw [List.length_range]; omega) (fun m j hj => ?_))) ea_nil) rc_tupL) ?_⟩
            · obtain ⟨hj, rfl⟩ := rng_get hj
              refine ⟨_, _, by simp, tg_name, ev_op (ev_op ev_int (ev_var rfl) rv_II) (ev_cb (ea_cons (ev_op (ev_var rfl) (ev_var rfl) rv_eq) ea_nil) rc_intB) (rv_IC (cmul (a := 20) (b := 20) ?_ ?_ (by decide)))⟩
              · show _ < 1048576
                omega
              · show _ < 1048576
                split <;> decide
            · unfold pt
              rw [List.map_map]
              rfl
          · unfold diagM
            rw [List.map_map]
            rfl
          · exact fun v d x f G' H' st h hv e => hrt v d x f G' H' st h hv (hR _ e)
theorem ex_form {B : Bs} {p : Addr} {i n : Nat} (hi : ρ[i]? = some (.r p)) (h : EvX K B te ρ M p (fun d => d = .int (n : Nat))) (h1 : 1 ≤ n) (h3 : n ≤ 3) : EvX K B (tCall (spP K S_law_form) [] E0 (tCons (tVar i) (tCons te tNil))) ρ M p (IsLF n) :=
  ex_callP (RA := fun ds => ds = [.int (n : Nat)]) hi (exa_cons h exa_nil fun d ds h1 h2 => by rw [h1, h2]) fun ds e R' w => ⟨n, e, h1, h3, w⟩
end
end Lc

namespace Lc
open PySem PySem.Spec PyProof.Rows L2 RZ

/-! ### _law_small -/
def fs1 : List (List (List Int)) := [[[1]], [[2]], [[5]]]
def fs2a : List (List (List Int)) := [[[1, 0], [0, 1]], [[2, 1], [1, 2]], [[1, 0], [0, 3]], [[2, -1], [-1, 5]], [[3, 4], [4, 6]]]
def fs2b : List (List (List Int)) := [[[2, 1], [1, 3]], [[4, 2], [2, 4]], [[3, 1], [1, 3]]]
def fs3a : List (List (List Int)) := [[[1, 0, 0], [0, 1, 0], [0, 0, 1]], [[2, 1, 1], [1, 2, 1], [1, 1, 2]]]
def fs3b : List (List (List Int)) := [[[1, 0, 0], [0, 2, 1], [0, 1, 2]], [[3, -1, -1], [-1, 3, -1], [-1, -1, 3]]]
def fs3c : List (List Int) := [[2, 0, 1], [0, 2, 1], [1, 1, 3]]
theorem all_LF {n : Nat} {fs : List (List (List Int))} (h : fs.all (okF n) = true) : ∀ F ∈ fs, LF n F := fun F hF => okF_LF (List.all_eq_true.mp h F hF)
section
variable {P : Program} {w : World} {K : PySem.W.Frag} {mg : Str → Option Value} {base : Heap} {ρ : List Sl} {M : Mt} {tA : TA} {te tb : TE}

theorem e2 {a b : Int} {ta tb : TE} (h1 : EvD K ta ρ M (.int a)) (h2 : EvD K tb ρ M (.int b)) : EvD K (tTup (tCons ta (tCons tb tNil))) ρ M (pt [a, b]) := ev_tup (ea_cons h1 (ea_cons h2 ea_nil)) (by simp)
theorem e3 {a b c : Int} {ta tb tc : TE} (h1 : EvD K ta ρ M (.int a)) (h2 : EvD K tb ρ M (.int b)) (h3 : EvD K tc ρ M (.int c)) : EvD K (tTup (tCons ta (tCons tb (tCons tc tNil)))) ρ M (pt [a, b, c]) := ev_tup (ea_cons h1 (ea_cons h2 (ea_cons h3 ea_nil))) (by simp)
theorem f1 {a : Int} {ta : TE} (h1 : EvD K ta ρ M (.int a)) : EvD K (tTup (tCons (tTup (tCons ta tNil)) tNil)) ρ M (fm [[a]]) := ev_tup (ea_cons (ev_tup (ea_cons h1 ea_nil) (by simp)) ea_nil) (by simp)
theorem f2 {r s : List Int} {ta tb : TE} (h1 : EvD K ta ρ M (pt r)) (h2 : EvD K tb ρ M (pt s)) : EvD K (tTup (tCons ta (tCons tb tNil))) ρ M (fm [r, s]) := ev_tup (ea_cons h1 (ea_cons h2 ea_nil)) (by simp)
theorem f3 {r s t : List Int} {ta tb tc : TE} (h1 : EvD K ta ρ M (pt r)) (h2 : EvD K tb ρ M (pt s)) (h3 : EvD K tc ρ M (pt t)) : EvD K (tTup (tCons ta (tCons tb (tCons tc tNil)))) ρ M (fm [r, s, t]) := ev_tup (ea_cons h1 (ea_cons h2 (ea_cons h3 ea_nil))) (by simp)
def S_law_small (ds : List PD) (R : PD → Prop) : Prop := ∃ n : Nat, ds = [.int (n : Nat)] ∧ 1 ≤ n ∧ n ≤ 3 ∧ ∀ d, IsLF n d → R d
/-- the last line: one of the list, or a new one -/
theorem small_end {B : Bs} {p : Addr} {n : Nat} {fs : List (List (List Int))} (h1 : 1 ≤ n) (h3 : n ≤ 3) (h0 : ρ[0]? = some (.r p)) (hn : ρ[1]? = some (.d (.int (n : Nat)))) (h2 : ρ[2]? = some (.d (.list (fs.map fm)))) (hf : ∀ F ∈ fs, LF n F) (hl : fs.length ≤ 100) :
    EvX K B (tOp (rIxL K) (tOp rCat (tVar 2) (tLst (tCons (tCall (spP K S_law_form) [] E0 (tCons (tVar 0) (tCons (tVar 1) tNil))) tNil))) (tCall (spP K S_law_draw) [] E0 (tCons (tVar 0) (tCons (tOp (rI0 fun i j => .int (i + j)) (tCB (rLenQ K) (tCons (tVar 2) tNil)) (tC (.int 1))) tNil)))) ρ M p (IsLF n) := by
  refine ex_op (R1 := fun d => ∃ F, d = .list ((fs ++ [F]).map fm) ∧ LF n F) (Rz := InR ((fs.length : Int) + 1)) (ex_op (R1 := fun d => d = .list (fs.map fm)) (Rz := fun d => ∃ ds, d = .list ds ∧ ∃ F, ds = [fm F] ∧ LF n F) (ex_ev fun x f => ev_var h2) (ex_lst (RA := fun ds => ∃ F, ds = [fm F] ∧ LF n F) (exa_cons (ex_form h0 (ex_ev fun x f => ev_var hn) h1 h3) exa_nil fun d ds r1 r2 => ?_) fun ds r => ?_) fun d1 d2 r1 r2 => ?_) (ex_draw (m := (fs.length : Int) + 1) h0 (ex_ev fun x f => ev_op (EvD.is (ev_cb (ea_cons (ev_var h2) ea_nil) (rc_lenL (ds := fs.map fm))) (congrArg (fun k : Nat => PyData.int (k : Nat)) (List.length_map _))) ev_int rv_II) (by omega) (by omega)) fun d1 d2 r1 r2 => ?_
  · obtain ⟨F, rfl, hF⟩ := r1
    exact ⟨F, by rw [r2], hF⟩
  · obtain ⟨F, rfl, _⟩ := r
    simp
  · obtain ⟨ds, rfl, F, rfl, hF⟩ := r2
    subst r1
    exact ⟨_, RvL.toD (rv_catL (by rw [List.length_map]; simp; omega)), F, by rw [List.map_append]; rfl, hF⟩
  · obtain ⟨F, rfl, hF⟩ := r1
    obtain ⟨k, rfl, k0, k1⟩ := r2
    obtain ⟨m, rfl⟩ : ∃ m : Nat, k = (m : Int) := ⟨k.toNat, by omega⟩
    have hm : m < (fs ++ [F]).length := by rw [List.length_append]; simp; omega
    refine ⟨fm ((fs ++ [F])[m]), rv_ixLn (by rw [List.getElem?_map, List.getElem?_eq_getElem hm]; rfl), _, rfl, ?_⟩
    have := List.getElem_mem hm
    rcases List.mem_append.mp this with h | h
    · exact hf _ h
    · have e : (fs ++ [F])[m] = F := by simpa using h
      rw [e]
      exact hF
abbrev N__law_small : List Str := ["_law_pen_here", "_law_size", "_law_some"]
theorem sc__law_small : FnScope N__law_small ["_law_pen_here", "_law_size"] (defScope s__law_small) := ⟨rfl, rfl, rfl, by decide +kernel, rfl, by decide +kernel, by decide +kernel⟩
theorem ok_law_small (T : Tx K mg) : C8.Cal P w K mg base 7 "_law_small" (spP K S_law_small) [] := by
  have c__law_draw := ok_law_draw (P := P) (w := w) (base := base) T
  have c__law_form := ok_law_form (P := P) (w := w) (base := base) T
  refine cal_ofP T.f__law_small (fun _ _ _ _ _ _ us hl => match us, hl with | [_, _], _ => rfl) sc__law_small (fun ds R h => ?_) (fun cdv A outer s H E hr => ⟨_, (pss_cons (ps_set (i := 2) sc__law_small.nd rfl (Or.inl rfl) (pe_lst (pa_cons (pe_tup (pa_cons (pe_tup (pa_cons pe_int pa_nil)) pa_nil)) (pa_cons (pe_tup (pa_cons (pe_tup (pa_cons pe_int pa_nil)) pa_nil)) (pa_cons (pe_tup (pa_cons (pe_tup (pa_cons pe_int pa_nil)) pa_nil)) pa_nil)))))
      (pss_cons (ps_if (pt_cmpR op_eq (pv 1) pe_int (nomark _)) (pss_cons (ps_set (i := 2) sc__law_small.nd rfl (Or.inl rfl) (pe_lst (pa_cons (pe_tup (pa_cons (pe_tup (pa_cons pe_int (pa_cons pe_int pa_nil))) (pa_cons (pe_tup (pa_cons pe_int (pa_cons pe_int pa_nil))) pa_nil))) (pa_cons (pe_tup (pa_cons (pe_tup (pa_cons pe_int (pa_cons pe_int pa_nil))) (pa_cons (pe_tup (pa_cons pe_int (pa_cons pe_int pa_nil))) pa_nil))) (pa_cons (pe_tup (pa_cons (pe_tup (pa_cons pe_int (pa_cons pe_int pa_nil))) (pa_cons (pe_tup (pa_cons pe_int (pa_cons pe_int pa_nil))) pa_nil))) (pa_cons (pe_tup (pa_cons (pe_tup (pa_cons pe_int (pa_cons (pe_un un_neg pe_int) pa_nil))) (pa_cons (pe_tup (pa_cons (pe_un un_neg pe_int) (pa_cons pe_int pa_nil))) pa_nil))) (pa_cons (pe_tup (pa_cons (pe_tup (pa_cons pe_int (pa_cons pe_int pa_nil))) (pa_cons (pe_tup (pa_cons pe_int (pa_cons pe_int pa_nil))) pa_nil))) pa_nil)))))))
        (pss_one (ps_set (i := 2) sc__law_small.nd rfl (Or.inl rfl) (pe_op op_cat (pv 2) (pe_lst (pa_cons (pe_tup (pa_cons (pe_tup (pa_cons pe_int (pa_cons pe_int pa_nil))) (pa_cons (pe_tup (pa_cons pe_int (pa_cons pe_int pa_nil))) pa_nil))) (pa_cons (pe_tup (pa_cons (pe_tup (pa_cons pe_int (pa_cons pe_int pa_nil))) (pa_cons (pe_tup (pa_cons pe_int (pa_cons pe_int pa_nil))) pa_nil))) (pa_cons (pe_tup (pa_cons (pe_tup (pa_cons pe_int (pa_cons pe_int pa_nil))) (pa_cons (pe_tup (pa_cons pe_int (pa_cons pe_int pa_nil))) pa_nil))) pa_nil)))))))) pss_nil)
      (pss_cons (ps_if (pt_cmpR op_eq (pv 1) pe_int (nomark _)) (pss_cons (ps_set (i := 2) sc__law_small.nd rfl (Or.inl rfl) (pe_lst (pa_cons (pe_tup (pa_cons (pe_tup (pa_cons pe_int (pa_cons pe_int (pa_cons pe_int pa_nil)))) (pa_cons (pe_tup (pa_cons pe_int (pa_cons pe_int (pa_cons pe_int pa_nil)))) (pa_cons (pe_tup (pa_cons pe_int (pa_cons pe_int (pa_cons pe_int pa_nil)))) pa_nil)))) (pa_cons (pe_tup (pa_cons (pe_tup (pa_cons pe_int (pa_cons pe_int (pa_cons pe_int pa_nil)))) (pa_cons (pe_tup (pa_cons pe_int (pa_cons pe_int (pa_cons pe_int pa_nil)))) (pa_cons (pe_tup (pa_cons pe_int (pa_cons pe_int (pa_cons pe_int pa_nil)))) pa_nil)))) pa_nil))))
        (pss_cons (ps_set (i := 2) sc__law_small.nd rfl (Or.inl rfl) (pe_op op_cat (pv 2) (pe_lst (pa_cons (pe_tup (pa_cons (pe_tup (pa_cons pe_int (pa_cons pe_int (pa_cons pe_int pa_nil)))) (pa_cons (pe_tup (pa_cons pe_int (pa_cons pe_int (pa_cons pe_int pa_nil)))) (pa_cons (pe_tup (pa_cons pe_int (pa_cons pe_int (pa_cons pe_int pa_nil)))) pa_nil)))) (pa_cons (pe_tup (pa_cons (pe_tup (pa_cons pe_int (pa_cons (pe_un un_neg pe_int) (pa_cons (pe_un un_neg pe_int) pa_nil)))) (pa_cons (pe_tup (pa_cons (pe_un un_neg pe_int) (pa_cons pe_int (pa_cons (pe_un un_neg pe_int) pa_nil)))) (pa_cons (pe_tup (pa_cons (pe_un un_neg pe_int) (pa_cons (pe_un un_neg pe_int) (pa_cons pe_int pa_nil)))) pa_nil)))) pa_nil)))))
        (pss_one (ps_expr (pe_bmK (K := K) rfl PySem.F.plainAttrs_list PySem.F.slot_list_append PySem.F.type_list_append mt_append (pv 2) (pa_cons (pe_tup (pa_cons (pe_tup (pa_cons pe_int (pa_cons pe_int (pa_cons pe_int pa_nil)))) (pa_cons (pe_tup (pa_cons pe_int (pa_cons pe_int (pa_cons pe_int pa_nil)))) (pa_cons (pe_tup (pa_cons pe_int (pa_cons pe_int (pa_cons pe_int pa_nil)))) pa_nil)))) pa_nil)))))) pss_nil)
      (pss_one (ps_ret (pe_ix (ix_listK (K := K) rfl) (pe_op op_cat (pv 2) (pe_lst (pa_cons (C8.pe_c c__law_form hr (by first | decide | omega) (by rfl) (pa_cons (pv 0) (pa_cons (pv 1) pa_nil))) pa_nil))) (C8.pe_c c__law_draw hr (by first | decide | omega) (by rfl) (pa_cons (pv 0) (pa_cons (pe_op op_add (pe_callB (lenK (K := K) rfl) (by rfl) T.b_len (by decide +kernel) (pa_cons (pv 2) pa_nil)) pe_int) pa_nil))) (fun _ _ => rfl))))))), fun G p ds vs R kr hGH hds hS hrt y f => ?_⟩)
  · obtain ⟨n, rfl, _⟩ := h
    rfl
  · obtain ⟨n, rfl, h1, h3, hR⟩ := hS
    have hend : ∀ (fs : List (List (List Int))), (∀ F ∈ fs, LF n F) → fs.length ≤ 100 → ∀ x f, Nx K ⟨G, G, rm H p⟩ (tRet (tOp (rIxL K) (tOp rCat (tVar 2) (tLst (tCons (tCall (spP K S_law_form) [] E0 (tCons (tVar 0) (tCons (tVar 1) tNil))) tNil))) (tCall (spP K S_law_draw) [] E0 (tCons (tVar 0) (tCons (tOp (rI0 fun i j => .int (i + j)) (tCB (rLenQ K) (tCons (tVar 2) tNil)) (tC (.int 1))) tNil)))) { nx := fun x H' => kr V.non H', rt := kr }) [.r p, .d (.int (n : Nat)), .d (.list (fs.map fm))] [(p, pn x f)] := fun fs hf hl x f =>
      st_retX (small_end h1 h3 rfl rfl rfl hf hl) (fun v d x f G' H' st h hv e => hrt v d x f G' H' st h hv (hR _ e)) x f
    refine st_seq (st_set (d := .list (fs1.map fm)) (EvL.toD (ev_lst (ea_cons (f1 ev_int) (ea_cons (f1 ev_int) (ea_cons (f1 ev_int) ea_nil))) (by decide))) ?_)
    have hn : n = 1 ∨ n = 2 ∨ n = 3 := by omega
    rcases hn with rfl | rfl | rfl
    · refine st_seq (st_if (et_test (ev_op (ev_var rfl) ev_int rv_eq)) (fun e => by cases e) (fun e => ?_))
      refine st_nil (st_seq (st_if (et_test (ev_op (ev_var rfl) ev_int rv_eq)) (fun e => by cases e) (fun e => ?_)))
      exact hend fs1 (all_LF (by decide)) (by decide) y f
    · refine st_seq (st_if (et_test (ev_op (ev_var rfl) ev_int rv_eq)) (fun e => ?_) (fun e => by cases e))
      refine st_seq (st_set (d := .list (fs2a.map fm)) (EvL.toD (ev_lst (ea_cons (f2 (e2 ev_int ev_int) (e2 ev_int ev_int)) (ea_cons (f2 (e2 ev_int ev_int) (e2 ev_int ev_int)) (ea_cons (f2 (e2 ev_int ev_int) (e2 ev_int ev_int)) (ea_cons (f2 (e2 ev_int (ev_neg ev_int)) (e2 (ev_neg ev_int) ev_int)) (ea_cons (f2 (e2 ev_int ev_int) (e2 ev_int ev_int)) ea_nil))))) (by decide))) ?_)
      refine st_set (d := .list ((fs2a ++ fs2b).map fm)) (EvD.is (ev_op (ev_var rfl) (EvL.toD (ev_lst (ds := fs2b.map fm) (ea_cons (f2 (e2 ev_int ev_int) (e2 ev_int ev_int)) (ea_cons (f2 (e2 ev_int ev_int) (e2 ev_int ev_int)) (ea_cons (f2 (e2 ev_int ev_int) (e2 ev_int ev_int)) ea_nil))) (by decide))) (RvL.toD (rv_catL (by decide)))) (by rw [List.map_append])) ?_
      refine st_seq (st_if (et_test (ev_op (ev_var rfl) ev_int rv_eq)) (fun e => by cases e) (fun e => ?_))
      exact hend (fs2a ++ fs2b) (all_LF (by decide)) (by decide) y f
    · refine st_seq (st_if (et_test (ev_op (ev_var rfl) ev_int rv_eq)) (fun e => by cases e) (fun e => ?_))
      refine st_nil (st_seq (st_if (et_test (ev_op (ev_var rfl) ev_int rv_eq)) (fun e => ?_) (fun e => by cases e)))
      refine st_seq (st_set (d := .list (fs3a.map fm)) (EvL.toD (ev_lst (ea_cons (f3 (e3 ev_int ev_int ev_int) (e3 ev_int ev_int ev_int) (e3 ev_int ev_int ev_int)) (ea_cons (f3 (e3 ev_int ev_int ev_int) (e3 ev_int ev_int ev_int) (e3 ev_int ev_int ev_int)) ea_nil)) (by decide))) ?_)
      refine st_seq (st_newM (ds := (fs3a ++ fs3b).map fm) (EvL.is (ev_opL (ev_var rfl) (EvL.toD (ev_lst (ds := fs3b.map fm) (ea_cons (f3 (e3 ev_int ev_int ev_int) (e3 ev_int ev_int ev_int) (e3 ev_int ev_int ev_int)) (ea_cons (f3 (e3 ev_int (ev_neg ev_int) (ev_neg ev_int)) (e3 (ev_neg ev_int) ev_int (ev_neg ev_int)) (e3 (ev_neg ev_int) (ev_neg ev_int) ev_int)) ea_nil)) (by decide))) (rv_catL (by decide))) (by rw [List.map_append])) fun q => ?_)
      refine st_append (i := 2) (d := fm fs3c) rfl (f3 (e3 ev_int ev_int ev_int) (e3 ev_int ev_int ev_int) (e3 ev_int ev_int ev_int)) (by decide) ?_
      have e9 : (fs3a ++ fs3b).map fm ++ [fm fs3c] = (fs3a ++ fs3b ++ [fs3c]).map fm := by rw [List.map_append (l₁ := fs3a ++ fs3b)]; rfl
      rw [e9]
      refine Nx.frz 2 rfl ?_
      exact hend (fs3a ++ fs3b ++ [fs3c]) (all_LF (by decide)) (by decide) y f
theorem ex_small {B : Bs} {p : Addr} {i : Nat} {RN : PD → Prop} (hi : ρ[i]? = some (.r p)) {Rz : PD → Prop} (h : EvX K B te ρ M p RN) (hN : ∀ d, RN d → ∃ n : Nat, d = .int (n : Nat) ∧ 1 ≤ n ∧ n ≤ 3 ∧ ∀ e, IsLF n e → Rz e) : EvX K B (tCall (spP K S_law_small) [] E0 (tCons (tVar i) (tCons te tNil))) ρ M p Rz :=
  ex_callP (RA := fun ds => ∃ d, ds = [d] ∧ RN d) hi (exa_cons h exa_nil fun d ds h1 h2 => ⟨d, by rw [h2], h1⟩) fun ds e R' w => by
    obtain ⟨d, rfl, hd⟩ := e
    obtain ⟨n, rfl, h1, h3, h4⟩ := hN d hd
    exact ⟨n, rfl, h1, h3, fun e he => w e (h4 e he)⟩
end
end Lc

namespace Lc
open PySem PySem.Spec PyProof.Rows L2 RZ

/-! ### _law_counts_right, _law_form_right, law -/
def spotL (qs : List Rat) : List (Rat × Int) := (inOrdM qs).map fun q => (q, ((qs.countP fun z => decide (z = q) : Nat) : Int))
def farL (cs : List Int) (b : Nat) : List (Rat × Int) := ((List.range (b + 1)).filter fun l => decide (0 < cs.getD l 0)).map fun (l : Nat) => (((l : Int) : Rat), cs.getD l 0)
def cntM (n : Nat) (F : List (List Int)) (b : Nat) : List Int := tallyM (pbM n F b) b
def bareM (n : Nat) (F : List (List Int)) (b : Nat) : List Int := tallyM ((pbM n F b).filter fun q => bare q.1) b
def srtR (n : Nat) : List (List Int) := (restsM n).mergeSort (PySem.W.dataLe false fun (k : List Int) => PyData.tuple (k.map PyData.int))
structure CROk (n : Nat) (F : List (List Int)) (b : Nat) : Prop where
  b10 : b ≤ 10
  pb : ∀ l, l ≤ b → PBok n F l
  den : ∀ q ∈ pathsM n F b n, q.2.den = 1
  c1 : cntM n F b = (List.range (b + 1)).map fun l => ((atM n F l).length : Int)
  c2 : spotL (farsM n F b) = farL (cntM n F b) b
  c3 : cntM n F b = (List.range (b + 1)).map fun l => ((srtR n).map fun k => (crow (rawM n F b) k b).getD l 0).sum
  c4 : ∀ l, 1 ≤ l → l ≤ b → (cntM n F b).getD l 0 = (((List.range l).filter fun i => decide (l % ((1 + i) * (1 + i)) = 0)).map fun i => (bareM n F b).getD (l / ((1 + i) * (1 + i))) 0).sum
  c5 : ((pbM n F b).length : Int) = (cntM n F b).sum
  c6 : ((pbM n F b).map (·.1)).mergeSort (PySem.W.dataLe false pt) = (pbM n F b).map (·.1)
structure FROk (n : Nat) (F : List (List Int)) : Prop where
  fo : IsF n F
  ad : IsF n (adjM n F)
  o2 : n = 2 → adjM n (adjM n F) = F
  o3 : n = 3 → adjM n (adjM n F) = stretchM F (wdet n F)
  sq : SqOk n F
  sh : ∃ s best k, ShOk n F s best ∧ best.natAbs < 2 ^ 40 ∧ k < n ∧ wq F k ≤ (best : Rat)
structure BSOk (n m : Nat) (F G : List (List Int)) (b : Nat) : Prop where
  nm : n + m ≤ 3
  f1 : IsF n F
  f2 : IsF m G
  p1 : PBok n F b
  p2 : PBok m G b
  p3 : PBok (n + m) (besideM F G) b
  cv : cntM (n + m) (besideM F G) b = convM (cntM n F b) (cntM m G b)
def encQ (q : Rat × Int) : PD := .tuple [fr q.1, .int q.2]
theorem lay_encQ (q : Rat × Int) : Lay 2 (encQ q) := lay_tup fun d hd => by
  rcases List.mem_cons.mp hd with e | hd
  · rw [e]; exact lay_fr _
  · rcases List.mem_cons.mp hd with e | hd
    · rw [e]; exact (lay_int _).mono (by decide)
    · exact nomatch hd
theorem dpo_encQ (q : Rat × Int) : Dpo (encQ q) := dpo_tup fun d hd => by
  rcases List.mem_cons.mp hd with e | hd
  · rw [e]; exact dpo_fr _
  · rcases List.mem_cons.mp hd with e | hd
    · rw [e]; exact dpo_int _
    · exact nomatch hd
theorem lay_encQs (l : List (Rat × Int)) : Lay 3 (.list (l.map encQ)) := lay_lst fun d hd => by
  obtain ⟨q, _, rfl⟩ := List.mem_map.mp hd
  exact lay_encQ q
theorem dpo_encQs (l : List (Rat × Int)) : Dpo (.list (l.map encQ)) := dpo_lst fun d hd => by
  obtain ⟨q, _, rfl⟩ := List.mem_map.mp hd
  exact dpo_encQ q
theorem cnt_len {n b : Nat} {F : List (List Int)} : (cntM n F b).length = b + 1 := tally_len
theorem getD_some {l : List Int} {i : Nat} (h : i < l.length) : l[i]? = some (l.getD i 0) := by rw [List.getD_eq_getElem?_getD, List.getElem?_eq_getElem h]; rfl
section
variable {P : Program} {w : World} {K : PySem.W.Frag} {mg : Str → Option Value} {base : Heap} {ρ : List Sl} {M : Mt} {tA : TA} {te tb : TE}

def S_law_counts_right (ds : List PD) (R : PD → Prop) : Prop := ∃ (n : Nat) (F : List (List Int)) (b : Nat), ds = [fm F, .int (b : Nat)] ∧ CROk n F b ∧ R (.bool true)
abbrev N__law_counts_right : List Str := ["_law_form_here", "_law_bound", "_law_counts", "_law_far", "_law_rests", "_law_bare", "_law_length", "_law_due", "_law_points", "_law_d", "_law_one", "_law_row"]
theorem sc__law_counts_right : FnScope N__law_counts_right ["_law_form_here", "_law_bound"] (defScope s__law_counts_right) := ⟨rfl, rfl, rfl, by decide +kernel, rfl, by decide +kernel, by decide +kernel⟩
theorem ok_law_counts_right (T : Tx K mg) : C8.Cal P w K mg base 9 "_law_counts_right" (spF K S_law_counts_right) [] := by
  have c_counts_to := ok_counts_to (P := P) (w := w) (base := base) T
  have c_points_at := ok_points_at (P := P) (w := w) (base := base) T
  have c_from_spot := ok_from_spot (P := P) (w := w) (base := base) T
  have c_by_rests := ok_by_rests (P := P) (w := w) (base := base) T
  have c_bare_counts := ok_bare_counts (P := P) (w := w) (base := base) T
  have c_points_to := ok_points_to (P := P) (w := w) (base := base) T
  have c_points_hold := ok_points_hold (P := P) (w := w) (base := base) T
  have c_box_holds := ok_box_holds (P := P) (w := w) (base := base) T
  have c_reach := ok_reach (P := P) (w := w) (base := base) T
  refine cal_of T.f__law_counts_right (fun _ _ _ _ _ _ us hl => match us, hl with | [_, _], _ => rfl) sc__law_counts_right (fun ds R h => ?_) (fun cdv A outer s H E hr => ⟨_, (pss_cons (ps_set (i := 2) sc__law_counts_right.nd rfl (Or.inr rfl) (C8.pe_c c_counts_to hr (by first | decide | omega) (by rfl) (pa_cons (pv 0) (pa_cons (pv 1) pa_nil))))
      (pss_cons (ps_if (pt_cmpR (op_neK (K := K) rfl hr.units) (pv 2) (pe_lc (own := [("_law_length", 6)]) (g := (gName 6)) (tt := tYes) rfl sc__law_counts_right.nd (pi_range1 (by rfl) T.b_range (pa_cons (pe_op op_add (pv 1) pe_int) pa_nil)) (blkOk_by (own := [("_law_length", 6)]) (N := N__law_counts_right) (sc := (defScope s__law_counts_right)) (by decide +kernel)) (fun _ _ _ _ _ => (pg_name (i := 6) sc__law_counts_right.nd rfl (Or.inl rfl))) (fun _ _ _ _ _ => pts_nil) (fun _ _ _ _ _ => (pe_callB (lenK (K := K) rfl) (by rfl) T.b_len (by decide +kernel) (pa_cons (C8.pe_c c_points_at hr (by first | decide | omega) (by rfl) (pa_cons (pv 0) (pa_cons (pv 6) pa_nil))) pa_nil)))) (nomark _)) (pss_one (ps_ret pe_bl)) pss_nil)
      (pss_cons (ps_setLc (i := 3) (own := [("_law_length", 6)]) (g := (gName 6)) rfl sc__law_counts_right.nd rfl rfl (sw_true rfl rfl rfl (by decide +kernel)) (pi_range1 (by rfl) T.b_range (pa_cons (pe_op op_add (pv 1) pe_int) pa_nil)) (blkOk_by (own := [("_law_length", 6)]) (N := N__law_counts_right) (sc := (defScope s__law_counts_right)) (by decide +kernel)) (fun _ _ _ _ _ => (pg_name (i := 6) sc__law_counts_right.nd rfl (Or.inl rfl))) (fun _ _ _ _ _ => (pts_one (pt_cmpR op_gt (pe_ix (ix_listK (K := K) rfl) (pv 2) (pv 6) (fun _ _ => rfl)) pe_int (nomark _)))) (fun _ _ _ _ _ => (pe_tup (pa_cons (pe_tup (pa_cons (pv 6) (pa_cons pe_int pa_nil))) (pa_cons (pe_ix (ix_listK (K := K) rfl) (pv 2) (pv 6) (fun _ _ => rfl)) pa_nil)))))
      (pss_cons (ps_if (pt_cmpR (op_neK (K := K) rfl hr.units) (C8.pe_c c_from_spot hr (by first | decide | omega) (by rfl) (pa_cons (pv 0) (pa_cons (pe_op (op_repK (K := K) rfl) (pe_tup (pa_cons (pe_tup (pa_cons pe_int (pa_cons pe_int pa_nil))) pa_nil)) (pe_callB (lenK (K := K) rfl) (by rfl) T.b_len (by decide +kernel) (pa_cons (pv 0) pa_nil))) (pa_cons (pv 1) pa_nil)))) (pv 3) (nomark _)) (pss_one (ps_ret pe_bl)) pss_nil)
      (pss_cons (ps_set (i := 4) sc__law_counts_right.nd rfl (Or.inr rfl) (C8.pe_c c_by_rests hr (by first | decide | omega) (by rfl) (pa_cons (pv 0) (pa_cons pe_int (pa_cons (pv 1) pa_nil)))))
      (pss_cons (ps_if (pt_cmpR (op_neK (K := K) rfl hr.units) (pv 2) (pe_lc (own := [("_law_length", 6)]) (g := (gName 6)) (tt := tYes) rfl sc__law_counts_right.nd (pi_range1 (by rfl) T.b_range (pa_cons (pe_op op_add (pv 1) pe_int) pa_nil)) (blkOk_by (own := [("_law_length", 6)]) (N := N__law_counts_right) (sc := (defScope s__law_counts_right)) (by decide +kernel)) (fun _ _ _ _ _ => (pg_name (i := 6) sc__law_counts_right.nd rfl (Or.inr rfl))) (fun _ _ _ _ _ => pts_nil) (fun _ _ _ _ _ => (pe_callB (sumK (K := K) rfl rfl) (by rfl) T.b_sum (by decide +kernel) (pa_cons (pe_lc (own := [("_law_one", 10), ("_law_row", 11)]) (g := (gTup K 2 (gCons (gName 10) (gCons (gName 11) gNil)))) (tt := tYes) rfl sc__law_counts_right.nd (pi_listK (K := K) rfl (pv 4)) (blkOk_by (own := [("_law_one", 10), ("_law_row", 11)]) (N := N__law_counts_right) (sc := (relS _ (defScope s__law_counts_right))) (by decide +kernel)) (fun _ _ _ _ _ => (pg_tupK (K := K) rfl rfl (pgs_cons (pg_name (i := 10) sc__law_counts_right.nd rfl (Or.inl rfl)) (pgs_cons (pg_name (i := 11) sc__law_counts_right.nd rfl (Or.inl rfl)) pgs_nil)))) (fun _ _ _ _ _ => pts_nil) (fun _ _ _ _ _ => (pe_ix (ix_listK (K := K) rfl) (pv 11) (pv 6) (fun _ _ => rfl)))) pa_nil)))) (nomark _)) (pss_one (ps_ret pe_bl)) pss_nil)
      (pss_cons (ps_set (i := 5) sc__law_counts_right.nd rfl (Or.inr rfl) (C8.pe_c c_bare_counts hr (by first | decide | omega) (by rfl) (pa_cons (pv 0) (pa_cons (pv 1) pa_nil))))
      (pss_cons (ps_for PassesOwn.never rfl (pi_range2 (by rfl) T.b_range (pa_cons pe_int (pa_cons (pe_op op_add (pv 1) pe_int) pa_nil))) (pg_name (i := 6) sc__law_counts_right.nd rfl (Or.inr rfl)) (pss_cons (ps_set (i := 7) sc__law_counts_right.nd rfl (Or.inl rfl) (pe_callB (sumK (K := K) rfl rfl) (by rfl) T.b_sum (by decide +kernel) (pa_cons (pe_lc (own := [("_law_d", 9)]) (g := (gName 9)) rfl sc__law_counts_right.nd (pi_range2 (by rfl) T.b_range (pa_cons pe_int (pa_cons (pe_op op_add (pv 6) pe_int) pa_nil))) (blkOk_by (own := [("_law_d", 9)]) (N := N__law_counts_right) (sc := (defScope s__law_counts_right)) (by decide +kernel)) (fun _ _ _ _ _ => (pg_name (i := 9) sc__law_counts_right.nd rfl (Or.inl rfl))) (fun _ _ _ _ _ => (pts_one (pt_cmpR op_eq (pe_op op_mod (pv 6) (pe_op op_mulW (pv 9) (pv 9))) pe_int (nomark _)))) (fun _ _ _ _ _ => (pe_ix (ix_listK (K := K) rfl) (pv 5) (pe_op op_fdivW (pv 6) (pe_op op_mulW (pv 9) (pv 9))) (fun _ _ => rfl)))) pa_nil)))
        (pss_one (ps_if (pt_cmpR op_ne (pe_ix (ix_listK (K := K) rfl) (pv 2) (pv 6) (fun _ _ => rfl)) (pv 7) (nomark _)) (pss_one (ps_ret pe_bl)) pss_nil))))
      (pss_cons (ps_set (i := 8) sc__law_counts_right.nd rfl (Or.inl rfl) (C8.pe_c c_points_to hr (by first | decide | omega) (by rfl) (pa_cons (pv 0) (pa_cons (pv 1) pa_nil))))
      (pss_cons (ps_if (PW.pt (pw_or (pt_cmpR op_ne (pe_callB (lenK (K := K) rfl) (by rfl) T.b_len (by decide +kernel) (pa_cons (pv 8) pa_nil)) (pe_callB (sumK (K := K) rfl rfl) (by rfl) T.b_sum (by decide +kernel) (pa_cons (pv 2) pa_nil)) (nomark _)) (pw_or1 (pt_not (pt_val (C8.pe_c c_points_hold hr (by first | decide | omega) (by rfl) (pa_cons (pv 0) (pa_cons (pv 1) (pa_cons (pv 8) pa_nil))))))))) (pss_one (ps_ret pe_bl)) pss_nil)
      (pss_one (ps_ret (C8.pe_c c_box_holds hr (by first | decide | omega) (by rfl) (pa_cons (pv 0) (pa_cons (pv 1) (pa_cons (C8.pe_c c_reach hr (by first | decide | omega) (by rfl) (pa_cons (pv 0) (pa_cons (pv 1) pa_nil))) pa_nil)))))))))))))))), fun G ds vs R kr hGH hds hS hrt => ?_⟩)
  · obtain ⟨n, F, b, rfl, _⟩ := h
    rfl
  · obtain ⟨n, F, b, rfl, ho, hR⟩ := hS
    have hp := ho.pb b (Nat.le_refl b)
    have hb := ho.b10
    have h1 := hp.fo.n1
    have h3 := hp.fo.n3
    have hlen : (F.map pt).length = n := by rw [List.length_map, hp.fo.mx.len]
    have hcl : (cntM n F b).length = b + 1 := cnt_len
    have hbl : (bareM n F b).length = b + 1 := tally_len
    have hcg : ∀ {l : Nat}, l ≤ b → ((cntM n F b).map PyData.int)[l]? = some (.int ((cntM n F b).getD l 0)) := fun h => pt_get (getD_some (by omega))
    refine st_seq (st_set (d := .list ((cntM n F b).map .int)) (ev_counts_to (ea_cons (ev_var rfl) (ea_cons (ev_var rfl) ea_nil)) hp) ?_)
    refine st_seq (st_if (b := false) (EvT.is (et_test (ev_op (ev_var rfl) (EvL.toD (EvL.is (es := ((List.range (b + 1)).map fun l => ((atM n F l).length : Int)).map .int) (el_mapA (List.range (b + 1)) (fun i => .int (i : Nat)) (fun l => .int ((atM n F l).length : Nat)) (ei_rng1N (n := b + 1) (ea_cons (EvD.is (ev_op (ev_var rfl) ev_int rv_II) rfl) ea_nil) (by omega)) (by rw [List.length_range]; omega) (fun i l hl => ?_)) ?_)) (rv_neD (dpo_intL _) (dpo_intL _) ((lay_ints _).shp (by decide)) ((lay_ints _).shp (by decide))))) ?_) (fun e => by cases e) (fun e => ?_))
    · obtain ⟨hl, rfl⟩ := rng_get hl
      exact ⟨_, _, by simp, tg_name, EvD.is (ev_cb (ea_cons (ev_points_at (ea_cons (ev_var rfl) (ea_cons (ev_var rfl) ea_nil)) (ho.pb _ (by omega))) ea_nil) rc_lenL) (congrArg (fun k : Nat => PyData.int (k : Nat)) (List.length_map _))⟩
    · rw [List.map_map]
      rfl
    · rw [eqv_ints, ← ho.c1, decide_eq_true rfl]
      rfl
    refine st_nil (st_seq (st_set (EvL.toD (EvL.is (es := (farL (cntM n F b) b).map encQ) (el_filtA (List.range (b + 1)) (fun i => .int (i : Nat)) (fun (l : Nat) => encQ (((l : Int) : Rat), (cntM n F b).getD l 0)) (fun l => decide (0 < (cntM n F b).getD l 0)) (ei_rng1N (n := b + 1) (ea_cons (EvD.is (ev_op (ev_var rfl) ev_int rv_II) rfl) ea_nil) (by omega)) (by rw [List.length_range]; omega) (fun i l hl => ?_)) ?_)) ?_))
    · obtain ⟨hl, rfl⟩ := rng_get hl
      exact ⟨_, _, by simp, tg_name, et_test (ev_op (ev_op (ev_var rfl) (ev_var rfl) (rv_ixLn (hcg (by omega)))) ev_int rv_IB), fun _ => ev_tup (ea_cons (EvD.is (ev_tup (ea_cons (ev_var rfl) (ea_cons ev_int ea_nil)) (by simp)) (frI _)) (ea_cons (ev_op (ev_var rfl) (ev_var rfl) (rv_ixLn (hcg (by omega)))) ea_nil)) (by simp)⟩
    · unfold farL
      rw [List.map_map]
      rfl
    refine st_seq (st_if (b := false) (EvT.is (et_test (ev_op (d1 := .list ((spotL (farsM n F b)).map encQ)) (EvD.is (ev_from_spot (ea_cons (ev_var rfl) (ea_cons (ev_nspot (ev_var rfl) hlen h1 h3) (ea_cons (ev_var rfl) ea_nil))) hp ho.den) ?_) (ev_var rfl) (rv_neD (dpo_encQs _) (dpo_encQs _) ((lay_encQs _).shp (by decide)) ((lay_encQs _).shp (by decide))))) ?_) (fun e => by cases e) (fun e => ?_))
    · unfold spotD spotL
      rw [List.map_map]
      rfl
    · rw [ho.c2, PySem.SeqAt.eqv_refl _ (lay_encQs _).lay]
      rfl
    refine st_nil (st_seq (st_set (ev_by_rests (ea_cons (ev_var rfl) (ea_cons ev_int (ea_cons (ev_var rfl) ea_nil))) hp) ?_))
    have hrd : restsD n F b = .list ((srtR n).map fun k => .tuple [pt k, .list ((crow (rawM n F b) k b).map .int)]) := rfl
    have hsl : (srtR n).length ≤ 8 := by unfold srtR; rw [List.length_mergeSort]; exact restsM_sz h3
    refine st_seq (st_if (b := false) (EvT.is (et_test (ev_op (ev_var rfl) (EvL.toD (EvL.is (es := ((List.range (b + 1)).map fun l => ((srtR n).map fun k => (crow (rawM n F b) k b).getD l 0).sum).map .int) (el_mapA (List.range (b + 1)) (fun i => .int (i : Nat)) (fun l => .int ((srtR n).map fun k => (crow (rawM n F b) k b).getD l 0).sum) (ei_rng1N (n := b + 1) (ea_cons (EvD.is (ev_op (ev_var rfl) ev_int rv_II) rfl) ea_nil) (by omega)) (by rw [List.length_range]; omega) (fun i l hl => ?_)) ?_)) (rv_neD (dpo_intL _) (dpo_intL _) ((lay_ints _).shp (by decide)) ((lay_ints _).shp (by decide))))) ?_) (fun e => by cases e) (fun e => ?_))
    · obtain ⟨hl, rfl⟩ := rng_get hl
      refine ⟨_, _, by simp, tg_name, ev_cb (ea_cons (EvL.toD (EvL.is (es := ((srtR n).map fun k => (crow (rawM n F b) k b).getD l 0).map .int) (el_mapA (srtR n) (fun k => .tuple [pt k, .list ((crow (rawM n F b) k b).map .int)]) (fun k => .int ((crow (rawM n F b) k b).getD l 0)) (ei_list (ev_var rfl)) (by omega) (fun j k hk => ?_)) ?_)) ea_nil) rc_sum⟩
      · have hl2 : (crow (rawM n F b) k b).length = b + 1 := tally_len
        exact ⟨_, _, by simp, tg_tup (tgs_cons tg_name (tgs_cons tg_name tgs_nil)) rfl, ev_op (ev_var rfl) (ev_var rfl) (rv_ixLn (pt_get (getD_some (by omega))))⟩
      · rw [List.map_map]
        rfl
    · rw [List.map_map]
      rfl
    · rw [eqv_ints, ← ho.c3, decide_eq_true rfl]
      rfl
    refine st_nil (st_seq (st_set (d := .list ((bareM n F b).map .int)) (ev_bare_counts (ea_cons (ev_var rfl) (ea_cons (ev_var rfl) ea_nil)) hp) ?_))
    refine st_seq (st_for (fun _ => [.d (fm F), .d (.int (b : Nat)), .d (.list ((cntM n F b).map .int)), .no, .no, .d (.list ((bareM n F b).map .int)), .no, .no, .no, .no, .no, .no]) (fun _ => []) (ei_rng2N (a := 1) (b := b + 1) (ea_cons ev_int (ea_cons (EvD.is (ev_op (ev_var rfl) ev_int rv_II) rfl) ea_nil)) (by omega) (by omega)) (by repeat' (first | exact True.intro | exact Or.inr rfl | exact Or.inl rfl | refine And.intro ?_ ?_)) rfl (fun A i d hd N hN => ?_) ?_)
    · obtain ⟨l', hl, rfl⟩ := map_getA hd
      obtain ⟨hl, rfl⟩ := rng_get hl
      obtain ⟨l, hll⟩ : ∃ l, l = 1 + l' := ⟨_, rfl⟩
      rw [← hll]
      have hlb : l ≤ b := by omega
      have hc4 := ho.c4 l (by omega) hlb
      refine ⟨_, _, tg_name, st_seq (st_set (ev_cb (ea_cons (EvL.toD (EvL.is (es := (((List.range l).filter fun i => decide (l % ((1 + i) * (1 + i)) = 0)).map fun i => (bareM n F b).getD (l / ((1 + i) * (1 + i))) 0).map .int) (el_filtA (List.range (l + 1 - 1)) (fun i => .int ((1 + i : Nat) : Int)) (fun i => .int ((bareM n F b).getD (l / ((1 + i) * (1 + i))) 0)) (fun i => decide (l % ((1 + i) * (1 + i)) = 0)) (ei_rng2N (a := 1) (b := l + 1) (ea_cons ev_int (ea_cons (EvD.is (ev_op (ev_var rfl) ev_int rv_II) rfl) ea_nil)) (by omega) (by omega)) (by rw [List.length_range]; omega) (fun j m hm => ?_)) ?_)) ea_nil) rc_sum) ?_)⟩
      · obtain ⟨hm, rfl⟩ := rng_get hm
        have hml : 1 + m ≤ 11 := by omega
        have k1 : CMulW ((1 + m : Nat) : Int) ((1 + m : Nat) : Int) := cmul (a := 10) (b := 10) (by show _ < 1024; omega) (by show _ < 1024; omega) (by decide)
        have k0 : (0 : Int) < ((1 + m : Nat) : Int) * ((1 + m : Nat) : Int) := Int.mul_pos (by omega) (by omega)
        have k4 : (((1 + m) * (1 + m) : Nat) : Int) = ((1 + m : Nat) : Int) * ((1 + m : Nat) : Int) := by simp
        have k5 : l / ((1 + m) * (1 + m)) ≤ l := Nat.div_le_self _ _
        refine ⟨_, _, by simp, tg_name, EvT.is (et_test (ev_op (ev_op (ev_var rfl) (ev_op (ev_var rfl) (ev_var rfl) (rv_IC k1)) (rv_IC k0)) ev_int rv_eq)) ?_, fun _ => ev_op (ev_var rfl) (EvD.is (ev_op (ev_var rfl) (ev_op (ev_var rfl) (ev_var rfl) (rv_IC k1)) (rv_IC (cdiv (b := 20) k0 ?_ (by decide)))) ?_) (rv_ixLn (k := l / ((1 + m) * (1 + m))) (pt_get (getD_some (by omega))))⟩
        · rw [← k4]
          exact decide_eq_decide.mpr (by rw [← Int.natCast_emod]; omega)
        · rw [← k4]
          show (1 + m) * (1 + m) < 1048576
          exact Nat.lt_of_le_of_lt (Nat.mul_le_mul hml hml) (by decide)
        · rw [← k4, ← Int.natCast_ediv]
      · rw [List.map_map]
        rfl
      · refine st_if (b := false) (EvT.is (et_test (ev_op (ev_op (ev_var rfl) (ev_var rfl) (rv_ixLn (hcg hlb))) (ev_var rfl) rv_ne)) (by rw [hc4]; simp)) (fun e => by cases e) (fun e => st_nil (hN.wkn (by repeat' (first | exact True.intro | exact Or.inr rfl | exact Or.inl rfl | refine And.intro ?_ ?_))))
    refine st_seq (st_set (ev_points_to (ea_cons (ev_var rfl) (ea_cons (ev_var rfl) ea_nil)) hp) ?_)
    refine st_seq (st_if (b := false) (EvT.is (et_or (et_test (ev_op (EvD.is (ev_cb (ea_cons (ev_var rfl) ea_nil) (rc_lenL (ds := ((pbM n F b).map (·.1)).map pt))) (d1 := .int ((pbM n F b).length : Nat)) (by rw [List.length_map, List.length_map])) (ev_cb (ea_cons (ev_var rfl) ea_nil) (rc_sum (ns := cntM n F b))) rv_ne)) fun _ => et_not (et_test (ev_points_hold (ea_cons (ev_var rfl) (ea_cons (ev_var rfl) (ea_cons (ev_var rfl) ea_nil))) hp ho.c6))) ?_) (fun e => by cases e) (fun e => ?_))
    · rw [ho.c5]
      simp
    refine st_nil (st_ret (R := R) (ev_box_holds (ea_cons (ev_var rfl) (ea_cons (ev_var rfl) (ea_cons (ev_reach (ea_cons (ev_var rfl) (ea_cons (ev_var rfl) ea_nil)) hp.fo (by show _ < 1099511627776; omega)) ea_nil))) hp.fo (by show _ < 1099511627776; omega)) hrt hR)
theorem ev_law_counts_right {n b : Nat} {F : List (List Int)} (h : EvA K tA ρ M [fm F, .int (b : Nat)]) (ho : CROk n F b) : EvD K (tCall (spF K S_law_counts_right) [] E0 tA) ρ M (.bool true) := ev_call h fun R r => ⟨n, F, b, rfl, ho, r⟩
def S_law_form_right (ds : List PD) (R : PD → Prop) : Prop := ∃ (n : Nat) (F : List (List Int)), ds = [fm F] ∧ FROk n F ∧ R (.bool true)
abbrev N__law_form_right : List Str := ["_law_form_here", "_law_other", "_law_least", "_law_weights", "_law_weight", "_law_row"]
theorem sc__law_form_right : FnScope N__law_form_right ["_law_form_here"] (defScope s__law_form_right) := ⟨rfl, rfl, rfl, by decide +kernel, rfl, by decide +kernel, by decide +kernel⟩
theorem ok_law_form_right (T : Tx K mg) : C8.Cal P w K mg base 8 "_law_form_right" (spF K S_law_form_right) [] := by
  have c_other_form := ok_other_form (P := P) (w := w) (base := base) T
  have c_stretched := ok_stretched (P := P) (w := w) (base := base) T
  have c_determinant := ok_determinant (P := P) (w := w) (base := base) T
  have c_shortest := ok_shortest (P := P) (w := w) (base := base) T
  have c_squares_of := ok_squares_of (P := P) (w := w) (base := base) T
  have c__law_less := ok_law_less (P := P) (w := w) (base := base) T
  refine cal_of T.f__law_form_right (fun _ _ _ _ _ _ us hl => match us, hl with | [_], _ => rfl) sc__law_form_right (fun ds R h => ?_) (fun cdv A outer s H E hr => ⟨_, (pss_cons (ps_set (i := 1) sc__law_form_right.nd rfl (Or.inl rfl) (C8.pe_c c_other_form hr (by first | decide | omega) (by rfl) (pa_cons (C8.pe_c c_other_form hr (by first | decide | omega) (by rfl) (pa_cons (pv 0) pa_nil)) pa_nil)))
      (pss_cons (ps_if (PW.pt (pw_or (PW.pt (pw_and (pt_cmpR op_eq (pe_callB (lenK (K := K) rfl) (by rfl) T.b_len (by decide +kernel) (pa_cons (pv 0) pa_nil)) pe_int (nomark _)) (pw_and1 (pt_cmpR (op_neK (K := K) rfl hr.units) (pv 1) (pv 0) (nomark _))))) (pw_or1 (PW.pt (pw_and (pt_cmpR op_eq (pe_callB (lenK (K := K) rfl) (by rfl) T.b_len (by decide +kernel) (pa_cons (pv 0) pa_nil)) pe_int (nomark _)) (pw_and1 (pt_cmpR (op_neK (K := K) rfl hr.units) (pv 1) (C8.pe_c c_stretched hr (by first | decide | omega) (by rfl) (pa_cons (pv 0) (pa_cons (C8.pe_c c_determinant hr (by first | decide | omega) (by rfl) (pa_cons (pv 0) pa_nil)) pa_nil))) (nomark _)))))))) (pss_one (ps_ret pe_bl)) pss_nil)
      (pss_cons (ps_set (i := 2) sc__law_form_right.nd rfl (Or.inr rfl) (pe_ix (ix_tupK (K := K) rfl) (C8.pe_c c_shortest hr (by first | decide | omega) (by rfl) (pa_cons (pv 0) pa_nil)) pe_int (fun _ _ => rfl)))
      (pss_cons (ps_setLc (i := 3) (own := [("_law_weight", 4), ("_law_row", 5)]) (g := (gTup K 2 (gCons (gName 4) (gCons (gName 5) gNil)))) (tt := tYes) rfl sc__law_form_right.nd rfl rfl (sw_true rfl rfl rfl (by decide +kernel)) (pi_listK (K := K) rfl (C8.pe_c c_squares_of hr (by first | decide | omega) (by rfl) (pa_cons (pv 0) pa_nil))) (blkOk_by (own := [("_law_weight", 4), ("_law_row", 5)]) (N := N__law_form_right) (sc := (defScope s__law_form_right)) (by decide +kernel)) (fun _ _ _ _ _ => (pg_tupK (K := K) rfl rfl (pgs_cons (pg_name (i := 4) sc__law_form_right.nd rfl (Or.inl rfl)) (pgs_cons (pg_name (i := 5) sc__law_form_right.nd rfl (Or.inl rfl)) pgs_nil)))) (fun _ _ _ _ _ => pts_nil) (fun _ _ _ _ _ => (pv 4)))
      (pss_one (ps_ret (pe_cmpR (op_neK (K := K) rfl hr.units) (pe_lc (own := [("_law_weight", 4)]) (g := (gName 4)) rfl sc__law_form_right.nd (pi_listK (K := K) rfl (pv 3)) (blkOk_by (own := [("_law_weight", 4)]) (N := N__law_form_right) (sc := (defScope s__law_form_right)) (by decide +kernel)) (fun _ _ _ _ _ => (pg_name (i := 4) sc__law_form_right.nd rfl (Or.inl rfl))) (fun _ _ _ _ _ => (pts_one (pt_not (pt_val (C8.pe_c c__law_less hr (by first | decide | omega) (by rfl) (pa_cons (pe_tup (pa_cons (pv 2) (pa_cons pe_int pa_nil))) (pa_cons (pv 4) pa_nil))))))) (fun _ _ _ _ _ => (pv 4))) (pe_lst pa_nil) (nomark _)))))))), fun G ds vs R kr hGH hds hS hrt => ?_⟩)
  · obtain ⟨n, F, rfl, _⟩ := h
    rfl
  · obtain ⟨n, F, rfl, ho, hR⟩ := hS
    have h1 := ho.fo.n1
    have h3 := ho.fo.n3
    have hlen : (F.map pt).length = n := by rw [List.length_map, ho.fo.mx.len]
    obtain ⟨sh, best, k, hsh, hbs, hk, hkw⟩ := ho.sh
    have hws := wdet_sz n h3 ho.fo.mx
    have vlen : ∀ {ρ : List Sl} {M : Mt}, ρ[0]? = some (.d (fm F)) → EvD K (tCB (rLenQ K) (tCons (tVar 0) tNil)) ρ M (.int (n : Nat)) := fun h => EvD.is (ev_cb (ea_cons (ev_var h) ea_nil) (rc_lenT (ds := F.map pt))) (congrArg (fun k : Nat => PyData.int (k : Nat)) hlen)
    refine st_seq (st_set (ev_other_form (ea_cons (ev_other_form (ea_cons (ev_var rfl) ea_nil) ho.fo) ea_nil) ho.ad) ?_)
    refine st_seq (st_if (b := false) (EvT.is (et_or (et_and (et_test (ev_op (vlen rfl) ev_int rv_eq)) fun _ => et_test (ev_op (ev_var rfl) (ev_var rfl) (rv_neD (dpo_fm _) (dpo_fm _) ((lay_fm _).shp (by decide)) ((lay_fm _).shp (by decide))))) fun _ => et_and (et_test (ev_op (vlen rfl) ev_int rv_eq)) fun _ => et_test (ev_op (ev_var rfl) (ev_stretched (n := n) (c := wdet n F) (ea_cons (ev_var rfl) (ea_cons (ev_determinant (ea_cons (ev_var rfl) ea_nil) ho.fo) ea_nil)) ho.fo (by have := ho.fo.det; omega) (pw_le hws (by omega))) (rv_neD (dpo_fm _) (dpo_fm _) ((lay_fm _).shp (by decide)) ((lay_fm _).shp (by decide))))) ?_) (fun e => by cases e) (fun e => ?_))
    · rw [eqv_fm, eqv_fm]
      have hn : n = 1 ∨ n = 2 ∨ n = 3 := by omega
      rcases hn with rfl | rfl | rfl
      · rfl
      · rw [ho.o2 rfl]
        simp
      · rw [ho.o3 rfl]
        simp
    refine st_nil (st_seq (st_set (d := .int best) (ev_op (ev_shortest (ea_cons (ev_var rfl) ea_nil) hsh) ev_int (rv_ixT rfl)) ?_))
    refine st_seq (st_set (EvL.toD (EvL.is (es := ((List.range n).map fun k => wq F k).map fr) (el_mapA (List.range n) (fun k' => .tuple [fr (wq F k'), .tuple ((List.range n).map fun j => fr (rwq F k' j))]) (fun k => fr (wq F k)) (ei_list (ev_squares_of (ea_cons (ev_var rfl) ea_nil) ho.fo ho.sq)) (by rw [List.length_range]; omega) (fun i k hk => ?_)) ?_)) ?_)
    · exact ⟨_, _, by simp, tg_tup (tgs_cons tg_name (tgs_cons tg_name tgs_nil)) rfl, ev_var rfl⟩
    · rw [List.map_map]
      rfl
    have hmem : wq F k ∈ ((List.range n).map fun k => wq F k).filter fun q => !decide ((best : Rat) < q) := by
      refine List.mem_filter.mpr ⟨List.mem_map.mpr ⟨k, List.mem_range.mpr hk, rfl⟩, ?_⟩
      have : ¬ (best : Rat) < wq F k := Rat.not_lt.mpr hkw
      rw [decide_eq_false this]
      rfl
    have hlay : Lay 2 (.list ((((List.range n).map fun k => wq F k).filter fun q => !decide ((best : Rat) < q)).map fr)) := lay_lst fun d hd => by
      obtain ⟨q, _, rfl⟩ := List.mem_map.mp hd
      exact lay_fr q
    refine st_ret (R := R) (d := .bool true) (EvD.is (ev_op (EvL.toD (el_filtA ((List.range n).map fun k => wq F k) fr fr (fun q => !decide ((best : Rat) < q)) (ei_list (ev_var rfl)) (by rw [List.length_map, List.length_range]; omega) (fun i q hq => ?_))) (EvL.toD (ev_lst ea_nil (by decide))) (rv_neD (dpo_lst fun d hd => ?_) (dpo_intL []) (hlay.shp (by decide)) ((lay_ints []).shp (by decide)))) ?_) hrt hR
    · obtain ⟨k', hk', rfl⟩ := List.mem_map.mp (List.mem_of_getElem? hq)
      have hk' := List.mem_range.mp hk'
      exact ⟨_, _, by simp, tg_name, et_not (et_test (ev_law_less (n := 41) (m := 260) (ea_cons (EvD.is (ev_tup (ea_cons (ev_var rfl) (ea_cons ev_int ea_nil)) (by simp)) (frI best)) (ea_cons (ev_var rfl) ea_nil)) ((Sz.int hbs (by decide)).mono (by decide)) (ho.sq.sl k' k' k' hk' hk' hk') (by decide))), fun _ => ev_var rfl⟩
    · obtain ⟨q, _, rfl⟩ := List.mem_map.mp hd
      exact dpo_fr q
    · cases hz : ((List.range n).map fun k => wq F k).filter fun q => !decide ((best : Rat) < q) with
      | nil => rw [hz] at hmem; exact nomatch hmem
      | cons a l => simp [PyData.eqv, PyData.eqvAll]
theorem ev_law_form_right {n : Nat} {F : List (List Int)} (h : EvA K tA ρ M [fm F]) (ho : FROk n F) : EvD K (tCall (spF K S_law_form_right) [] E0 tA) ρ M (.bool true) := ev_call h fun R r => ⟨n, F, rfl, ho, r⟩
def S_law (ds : List PD) (R : PD → Prop) : Prop := ∃ s : List Int, ds = [scrD s] ∧ R (.bool true)
theorem conv_sz {rows : List (List Int × Int)} {b : Nat} (h : rows.length ≤ 10000000) : ∀ x ∈ tallyM rows b, x.natAbs < 2 ^ 64 := fun x hx => by
  obtain ⟨l, _, rfl⟩ := List.mem_map.mp hx
  have := List.countP_le_length (p := fun q : List Int × Int => decide (q.2 = (l : Int))) (l := rows)
  show List.countP _ rows < 2 ^ 64
  have e : (2 : Nat) ^ 64 = 18446744073709551616 := by decide
  omega
abbrev N_law : List Str := ["_law_script", "_law_cell_here", "_law_pen_here", "_law_size", "_law_form_here", "_law_bound", "_law_one", "_law_two", "_law_both"]
theorem sc_law : FnScope N_law ["_law_script"] (defScope s_law) := ⟨rfl, rfl, rfl, by decide +kernel, rfl, by decide +kernel, by decide +kernel⟩
theorem ok_law (T : Tx K mg) (m1 : ∀ n F b, LF n F → b ≤ 10 → CROk n F b) (m2 : ∀ n F, LF n F → FROk n F) (m3 : ∀ m F G b, LF 1 F → LF m G → m ≤ 2 → b ≤ 10 → BSOk 1 m F G b) {fd : FuncData} (F1 : FunD K "law" "law" (defArgs s_law) (defBody s_law) (defScope s_law) [] [] (He.ga K "law") fd) :
    FnOk P w K mg base CX0 10 (He.ga K "law") fd ["_law_script"] (spF K S_law) := by
  have c__law_cell := ok_law_cell2 (P := P) (w := w) (base := base) T
  have c__law_pen := ok_law_pen (P := P) (w := w) (base := base) T
  have c__law_draw := ok_law_draw (P := P) (w := w) (base := base) T
  have c__law_small := ok_law_small (P := P) (w := w) (base := base) T
  have c__law_counts_right := ok_law_counts_right (P := P) (w := w) (base := base) T
  have c__law_form_right := ok_law_form_right (P := P) (w := w) (base := base) T
  have c_counts_joined := ok_counts_joined (P := P) (w := w) (base := base) T
  have c_counts_to := ok_counts_to (P := P) (w := w) (base := base) T
  have c_beside := ok_beside (P := P) (w := w) (base := base) T
  refine fn_of F1 sc_law (fun ds R h => ?_) (fun cdv A outer s H E hr => ⟨_, (pss_cons (ps_for PassesOwn.never rfl (pi_listK (K := K) rfl (pe_op op_cat (pe_lst (pa_cons (C8.pe_c c__law_cell hr (by first | decide | omega) (by rfl) (pa_cons (pv 0) (pa_cons pe_int pa_nil))) pa_nil)) (pe_slice (sl_listK (K := K) rfl) (pv 0) (po_some pe_int) (po_some pe_int)))) (pg_name (i := 1) sc_law.nd rfl (Or.inl rfl)) (pss_cons (ps_set (i := 2) sc_law.nd rfl (Or.inl rfl) (C8.pe_c c__law_pen hr (by first | decide | omega) (by rfl) (pa_cons (pv 1) pa_nil)))
        (pss_cons (ps_set (i := 3) sc_law.nd rfl (Or.inl rfl) (pe_op op_add pe_int (C8.pe_c c__law_draw hr (by first | decide | omega) (by rfl) (pa_cons (pv 2) (pa_cons pe_int pa_nil)))))
        (pss_cons (ps_par (i := 4) (j := 5) rfl sc_law.nd rfl rfl (by decide) rfl rfl (pa_cons (C8.pe_c c__law_small hr (by first | decide | omega) (by rfl) (pa_cons (pv 2) (pa_cons (pv 3) pa_nil))) (pa_cons (C8.pe_c c__law_draw hr (by first | decide | omega) (by rfl) (pa_cons (pv 2) (pa_cons pe_int pa_nil))) pa_nil)) (by rfl))
        (pss_cons (ps_if (PW.pt (pw_or (pt_not (pt_val (C8.pe_c c__law_counts_right hr (by first | decide | omega) (by rfl) (pa_cons (pv 4) (pa_cons (pv 5) pa_nil))))) (pw_or1 (pt_not (pt_val (C8.pe_c c__law_form_right hr (by first | decide | omega) (by rfl) (pa_cons (pv 4) pa_nil))))))) (pss_one (ps_ret pe_bl)) pss_nil)
        (pss_cons (ps_par (i := 6) (j := 7) rfl sc_law.nd rfl rfl (by decide) rfl rfl (pa_cons (C8.pe_c c__law_small hr (by first | decide | omega) (by rfl) (pa_cons (pv 2) (pa_cons pe_int pa_nil))) (pa_cons (C8.pe_c c__law_small hr (by first | decide | omega) (by rfl) (pa_cons (pv 2) (pa_cons (pe_op op_add pe_int (C8.pe_c c__law_draw hr (by first | decide | omega) (by rfl) (pa_cons (pv 2) (pa_cons pe_int pa_nil)))) pa_nil))) pa_nil)) (by rfl))
        (pss_cons (ps_set (i := 8) sc_law.nd rfl (Or.inl rfl) (C8.pe_c c_counts_joined hr (by first | decide | omega) (by rfl) (pa_cons (C8.pe_c c_counts_to hr (by first | decide | omega) (by rfl) (pa_cons (pv 6) (pa_cons (pv 5) pa_nil))) (pa_cons (C8.pe_c c_counts_to hr (by first | decide | omega) (by rfl) (pa_cons (pv 7) (pa_cons (pv 5) pa_nil))) pa_nil))))
        (pss_one (ps_if (pt_cmpR (op_neK (K := K) rfl hr.units) (C8.pe_c c_counts_to hr (by first | decide | omega) (by rfl) (pa_cons (C8.pe_c c_beside hr (by first | decide | omega) (by rfl) (pa_cons (pv 6) (pa_cons (pv 7) pa_nil))) (pa_cons (pv 5) pa_nil))) (pv 8) (nomark _)) (pss_one (ps_ret pe_bl)) pss_nil)))))))))
      (pss_one (ps_ret pe_bl))), fun G ds vs R kr hGH hds hS hrt => ?_⟩)
  · obtain ⟨s, rfl, _⟩ := h
    rfl
  · obtain ⟨sc, rfl, hR⟩ := hS
    have hcut : cutD (sc.map PyData.int) (some 1) (some 3) = ((sc.drop (HT.sIx (sc.map PyData.int).length 0 (some 1))).take (HT.sIx (sc.map PyData.int).length (sc.map PyData.int).length (some 3) - HT.sIx (sc.map PyData.int).length 0 (some 1))).map .int := by
      unfold cutD
      rw [List.map_take, List.map_drop]
    have hcl : HT.sIx (sc.map PyData.int).length (sc.map PyData.int).length (some 3) ≤ 3 := by
      have := HT.sIx_nat (sc.map PyData.int).length (sc.map PyData.int).length 3
      rw [show ((3 : Nat) : Int) = 3 from rfl] at this
      rw [this]
      omega
    generalize hcs : (sc.drop (HT.sIx (sc.map PyData.int).length 0 (some 1))).take (HT.sIx (sc.map PyData.int).length (sc.map PyData.int).length (some 3) - HT.sIx (sc.map PyData.int).length 0 (some 1)) = cs at hcut
    have hcsl : cs.length ≤ 3 := by
      rw [← hcs, List.length_take]
      omega
    refine st_seq (st_for (fun _ => [.d (scrD sc), .no, .no, .no, .no, .no, .no, .no, .no]) (fun _ => []) (items := (cellD sc 0 :: cs).map .int) (ei_list (EvD.is (ev_op (EvL.toD (ev_lst (ea_cons (ev_law_cell (k := 0) (ea_cons (ev_var rfl) (ea_cons ev_int ea_nil))) ea_nil) (by simp))) (EvL.toD (EvL.is (ev_slScr (ev_var rfl) (eo_some ev_int) (eo_some ev_int)) hcut)) (RvL.toD (rv_catL (by rw [List.length_map]; simp; omega)))) rfl)) (by repeat' (first | exact True.intro | exact Or.inr rfl | exact Or.inl rfl | refine And.intro ?_ ?_)) rfl (fun A i d hd N hN => ?_) ?_)
    · obtain ⟨c, hc, rfl⟩ := map_getA hd
      refine ⟨_, _, tg_name, st_seq (st_setPen (ea_cons (ev_var rfl) ea_nil) fun p x f => ?_)⟩
      refine st_seq (st_setX (i := 3) (M := []) (R := fun d => ∃ n : Nat, d = .int (n : Nat) ∧ 1 ≤ n ∧ n ≤ 3) (ex_op (R1 := fun d => d = .int 1) (ex_ev fun x f => ev_int) (ex_draw (m := 3) rfl (ex_ev fun x f => ev_int) (by decide) (by decide)) fun d1 d2 r1 r2 => ?_) (fun d hd x f => ?_) x f)
      · obtain ⟨k, rfl, k0, k1⟩ := r2
        subst r1
        exact ⟨_, rv_II, (1 + k).toNat, congrArg PyData.int (by omega), by omega, by omega⟩
      obtain ⟨n, rfl, n1, n3⟩ := hd
      refine st_seq (st_parX (M := []) (i := 4) (j := 5) (RA := fun ds => ∃ F b, ds = [fm F, .int ((b : Nat) : Int)] ∧ LF n F ∧ b ≤ 10) (exa_cons (R1 := IsLF n) (RA := fun ds => ∃ b : Nat, ds = [.int (b : Nat)] ∧ b ≤ 10) (ex_small (RN := fun d => d = .int (n : Nat)) rfl (ex_ev fun x f => ev_var rfl) fun d hd => ⟨n, hd, n1, n3, fun e he => he⟩) (exa_cons (RA := fun ds => ds = []) (ex_draw (m := 11) rfl (ex_ev fun x f => ev_int) (by decide) (by decide)) exa_nil fun d ds r1 r2 => ?_) fun d ds r1 r2 => ?_) (fun ds r => ?_) (fun d1 d2 r x f => ?_) x f)
      · obtain ⟨k, rfl, k0, k1⟩ := r1
        subst r2
        exact ⟨k.toNat, by rw [show ((k.toNat : Nat) : Int) = k by omega], by omega⟩
      · obtain ⟨F, rfl, hF⟩ := r1
        obtain ⟨b, rfl, hb⟩ := r2
        exact ⟨F, b, rfl, hF, hb⟩
      · obtain ⟨F, b, rfl, _⟩ := r
        rfl
      obtain ⟨F, b, e, hF, hb⟩ := r
      injection e with e1 e2
      injection e2 with e2 _
      subst e1 e2
      have hcr := m1 n F b hF hb
      have hfr := m2 n F hF
      refine st_seq (st_if (b := false) (EvT.is (et_or (et_not (et_test (ev_law_counts_right (ea_cons (ev_var rfl) (ea_cons (ev_var rfl) ea_nil)) hcr))) fun _ => et_not (et_test (ev_law_form_right (ea_cons (ev_var rfl) ea_nil) hfr))) rfl) (fun e => by cases e) (fun e => ?_))
      refine st_nil ?_
      refine st_seq (st_parX (M := []) (i := 6) (j := 7) (RA := fun ds => ∃ m F G, ds = [fm F, fm G] ∧ LF 1 F ∧ LF m G ∧ m ≤ 2) (exa_cons (R1 := IsLF 1) (RA := fun ds => ∃ m G, ds = [fm G] ∧ LF m G ∧ m ≤ 2) (ex_small (RN := fun d => d = .int (1 : Nat)) rfl (ex_ev fun x f => ev_int) fun d hd => ⟨1, hd, by decide, by decide, fun e he => he⟩) (exa_cons (R1 := fun d => ∃ m G, d = fm G ∧ LF m G ∧ m ≤ 2) (RA := fun ds => ds = []) (ex_small (RN := fun d => ∃ n : Nat, d = .int (n : Nat) ∧ 1 ≤ n ∧ n ≤ 2) rfl (ex_op (R1 := fun d => d = .int 1) (ex_ev fun x f => ev_int) (ex_draw (m := 2) rfl (ex_ev fun x f => ev_int) (by decide) (by decide)) fun d1 d2 r1 r2 => ?_) fun d hd => ?_) exa_nil fun d ds r1 r2 => ?_) fun d ds r1 r2 => ?_) (fun ds r => ?_) (fun d1 d2 r x f => ?_) x f)
      · obtain ⟨k, rfl, k0, k1⟩ := r2
        subst r1
        exact ⟨_, rv_II, (1 + k).toNat, congrArg PyData.int (by omega), by omega, by omega⟩
      · obtain ⟨m, rfl, m1', m2'⟩ := hd
        refine ⟨m, rfl, m1', by omega, fun e he => ?_⟩
        obtain ⟨G, rfl, hG⟩ := he
        exact ⟨m, G, rfl, hG, m2'⟩
      · obtain ⟨m, G, rfl, hG, hm⟩ := r1
        subst r2
        exact ⟨m, G, rfl, hG, hm⟩
      · obtain ⟨F1, rfl, hF1⟩ := r1
        obtain ⟨m, G, rfl, hG, hm⟩ := r2
        exact ⟨m, F1, G, rfl, hF1, hG, hm⟩
      · obtain ⟨m, F1, G, rfl, _⟩ := r
        rfl
      obtain ⟨m, F1, G, e, hF1, hG, hm⟩ := r
      injection e with e1 e2
      injection e2 with e2 _
      subst e1 e2
      have hbs := m3 m F1 G b hF1 hG hm hb
      refine st_seq (st_set (d := .list ((convM (cntM 1 F1 b) (cntM m G b)).map .int)) (ev_counts_joined (ea_cons (ev_counts_to (ea_cons (ev_var rfl) (ea_cons (ev_var rfl) ea_nil)) hbs.p1) (ea_cons (ev_counts_to (ea_cons (ev_var rfl) (ea_cons (ev_var rfl) ea_nil)) hbs.p2) ea_nil)) (by rw [cnt_len]; omega) (by rw [cnt_len]; omega) (conv_sz hbs.p1.sz) (conv_sz hbs.p2.sz)) ?_)
      refine st_if (b := false) (EvT.is (et_test (ev_op (d1 := .list ((cntM (1 + m) (besideM F1 G) b).map .int)) (ev_counts_to (ea_cons (ev_beside (ea_cons (ev_var rfl) (ea_cons (ev_var rfl) ea_nil)) hbs.f1 hbs.f2 hbs.nm) (ea_cons (ev_var rfl) ea_nil)) hbs.p3) (ev_var rfl) (rv_neD (dpo_intL _) (dpo_intL _) ((lay_ints _).shp (by decide)) ((lay_ints _).shp (by decide))))) ?_) (fun e => by cases e) (fun e => ?_)
      · rw [eqv_ints, hbs.cv, decide_eq_true rfl]
        rfl
      · refine st_nil (Nx.sub (List.nil_sublist _) (hN.wkn (by repeat' (first | exact True.intro | exact Or.inr rfl | exact Or.inl rfl | refine And.intro ?_ ?_))))
    · show Nx K _ (tRet (tC (.bl true)) { nx := fun x H' => kr V.non H', rt := kr }) _ _
      exact st_ret (R := R) (d := .bool true) ev_bl hrt hR
end
end Lc

namespace Lc
open PySem PySem.Spec PyProof.Rows L2 RZ

/-! plain facts: the paths are the points with Q ≤ b, each once -/
theorem flo_floor (q : Rat) : flo q = q.floor := by
  unfold flo Rat.floor
  split
  · rename_i h
    rw [h]
    simp
  · rfl
theorem flo_le (q : Rat) : ((flo q : Int) : Rat) ≤ q := by rw [flo_floor]; exact Rat.floor_le q
theorem lt_flo (q : Rat) : q < ((flo q : Int) : Rat) + 1 := by
  rw [flo_floor]
  have := Rat.lt_floor (x := q)
  grind
theorem le_div {a b c : Rat} (hc : 0 < c) : a ≤ b / c ↔ a * c ≤ b := by
  rw [← Rat.not_lt, Rat.div_lt_iff hc, Rat.not_lt]
theorem sq_nonneg (t : Rat) : 0 ≤ t * t := by
  rcases Rat.le_total (a := 0) (b := t) with h | h
  · exact Rat.mul_nonneg h h
  · have := Rat.mul_nonneg (show 0 ≤ -t by grind) (show 0 ≤ -t by grind)
    grind
theorem sq_le {r t : Rat} (h : r ≤ t) (h0 : 0 ≤ r) : r * r ≤ t * t := by
  have := Rat.mul_nonneg (show 0 ≤ t - r by grind) (show 0 ≤ t + r by grind)
  grind
theorem sq_lt_abs {t r : Rat} (h : t * t < r * r) (h0 : 0 ≤ r) : -r < t ∧ t < r := by
  constructor
  · by_cases z : -r < t
    · exact z
    · have z := Rat.not_lt.mp z
      have := sq_le (r := r) (t := -t) (by grind) h0
      grind
  · by_cases z : t < r
    · exact z
    · have z := Rat.not_lt.mp z
      have := sq_le (r := r) (t := t) z h0
      grind
theorem keep_iff {w m c : Rat} (hw : 0 < w) {x : Int} : keepX w m c x = true ↔ w * (((x : Rat) - m) * ((x : Rat) - m)) ≤ c := by
  unfold keepX
  rw [Bool.not_eq_true', decide_eq_false_iff_not, Rat.not_lt, le_div hw, Rat.mul_comm]
theorem ends_mem {w m c : Rat} (hw : 0 < w) {x : Int} : x ∈ endsM w m c ↔ w * (((x : Rat) - m) * ((x : Rat) - m)) ≤ c := by
  unfold endsM
  rw [List.mem_filter, keep_iff hw]
  refine ⟨fun h => h.2, fun h => ⟨?_, h⟩⟩
  have h1 : ((x : Rat) - m) * ((x : Rat) - m) ≤ c / w := (le_div hw).mpr (by rw [Rat.mul_comm]; exact h)
  have h2 := lt_flo (c / w)
  have h3 := rt_lt (flo (c / w))
  have h0 := rt_nonneg (flo (c / w))
  have hf : (farM w c : Int) = rt (flo (c / w)) + 1 := by unfold farM; omega
  have h4 : flo (c / w) + 1 ≤ (farM w c : Int) * (farM w c : Int) := by rw [hf]; omega
  have h5 : ((flo (c / w) : Int) : Rat) + 1 ≤ (((farM w c : Int)) : Rat) * (((farM w c : Int)) : Rat) := by
    have := Rat.intCast_le_intCast.mpr h4
    rw [Rat.intCast_add, Rat.intCast_mul] at this
    exact this
  have hf0 : (0 : Rat) ≤ (((farM w c : Int)) : Rat) := by
    have := Rat.intCast_le_intCast.mpr (show (0 : Int) ≤ (farM w c : Int) by omega)
    exact this
  have h6 := sq_lt_abs (t := (x : Rat) - m) (r := (((farM w c : Int)) : Rat)) (by grind) hf0
  have h7 := flo_le m
  have h8 := lt_flo m
  have h9 : flo m - (farM w c : Int) ≤ x := by
    have : ((flo m - (farM w c : Int) : Int) : Rat) < ((x : Int) : Rat) := by
      rw [Rat.intCast_sub]
      grind
    have := Rat.intCast_lt_intCast.mp this
    omega
  have h10 : x < flo m + 1 + (farM w c : Int) := by
    have : ((x : Int) : Rat) < ((flo m + 1 + (farM w c : Int) : Int) : Rat) := by
      rw [Rat.intCast_add, Rat.intCast_add]
      grind
    exact Rat.intCast_lt_intCast.mp this
  unfold endL
  exact List.mem_map.mpr ⟨(x - (flo m - (farM w c : Int))).toNat, List.mem_range.mpr (by omega), by omega⟩
theorem ends_nodup (w m c : Rat) : (endsM w m c).Nodup := by
  unfold endsM endL
  refine List.Pairwise.filter _ ?_
  rw [List.pairwise_map]
  refine List.Pairwise.imp (fun h e => h ?_) (List.nodup_range (n := 2 * farM w c + 2))
  omega
theorem ends_len (w m c : Rat) : (endsM w m c).length ≤ 2 * farM w c + 2 := by
  unfold endsM endL
  refine Nat.le_trans (List.length_filter_le _ _) ?_
  rw [List.length_map, List.length_range]
  exact Nat.le_refl _
def qp (n : Nat) (F : List (List Int)) : List Int → Rat
  | [] => 0
  | x :: l => qp n F l + wq F (n - 1 - l.length) * (((x : Rat) - midM F (n - 1 - l.length) l) * ((x : Rat) - midM F (n - 1 - l.length) l))
def Pos (n : Nat) (F : List (List Int)) : Prop := ∀ k, k < n → 0 < wq F k
theorem qp_nonneg {n : Nat} {F : List (List Int)} (hp : Pos n F) : ∀ l : List Int, l.length ≤ n → 0 ≤ qp n F l
  | [], _ => Rat.le_refl
  | x :: l, h => by
    rw [List.length_cons] at h
    have h1 := qp_nonneg hp l (by omega)
    have h2 := Rat.mul_nonneg (Rat.le_of_lt (hp (n - 1 - l.length) (by omega))) (sq_nonneg ((x : Rat) - midM F (n - 1 - l.length) l))
    show 0 ≤ qp n F l + _
    grind
theorem qp_tail {n : Nat} {F : List (List Int)} (hp : Pos n F) {x : Int} {l : List Int} (h : (x :: l).length ≤ n) : qp n F l ≤ qp n F (x :: l) := by
  rw [List.length_cons] at h
  have h2 := Rat.mul_nonneg (Rat.le_of_lt (hp (n - 1 - l.length) (by omega))) (sq_nonneg ((x : Rat) - midM F (n - 1 - l.length) l))
  show _ ≤ qp n F l + _
  grind
theorem step_far (F : List (List Int)) (k : Nat) (q : List Int × Rat) (x : Int) : (stepF F k q x).2 = q.2 + wq F k * (((x : Rat) - midM F k q.1) * ((x : Rat) - midM F k q.1)) := by
  unfold stepF sumQ
  show 0 + q.2 + _ = _
  grind
theorem paths_sound {n b : Nat} {F : List (List Int)} (hp : Pos n F) : ∀ j, j ≤ n → ∀ q ∈ pathsM n F b j, q.1.length = j ∧ q.2 = qp n F q.1 ∧ q.2 ≤ ((b : Int) : Rat)
  | 0, _, q, hq => by
    have : q = ([], 0) := by simpa [pathsM] using hq
    subst this
    refine ⟨rfl, rfl, ?_⟩
    have := Rat.intCast_le_intCast.mpr (show (0 : Int) ≤ (b : Int) by omega)
    exact this
  | j + 1, hj, q, hq => by
    obtain ⟨q0, h1, h2⟩ := List.mem_flatMap.mp hq
    obtain ⟨x, h3, rfl⟩ := List.mem_map.mp h2
    obtain ⟨e1, e2, e3⟩ := paths_sound hp j (by omega) q0 h1
    have hk : n - 1 - j < n := by omega
    have h4 := (ends_mem (hp _ hk)).mp h3
    refine ⟨by show (x :: q0.1).length = _; rw [List.length_cons, e1], ?_, ?_⟩
    · rw [step_far]
      show _ = qp n F (x :: q0.1)
      unfold qp
      rw [e1, e2]
    · rw [step_far]
      grind
theorem paths_complete {n b : Nat} {F : List (List Int)} (hp : Pos n F) : ∀ j, j ≤ n → ∀ l : List Int, l.length = j → qp n F l ≤ ((b : Int) : Rat) → (l, qp n F l) ∈ pathsM n F b j
  | 0, _, l, hl, _ => by
    obtain rfl := List.eq_nil_of_length_eq_zero hl
    exact List.mem_cons_self
  | j + 1, hj, [], hl, _ => by simp at hl
  | j + 1, hj, x :: l, hl, h => by
    have hl' : l.length = j := by simpa using hl
    have h1 := qp_tail hp (x := x) (l := l) (by omega)
    have h2 := paths_complete (b := b) hp j (by omega) l hl' (by grind)
    have hk : n - 1 - j < n := by omega
    have e : qp n F (x :: l) = qp n F l + wq F (n - 1 - j) * (((x : Rat) - midM F (n - 1 - j) l) * ((x : Rat) - midM F (n - 1 - j) l)) := by
      show qp n F l + wq F (n - 1 - l.length) * _ = _
      rw [hl']
    refine List.mem_flatMap.mpr ⟨(l, qp n F l), h2, List.mem_map.mpr ⟨x, (ends_mem (hp _ hk)).mpr (by show _ ≤ _ - qp n F l; grind), ?_⟩⟩
    refine Prod.ext rfl ?_
    rw [step_far, e]
theorem paths_nodup {n b : Nat} {F : List (List Int)} : ∀ j, (pathsM n F b j).Pairwise fun q q' => q.1 ≠ q'.1
  | 0 => by show List.Pairwise _ [_]; simp
  | j + 1 => by
    show List.Pairwise _ ((pathsM n F b j).flatMap _)
    rw [List.pairwise_flatMap]
    refine ⟨fun q _ => ?_, ?_⟩
    · unfold stepM
      rw [List.pairwise_map]
      exact List.Pairwise.imp (fun h e => h (List.cons.inj e).1) (ends_nodup _ _ _)
    · refine List.Pairwise.imp (fun h x hx y hy e => h ?_) (paths_nodup j)
      obtain ⟨u, _, rfl⟩ := List.mem_map.mp hx
      obtain ⟨v, _, rfl⟩ := List.mem_map.mp hy
      exact (List.cons.inj e).2
theorem flatMap_len_le {α β : Type} (f : α → List β) (B : Nat) : ∀ l : List α, (∀ a ∈ l, (f a).length ≤ B) → (l.flatMap f).length ≤ l.length * B
  | [], _ => by simp
  | a :: l, h => by
    have := flatMap_len_le f B l fun x hx => h x (List.mem_cons_of_mem _ hx)
    have h1 := h a List.mem_cons_self
    rw [List.flatMap_cons, List.length_append, List.length_cons, Nat.succ_mul]
    omega
end Lc

namespace Lc
open PySem PySem.Spec PyProof.Rows L2 RZ

/-! plain facts: weights and sizes of the law's forms -/
theorem lf1 {F : List (List Int)} (h : LF 1 F) : ∃ a, F = [[a]] ∧ 1 ≤ a ∧ a ≤ 89 := by
  obtain ⟨a, rfl⟩ := mx1 h.fo.mx
  have hp := h.fo.pos 1 (by decide) (by decide)
  have h1 := h.bd [a] (by simp) a (by simp)
  have e : wdet 1 (([[a]].take 1).map (List.take 1)) = a := wdet1 a
  rw [e] at hp
  exact ⟨a, rfl, by omega, by omega⟩
theorem lf2 {F : List (List Int)} (h : LF 2 F) : ∃ a b d, F = [[a, b], [b, d]] ∧ 1 ≤ a ∧ a ≤ 89 ∧ -89 ≤ b ∧ b ≤ 89 ∧ -89 ≤ d ∧ d ≤ 89 ∧ 1 ≤ a * d - b * b := by
  obtain ⟨a, b, c, d, rfl⟩ := mx2 h.fo.mx
  have hp := h.fo.pos 1 (by decide) (by decide)
  have hq := h.fo.pos 2 (by decide) (by decide)
  have hs := h.fo.sym 0 1 (by decide) (by decide)
  have hs : b = c := hs
  subst hs
  have h1 := h.bd [a, b] (by simp) a (by simp)
  have h2 := h.bd [a, b] (by simp) b (by simp)
  have h3 := h.bd [b, d] (by simp) d (by simp)
  have e : wdet 1 (([[a, b], [b, d]].take 1).map (List.take 1)) = a := wdet1 a
  have e2 : wdet 2 (([[a, b], [b, d]].take 2).map (List.take 2)) = a * d - b * b := wdet2 a b b d
  rw [e] at hp
  rw [e2] at hq
  exact ⟨a, b, d, rfl, by omega, by omega, by omega, by omega, by omega, by omega, by omega⟩
def det3 (a b c d e f : Int) : Int := a * (d * f - e * e) - b * (b * f - e * c) + c * (b * e - d * c)
theorem lf3 {F : List (List Int)} (h : LF 3 F) : ∃ a b c d e f, F = [[a, b, c], [b, d, e], [c, e, f]] ∧ 1 ≤ a ∧ a ≤ 89 ∧ -89 ≤ b ∧ b ≤ 89 ∧ -89 ≤ c ∧ c ≤ 89 ∧ -89 ≤ d ∧ d ≤ 89 ∧ -89 ≤ e ∧ e ≤ 89 ∧ -89 ≤ f ∧ f ≤ 89 ∧ 1 ≤ a * d - b * b ∧ 1 ≤ det3 a b c d e f := by
  obtain ⟨a, b, c, b', d, e, c', e', f, rfl⟩ := mx3 h.fo.mx
  have hp := h.fo.pos 1 (by decide) (by decide)
  have hq := h.fo.pos 2 (by decide) (by decide)
  have hr := h.fo.pos 3 (by decide) (by decide)
  have s1 : b = b' := h.fo.sym 0 1 (by decide) (by decide)
  have s2 : c = c' := h.fo.sym 0 2 (by decide) (by decide)
  have s3 : e = e' := h.fo.sym 1 2 (by decide) (by decide)
  subst s1 s2 s3
  have h1 := h.bd [a, b, c] (by simp) a (by simp)
  have h2 := h.bd [a, b, c] (by simp) b (by simp)
  have h3 := h.bd [a, b, c] (by simp) c (by simp)
  have h4 := h.bd [b, d, e] (by simp) d (by simp)
  have h5 := h.bd [b, d, e] (by simp) e (by simp)
  have h6 := h.bd [c, e, f] (by simp) f (by simp)
  have e1 : wdet 1 (([[a, b, c], [b, d, e], [c, e, f]].take 1).map (List.take 1)) = a := wdet1 a
  have e2 : wdet 2 (([[a, b, c], [b, d, e], [c, e, f]].take 2).map (List.take 2)) = a * d - b * b := wdet2 a b b d
  have e3 : wdet 3 (([[a, b, c], [b, d, e], [c, e, f]].take 3).map (List.take 3)) = det3 a b c d e f := wdet3 a b c b d e c e f
  rw [e1] at hp
  rw [e2] at hq
  rw [e3] at hr
  exact ⟨a, b, c, d, e, f, rfl, by omega, by omega, by omega, by omega, by omega, by omega, by omega, by omega, by omega, by omega, by omega, by omega, by omega, by omega⟩
structure Wt (n : Nat) (F : List (List Int)) : Prop where
  n1 : 1 ≤ n
  n3 : n ≤ 3
  mx : Mx n F
  e7 : ∀ i j, i < n → j < n → (ent F i j).natAbs < 2 ^ 7
  w0 : 1 ≤ wq F 0
  w1 : 1 < n → 1 ≤ wq F 1 * 89
  w2 : 2 < n → 1 ≤ wq F 2 * 7921
  r0 : ∀ j, j < n → -128 ≤ rwq F 0 j ∧ rwq F 0 j ≤ 128
  r1 : 2 < n → -1048576 ≤ rwq F 1 2 ∧ rwq F 1 2 ≤ 1048576
theorem bnd_of {r D I B : Rat} (h : r * D = I) (hD : 1 ≤ D) (h0 : 0 ≤ B) (h1 : -B ≤ I) (h2 : I ≤ B) : -B ≤ r ∧ r ≤ B := by
  constructor
  · by_cases z : -B ≤ r
    · exact z
    · have z := Rat.not_le.mp z
      have := Rat.mul_nonneg (show 0 ≤ -r - B by grind) (show 0 ≤ D - 1 by grind)
      have := Rat.mul_nonneg h0 (show 0 ≤ D - 1 by grind)
      grind
  · by_cases z : r ≤ B
    · exact z
    · have z := Rat.not_le.mp z
      have := Rat.mul_nonneg (show 0 ≤ r - B by grind) (show 0 ≤ D - 1 by grind)
      have := Rat.mul_nonneg h0 (show 0 ≤ D - 1 by grind)
      grind
theorem castle {a b : Int} (h : a ≤ b) : (a : Rat) ≤ (b : Rat) := Rat.intCast_le_intCast.mpr h
theorem r0_form {F : List (List Int)} {j : Nat} : rwq F 0 j = ((ent F 0 j : Int) : Rat) / ((ent F 0 0 : Int) : Rat) := by
  unfold rwq rqOf
  rw [if_pos (Nat.zero_le j)]
  rfl
theorem l1_form {F : List (List Int)} {i j : Nat} : lq F 1 i j = ((ent F i j : Int) : Rat) - ((ent F 0 0 : Int) : Rat) * ((((ent F 0 i : Int) : Rat) / ((ent F 0 0 : Int) : Rat)) * (((ent F 0 j : Int) : Rat) / ((ent F 0 0 : Int) : Rat))) := by
  show lq F 0 i j - lq F 0 0 0 * (rqOf (lq F 0) 0 i * rqOf (lq F 0) 0 j) = _
  unfold rqOf
  rw [if_pos (Nat.zero_le i), if_pos (Nat.zero_le j)]
  rfl
theorem l2_form {F : List (List Int)} {i j : Nat} (hi : 1 ≤ i) (hj : 1 ≤ j) : lq F 2 i j = lq F 1 i j - lq F 1 1 1 * ((lq F 1 1 i / lq F 1 1 1) * (lq F 1 1 j / lq F 1 1 1)) := by
  show lq F 1 i j - lq F 1 1 1 * (rqOf (lq F 1) 1 i * rqOf (lq F 1) 1 j) = _
  unfold rqOf
  rw [if_pos hi, if_pos hj]
theorem r1_form {F : List (List Int)} {j : Nat} (hj : 1 ≤ j) : rwq F 1 j = lq F 1 1 j / lq F 1 1 1 := by
  unfold rwq rqOf
  rw [if_pos hj]
theorem r0_bd {a x : Int} (h1 : 1 ≤ a) (h2 : -89 ≤ x) (h3 : x ≤ 89) : -128 ≤ ((x : Int) : Rat) / ((a : Int) : Rat) ∧ ((x : Int) : Rat) / ((a : Int) : Rat) ≤ 128 := by
  have k1 : (1 : Rat) ≤ (a : Rat) := castle h1
  have k2 : (-89 : Rat) ≤ (x : Rat) := castle h2
  have k3 : (x : Rat) ≤ (89 : Rat) := castle h3
  exact bnd_of (D := (a : Rat)) (I := (x : Rat)) (by grind) k1 (by grind) (by grind) (by grind)
theorem mul_bd {x y : Int} {B C : Nat} (hx : x.natAbs ≤ B) (hy : y.natAbs ≤ C) : -((B * C : Nat) : Int) ≤ x * y ∧ x * y ≤ ((B * C : Nat) : Int) := by
  have := mulle hx hy
  omega
theorem ge_of_mul {w D : Rat} {B : Rat} (hw : 0 < D) (hD : D ≤ B) (h : 1 ≤ w * D) : 1 ≤ w * B ∧ 0 < w := by
  have h0 : 0 < w := by
    by_cases z : 0 < w
    · exact z
    · have z := Rat.not_lt.mp z
      have := Rat.mul_nonneg (show 0 ≤ -w by grind) (Rat.le_of_lt hw)
      grind
  have := Rat.mul_nonneg (Rat.le_of_lt h0) (show 0 ≤ B - D by grind)
  exact ⟨by grind, h0⟩
theorem wt_of : ∀ {n : Nat} {F : List (List Int)}, LF n F → Wt n F
  | 0, F, h => by have := h.fo.n1; omega
  | 1, F, h => by
    obtain ⟨a, rfl, h1, h2⟩ := lf1 h
    refine ⟨by decide, by decide, h.fo.mx, fun i j hi hj => ?_, castle h1, fun z => absurd z (by decide), fun z => absurd z (by decide), fun j hj => ?_, fun z => absurd z (by decide)⟩
    · obtain rfl : i = 0 := by omega
      obtain rfl : j = 0 := by omega
      show a.natAbs < 128
      omega
    · obtain rfl : j = 0 := by omega
      rw [r0_form]
      exact r0_bd h1 (show -89 ≤ a by omega) h2
  | 2, F, h => by
    obtain ⟨a, b, d, rfl, h1, h2, h3, h4, h5, h6, h7⟩ := lf2 h
    have k1 : (1 : Rat) ≤ (a : Rat) := castle h1
    have k2 : (a : Rat) ≤ (89 : Rat) := castle h2
    have hw1 : wq [[a, b], [b, d]] 1 = (d : Rat) - (a : Rat) * (((b : Rat) / (a : Rat)) * ((b : Rat) / (a : Rat))) := l1_form
    have hD : wq [[a, b], [b, d]] 1 * (a : Rat) = ((a * d - b * b : Int) : Rat) := by
      rw [hw1, Rat.intCast_sub, Rat.intCast_mul, Rat.intCast_mul]
      grind
    have hD1 : (1 : Rat) ≤ ((a * d - b * b : Int) : Rat) := castle h7
    refine ⟨by decide, by decide, h.fo.mx, fun i j hi hj => ?_, k1, fun _ => (ge_of_mul (D := (a : Rat)) (by grind) k2 (by rw [hD]; exact hD1)).1, fun z => absurd z (by decide), fun j hj => ?_, fun z => absurd z (by decide)⟩
    · have hi : i = 0 ∨ i = 1 := by omega
      have hj : j = 0 ∨ j = 1 := by omega
      rcases hi with rfl | rfl <;> rcases hj with rfl | rfl
      · show a.natAbs < 128; omega
      · show b.natAbs < 128; omega
      · show b.natAbs < 128; omega
      · show d.natAbs < 128; omega
    · have hj : j = 0 ∨ j = 1 := by omega
      rw [r0_form]
      rcases hj with rfl | rfl
      · exact r0_bd h1 (show -89 ≤ a by omega) h2
      · exact r0_bd h1 h3 h4
  | 3, F, h => by
    obtain ⟨a, b, c, d, e, f, rfl, h1, h2, h3, h4, h5, h6, h7, h8, h9, h10, h11, h12, h13, h14⟩ := lf3 h
    have k1 : (1 : Rat) ≤ (a : Rat) := castle h1
    have k2 : (a : Rat) ≤ (89 : Rat) := castle h2
    have hw1 : wq [[a, b, c], [b, d, e], [c, e, f]] 1 = (d : Rat) - (a : Rat) * (((b : Rat) / (a : Rat)) * ((b : Rat) / (a : Rat))) := l1_form
    have hl12 : lq [[a, b, c], [b, d, e], [c, e, f]] 1 1 2 = (e : Rat) - (a : Rat) * (((b : Rat) / (a : Rat)) * ((c : Rat) / (a : Rat))) := l1_form
    have hl22 : lq [[a, b, c], [b, d, e], [c, e, f]] 1 2 2 = (f : Rat) - (a : Rat) * (((c : Rat) / (a : Rat)) * ((c : Rat) / (a : Rat))) := l1_form
    have hw2 : wq [[a, b, c], [b, d, e], [c, e, f]] 2 = lq [[a, b, c], [b, d, e], [c, e, f]] 1 2 2 - wq [[a, b, c], [b, d, e], [c, e, f]] 1 * ((lq [[a, b, c], [b, d, e], [c, e, f]] 1 1 2 / wq [[a, b, c], [b, d, e], [c, e, f]] 1) * (lq [[a, b, c], [b, d, e], [c, e, f]] 1 1 2 / wq [[a, b, c], [b, d, e], [c, e, f]] 1)) := l2_form (by decide) (by decide)
    have hr1 : rwq [[a, b, c], [b, d, e], [c, e, f]] 1 2 = lq [[a, b, c], [b, d, e], [c, e, f]] 1 1 2 / wq [[a, b, c], [b, d, e], [c, e, f]] 1 := r1_form (by decide)
    generalize hw1e : wq [[a, b, c], [b, d, e], [c, e, f]] 1 = w1 at *
    generalize lq [[a, b, c], [b, d, e], [c, e, f]] 1 1 2 = l12 at *
    generalize lq [[a, b, c], [b, d, e], [c, e, f]] 1 2 2 = l22 at *
    have hD : w1 * (a : Rat) = ((a * d - b * b : Int) : Rat) := by
      rw [hw1, Rat.intCast_sub, Rat.intCast_mul, Rat.intCast_mul]
      grind
    have hD1 : (1 : Rat) ≤ ((a * d - b * b : Int) : Rat) := castle h13
    have hG := ge_of_mul (D := (a : Rat)) (by grind) k2 (by rw [hD]; exact hD1)
    have hw10 := hG.2
    have hI : l12 * (a : Rat) = ((a * e - b * c : Int) : Rat) := by
      rw [hl12, Rat.intCast_sub, Rat.intCast_mul, Rat.intCast_mul]
      grind
    have hJ : l22 * (a : Rat) = ((a * f - c * c : Int) : Rat) := by
      rw [hl22, Rat.intCast_sub, Rat.intCast_mul, Rat.intCast_mul]
      grind
    have hD3 : wq [[a, b, c], [b, d, e], [c, e, f]] 2 * (w1 * (a : Rat)) = ((det3 a b c d e f : Int) : Rat) := by
      have e1 : wq [[a, b, c], [b, d, e], [c, e, f]] 2 * (w1 * (a : Rat)) * (a : Rat) = (l22 * (a : Rat)) * (w1 * (a : Rat)) - (l12 * (a : Rat)) * (l12 * (a : Rat)) := by
        rw [hw2]
        grind
      rw [hJ, hD, hI] at e1
      have e2 : ((det3 a b c d e f : Int) : Rat) * (a : Rat) = ((a * f - c * c : Int) : Rat) * ((a * d - b * b : Int) : Rat) - ((a * e - b * c : Int) : Rat) * ((a * e - b * c : Int) : Rat) := by
        rw [← Rat.intCast_mul, ← Rat.intCast_mul, ← Rat.intCast_mul, ← Rat.intCast_sub]
        congr 1
        unfold det3
        grind
      rw [hD]
      have a0 : (a : Rat) ≠ 0 := by grind
      grind
    have m1 := mul_bd (x := a) (y := d) (B := 89) (C := 89) (by omega) (by omega)
    have m2 := mul_bd (x := a) (y := e) (B := 89) (C := 89) (by omega) (by omega)
    have m3 := mul_bd (x := b) (y := c) (B := 89) (C := 89) (by omega) (by omega)
    have m4 := sq_nn b
    have hD7 : ((a * d - b * b : Int) : Rat) ≤ (7921 : Rat) := by
      have : ((a * d - b * b : Int) : Rat) ≤ ((7921 : Int) : Rat) := castle (by omega)
      exact this
    have w10 : w1 ≠ 0 := fun e => by
      rw [e] at hw10
      exact Rat.lt_irrefl hw10
    have hD31 : (1 : Rat) ≤ ((det3 a b c d e f : Int) : Rat) := castle h14
    refine ⟨by decide, by decide, h.fo.mx, fun i j hi hj => ?_, k1, fun _ => (by rw [hw1e]; exact hG.1), fun _ => (ge_of_mul (D := w1 * (a : Rat)) (by rw [hD]; grind) (by rw [hD]; exact hD7) (by rw [hD3]; exact hD31)).1, fun j hj => ?_, fun _ => ?_⟩
    · have hi : i = 0 ∨ i = 1 ∨ i = 2 := by omega
      have hj : j = 0 ∨ j = 1 ∨ j = 2 := by omega
      rcases hi with rfl | rfl | rfl <;> rcases hj with rfl | rfl | rfl
      · show a.natAbs < 128; omega
      · show b.natAbs < 128; omega
      · show c.natAbs < 128; omega
      · show b.natAbs < 128; omega
      · show d.natAbs < 128; omega
      · show e.natAbs < 128; omega
      · show c.natAbs < 128; omega
      · show e.natAbs < 128; omega
      · show f.natAbs < 128; omega
    · have hj : j = 0 ∨ j = 1 ∨ j = 2 := by omega
      rw [r0_form]
      rcases hj with rfl | rfl | rfl
      · exact r0_bd h1 (show -89 ≤ a by omega) h2
      · exact r0_bd h1 h3 h4
      · exact r0_bd h1 h5 h6
    · rw [hr1]
      refine bnd_of (D := w1 * (a : Rat)) (I := ((a * e - b * c : Int) : Rat)) ?_ (by rw [hD]; exact hD1) (by grind) ?_ ?_
      · rw [← hI, ← Rat.mul_assoc, Rat.div_mul_cancel w10]
      · have : ((-15842 : Int) : Rat) ≤ ((a * e - b * c : Int) : Rat) := castle (by omega)
        have e : ((-15842 : Int) : Rat) = (-15842 : Rat) := rfl
        grind
      · have : ((a * e - b * c : Int) : Rat) ≤ ((15842 : Int) : Rat) := castle (by omega)
        have e : ((15842 : Int) : Rat) = (15842 : Rat) := rfl
        grind
  | n + 4, F, h => by have := h.fo.n3; omega
theorem Wt.pos {n : Nat} {F : List (List Int)} (W : Wt n F) : Pos n F := fun k hk => by
  have h3 := W.n3
  have hk3 : k = 0 ∨ k = 1 ∨ k = 2 := by omega
  rcases hk3 with rfl | rfl | rfl
  · have := W.w0
    grind
  · exact (ge_of_mul (D := 89) (by decide) Rat.le_refl (W.w1 hk)).2
  · exact (ge_of_mul (D := 7921) (by decide) Rat.le_refl (W.w2 hk)).2
theorem Wt.big {n : Nat} {F : List (List Int)} (W : Wt n F) : ∀ k, k < n → 1 ≤ wq F k * 7921 := fun k hk => by
  have h3 := W.n3
  have hp := W.pos k hk
  have hk3 : k = 0 ∨ k = 1 ∨ k = 2 := by omega
  rcases hk3 with rfl | rfl | rfl
  · have := W.w0
    grind
  · have := W.w1 hk
    grind
  · exact W.w2 hk
theorem Wt.szs {n : Nat} {F : List (List Int)} (W : Wt n F) : (∀ i j, i < n → j < n → Sz 7 (lq F 0 i j)) ∧ (1 < n → ∀ i j, i < n → j < n → Sz 43 (lq F 1 i j)) ∧ (2 < n → ∀ i j, i < n → j < n → Sz 259 (lq F 2 i j)) ∧ (∀ j, j < n → Sz 14 (rwq F 0 j)) ∧ (1 < n → ∀ j, j < n → Sz 86 (rwq F 1 j)) ∧ (2 < n → ∀ j, j < n → Sz 518 (rwq F 2 j)) := by
  have hn := W.n1
  have hr : ∀ {s : Nat} {a : Nat → Nat → Rat} {k : Nat}, 1 ≤ s → (∀ i j, i < n → j < n → Sz s (a i j)) → k < n → 0 < a k k → ∀ j, j < n → Sz (s + s) (rqOf a k j) := fun hs h hk hp j hj => by
    unfold rqOf
    split
    · exact (h _ j hk hj).div (h _ _ hk hk) hp
    · exact Sz.zero (by omega)
  have s0 : ∀ i j, i < n → j < n → Sz 7 (lq F 0 i j) := fun i j hi hj => Sz.int (W.e7 i j hi hj) (by decide)
  have r0 := hr (a := lq F 0) (k := 0) (by decide) s0 (by omega) (W.pos 0 (by omega))
  have s1 : 1 < n → ∀ i j, i < n → j < n → Sz 43 (lq F 1 i j) := fun h1 i j hi hj => ((s0 i j hi hj).sub ((s0 0 0 (by omega) (by omega)).mul ((r0 i hi).mul (r0 j hj)))).mono (by decide)
  have r1 := fun h1 : 1 < n => hr (a := lq F 1) (k := 1) (by decide) (s1 h1) h1 (W.pos 1 h1)
  have s2 : 2 < n → ∀ i j, i < n → j < n → Sz 259 (lq F 2 i j) := fun h2 i j hi hj => ((s1 (by omega) i j hi hj).sub ((s1 (by omega) 1 1 (by omega) (by omega)).mul ((r1 (by omega) i hi).mul (r1 (by omega) j hj)))).mono (by decide)
  have r2 := fun h2 : 2 < n => hr (a := lq F 2) (k := 2) (by decide) (s2 h2) h2 (W.pos 2 h2)
  exact ⟨s0, s1, s2, r0, r1, r2⟩
theorem Wt.sq {n : Nat} {F : List (List Int)} (W : Wt n F) : SqOk n F := by
  obtain ⟨s0, s1, s2, r0, r1, r2⟩ := W.szs
  have h3 := W.n3
  refine ⟨W.pos, fun k i j hk hi hj => ?_, fun k j hk hj => ?_⟩
  · have hk3 : k = 0 ∨ k = 1 ∨ k = 2 := by omega
    rcases hk3 with rfl | rfl | rfl
    · exact (s0 i j hi hj).mono (by decide)
    · exact (s1 hk i j hi hj).mono (by decide)
    · exact (s2 hk i j hi hj).mono (by decide)
  · have hk3 : k = 0 ∨ k = 1 ∨ k = 2 := by omega
    rcases hk3 with rfl | rfl | rfl
    · exact (r0 j hj).mono (by decide)
    · exact (r1 hk j hj).mono (by decide)
    · exact (r2 hk j hj).mono (by decide)
theorem Wt.r86 {n : Nat} {F : List (List Int)} (W : Wt n F) {k j : Nat} (hk : k + 1 < n) (hj : j < n) : Sz 86 (rwq F k j) := by
  obtain ⟨s0, s1, s2, r0, r1, r2⟩ := W.szs
  have h3 := W.n3
  have hk3 : k = 0 ∨ k = 1 := by omega
  rcases hk3 with rfl | rfl
  · exact (r0 j hj).mono (by decide)
  · exact r1 (by omega) j hj
end Lc

namespace Lc
open PySem PySem.Spec PyProof.Rows L2 RZ

/-! plain facts: PNok for the law's forms, bounds to 89 -/
theorem flo_abs {m : Rat} {Y : Nat} (h1 : -((Y : Int) : Rat) ≤ m) (h2 : m ≤ ((Y : Int) : Rat)) : (flo m).natAbs ≤ Y + 1 := by
  have k1 := flo_le m
  have k2 := lt_flo m
  have a1 : ((flo m : Int) : Rat) ≤ ((Y : Int) : Rat) := by grind
  have a1 := Rat.intCast_le_intCast.mp a1
  have a2 : ((-(Y : Int) - 1 : Int) : Rat) < ((flo m : Int) : Rat) := by
    rw [Rat.intCast_sub, Rat.intCast_neg]
    grind
  have a2 := Rat.intCast_lt_intCast.mp a2
  omega
theorem far_le {w c : Rat} {r : Nat} (h : flo (c / w) < ((r : Int) + 1) * ((r : Int) + 1)) : farM w c ≤ r + 1 := by
  unfold farM
  have h0 := rt_nonneg (flo (c / w))
  have : rt (flo (c / w)) < (r : Int) + 1 := by
    rcases Int.lt_or_le (flo (c / w)) 0 with z | z
    · rw [rt_neg (by omega)]
      omega
    · have h1 := rt_le z
      exact sq_lt h0 (by omega) (by omega)
  omega
theorem flo_lt {w c B : Rat} {N : Int} (hw : 0 < w) (h : c < ((N : Int) : Rat) * w) : flo (c / w) < N := by
  have h1 : c / w < ((N : Int) : Rat) := (Rat.div_lt_iff hw).mpr h
  have h2 := flo_le (c / w)
  exact Rat.intCast_lt_intCast.mp (by grind)
theorem ends_abs {w m c : Rat} {Y r : Nat} (hf : farM w c ≤ r) (hm : (flo m).natAbs ≤ Y) {x : Int} (hx : x ∈ endsM w m c) : x.natAbs ≤ Y + r + 1 := by
  have h1 := (List.mem_filter.mp hx).1
  obtain ⟨i, hi, rfl⟩ := List.mem_map.mp h1
  have hi := List.mem_range.mp hi
  omega
theorem cast_abs {x : Int} {X : Nat} (h : x.natAbs ≤ X) : -((X : Int) : Rat) ≤ (x : Rat) ∧ (x : Rat) ≤ ((X : Int) : Rat) := by
  refine ⟨?_, castle (by omega)⟩
  have : ((-(X : Int) : Int) : Rat) ≤ (x : Rat) := castle (by omega)
  rw [Rat.intCast_neg] at this
  exact this
/-- |r| ≤ B, |x| ≤ X: |r (0 - x)| ≤ B X -/
theorem term_bd {r x B X : Rat} (hB : 0 ≤ B) (hX : 0 ≤ X) (h1 : -B ≤ r) (h2 : r ≤ B) (h3 : -X ≤ x) (h4 : x ≤ X) : -(B * X) ≤ r * (0 - x) ∧ r * (0 - x) ≤ B * X := by
  have k1 := Rat.mul_nonneg (show 0 ≤ B - r by grind) (show 0 ≤ X - x by grind)
  have k2 := Rat.mul_nonneg (show 0 ≤ B + r by grind) (show 0 ≤ X + x by grind)
  have k3 := Rat.mul_nonneg (show 0 ≤ B - r by grind) (show 0 ≤ X + x by grind)
  have k4 := Rat.mul_nonneg (show 0 ≤ B + r by grind) (show 0 ≤ X - x by grind)
  constructor <;> grind
def tm (F : List (List Int)) (k i : Nat) (x : Int) : Rat := rwq F k (k + 1 + i) * (0 - (x : Rat))
theorem shift0 (F : List (List Int)) (k : Nat) : shiftL F k [] = [] := rfl
theorem shift1 (F : List (List Int)) (k : Nat) (x : Int) : shiftL F k [x] = [tm F k 0 x] := rfl
theorem shift2 (F : List (List Int)) (k : Nat) (x y : Int) : shiftL F k [x, y] = [tm F k 0 x, tm F k 1 y] := rfl
theorem mid0 (F : List (List Int)) (k : Nat) : midM F k [] = 0 := by
  unfold midM sumQ
  rw [shift0]
  show (0 : Rat) + 0 + 0 = 0
  grind
theorem mid1 (F : List (List Int)) (k : Nat) (x : Int) : midM F k [x] = tm F k 0 x := by
  unfold midM sumQ
  rw [shift1]
  show (0 : Rat) + 0 + (0 + tm F k 0 x) = _
  grind
theorem mid2 (F : List (List Int)) (k : Nat) (x y : Int) : midM F k [x, y] = tm F k 0 x + tm F k 1 y := by
  unfold midM sumQ
  rw [shift2]
  show (0 : Rat) + 0 + (0 + tm F k 0 x + tm F k 1 y) = _
  grind
section
variable {n b : Nat} {F : List (List Int)}
theorem Wt.tmsz (W : Wt n F) {k i : Nat} {x : Int} (hk : k + 1 + i < n) (hx : x.natAbs < 2 ^ 41) : Sz 129 (tm F k i x) :=
  ((W.r86 (k := k) (j := k + 1 + i) (by omega) hk).mul ((Sz.zero (n := 1) (by decide)).sub (Sz.int hx (by decide)))).mono (by decide)
theorem Wt.shsz (W : Wt n F) {k : Nat} {l : List Int} (hl : l.length + k + 1 = n) (hx : ∀ x ∈ l, x.natAbs < 2 ^ 41) : (∀ i, Sz 700 (sumQ ((shiftL F k l).take i))) ∧ Sz 300 (midM F k l) := by
  have h3 := W.n3
  have z1 : Sz 1 (0 : Rat) := Sz.zero (by decide)
  match l, hl, hx with
  | [], _, _ =>
    refine ⟨fun i => ?_, by rw [mid0]; exact Sz.zero (by decide)⟩
    rw [shift0, List.take_nil]
    exact Sz.zero (by decide)
  | [x], hl, hx =>
    have hl : 1 + k + 1 = n := hl
    have t := W.tmsz (k := k) (i := 0) (by omega) (hx x List.mem_cons_self)
    refine ⟨fun i => ?_, by rw [mid1]; exact t.mono (by decide)⟩
    rw [shift1]
    match i with
    | 0 => exact Sz.zero (by decide)
    | i + 1 =>
      rw [List.take_of_length_le (by simp)]
      exact (z1.add t).mono (by decide)
  | [x, y], hl, hx =>
    have hl : 2 + k + 1 = n := hl
    have t := W.tmsz (k := k) (i := 0) (by omega) (hx x List.mem_cons_self)
    have u := W.tmsz (k := k) (i := 1) (by omega) (hx y (List.mem_cons_of_mem _ List.mem_cons_self))
    refine ⟨fun i => ?_, by rw [mid2]; exact (t.add u).mono (by decide)⟩
    rw [shift2]
    match i with
    | 0 => exact Sz.zero (by decide)
    | 1 => exact (z1.add t).mono (by decide)
    | i + 2 =>
      rw [List.take_of_length_le (by simp)]
      exact ((z1.add t).add u).mono (by decide)
  | x :: y :: z :: l, hl, _ =>
    simp at hl
    omega
structure Inv (n : Nat) (F : List (List Int)) (b j : Nat) (q : List Int × Rat) : Prop where
  so : StepOk n F (n - 1 - j) b q
  fl : (flo (midM F (n - 1 - j) q.1)).natAbs ≤ (if j = 0 then 0 else if j = 1 then 2 ^ 30 + 1 else 2 ^ 39 + 1)
  sz : Sz (950 * (j + 1)) q.2
theorem Wt.cw (W : Wt n F) (hb : b ≤ 89) {k : Nat} (hk : k < n) {f : Rat} (hf : 0 ≤ f) : flo ((((b : Int) : Rat) - f) / wq F k) < 705600 := by
  have hw := W.pos k hk
  have hB := W.big k hk
  have hb1 : ((b : Int) : Rat) ≤ ((89 : Int) : Rat) := castle (by omega)
  have e : ((89 : Int) : Rat) = (89 : Rat) := rfl
  refine flo_lt (B := 0) (N := 705600) hw ?_
  have e2 : ((705600 : Int) : Rat) = (705600 : Rat) := rfl
  rw [e2]
  grind
theorem Wt.fars (W : Wt n F) (hb : b ≤ 89) {k : Nat} (hk : k < n) {f : Rat} (hf : 0 ≤ f) : farM (wq F k) (((b : Int) : Rat) - f) ≤ 840 := far_le (r := 839) (W.cw hb hk hf)
theorem Wt.mk_so (W : Wt n F) (hb : b ≤ 89) {j : Nat} (hj : j < n) {q : List Int × Rat} (hq : q ∈ pathsM n F b j) (hx : ∀ x ∈ q.1, x.natAbs < 2 ^ 41) (hfl : (flo (midM F (n - 1 - j) q.1)).natAbs < 2 ^ 40) (hs : Sz (950 * (j + 1)) q.2) : StepOk n F (n - 1 - j) b q := by
  obtain ⟨e1, e2, e3⟩ := paths_sound W.pos j (by omega) q hq
  have h3 := W.n3
  have hk : n - 1 - j < n := by omega
  have hq0 : 0 ≤ q.2 := by rw [e2]; exact qp_nonneg W.pos _ (by omega)
  have hl : q.1.length + (n - 1 - j) + 1 = n := by omega
  obtain ⟨s1, s2⟩ := W.shsz (k := n - 1 - j) hl hx
  have hs2 : Sz 2850 q.2 := hs.mono (by omega)
  have hcw := W.cw hb hk hq0
  refine ⟨hl, hx, ⟨W.pos _ hk, W.sq.sl _ _ _ hk hk hk, s2, ((Sz.int (n := 7) (i := (b : Int)) (by show b < 128; omega) (by decide)).sub hs2).mono (by decide), hfl, by omega⟩, hs2.mono (by decide), s1⟩
theorem Wt.far_next (W : Wt n F) {j : Nat} {q : List Int × Rat} {x : Int} (so : StepOk n F (n - 1 - j) b q) (hs : Sz (950 * (j + 1)) q.2) (hx : x ∈ endsM (wq F (n - 1 - j)) (midM F (n - 1 - j) q.1) (((b : Int) : Rat) - q.2)) : Sz (950 * (j + 2)) (stepF F (n - 1 - j) q x).2 := by
  have sx : Sz 41 (x : Rat) := Sz.int (endsM_sz so.eo hx) (by decide)
  have so1 := sx.sub so.eo.sm
  have so2 := so.eo.sw.mul (so1.mul so1)
  rw [step_far]
  exact (hs.add so2).mono (by omega)
theorem Wt.inv (W : Wt n F) (hb : b ≤ 89) : ∀ j, j < n → ∀ q ∈ pathsM n F b j, Inv n F b j q
  | 0, hj, q, hq => by
    have e : q = ([], 0) := by simpa [pathsM] using hq
    subst e
    have hf : (flo (midM F (n - 1 - 0) [])).natAbs = 0 := by rw [mid0]; rfl
    have hs : Sz (950 * (0 + 1)) (0 : Rat) := Sz.zero (by decide)
    exact ⟨W.mk_so hb hj hq (fun x h => nomatch h) (by show (flo (midM F (n - 1 - 0) [])).natAbs < _; rw [hf]; decide) hs, by show (flo (midM F (n - 1 - 0) [])).natAbs ≤ _; rw [hf]; exact Nat.zero_le _, hs⟩
  | 1, hj, q, hq => by
    have h3 := W.n3
    obtain ⟨q0, h1, h2⟩ := List.mem_flatMap.mp hq
    obtain ⟨x, hx, rfl⟩ := List.mem_map.mp h2
    have I := W.inv hb 0 (by omega) q0 h1
    have e : q0 = ([], 0) := by simpa [pathsM] using h1
    subst e
    have hq0 : (0 : Rat) ≤ 0 := Rat.le_refl
    have hxa : x.natAbs ≤ 0 + 840 + 1 := ends_abs (W.fars hb (by omega) hq0) I.fl hx
    have hs := W.far_next I.so I.sz hx
    have hx41 : ∀ y ∈ [x], y.natAbs < 2 ^ 41 := fun y hy => by
      have : y = x := by simpa using hy
      subst this
      exact endsM_sz I.so.eo hx
    have hmid : (flo (midM F (n - 1 - 1) [x])).natAbs ≤ 2 ^ 30 + 1 := by
      rw [mid1]
      obtain ⟨c1, c2⟩ := cast_abs (X := 1024) (show x.natAbs ≤ 1024 by omega)
      have eX : (((1024 : Nat) : Int) : Rat) = (1024 : Rat) := rfl
      rw [eX] at c1 c2
      have hr : -1048576 ≤ rwq F (n - 1 - 1) (n - 1 - 1 + 1 + 0) ∧ rwq F (n - 1 - 1) (n - 1 - 1 + 1 + 0) ≤ 1048576 := by
        have hn : n = 2 ∨ n = 3 := by omega
        rcases hn with rfl | rfl
        · have := W.r0 1 (by decide)
          have e : rwq F (2 - 1 - 1) (2 - 1 - 1 + 1 + 0) = rwq F 0 1 := rfl
          rw [e]
          grind
        · exact W.r1 (by decide)
      obtain ⟨t1, t2⟩ := term_bd (B := 1048576) (X := 1024) (by decide) (by decide) hr.1 hr.2 c1 c2
      have eB : (1048576 : Rat) * 1024 = ((((2 ^ 30 : Nat)) : Int) : Rat) := by
        have e : ((((2 ^ 30 : Nat)) : Int) : Rat) = (1073741824 : Rat) := rfl
        rw [e]
        grind
      rw [eB] at t1 t2
      exact flo_abs t1 t2
    exact ⟨W.mk_so hb hj hq hx41 (by show (flo (midM F (n - 1 - 1) [x])).natAbs < _; exact Nat.lt_of_le_of_lt hmid (by decide)) hs, hmid, hs⟩
  | 2, hj, q, hq => by
    have h3 := W.n3
    have IH1 := W.inv hb 1 (by omega)
    have IH0 := W.inv hb 0 (by omega)
    obtain rfl : n = 3 := by omega
    obtain ⟨q1, h1, h2⟩ := List.mem_flatMap.mp hq
    obtain ⟨y, hy, rfl⟩ := List.mem_map.mp h2
    have I := IH1 q1 h1
    obtain ⟨e1, e2, e3⟩ := paths_sound W.pos 1 (by omega) q1 h1
    obtain ⟨q0, h4, h5⟩ := List.mem_flatMap.mp h1
    obtain ⟨x, hx, rfl⟩ := List.mem_map.mp h5
    have e : q0 = ([], 0) := by simpa [pathsM] using h4
    subst e
    have I0 := IH0 _ h4
    have hxa : x.natAbs ≤ 0 + 840 + 1 := ends_abs (W.fars hb (by omega) (Rat.le_refl)) I0.fl hx
    have hf1 : 0 ≤ (stepF F (3 - 1 - 0) ([], 0) x).2 := by rw [e2]; exact qp_nonneg W.pos _ (by omega)
    have hya : y.natAbs ≤ 2 ^ 30 + 1 + 840 + 1 := ends_abs (W.fars hb (by omega) hf1) I.fl hy
    have hs := W.far_next I.so I.sz hy
    have p30 : (2 : Nat) ^ 30 = 1073741824 := by decide
    have p31 : (2 : Nat) ^ 31 = 2147483648 := by decide
    have p41 : (2 : Nat) ^ 41 = 2199023255552 := by decide
    have hx41 : ∀ z ∈ [y, x], z.natAbs < 2 ^ 41 := fun z hz => by
      rcases List.mem_cons.mp hz with e | hz
      · rw [e]; omega
      · have : z = x := by simpa using hz
        rw [this]; omega
    have hmid : (flo (midM F (3 - 1 - 2) [y, x])).natAbs ≤ 2 ^ 39 + 1 := by
      rw [mid2]
      obtain ⟨c1, c2⟩ := cast_abs (X := 2 ^ 31) (show y.natAbs ≤ 2 ^ 31 by omega)
      obtain ⟨d1, d2⟩ := cast_abs (X := 2 ^ 31) (show x.natAbs ≤ 2 ^ 31 by omega)
      have hr := W.r0 1 (by decide)
      have hr2 := W.r0 2 (by decide)
      have e31 : (((2 ^ 31 : Nat) : Int) : Rat) = (2147483648 : Rat) := rfl
      have x0 : (0 : Rat) ≤ (((2 ^ 31 : Nat) : Int) : Rat) := by rw [e31]; grind
      obtain ⟨t1, t2⟩ := term_bd (B := 128) (by decide) x0 hr.1 hr.2 c1 c2
      obtain ⟨u1, u2⟩ := term_bd (B := 128) (by decide) x0 hr2.1 hr2.2 d1 d2
      have eB : (128 : Rat) * (((2 ^ 31 : Nat) : Int) : Rat) + (128 : Rat) * (((2 ^ 31 : Nat) : Int) : Rat) = (((2 ^ 39 : Nat) : Int) : Rat) := by
        have e : (((2 ^ 39 : Nat) : Int) : Rat) = (549755813888 : Rat) := rfl
        rw [e31, e]
        grind
      have a1 : tm F (3 - 1 - 2) 0 y = rwq F 0 1 * (0 - (y : Rat)) := rfl
      have a2 : tm F (3 - 1 - 2) 1 x = rwq F 0 2 * (0 - (x : Rat)) := rfl
      rw [a1, a2]
      refine flo_abs ?_ ?_ <;> rw [← eB] <;> grind
    exact ⟨W.mk_so hb hj hq hx41 (by show (flo (midM F (3 - 1 - 2) [y, x])).natAbs < _; exact Nat.lt_of_le_of_lt hmid (by decide)) hs, hmid, hs⟩
  | j + 3, hj, q, hq => by have := W.n3; omega
theorem Wt.lens (W : Wt n F) (hb : b ≤ 89) : ∀ j, j ≤ n → (pathsM n F b j).length ≤ 10000000 := by
  have h3 := W.n3
  have hb1 : ((b : Int) : Rat) ≤ ((89 : Int) : Rat) := castle (by omega)
  have e89 : ((89 : Int) : Rat) = (89 : Rat) := rfl
  rw [e89] at hb1
  -- one step
  have step : ∀ (j r : Nat), j < n → (∀ f : Rat, 0 ≤ f → farM (wq F (n - 1 - j)) (((b : Int) : Rat) - f) ≤ r) → (pathsM n F b (j + 1)).length ≤ (pathsM n F b j).length * (2 * r + 2) := fun j r hj hr => by
    refine flatMap_len_le _ _ _ fun q hq => ?_
    obtain ⟨e1, e2, e3⟩ := paths_sound W.pos j (by omega) q hq
    have hq0 : 0 ≤ q.2 := by rw [e2]; exact qp_nonneg W.pos _ (by omega)
    have := hr q.2 hq0
    unfold stepM
    rw [List.length_map]
    have := ends_len (wq F (n - 1 - j)) (midM F (n - 1 - j) q.1) (((b : Int) : Rat) - q.2)
    omega
  have f0 : ∀ f : Rat, 0 ≤ f → farM (wq F 0) (((b : Int) : Rat) - f) ≤ 10 := fun f hf => far_le (r := 9) (flo_lt (B := 0) (N := (((9 : Nat) : Int) + 1) * (((9 : Nat) : Int) + 1)) (W.pos 0 W.n1) (by
    have e : (((((9 : Nat) : Int) + 1) * (((9 : Nat) : Int) + 1) : Int) : Rat) = (100 : Rat) := rfl
    rw [e]
    have := W.w0
    grind))
  have f1 : 1 < n → ∀ f : Rat, 0 ≤ f → farM (wq F 1) (((b : Int) : Rat) - f) ≤ 90 := fun h1 f hf => far_le (r := 89) (flo_lt (B := 0) (N := (((89 : Nat) : Int) + 1) * (((89 : Nat) : Int) + 1)) (W.pos 1 h1) (by
    have e : (((((89 : Nat) : Int) + 1) * (((89 : Nat) : Int) + 1) : Int) : Rat) = (8100 : Rat) := rfl
    rw [e]
    have := W.w1 h1
    have := W.pos 1 h1
    grind))
  have f2 : 2 < n → ∀ f : Rat, 0 ≤ f → farM (wq F 2) (((b : Int) : Rat) - f) ≤ 840 := fun h2 f hf => W.fars hb h2 hf
  have l0 : (pathsM n F b 0).length = 1 := rfl
  have hn1 := W.n1
  have hn : n = 1 ∨ n = 2 ∨ n = 3 := by omega
  rcases hn with rfl | rfl | rfl
  · have s0 := step 0 10 (by decide) f0
    rw [l0] at s0
    intro j hj
    have hj : j = 0 ∨ j = 1 := by omega
    rcases hj with rfl | rfl
    · rw [l0]; decide
    · exact Nat.le_trans s0 (by decide)
  · have s0 := step 0 90 (by decide) (f1 (by decide))
    rw [l0] at s0
    have s1 := Nat.le_trans (step 1 10 (by decide) f0) (Nat.mul_le_mul_right _ s0)
    intro j hj
    have hj : j = 0 ∨ j = 1 ∨ j = 2 := by omega
    rcases hj with rfl | rfl | rfl
    · rw [l0]; decide
    · exact Nat.le_trans s0 (by decide)
    · exact Nat.le_trans s1 (by decide)
  · have s0 := step 0 840 (by decide) (f2 (by decide))
    rw [l0] at s0
    have s1 := Nat.le_trans (step 1 90 (by decide) (f1 (by decide))) (Nat.mul_le_mul_right _ s0)
    have s2 := Nat.le_trans (step 2 10 (by decide) f0) (Nat.mul_le_mul_right _ s1)
    intro j hj
    have hj : j = 0 ∨ j = 1 ∨ j = 2 ∨ j = 3 := by omega
    rcases hj with rfl | rfl | rfl | rfl
    · rw [l0]; decide
    · exact Nat.le_trans s0 (by decide)
    · exact Nat.le_trans s1 (by decide)
    · exact Nat.le_trans s2 (by decide)
theorem Wt.pn (W : Wt n F) (hb : b ≤ 89) : PNok n F b := ⟨W.n3, W.mx, W.sq, Nat.lt_of_le_of_lt hb (by decide), fun j hj q hq => (W.inv hb j hj q hq).so, W.lens hb⟩
end
end Lc

namespace Lc
open PySem PySem.Spec PyProof.Rows L2 RZ

/-! plain facts: the far of a path is the form's value; what the lists of points hold -/
def qf (F : List (List Int)) (p : List Int) : Int := prodM F p p
theorem qf1 (a x : Int) : qf [[a]] [x] = a * x * x := by
  simp [qf, prodM, prodP, dotI]
  grind
theorem qf2 (a b d x y : Int) : qf [[a, b], [b, d]] [x, y] = a * x * x + 2 * b * x * y + d * y * y := by
  simp [qf, prodM, prodP, dotI]
  grind
theorem qf3 (a b c d e f x y z : Int) : qf [[a, b, c], [b, d, e], [c, e, f]] [x, y, z] = a * x * x + 2 * b * x * y + 2 * c * x * z + d * y * y + 2 * e * y * z + f * z * z := by
  simp [qf, prodM, prodP, dotI]
  grind
theorem ldl3 {a b c d e f x y z β γ ρ w1 l12 l22 w2 : Rat} (h1 : β * a = b) (h2 : γ * a = c) (h3 : w1 = d - a * (β * β)) (h4 : l12 = e - a * (β * γ)) (h5 : l22 = f - a * (γ * γ)) (h6 : ρ * w1 = l12) (h7 : w2 = l22 - w1 * (ρ * ρ)) :
    0 + w2 * ((z - 0) * (z - 0)) + w1 * ((y - ρ * (0 - z)) * (y - ρ * (0 - z))) + a * ((x - (β * (0 - y) + γ * (0 - z))) * (x - (β * (0 - y) + γ * (0 - z)))) = a * x * x + 2 * b * x * y + 2 * c * x * z + d * y * y + 2 * e * y * z + f * z * z := by
  grind
theorem ldl2 {a b d x y β w1 : Rat} (h1 : β * a = b) (h3 : w1 = d - a * (β * β)) : 0 + w1 * ((y - 0) * (y - 0)) + a * ((x - β * (0 - y)) * (x - β * (0 - y))) = a * x * x + 2 * b * x * y + d * y * y := by
  grind
theorem qp_eq : ∀ {n : Nat} {F : List (List Int)}, LF n F → ∀ p : List Int, p.length = n → qp n F p = ((qf F p : Int) : Rat)
  | 0, _, h, _, _ => by have := h.fo.n1; omega
  | 1, F, h, p, hp => by
    obtain ⟨a, rfl, h1, h2⟩ := lf1 h
    match p, hp with
    | [x], _ =>
      rw [qf1, Rat.intCast_mul, Rat.intCast_mul]
      show 0 + wq [[a]] 0 * (((x : Rat) - midM [[a]] 0 []) * ((x : Rat) - midM [[a]] 0 [])) = _
      have : wq [[a]] 0 = (a : Rat) := rfl
      rw [mid0, this]
      grind
  | 2, F, h, p, hp => by
    obtain ⟨a, b, d, rfl, h1, _⟩ := lf2 h
    match p, hp with
    | [x, y], _ =>
      have k1 : (1 : Rat) ≤ (a : Rat) := castle h1
      have a0 : (a : Rat) ≠ 0 := fun e => by rw [e] at k1; exact absurd k1 (by decide)
      rw [qf2]
      show 0 + wq [[a, b], [b, d]] 1 * (((y : Rat) - midM [[a, b], [b, d]] 1 []) * ((y : Rat) - midM [[a, b], [b, d]] 1 [])) + wq [[a, b], [b, d]] 0 * (((x : Rat) - midM [[a, b], [b, d]] 0 [y]) * ((x : Rat) - midM [[a, b], [b, d]] 0 [y])) = _
      have e1 : wq [[a, b], [b, d]] 1 = (d : Rat) - (a : Rat) * (((b : Rat) / (a : Rat)) * ((b : Rat) / (a : Rat))) := l1_form
      have e0 : wq [[a, b], [b, d]] 0 = (a : Rat) := rfl
      have et : tm [[a, b], [b, d]] 0 0 y = ((b : Rat) / (a : Rat)) * (0 - (y : Rat)) := by
        unfold tm
        rw [r0_form]
        rfl
      rw [mid0, mid1, et, e0, ldl2 (b := (b : Rat)) (d := (d : Rat)) (Rat.div_mul_cancel a0) e1]
      simp only [Rat.intCast_add, Rat.intCast_mul]
      rfl
  | 3, F, h, p, hp => by
    obtain ⟨a, b, c, d, e, f, rfl, h1, _⟩ := lf3 h
    match p, hp with
    | [x, y, z], _ =>
      have k1 : (1 : Rat) ≤ (a : Rat) := castle h1
      have a0 : (a : Rat) ≠ 0 := fun e => by rw [e] at k1; exact absurd k1 (by decide)
      have hw1 : wq [[a, b, c], [b, d, e], [c, e, f]] 1 = (d : Rat) - (a : Rat) * (((b : Rat) / (a : Rat)) * ((b : Rat) / (a : Rat))) := l1_form
      have hl12 : lq [[a, b, c], [b, d, e], [c, e, f]] 1 1 2 = (e : Rat) - (a : Rat) * (((b : Rat) / (a : Rat)) * ((c : Rat) / (a : Rat))) := l1_form
      have hl22 : lq [[a, b, c], [b, d, e], [c, e, f]] 1 2 2 = (f : Rat) - (a : Rat) * (((c : Rat) / (a : Rat)) * ((c : Rat) / (a : Rat))) := l1_form
      have hw2 : wq [[a, b, c], [b, d, e], [c, e, f]] 2 = lq [[a, b, c], [b, d, e], [c, e, f]] 1 2 2 - wq [[a, b, c], [b, d, e], [c, e, f]] 1 * ((lq [[a, b, c], [b, d, e], [c, e, f]] 1 1 2 / wq [[a, b, c], [b, d, e], [c, e, f]] 1) * (lq [[a, b, c], [b, d, e], [c, e, f]] 1 1 2 / wq [[a, b, c], [b, d, e], [c, e, f]] 1)) := l2_form (by decide) (by decide)
      have hr1 : rwq [[a, b, c], [b, d, e], [c, e, f]] 1 2 = lq [[a, b, c], [b, d, e], [c, e, f]] 1 1 2 / wq [[a, b, c], [b, d, e], [c, e, f]] 1 := r1_form (by decide)
      have hp1 := (wt_of h).pos 1 (by decide)
      have w10 : wq [[a, b, c], [b, d, e], [c, e, f]] 1 ≠ 0 := fun e => by
        rw [e] at hp1
        exact Rat.lt_irrefl hp1
      rw [qf3]
      show 0 + wq [[a, b, c], [b, d, e], [c, e, f]] 2 * (((z : Rat) - midM [[a, b, c], [b, d, e], [c, e, f]] 2 []) * ((z : Rat) - midM [[a, b, c], [b, d, e], [c, e, f]] 2 [])) + wq [[a, b, c], [b, d, e], [c, e, f]] 1 * (((y : Rat) - midM [[a, b, c], [b, d, e], [c, e, f]] 1 [z]) * ((y : Rat) - midM [[a, b, c], [b, d, e], [c, e, f]] 1 [z])) + wq [[a, b, c], [b, d, e], [c, e, f]] 0 * (((x : Rat) - midM [[a, b, c], [b, d, e], [c, e, f]] 0 [y, z]) * ((x : Rat) - midM [[a, b, c], [b, d, e], [c, e, f]] 0 [y, z])) = _
      have e0 : wq [[a, b, c], [b, d, e], [c, e, f]] 0 = (a : Rat) := rfl
      have t1 : tm [[a, b, c], [b, d, e], [c, e, f]] 0 0 y = ((b : Rat) / (a : Rat)) * (0 - (y : Rat)) := by
        unfold tm
        rw [r0_form]
        rfl
      have t2 : tm [[a, b, c], [b, d, e], [c, e, f]] 0 1 z = ((c : Rat) / (a : Rat)) * (0 - (z : Rat)) := by
        unfold tm
        rw [r0_form]
        rfl
      have t3 : tm [[a, b, c], [b, d, e], [c, e, f]] 1 0 z = (lq [[a, b, c], [b, d, e], [c, e, f]] 1 1 2 / wq [[a, b, c], [b, d, e], [c, e, f]] 1) * (0 - (z : Rat)) := by
        unfold tm
        rw [← hr1]
      rw [mid0, mid1, mid2, t1, t2, t3, e0, ldl3 (b := (b : Rat)) (c := (c : Rat)) (d := (d : Rat)) (e := (e : Rat)) (f := (f : Rat)) (Rat.div_mul_cancel a0) (Rat.div_mul_cancel a0) hw1 hl12 hl22 (Rat.div_mul_cancel w10) hw2]
      simp only [Rat.intCast_add, Rat.intCast_mul]
      rfl
  | n + 4, _, h, _, _ => by have := h.fo.n3; omega
section
variable {n b : Nat} {F : List (List Int)}
theorem qf_nonneg (h : LF n F) {p : List Int} (hp : p.length = n) : 0 ≤ qf F p := by
  have h1 := qp_nonneg (wt_of h).pos p (by omega)
  rw [qp_eq h p hp] at h1
  exact Rat.intCast_le_intCast.mp h1
theorem path_far (h : LF n F) {q : List Int × Rat} (hq : q ∈ pathsM n F b n) : q.1.length = n ∧ q.2 = ((qf F q.1 : Int) : Rat) ∧ qf F q.1 ≤ (b : Int) := by
  obtain ⟨e1, e2, e3⟩ := paths_sound (wt_of h).pos n (Nat.le_refl n) q hq
  rw [qp_eq h _ e1] at e2
  rw [e2] at e3
  exact ⟨e1, e2, Rat.intCast_le_intCast.mp e3⟩
theorem path_den (h : LF n F) : ∀ q ∈ pathsM n F b n, q.2.den = 1 := fun q hq => by
  rw [(path_far h hq).2.1]
  rfl
theorem path_num (h : LF n F) {q : List Int × Rat} (hq : q ∈ pathsM n F b n) : q.2.num = qf F q.1 := by
  rw [(path_far h hq).2.1]
  rfl
theorem raw_mem (h : LF n F) {p : List Int} {i : Int} : (p, i) ∈ rawM n F b ↔ p.length = n ∧ i = qf F p ∧ qf F p ≤ (b : Int) := by
  unfold rawM
  rw [List.mem_map]
  constructor
  · rintro ⟨q, hq, e⟩
    obtain ⟨e1, e2, e3⟩ := path_far h hq
    have := path_num h hq
    cases e
    exact ⟨e1, this, e3⟩
  · rintro ⟨h1, rfl, h3⟩
    have h4 := paths_complete (b := b) (wt_of h).pos n (Nat.le_refl n) p h1 (by rw [qp_eq h p h1]; exact castle h3)
    refine ⟨_, h4, ?_⟩
    rw [qp_eq h p h1]
    rfl
theorem raw_nodup : (rawM n F b).Nodup := by
  unfold rawM
  show List.Pairwise _ _
  rw [List.pairwise_map]
  exact List.Pairwise.imp (fun h e => h (Prod.mk.inj e).1) (paths_nodup (n := n) (F := F) (b := b) n)
theorem pb_perm : (pbM n F b).Perm (rawM n F b) := List.mergeSort_perm _ _
theorem pb_nodup : (pbM n F b).Nodup := pb_perm.symm.nodup raw_nodup
theorem pb_mem (h : LF n F) {p : List Int} {i : Int} : (p, i) ∈ pbM n F b ↔ p.length = n ∧ i = qf F p ∧ qf F p ≤ (b : Int) := by rw [pbM_mem, raw_mem h]
theorem pb_ok (h : LF n F) (hb : b ≤ 89) : PBok n F b := ⟨h.fo, (wt_of h).pn hb, fun q hq => by
  rw [path_num h hq]
  obtain ⟨e1, e2, e3⟩ := path_far h hq
  exact ⟨qf_nonneg h e1, e3⟩, fun q hq => (path_far h hq).1, by omega⟩
end
end Lc

namespace Lc
open PySem PySem.Spec PyProof.Rows L2 RZ

/-! plain facts: the counts -/
theorem sum_add {α : Type} (f g : α → Int) : ∀ l : List α, (l.map fun x => f x + g x).sum = (l.map f).sum + (l.map g).sum
  | [] => rfl
  | x :: l => by
    have := sum_add f g l
    simp only [List.map_cons, List.sum_cons]
    omega
theorem sum_ind {κ : Type} [DecidableEq κ] (k : κ) : ∀ ks : List κ, ks.Nodup → (ks.map fun x => if k = x then (1 : Int) else 0).sum = if k ∈ ks then 1 else 0
  | [], _ => rfl
  | x :: ks, nd => by
    rw [List.nodup_cons] at nd
    have ih := sum_ind k ks nd.2
    rw [List.map_cons, List.sum_cons, ih]
    by_cases h : k = x
    · subst h
      rw [if_pos rfl, if_neg nd.1, if_pos List.mem_cons_self]
      rfl
    · rw [if_neg h]
      by_cases h2 : k ∈ ks
      · rw [if_pos h2, if_pos (List.mem_cons_of_mem _ h2)]
        rfl
      · rw [if_neg h2, if_neg (fun z => (List.mem_cons.mp z).elim h h2)]
        rfl
theorem sum_zero {α : Type} : ∀ l : List α, (l.map fun _ => (0 : Int)).sum = 0
  | [] => rfl
  | _ :: l => by rw [List.map_cons, List.sum_cons, sum_zero l]; rfl
theorem sum_congr {α : Type} {f g : α → Int} {l : List α} (h : ∀ x ∈ l, f x = g x) : (l.map f).sum = (l.map g).sum := by rw [List.map_congr_left h]
theorem sum_filter {α : Type} (c : α → Bool) (f : α → Int) : ∀ l : List α, ((l.filter c).map f).sum = (l.map fun x => if c x = true then f x else 0).sum
  | [] => rfl
  | x :: l => by
    have ih := sum_filter c f l
    by_cases h : c x = true
    · rw [List.filter_cons_of_pos h, List.map_cons, List.map_cons, List.sum_cons, List.sum_cons, ih, if_pos h]
    · rw [List.filter_cons_of_neg h, List.map_cons, List.sum_cons, ih, if_neg h]
      omega
/-- rows by their keys -/
theorem part {α κ : Type} [DecidableEq κ] (ks : List κ) (nd : ks.Nodup) (key : α → κ) (P : α → Bool) : ∀ rows : List α, (∀ q ∈ rows, P q = true → key q ∈ ks) → (ks.map fun k => ((rows.countP fun q => P q && decide (key q = k) : Nat) : Int)).sum = (rows.countP P : Nat)
  | [], _ => by
    simp only [List.countP_nil]
    exact sum_zero ks
  | q :: rows, h => by
    have ih := part ks nd key P rows fun x hx => h x (List.mem_cons_of_mem _ hx)
    have e : (ks.map fun k => (((q :: rows).countP fun q => P q && decide (key q = k) : Nat) : Int)) = ks.map fun k => ((rows.countP fun q => P q && decide (key q = k) : Nat) : Int) + (if P q = true then (if key q = k then 1 else 0) else 0) := by
      refine List.map_congr_left fun k _ => ?_
      rw [List.countP_cons]
      by_cases hP : P q = true
      · by_cases hk : key q = k
        · simp [hP, hk]
        · simp [hP, hk]
      · simp [hP]
    rw [e, sum_add, ih, List.countP_cons]
    by_cases hP : P q = true
    · simp only [hP, if_true]
      rw [sum_ind _ _ nd, if_pos (h q List.mem_cons_self hP)]
      omega
    · have e2 : (ks.map fun k => if P q = true then (if key q = k then (1 : Int) else 0) else 0) = ks.map fun _ => 0 := List.map_congr_left fun k _ => by rw [if_neg hP]
      rw [e2, sum_zero, if_neg hP]
      omega
section
variable {n b : Nat} {F : List (List Int)}
theorem filt_nodup {α : Type} {l : List α} (c : α → Bool) (h : l.Nodup) : (l.filter c).Nodup := List.Pairwise.filter c h
theorem cnt_same (h : LF n F) {b' l : Nat} (h1 : l ≤ b) (h2 : l ≤ b') : (pbM n F b).countP (fun q => decide (q.2 = (l : Int))) = (pbM n F b').countP fun q => decide (q.2 = (l : Int)) := by
  rw [List.countP_eq_length_filter, List.countP_eq_length_filter]
  refine List.Perm.length_eq ((List.perm_ext_iff_of_nodup (filt_nodup _ pb_nodup) (filt_nodup _ pb_nodup)).mpr fun q => ?_)
  obtain ⟨p, i⟩ := q
  rw [List.mem_filter, List.mem_filter, pb_mem h, pb_mem h]
  constructor
  · rintro ⟨⟨e1, e2, e3⟩, e4⟩
    have e4 := of_decide_eq_true e4
    simp only at e4
    exact ⟨⟨e1, e2, by omega⟩, decide_eq_true e4⟩
  · rintro ⟨⟨e1, e2, e3⟩, e4⟩
    have e4 := of_decide_eq_true e4
    simp only at e4
    exact ⟨⟨e1, e2, by omega⟩, decide_eq_true e4⟩
theorem m_c1 (h : LF n F) : cntM n F b = (List.range (b + 1)).map fun l => ((atM n F l).length : Int) := by
  unfold cntM tallyM atM
  refine List.map_congr_left fun l hl => ?_
  have hl := List.mem_range.mp hl
  rw [cnt_same h (b' := l) (by omega) (Nat.le_refl l), List.countP_eq_length_filter, List.length_map]
theorem m_c5 (h : LF n F) : ((pbM n F b).length : Int) = (cntM n F b).sum := by
  have := part ((List.range (b + 1)).map fun (l : Nat) => (l : Int)) ?_ (fun q : List Int × Int => q.2) (fun _ => true) (pbM n F b) fun q hq _ => ?_
  · rw [List.map_map] at this
    unfold cntM tallyM
    rw [List.countP_true] at this
    rw [← this]
    exact sum_congr fun l _ => by simp
  · show List.Pairwise _ _
    rw [List.pairwise_map]
    exact List.Pairwise.imp (fun h e => h (by omega)) List.nodup_range
  · obtain ⟨e1, e2, e3⟩ := (pb_mem h (p := q.1) (i := q.2)).mp hq
    have e4 := qf_nonneg h e1
    exact List.mem_map.mpr ⟨q.2.toNat, List.mem_range.mpr (by omega), by omega⟩
theorem m_c3 (h : LF n F) : cntM n F b = (List.range (b + 1)).map fun l => ((srtR n).map fun k => (crow (rawM n F b) k b).getD l 0).sum := by
  unfold cntM tallyM
  refine List.map_congr_left fun l hl => ?_
  have hl := List.mem_range.mp hl
  have h3 := h.fo.n3
  have hp := part (srtR n) ((List.mergeSort_perm _ _).symm.nodup (restsM_nd h3)) (fun q : List Int × Int => restOf q.1) (fun q => decide (q.2 = (l : Int))) (rawM n F b) fun q hq _ => ?_
  · rw [pb_perm.countP_eq, ← hp]
    refine sum_congr fun k _ => ?_
    unfold crow tallyM
    rw [List.getD_eq_getElem?_getD, List.getElem?_map, List.getElem?_range hl]
    show _ = ((List.countP _ (List.filter _ _) : Nat) : Int)
    rw [List.countP_filter]
  · obtain ⟨e1, _⟩ := (raw_mem h (p := q.1) (i := q.2)).mp hq
    exact List.mem_mergeSort.mpr (restOf_mem h3 e1)
/-! ### the order -/
theorem le_trans_of {β : Type} (k : β → PD) : ∀ a b c : β, PySem.W.dataLe false k a b = true → PySem.W.dataLe false k b c = true → PySem.W.dataLe false k a c = true := fun a b c h1 h2 => by
  have e : ∀ a b : β, PySem.W.dataLe false k a b = !(PyProof.Rows.KeyOrd.blt (PyProof.Rows.listOrd PyProof.Rows.itemOrd) (PySem.W.keyToks (k b)) (PySem.W.keyToks (k a))) := fun _ _ => rfl
  rw [e] at *
  rw [Bool.not_eq_true', ] at *
  cases hz : PyProof.Rows.KeyOrd.blt (PyProof.Rows.listOrd PyProof.Rows.itemOrd) (PySem.W.keyToks (k c)) (PySem.W.keyToks (k a)) with
  | false => rfl
  | true =>
    rcases PyProof.Rows.KeyOrd.negTrans (PyProof.Rows.listOrd PyProof.Rows.itemOrd) _ (PySem.W.keyToks (k b)) _ hz with z | z
    · rw [z] at h2; cases h2
    · rw [z] at h1; cases h1
theorem le_total_of {β : Type} (k : β → PD) : ∀ a b : β, (PySem.W.dataLe false k a b || PySem.W.dataLe false k b a) = true := fun a b => by
  have e : ∀ a b : β, PySem.W.dataLe false k a b = !(PyProof.Rows.KeyOrd.blt (PyProof.Rows.listOrd PyProof.Rows.itemOrd) (PySem.W.keyToks (k b)) (PySem.W.keyToks (k a))) := fun _ _ => rfl
  rw [e, e]
  cases hz : PyProof.Rows.KeyOrd.blt (PyProof.Rows.listOrd PyProof.Rows.itemOrd) (PySem.W.keyToks (k b)) (PySem.W.keyToks (k a)) with
  | false => rfl
  | true =>
    cases hy : PyProof.Rows.KeyOrd.blt (PyProof.Rows.listOrd PyProof.Rows.itemOrd) (PySem.W.keyToks (k a)) (PySem.W.keyToks (k b)) with
    | false => rfl
    | true =>
      have := PyProof.Rows.KeyOrd.trans (PyProof.Rows.listOrd PyProof.Rows.itemOrd) _ _ _ hz hy
      rw [PyProof.Rows.KeyOrd.irrefl] at this
      cases this
theorem le_pt {a b : List Int × Int} (h : PySem.W.dataLe false encP a b = true) : PySem.W.dataLe false pt a.1 b.1 = true := by
  have h : (!(PySem.W.dataLt (encP b) (encP a))) = true := h
  show (!(PySem.W.dataLt (pt b.1) (pt a.1))) = true
  have e1 : PySem.W.dataLt (encP b) (encP a) = if (⟨b.1⟩ : PySem.W.Tup Int) = ⟨a.1⟩ then PySem.W.DatumOrd.lt b.2 a.2 else PySem.W.DatumOrd.lt (⟨b.1⟩ : PySem.W.Tup Int) ⟨a.1⟩ := PySem.W.DatumOrd.lt_eq (α := PySem.W.Tup Int × Int) (⟨b.1⟩, b.2) (⟨a.1⟩, a.2)
  have e2 : PySem.W.dataLt (pt b.1) (pt a.1) = PySem.W.DatumOrd.lt (⟨b.1⟩ : PySem.W.Tup Int) ⟨a.1⟩ := PySem.W.DatumOrd.lt_eq (α := PySem.W.Tup Int) ⟨b.1⟩ ⟨a.1⟩
  by_cases hz : (⟨b.1⟩ : PySem.W.Tup Int) = ⟨a.1⟩
  · have hz2 : b.1 = a.1 := PySem.W.Tup.mk.inj hz
    rw [hz2, PySem.W.dataLt_self]
    rfl
  · rw [e1, if_neg hz] at h
    rw [e2]
    exact h
theorem m_c6 : ((pbM n F b).map (·.1)).mergeSort (PySem.W.dataLe false pt) = (pbM n F b).map (·.1) := by
  refine List.mergeSort_of_pairwise ?_
  rw [List.pairwise_map]
  exact List.Pairwise.imp le_pt (List.pairwise_mergeSort (le_trans_of encP) (le_total_of encP) _)
/-! ### whole multiples -/
def scale (d : Int) (p : List Int) : List Int := p.map fun x => d * x
theorem scale_len {d : Int} {p : List Int} : (scale d p).length = p.length := List.length_map _
theorem qf_scale : ∀ {n : Nat} {F : List (List Int)}, LF n F → ∀ (d : Int) (p : List Int), p.length = n → qf F (scale d p) = d * d * qf F p
  | 0, _, h, _, _, _ => by have := h.fo.n1; omega
  | 1, F, h, d, p, hp => by
    obtain ⟨a, rfl, _⟩ := lf1 h
    match p, hp with
    | [x], _ =>
      show qf [[a]] [d * x] = _
      rw [qf1, qf1]
      grind
  | 2, F, h, d, p, hp => by
    obtain ⟨a, b, e, rfl, _⟩ := lf2 h
    match p, hp with
    | [x, y], _ =>
      show qf [[a, b], [b, e]] [d * x, d * y] = _
      rw [qf2, qf2]
      grind
  | 3, F, h, d, p, hp => by
    obtain ⟨a, b, c, e, f, g, rfl, _⟩ := lf3 h
    match p, hp with
    | [x, y, z], _ =>
      show qf [[a, b, c], [b, e, f], [c, f, g]] [d * x, d * y, d * z] = _
      rw [qf3, qf3]
      grind
  | n + 4, _, h, _, _, _ => by have := h.fo.n3; omega
def gfold (a : Int) (p : List Int) : Int := p.foldl (fun (a x : Int) => ((Int.gcd a x : Nat) : Int)) a
theorem gcdL_eq (p : List Int) : gcdL p = gfold 0 p := rfl
theorem gfold_scale {d : Int} (hd : 0 ≤ d) : ∀ (p : List Int) (a : Int), gfold (d * a) (scale d p) = d * gfold a p
  | [], a => rfl
  | x :: p, a => by
    show gfold ((Int.gcd (d * a) (d * x) : Nat) : Int) (scale d p) = d * gfold ((Int.gcd a x : Nat) : Int) p
    rw [Int.gcd_mul_left, ← gfold_scale hd p]
    congr 1
    have : ((d.natAbs : Nat) : Int) = d := by omega
    rw [Int.natCast_mul, this]
theorem gfold_dvd : ∀ (p : List Int) (a : Int), gfold a p ∣ a ∧ ∀ x ∈ p, gfold a p ∣ x
  | [], a => ⟨Int.dvd_refl a, fun _ h => nomatch h⟩
  | x :: p, a => by
    obtain ⟨h1, h2⟩ := gfold_dvd p ((Int.gcd a x : Nat) : Int)
    refine ⟨Int.dvd_trans h1 (Int.gcd_dvd_left a x), fun y hy => ?_⟩
    rcases List.mem_cons.mp hy with e | hy
    · rw [e]
      exact Int.dvd_trans h1 (Int.gcd_dvd_right a x)
    · exact h2 y hy
theorem gfold_nonneg : ∀ (p : List Int) (a : Int), 0 ≤ a → 0 ≤ gfold a p
  | [], a, h => h
  | x :: p, a, _ => gfold_nonneg p _ (Int.natCast_nonneg _)
theorem gcdL_nonneg (p : List Int) : 0 ≤ gcdL p := gfold_nonneg p 0 (Int.le_refl 0)
theorem gcdL_scale {d : Int} (hd : 0 ≤ d) (p : List Int) : gcdL (scale d p) = d * gcdL p := by
  have := gfold_scale hd p 0
  rw [Int.mul_zero] at this
  exact this
theorem scale_div {d : Int} {p : List Int} (h : ∀ x ∈ p, d ∣ x) : scale d (p.map fun x => x / d) = p := by
  unfold scale
  rw [List.map_map]
  have : p.map ((fun x => d * x) ∘ fun x => x / d) = p.map id := List.map_congr_left fun x hx => Int.mul_ediv_cancel' (h x hx)
  rw [this, List.map_id]
theorem scale_inj {d : Int} (hd : d ≠ 0) : ∀ {p q : List Int}, scale d p = scale d q → p = q
  | [], [], _ => rfl
  | [], _ :: _, e => by cases e
  | _ :: _, [], e => by cases e
  | x :: p, y :: q, e => by
    have e : d * x :: scale d p = d * y :: scale d q := e
    injection e with e1 e2
    rw [Int.eq_of_mul_eq_mul_left hd e1, scale_inj hd e2]
theorem gcd_split (h : LF n F) {p : List Int} (hp : p.length = n) : ∃ p' : List Int, p'.length = n ∧ p = scale (gcdL p) p' ∧ qf F p = gcdL p * gcdL p * qf F p' ∧ (gcdL p ≠ 0 → gcdL p' = 1) := by
  have hd : ∀ x ∈ p, gcdL p ∣ x := (gfold_dvd p 0).2
  refine ⟨p.map fun x => x / gcdL p, by rw [List.length_map]; exact hp, (scale_div hd).symm, ?_, fun h0 => ?_⟩
  · rw [← qf_scale h _ _ (by rw [List.length_map]; exact hp), scale_div hd]
  · have := gcdL_scale (gcdL_nonneg p) (p.map fun x => x / gcdL p)
    rw [scale_div hd] at this
    have : gcdL p * gcdL (p.map fun x => x / gcdL p) = gcdL p * 1 := by omega
    exact Int.eq_of_mul_eq_mul_left h0 this
theorem m_one (h : LF n F) {l i : Nat} (h1 : 1 ≤ l) (hl : l ≤ b) : (((pbM n F b).countP fun q => decide (q.2 = (l : Int)) && decide (gcdL q.1 = ((1 + i : Nat) : Int)) : Nat) : Int) = if decide (l % ((1 + i) * (1 + i)) = 0) = true then (bareM n F b).getD (l / ((1 + i) * (1 + i))) 0 else 0 := by
  obtain ⟨d, hd⟩ : ∃ d : Nat, d = 1 + i := ⟨_, rfl⟩
  rw [← hd]
  have hd0 : 0 < d := by omega
  have hdd : 0 < d * d := Nat.mul_pos hd0 hd0
  by_cases hz : l % (d * d) = 0
  · rw [if_pos (decide_eq_true hz)]
    have hle : l / (d * d) ≤ l := Nat.div_le_self _ _
    have hmul : l / (d * d) * (d * d) = l := Nat.div_mul_cancel (Nat.dvd_of_mod_eq_zero hz)
    obtain ⟨m, hm⟩ : ∃ m, m = l / (d * d) := ⟨_, rfl⟩
    rw [← hm] at hle hmul ⊢
    have hmi : (m : Int) * ((d : Int) * (d : Int)) = (l : Int) := by
      rw [← Int.natCast_mul, ← Int.natCast_mul, hmul]
    have eb : (bareM n F b).getD m 0 = ((((pbM n F b).filter fun q => bare q.1).countP fun q => decide (q.2 = (m : Int)) : Nat) : Int) := by
      unfold bareM
      rw [List.getD_eq_getElem?_getD, tally_get (by omega)]
      rfl
    rw [eb, List.countP_eq_length_filter, List.countP_eq_length_filter]
    congr 1
    have e2 : (((pbM n F b).filter fun q => bare q.1).filter fun q => decide (q.2 = (m : Int))).length = ((((pbM n F b).filter fun q => bare q.1).filter fun q => decide (q.2 = (m : Int))).map fun q : List Int × Int => (scale (d : Int) q.1, q.2 * ((d : Int) * (d : Int)))).length := (List.length_map _).symm
    rw [e2]
    have nd2 : ((((pbM n F b).filter fun q => bare q.1).filter fun q => decide (q.2 = (m : Int))).map fun q : List Int × Int => (scale (d : Int) q.1, q.2 * ((d : Int) * (d : Int)))).Nodup := by
      show List.Pairwise _ _
      rw [List.pairwise_map]
      refine List.Pairwise.imp (fun hne e => hne ?_) (filt_nodup _ (filt_nodup _ pb_nodup))
      obtain ⟨e1, e2⟩ := Prod.mk.inj e
      refine Prod.ext (scale_inj (by omega) e1) ?_
      exact Int.eq_of_mul_eq_mul_right (by rw [← Int.natCast_mul]; omega) e2
    refine List.Perm.length_eq ((List.perm_ext_iff_of_nodup (filt_nodup _ pb_nodup) nd2).mpr fun q => ?_)
    obtain ⟨p, j⟩ := q
    rw [List.mem_filter, pb_mem h, List.mem_map]
    constructor
    · rintro ⟨⟨e1, e2, e3⟩, e4⟩
      rw [Bool.and_eq_true, decide_eq_true_eq, decide_eq_true_eq] at e4
      simp only at e4
      obtain ⟨e4, e5⟩ := e4
      obtain ⟨p', k1, k2, k3, k4⟩ := gcd_split h e1
      rw [e5] at k2 k3 k4
      have k4 := k4 (by omega)
      have k5 : qf F p' = (m : Int) := by
        have : (d : Int) * (d : Int) * qf F p' = (d : Int) * (d : Int) * (m : Int) := by
          rw [← k3, ← e2, e4, ← hmi, Int.mul_comm]
        exact Int.eq_of_mul_eq_mul_left (by rw [← Int.natCast_mul]; omega) this
      refine ⟨(p', (m : Int)), ?_, ?_⟩
      · rw [List.mem_filter, List.mem_filter, pb_mem h]
        exact ⟨⟨⟨k1, k5.symm, by omega⟩, decide_eq_true k4⟩, decide_eq_true rfl⟩
      · exact Prod.ext k2.symm (by show (m : Int) * _ = j; rw [hmi, e4])
    · rintro ⟨⟨p', j'⟩, k1, k2⟩
      rw [List.mem_filter, List.mem_filter, pb_mem h, decide_eq_true_eq] at k1
      simp only at k1
      obtain ⟨⟨⟨k3, k4, k5⟩, k6⟩, k7⟩ := k1
      obtain ⟨e1, e2⟩ := Prod.mk.inj k2
      simp only at e1 e2
      have k6 : gcdL p' = 1 := of_decide_eq_true k6
      have e3 : qf F p = (l : Int) := by
        rw [← e1, qf_scale h _ _ k3, ← k4, k7, ← hmi, Int.mul_comm]
      refine ⟨⟨by rw [← e1, scale_len]; exact k3, by rw [e3, ← e2, k7, hmi], by omega⟩, ?_⟩
      rw [Bool.and_eq_true, decide_eq_true_eq, decide_eq_true_eq]
      refine ⟨by show j = _; rw [← e2, k7, hmi], ?_⟩
      show gcdL p = _
      rw [← e1, gcdL_scale (by omega), k6, Int.mul_one]
  · rw [if_neg (by rw [decide_eq_true_eq]; exact hz)]
    have : (pbM n F b).countP (fun q => decide (q.2 = (l : Int)) && decide (gcdL q.1 = ((d : Nat) : Int))) = 0 := by
      rw [List.countP_eq_zero]
      rintro ⟨p, j⟩ hq hc
      rw [Bool.and_eq_true, decide_eq_true_eq, decide_eq_true_eq] at hc
      simp only at hc
      obtain ⟨e1, e2, e3⟩ := (pb_mem h).mp hq
      obtain ⟨p', k1, k2, k3, k4⟩ := gcd_split h e1
      rw [hc.2] at k3
      refine hz (Nat.mod_eq_zero_of_dvd ?_)
      have : (((d * d : Nat)) : Int) ∣ ((l : Nat) : Int) := ⟨qf F p', by rw [Int.natCast_mul, ← k3]; omega⟩
      exact Int.natCast_dvd_natCast.mp this
    rw [this]
    rfl
theorem m_c4 (h : LF n F) : ∀ l, 1 ≤ l → l ≤ b → (cntM n F b).getD l 0 = (((List.range l).filter fun i => decide (l % ((1 + i) * (1 + i)) = 0)).map fun i => (bareM n F b).getD (l / ((1 + i) * (1 + i))) 0).sum := fun l h1 hl => by
  have ec : (cntM n F b).getD l 0 = (((pbM n F b).countP fun q => decide (q.2 = (l : Int)) : Nat) : Int) := by
    unfold cntM
    rw [List.getD_eq_getElem?_getD, tally_get hl]
    rfl
  rw [ec, sum_filter]
  have hp := part ((List.range l).map fun (i : Nat) => ((1 + i : Nat) : Int)) ?_ (fun q : List Int × Int => gcdL q.1) (fun q => decide (q.2 = (l : Int))) (pbM n F b) fun q hq hP => ?_
  · rw [← hp, List.map_map]
    exact sum_congr fun i _ => m_one h h1 hl
  · show List.Pairwise _ _
    rw [List.pairwise_map]
    exact List.Pairwise.imp (fun h e => h (by omega)) List.nodup_range
  · obtain ⟨e1, e2, e3⟩ := (pb_mem h (p := q.1) (i := q.2)).mp hq
    have hP := of_decide_eq_true hP
    obtain ⟨p', k1, k2, k3, k4⟩ := gcd_split h e1
    have g0 := gcdL_nonneg q.1
    have q0 := qf_nonneg h k1
    have hg : gcdL q.1 ≠ 0 := fun e => by
      rw [e] at k3
      simp at k3
      omega
    have hle : gcdL q.1 ≤ (l : Int) := by
      have k5 : 1 ≤ qf F p' := by
        rcases Int.lt_or_le 0 (qf F p') with z | z
        · omega
        · have : qf F p' = 0 := by omega
          rw [this, Int.mul_zero] at k3
          omega
      have k6 : gcdL q.1 * 1 ≤ gcdL q.1 * gcdL q.1 := Int.mul_le_mul_of_nonneg_left (by omega) g0
      have k7 : gcdL q.1 * gcdL q.1 * 1 ≤ gcdL q.1 * gcdL q.1 * qf F p' := Int.mul_le_mul_of_nonneg_left k5 (Int.mul_nonneg g0 g0)
      omega
    exact List.mem_map.mpr ⟨(gcdL q.1).toNat - 1, List.mem_range.mpr (by omega), by omega⟩
end
end Lc

namespace Lc
open PySem PySem.Spec PyProof.Rows L2 RZ

/-! plain facts: the far values in order; CROk -/
theorem insQ_iff {l : List Rat} {q x : Rat} : x ∈ insQ l q ↔ x = q ∨ x ∈ l := by
  refine ⟨insQ_mem, fun h => ?_⟩
  unfold insQ
  split
  · rcases h with h | h
    · rw [h]
      exact List.mem_append_left _ (List.mem_append_right _ List.mem_cons_self)
    · rw [← List.take_append_drop (insAt l q) l] at h
      rcases List.mem_append.mp h with h | h
      · exact List.mem_append_left _ (List.mem_append_left _ h)
      · exact List.mem_append_right _ h
  · rename_i hc
    rcases h with h | h
    · have h1 : insAt l q ≠ l.length := fun e => hc (.inl e)
      have h2 : l.getD (insAt l q) 0 = q := by
        by_cases z : l.getD (insAt l q) 0 = q
        · exact z
        · exact absurd (.inr z) hc
      have h3 := insAt_le l q
      have h4 : insAt l q < l.length := by omega
      rw [List.getD_eq_getElem?_getD, List.getElem?_eq_getElem h4] at h2
      rw [h, ← h2]
      exact List.getElem_mem h4
    · exact h
theorem insQ_lt {l : List Rat} {q : Rat} (h : l.Pairwise (· < ·)) : (insQ l q).Pairwise (· < ·) := by
  unfold insQ
  split
  · rename_i hc
    have hle := insAt_le l q
    have ht : ∀ x ∈ l.take (insAt l q), x < q := fun x hx => by
      obtain ⟨j, hj⟩ := List.mem_iff_getElem?.mp hx
      have hjl : j < insAt l q := by
        have := (List.getElem?_eq_some_iff.mp hj).1
        rw [List.length_take] at this
        omega
      rw [List.getElem?_take, if_pos hjl] at hj
      exact insAt_lt hjl hj
    have hd : ∀ x ∈ l.drop (insAt l q), q < x := fun x hx => by
      obtain ⟨j, hj⟩ := List.mem_iff_getElem?.mp hx
      rw [List.getElem?_drop] at hj
      have hl := (List.getElem?_eq_some_iff.mp hj).1
      have hk : insAt l q < l.length := by omega
      have hke : l[insAt l q]? = some (l.getD (insAt l q) 0) := by rw [List.getD_eq_getElem?_getD, List.getElem?_eq_getElem hk]; rfl
      have h1 := Rat.not_lt.mp (insAt_ge hke)
      have h2 : l.getD (insAt l q) 0 ≠ q := by
        rcases hc with hc | hc
        · omega
        · exact hc
      have h3 : q < l.getD (insAt l q) 0 := by
        by_cases z : q < l.getD (insAt l q) 0
        · exact z
        · exact absurd (Rat.le_antisymm (Rat.not_lt.mp z) h1) h2
      cases j with
      | zero =>
        rw [Nat.add_zero] at hj
        rw [hke] at hj
        have := Option.some.inj hj
        rw [← this]
        exact h3
      | succ j =>
        have h4 := List.pairwise_iff_getElem.mp h (insAt l q) (insAt l q + (j + 1)) hk hl (by omega)
        have e1 : l[insAt l q] = l.getD (insAt l q) 0 := by rw [List.getD_eq_getElem?_getD, List.getElem?_eq_getElem hk]; rfl
        have e2 : l[insAt l q + (j + 1)] = x := by
          rw [List.getElem?_eq_getElem hl] at hj
          exact Option.some.inj hj
        rw [e1, e2] at h4
        grind
    rw [List.pairwise_append, List.pairwise_append]
    refine ⟨⟨h.sublist (List.take_sublist _ _), by simp, fun x hx y hy => ?_⟩, h.sublist (List.drop_sublist _ _), fun x hx y hy => ?_⟩
    · have : y = q := by simpa using hy
      rw [this]
      exact ht x hx
    · rcases List.mem_append.mp hx with hx | hx
      · have h1 := ht x hx
        have h2 := hd y hy
        grind
      · have : x = q := by simpa using hx
        rw [this]
        exact hd y hy
  · exact h
theorem fold_props : ∀ (qs l : List Rat), l.Pairwise (· < ·) → (qs.foldl insQ l).Pairwise (· < ·) ∧ ∀ x, x ∈ qs.foldl insQ l ↔ x ∈ l ∨ x ∈ qs
  | [], l, h => ⟨h, fun x => by simp⟩
  | q :: qs, l, h => by
    obtain ⟨h1, h2⟩ := fold_props qs (insQ l q) (insQ_lt h)
    refine ⟨h1, fun x => ?_⟩
    show x ∈ qs.foldl insQ (insQ l q) ↔ _
    rw [h2, insQ_iff, List.mem_cons]
    constructor
    · rintro ((h | h) | h)
      · exact .inr (.inl h)
      · exact .inl h
      · exact .inr (.inr h)
    · rintro (h | h | h)
      · exact .inl (.inr h)
      · exact .inl (.inl h)
      · exact .inr h
theorem ord_lt (qs : List Rat) : (inOrdM qs).Pairwise (· < ·) := (fold_props qs [] .nil).1
theorem ord_mem {qs : List Rat} {x : Rat} : x ∈ inOrdM qs ↔ x ∈ qs := by
  have := (fold_props qs [] .nil).2 x
  rw [show inOrdM qs = qs.foldl insQ [] from rfl, this]
  simp
theorem lt_nodup {l : List Rat} (h : l.Pairwise (· < ·)) : l.Nodup := List.Pairwise.imp (fun h e => by rw [e] at h; exact Rat.lt_irrefl h) h
section
variable {n b : Nat} {F : List (List Int)}
theorem cnt_get (l : Nat) (hl : l ≤ b) : (cntM n F b).getD l 0 = (((pbM n F b).countP fun q => decide (q.2 = (l : Int)) : Nat) : Int) := by
  unfold cntM
  rw [List.getD_eq_getElem?_getD, tally_get hl]
  rfl
theorem fars_cnt (h : LF n F) (l : Nat) : (farsM n F b).countP (fun z => decide (z = ((l : Int) : Rat))) = (pbM n F b).countP fun q => decide (q.2 = (l : Int)) := by
  rw [pb_perm.countP_eq]
  unfold farsM rawM
  rw [List.countP_map, List.countP_map]
  refine List.countP_congr fun q hq => ?_
  have h1 := (path_far h hq).2.1
  have h2 := path_num h hq
  show decide (q.2 = ((l : Int) : Rat)) = true ↔ decide (q.2.num = (l : Int)) = true
  rw [decide_eq_true_eq, decide_eq_true_eq, h2, h1, Rat.intCast_inj]
theorem m_c2 (h : LF n F) : spotL (farsM n F b) = farL (cntM n F b) b := by
  have e : inOrdM (farsM n F b) = ((List.range (b + 1)).filter fun l => decide (0 < (cntM n F b).getD l 0)).map fun (l : Nat) => ((l : Int) : Rat) := by
    have p2 : (((List.range (b + 1)).filter fun l => decide (0 < (cntM n F b).getD l 0)).map fun (l : Nat) => ((l : Int) : Rat)).Pairwise (· < ·) := by
      rw [List.pairwise_map]
      exact List.Pairwise.imp (fun h => Rat.intCast_lt_intCast.mpr (by omega)) (List.Pairwise.filter _ List.pairwise_lt_range)
    refine List.Perm.eq_of_pairwise (le := (· < ·)) (fun a b _ _ h1 h2 => ?_) (ord_lt _) p2 ((List.perm_ext_iff_of_nodup (lt_nodup (ord_lt _)) (lt_nodup p2)).mpr fun x => ?_)
    · have : a < a := by grind
      exact absurd this Rat.lt_irrefl
    · rw [ord_mem, List.mem_map]
      constructor
      · intro hx
        obtain ⟨q, hq, rfl⟩ := List.mem_map.mp hx
        obtain ⟨e1, e2, e3⟩ := path_far h hq
        have e4 := qf_nonneg h e1
        refine ⟨(qf F q.1).toNat, ?_, by rw [e2, Int.toNat_of_nonneg e4]⟩
        rw [List.mem_filter, List.mem_range, decide_eq_true_eq, cnt_get _ (by omega), ← fars_cnt h]
        refine ⟨by omega, ?_⟩
        have : 0 < (farsM n F b).countP fun z => decide (z = (((qf F q.1).toNat : Int) : Rat)) := List.countP_pos_iff.mpr ⟨q.2, hx, by rw [decide_eq_true_eq, e2, Int.toNat_of_nonneg e4]⟩
        omega
      · rintro ⟨l, hl, rfl⟩
        have hlb := List.mem_range.mp (List.mem_filter.mp hl).1
        rw [List.mem_filter, List.mem_range, decide_eq_true_eq, cnt_get _ (by omega), ← fars_cnt h] at hl
        obtain ⟨z, hz, hz2⟩ := List.countP_pos_iff.mp (show 0 < (farsM n F b).countP fun z => decide (z = ((l : Int) : Rat)) by omega)
        rw [decide_eq_true_eq] at hz2
        rw [← hz2]
        exact hz
  unfold spotL farL
  rw [e, List.map_map]
  refine List.map_congr_left fun l hl => ?_
  have hl := List.mem_range.mp (List.mem_filter.mp hl).1
  show (((l : Int) : Rat), _) = (((l : Int) : Rat), _)
  rw [fars_cnt h, cnt_get l (by omega)]
theorem cr_ok (n : Nat) (F : List (List Int)) (b : Nat) (h : LF n F) (hb : b ≤ 10) : CROk n F b :=
  ⟨hb, fun l hl => pb_ok h (by omega), path_den h, m_c1 h, m_c2 h, m_c3 h, m_c4 h, m_c5 h, m_c6⟩
end
end Lc

namespace Lc
open PySem PySem.Spec PyProof.Rows L2 RZ

/-! plain facts: FROk -/
theorem zero_mid {n : Nat} (F : List (List Int)) (k : Nat) : ∀ l : List Int, l.length ≤ 2 → (∀ x ∈ l, x = 0) → midM F k l = 0
  | [], _, _ => mid0 F k
  | [x], _, h => by
    have := h x List.mem_cons_self
    subst this
    rw [mid1]
    unfold tm
    show rwq F k (k + 1 + 0) * (0 - ((0 : Int) : Rat)) = 0
    rw [show ((0 : Int) : Rat) = 0 from rfl]
    grind
  | [x, y], _, h => by
    have h1 := h x List.mem_cons_self
    have h2 := h y (List.mem_cons_of_mem _ List.mem_cons_self)
    subst h1 h2
    rw [mid2]
    unfold tm
    rw [show ((0 : Int) : Rat) = 0 from rfl]
    grind
  | _ :: _ :: _ :: _, h, _ => by simp at h
theorem qp_low {n : Nat} {F : List (List Int)} (hn : n ≤ 3) (hp : Pos n F) : ∀ l : List Int, l.length ≤ n → (∃ x ∈ l, x ≠ 0) → ∃ k, k < n ∧ wq F k ≤ qp n F l
  | [], _, h => by
    obtain ⟨x, hx, _⟩ := h
    exact nomatch hx
  | x :: l, hl, h => by
    by_cases hz : ∃ y ∈ l, y ≠ 0
    · obtain ⟨k, h1, h2⟩ := qp_low hn hp l (by rw [List.length_cons] at hl; omega) hz
      have := qp_tail hp (x := x) hl
      exact ⟨k, h1, by grind⟩
    · have hz : ∀ y ∈ l, y = 0 := fun y hy => by
        by_cases e : y = 0
        · exact e
        · exact absurd ⟨y, hy, e⟩ hz
      have hx : x ≠ 0 := by
        obtain ⟨y, hy, h0⟩ := h
        rcases List.mem_cons.mp hy with e | hy
        · rw [← e]; exact h0
        · exact absurd (hz y hy) h0
      rw [List.length_cons] at hl
      have hk : n - 1 - l.length < n := by omega
      refine ⟨_, hk, ?_⟩
      show _ ≤ qp n F l + wq F (n - 1 - l.length) * (((x : Rat) - midM F (n - 1 - l.length) l) * ((x : Rat) - midM F (n - 1 - l.length) l))
      rw [zero_mid (n := n) F _ l (by omega) hz]
      have h0 := qp_nonneg hp l (by omega)
      have hw := hp _ hk
      have h1 : (1 : Rat) ≤ (x : Rat) * (x : Rat) := by
        have : (1 : Int) ≤ x * x := by
          rcases Int.lt_or_lt_of_ne hx with z | z
          · have := Int.mul_le_mul_of_nonneg_left (show (1 : Int) ≤ -x by omega) (show (0 : Int) ≤ -x by omega)
            grind
          · have := Int.mul_le_mul_of_nonneg_left (show (1 : Int) ≤ x by omega) (show (0 : Int) ≤ x by omega)
            omega
        have := castle this
        rw [Rat.intCast_mul] at this
        exact this
      have := Rat.mul_nonneg (Rat.le_of_lt hw) (show 0 ≤ (x : Rat) * (x : Rat) - 1 by grind)
      grind
section
variable {n : Nat} {F : List (List Int)}
theorem low (h : LF n F) {p : List Int} (hp : p.length = n) (hz : ∃ x ∈ p, x ≠ 0) : (∃ k, k < n ∧ wq F k ≤ ((qf F p : Int) : Rat)) ∧ 0 < qf F p := by
  have hP := (wt_of h).pos
  obtain ⟨k, h1, h2⟩ := qp_low h.fo.n3 hP p (by omega) hz
  rw [qp_eq h p hp] at h2
  refine ⟨⟨k, h1, h2⟩, ?_⟩
  have := hP k h1
  have h3 : ((0 : Int) : Rat) < ((qf F p : Int) : Rat) := by
    rw [show ((0 : Int) : Rat) = 0 from rfl]
    grind
  exact Rat.intCast_lt_intCast.mp h3
theorem nonzero_of (h : LF n F) {p : List Int} (hp : p.length = n) (hq : 0 < qf F p) : ∃ x ∈ p, x ≠ 0 := by
  by_cases hz : ∃ x ∈ p, x ≠ 0
  · exact hz
  · have e : scale 0 p = p := by
      unfold scale
      have : p.map (fun x => 0 * x) = p.map id := List.map_congr_left fun x hx => by
        have : x = 0 := by
          by_cases e : x = 0
          · exact e
          · exact absurd ⟨x, hx, e⟩ hz
        rw [this]
        rfl
      rw [this, List.map_id]
    have := qf_scale h 0 p hp
    rw [e] at this
    omega
theorem exists_min : ∀ l : List Int, l ≠ [] → ∃ m ∈ l, ∀ y ∈ l, m ≤ y
  | [], h => absurd rfl h
  | [x], _ => ⟨x, List.mem_cons_self, fun y hy => by
    have : y = x := by simpa using hy
    omega⟩
  | x :: y :: l, _ => by
    obtain ⟨m, h1, h2⟩ := exists_min (y :: l) (by simp)
    by_cases hx : x ≤ m
    · refine ⟨x, List.mem_cons_self, fun z hz => ?_⟩
      rcases List.mem_cons.mp hz with e | hz
      · omega
      · have := h2 z hz
        omega
    · refine ⟨m, List.mem_cons_of_mem _ h1, fun z hz => ?_⟩
      rcases List.mem_cons.mp hz with e | hz
      · omega
      · exact h2 z hz
/-- what shortest asks, once its bound is known -/
theorem sh_of (h : LF n F) {s : Nat} (hs : s ≤ 89) {p : List Int} (hp : p.length = n) (hz : ∃ x ∈ p, x ≠ 0) (hq : qf F p = (s : Int))
    (dm : ∃ m, m ∈ diagL n F ∧ (∀ y ∈ diagL n F, m ≤ y) ∧ (n ≠ 2 → m = (s : Int)))
    (d2 : n = 2 → ∃ a b c pre a' b' c', F = [[a, b], [b, c]] ∧ GI a b c ∧ (goneM 400 [F] [[1, 0], [0, 1]]).1 = pre ++ [[[a', b'], [b', c']]] ∧ a' = (s : Int)) :
    ∃ s best k, ShOk n F s best ∧ best.natAbs < 2 ^ 40 ∧ k < n ∧ wq F k ≤ (best : Rat) := by
  have h0 := (low h hp hz).2
  have hmem : (p, (s : Int)) ∈ (pbM n F s).filter fun q => decide (0 < q.2) := List.mem_filter.mpr ⟨(pb_mem h).mpr ⟨hp, hq.symm, by omega⟩, decide_eq_true (by show 0 < (s : Int); omega)⟩
  have hne : ((pbM n F s).filter fun q => decide (0 < q.2)).map (·.2) ≠ [] := fun e => by
    have : (s : Int) ∈ ((pbM n F s).filter fun q => decide (0 < q.2)).map (·.2) := List.mem_map.mpr ⟨(p, (s : Int)), hmem, rfl⟩
    rw [e] at this
    exact nomatch this
  obtain ⟨best, b1, b2⟩ := exists_min _ hne
  obtain ⟨⟨p', i⟩, b3, b4⟩ := List.mem_map.mp b1
  rw [List.mem_filter, pb_mem h, decide_eq_true_eq] at b3
  simp only at b3 b4
  obtain ⟨⟨b5, b6, b7⟩, b8⟩ := b3
  obtain ⟨⟨k, k1, k2⟩, _⟩ := low h b5 (nonzero_of h b5 (by omega))
  rw [← b6, b4] at k2
  refine ⟨s, best, k, ⟨h.fo, dm, d2, pb_ok h hs, b1, b2⟩, ?_, k1, k2⟩
  show best.natAbs < 1099511627776
  omega
end
/-! ### the way down -/
def Rep (A B C a b c : Int) : Prop := ∃ x y z v : Int, (x * v - y * z = 1 ∨ x * v - y * z = -1) ∧ a = A * x * x + 2 * B * x * y + C * y * y ∧ b = A * x * z + B * (x * v + y * z) + C * y * v ∧ c = A * z * z + 2 * B * z * v + C * v * v
theorem rep_step {A B C a b c p q r s a' b' c' : Int} (h : Rep A B C a b c) (hd : p * s - q * r = 1 ∨ p * s - q * r = -1) (h1 : a' = p * p * a + 2 * p * q * b + q * q * c) (h2 : b' = p * r * a + (p * s + q * r) * b + q * s * c) (h3 : c' = r * r * a + 2 * r * s * b + s * s * c) : Rep A B C a' b' c' := by
  obtain ⟨x, y, z, v, e0, e1, e2, e3⟩ := h
  refine ⟨p * x + q * z, p * y + q * v, r * x + s * z, r * y + s * v, ?_, ?_, ?_, ?_⟩
  · have e : (p * x + q * z) * (r * y + s * v) - (p * y + q * v) * (r * x + s * z) = (p * s - q * r) * (x * v - y * z) := by grind
    rw [e]
    rcases hd with hd | hd <;> rcases e0 with e0 | e0 <;> rw [hd, e0]
    · exact .inl rfl
    · exact .inr rfl
    · exact .inr rfl
    · exact .inl rfl
  · subst h1 e1 e2 e3
    grind
  · subst h2 e1 e2 e3
    grind
  · subst h3 e1 e2 e3
    grind
theorem gone_rep (A B C : Int) : ∀ (k : Nat) (pre : List (List (List Int))) (a b c : Int) (U : List (List Int)), GI a b c → Rep A B C a b c → ∃ pre' a' b' c', (goneM k (pre ++ [[[a, b], [b, c]]]) U).1 = pre' ++ [[[a', b'], [b', c']]] ∧ GI a' b' c' ∧ Rep A B C a' b' c'
  | 0, pre, a, b, c, U, g, r => ⟨pre, a, b, c, rfl, g, r⟩
  | k + 1, pre, a, b, c, U, g, r => by
    have e : goneM (k + 1) (pre ++ [[[a, b], [b, c]]]) U = match stepOf (pre ++ [[[a, b], [b, c]]]) with
        | none => (pre ++ [[[a, b], [b, c]]], U)
        | some m => goneM k (pre ++ [[[a, b], [b, c]]] ++ [changedM (lastF (pre ++ [[[a, b], [b, c]]])) m]) (behindM U m) := rfl
    rw [e, stepOf_app, lastF_app]
    cases hm : nextM a b c with
    | none => exact ⟨pre, a, b, c, rfl, g, r⟩
    | some m =>
      obtain ⟨p, q, r', s, a', b', c', rfl, e1, g', _, _, _, _, _, _, hd, f1, f2, f3⟩ := gone_step g hm
      show ∃ pre' a'' b'' c'', (goneM k (pre ++ [[[a, b], [b, c]]] ++ [changedM [[a, b], [b, c]] [[p, q], [r', s]]]) _).1 = _ ∧ _
      rw [e1]
      exact gone_rep A B C k _ a' b' c' _ g' (rep_step r hd f1 f2 f3)
theorem sh2 {F : List (List Int)} (h : LF 2 F) : ∃ s best k, ShOk 2 F s best ∧ best.natAbs < 2 ^ 40 ∧ k < 2 ∧ wq F k ≤ (best : Rat) := by
  obtain ⟨a, b, d, rfl, h1, h2, h3, h4, h5, h6, h7⟩ := lf2 h
  have hd := cpos_of (show 0 < a by omega) (show 0 < a * d - b * b by omega)
  have m1 := mul_bd (x := a) (y := d) (B := 89) (C := 89) (by omega) (by omega)
  have m2 := sq_nn b
  have g : GI a b d := ⟨by omega, h2, h3, h4, hd, by omega, by omega, by omega⟩
  obtain ⟨pre, a', b', c', e1, g', x, y, z, v, e0, e2, e3, e4⟩ := gone_rep a b d 400 [] a b d [[1, 0], [0, 1]] g ⟨1, 0, 0, 1, .inl rfl, by grind, by grind, by grind⟩
  have ha' := g'.a0
  have ha2 := g'.a1
  obtain ⟨m, d1, d2⟩ := exists_min (diagL 2 [[a, b], [b, d]]) (by simp [diagL, List.range_succ])
  refine sh_of h (s := a'.toNat) (p := [x, y]) (by omega) rfl ?_ ?_ ⟨m, d1, d2, fun e => absurd rfl e⟩ fun _ => ⟨a, b, d, pre, a', b', c', rfl, g, e1, by omega⟩
  · by_cases hx : x = 0
    · refine ⟨y, List.mem_cons_of_mem _ List.mem_cons_self, fun hy => ?_⟩
      subst hx hy
      rcases e0 with e0 | e0 <;> simp at e0
    · exact ⟨x, List.mem_cons_self, hx⟩
  · rw [qf2, ← e2]
    omega
theorem sh1 {F : List (List Int)} (h : LF 1 F) : ∃ s best k, ShOk 1 F s best ∧ best.natAbs < 2 ^ 40 ∧ k < 1 ∧ wq F k ≤ (best : Rat) := by
  obtain ⟨a, rfl, h1, h2⟩ := lf1 h
  refine sh_of h (s := a.toNat) (p := [1]) (by omega) rfl ⟨1, List.mem_cons_self, by decide⟩ ?_ ⟨a, ?_, fun y hy => ?_, fun _ => by omega⟩ fun e => absurd e (by decide)
  · rw [qf1]
    omega
  · show a ∈ [a]
    exact List.mem_cons_self
  · have hy : y ∈ [a] := hy
    have : y = a := by simpa using hy
    omega
theorem sh3 {F : List (List Int)} (h : LF 3 F) : ∃ s best k, ShOk 3 F s best ∧ best.natAbs < 2 ^ 40 ∧ k < 3 ∧ wq F k ≤ (best : Rat) := by
  obtain ⟨a, b, c, d, e, f, rfl, h1, h2, h3, h4, h5, h6, h7, h8, h9, h10, h11, h12, h13, h14⟩ := lf3 h
  have hq1 : qf [[a, b, c], [b, d, e], [c, e, f]] [1, 0, 0] = a := by rw [qf3]; omega
  have hq2 : qf [[a, b, c], [b, d, e], [c, e, f]] [0, 1, 0] = d := by rw [qf3]; omega
  have hq3 : qf [[a, b, c], [b, d, e], [c, e, f]] [0, 0, 1] = f := by rw [qf3]; omega
  have z1 : ∃ x ∈ ([1, 0, 0] : List Int), x ≠ 0 := ⟨1, by simp, by decide⟩
  have z2 : ∃ x ∈ ([0, 1, 0] : List Int), x ≠ 0 := ⟨1, by simp, by decide⟩
  have z3 : ∃ x ∈ ([0, 0, 1] : List Int), x ≠ 0 := ⟨1, by simp, by decide⟩
  have p2 := (low h (p := [0, 1, 0]) rfl z2).2
  have p3 := (low h (p := [0, 0, 1]) rfl z3).2
  rw [hq2] at p2
  rw [hq3] at p3
  have ed : diagL 3 [[a, b, c], [b, d, e], [c, e, f]] = [a, d, f] := rfl
  obtain ⟨m, d1, d2⟩ := exists_min [a, d, f] (by simp)
  have hm : m = a ∨ m = d ∨ m = f := by simpa using d1
  have dm : ∀ s : Nat, m = (s : Int) → ∃ m, m ∈ diagL 3 [[a, b, c], [b, d, e], [c, e, f]] ∧ (∀ y ∈ diagL 3 [[a, b, c], [b, d, e], [c, e, f]], m ≤ y) ∧ (3 ≠ 2 → m = (s : Int)) := fun s hs => ⟨m, by rw [ed]; exact d1, by rw [ed]; exact d2, fun _ => hs⟩
  rcases hm with hm | hm | hm
  · exact sh_of h (s := a.toNat) (p := [1, 0, 0]) (by omega) rfl z1 (by rw [hq1]; omega) (dm _ (by omega)) fun e => absurd e (by decide)
  · exact sh_of h (s := d.toNat) (p := [0, 1, 0]) (by omega) rfl z2 (by rw [hq2]; omega) (dm _ (by omega)) fun e => absurd e (by decide)
  · exact sh_of h (s := f.toNat) (p := [0, 0, 1]) (by omega) rfl z3 (by rw [hq3]; omega) (dm _ (by omega)) fun e => absurd e (by decide)
end Lc

namespace Lc
open PySem PySem.Spec PyProof.Rows L2 RZ

/-! ### the other form -/
theorem adj1 (a : Int) : adjM 1 [[a]] = [[1]] := by
  simp [adjM, adjRow, adjE, minIJ, cutAt, wdet, List.range_succ]
theorem adj2 (a b c d : Int) : adjM 2 [[a, b], [c, d]] = [[d, -c], [-b, a]] := by
  simp [adjM, adjRow, adjE, minIJ, cutAt, List.range_succ, wdet1]
theorem adj3 (a b c d e f g i j : Int) : adjM 3 [[a, b, c], [d, e, f], [g, i, j]] = [[e * j - f * i, -(d * j - f * g), d * i - e * g], [-(b * j - c * i), a * j - c * g, -(a * i - b * g)], [b * f - c * e, -(a * f - c * d), a * e - b * d]] := by
  simp [adjM, adjRow, adjE, minIJ, cutAt, List.range_succ, wdet2]
/-! the table of minors of a symmetric table, twice -/
theorem mi1 (a b c d e f : Int) : (a * f - c * c) * (a * d - b * b) - -(a * e - b * c) * -(a * e - b * c) = det3 a b c d e f * a := by unfold det3; grind
theorem mi2 (a b c d e f : Int) : -(b * f - e * c) * (a * d - b * b) - -(a * e - b * c) * (b * e - d * c) = -(det3 a b c d e f * b) := by unfold det3; grind
theorem mi3 (a b c d e f : Int) : -(b * f - e * c) * -(a * e - b * c) - (a * f - c * c) * (b * e - d * c) = det3 a b c d e f * c := by unfold det3; grind
theorem mi4 (a b c d e f : Int) : (d * f - e * e) * (a * d - b * b) - (b * e - d * c) * (b * e - d * c) = det3 a b c d e f * d := by unfold det3; grind
theorem mi5 (a b c d e f : Int) : (d * f - e * e) * -(a * e - b * c) - -(b * f - e * c) * (b * e - d * c) = -(det3 a b c d e f * e) := by unfold det3; grind
theorem mi6 (a b c d e f : Int) : (d * f - e * e) * (a * f - c * c) - -(b * f - e * c) * -(b * f - e * c) = det3 a b c d e f * f := by unfold det3; grind
theorem mi7 (a b c d e f : Int) : det3 (d * f - e * e) (-(b * f - e * c)) (b * e - d * c) (a * f - c * c) (-(a * e - b * c)) (a * d - b * b) = det3 a b c d e f * det3 a b c d e f := by
  have hE : det3 (d * f - e * e) (-(b * f - e * c)) (b * e - d * c) (a * f - c * c) (-(a * e - b * c)) (a * d - b * b) = (d * f - e * e) * ((a * f - c * c) * (a * d - b * b) - -(a * e - b * c) * -(a * e - b * c)) - -(b * f - e * c) * (-(b * f - e * c) * (a * d - b * b) - -(a * e - b * c) * (b * e - d * c)) + (b * e - d * c) * (-(b * f - e * c) * -(a * e - b * c) - (a * f - c * c) * (b * e - d * c)) := rfl
  rw [hE, mi1, mi2, mi3]
  have e2 : det3 a b c d e f = (d * f - e * e) * a - -(-(b * f - e * c)) * b + (b * e - d * c) * c := by unfold det3; grind
  generalize det3 a b c d e f = D at *
  generalize (d * f - e * e) = k at *
  generalize -(b * f - e * c) = m at *
  generalize (b * e - d * c) = n at *
  subst e2
  grind
theorem eadj3 (a b c d e f : Int) : adjM 3 [[a, b, c], [b, d, e], [c, e, f]] = [[(d * f - e * e), -(b * f - e * c), (b * e - d * c)], [-(b * f - e * c), (a * f - c * c), -(a * e - b * c)], [(b * e - d * c), -(a * e - b * c), (a * d - b * b)]] := by
  rw [adj3, Int.mul_comm c e, Int.mul_comm c d, Int.mul_comm c b]
theorem eadjadj (a b c d e f : Int) : adjM 3 [[(d * f - e * e), -(b * f - e * c), (b * e - d * c)], [-(b * f - e * c), (a * f - c * c), -(a * e - b * c)], [(b * e - d * c), -(a * e - b * c), (a * d - b * b)]] = stretchM [[a, b, c], [b, d, e], [c, e, f]] (det3 a b c d e f) := by
  have h1 := mi1 a b c d e f
  have h2 := mi2 a b c d e f
  have h3 := mi3 a b c d e f
  have h4 := mi4 a b c d e f
  have h5 := mi5 a b c d e f
  have h6 := mi6 a b c d e f
  rw [adj3]
  generalize (d * f - e * e) = k at *
  generalize -(b * f - e * c) = m at *
  generalize (b * e - d * c) = n at *
  generalize (a * f - c * c) = l at *
  generalize -(a * e - b * c) = o at *
  generalize (a * d - b * b) = r at *
  generalize det3 a b c d e f = D at *
  rw [Int.mul_comm n o, Int.mul_comm n l, Int.mul_comm n m, h1, h2, h3, h4, h5, h6]
  show _ = [[D * a, D * b, D * c], [D * b, D * d, D * e], [D * c, D * e, D * f]]
  simp
theorem isF_mk3 {a b c d e f : Int} (hb : ∀ x ∈ [a, b, c, d, e, f], x.natAbs < 2 ^ 20) (h1 : 0 < a) (h2 : 0 < a * d - b * b) (h3 : 0 < det3 a b c d e f) : IsF 3 [[a, b, c], [b, d, e], [c, e, f]] := by
  have hb' : ∀ x ∈ [a, b, c, d, e, f], x.natAbs < 2 ^ 500 := fun x hx => pw_le (hb x hx) (by decide)
  refine ⟨by decide, by decide, ⟨rfl, by simp, fun r hr x hx => hb' x ?_⟩, fun i j hi hj => ?_, fun m m1 m3 => ?_⟩
  · simp at hr
    rcases hr with rfl | rfl | rfl <;> simp at hx <;> rcases hx with rfl | rfl | rfl <;> simp
  · have hi : i = 0 ∨ i = 1 ∨ i = 2 := by omega
    have hj : j = 0 ∨ j = 1 ∨ j = 2 := by omega
    rcases hi with rfl | rfl | rfl <;> rcases hj with rfl | rfl | rfl <;> rfl
  · have hm : m = 1 ∨ m = 2 ∨ m = 3 := by omega
    rcases hm with rfl | rfl | rfl
    · have : wdet 1 (([[a, b, c], [b, d, e], [c, e, f]].take 1).map (List.take 1)) = a := wdet1 a
      rw [this]; exact h1
    · have : wdet 2 (([[a, b, c], [b, d, e], [c, e, f]].take 2).map (List.take 2)) = a * d - b * b := wdet2 a b b d
      rw [this]; exact h2
    · have : wdet 3 (([[a, b, c], [b, d, e], [c, e, f]].take 3).map (List.take 3)) = det3 a b c d e f := wdet3 a b c b d e c e f
      rw [this]; exact h3
theorem isF_mk2 {a b d : Int} (hb : ∀ x ∈ [a, b, d], x.natAbs < 2 ^ 20) (h1 : 0 < a) (h2 : 0 < a * d - b * b) : IsF 2 [[a, b], [b, d]] := by
  have hb' : ∀ x ∈ [a, b, d], x.natAbs < 2 ^ 500 := fun x hx => pw_le (hb x hx) (by decide)
  refine ⟨by decide, by decide, ⟨rfl, by simp, fun r hr x hx => hb' x ?_⟩, fun i j hi hj => ?_, fun m m1 m3 => ?_⟩
  · simp at hr
    rcases hr with rfl | rfl <;> simp at hx <;> rcases hx with rfl | rfl <;> simp
  · have hi : i = 0 ∨ i = 1 := by omega
    have hj : j = 0 ∨ j = 1 := by omega
    rcases hi with rfl | rfl <;> rcases hj with rfl | rfl <;> rfl
  · have hm : m = 1 ∨ m = 2 := by omega
    rcases hm with rfl | rfl
    · have : wdet 1 (([[a, b], [b, d]].take 1).map (List.take 1)) = a := wdet1 a
      rw [this]; exact h1
    · have : wdet 2 (([[a, b], [b, d]].take 2).map (List.take 2)) = a * d - b * b := wdet2 a b b d
      rw [this]; exact h2
theorem sb {x y : Int} (h1 : x.natAbs ≤ 7921) (h2 : y.natAbs ≤ 7921) : (x - y).natAbs < 1048576 := by omega
theorem nb {x y : Int} (h1 : x.natAbs ≤ 7921) (h2 : y.natAbs ≤ 7921) : (-(x - y)).natAbs < 1048576 := by omega
theorem fr_ok : ∀ (n : Nat) (F : List (List Int)), LF n F → FROk n F
  | 0, _, h => by have := h.fo.n1; omega
  | 1, F, h => by
    have hs := sh1 h
    have hw := (wt_of h).sq
    obtain ⟨a, rfl, h1, h2⟩ := lf1 h
    exact ⟨h.fo, by rw [adj1]; exact (okF_LF (n := 1) (F := [[1]]) (by decide)).fo, fun e => absurd e (by decide), fun e => absurd e (by decide), hw, hs⟩
  | 2, F, h => by
    have hs := sh2 h
    have hw := (wt_of h).sq
    obtain ⟨a, b, d, rfl, h1, h2, h3, h4, h5, h6, h7⟩ := lf2 h
    have hd := cpos_of (show 0 < a by omega) (show 0 < a * d - b * b by omega)
    refine ⟨h.fo, ?_, fun _ => ?_, fun e => absurd e (by decide), hw, hs⟩
    · rw [adj2]
      refine isF_mk2 (fun x hx => ?_) hd (by grind)
      simp at hx
      show _ < 1048576
      rcases hx with rfl | rfl | rfl <;> omega
    · rw [adj2, adj2]
      simp
  | 3, F, h => by
    have hs := sh3 h
    have hw := (wt_of h).sq
    have hdet := h.fo.det
    obtain ⟨a, b, c, d, e, f, rfl, h1, h2, h3, h4, h5, h6, h7, h8, h9, h10, h11, h12, h13, h14⟩ := lf3 h
    have edet : wdet 3 [[a, b, c], [b, d, e], [c, e, f]] = det3 a b c d e f := wdet3 a b c b d e c e f
    have p2 := (low h (p := [0, 1, 0]) rfl ⟨1, by simp, by decide⟩).2
    have p3 := (low h (p := [0, 0, 1]) rfl ⟨1, by simp, by decide⟩).2
    rw [qf3] at p2 p3
    have hd0 : 0 < d := by omega
    have hf0 : 0 < f := by omega
    have p4 := (low h (p := [0, -e, d]) rfl ⟨d, by simp, by omega⟩).2
    rw [qf3] at p4
    have hk : 0 < d * f - e * e := by
      have e1 : a * 0 * 0 + 2 * b * 0 * -e + 2 * c * 0 * d + d * -e * -e + 2 * e * -e * d + f * d * d = d * (d * f - e * e) := by grind
      rw [e1] at p4
      rcases Int.lt_or_le 0 (d * f - e * e) with z | z
      · exact z
      · have := Int.mul_le_mul_of_nonneg_left z (show 0 ≤ d by omega)
        omega
    have eadj := eadj3 a b c d e f
    have hm : ∀ {x y : Int}, -89 ≤ x → x ≤ 89 → -89 ≤ y → y ≤ 89 → (x * y).natAbs ≤ 7921 := fun h1 h2 h3 h4 => mulle (B := 89) (C := 89) (by omega) (by omega)
    refine ⟨h.fo, ?_, fun e => absurd e (by decide), fun _ => ?_, hw, hs⟩
    · rw [eadj]
      refine isF_mk3 (fun x hx => ?_) hk ?_ ?_
      · have k1 := hm h7 h8 h11 h12
        have k2 := hm h9 h10 h9 h10
        have k3 := hm h3 h4 h11 h12
        have k4 := hm h9 h10 h5 h6
        have k5 := hm h3 h4 h9 h10
        have k6 := hm h7 h8 h5 h6
        have k7 := hm (show -89 ≤ a by omega) h2 h11 h12
        have k8 := hm h5 h6 h5 h6
        have k9 := hm (show -89 ≤ a by omega) h2 h9 h10
        have k10 := hm h3 h4 h5 h6
        have k11 := hm (show -89 ≤ a by omega) h2 h7 h8
        have k12 := hm h3 h4 h3 h4
        simp only [List.mem_cons, List.not_mem_nil, or_false] at hx
        show _ < 1048576
        rcases hx with rfl | rfl | rfl | rfl | rfl | rfl
        · exact sb k1 k2
        · exact nb k3 k4
        · exact sb k5 k6
        · exact sb k7 k8
        · exact nb k9 k10
        · exact sb k11 k12
      · rw [mi6]
        exact Int.mul_pos (by omega) hf0
      · rw [mi7]
        exact Int.mul_pos (by omega) (by omega)
    · rw [edet, eadj, eadjadj]
  | n + 4, _, h => by have := h.fo.n3; omega
end Lc

namespace Lc
open PySem PySem.Spec PyProof.Rows L2 RZ

/-! plain facts: BSOk -/
theorem bd_of {F : List (List Int)} {l : List Int} (hl : ∀ x ∈ l, x.natAbs ≤ 89) (h : ∀ r ∈ F, ∀ x ∈ r, x ∈ l) : ∀ r ∈ F, ∀ x ∈ r, x.natAbs ≤ 89 := fun r hr x hx => hl x (h r hr x hx)
theorem bs2 {a g : Int} (h1 : 1 ≤ a) (h2 : a ≤ 89) (h3 : 1 ≤ g) (h4 : g ≤ 89) : LF 2 [[a, 0], [0, g]] := by
  refine ⟨isF_mk2 (fun x hx => ?_) (by omega) ?_, fun r hr x hx => ?_⟩
  · simp only [List.mem_cons, List.not_mem_nil, or_false] at hx
    show _ < 1048576
    rcases hx with rfl | rfl | rfl <;> omega
  · have := Int.mul_pos (show 0 < a by omega) (show 0 < g by omega)
    omega
  · simp only [List.mem_cons, List.not_mem_nil, or_false] at hr
    rcases hr with rfl | rfl <;> simp only [List.mem_cons, List.not_mem_nil, or_false] at hx <;> rcases hx with rfl | rfl <;> omega
theorem bs3 {a g h k : Int} (h1 : 1 ≤ a) (h2 : a ≤ 89) (h3 : 1 ≤ g) (h4 : g ≤ 89) (h5 : -89 ≤ h) (h6 : h ≤ 89) (h7 : -89 ≤ k) (h8 : k ≤ 89) (h9 : 1 ≤ g * k - h * h) : LF 3 [[a, 0, 0], [0, g, h], [0, h, k]] := by
  refine ⟨isF_mk3 (fun x hx => ?_) (by omega) ?_ ?_, fun r hr x hx => ?_⟩
  · simp only [List.mem_cons, List.not_mem_nil, or_false] at hx
    show _ < 1048576
    rcases hx with rfl | rfl | rfl | rfl | rfl | rfl <;> omega
  · have := Int.mul_pos (show 0 < a by omega) (show 0 < g by omega)
    omega
  · have e : det3 a 0 0 g h k = a * (g * k - h * h) := by unfold det3; grind
    rw [e]
    exact Int.mul_pos (by omega) (by omega)
  · simp only [List.mem_cons, List.not_mem_nil, or_false] at hr
    rcases hr with rfl | rfl | rfl <;> simp only [List.mem_cons, List.not_mem_nil, or_false] at hx <;> rcases hx with rfl | rfl | rfl <;> omega
theorem beside_LF {m : Nat} {F G : List (List Int)} (hF : LF 1 F) (hG : LF m G) (hm : m ≤ 2) : LF (1 + m) (besideM F G) ∧ ∀ x p, p.length = m → qf (besideM F G) (x :: p) = qf F [x] + qf G p := by
  obtain ⟨a, rfl, h1, h2⟩ := lf1 hF
  have hn := hG.fo.n1
  have hmm : m = 1 ∨ m = 2 := by omega
  rcases hmm with rfl | rfl
  · obtain ⟨g, rfl, g1, g2⟩ := lf1 hG
    have e : besideM [[a]] [[g]] = [[a, 0], [0, g]] := rfl
    rw [e]
    refine ⟨bs2 h1 h2 g1 g2, fun x p hp => ?_⟩
    match p, hp with
    | [y], _ =>
      rw [qf2, qf1, qf1]
      grind
  · obtain ⟨g, h, k, rfl, g1, g2, g3, g4, g5, g6, g7⟩ := lf2 hG
    have e : besideM [[a]] [[g, h], [h, k]] = [[a, 0, 0], [0, g, h], [0, h, k]] := rfl
    rw [e]
    refine ⟨bs3 h1 h2 g1 g2 g3 g4 g5 g6 g7, fun x p hp => ?_⟩
    match p, hp with
    | [y, z], _ =>
      rw [qf3, qf1, qf2]
      grind
theorem flat_len {α β : Type} (f : α → List β) (B : Nat) : ∀ l : List α, (∀ a ∈ l, (f a).length = B) → (l.flatMap f).length = l.length * B
  | [], _ => by simp
  | a :: l, h => by
    have := flat_len f B l fun x hx => h x (List.mem_cons_of_mem _ hx)
    have h1 := h a List.mem_cons_self
    rw [List.flatMap_cons, List.length_append, List.length_cons, Nat.succ_mul]
    omega
section
variable {m b : Nat} {F G : List (List Int)}
theorem bs_one (hF : LF 1 F) (hG : LF m G) (hm : m ≤ 2) {l i : Nat} (hl : l ≤ b) (hi : i ≤ l) : (((pbM (1 + m) (besideM F G) b).countP fun q => decide (q.2 = (l : Int)) && decide (qf F [q.1.headD 0] = (i : Int)) : Nat) : Int) = (cntM 1 F b).getD i 0 * (cntM m G b).getD (l - i) 0 := by
  obtain ⟨hH, hq⟩ := beside_LF hF hG hm
  rw [cnt_get i (by omega), cnt_get (l - i) (by omega), List.countP_eq_length_filter, List.countP_eq_length_filter, List.countP_eq_length_filter, ← Int.natCast_mul]
  congr 1
  have e := flat_len (fun a : List Int × Int => ((pbM m G b).filter fun q => decide (q.2 = ((l - i : Nat) : Int))).map fun c : List Int × Int => (a.1 ++ c.1, (l : Int))) ((pbM m G b).filter fun q => decide (q.2 = ((l - i : Nat) : Int))).length ((pbM 1 F b).filter fun q => decide (q.2 = (i : Int))) fun a _ => List.length_map _
  rw [← e]
  have memA : ∀ q, q ∈ (pbM 1 F b).filter (fun q => decide (q.2 = (i : Int))) ↔ q.1.length = 1 ∧ q.2 = qf F q.1 ∧ q.2 = (i : Int) := fun q => by
    rw [List.mem_filter, decide_eq_true_eq, show q = (q.1, q.2) from rfl, pb_mem hF]
    constructor
    · rintro ⟨⟨e1, e2, e3⟩, e4⟩
      exact ⟨e1, e2, e4⟩
    · rintro ⟨e1, e2, e4⟩
      simp only at e1 e2 e4
      exact ⟨⟨e1, e2, by omega⟩, e4⟩
  have memB : ∀ q, q ∈ (pbM m G b).filter (fun q => decide (q.2 = ((l - i : Nat) : Int))) ↔ q.1.length = m ∧ q.2 = qf G q.1 ∧ q.2 = ((l - i : Nat) : Int) := fun q => by
    rw [List.mem_filter, decide_eq_true_eq, show q = (q.1, q.2) from rfl, pb_mem hG]
    constructor
    · rintro ⟨⟨e1, e2, e3⟩, e4⟩
      exact ⟨e1, e2, e4⟩
    · rintro ⟨e1, e2, e4⟩
      simp only at e1 e2 e4
      exact ⟨⟨e1, e2, by omega⟩, e4⟩
  have ndA : ((pbM 1 F b).filter fun q => decide (q.2 = (i : Int))).Nodup := filt_nodup _ pb_nodup
  have ndB : ((pbM m G b).filter fun q => decide (q.2 = ((l - i : Nat) : Int))).Nodup := filt_nodup _ pb_nodup
  generalize (pbM 1 F b).filter (fun q => decide (q.2 = (i : Int))) = A at *
  generalize (pbM m G b).filter (fun q => decide (q.2 = ((l - i : Nat) : Int))) = C at *
  have nd2 : (A.flatMap fun a : List Int × Int => C.map fun c : List Int × Int => (a.1 ++ c.1, (l : Int))).Nodup := by
    show List.Pairwise _ _
    rw [List.pairwise_flatMap]
    refine ⟨fun a _ => ?_, ?_⟩
    · rw [List.pairwise_map]
      refine List.Pairwise.imp_of_mem (fun {c d} hc hd hne e => hne ?_) ndB
      have e1 := List.append_cancel_left (Prod.mk.inj e).1
      exact Prod.ext e1 (by rw [((memB c).mp hc).2.2, ((memB d).mp hd).2.2])
    · refine List.Pairwise.imp_of_mem (fun {c d} hc hd hne x hx y hy e => hne ?_) ndA
      obtain ⟨u, _, rfl⟩ := List.mem_map.mp hx
      obtain ⟨v, _, rfl⟩ := List.mem_map.mp hy
      have e1 := (List.append_inj (Prod.mk.inj e).1 (by rw [((memA c).mp hc).1, ((memA d).mp hd).1])).1
      exact Prod.ext e1 (by rw [((memA c).mp hc).2.2, ((memA d).mp hd).2.2])
  refine List.Perm.length_eq ((List.perm_ext_iff_of_nodup (filt_nodup _ pb_nodup) nd2).mpr fun q => ?_)
  obtain ⟨p, t⟩ := q
  rw [List.mem_filter, pb_mem hH, Bool.and_eq_true, decide_eq_true_eq, decide_eq_true_eq, List.mem_flatMap]
  constructor
  · rintro ⟨⟨e1, e2, e3⟩, e4, e5⟩
    simp only at e4 e5
    match p, e1 with
    | [], e1 =>
      rw [List.length_nil] at e1
      omega
    | x :: p', e1 =>
      have e1 : p'.length = m := by rw [List.length_cons] at e1; omega
      have e6 := hq x p' e1
      have e5 : qf F [x] = (i : Int) := e5
      refine ⟨([x], (i : Int)), (memA _).mpr ⟨rfl, e5.symm, rfl⟩, List.mem_map.mpr ⟨(p', ((l - i : Nat) : Int)), (memB _).mpr ⟨e1, ?_, rfl⟩, ?_⟩⟩
      · show ((l - i : Nat) : Int) = qf G p'
        omega
      · rw [e4]
        rfl
  · rintro ⟨⟨pa, ta⟩, ha, hc⟩
    obtain ⟨⟨pc, tc⟩, hc, e⟩ := List.mem_map.mp hc
    obtain ⟨a1, a2, a3⟩ := (memA _).mp ha
    obtain ⟨c1, c2, c3⟩ := (memB _).mp hc
    simp only at a1 a2 a3 c1 c2 c3
    obtain ⟨e1, e2⟩ := Prod.mk.inj e
    simp only at e1 e2
    match pa, a1 with
    | [x], _ =>
      have e1 : x :: pc = p := e1
      have e6 := hq x pc c1
      rw [e1] at e6
      refine ⟨⟨by rw [← e1, List.length_cons, c1]; omega, by omega, by omega⟩, e2.symm, ?_⟩
      rw [← e1]
      show qf F [x] = _
      omega
theorem bs_ok (m : Nat) (F G : List (List Int)) (b : Nat) (hF : LF 1 F) (hG : LF m G) (hm : m ≤ 2) (hb : b ≤ 10) : BSOk 1 m F G b := by
  obtain ⟨hH, hq⟩ := beside_LF hF hG hm
  refine ⟨by omega, hF.fo, hG.fo, pb_ok hF (by omega), pb_ok hG (by omega), pb_ok hH (by omega), ?_⟩
  have e1 : cntM (1 + m) (besideM F G) b = (List.range (b + 1)).map fun (l : Nat) => (((pbM (1 + m) (besideM F G) b).countP fun q => decide (q.2 = (l : Int)) : Nat) : Int) := rfl
  rw [e1]
  unfold convM
  rw [cnt_len, cnt_len, Nat.min_self]
  refine List.map_congr_left fun l hl => ?_
  have hl := List.mem_range.mp hl
  have hp := part ((List.range (l + 1)).map fun (i : Nat) => (i : Int)) ?_ (fun q : List Int × Int => qf F [q.1.headD 0]) (fun q => decide (q.2 = (l : Int))) (pbM (1 + m) (besideM F G) b) fun q hqm hP => ?_
  · rw [← hp, List.map_map]
    unfold convE
    exact sum_congr fun i hi => bs_one hF hG hm (by omega) (by have := List.mem_range.mp hi; omega)
  · show List.Pairwise _ _
    rw [List.pairwise_map]
    exact List.Pairwise.imp (fun h e => h (by omega)) List.nodup_range
  · obtain ⟨k1, k2, k3⟩ := (pb_mem hH (p := q.1) (i := q.2)).mp hqm
    have hP := of_decide_eq_true hP
    obtain ⟨p, t⟩ := q
    simp only at k1 k2 k3 hP
    match p, k1 with
    | [], k1 =>
      rw [List.length_nil] at k1
      omega
    | x :: p', k1 =>
      have k1 : p'.length = m := by rw [List.length_cons] at k1; omega
      have k4 := hq x p' k1
      have k5 := qf_nonneg hF (p := [x]) rfl
      have k6 := qf_nonneg hG k1
      exact List.mem_map.mpr ⟨(qf F [x]).toNat, List.mem_range.mpr (by omega), by show ((qf F [x]).toNat : Int) = qf F [x]; omega⟩
end
end Lc

namespace Lc
open PySem PySem.Spec PyProof.Rows L2
/-! ### the head -/
def d_is_whole : He.DefD := ⟨("is_whole", none), "is_whole", "is_whole", defArgs s_is_whole, defBody s_is_whole, defScope s_is_whole, [], []⟩
def d_are_wholes : He.DefD := ⟨("are_wholes", none), "are_wholes", "are_wholes", defArgs s_are_wholes, defBody s_are_wholes, defScope s_are_wholes, [], []⟩
def d_common_part : He.DefD := ⟨("common_part", none), "common_part", "common_part", defArgs s_common_part, defBody s_common_part, defScope s_common_part, [], []⟩
def d_fit : He.DefD := ⟨("fit", none), "fit", "fit", defArgs s_fit, defBody s_fit, defScope s_fit, [], []⟩
def d_is_fraction : He.DefD := ⟨("is_fraction", none), "is_fraction", "is_fraction", defArgs s_is_fraction, defBody s_is_fraction, defScope s_is_fraction, [], []⟩
def d_plus : He.DefD := ⟨("plus", none), "plus", "plus", defArgs s_plus, defBody s_plus, defScope s_plus, [], []⟩
def d_minus : He.DefD := ⟨("minus", none), "minus", "minus", defArgs s_minus, defBody s_minus, defScope s_minus, [], []⟩
def d_times : He.DefD := ⟨("times", none), "times", "times", defArgs s_times, defBody s_times, defScope s_times, [], []⟩
def d_over : He.DefD := ⟨("over", none), "over", "over", defArgs s_over, defBody s_over, defScope s_over, [], []⟩
def d_is_less : He.DefD := ⟨("is_less", none), "is_less", "is_less", defArgs s_is_less, defBody s_is_less, defScope s_is_less, [], []⟩
def d_summed : He.DefD := ⟨("summed", none), "summed", "summed", defArgs s_summed, defBody s_summed, defScope s_summed, [], []⟩
def d_in_order : He.DefD := ⟨("in_order", none), "in_order", "in_order", defArgs s_in_order, defBody s_in_order, defScope s_in_order, [], []⟩
def d_root : He.DefD := ⟨("root", none), "root", "root", defArgs s_root, defBody s_root, defScope s_root, [], []⟩
def d_worth : He.DefD := ⟨("worth", none), "worth", "worth", defArgs s_worth, defBody s_worth, defScope s_worth, [], []⟩
def d_is_square : He.DefD := ⟨("is_square", none), "is_square", "is_square", defArgs s_is_square, defBody s_is_square, defScope s_is_square, [], []⟩
def d_tells_lengths : He.DefD := ⟨("tells_lengths", none), "tells_lengths", "tells_lengths", defArgs s_tells_lengths, defBody s_tells_lengths, defScope s_tells_lengths, [], []⟩
def d_check_form : He.DefD := ⟨("check_form", none), "check_form", "check_form", defArgs s_check_form, defBody s_check_form, defScope s_check_form, [], []⟩
def d_check_bound : He.DefD := ⟨("check_bound", none), "check_bound", "check_bound", defArgs s_check_bound, defBody s_check_bound, defScope s_check_bound, [], []⟩
def d_product : He.DefD := ⟨("product", none), "product", "product", defArgs s_product, defBody s_product, defScope s_product, [], []⟩
def d_determinant : He.DefD := ⟨("determinant", none), "determinant", "determinant", defArgs s_determinant, defBody s_determinant, defScope s_determinant, [], []⟩
def d_squares : He.DefD := ⟨("squares", none), "squares", "squares", defArgs s_squares, defBody s_squares, defScope s_squares, [], []⟩
def d_squares_of : He.DefD := ⟨("squares_of", none), "squares_of", "squares_of", defArgs s_squares_of, defBody s_squares_of, defScope s_squares_of, [], []⟩
def d_reach : He.DefD := ⟨("reach", none), "reach", "reach", defArgs s_reach, defBody s_reach, defScope s_reach, [], []⟩
def d_ends : He.DefD := ⟨("ends", none), "ends", "ends", defArgs s_ends, defBody s_ends, defScope s_ends, [], []⟩
def d_points_near : He.DefD := ⟨("points_near", none), "points_near", "points_near", defArgs s_points_near, defBody s_points_near, defScope s_points_near, [], []⟩
def d_is_spot : He.DefD := ⟨("is_spot", none), "is_spot", "is_spot", defArgs s_is_spot, defBody s_is_spot, defScope s_is_spot, [], []⟩
def d_check_spot : He.DefD := ⟨("check_spot", none), "check_spot", "check_spot", defArgs s_check_spot, defBody s_check_spot, defScope s_check_spot, [], []⟩
def d_check_part : He.DefD := ⟨("check_part", none), "check_part", "check_part", defArgs s_check_part, defBody s_check_part, defScope s_check_part, [], []⟩
def d_all_rests : He.DefD := ⟨("all_rests", none), "all_rests", "all_rests", defArgs s_all_rests, defBody s_all_rests, defScope s_all_rests, [], []⟩
def d_from_spot : He.DefD := ⟨("from_spot", none), "from_spot", "from_spot", defArgs s_from_spot, defBody s_from_spot, defScope s_from_spot, [], []⟩
def d_by_rests : He.DefD := ⟨("by_rests", none), "by_rests", "by_rests", defArgs s_by_rests, defBody s_by_rests, defScope s_by_rests, [], []⟩
def d_changed_by : He.DefD := ⟨("changed_by", none), "changed_by", "changed_by", defArgs s_changed_by, defBody s_changed_by, defScope s_changed_by, [], []⟩
def d_row_led : He.DefD := ⟨("row_led", none), "row_led", "row_led", defArgs s_row_led, defBody s_row_led, defScope s_row_led, [], []⟩
def d_one_behind : He.DefD := ⟨("one_behind", none), "one_behind", "one_behind", defArgs s_one_behind, defBody s_one_behind, defScope s_one_behind, [], []⟩
def d_next_change : He.DefD := ⟨("next_change", none), "next_change", "next_change", defArgs s_next_change, defBody s_next_change, defScope s_next_change, [], []⟩
def d_gone_down : He.DefD := ⟨("gone_down", none), "gone_down", "gone_down", defArgs s_gone_down, defBody s_gone_down, defScope s_gone_down, [], []⟩
def d_points_by : He.DefD := ⟨("points_by", none), "points_by", "points_by", defArgs s_points_by, defBody s_points_by, defScope s_points_by, [], []⟩
def d_check_both : He.DefD := ⟨("check_both", none), "check_both", "check_both", defArgs s_check_both, defBody s_check_both, defScope s_check_both, [], []⟩
def d_points_at : He.DefD := ⟨("points_at", none), "points_at", "points_at", defArgs s_points_at, defBody s_points_at, defScope s_points_at, [], []⟩
def d_points_to : He.DefD := ⟨("points_to", none), "points_to", "points_to", defArgs s_points_to, defBody s_points_to, defScope s_points_to, [], []⟩
def d_tallied : He.DefD := ⟨("tallied", none), "tallied", "tallied", defArgs s_tallied, defBody s_tallied, defScope s_tallied, [], []⟩
def d_counts_to : He.DefD := ⟨("counts_to", none), "counts_to", "counts_to", defArgs s_counts_to, defBody s_counts_to, defScope s_counts_to, [], []⟩
def d_is_bare : He.DefD := ⟨("is_bare", none), "is_bare", "is_bare", defArgs s_is_bare, defBody s_is_bare, defScope s_is_bare, [], []⟩
def d_bare_counts : He.DefD := ⟨("bare_counts", none), "bare_counts", "bare_counts", defArgs s_bare_counts, defBody s_bare_counts, defScope s_bare_counts, [], []⟩
def d_shortest : He.DefD := ⟨("shortest", none), "shortest", "shortest", defArgs s_shortest, defBody s_shortest, defScope s_shortest, [], []⟩
def d_box_holds : He.DefD := ⟨("box_holds", none), "box_holds", "box_holds", defArgs s_box_holds, defBody s_box_holds, defScope s_box_holds, [], []⟩
def d_points_hold : He.DefD := ⟨("points_hold", none), "points_hold", "points_hold", defArgs s_points_hold, defBody s_points_hold, defScope s_points_hold, [], []⟩
def d_beside : He.DefD := ⟨("beside", none), "beside", "beside", defArgs s_beside, defBody s_beside, defScope s_beside, [], []⟩
def d_stretched : He.DefD := ⟨("stretched", none), "stretched", "stretched", defArgs s_stretched, defBody s_stretched, defScope s_stretched, [], []⟩
def d_rests_table : He.DefD := ⟨("rests_table", none), "rests_table", "rests_table", defArgs s_rests_table, defBody s_rests_table, defScope s_rests_table, [], []⟩
def d_other_form : He.DefD := ⟨("other_form", none), "other_form", "other_form", defArgs s_other_form, defBody s_other_form, defScope s_other_form, [], []⟩
def d_counts_joined : He.DefD := ⟨("counts_joined", none), "counts_joined", "counts_joined", defArgs s_counts_joined, defBody s_counts_joined, defScope s_counts_joined, [], []⟩
def d__law_cell : He.DefD := ⟨("_law_cell", none), "_law_cell", "_law_cell", defArgs s__law_cell, defBody s__law_cell, defScope s__law_cell, [], []⟩
def d__law_pen : He.DefD := ⟨("_law_pen", none), "_law_pen", "_law_pen", defArgs s__law_pen, defBody s__law_pen, defScope s__law_pen, [], []⟩
def d__law_draw : He.DefD := ⟨("_law_draw", none), "_law_draw", "_law_draw", defArgs s__law_draw, defBody s__law_draw, defScope s__law_draw, [], []⟩
def d__law_whole : He.DefD := ⟨("_law_whole", none), "_law_whole", "_law_whole", defArgs s__law_whole, defBody s__law_whole, defScope s__law_whole, [], []⟩
def d__law_less : He.DefD := ⟨("_law_less", none), "_law_less", "_law_less", defArgs s__law_less, defBody s__law_less, defScope s__law_less, [], []⟩
def d__law_worth : He.DefD := ⟨("_law_worth", none), "_law_worth", "_law_worth", defArgs s__law_worth, defBody s__law_worth, defScope s__law_worth, [], []⟩
def d__law_tells : He.DefD := ⟨("_law_tells", none), "_law_tells", "_law_tells", defArgs s__law_tells, defBody s__law_tells, defScope s__law_tells, [], []⟩
def d__law_form : He.DefD := ⟨("_law_form", none), "_law_form", "_law_form", defArgs s__law_form, defBody s__law_form, defScope s__law_form, [], []⟩
def d__law_small : He.DefD := ⟨("_law_small", none), "_law_small", "_law_small", defArgs s__law_small, defBody s__law_small, defScope s__law_small, [], []⟩
def d__law_counts_right : He.DefD := ⟨("_law_counts_right", none), "_law_counts_right", "_law_counts_right", defArgs s__law_counts_right, defBody s__law_counts_right, defScope s__law_counts_right, [], []⟩
def d__law_form_right : He.DefD := ⟨("_law_form_right", none), "_law_form_right", "_law_form_right", defArgs s__law_form_right, defBody s__law_form_right, defScope s__law_form_right, [], []⟩
def d_law : He.DefD := ⟨("law", none), "law", "law", defArgs s_law, defBody s_law, defScope s_law, [], []⟩
def fnL0 : List He.DefD := [d_is_whole, d_are_wholes, d_common_part, d_fit, d_is_fraction, d_plus, d_minus, d_times, d_over, d_is_less, d_summed, d_in_order, d_root, d_worth, d_is_square, d_tells_lengths, d_check_form, d_check_bound, d_product, d_determinant]
def fnL1 : List He.DefD := [d_squares, d_squares_of, d_reach, d_ends, d_points_near, d_is_spot, d_check_spot, d_check_part, d_all_rests, d_from_spot, d_by_rests, d_changed_by, d_row_led, d_one_behind, d_next_change, d_gone_down, d_points_by, d_check_both, d_points_at, d_points_to]
def fnL2 : List He.DefD := [d_tallied, d_counts_to, d_is_bare, d_bare_counts, d_shortest, d_box_holds, d_points_hold, d_beside, d_stretched, d_rests_table, d_other_form, d_counts_joined, d__law_cell, d__law_pen, d__law_draw, d__law_whole, d__law_less, d__law_worth, d__law_tells, d__law_form]
def fnL3 : List He.DefD := [d__law_small, d__law_counts_right, d__law_form_right, d_law]
def fnL : List He.DefD := fnL0 ++ fnL1 ++ fnL2 ++ fnL3
def faL0 : List He.Fa := [.glo "is_whole", .glo "are_wholes", .glo "common_part", .glo "fit", .glo "is_fraction", .glo "plus", .glo "minus", .glo "times", .glo "over", .glo "is_less", .glo "summed", .glo "in_order", .glo "root", .glo "worth", .glo "is_square", .glo "tells_lengths", .glo "check_form", .glo "check_bound", .glo "product", .glo "determinant"]
def faL1 : List He.Fa := [.glo "squares", .glo "squares_of", .glo "reach", .glo "ends", .glo "points_near", .glo "is_spot", .glo "check_spot", .glo "check_part", .glo "all_rests", .glo "from_spot", .glo "by_rests", .glo "changed_by", .glo "row_led", .glo "one_behind", .glo "next_change", .glo "gone_down", .glo "points_by", .glo "check_both", .glo "points_at", .glo "points_to"]
def faL2 : List He.Fa := [.glo "tallied", .glo "counts_to", .glo "is_bare", .glo "bare_counts", .glo "shortest", .glo "box_holds", .glo "points_hold", .glo "beside", .glo "stretched", .glo "rests_table", .glo "other_form", .glo "counts_joined", .glo "_law_cell", .glo "_law_pen", .glo "_law_draw", .glo "_law_whole", .glo "_law_less", .glo "_law_worth", .glo "_law_tells", .glo "_law_form"]
def faL3 : List He.Fa := [.glo "_law_small", .glo "_law_counts_right", .glo "_law_form_right", .glo "law", .free "isinstance", .free "int", .free "bool", .free "tuple", .free "list", .free "len", .free "all", .free "any", .free "abs", .free "range", .free "zip", .free "enumerate", .free "sum", .free "sorted", .free "min", .free "max"]
def faL4 : List He.Fa := [.free "dict", .free "divmod", .int "MOST_SIZE" 3, .glo "SAME"]
def faL : List He.Fa := faL0 ++ faL1 ++ faL2 ++ faL3 ++ faL4
def namesL0 : List PySem.Str := ["LengthError", "NoForm", "NoSpot", "NoNumber", "TooGreat", "is_whole", "are_wholes", "common_part", "fit", "is_fraction", "plus", "minus", "times", "over", "is_less", "summed", "in_order", "root", "MOST_SIZE", "worth"]
def namesL1 : List PySem.Str := ["is_square", "tells_lengths", "check_form", "check_bound", "product", "determinant", "squares", "squares_of", "reach", "ends", "points_near", "is_spot", "check_spot", "check_part", "all_rests", "from_spot", "by_rests", "changed_by", "row_led", "one_behind"]
def namesL2 : List PySem.Str := ["SAME", "next_change", "gone_down", "points_by", "check_both", "points_at", "points_to", "tallied", "counts_to", "is_bare", "bare_counts", "shortest", "box_holds", "points_hold", "beside", "stretched", "rests_table", "other_form", "counts_joined", "_law_cell"]
def namesL3 : List PySem.Str := ["_law_pen", "_law_draw", "_law_whole", "_law_less", "_law_worth", "_law_tells", "_law_form", "_law_small", "_law_counts_right", "_law_form_right"]
def namesL : List PySem.Str := namesL0 ++ namesL1 ++ namesL2 ++ namesL3

/-- the items of a tuple that the top made -/
def itemsAt (K : PySem.W.Frag) (a : Addr) : Option (List Value) := match K.lookup a with
  | some ⟨.type c, _, .seq its _, _⟩ => if c = "tuple" ∧ its.size ≤ sizeLine then some its.toList else none
  | _ => none
theorem itemsAt_ok {K : PySem.W.Frag} {a : Addr} {us : List Value} {xs : List V} (h : itemsAt K a = some us) (r : Vals xs us) (H : Hp) : SqT K H a xs := by
  unfold itemsAt at h
  cases q : K.lookup a with
  | none => rw [q] at h; cases h
  | some ob =>
    obtain ⟨oc, od, dt, osl⟩ := ob
    rw [q] at h
    cases oc with
    | type c =>
      cases dt with
      | seq its n =>
        have h : (if c = "tuple" ∧ its.size ≤ sizeLine then some its.toList else none) = some us := h
        split at h
        · rename_i hc
          cases h
          exact .inr ⟨_, its, n, q, congrArg Value.type hc.1, rfl, hc.2, r⟩
        · cases h
      | _ => cases h
    | _ => cases dt <;> cases h
def isI (i : Int) : Value → Bool
  | .int j _ => decide (j = i)
  | _ => false
theorem isI_ok {i : Int} {v : Value} (h : isI i v = true) : RelV (.int i) v := by
  cases v with
  | int j t =>
    have : j = i := of_decide_eq_true h
    subst this
    exact ⟨t, rfl⟩
  | _ => cases h
def pairB (K : PySem.W.Frag) (a : Addr) (i j : Int) : Bool := match itemsAt K a with
  | some [u, v] => isI i u && isI j v
  | _ => false
theorem pairB_ok {K : PySem.W.Frag} {a : Addr} {i j : Int} (h : pairB K a i j = true) (H : Hp) : SqT K H a [.int i, .int j] := by
  unfold pairB at h
  cases q : itemsAt K a with
  | none => rw [q] at h; cases h
  | some us =>
    rw [q] at h
    match us, h, q with
    | [u, v], h, q =>
      have h : (isI i u && isI j v) = true := h
      rw [Bool.and_eq_true] at h
      exact itemsAt_ok q (.cons (isI_ok h.1) (.cons (isI_ok h.2) .nil)) H
def sameB (K : PySem.W.Frag) : Bool := match itemsAt K (He.ga K "SAME") with
  | some [.ref b, .ref c] => pairB K b 1 0 && pairB K c 0 1
  | _ => false
theorem sameB_ok {K : PySem.W.Frag} (h : sameB K = true) : ∃ b c, (∀ H, SqT K H (He.ga K "SAME") [.ref b, .ref c]) ∧ (∀ H, SqT K H b [.int 1, .int 0]) ∧ (∀ H, SqT K H c [.int 0, .int 1]) := by
  unfold sameB at h
  split at h
  · rename_i b c q
    rw [Bool.and_eq_true] at h
    exact ⟨b, c, fun H => itemsAt_ok q (.cons (show RelV (.ref b) (.ref b) from rfl) (.cons (show RelV (.ref c) (.ref c) from rfl) .nil)) H, pairB_ok h.1, pairB_ok h.2⟩
  · cases h
abbrev rowR : PySem.W.OpenRow := PySem.W.OpenLaw.row PySem.Challenge.rw_lengthcounts_k80_whole_counts_of_all_way
def hk : PySem.W.Hook where
  α := He.AlD × Bool
  obs := fun s => (He.obsDG 4 faL fnL s.heap.get?, sameB (He.frG s.heap.get? (He.asD s.heap.get? 4)))
  val := fun _ => (He.valD fnL, true)
  says := fun _ h => ∃ K : PySem.W.Frag, K.In h ∧ He.SaysD faL fnL K ∧ sameB K = true
  of := fun _ s e => ⟨He.frG s.heap.get? (He.asD s.heap.get? 4), He.frG_in, (Prod.mk.inj e).1, (Prod.mk.inj e).2⟩
  keeps := fun _ _ _ ⟨K, hK, c⟩ k => ⟨K, PySem.W.Frag.In.keeps hK k, c⟩
def ob (s : PySem.W.SharedT) : He.AlD × Bool := (He.obsDG 4 faL fnL (HandSHeadRun.getT s), sameB (He.frG (HandSHeadRun.getT s) (He.asD (HandSHeadRun.getT s) 4)))
theorem ob_eq (s : PySem.W.SharedT) : ob s = hk.obs s.abs := by
  have e : HandSHeadRun.getT s = s.abs.heap.get? := funext fun a => HandSHeadRun.getT_eq s a
  unfold ob
  rw [e]
  rfl
theorem run (w : World) : HandSHeadRun.RunEq rowR (PySem.W.view rowR.prog [83]) hk ob 4000 namesL w := by
  intro os
  kernel_rfl
theorem tx_of {K : PySem.W.Frag} {h : Heap} {mg : Str → Option Value} (X : K.In h) (G : h.Ns mainGlobals mg) (c : He.SaysD faL fnL K) (hs : sameB K = true) : Tx K mg where
  f_is_whole := ⟨c.def_ 0 (d := d_is_whole) rfl, He.glo_ok X G (c.fact 0 (f := .glo "is_whole") rfl)⟩
  f_are_wholes := ⟨c.def_ 1 (d := d_are_wholes) rfl, He.glo_ok X G (c.fact 1 (f := .glo "are_wholes") rfl)⟩
  f_common_part := ⟨c.def_ 2 (d := d_common_part) rfl, He.glo_ok X G (c.fact 2 (f := .glo "common_part") rfl)⟩
  f_fit := ⟨c.def_ 3 (d := d_fit) rfl, He.glo_ok X G (c.fact 3 (f := .glo "fit") rfl)⟩
  f_is_fraction := ⟨c.def_ 4 (d := d_is_fraction) rfl, He.glo_ok X G (c.fact 4 (f := .glo "is_fraction") rfl)⟩
  f_plus := ⟨c.def_ 5 (d := d_plus) rfl, He.glo_ok X G (c.fact 5 (f := .glo "plus") rfl)⟩
  f_minus := ⟨c.def_ 6 (d := d_minus) rfl, He.glo_ok X G (c.fact 6 (f := .glo "minus") rfl)⟩
  f_times := ⟨c.def_ 7 (d := d_times) rfl, He.glo_ok X G (c.fact 7 (f := .glo "times") rfl)⟩
  f_over := ⟨c.def_ 8 (d := d_over) rfl, He.glo_ok X G (c.fact 8 (f := .glo "over") rfl)⟩
  f_is_less := ⟨c.def_ 9 (d := d_is_less) rfl, He.glo_ok X G (c.fact 9 (f := .glo "is_less") rfl)⟩
  f_summed := ⟨c.def_ 10 (d := d_summed) rfl, He.glo_ok X G (c.fact 10 (f := .glo "summed") rfl)⟩
  f_in_order := ⟨c.def_ 11 (d := d_in_order) rfl, He.glo_ok X G (c.fact 11 (f := .glo "in_order") rfl)⟩
  f_root := ⟨c.def_ 12 (d := d_root) rfl, He.glo_ok X G (c.fact 12 (f := .glo "root") rfl)⟩
  f_worth := ⟨c.def_ 13 (d := d_worth) rfl, He.glo_ok X G (c.fact 13 (f := .glo "worth") rfl)⟩
  f_is_square := ⟨c.def_ 14 (d := d_is_square) rfl, He.glo_ok X G (c.fact 14 (f := .glo "is_square") rfl)⟩
  f_tells_lengths := ⟨c.def_ 15 (d := d_tells_lengths) rfl, He.glo_ok X G (c.fact 15 (f := .glo "tells_lengths") rfl)⟩
  f_check_form := ⟨c.def_ 16 (d := d_check_form) rfl, He.glo_ok X G (c.fact 16 (f := .glo "check_form") rfl)⟩
  f_check_bound := ⟨c.def_ 17 (d := d_check_bound) rfl, He.glo_ok X G (c.fact 17 (f := .glo "check_bound") rfl)⟩
  f_product := ⟨c.def_ 18 (d := d_product) rfl, He.glo_ok X G (c.fact 18 (f := .glo "product") rfl)⟩
  f_determinant := ⟨c.def_ 19 (d := d_determinant) rfl, He.glo_ok X G (c.fact 19 (f := .glo "determinant") rfl)⟩
  f_squares := ⟨c.def_ 20 (d := d_squares) rfl, He.glo_ok X G (c.fact 20 (f := .glo "squares") rfl)⟩
  f_squares_of := ⟨c.def_ 21 (d := d_squares_of) rfl, He.glo_ok X G (c.fact 21 (f := .glo "squares_of") rfl)⟩
  f_reach := ⟨c.def_ 22 (d := d_reach) rfl, He.glo_ok X G (c.fact 22 (f := .glo "reach") rfl)⟩
  f_ends := ⟨c.def_ 23 (d := d_ends) rfl, He.glo_ok X G (c.fact 23 (f := .glo "ends") rfl)⟩
  f_points_near := ⟨c.def_ 24 (d := d_points_near) rfl, He.glo_ok X G (c.fact 24 (f := .glo "points_near") rfl)⟩
  f_is_spot := ⟨c.def_ 25 (d := d_is_spot) rfl, He.glo_ok X G (c.fact 25 (f := .glo "is_spot") rfl)⟩
  f_check_spot := ⟨c.def_ 26 (d := d_check_spot) rfl, He.glo_ok X G (c.fact 26 (f := .glo "check_spot") rfl)⟩
  f_check_part := ⟨c.def_ 27 (d := d_check_part) rfl, He.glo_ok X G (c.fact 27 (f := .glo "check_part") rfl)⟩
  f_all_rests := ⟨c.def_ 28 (d := d_all_rests) rfl, He.glo_ok X G (c.fact 28 (f := .glo "all_rests") rfl)⟩
  f_from_spot := ⟨c.def_ 29 (d := d_from_spot) rfl, He.glo_ok X G (c.fact 29 (f := .glo "from_spot") rfl)⟩
  f_by_rests := ⟨c.def_ 30 (d := d_by_rests) rfl, He.glo_ok X G (c.fact 30 (f := .glo "by_rests") rfl)⟩
  f_changed_by := ⟨c.def_ 31 (d := d_changed_by) rfl, He.glo_ok X G (c.fact 31 (f := .glo "changed_by") rfl)⟩
  f_row_led := ⟨c.def_ 32 (d := d_row_led) rfl, He.glo_ok X G (c.fact 32 (f := .glo "row_led") rfl)⟩
  f_one_behind := ⟨c.def_ 33 (d := d_one_behind) rfl, He.glo_ok X G (c.fact 33 (f := .glo "one_behind") rfl)⟩
  f_next_change := ⟨c.def_ 34 (d := d_next_change) rfl, He.glo_ok X G (c.fact 34 (f := .glo "next_change") rfl)⟩
  f_gone_down := ⟨c.def_ 35 (d := d_gone_down) rfl, He.glo_ok X G (c.fact 35 (f := .glo "gone_down") rfl)⟩
  f_points_by := ⟨c.def_ 36 (d := d_points_by) rfl, He.glo_ok X G (c.fact 36 (f := .glo "points_by") rfl)⟩
  f_check_both := ⟨c.def_ 37 (d := d_check_both) rfl, He.glo_ok X G (c.fact 37 (f := .glo "check_both") rfl)⟩
  f_points_at := ⟨c.def_ 38 (d := d_points_at) rfl, He.glo_ok X G (c.fact 38 (f := .glo "points_at") rfl)⟩
  f_points_to := ⟨c.def_ 39 (d := d_points_to) rfl, He.glo_ok X G (c.fact 39 (f := .glo "points_to") rfl)⟩
  f_tallied := ⟨c.def_ 40 (d := d_tallied) rfl, He.glo_ok X G (c.fact 40 (f := .glo "tallied") rfl)⟩
  f_counts_to := ⟨c.def_ 41 (d := d_counts_to) rfl, He.glo_ok X G (c.fact 41 (f := .glo "counts_to") rfl)⟩
  f_is_bare := ⟨c.def_ 42 (d := d_is_bare) rfl, He.glo_ok X G (c.fact 42 (f := .glo "is_bare") rfl)⟩
  f_bare_counts := ⟨c.def_ 43 (d := d_bare_counts) rfl, He.glo_ok X G (c.fact 43 (f := .glo "bare_counts") rfl)⟩
  f_shortest := ⟨c.def_ 44 (d := d_shortest) rfl, He.glo_ok X G (c.fact 44 (f := .glo "shortest") rfl)⟩
  f_box_holds := ⟨c.def_ 45 (d := d_box_holds) rfl, He.glo_ok X G (c.fact 45 (f := .glo "box_holds") rfl)⟩
  f_points_hold := ⟨c.def_ 46 (d := d_points_hold) rfl, He.glo_ok X G (c.fact 46 (f := .glo "points_hold") rfl)⟩
  f_beside := ⟨c.def_ 47 (d := d_beside) rfl, He.glo_ok X G (c.fact 47 (f := .glo "beside") rfl)⟩
  f_stretched := ⟨c.def_ 48 (d := d_stretched) rfl, He.glo_ok X G (c.fact 48 (f := .glo "stretched") rfl)⟩
  f_rests_table := ⟨c.def_ 49 (d := d_rests_table) rfl, He.glo_ok X G (c.fact 49 (f := .glo "rests_table") rfl)⟩
  f_other_form := ⟨c.def_ 50 (d := d_other_form) rfl, He.glo_ok X G (c.fact 50 (f := .glo "other_form") rfl)⟩
  f_counts_joined := ⟨c.def_ 51 (d := d_counts_joined) rfl, He.glo_ok X G (c.fact 51 (f := .glo "counts_joined") rfl)⟩
  f__law_cell := ⟨c.def_ 52 (d := d__law_cell) rfl, He.glo_ok X G (c.fact 52 (f := .glo "_law_cell") rfl)⟩
  f__law_pen := ⟨c.def_ 53 (d := d__law_pen) rfl, He.glo_ok X G (c.fact 53 (f := .glo "_law_pen") rfl)⟩
  f__law_draw := ⟨c.def_ 54 (d := d__law_draw) rfl, He.glo_ok X G (c.fact 54 (f := .glo "_law_draw") rfl)⟩
  f__law_whole := ⟨c.def_ 55 (d := d__law_whole) rfl, He.glo_ok X G (c.fact 55 (f := .glo "_law_whole") rfl)⟩
  f__law_less := ⟨c.def_ 56 (d := d__law_less) rfl, He.glo_ok X G (c.fact 56 (f := .glo "_law_less") rfl)⟩
  f__law_worth := ⟨c.def_ 57 (d := d__law_worth) rfl, He.glo_ok X G (c.fact 57 (f := .glo "_law_worth") rfl)⟩
  f__law_tells := ⟨c.def_ 58 (d := d__law_tells) rfl, He.glo_ok X G (c.fact 58 (f := .glo "_law_tells") rfl)⟩
  f__law_form := ⟨c.def_ 59 (d := d__law_form) rfl, He.glo_ok X G (c.fact 59 (f := .glo "_law_form") rfl)⟩
  f__law_small := ⟨c.def_ 60 (d := d__law_small) rfl, He.glo_ok X G (c.fact 60 (f := .glo "_law_small") rfl)⟩
  f__law_counts_right := ⟨c.def_ 61 (d := d__law_counts_right) rfl, He.glo_ok X G (c.fact 61 (f := .glo "_law_counts_right") rfl)⟩
  f__law_form_right := ⟨c.def_ 62 (d := d__law_form_right) rfl, He.glo_ok X G (c.fact 62 (f := .glo "_law_form_right") rfl)⟩
  f_law := ⟨c.def_ 63 (d := d_law) rfl, He.glo_ok X G (c.fact 63 (f := .glo "law") rfl)⟩
  b_isinstance := He.free_ok X G (c.fact 64 (f := .free "isinstance") rfl)
  b_int := He.free_ok X G (c.fact 65 (f := .free "int") rfl)
  b_bool := He.free_ok X G (c.fact 66 (f := .free "bool") rfl)
  b_tuple := He.free_ok X G (c.fact 67 (f := .free "tuple") rfl)
  b_list := He.free_ok X G (c.fact 68 (f := .free "list") rfl)
  b_len := He.free_ok X G (c.fact 69 (f := .free "len") rfl)
  b_all := He.free_ok X G (c.fact 70 (f := .free "all") rfl)
  b_any := He.free_ok X G (c.fact 71 (f := .free "any") rfl)
  b_abs := He.free_ok X G (c.fact 72 (f := .free "abs") rfl)
  b_range := He.free_ok X G (c.fact 73 (f := .free "range") rfl)
  b_zip := He.free_ok X G (c.fact 74 (f := .free "zip") rfl)
  b_enumerate := He.free_ok X G (c.fact 75 (f := .free "enumerate") rfl)
  b_sum := He.free_ok X G (c.fact 76 (f := .free "sum") rfl)
  b_sorted := He.free_ok X G (c.fact 77 (f := .free "sorted") rfl)
  b_min := He.free_ok X G (c.fact 78 (f := .free "min") rfl)
  b_max := He.free_ok X G (c.fact 79 (f := .free "max") rfl)
  b_dict := He.free_ok X G (c.fact 80 (f := .free "dict") rfl)
  b_divmod := He.free_ok X G (c.fact 81 (f := .free "divmod") rfl)
  most := He.int_ok X G (c.fact 82 (f := .int "MOST_SIZE" 3) rfl)
  same := by
    obtain ⟨b, d, h1, h2, h3⟩ := sameB_ok hs
    exact ⟨_, b, d, He.glo_ok X G (c.fact 83 (f := .glo "SAME") rfl), h1, h2, h3⟩
end Lc

open PySem PySem.W PySem.Calls PyProof.Rows
theorem PySem.Challenge.cw_lengthcounts_k80_whole_counts_of_all_way_holds : PySem.Challenge.rw_lengthcounts_k80_whole_counts_of_all_way.Holds := by
  w_on; o_law
  refine HandSHeadRun.head_any (r := OpenLaw.row PySem.Challenge.rw_lengthcounts_k80_whole_counts_of_all_way) (q := view (OpenLaw.row PySem.Challenge.rw_lengthcounts_k80_whole_counts_of_all_way).prog [83]) (H := Lc.hk) (ob := Lc.ob) (M := 4000) (loose := Lc.namesL) (d := HandSHeadRun.topDef (OpenLaw.row PySem.Challenge.rw_lengthcounts_k80_whole_counts_of_all_way).prog 83) (kwd := []) Lc.ob_eq
    (by kernel_rfl) (fun s => by kernel_rfl) Lc.run (by kernel_rfl) (by kernel_rfl) (by kernel_rfl) (by rfl) (by first | assumption | decide +kernel) (by decide +kernel) ⟨rfl, rfl, rfl, rfl, rfl, by decide +kernel⟩ ?hw ?hc
  case hw => w_witness2
  case hc =>
    refine L2.walk_ofE (l := PySem.Challenge.rw_lengthcounts_k80_whole_counts_of_all_way) (n := 63) (k := 10) (x := "_law_script") (CX := L2.CX0) rfl (by decide) (by kernel_rfl) ⟨rfl, by decide, by decide⟩ ?F (fun _ _ _ _ z => z)
    intro w mg fa h Y G hmg0
    obtain ⟨K, KX, c, hs⟩ := Y
    have hmg : mg ("law" : PySem.Str) = some (.ref fa) := by
      have e : (HandSHeadRun.topDef (OpenLaw.row PySem.Challenge.rw_lengthcounts_k80_whole_counts_of_all_way).prog 83).name = ("law" : PySem.Str) := by kernel_rfl
      rw [← e]
      exact hmg0
    have T := Lc.tx_of KX G c hs
    obtain ⟨fd, F1⟩ := T.f_law.fd
    have e := hmg.symm.trans T.f_law.gl
    cases e
    have b := L2.FunD.bindsA (ps := ["_law_script"]) F1 fun _ _ _ _ _ _ us hl => match us, hl with | [_], _ => rfl
    refine ⟨K, fd, Lc.spF K Lc.S_law, KX, fun s v => b s [v] rfl, fun H a ns hl _ hS => ?_, fun base _ _ => Lc.ok_law T Lc.cr_ok Lc.fr_ok Lc.bs_ok F1⟩
    exact ⟨H, [Lc.scrD ns], L2.Same.refl H, .cons (.scr ns hS) .nil, ns, rfl, fun v G2 H2 _ hv => hv.bl_inv⟩
